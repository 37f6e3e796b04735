/- Neat regions: run. -/
import Derived.Test.YthefcjjgchekiaaGreatE7
set_option linter.unusedSimpArgs false
set_option linter.unusedVariables false
namespace Go.T
open Go Go.Proofs
set_option maxHeartbeats 4000000
set_option maxRecDepth 100000
def mapL (f : Vals [i33] → Vals [i33, i4]) : List (Val Y33) → Val Y50 → Val Y50 × Bool
  | [], r => (r, true)
  | c :: cs, r => bif (f (c, ())).2.1 then (bif (addV r (f (c, ())).1).2 then mapL f cs (addV r (f (c, ())).1).1 else failR) else failR
def mapV (f : Vals [i33] → Vals [i33, i4]) (x : Val Y50) : Val Y50 × Bool := mapL f x.2 (x.1, [])
def mapV_pre (p : Vals [i33] → Prop) (_ : Vals [i33] → Vals [i33, i4]) (x : Val Y50) : Prop := List.length (α := Val Y33) x.2 ≤ 12 ∧ ∀ c ∈ (x.2 : List (Val Y33)), p (c, ())
def gh144 : Gh := { r := i50, ps := [i33], qs := [i33, i4], rs := [i50, i4], pre := fun p f x => mapV_pre p f x, fn := fun f x => ((mapV f x).1, (mapV f x).2, ()) }
noncomputable def m144_l3 (N : HN [i33] [i33, i4]) (v1 : List (Val Y33)) (v2 : Int) (v4 : Int) (k0 : Int → (List (Val Y33)) → Option (Vals [i50, i4])) : Nat → Int → Int → (List (Val Y33)) → Option (Vals [i50, i4])
  | 0, _, _, _ => none
  | n + 1, v3, v5, v6 => bif (decide (v3 < v2)) then (chk (0 ≤ v3 ∧ v3 < (v1.length : Int)) (chk (N.pre ((v1.getD v3.toNat (dflt Y33)), ())) (bif (!((N.fn ((v1.getD v3.toNat (dflt Y33)), ())).2.1 : Bool)) then (some (((0 : Int), ([] : List (Val Y33))), false, ())) else (chk (addV_pre (v5, v6) ((N.fn ((v1.getD v3.toNat (dflt Y33)), ())).1)) (bif (!((addV_r (v5, v6) ((N.fn ((v1.getD v3.toNat (dflt Y33)), ())).1)) : Bool)) then (some (((0 : Int), ([] : List (Val Y33))), false, ())) else (m144_l3 N v1 v2 v4 k0 n (IntKind.i64.wrap (v3 + (1 : Int))) ((addV_v (v5, v6) ((N.fn ((v1.getD v3.toNat (dflt Y33)), ())).1)).1 : Int) ((addV_v (v5, v6) ((N.fn ((v1.getD v3.toNat (dflt Y33)), ())).1)).2 : List (Val Y33)))))))) else (k0 v5 v6)
noncomputable def m144 (N : HN [i33] [i33, i4]) (v0 : Val Y50) : Option (Vals [i50, i4]) := m144_l3 N (v0.2 : List (Val Y33)) ((v0.2 : List (Val Y33)).length : Int) (0 : Int) (fun (v9 : Int) (v10 : List (Val Y33)) => some ((v9, v10), true, ())) N (0 : Int) (v0.1 : Int) ([] : List (Val Y33))
def Γ144 : Gam := []
theorem Γ144_222 : Gam.get Γ144 222 = none := rfl
def nl144_3 : Nm := ⟨[false, true, false, false, true, false, true, false, false, false, false, false, false, false, false, false, true, true, true], [], true⟩
theorem nl144_3_zero : nl144_3.zero = true := rfl
theorem nl144_3_fix : nl144_3.fix = [] := rfl
theorem nl144_3_keep : nl144_3.keep = [false, true, false, false, true, false, true, false, false, false, false, false, false, false, false, false, true, true, true] := rfl
def nx144_0 : Nm := ⟨[false, false, false, false, true, false, true], [], true⟩
theorem nx144_0_zero : nx144_0.zero = true := rfl
theorem nx144_0_fix : nx144_0.fix = [] := rfl
theorem nx144_0_keep : nx144_0.keep = [false, false, false, false, true, false, true] := rfl
def sem144 (N : HN [i33] [i33, i4]) : Sem := fvSem N.fv [i33] [i33, i4] N.pre N.fn (hSem [(222, gb222)] [])
def tr144 : Nat → Tree := fun _ => .done
def lp144 : Nat → Nm := fun i => if i = 3 then nl144_3 else ⟨[], [], false⟩
def jn144 : Nat → Option Jn := fun _ => none
def ex144 : Nat → Option Nm := fun i => if i = 0 then some nx144_0 else none
def rg144 : Nat → Option Nm := fun _ => none
theorem p144 : plansOk tr144 (Tryz.f144.body.getD .skip) = true := by kernel_rfl
def T144 (N : HN [i33] [i33, i4]) : Tab := { tr := tr144, lp := lp144, ex := ex144, rg := rg144, jn := jn144, fuel := N, sem := sem144 N }
theorem T144_pins (N : HN [i33] [i33, i4]) : (T144 N).pins = false := rfl
theorem tb144 (N : HN [i33] [i33, i4]) : TbOk Tryz.prog (T144 N) := tb_none fun _ => rfl
theorem T144_sem (N : HN [i33] [i33, i4]) : (T144 N).sem = sem144 N := rfl
theorem T144_tr (N : HN [i33] [i33, i4]) (i : Nat) : (T144 N).tr i = tr144 i := rfl
theorem T144_lp (N : HN [i33] [i33, i4]) (i : Nat) : (T144 N).lp i = lp144 i := rfl
theorem T144_ex (N : HN [i33] [i33, i4]) (i : Nat) : (T144 N).ex i = ex144 i := rfl
theorem T144_rg (N : HN [i33] [i33, i4]) (i : Nat) : (T144 N).rg i = rg144 i := rfl
theorem T144_jn (N : HN [i33] [i33, i4]) (i : Nat) : (T144 N).jn i = jn144 i := rfl
theorem T144_fuel (N : HN [i33] [i33, i4]) : (T144 N).fuel = N := rfl
noncomputable def c144_3 : Code := cut [true, true, false, true, true, true] (Tryz.f144.body.getD .skip)
theorem c144_3_at {N : HN [i33] [i33, i4]} {Q : X → St → Option (Vals [i50, i4])} {e : List LV} {h : List Blk} : runT tt Γ144 (T144 N) c144_3 Q ⟨e, h⟩ = runT tt Γ144 (T144 N) (cut [true, true, false, true, true, true] (Tryz.f144.body.getD .skip)) Q ⟨e, h⟩ := rfl
theorem r144_l3 (N : HN [i33] [i33, i4]) (v1 : List (Val Y33)) (v2 : Int) (v4 : Int) {k0 : Int → (List (Val Y33)) → Option (Vals [i50, i4])} {Q : X → St → Option (Vals [i50, i4])} {c : Code} (hc : c = c144_3) (hret : ∀ st, Q .ret st = retS tt true [i50, i4] [.cell 4 50, .tmp 5] st) (h0 : ∀ (v7 : Int) (v8 : List (Val Y33)), Q (.exit 0) ⟨[u, u, u, u, .one (.ptr 0 0 0), u, .one (.ptr 1 0 0), u, u, u, u, u, u, u, u, u, u, u, u, u, u, u, u, u, u, u, u, u, u, u, u, u, u, u, u, u, u, u], [.box [.int .i64 v4, .nils], .box [.int .i64 v7, .own 2], .row 33 Y33 v8 true true 0]⟩ = k0 v7 v8) : ∀ (n : Nat) (v3 : Int) (v5 : Int) (v6 : List (Val Y33)), loopR (runT tt Γ144 (T144 N) c) false nl144_3 Q n ⟨[u, .one (.hdr N.fv), u, u, .one (.ptr 0 0 0), u, .one (.ptr 1 0 0), u, u, u, u, u, u, u, u, u, .one (.sl 33 Y33 v1 0), .one (.int .i64 v2), .one (.int .i64 v3), u, u, u, u, u, u, u, u, u, u, u, u, u, u, u, u, u, u, u], [.box [.int .i64 v4, .nils], .box [.int .i64 v5, .own 2], .row 33 Y33 v6 true true 0]⟩ = m144_l3 N v1 v2 v4 k0 n v3 v5 v6 := by
  subst hc; intro n; induction n with
  | zero => intros; rfl
  | succ n ih =>
    intro v3 v5 v6
    rw [loop_succ, c144_3_at, m144_l3]; unfold Tryz.f144
    simp (maxSteps := 10000000) -implicitDefEqProofs [T144_tr, tr144, T144_lp, lp144, T144_ex, ex144, T144_rg, rg144, T144_jn, jn144, T144_fuel, T144_pins, T144_sem, sem144, semR', Γ144_222, gb222, nl144_3_fix, nl144_3_keep, nl144_3_zero, nx144_0_fix, nx144_0_keep, nx144_0_zero, hret, h0, ih]
theorem run144 (N : HN [i33] [i33, i4]) (v0 : Val Y50) : runT tt Γ144 (T144 N) (Tryz.f144.body.getD .skip) (retR tt true [i50, i4] [.cell 4 50, .tmp 5]) (entryH i50 38 v0 N.fv) = m144 N v0 := by
  unfold Tryz.f144
  simp (maxSteps := 10000000) -implicitDefEqProofs [T144_tr, tr144, T144_lp, lp144, T144_ex, ex144, T144_rg, rg144, T144_jn, jn144, T144_fuel, T144_pins, T144_sem, sem144, semR', Γ144_222, gb222, nl144_3_fix, nl144_3_keep, nl144_3_zero, nx144_0_fix, nx144_0_keep, nx144_0_zero]
  rewrite [r144_l3 (k0 := (fun (v9 : Int) (v10 : List (Val Y33)) => some ((v9, v10), true, ()))) N _ _ _ ?_ ?_ ?_]
  · rewrite [m144]; first | rfl | simp (maxSteps := 10000000) -implicitDefEqProofs []
  · rfl
  · intro; simp only [seqR_ret, blockR_ret, retR_ret, retX_ret]
  · intro v9 v10; simp (maxSteps := 10000000) -implicitDefEqProofs [T144_tr, tr144, T144_lp, lp144, T144_ex, ex144, T144_rg, rg144, T144_jn, jn144, T144_fuel, T144_pins, T144_sem, sem144, semR', Γ144_222, gb222, nl144_3_fix, nl144_3_keep, nl144_3_zero, nx144_0_fix, nx144_0_keep, nx144_0_zero]
def idC (c : Val Y33) : Val Y33 × Bool := (c, true)
def gc211 : Gc [i33] [i33, i4] := { cs := [], pre := fun _ x => True, fn := fun _ x => ((idC x.1).1, (idC x.1).2, ()) }
theorem gc211_cs : gc211.cs = [] := rfl
noncomputable def m211 (N : Nat) (v0 : Val Y33) : Option (Vals [i33, i4]) := some (v0, true, ())
def Γ211 : Gam := []
def tr211 : Nat → Tree := fun _ => .done
def lp211 : Nat → Nm := fun _ => ⟨[], [], false⟩
def jn211 : Nat → Option Jn := fun _ => none
def ex211 : Nat → Option Nm := fun _ => none
def rg211 : Nat → Option Nm := fun _ => none
theorem p211 : plansOk tr211 (Tryz.f211.body.getD .skip) = true := by kernel_rfl
def T211 (N : Nat) : Tab := { tr := tr211, lp := lp211, ex := ex211, rg := rg211, jn := jn211, fuel := N }
theorem T211_pins (N : Nat) : (T211 N).pins = false := rfl
theorem tb211 (N : Nat) : TbOk Tryz.prog (T211 N) := tb_none fun _ => rfl
theorem T211_tr (N : Nat) (i : Nat) : (T211 N).tr i = tr211 i := rfl
theorem T211_lp (N : Nat) (i : Nat) : (T211 N).lp i = lp211 i := rfl
theorem T211_ex (N : Nat) (i : Nat) : (T211 N).ex i = ex211 i := rfl
theorem T211_rg (N : Nat) (i : Nat) : (T211 N).rg i = rg211 i := rfl
theorem T211_jn (N : Nat) (i : Nat) : (T211 N).jn i = jn211 i := rfl
theorem T211_fuel (N : Nat) : (T211 N).fuel = N := rfl
theorem run211 (N : Nat) (v0 : Val Y33) : runT tt Γ211 (T211 N) (Tryz.f211.body.getD .skip) (retR tt false [i33, i4] [.cell 2 33, .tmp 3]) (entryC [i33] [] 5 (()) (v0, ())) = m211 N v0 := by
  rw [m211]; unfold Tryz.f211
  simp (maxSteps := 10000000) -implicitDefEqProofs [T211_tr, tr211, T211_lp, lp211, T211_ex, ex211, T211_rg, rg211, T211_jn, jn211, T211_fuel, T211_pins]
  try rfl
def idF (x : Vals [i33]) : Vals [i33, i4] := (x.1, true, ())
def neatV (r : Val Y50) : Val Y50 × Bool := bif isReg r then mapV idF r else failR
def g133 : G := { ps := [i50], rs := [i50, i4], dp := true, pre := fun _ => True, fn := fun x => ((neatV x.1).1, (neatV x.1).2, ()) }
noncomputable def m133 (N : Nat) (v0 : Val Y50) : Option (Vals [i50, i4]) := bif (!((isReg v0) : Bool)) then (some (((0 : Int), ([] : List (Val Y33))), false, ())) else (chk (mapV_pre (gc211.pre (())) (gc211.fn (())) v0) (some (((((mapV (gc211.fn (())) v0).1).1 : Int), (((mapV (gc211.fn (())) v0).1).2 : List (Val Y33))), ((mapV (gc211.fn (())) v0).2 : Bool), ())))
def Γ133 : Gam := [(124, g124)]
theorem Γ133_124 : Gam.get Γ133 124 = some g124 := rfl
theorem Γ133_144 : Gam.get Γ133 144 = none := rfl
def sem133 : Sem := hSem [] [(144, ⟨gh144, [(211, gc211)]⟩)]
def tr133 : Nat → Tree := fun _ => .done
def lp133 : Nat → Nm := fun _ => ⟨[], [], false⟩
def jn133 : Nat → Option Jn := fun _ => none
def ex133 : Nat → Option Nm := fun _ => none
def rg133 : Nat → Option Nm := fun _ => none
theorem p133 : plansOk tr133 (Tryz.f133.body.getD .skip) = true := by kernel_rfl
def T133 (N : Nat) : Tab := { tr := tr133, lp := lp133, ex := ex133, rg := rg133, jn := jn133, fuel := N, sem := sem133 }
theorem T133_pins (N : Nat) : (T133 N).pins = false := rfl
theorem tb133 (N : Nat) : TbOk Tryz.prog (T133 N) := tb_none fun _ => rfl
theorem T133_sem (N : Nat) : (T133 N).sem = sem133 := rfl
theorem T133_tr (N : Nat) (i : Nat) : (T133 N).tr i = tr133 i := rfl
theorem T133_lp (N : Nat) (i : Nat) : (T133 N).lp i = lp133 i := rfl
theorem T133_ex (N : Nat) (i : Nat) : (T133 N).ex i = ex133 i := rfl
theorem T133_rg (N : Nat) (i : Nat) : (T133 N).rg i = rg133 i := rfl
theorem T133_jn (N : Nat) (i : Nat) : (T133 N).jn i = jn133 i := rfl
theorem T133_fuel (N : Nat) : (T133 N).fuel = N := rfl
theorem run133 (N : Nat) (v0 : Val Y50) : runT tt Γ133 (T133 N) (Tryz.f133.body.getD .skip) (retR tt true [i50, i4] [.cell 2 50, .tmp 3]) (entryP [i50] 12 (v0, ())) = m133 N v0 := by
  rw [m133]; unfold Tryz.f133
  simp (maxSteps := 10000000) -implicitDefEqProofs [T133_tr, tr133, T133_lp, lp133, T133_ex, ex133, T133_rg, rg133, T133_jn, jn133, T133_fuel, T133_pins, T133_sem, sem133, semR', Γ133_144, gh144, gc211_cs, Γ133_124, g124]
  try rfl
def neatV_pre (r : Val Y50) : Prop := isReg_pre r
def g131 : G := { ps := [i50], rs := [i50, i4], dp := false, pre := fun x => neatV_pre x.1, fn := fun x => ((neatV x.1).1, (neatV x.1).2, ()) }
noncomputable def m131_l5 (N : Nat) (v2 : Int) (v3 : List (Val Y33)) (v4 : Int) (k0 : Int → (List (Val Y33)) → Option (Vals [i50, i4])) : Nat → Int → Int → (List (Val Y33)) → Option (Vals [i50, i4])
  | 0, _, _, _ => none
  | n + 1, v1, v5, v6 => bif (decide (v1 < (v3.length : Int))) then (chk (0 ≤ v1 ∧ v1 < (v3.length : Int)) (chk (add4V_pre (v5, v6) (v3.getD v1.toNat (dflt Y33))) (bif (!((add4V (v5, v6) (v3.getD v1.toNat (dflt Y33))).2 : Bool)) then (some (((0 : Int), ([] : List (Val Y33))), false, ())) else (m131_l5 N v2 v3 v4 k0 n (IntKind.i64.wrap (v1 + (1 : Int))) (((add4V (v5, v6) (v3.getD v1.toNat (dflt Y33))).1).1 : Int) (((add4V (v5, v6) (v3.getD v1.toNat (dflt Y33))).1).2 : List (Val Y33)))))) else (k0 v5 v6)
noncomputable def m131 (N : Nat) (v0 : Val Y50) : Option (Vals [i50, i4]) := chk (isReg_pre v0) (bif (!((isReg v0) : Bool)) then (some (((0 : Int), ([] : List (Val Y33))), false, ())) else (m131_l5 N (v0.1 : Int) (v0.2 : List (Val Y33)) (0 : Int) (fun (v9 : Int) (v10 : List (Val Y33)) => some ((v9, v10), true, ())) N (0 : Int) (v0.1 : Int) ([] : List (Val Y33))))
def Γ131 : Gam := [(117, g117), (143, g143)]
theorem Γ131_117 : Gam.get Γ131 117 = some g117 := rfl
theorem Γ131_143 : Gam.get Γ131 143 = some g143 := rfl
def nl131_5 : Nm := ⟨[false, true, true, false, true, true], [.nsb 4 1 33 Y33], false⟩
theorem nl131_5_zero : nl131_5.zero = false := rfl
theorem nl131_5_fix : nl131_5.fix = [.nsb 4 1 33 Y33] := rfl
theorem nl131_5_keep : nl131_5.keep = [false, true, true, false, true, true] := rfl
def nx131_0 : Nm := ⟨[false, false, true, false, true], [], false⟩
theorem nx131_0_zero : nx131_0.zero = false := rfl
theorem nx131_0_fix : nx131_0.fix = [] := rfl
theorem nx131_0_keep : nx131_0.keep = [false, false, true, false, true] := rfl
def nr131_7 : Nm := ⟨[false, true, true, false, true, true, true, true], [], false⟩
theorem nr131_7_zero : nr131_7.zero = false := rfl
theorem nr131_7_fix : nr131_7.fix = [] := rfl
theorem nr131_7_keep : nr131_7.keep = [false, true, true, false, true, true, true, true] := rfl
def tr131 : Nat → Tree := fun i => if i = 7 then .first 3 (.grow 0 (.grow 1 (.grow 2 (.grow 4 (.grow 5 (.alt 6 (.first 7 (.first 8 (.first 9 (.alt 10 (.alt 11 (.quiet 12 .done) .stop) .stop)))) (.alt 10 (.alt 6 (.quiet 7 (.quiet 8 (.first 9 (.alt 11 (.quiet 12 .done) .stop)))) .stop) .stop))))))) else .done
def lp131 : Nat → Nm := fun i => if i = 5 then nl131_5 else ⟨[], [], false⟩
def jn131 : Nat → Option Jn := fun _ => none
def ex131 : Nat → Option Nm := fun i => if i = 0 then some nx131_0 else none
def rg131 : Nat → Option Nm := fun i => if i = 7 then some nr131_7 else none
theorem p131 : plansOk tr131 (Tryz.f131.body.getD .skip) = true := by kernel_rfl
def T131 (N : Nat) : Tab := { tr := tr131, lp := lp131, ex := ex131, rg := rg131, jn := jn131, fuel := N }
theorem T131_pins (N : Nat) : (T131 N).pins = false := rfl
theorem tb131 (N : Nat) : TbOk Tryz.prog (T131 N) := tb_none fun _ => rfl
theorem T131_tr (N : Nat) (i : Nat) : (T131 N).tr i = tr131 i := rfl
theorem T131_lp (N : Nat) (i : Nat) : (T131 N).lp i = lp131 i := rfl
theorem T131_ex (N : Nat) (i : Nat) : (T131 N).ex i = ex131 i := rfl
theorem T131_rg (N : Nat) (i : Nat) : (T131 N).rg i = rg131 i := rfl
theorem T131_jn (N : Nat) (i : Nat) : (T131 N).jn i = jn131 i := rfl
theorem T131_fuel (N : Nat) : (T131 N).fuel = N := rfl
noncomputable def c131_5 : Code := cut [true, true, true, false, true, true, true] (Tryz.f131.body.getD .skip)
theorem c131_5_at {N : Nat} {Q : X → St → Option (Vals [i50, i4])} {e : List LV} {h : List Blk} : runT tt Γ131 (T131 N) c131_5 Q ⟨e, h⟩ = runT tt Γ131 (T131 N) (cut [true, true, true, false, true, true, true] (Tryz.f131.body.getD .skip)) Q ⟨e, h⟩ := rfl
theorem r131_l5 (N : Nat) (v2 : Int) (v3 : List (Val Y33)) (v4 : Int) {k0 : Int → (List (Val Y33)) → Option (Vals [i50, i4])} {Q : X → St → Option (Vals [i50, i4])} {c : Code} (hc : c = c131_5) (hret : ∀ st, Q .ret st = retS tt false [i50, i4] [.cell 2 50, .tmp 3] st) (h0 : ∀ (v7 : Int) (v8 : List (Val Y33)), Q (.exit 0) ⟨[u, u, .one (.ptr 0 0 0), u, .one (.ptr 1 0 0), u, u, u, u, u, u, u, u, u, u, u, u, u, u, u, u, u, u, u, u, u, u, u, u, u, u, u, u, u, u, u, u], [.box [.int .i64 v4, .nils], .box [.int .i64 v7, .sl 33 Y33 v8 2]]⟩ = k0 v7 v8) : ∀ (n : Nat) (v1 : Int) (v5 : Int) (v6 : List (Val Y33)), loopR (runT tt Γ131 (T131 N) c) false nl131_5 Q n ⟨[u, .one (.ptr 0 0 0), .one (.ptr 1 0 0), u, .one (.ptr 2 0 0), .one (.int .i64 v1), u, u, u, u, u, u, u, u, u, u, u, u, u, u, u, u, u, u, u, u, u, u, u, u, u, u, u, u, u, u, u], [.box [.int .i64 v2, .sl 33 Y33 v3 3], .box [.int .i64 v4, .nils], .box [.int .i64 v5, .sl 33 Y33 v6 3]]⟩ = m131_l5 N v2 v3 v4 k0 n v1 v5 v6 := by
  subst hc; intro n; induction n with
  | zero => intros; rfl
  | succ n ih =>
    intro v1 v5 v6
    rw [loop_succ, c131_5_at, m131_l5]; unfold Tryz.f131
    simp (maxSteps := 10000000) -implicitDefEqProofs [T131_tr, tr131, T131_lp, lp131, T131_ex, ex131, T131_rg, rg131, T131_jn, jn131, T131_fuel, T131_pins, nl131_5_fix, nl131_5_keep, nl131_5_zero, nx131_0_fix, nx131_0_keep, nx131_0_zero, nr131_7_fix, nr131_7_keep, nr131_7_zero, Γ131_117, Γ131_143, g117, g143, hret, h0, ih]
theorem run131 (N : Nat) (v0 : Val Y50) : runT tt Γ131 (T131 N) (Tryz.f131.body.getD .skip) (retR tt false [i50, i4] [.cell 2 50, .tmp 3]) (entryP [i50] 37 (v0, ())) = m131 N v0 := by
  unfold Tryz.f131
  simp (maxSteps := 10000000) -implicitDefEqProofs [T131_tr, tr131, T131_lp, lp131, T131_ex, ex131, T131_rg, rg131, T131_jn, jn131, T131_fuel, T131_pins, nl131_5_fix, nl131_5_keep, nl131_5_zero, nx131_0_fix, nx131_0_keep, nx131_0_zero, nr131_7_fix, nr131_7_keep, nr131_7_zero, Γ131_117, Γ131_143, g117, g143]
  rewrite [r131_l5 (k0 := (fun (v9 : Int) (v10 : List (Val Y33)) => some ((v9, v10), true, ()))) N _ _ _ ?_ ?_ ?_]
  · rewrite [m131]; first | rfl | simp (maxSteps := 10000000) -implicitDefEqProofs []
  · rfl
  · intro; simp only [seqR_ret, blockR_ret, retR_ret, retX_ret]
  · intro v9 v10; simp (maxSteps := 10000000) -implicitDefEqProofs [T131_tr, tr131, T131_lp, lp131, T131_ex, ex131, T131_rg, rg131, T131_jn, jn131, T131_fuel, T131_pins, nl131_5_fix, nl131_5_keep, nl131_5_zero, nx131_0_fix, nx131_0_keep, nx131_0_zero, nr131_7_fix, nr131_7_keep, nr131_7_zero, Γ131_117, Γ131_143, g117, g143]
end Go.T
