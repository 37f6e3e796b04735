/- Differences of regions: run. -/
import Derived.Test.YthefcjjgchekiaaGreatE11
set_option linter.unusedSimpArgs false
set_option linter.unusedVariables false
namespace Go.T
open Go Go.Proofs
set_option maxHeartbeats 4000000
set_option maxRecDepth 100000
def diffL : List (Val Y33) → Val Y50 → Val Y50 × Bool
  | [], r => (r, true)
  | c :: cs, r => bif (minV c).2 then (bif (lessV r (minV c).1).2 then diffL cs (lessV r (minV c).1).1 else failR) else failR
def diffV (a b : Val Y50) : Val Y50 × Bool := bif isReg a && isReg b && decide ((a.1 : Int) = (b.1 : Int)) then (bif (neatV a).2 then diffL b.2 (neatV a).1 else failR) else failR
def diffV_pre (a b : Val Y50) : Prop := isReg_pre a ∧ isReg_pre b
def g45 : G := { ps := [i50, i50], rs := [i50, i4], dp := true, pre := fun _ => True, fn := fun x => ((diffV x.1 x.2.1).1, (diffV x.1 x.2.1).2, ()) }
noncomputable def m45_l7 (N : Nat) (v2 : List (Val Y33)) (v3 : Int) (v5 : Int) (k0 : Int → (List (Val Y33)) → Option (Vals [i50, i4])) : Nat → Int → Int → (List (Val Y33)) → Option (Vals [i50, i4])
  | 0, _, _, _ => none
  | n + 1, v4, v6, v7 => bif (decide (v4 < v3)) then (chk (0 ≤ v4 ∧ v4 < (v2.length : Int)) (bif (!((minV (v2.getD v4.toNat (dflt Y33))).2 : Bool)) then (some (((0 : Int), ([] : List (Val Y33))), false, ())) else (chk (lessV_pre (v6, v7) ((((minV (v2.getD v4.toNat (dflt Y33))).1).1 : Int), (((minV (v2.getD v4.toNat (dflt Y33))).1).2 : List (Val Y108)))) (bif (!((lessV (v6, v7) ((((minV (v2.getD v4.toNat (dflt Y33))).1).1 : Int), (((minV (v2.getD v4.toNat (dflt Y33))).1).2 : List (Val Y108)))).2 : Bool)) then (some (((0 : Int), ([] : List (Val Y33))), false, ())) else (m45_l7 N v2 v3 v5 k0 n (IntKind.i64.wrap (v4 + (1 : Int))) (((lessV (v6, v7) ((((minV (v2.getD v4.toNat (dflt Y33))).1).1 : Int), (((minV (v2.getD v4.toNat (dflt Y33))).1).2 : List (Val Y108)))).1).1 : Int) (((lessV (v6, v7) ((((minV (v2.getD v4.toNat (dflt Y33))).1).1 : Int), (((minV (v2.getD v4.toNat (dflt Y33))).1).2 : List (Val Y108)))).1).2 : List (Val Y33))))))) else (k0 v6 v7)
noncomputable def m45 (N : Nat) (v0 : Val Y50) (v1 : Val Y50) : Option (Vals [i50, i4]) := bif (!((isReg v0) : Bool)) then (some (((0 : Int), ([] : List (Val Y33))), false, ())) else (bif (!((isReg v1) : Bool)) then (some (((0 : Int), ([] : List (Val Y33))), false, ())) else (bif (!(decide ((v0.1 : Int) = (v1.1 : Int)))) then (some (((0 : Int), ([] : List (Val Y33))), false, ())) else (bif (!((neatV v0).2 : Bool)) then (some (((0 : Int), ([] : List (Val Y33))), false, ())) else (m45_l7 N (v1.2 : List (Val Y33)) ((v1.2 : List (Val Y33)).length : Int) (0 : Int) (fun (v10 : Int) (v11 : List (Val Y33)) => some ((v10, v11), true, ())) N (0 : Int) (((neatV v0).1).1 : Int) (((neatV v0).1).2 : List (Val Y33))))))
def Γ45 : Gam := [(124, g124), (133, g133), (138, g138), (139, g139)]
theorem Γ45_124 : Gam.get Γ45 124 = some g124 := rfl
theorem Γ45_133 : Gam.get Γ45 133 = some g133 := rfl
theorem Γ45_138 : Gam.get Γ45 138 = some g138 := rfl
theorem Γ45_139 : Gam.get Γ45 139 = some g139 := rfl
def nl45_7 : Nm := ⟨[false, false, false, false, true, false, true, false, false, false, false, false, false, false, false, false, false, false, false, false, false, false, false, false, false, false, false, false, false, false, false, false, false, false, false, false, false, true, true, true], [], false⟩
theorem nl45_7_zero : nl45_7.zero = false := rfl
theorem nl45_7_fix : nl45_7.fix = [] := rfl
theorem nl45_7_keep : nl45_7.keep = [false, false, false, false, true, false, true, false, false, false, false, false, false, false, false, false, false, false, false, false, false, false, false, false, false, false, false, false, false, false, false, false, false, false, false, false, false, true, true, true] := rfl
def nx45_0 : Nm := ⟨[false, false, false, false, true, false, true], [], false⟩
theorem nx45_0_zero : nx45_0.zero = false := rfl
theorem nx45_0_fix : nx45_0.fix = [] := rfl
theorem nx45_0_keep : nx45_0.keep = [false, false, false, false, true, false, true] := rfl
def tr45 : Nat → Tree := fun _ => .done
def lp45 : Nat → Nm := fun i => if i = 7 then nl45_7 else ⟨[], [], false⟩
def jn45 : Nat → Option Jn := fun _ => none
def ex45 : Nat → Option Nm := fun i => if i = 0 then some nx45_0 else none
def rg45 : Nat → Option Nm := fun _ => none
theorem p45 : plansOk tr45 (Tryz.f45.body.getD .skip) = true := by kernel_rfl
def T45 (N : Nat) : Tab := { tr := tr45, lp := lp45, ex := ex45, rg := rg45, jn := jn45, fuel := N }
theorem T45_pins (N : Nat) : (T45 N).pins = false := rfl
theorem tb45 (N : Nat) : TbOk Tryz.prog (T45 N) := tb_none fun _ => rfl
theorem T45_tr (N : Nat) (i : Nat) : (T45 N).tr i = tr45 i := rfl
theorem T45_lp (N : Nat) (i : Nat) : (T45 N).lp i = lp45 i := rfl
theorem T45_ex (N : Nat) (i : Nat) : (T45 N).ex i = ex45 i := rfl
theorem T45_rg (N : Nat) (i : Nat) : (T45 N).rg i = rg45 i := rfl
theorem T45_jn (N : Nat) (i : Nat) : (T45 N).jn i = jn45 i := rfl
theorem T45_fuel (N : Nat) : (T45 N).fuel = N := rfl
noncomputable def c45_7 : Code := cut [true, true, true, true, false, true, true, true] (Tryz.f45.body.getD .skip)
theorem c45_7_at {N : Nat} {Q : X → St → Option (Vals [i50, i4])} {e : List LV} {h : List Blk} : runT tt Γ45 (T45 N) c45_7 Q ⟨e, h⟩ = runT tt Γ45 (T45 N) (cut [true, true, true, true, false, true, true, true] (Tryz.f45.body.getD .skip)) Q ⟨e, h⟩ := rfl
theorem r45_l7 (N : Nat) (v2 : List (Val Y33)) (v3 : Int) (v5 : Int) {k0 : Int → (List (Val Y33)) → Option (Vals [i50, i4])} {Q : X → St → Option (Vals [i50, i4])} {c : Code} (hc : c = c45_7) (hret : ∀ st, Q .ret st = retS tt true [i50, i4] [.cell 4 50, .tmp 5] st) (h0 : ∀ (v8 : Int) (v9 : List (Val Y33)), Q (.exit 0) ⟨[u, u, u, u, .one (.ptr 0 0 0), u, .one (.ptr 1 0 0), u, u, u, u, u, u, u, u, u, u, u, u, u, u, u, u, u, u, u, u, u, u, u, u, u, u, u, u, u, u, u, u, u, u, u, u, u, u, u, u, u, u, u, u, u, u, u, u, u, u, u, u, u, u, u], [.box [.int .i64 v5, .nils], .box [.int .i64 v8, .own 2], .row 33 Y33 v9 true true 0]⟩ = k0 v8 v9) : ∀ (n : Nat) (v4 : Int) (v6 : Int) (v7 : List (Val Y33)), loopR (runT tt Γ45 (T45 N) c) false nl45_7 Q n ⟨[u, u, u, u, .one (.ptr 0 0 0), u, .one (.ptr 1 0 0), u, u, u, u, u, u, u, u, u, u, u, u, u, u, u, u, u, u, u, u, u, u, u, u, u, u, u, u, u, u, .one (.sl 33 Y33 v2 3), .one (.int .i64 v3), .one (.int .i64 v4), u, u, u, u, u, u, u, u, u, u, u, u, u, u, u, u, u, u, u, u, u, u], [.box [.int .i64 v5, .nils], .box [.int .i64 v6, .own 2], .row 33 Y33 v7 true true 0]⟩ = m45_l7 N v2 v3 v5 k0 n v4 v6 v7 := by
  subst hc; intro n; induction n with
  | zero => intros; rfl
  | succ n ih =>
    intro v4 v6 v7
    rw [loop_succ, c45_7_at, m45_l7]; unfold Tryz.f45
    simp (maxSteps := 10000000) -implicitDefEqProofs [T45_tr, tr45, T45_lp, lp45, T45_ex, ex45, T45_rg, rg45, T45_jn, jn45, T45_fuel, T45_pins, nl45_7_fix, nl45_7_keep, nl45_7_zero, nx45_0_fix, nx45_0_keep, nx45_0_zero, Γ45_124, Γ45_133, Γ45_138, Γ45_139, g124, g133, g138, g139, hret, h0, ih]
theorem run45 (N : Nat) (v0 : Val Y50) (v1 : Val Y50) : runT tt Γ45 (T45 N) (Tryz.f45.body.getD .skip) (retR tt true [i50, i4] [.cell 4 50, .tmp 5]) (entryP [i50, i50] 62 (v0, v1, ())) = m45 N v0 v1 := by
  unfold Tryz.f45
  simp (maxSteps := 10000000) -implicitDefEqProofs [T45_tr, tr45, T45_lp, lp45, T45_ex, ex45, T45_rg, rg45, T45_jn, jn45, T45_fuel, T45_pins, nl45_7_fix, nl45_7_keep, nl45_7_zero, nx45_0_fix, nx45_0_keep, nx45_0_zero, Γ45_124, Γ45_133, Γ45_138, Γ45_139, g124, g133, g138, g139]
  rewrite [r45_l7 (k0 := (fun (v10 : Int) (v11 : List (Val Y33)) => some ((v10, v11), true, ()))) N _ _ _ ?_ ?_ ?_]
  · rewrite [m45]; first | rfl | simp (maxSteps := 10000000) -implicitDefEqProofs []
  · rfl
  · intro; simp only [seqR_ret, blockR_ret, retR_ret, retX_ret]
  · intro v10 v11; simp (maxSteps := 10000000) -implicitDefEqProofs [T45_tr, tr45, T45_lp, lp45, T45_ex, ex45, T45_rg, rg45, T45_jn, jn45, T45_fuel, T45_pins, nl45_7_fix, nl45_7_keep, nl45_7_zero, nx45_0_fix, nx45_0_keep, nx45_0_zero, Γ45_124, Γ45_133, Γ45_138, Γ45_139, g124, g133, g138, g139]
def g44 : G := { ps := [i50, i50], rs := [i50, i4], dp := false, pre := fun x => diffV_pre x.1 x.2.1, fn := fun x => ((diffV x.1 x.2.1).1, (diffV x.1 x.2.1).2, ()) }
noncomputable def m44_l5 (N : Nat) (v3 : Int) (v4 : List (Val Y33)) (v5 : Int) (k0 : Int → (List (Val Y33)) → Option (Vals [i50, i4])) : Nat → Int → Int → (List (Val Y33)) → Option (Vals [i50, i4])
  | 0, _, _, _ => none
  | n + 1, v2, v6, v7 => bif (decide (v2 < (v4.length : Int))) then (chk (0 ≤ v2 ∧ v2 < (v4.length : Int)) (chk (less4V_pre (v6, v7) (v4.getD v2.toNat (dflt Y33))) (bif (!((less4V (v6, v7) (v4.getD v2.toNat (dflt Y33))).2 : Bool)) then (some (((0 : Int), ([] : List (Val Y33))), false, ())) else (m44_l5 N v3 v4 v5 k0 n (IntKind.i64.wrap (v2 + (1 : Int))) (((less4V (v6, v7) (v4.getD v2.toNat (dflt Y33))).1).1 : Int) (((less4V (v6, v7) (v4.getD v2.toNat (dflt Y33))).1).2 : List (Val Y33)))))) else (k0 v6 v7)
noncomputable def m44 (N : Nat) (v0 : Val Y50) (v1 : Val Y50) : Option (Vals [i50, i4]) := chk (neatV_pre v0) (bif (!((neatV v0).2 : Bool)) then (some (((0 : Int), ([] : List (Val Y33))), false, ())) else (chk (isReg_pre v1) (bif (!((isReg v1) : Bool)) then (some (((0 : Int), ([] : List (Val Y33))), false, ())) else (bif (!(decide ((v0.1 : Int) = (v1.1 : Int)))) then (some (((0 : Int), ([] : List (Val Y33))), false, ())) else (m44_l5 N (v1.1 : Int) (v1.2 : List (Val Y33)) (0 : Int) (fun (v10 : Int) (v11 : List (Val Y33)) => some ((v10, v11), true, ())) N (0 : Int) (((neatV v0).1).1 : Int) (((neatV v0).1).2 : List (Val Y33)))))))
def Γ44 : Gam := [(117, g117), (131, g131), (137, g137)]
theorem Γ44_117 : Gam.get Γ44 117 = some g117 := rfl
theorem Γ44_131 : Gam.get Γ44 131 = some g131 := rfl
theorem Γ44_137 : Gam.get Γ44 137 = some g137 := rfl
def nl44_5 : Nm := ⟨[false, false, false, true, true, false, true, false, true], [], false⟩
theorem nl44_5_zero : nl44_5.zero = false := rfl
theorem nl44_5_fix : nl44_5.fix = [] := rfl
theorem nl44_5_keep : nl44_5.keep = [false, false, false, true, true, false, true, false, true] := rfl
def nx44_0 : Nm := ⟨[false, false, false, false, true, false, true], [], false⟩
theorem nx44_0_zero : nx44_0.zero = false := rfl
theorem nx44_0_fix : nx44_0.fix = [] := rfl
theorem nx44_0_keep : nx44_0.keep = [false, false, false, false, true, false, true] := rfl
def nr44_7 : Nm := ⟨[false, false, false, true, true, false, true, false, true, true, true], [], false⟩
theorem nr44_7_zero : nr44_7.zero = false := rfl
theorem nr44_7_fix : nr44_7.fix = [] := rfl
theorem nr44_7_keep : nr44_7.keep = [false, false, false, true, true, false, true, false, true, true, true] := rfl
def tr44 : Nat → Tree := fun i => if i = 7 then .first 3 (.grow 0 (.grow 1 (.grow 2 (.grow 4 (.grow 5 (.alt 6 (.first 7 (.first 8 (.first 9 (.alt 10 (.alt 11 (.quiet 12 .done) .stop) .stop)))) (.alt 10 (.alt 6 (.quiet 7 (.quiet 8 (.first 9 (.alt 11 (.quiet 12 .done) .stop)))) .stop) .stop))))))) else .done
def lp44 : Nat → Nm := fun i => if i = 5 then nl44_5 else ⟨[], [], false⟩
def jn44 : Nat → Option Jn := fun _ => none
def ex44 : Nat → Option Nm := fun i => if i = 0 then some nx44_0 else none
def rg44 : Nat → Option Nm := fun i => if i = 7 then some nr44_7 else none
theorem p44 : plansOk tr44 (Tryz.f44.body.getD .skip) = true := by kernel_rfl
def T44 (N : Nat) : Tab := { tr := tr44, lp := lp44, ex := ex44, rg := rg44, jn := jn44, fuel := N }
theorem T44_pins (N : Nat) : (T44 N).pins = false := rfl
theorem tb44 (N : Nat) : TbOk Tryz.prog (T44 N) := tb_none fun _ => rfl
theorem T44_tr (N : Nat) (i : Nat) : (T44 N).tr i = tr44 i := rfl
theorem T44_lp (N : Nat) (i : Nat) : (T44 N).lp i = lp44 i := rfl
theorem T44_ex (N : Nat) (i : Nat) : (T44 N).ex i = ex44 i := rfl
theorem T44_rg (N : Nat) (i : Nat) : (T44 N).rg i = rg44 i := rfl
theorem T44_jn (N : Nat) (i : Nat) : (T44 N).jn i = jn44 i := rfl
theorem T44_fuel (N : Nat) : (T44 N).fuel = N := rfl
noncomputable def c44_5 : Code := cut [true, true, true, false, true, true, true] (Tryz.f44.body.getD .skip)
theorem c44_5_at {N : Nat} {Q : X → St → Option (Vals [i50, i4])} {e : List LV} {h : List Blk} : runT tt Γ44 (T44 N) c44_5 Q ⟨e, h⟩ = runT tt Γ44 (T44 N) (cut [true, true, true, false, true, true, true] (Tryz.f44.body.getD .skip)) Q ⟨e, h⟩ := rfl
theorem r44_l5 (N : Nat) (v3 : Int) (v4 : List (Val Y33)) (v5 : Int) {k0 : Int → (List (Val Y33)) → Option (Vals [i50, i4])} {Q : X → St → Option (Vals [i50, i4])} {c : Code} (hc : c = c44_5) (hret : ∀ st, Q .ret st = retS tt false [i50, i4] [.cell 4 50, .tmp 5] st) (h0 : ∀ (v8 : Int) (v9 : List (Val Y33)), Q (.exit 0) ⟨[u, u, u, u, .one (.ptr 0 0 0), u, .one (.ptr 1 0 0), u, u, u, u, u, u, u, u, u, u, u, u, u, u, u, u, u, u, u, u, u, u, u, u, u, u, u, u, u, u, u, u, u, u, u, u, u, u, u, u, u, u, u, u, u, u], [.box [.int .i64 v5, .nils], .box [.int .i64 v8, .sl 33 Y33 v9 2]]⟩ = k0 v8 v9) : ∀ (n : Nat) (v2 : Int) (v6 : Int) (v7 : List (Val Y33)), loopR (runT tt Γ44 (T44 N) c) false nl44_5 Q n ⟨[u, u, u, .one (.ptr 0 0 0), .one (.ptr 1 0 0), u, .one (.ptr 2 0 0), u, .one (.int .i64 v2), u, u, u, u, u, u, u, u, u, u, u, u, u, u, u, u, u, u, u, u, u, u, u, u, u, u, u, u, u, u, u, u, u, u, u, u, u, u, u, u, u, u, u, u], [.box [.int .i64 v3, .sl 33 Y33 v4 3], .box [.int .i64 v5, .nils], .box [.int .i64 v6, .sl 33 Y33 v7 3]]⟩ = m44_l5 N v3 v4 v5 k0 n v2 v6 v7 := by
  subst hc; intro n; induction n with
  | zero => intros; rfl
  | succ n ih =>
    intro v2 v6 v7
    rw [loop_succ, c44_5_at, m44_l5]; unfold Tryz.f44
    simp (maxSteps := 10000000) -implicitDefEqProofs [T44_tr, tr44, T44_lp, lp44, T44_ex, ex44, T44_rg, rg44, T44_jn, jn44, T44_fuel, T44_pins, nl44_5_fix, nl44_5_keep, nl44_5_zero, nx44_0_fix, nx44_0_keep, nx44_0_zero, nr44_7_fix, nr44_7_keep, nr44_7_zero, Γ44_117, Γ44_131, Γ44_137, g117, g131, g137, hret, h0, ih]
theorem run44 (N : Nat) (v0 : Val Y50) (v1 : Val Y50) : runT tt Γ44 (T44 N) (Tryz.f44.body.getD .skip) (retR tt false [i50, i4] [.cell 4 50, .tmp 5]) (entryP [i50, i50] 53 (v0, v1, ())) = m44 N v0 v1 := by
  unfold Tryz.f44
  simp (maxSteps := 10000000) -implicitDefEqProofs [T44_tr, tr44, T44_lp, lp44, T44_ex, ex44, T44_rg, rg44, T44_jn, jn44, T44_fuel, T44_pins, nl44_5_fix, nl44_5_keep, nl44_5_zero, nx44_0_fix, nx44_0_keep, nx44_0_zero, nr44_7_fix, nr44_7_keep, nr44_7_zero, Γ44_117, Γ44_131, Γ44_137, g117, g131, g137]
  rewrite [r44_l5 (k0 := (fun (v10 : Int) (v11 : List (Val Y33)) => some ((v10, v11), true, ()))) N _ _ _ ?_ ?_ ?_]
  · rewrite [m44]; first | rfl | simp (maxSteps := 10000000) -implicitDefEqProofs []
  · rfl
  · intro; simp only [seqR_ret, blockR_ret, retR_ret, retX_ret]
  · intro v10 v11; simp (maxSteps := 10000000) -implicitDefEqProofs [T44_tr, tr44, T44_lp, lp44, T44_ex, ex44, T44_rg, rg44, T44_jn, jn44, T44_fuel, T44_pins, nl44_5_fix, nl44_5_keep, nl44_5_zero, nx44_0_fix, nx44_0_keep, nx44_0_zero, nr44_7_fix, nr44_7_keep, nr44_7_zero, Γ44_117, Γ44_131, Γ44_137, g117, g131, g137]
def covV (a b : Val Y50) : Bool × Bool := bif (diffV b a).2 then (decide ((List.length (α := Val Y33) (diffV b a).1.2 : Int) = 0), true) else (false, false)
def covV_pre (a b : Val Y50) : Prop := diffV_pre b a
def g130 : G := { ps := [i50, i50], rs := [i4, i4], dp := true, pre := fun _ => True, fn := fun x => ((covV x.1 x.2.1).1, (covV x.1 x.2.1).2, ()) }
noncomputable def m130 (N : Nat) (v0 : Val Y50) (v1 : Val Y50) : Option (Vals [i4, i4]) := bif (!((diffV v1 v0).2 : Bool)) then (some (false, false, ())) else (some ((decide (((((diffV v1 v0).1).2 : List (Val Y33)).length : Int) = (0 : Int))), true, ()))
def Γ130 : Gam := [(45, g45)]
theorem Γ130_45 : Gam.get Γ130 45 = some g45 := rfl
def tr130 : Nat → Tree := fun _ => .done
def lp130 : Nat → Nm := fun _ => ⟨[], [], false⟩
def jn130 : Nat → Option Jn := fun _ => none
def ex130 : Nat → Option Nm := fun _ => none
def rg130 : Nat → Option Nm := fun _ => none
theorem p130 : plansOk tr130 (Tryz.f130.body.getD .skip) = true := by kernel_rfl
def T130 (N : Nat) : Tab := { tr := tr130, lp := lp130, ex := ex130, rg := rg130, jn := jn130, fuel := N }
theorem T130_pins (N : Nat) : (T130 N).pins = false := rfl
theorem tb130 (N : Nat) : TbOk Tryz.prog (T130 N) := tb_none fun _ => rfl
theorem T130_tr (N : Nat) (i : Nat) : (T130 N).tr i = tr130 i := rfl
theorem T130_lp (N : Nat) (i : Nat) : (T130 N).lp i = lp130 i := rfl
theorem T130_ex (N : Nat) (i : Nat) : (T130 N).ex i = ex130 i := rfl
theorem T130_rg (N : Nat) (i : Nat) : (T130 N).rg i = rg130 i := rfl
theorem T130_jn (N : Nat) (i : Nat) : (T130 N).jn i = jn130 i := rfl
theorem T130_fuel (N : Nat) : (T130 N).fuel = N := rfl
theorem run130 (N : Nat) (v0 : Val Y50) (v1 : Val Y50) : runT tt Γ130 (T130 N) (Tryz.f130.body.getD .skip) (retR tt true [i4, i4] [.tmp 4, .tmp 5]) (entryP [i50, i50] 20 (v0, v1, ())) = m130 N v0 v1 := by
  rw [m130]; unfold Tryz.f130
  simp (maxSteps := 10000000) -implicitDefEqProofs [T130_tr, tr130, T130_lp, lp130, T130_ex, ex130, T130_rg, rg130, T130_jn, jn130, T130_fuel, T130_pins, Γ130_45, g45]
  try rfl
def g129 : G := { ps := [i50, i50], rs := [i4, i4], dp := true, pre := fun x => covV_pre x.1 x.2.1, fn := fun x => ((covV x.1 x.2.1).1, (covV x.1 x.2.1).2, ()) }
noncomputable def m129 (N : Nat) (v0 : Val Y50) (v1 : Val Y50) : Option (Vals [i4, i4]) := chk (diffV_pre v1 v0) (bif ((diffV v1 v0).2 : Bool) then (some ((decide (((((diffV v1 v0).1).2 : List (Val Y33)).length : Int) = (0 : Int))), ((diffV v1 v0).2 : Bool), ())) else (some (false, ((diffV v1 v0).2 : Bool), ())))
def Γ129 : Gam := [(44, g44)]
theorem Γ129_44 : Gam.get Γ129 44 = some g44 := rfl
def tr129 : Nat → Tree := fun _ => .done
def lp129 : Nat → Nm := fun _ => ⟨[], [], false⟩
def jn129 : Nat → Option Jn := fun _ => none
def ex129 : Nat → Option Nm := fun _ => none
def rg129 : Nat → Option Nm := fun _ => none
theorem p129 : plansOk tr129 (Tryz.f129.body.getD .skip) = true := by kernel_rfl
def T129 (N : Nat) : Tab := { tr := tr129, lp := lp129, ex := ex129, rg := rg129, jn := jn129, fuel := N }
theorem T129_pins (N : Nat) : (T129 N).pins = false := rfl
theorem tb129 (N : Nat) : TbOk Tryz.prog (T129 N) := tb_none fun _ => rfl
theorem T129_tr (N : Nat) (i : Nat) : (T129 N).tr i = tr129 i := rfl
theorem T129_lp (N : Nat) (i : Nat) : (T129 N).lp i = lp129 i := rfl
theorem T129_ex (N : Nat) (i : Nat) : (T129 N).ex i = ex129 i := rfl
theorem T129_rg (N : Nat) (i : Nat) : (T129 N).rg i = rg129 i := rfl
theorem T129_jn (N : Nat) (i : Nat) : (T129 N).jn i = jn129 i := rfl
theorem T129_fuel (N : Nat) : (T129 N).fuel = N := rfl
theorem run129 (N : Nat) (v0 : Val Y50) (v1 : Val Y50) : runT tt Γ129 (T129 N) (Tryz.f129.body.getD .skip) (retR tt true [i4, i4] [.tmp 4, .tmp 5]) (entryP [i50, i50] 22 (v0, v1, ())) = m129 N v0 v1 := by
  rw [m129]; unfold Tryz.f129
  simp (maxSteps := 10000000) -implicitDefEqProofs [T129_tr, tr129, T129_lp, lp129, T129_ex, ex129, T129_rg, rg129, T129_jn, jn129, T129_fuel, T129_pins, Γ129_44, g44]
  try rfl
def sameV (a b : Val Y50) : Bool × Bool := bif (covV a b).2 && (covV b a).2 then ((covV a b).1 && (covV b a).1, true) else (false, false)
def sameV_pre (a b : Val Y50) : Prop := diffV_pre a b
def g39 : G := { ps := [i50, i50], rs := [i4, i4], dp := true, pre := fun _ => True, fn := fun x => ((sameV x.1 x.2.1).1, (sameV x.1 x.2.1).2, ()) }
noncomputable def m39 (N : Nat) (v0 : Val Y50) (v1 : Val Y50) : Option (Vals [i4, i4]) := bif (!((covV v0 v1).2 : Bool)) then (some (false, false, ())) else (bif (!((covV v1 v0).2 : Bool)) then (some (false, false, ())) else (bif ((covV v0 v1).1 : Bool) then (some (((covV v1 v0).1 : Bool), true, ())) else (some (false, true, ()))))
def Γ39 : Gam := [(130, g130)]
theorem Γ39_130 : Gam.get Γ39 130 = some g130 := rfl
def tr39 : Nat → Tree := fun _ => .done
def lp39 : Nat → Nm := fun _ => ⟨[], [], false⟩
def jn39 : Nat → Option Jn := fun _ => none
def ex39 : Nat → Option Nm := fun _ => none
def rg39 : Nat → Option Nm := fun _ => none
theorem p39 : plansOk tr39 (Tryz.f39.body.getD .skip) = true := by kernel_rfl
def T39 (N : Nat) : Tab := { tr := tr39, lp := lp39, ex := ex39, rg := rg39, jn := jn39, fuel := N }
theorem T39_pins (N : Nat) : (T39 N).pins = false := rfl
theorem tb39 (N : Nat) : TbOk Tryz.prog (T39 N) := tb_none fun _ => rfl
theorem T39_tr (N : Nat) (i : Nat) : (T39 N).tr i = tr39 i := rfl
theorem T39_lp (N : Nat) (i : Nat) : (T39 N).lp i = lp39 i := rfl
theorem T39_ex (N : Nat) (i : Nat) : (T39 N).ex i = ex39 i := rfl
theorem T39_rg (N : Nat) (i : Nat) : (T39 N).rg i = rg39 i := rfl
theorem T39_jn (N : Nat) (i : Nat) : (T39 N).jn i = jn39 i := rfl
theorem T39_fuel (N : Nat) : (T39 N).fuel = N := rfl
theorem run39 (N : Nat) (v0 : Val Y50) (v1 : Val Y50) : runT tt Γ39 (T39 N) (Tryz.f39.body.getD .skip) (retR tt true [i4, i4] [.tmp 4, .tmp 5]) (entryP [i50, i50] 32 (v0, v1, ())) = m39 N v0 v1 := by
  rw [m39]; unfold Tryz.f39
  simp (maxSteps := 10000000) -implicitDefEqProofs [T39_tr, tr39, T39_lp, lp39, T39_ex, ex39, T39_rg, rg39, T39_jn, jn39, T39_fuel, T39_pins, Γ39_130, g130]
  try rfl
def g38 : G := { ps := [i50, i50], rs := [i4, i4], dp := true, pre := fun x => sameV_pre x.1 x.2.1, fn := fun x => ((sameV x.1 x.2.1).1, (sameV x.1 x.2.1).2, ()) }
noncomputable def m38 (N : Nat) (v0 : Val Y50) (v1 : Val Y50) : Option (Vals [i4, i4]) := chk (covV_pre v0 v1) (chk (covV_pre v1 v0) (bif (!((covV v0 v1).2 : Bool)) then (some (false, false, ())) else (bif (!((covV v1 v0).2 : Bool)) then (some (false, false, ())) else (bif ((covV v0 v1).1 : Bool) then (some (((covV v1 v0).1 : Bool), true, ())) else (some (false, true, ()))))))
def Γ38 : Gam := [(129, g129)]
theorem Γ38_129 : Gam.get Γ38 129 = some g129 := rfl
def tr38 : Nat → Tree := fun _ => .done
def lp38 : Nat → Nm := fun _ => ⟨[], [], false⟩
def jn38 : Nat → Option Jn := fun _ => none
def ex38 : Nat → Option Nm := fun _ => none
def rg38 : Nat → Option Nm := fun _ => none
theorem p38 : plansOk tr38 (Tryz.f38.body.getD .skip) = true := by kernel_rfl
def T38 (N : Nat) : Tab := { tr := tr38, lp := lp38, ex := ex38, rg := rg38, jn := jn38, fuel := N }
theorem T38_pins (N : Nat) : (T38 N).pins = false := rfl
theorem tb38 (N : Nat) : TbOk Tryz.prog (T38 N) := tb_none fun _ => rfl
theorem T38_tr (N : Nat) (i : Nat) : (T38 N).tr i = tr38 i := rfl
theorem T38_lp (N : Nat) (i : Nat) : (T38 N).lp i = lp38 i := rfl
theorem T38_ex (N : Nat) (i : Nat) : (T38 N).ex i = ex38 i := rfl
theorem T38_rg (N : Nat) (i : Nat) : (T38 N).rg i = rg38 i := rfl
theorem T38_jn (N : Nat) (i : Nat) : (T38 N).jn i = jn38 i := rfl
theorem T38_fuel (N : Nat) : (T38 N).fuel = N := rfl
theorem run38 (N : Nat) (v0 : Val Y50) (v1 : Val Y50) : runT tt Γ38 (T38 N) (Tryz.f38.body.getD .skip) (retR tt true [i4, i4] [.tmp 4, .tmp 5]) (entryP [i50, i50] 32 (v0, v1, ())) = m38 N v0 v1 := by
  rw [m38]; unfold Tryz.f38
  simp (maxSteps := 10000000) -implicitDefEqProofs [T38_tr, tr38, T38_lp, lp38, T38_ex, ex38, T38_rg, rg38, T38_jn, jn38, T38_fuel, T38_pins, Γ38_129, g129]
  try rfl
end Go.T
