/- Boxes. -/
import Derived.Test.YthefcjjgchekiaaB18
set_option linter.unusedSimpArgs false
set_option linter.unusedVariables false
namespace Go.T
open Go Go.Proofs
set_option maxHeartbeats 4000000
set_option maxRecDepth 100000
def boxGo (c : Val Y32) : Nat → Nat → List (Val Y66) → Option (List (Val Y66))
  | 0, _, s => some s
  | k + 1, v, s => bif (bndsOf c v).2 then boxGo c k (v + 1) (s ++ [(bndsOf c v).1]) else none
def boxOf (c : Val Y32) : List (Val Y66) × Bool := bif isCell c then (match boxGo c (c.1 : Int).toNat 0 [] with
  | some l => (l, true)
  | none => ([], false)) else ([], false)
def boxOf_pre (c : Val Y32) : Prop := isCell_pre c
def g20 : G := { ps := [i32], rs := [i46, i4], dp := true, pre := fun _ => True, fn := fun x => ((boxOf x.1).1, (boxOf x.1).2, ()) }
def g19 : G := { ps := [i32], rs := [i46, i4], dp := true, pre := fun x => boxOf_pre x.1, fn := fun x => ((boxOf x.1).1, (boxOf x.1).2, ()) }
-- impl.BoxOf
noncomputable def m20_l5 (N : Nat) (v2 : Int) (v3 : List (Val Y36)) (k0 : (List (Val Y66)) → Option (Vals [i46, i4])) : Nat → Int → (List (Val Y66)) → Option (Vals [i46, i4])
  | 0, _, _ => none
  | n + 1, v1, v4 => bif (decide (v1 < v2)) then (bif (!((bndsOf (v2, v3) v1).2 : Bool)) then (some (([] : List (Val Y66)), false, ())) else (chk (v4.length + ([((((bndsOf (v2, v3) v1).1).1 : Bool), ((((((bndsOf (v2, v3) v1).1).2).1).1 : Int), (((((bndsOf (v2, v3) v1).1).2).1).2 : Int)), (((((bndsOf (v2, v3) v1).1).2).2).1 : Bool), ((((((bndsOf (v2, v3) v1).1).2).2).2).1 : Bool), (((((((((bndsOf (v2, v3) v1).1).2).2).2).2).1).1 : Int), ((((((((bndsOf (v2, v3) v1).1).2).2).2).2).1).2 : Int)), ((((((((bndsOf (v2, v3) v1).1).2).2).2).2).2).1 : Bool), ((((((((bndsOf (v2, v3) v1).1).2).2).2).2).2).2 : Bool))] : List (Val Y66)).length ≤ 1048576) (m20_l5 N v2 v3 k0 n (IntKind.i64.wrap (v1 + (1 : Int))) (v4 ++ ([((((bndsOf (v2, v3) v1).1).1 : Bool), ((((((bndsOf (v2, v3) v1).1).2).1).1 : Int), (((((bndsOf (v2, v3) v1).1).2).1).2 : Int)), (((((bndsOf (v2, v3) v1).1).2).2).1 : Bool), ((((((bndsOf (v2, v3) v1).1).2).2).2).1 : Bool), (((((((((bndsOf (v2, v3) v1).1).2).2).2).2).1).1 : Int), ((((((((bndsOf (v2, v3) v1).1).2).2).2).2).1).2 : Int)), ((((((((bndsOf (v2, v3) v1).1).2).2).2).2).2).1 : Bool), ((((((((bndsOf (v2, v3) v1).1).2).2).2).2).2).2 : Bool))] : List (Val Y66)))))) else (k0 v4)
noncomputable def m20 (N : Nat) (v0 : Val Y32) : Option (Vals [i46, i4]) := bif (!((isCell v0) : Bool)) then (some (([] : List (Val Y66)), false, ())) else (m20_l5 N (v0.1 : Int) (v0.2 : List (Val Y36)) (fun (v6 : List (Val Y66)) => some (v6, true, ())) N (0 : Int) ([] : List (Val Y66)))
def Γ20 : Gam := [(40, g40), (41, g41)]
theorem Γ20_40 : Gam.get Γ20 40 = some g40 := rfl
theorem Γ20_41 : Gam.get Γ20 41 = some g41 := rfl
def nl20_5 : Nm := ⟨[false, true, false, false, true, true], []⟩
theorem nl20_5_fix : nl20_5.fix = [] := rfl
theorem nl20_5_keep : nl20_5.keep = [false, true, false, false, true, true] := rfl
def nx20_0 : Nm := ⟨[false, false, false, false, true], []⟩
theorem nx20_0_fix : nx20_0.fix = [] := rfl
theorem nx20_0_keep : nx20_0.keep = [false, false, false, false, true] := rfl
def tr20 : Nat → Tree := fun _ => .done
def lp20 : Nat → Nm := fun i => if i = 5 then nl20_5 else ⟨[], []⟩
def jn20 : Nat → Option Jn := fun _ => none
def ex20 : Nat → Option Nm := fun i => if i = 0 then some nx20_0 else none
def rg20 : Nat → Option Nm := fun _ => none
theorem p20 : plansOk tr20 (Try.f20.body.getD .skip) = true := by kernel_rfl
def T20 (N : Nat) : Tab := { tr := tr20, lp := lp20, ex := ex20, rg := rg20, jn := jn20, fuel := N }
theorem T20_pins (N : Nat) : (T20 N).pins = false := rfl
theorem tb20 (N : Nat) : TbOk Try.prog (T20 N) := tb_none fun _ => rfl
theorem T20_tr (N i : Nat) : (T20 N).tr i = tr20 i := rfl
theorem T20_lp (N i : Nat) : (T20 N).lp i = lp20 i := rfl
theorem T20_ex (N i : Nat) : (T20 N).ex i = ex20 i := rfl
theorem T20_rg (N i : Nat) : (T20 N).rg i = rg20 i := rfl
theorem T20_jn (N i : Nat) : (T20 N).jn i = jn20 i := rfl
theorem T20_fuel (N : Nat) : (T20 N).fuel = N := rfl
noncomputable def c20_5 : Code := cut [true, true, true, false, true, true, true] (Try.f20.body.getD .skip)
theorem c20_5_at {N : Nat} {Q : X → St → Option (Vals [i46, i4])} {e : List LV} {h : List Blk} : runT tt Γ20 (T20 N) c20_5 Q ⟨e, h⟩ = runT tt Γ20 (T20 N) (cut [true, true, true, false, true, true, true] (Try.f20.body.getD .skip)) Q ⟨e, h⟩ := rfl
theorem r20_l5 (N : Nat) (v2 : Int) (v3 : List (Val Y36)) {k0 : (List (Val Y66)) → Option (Vals [i46, i4])} {Q : X → St → Option (Vals [i46, i4])} {c : Code} (hc : c = c20_5) (hret : ∀ st, Q .ret st = retS tt true [i46, i4] [.tmp 2, .tmp 3] st) (h0 : ∀ (v5 : List (Val Y66)), Q (.exit 0) ⟨[u, u, u, u, .one (.own 0), u, u, u, u, u, u, u, u, u, u, u, u, u, u, u, u, u, u, u, u, u, u, u, u, u, u], [.row 66 Y66 v5 true true 0]⟩ = k0 v5) : ∀ (n : Nat) (v1 : Int) (v4 : List (Val Y66)), loopR (runT tt Γ20 (T20 N) c) false nl20_5 Q n ⟨[u, .one (.ptr 0 0 0), u, u, .one (.own 1), .one (.int .i64 v1), u, u, u, u, u, u, u, u, u, u, u, u, u, u, u, u, u, u, u, u, u, u, u, u, u], [.box [.int .i64 v2, .sl 36 Y36 v3 2], .row 66 Y66 v4 true true 0]⟩ = m20_l5 N v2 v3 k0 n v1 v4 := by
  subst hc; intro n; induction n with
  | zero => intros; rfl
  | succ n ih =>
    intro v1 v4
    rw [loop_succ, c20_5_at, m20_l5]; unfold Try.f20
    simp (maxSteps := 10000000) -implicitDefEqProofs [T20_tr, tr20, T20_lp, lp20, T20_ex, ex20, T20_rg, rg20, T20_jn, jn20, T20_fuel, T20_pins, nl20_5_fix, nl20_5_keep, nx20_0_fix, nx20_0_keep, Γ20_40, Γ20_41, g40, g41, hret, h0, ih]
theorem run20 (N : Nat) (v0 : Val Y32) : runT tt Γ20 (T20 N) (Try.f20.body.getD .skip) (retR tt true [i46, i4] [.tmp 2, .tmp 3]) (entryP [i32] 31 (v0, ())) = m20 N v0 := by
  unfold Try.f20
  simp (maxSteps := 10000000) -implicitDefEqProofs [T20_tr, tr20, T20_lp, lp20, T20_ex, ex20, T20_rg, rg20, T20_jn, jn20, T20_fuel, T20_pins, nl20_5_fix, nl20_5_keep, nx20_0_fix, nx20_0_keep, Γ20_40, Γ20_41, g40, g41]
  rewrite [r20_l5 (k0 := (fun (v6 : List (Val Y66)) => some (v6, true, ()))) N _ _ ?_ ?_ ?_]
  · rewrite [m20]; first | rfl | simp (maxSteps := 10000000) -implicitDefEqProofs []
  · rfl
  · intro; simp only [seqR_ret, blockR_ret, retR_ret, retX_ret]
  · intro v6; simp (maxSteps := 10000000) -implicitDefEqProofs [T20_tr, tr20, T20_lp, lp20, T20_ex, ex20, T20_rg, rg20, T20_jn, jn20, T20_fuel, T20_pins, nl20_5_fix, nl20_5_keep, nx20_0_fix, nx20_0_keep, Γ20_40, Γ20_41, g40, g41]
-- spec.BoxOf
noncomputable def m19_l3 (N : Nat) (v2 : Int) (v3 : List (Val Y36)) (k0 : (List (Val Y66)) → Option (Vals [i46, i4])) : Nat → Int → (List (Val Y66)) → Option (Vals [i46, i4])
  | 0, _, _ => none
  | n + 1, v1, v4 => bif (decide (v1 < v2)) then (chk (isCell_pre (v2, v3)) (bif ((isCell (v2, v3)) : Bool) then (chk (bndsOf_pre (v2, v3) v1) (bif (!((bndsOf (v2, v3) v1).2 : Bool)) then (some (([] : List (Val Y66)), false, ())) else (chk (v4.length + ([((((bndsOf (v2, v3) v1).1).1 : Bool), ((((((bndsOf (v2, v3) v1).1).2).1).1 : Int), (((((bndsOf (v2, v3) v1).1).2).1).2 : Int)), (((((bndsOf (v2, v3) v1).1).2).2).1 : Bool), ((((((bndsOf (v2, v3) v1).1).2).2).2).1 : Bool), (((((((((bndsOf (v2, v3) v1).1).2).2).2).2).1).1 : Int), ((((((((bndsOf (v2, v3) v1).1).2).2).2).2).1).2 : Int)), ((((((((bndsOf (v2, v3) v1).1).2).2).2).2).2).1 : Bool), ((((((((bndsOf (v2, v3) v1).1).2).2).2).2).2).2 : Bool))] : List (Val Y66)).length ≤ 1048576) (m19_l3 N v2 v3 k0 n (IntKind.i64.wrap (v1 + (1 : Int))) (v4 ++ ([((((bndsOf (v2, v3) v1).1).1 : Bool), ((((((bndsOf (v2, v3) v1).1).2).1).1 : Int), (((((bndsOf (v2, v3) v1).1).2).1).2 : Int)), (((((bndsOf (v2, v3) v1).1).2).2).1 : Bool), ((((((bndsOf (v2, v3) v1).1).2).2).2).1 : Bool), (((((((((bndsOf (v2, v3) v1).1).2).2).2).2).1).1 : Int), ((((((((bndsOf (v2, v3) v1).1).2).2).2).2).1).2 : Int)), ((((((((bndsOf (v2, v3) v1).1).2).2).2).2).2).1 : Bool), ((((((((bndsOf (v2, v3) v1).1).2).2).2).2).2).2 : Bool))] : List (Val Y66))))))) else (k0 v4))) else (k0 v4)
noncomputable def m19 (N : Nat) (v0 : Val Y32) : Option (Vals [i46, i4]) := m19_l3 N (v0.1 : Int) (v0.2 : List (Val Y36)) (fun (v6 : List (Val Y66)) => chk (isCell_pre v0) (some (v6, ((isCell v0) : Bool), ()))) N (0 : Int) ([] : List (Val Y66))
def Γ19 : Gam := [(38, g38), (39, g39)]
theorem Γ19_38 : Gam.get Γ19 38 = some g38 := rfl
theorem Γ19_39 : Gam.get Γ19 39 = some g39 := rfl
def nl19_3 : Nm := ⟨[false, true, false, false, true, true], []⟩
theorem nl19_3_fix : nl19_3.fix = [] := rfl
theorem nl19_3_keep : nl19_3.keep = [false, true, false, false, true, true] := rfl
def nx19_0 : Nm := ⟨[false, true, false, false, true], []⟩
theorem nx19_0_fix : nx19_0.fix = [] := rfl
theorem nx19_0_keep : nx19_0.keep = [false, true, false, false, true] := rfl
def tr19 : Nat → Tree := fun _ => .done
def lp19 : Nat → Nm := fun i => if i = 3 then nl19_3 else ⟨[], []⟩
def jn19 : Nat → Option Jn := fun _ => none
def ex19 : Nat → Option Nm := fun i => if i = 0 then some nx19_0 else none
def rg19 : Nat → Option Nm := fun _ => none
theorem p19 : plansOk tr19 (Try.f19.body.getD .skip) = true := by kernel_rfl
def T19 (N : Nat) : Tab := { tr := tr19, lp := lp19, ex := ex19, rg := rg19, jn := jn19, fuel := N }
theorem T19_pins (N : Nat) : (T19 N).pins = false := rfl
theorem tb19 (N : Nat) : TbOk Try.prog (T19 N) := tb_none fun _ => rfl
theorem T19_tr (N i : Nat) : (T19 N).tr i = tr19 i := rfl
theorem T19_lp (N i : Nat) : (T19 N).lp i = lp19 i := rfl
theorem T19_ex (N i : Nat) : (T19 N).ex i = ex19 i := rfl
theorem T19_rg (N i : Nat) : (T19 N).rg i = rg19 i := rfl
theorem T19_jn (N i : Nat) : (T19 N).jn i = jn19 i := rfl
theorem T19_fuel (N : Nat) : (T19 N).fuel = N := rfl
noncomputable def c19_3 : Code := cut [true, true, false, true, true, true] (Try.f19.body.getD .skip)
theorem c19_3_at {N : Nat} {Q : X → St → Option (Vals [i46, i4])} {e : List LV} {h : List Blk} : runT tt Γ19 (T19 N) c19_3 Q ⟨e, h⟩ = runT tt Γ19 (T19 N) (cut [true, true, false, true, true, true] (Try.f19.body.getD .skip)) Q ⟨e, h⟩ := rfl
theorem r19_l3 (N : Nat) (v2 : Int) (v3 : List (Val Y36)) {k0 : (List (Val Y66)) → Option (Vals [i46, i4])} {Q : X → St → Option (Vals [i46, i4])} {c : Code} (hc : c = c19_3) (hret : ∀ st, Q .ret st = retS tt true [i46, i4] [.tmp 2, .tmp 3] st) (h0 : ∀ (v5 : List (Val Y66)), Q (.exit 0) ⟨[u, .one (.ptr 0 0 0), u, u, .one (.own 1), u, u, u, u, u, u, u, u, u, u, u, u, u, u, u, u, u, u, u, u, u, u, u, u, u, u, u, u, u, u], [.box [.int .i64 v2, .sl 36 Y36 v3 2], .row 66 Y66 v5 true true 0]⟩ = k0 v5) : ∀ (n : Nat) (v1 : Int) (v4 : List (Val Y66)), loopR (runT tt Γ19 (T19 N) c) false nl19_3 Q n ⟨[u, .one (.ptr 0 0 0), u, u, .one (.own 1), .one (.int .i64 v1), u, u, u, u, u, u, u, u, u, u, u, u, u, u, u, u, u, u, u, u, u, u, u, u, u, u, u, u, u], [.box [.int .i64 v2, .sl 36 Y36 v3 2], .row 66 Y66 v4 true true 0]⟩ = m19_l3 N v2 v3 k0 n v1 v4 := by
  subst hc; intro n; induction n with
  | zero => intros; rfl
  | succ n ih =>
    intro v1 v4
    rw [loop_succ, c19_3_at, m19_l3]; unfold Try.f19
    simp (maxSteps := 10000000) -implicitDefEqProofs [T19_tr, tr19, T19_lp, lp19, T19_ex, ex19, T19_rg, rg19, T19_jn, jn19, T19_fuel, T19_pins, nl19_3_fix, nl19_3_keep, nx19_0_fix, nx19_0_keep, Γ19_38, Γ19_39, g38, g39, hret, h0, ih]
theorem run19 (N : Nat) (v0 : Val Y32) : runT tt Γ19 (T19 N) (Try.f19.body.getD .skip) (retR tt true [i46, i4] [.tmp 2, .tmp 3]) (entryP [i32] 35 (v0, ())) = m19 N v0 := by
  unfold Try.f19
  simp (maxSteps := 10000000) -implicitDefEqProofs [T19_tr, tr19, T19_lp, lp19, T19_ex, ex19, T19_rg, rg19, T19_jn, jn19, T19_fuel, T19_pins, nl19_3_fix, nl19_3_keep, nx19_0_fix, nx19_0_keep, Γ19_38, Γ19_39, g38, g39]
  rewrite [r19_l3 (k0 := (fun (v6 : List (Val Y66)) => chk (isCell_pre v0) (some (v6, ((isCell v0) : Bool), ())))) N _ _ ?_ ?_ ?_]
  · rewrite [m19]; first | rfl | simp (maxSteps := 10000000) -implicitDefEqProofs []
  · rfl
  · intro; simp only [seqR_ret, blockR_ret, retR_ret, retX_ret]
  · intro v6; simp (maxSteps := 10000000) -implicitDefEqProofs [T19_tr, tr19, T19_lp, lp19, T19_ex, ex19, T19_rg, rg19, T19_jn, jn19, T19_fuel, T19_pins, nl19_3_fix, nl19_3_keep, nx19_0_fix, nx19_0_keep, Γ19_38, Γ19_39, g38, g39]
def openB (b : Val Y66) : Bool := !b.2.2.2.2.2.2 && (!b.1 || !b.2.2.2.1)
def isBd (c : Val Y32) : Bool × Bool := bif (boxOf c).2 then (!(List.any (α := Val Y66) (boxOf c).1 openB), true) else (false, false)
def isBd_pre (c : Val Y32) : Prop := isCell_pre c
def g18 : G := { ps := [i32], rs := [i4, i4], dp := true, pre := fun _ => True, fn := fun x => ((isBd x.1).1, (isBd x.1).2, ()) }
def g17 : G := { ps := [i32], rs := [i4, i4], dp := true, pre := fun x => isBd_pre x.1, fn := fun x => ((isBd x.1).1, (isBd x.1).2, ()) }
-- impl.IsBounded
noncomputable def m18_l5 (N : Nat) (v1 : Int) (v3 : List (Val Y66)) (k0 : Unit → Option (Vals [i4, i4])) : Nat → Int → Option (Vals [i4, i4])
  | 0, _ => none
  | n + 1, v2 => bif (decide (v2 < v1)) then (chk (0 ≤ v2 ∧ v2 < (v3.length : Int)) (chk (v2.toNat < v3.length) (bif (!(((((((v3.getD v2.toNat (dflt Y66)).2).2).2).2).2).2 : Bool)) then (bif (!((v3.getD v2.toNat (dflt Y66)).1 : Bool)) then (some (false, true, ())) else (bif (!(((((v3.getD v2.toNat (dflt Y66)).2).2).2).1 : Bool)) then (some (false, true, ())) else (m18_l5 N v1 v3 k0 n (IntKind.i64.wrap (v2 + (1 : Int)))))) else (m18_l5 N v1 v3 k0 n (IntKind.i64.wrap (v2 + (1 : Int))))))) else (k0 ())
noncomputable def m18 (N : Nat) (v0 : Val Y32) : Option (Vals [i4, i4]) := bif (!((boxOf v0).2 : Bool)) then (some (false, false, ())) else (m18_l5 N (((boxOf v0).1 : List (Val Y66)).length : Int) ((boxOf v0).1 : List (Val Y66)) (fun (_ : Unit) => some (true, true, ())) N (0 : Int))
def Γ18 : Gam := [(20, g20)]
theorem Γ18_20 : Gam.get Γ18 20 = some g20 := rfl
def nl18_5 : Nm := ⟨[false, false, false, false, false, false, false, false, false, false, false, false, false, false, false, true, true, true], []⟩
theorem nl18_5_fix : nl18_5.fix = [] := rfl
theorem nl18_5_keep : nl18_5.keep = [false, false, false, false, false, false, false, false, false, false, false, false, false, false, false, true, true, true] := rfl
def nx18_0 : Nm := ⟨[], []⟩
theorem nx18_0_fix : nx18_0.fix = [] := rfl
theorem nx18_0_keep : nx18_0.keep = [] := rfl
def tr18 : Nat → Tree := fun _ => .done
def lp18 : Nat → Nm := fun i => if i = 5 then nl18_5 else ⟨[], []⟩
def jn18 : Nat → Option Jn := fun _ => none
def ex18 : Nat → Option Nm := fun i => if i = 0 then some nx18_0 else none
def rg18 : Nat → Option Nm := fun _ => none
theorem p18 : plansOk tr18 (Try.f18.body.getD .skip) = true := by kernel_rfl
def T18 (N : Nat) : Tab := { tr := tr18, lp := lp18, ex := ex18, rg := rg18, jn := jn18, fuel := N }
theorem T18_pins (N : Nat) : (T18 N).pins = false := rfl
theorem tb18 (N : Nat) : TbOk Try.prog (T18 N) := tb_none fun _ => rfl
theorem T18_tr (N i : Nat) : (T18 N).tr i = tr18 i := rfl
theorem T18_lp (N i : Nat) : (T18 N).lp i = lp18 i := rfl
theorem T18_ex (N i : Nat) : (T18 N).ex i = ex18 i := rfl
theorem T18_rg (N i : Nat) : (T18 N).rg i = rg18 i := rfl
theorem T18_jn (N i : Nat) : (T18 N).jn i = jn18 i := rfl
theorem T18_fuel (N : Nat) : (T18 N).fuel = N := rfl
noncomputable def c18_5 : Code := cut [true, true, true, false, true, true, true] (Try.f18.body.getD .skip)
theorem c18_5_at {N : Nat} {Q : X → St → Option (Vals [i4, i4])} {e : List LV} {h : List Blk} : runT tt Γ18 (T18 N) c18_5 Q ⟨e, h⟩ = runT tt Γ18 (T18 N) (cut [true, true, true, false, true, true, true] (Try.f18.body.getD .skip)) Q ⟨e, h⟩ := rfl
theorem r18_l5 (N : Nat) (v1 : Int) (v3 : List (Val Y66)) {k0 : Unit → Option (Vals [i4, i4])} {Q : X → St → Option (Vals [i4, i4])} {c : Code} (hc : c = c18_5) (hret : ∀ st, Q .ret st = retS tt true [i4, i4] [.tmp 2, .tmp 3] st) (h0 : Q (.exit 0) ⟨[u, u, u, u, u, u, u, u, u, u, u, u, u, u, u, u, u, u, u, u, u, u, u, u, u, u, u, u, u, u, u, u, u, u, u], []⟩ = k0 ()) : ∀ (n : Nat) (v2 : Int), loopR (runT tt Γ18 (T18 N) c) false nl18_5 Q n ⟨[u, u, u, u, u, u, u, u, u, u, u, u, u, u, u, .one (.own 0), .one (.int .i64 v1), .one (.int .i64 v2), u, u, u, u, u, u, u, u, u, u, u, u, u, u, u, u, u], [.row 66 Y66 v3 true true 0]⟩ = m18_l5 N v1 v3 k0 n v2 := by
  subst hc; intro n; induction n with
  | zero => intros; rfl
  | succ n ih =>
    intro v2
    rw [loop_succ, c18_5_at, m18_l5]; unfold Try.f18
    simp (maxSteps := 10000000) -implicitDefEqProofs [T18_tr, tr18, T18_lp, lp18, T18_ex, ex18, T18_rg, rg18, T18_jn, jn18, T18_fuel, T18_pins, nl18_5_fix, nl18_5_keep, nx18_0_fix, nx18_0_keep, Γ18_20, g20, hret, h0, ih]
theorem run18 (N : Nat) (v0 : Val Y32) : runT tt Γ18 (T18 N) (Try.f18.body.getD .skip) (retR tt true [i4, i4] [.tmp 2, .tmp 3]) (entryP [i32] 35 (v0, ())) = m18 N v0 := by
  unfold Try.f18
  simp (maxSteps := 10000000) -implicitDefEqProofs [T18_tr, tr18, T18_lp, lp18, T18_ex, ex18, T18_rg, rg18, T18_jn, jn18, T18_fuel, T18_pins, nl18_5_fix, nl18_5_keep, nx18_0_fix, nx18_0_keep, Γ18_20, g20]
  rewrite [r18_l5 (k0 := (fun (_ : Unit) => some (true, true, ()))) N _ _ ?_ ?_ ?_]
  · rewrite [m18]; first | rfl | simp (maxSteps := 10000000) -implicitDefEqProofs []
  · rfl
  · intro; simp only [seqR_ret, blockR_ret, retR_ret, retX_ret]
  · simp (maxSteps := 10000000) -implicitDefEqProofs [T18_tr, tr18, T18_lp, lp18, T18_ex, ex18, T18_rg, rg18, T18_jn, jn18, T18_fuel, T18_pins, nl18_5_fix, nl18_5_keep, nx18_0_fix, nx18_0_keep, Γ18_20, g20]
-- spec.IsBounded
noncomputable def m17_l3 (N : Nat) (v1 : Bool) (v3 : List (Val Y66)) (k0 : Unit → Option (Vals [i4, i4])) : Nat → Int → Option (Vals [i4, i4])
  | 0, _ => none
  | n + 1, v2 => bif (decide (v2 < (v3.length : Int))) then (chk (0 ≤ v2 ∧ v2 < (v3.length : Int)) (chk (v2.toNat < v3.length) (bif (!(((((((v3.getD v2.toNat (dflt Y66)).2).2).2).2).2).2 : Bool)) then (chk (0 ≤ v2 ∧ v2 < (v3.length : Int)) (chk (v2.toNat < v3.length) (bif (!((v3.getD v2.toNat (dflt Y66)).1 : Bool)) then (some (false, true, ())) else (chk (0 ≤ v2 ∧ v2 < (v3.length : Int)) (chk (v2.toNat < v3.length) (bif (!(((((v3.getD v2.toNat (dflt Y66)).2).2).2).1 : Bool)) then (some (false, true, ())) else (m17_l3 N v1 v3 k0 n (IntKind.i64.wrap (v2 + (1 : Int)))))))))) else (m17_l3 N v1 v3 k0 n (IntKind.i64.wrap (v2 + (1 : Int))))))) else (k0 ())
noncomputable def m17 (N : Nat) (v0 : Val Y32) : Option (Vals [i4, i4]) := chk (boxOf_pre v0) (m17_l3 N ((boxOf v0).2 : Bool) ((boxOf v0).1 : List (Val Y66)) (fun (_ : Unit) => some (((boxOf v0).2 : Bool), ((boxOf v0).2 : Bool), ())) N (0 : Int))
def Γ17 : Gam := [(19, g19)]
theorem Γ17_19 : Gam.get Γ17 19 = some g19 := rfl
def nl17_3 : Nm := ⟨[false, false, false, false, true, true, true], []⟩
theorem nl17_3_fix : nl17_3.fix = [] := rfl
theorem nl17_3_keep : nl17_3.keep = [false, false, false, false, true, true, true] := rfl
def nx17_0 : Nm := ⟨[false, false, false, false, false, true], []⟩
theorem nx17_0_fix : nx17_0.fix = [] := rfl
theorem nx17_0_keep : nx17_0.keep = [false, false, false, false, false, true] := rfl
def tr17 : Nat → Tree := fun _ => .done
def lp17 : Nat → Nm := fun i => if i = 3 then nl17_3 else ⟨[], []⟩
def jn17 : Nat → Option Jn := fun _ => none
def ex17 : Nat → Option Nm := fun i => if i = 0 then some nx17_0 else none
def rg17 : Nat → Option Nm := fun _ => none
theorem p17 : plansOk tr17 (Try.f17.body.getD .skip) = true := by kernel_rfl
def T17 (N : Nat) : Tab := { tr := tr17, lp := lp17, ex := ex17, rg := rg17, jn := jn17, fuel := N }
theorem T17_pins (N : Nat) : (T17 N).pins = false := rfl
theorem tb17 (N : Nat) : TbOk Try.prog (T17 N) := tb_none fun _ => rfl
theorem T17_tr (N i : Nat) : (T17 N).tr i = tr17 i := rfl
theorem T17_lp (N i : Nat) : (T17 N).lp i = lp17 i := rfl
theorem T17_ex (N i : Nat) : (T17 N).ex i = ex17 i := rfl
theorem T17_rg (N i : Nat) : (T17 N).rg i = rg17 i := rfl
theorem T17_jn (N i : Nat) : (T17 N).jn i = jn17 i := rfl
theorem T17_fuel (N : Nat) : (T17 N).fuel = N := rfl
noncomputable def c17_3 : Code := cut [true, true, false, true, true, true] (Try.f17.body.getD .skip)
theorem c17_3_at {N : Nat} {Q : X → St → Option (Vals [i4, i4])} {e : List LV} {h : List Blk} : runT tt Γ17 (T17 N) c17_3 Q ⟨e, h⟩ = runT tt Γ17 (T17 N) (cut [true, true, false, true, true, true] (Try.f17.body.getD .skip)) Q ⟨e, h⟩ := rfl
theorem r17_l3 (N : Nat) (v1 : Bool) (v3 : List (Val Y66)) {k0 : Unit → Option (Vals [i4, i4])} {Q : X → St → Option (Vals [i4, i4])} {c : Code} (hc : c = c17_3) (hret : ∀ st, Q .ret st = retS tt true [i4, i4] [.tmp 2, .tmp 3] st) (h0 : Q (.exit 0) ⟨[u, u, u, u, u, .one (.bool v1), u, u, u, u, u, u, u, u, u, u, u, u, u, u, u, u, u, u, u, u, u, u, u, u, u, u, u, u, u, u, u, u, u, u, u, u], []⟩ = k0 ()) : ∀ (n : Nat) (v2 : Int), loopR (runT tt Γ17 (T17 N) c) false nl17_3 Q n ⟨[u, u, u, u, .one (.own 0), .one (.bool v1), .one (.int .i64 v2), u, u, u, u, u, u, u, u, u, u, u, u, u, u, u, u, u, u, u, u, u, u, u, u, u, u, u, u, u, u, u, u, u, u, u], [.row 66 Y66 v3 true true 0]⟩ = m17_l3 N v1 v3 k0 n v2 := by
  subst hc; intro n; induction n with
  | zero => intros; rfl
  | succ n ih =>
    intro v2
    rw [loop_succ, c17_3_at, m17_l3]; unfold Try.f17
    simp (maxSteps := 10000000) -implicitDefEqProofs [T17_tr, tr17, T17_lp, lp17, T17_ex, ex17, T17_rg, rg17, T17_jn, jn17, T17_fuel, T17_pins, nl17_3_fix, nl17_3_keep, nx17_0_fix, nx17_0_keep, Γ17_19, g19, hret, h0, ih]
theorem run17 (N : Nat) (v0 : Val Y32) : runT tt Γ17 (T17 N) (Try.f17.body.getD .skip) (retR tt true [i4, i4] [.tmp 2, .tmp 3]) (entryP [i32] 42 (v0, ())) = m17 N v0 := by
  unfold Try.f17
  simp (maxSteps := 10000000) -implicitDefEqProofs [T17_tr, tr17, T17_lp, lp17, T17_ex, ex17, T17_rg, rg17, T17_jn, jn17, T17_fuel, T17_pins, nl17_3_fix, nl17_3_keep, nx17_0_fix, nx17_0_keep, Γ17_19, g19]
  rewrite [r17_l3 (k0 := (fun (_ : Unit) => some (((boxOf v0).2 : Bool), ((boxOf v0).2 : Bool), ()))) N _ _ ?_ ?_ ?_]
  · rewrite [m17]; first | rfl | simp (maxSteps := 10000000) -implicitDefEqProofs []
  · rfl
  · intro; simp only [seqR_ret, blockR_ret, retR_ret, retX_ret]
  · simp (maxSteps := 10000000) -implicitDefEqProofs [T17_tr, tr17, T17_lp, lp17, T17_ex, ex17, T17_rg, rg17, T17_jn, jn17, T17_fuel, T17_pins, nl17_3_fix, nl17_3_keep, nx17_0_fix, nx17_0_keep, Γ17_19, g19]
end Go.T
