/- Mixed atoms. -/
import Derived.Test.YthefcjjgchekiaaGreatB6n
set_option linter.unusedSimpArgs false
set_option linter.unusedVariables false
namespace Go.T
open Go Go.Proofs
set_option maxHeartbeats 4000000
set_option maxRecDepth 100000
def mixC (p q : Int) (xs ys : List Int) : List Int := (List.zip xs ys).map fun z => p * z.1 + q * z.2
def mixA (a : Val Y108) (p : Int) (b : Val Y108) (q : Int) : Val Y108 × Bool :=
  bif isAtom a && isAtom b && decide (List.length (α := Int) a.1 = List.length (α := Int) b.1) && inR p 0 400000000 && inR q 0 400000000 then mkAtom (mixC p q a.1 b.1) (p * a.2.1 + q * b.2.1) ((a.2.2 && decide (0 < p)) || (b.2.2 && decide (0 < q))) else (([], ((0 : Int), false)), false)
def mixA_pre (a : Val Y108) (_ : Int) (b : Val Y108) (_ : Int) : Prop := idA_pre a ∧ idA_pre b
def g293 : G := { ps := [i108, i3, i108, i3], rs := [i108, i4], dp := true, pre := fun _ => True, fn := fun x => ((mixA x.1 x.2.1 x.2.2.1 x.2.2.2.1).1, (mixA x.1 x.2.1 x.2.2.1 x.2.2.2.1).2, ()) }
def g235 : G := { ps := [i108, i3, i108, i3], rs := [i108, i4], dp := true, pre := fun x => mixA_pre x.1 x.2.1 x.2.2.1 x.2.2.2.1, fn := fun x => ((mixA x.1 x.2.1 x.2.2.1 x.2.2.2.1).1, (mixA x.1 x.2.1 x.2.2.1 x.2.2.2.1).2, ()) }
noncomputable def m293_l7 (N : Nat) (v4 : Int) (v5 : Int) (v6 : Int) (v8 : List (Val (.int .i64))) (v9 : Int) (v10 : Bool) (v11 : List (Val (.int .i64))) (v12 : Int) (v13 : Bool) (v14 : Int) (v15 : Bool) (k0 : (List (Val (.int .i64))) → Option (Vals [i108, i4])) : Nat → Int → (List (Val (.int .i64))) → Option (Vals [i108, i4])
  | 0, _, _ => none
  | n + 1, v7, v16 => bif (decide (v7 < v6)) then (chk (0 ≤ v7 ∧ v7 < (v8.length : Int)) (chk (0 ≤ v7 ∧ v7 < (v11.length : Int)) (chk (0 ≤ v7 ∧ v7 < (v16.length : Int)) (chk (v7.toNat < v16.length) (m293_l7 N v4 v5 v6 v8 v9 v10 v11 v12 v13 v14 v15 k0 n (IntKind.i64.wrap (v7 + (1 : Int))) (v16.set v7.toNat (IntKind.i64.wrap ((IntKind.i64.wrap (v4 * ((v8.getD v7.toNat (dflt (.int .i64))) : Int))) + (IntKind.i64.wrap (v5 * ((v11.getD v7.toNat (dflt (.int .i64))) : Int))))))))))) else (k0 v16)
noncomputable def m293 (N : Nat) (v0 : Val Y108) (v1 : Int) (v2 : Val Y108) (v3 : Int) : Option (Vals [i108, i4]) := bif (!((isAtom v0) : Bool)) then (some ((([] : List (Val (.int .i64))), (0 : Int), false), false, ())) else (bif (!((isAtom v2) : Bool)) then (some ((([] : List (Val (.int .i64))), (0 : Int), false), false, ())) else (bif (!(decide (((v0.1 : List (Val (.int .i64))).length : Int) = ((v2.1 : List (Val (.int .i64))).length : Int)))) then (some ((([] : List (Val (.int .i64))), (0 : Int), false), false, ())) else (bif (decide (v1 < (0 : Int))) then (some ((([] : List (Val (.int .i64))), (0 : Int), false), false, ())) else (bif (decide ((400000000 : Int) < v1)) then (some ((([] : List (Val (.int .i64))), (0 : Int), false), false, ())) else (bif (decide (v3 < (0 : Int))) then (some ((([] : List (Val (.int .i64))), (0 : Int), false), false, ())) else (bif (decide ((400000000 : Int) < v3)) then (some ((([] : List (Val (.int .i64))), (0 : Int), false), false, ())) else (chk (0 ≤ ((v0.1 : List (Val (.int .i64))).length : Int) ∧ ((v0.1 : List (Val (.int .i64))).length : Int) ≤ ((v0.1 : List (Val (.int .i64))).length : Int) ∧ ((v0.1 : List (Val (.int .i64))).length : Int) ≤ 1048576) (m293_l7 N v1 v3 ((List.replicate ((v0.1 : List (Val (.int .i64))).length : Int).toNat (dflt (.int .i64))).length : Int) (v0.1 : List (Val (.int .i64))) (v0.2.1 : Int) (v0.2.2 : Bool) (v2.1 : List (Val (.int .i64))) (v2.2.1 : Int) (v2.2.2 : Bool) (0 : Int) false (fun (v18 : List (Val (.int .i64))) => bif (v0.2.2 : Bool) then (bif (!(decide (v1 = (0 : Int)))) then (chk (mkAtom_pre v18 (IntKind.i64.wrap ((IntKind.i64.wrap (v1 * (v0.2.1 : Int))) + (IntKind.i64.wrap (v3 * (v2.2.1 : Int))))) true) (some (((((mkAtom v18 (IntKind.i64.wrap ((IntKind.i64.wrap (v1 * (v0.2.1 : Int))) + (IntKind.i64.wrap (v3 * (v2.2.1 : Int))))) true).1).1 : List (Val (.int .i64))), ((((mkAtom v18 (IntKind.i64.wrap ((IntKind.i64.wrap (v1 * (v0.2.1 : Int))) + (IntKind.i64.wrap (v3 * (v2.2.1 : Int))))) true).1).2).1 : Int), ((((mkAtom v18 (IntKind.i64.wrap ((IntKind.i64.wrap (v1 * (v0.2.1 : Int))) + (IntKind.i64.wrap (v3 * (v2.2.1 : Int))))) true).1).2).2 : Bool)), ((mkAtom v18 (IntKind.i64.wrap ((IntKind.i64.wrap (v1 * (v0.2.1 : Int))) + (IntKind.i64.wrap (v3 * (v2.2.1 : Int))))) true).2 : Bool), ()))) else (bif (v2.2.2 : Bool) then (chk (mkAtom_pre v18 (IntKind.i64.wrap ((IntKind.i64.wrap (v1 * (v0.2.1 : Int))) + (IntKind.i64.wrap (v3 * (v2.2.1 : Int))))) (!(decide (v3 = (0 : Int))))) (some (((((mkAtom v18 (IntKind.i64.wrap ((IntKind.i64.wrap (v1 * (v0.2.1 : Int))) + (IntKind.i64.wrap (v3 * (v2.2.1 : Int))))) (!(decide (v3 = (0 : Int))))).1).1 : List (Val (.int .i64))), ((((mkAtom v18 (IntKind.i64.wrap ((IntKind.i64.wrap (v1 * (v0.2.1 : Int))) + (IntKind.i64.wrap (v3 * (v2.2.1 : Int))))) (!(decide (v3 = (0 : Int))))).1).2).1 : Int), ((((mkAtom v18 (IntKind.i64.wrap ((IntKind.i64.wrap (v1 * (v0.2.1 : Int))) + (IntKind.i64.wrap (v3 * (v2.2.1 : Int))))) (!(decide (v3 = (0 : Int))))).1).2).2 : Bool)), ((mkAtom v18 (IntKind.i64.wrap ((IntKind.i64.wrap (v1 * (v0.2.1 : Int))) + (IntKind.i64.wrap (v3 * (v2.2.1 : Int))))) (!(decide (v3 = (0 : Int))))).2 : Bool), ()))) else (chk (mkAtom_pre v18 (IntKind.i64.wrap ((IntKind.i64.wrap (v1 * (v0.2.1 : Int))) + (IntKind.i64.wrap (v3 * (v2.2.1 : Int))))) false) (some (((((mkAtom v18 (IntKind.i64.wrap ((IntKind.i64.wrap (v1 * (v0.2.1 : Int))) + (IntKind.i64.wrap (v3 * (v2.2.1 : Int))))) false).1).1 : List (Val (.int .i64))), ((((mkAtom v18 (IntKind.i64.wrap ((IntKind.i64.wrap (v1 * (v0.2.1 : Int))) + (IntKind.i64.wrap (v3 * (v2.2.1 : Int))))) false).1).2).1 : Int), ((((mkAtom v18 (IntKind.i64.wrap ((IntKind.i64.wrap (v1 * (v0.2.1 : Int))) + (IntKind.i64.wrap (v3 * (v2.2.1 : Int))))) false).1).2).2 : Bool)), ((mkAtom v18 (IntKind.i64.wrap ((IntKind.i64.wrap (v1 * (v0.2.1 : Int))) + (IntKind.i64.wrap (v3 * (v2.2.1 : Int))))) false).2 : Bool), ()))))) else (bif (v2.2.2 : Bool) then (chk (mkAtom_pre v18 (IntKind.i64.wrap ((IntKind.i64.wrap (v1 * (v0.2.1 : Int))) + (IntKind.i64.wrap (v3 * (v2.2.1 : Int))))) (!(decide (v3 = (0 : Int))))) (some (((((mkAtom v18 (IntKind.i64.wrap ((IntKind.i64.wrap (v1 * (v0.2.1 : Int))) + (IntKind.i64.wrap (v3 * (v2.2.1 : Int))))) (!(decide (v3 = (0 : Int))))).1).1 : List (Val (.int .i64))), ((((mkAtom v18 (IntKind.i64.wrap ((IntKind.i64.wrap (v1 * (v0.2.1 : Int))) + (IntKind.i64.wrap (v3 * (v2.2.1 : Int))))) (!(decide (v3 = (0 : Int))))).1).2).1 : Int), ((((mkAtom v18 (IntKind.i64.wrap ((IntKind.i64.wrap (v1 * (v0.2.1 : Int))) + (IntKind.i64.wrap (v3 * (v2.2.1 : Int))))) (!(decide (v3 = (0 : Int))))).1).2).2 : Bool)), ((mkAtom v18 (IntKind.i64.wrap ((IntKind.i64.wrap (v1 * (v0.2.1 : Int))) + (IntKind.i64.wrap (v3 * (v2.2.1 : Int))))) (!(decide (v3 = (0 : Int))))).2 : Bool), ()))) else (chk (mkAtom_pre v18 (IntKind.i64.wrap ((IntKind.i64.wrap (v1 * (v0.2.1 : Int))) + (IntKind.i64.wrap (v3 * (v2.2.1 : Int))))) false) (some (((((mkAtom v18 (IntKind.i64.wrap ((IntKind.i64.wrap (v1 * (v0.2.1 : Int))) + (IntKind.i64.wrap (v3 * (v2.2.1 : Int))))) false).1).1 : List (Val (.int .i64))), ((((mkAtom v18 (IntKind.i64.wrap ((IntKind.i64.wrap (v1 * (v0.2.1 : Int))) + (IntKind.i64.wrap (v3 * (v2.2.1 : Int))))) false).1).2).1 : Int), ((((mkAtom v18 (IntKind.i64.wrap ((IntKind.i64.wrap (v1 * (v0.2.1 : Int))) + (IntKind.i64.wrap (v3 * (v2.2.1 : Int))))) false).1).2).2 : Bool)), ((mkAtom v18 (IntKind.i64.wrap ((IntKind.i64.wrap (v1 * (v0.2.1 : Int))) + (IntKind.i64.wrap (v3 * (v2.2.1 : Int))))) false).2 : Bool), ()))))) N (0 : Int) (List.replicate ((v0.1 : List (Val (.int .i64))).length : Int).toNat (dflt (.int .i64)))))))))))
def Γ293 : Gam := [(207, g207), (279, g279)]
theorem Γ293_207 : Gam.get Γ293 207 = some g207 := rfl
theorem Γ293_279 : Gam.get Γ293 279 = some g279 := rfl
def nl293_7 : Nm := ⟨[false, true, false, true, true, false, true, false, true, false, true, false, false, false, false, false, false, false, false, false, false, false, false, false, false, false, false, false, false, false, false, false, false, false, false, false, false, false, false, false, false, false, false, false, false, false, false, false, false, false, true, true], [], false⟩
theorem nl293_7_zero : nl293_7.zero = false := rfl
theorem nl293_7_fix : nl293_7.fix = [] := rfl
theorem nl293_7_keep : nl293_7.keep = [false, true, false, true, true, false, true, false, true, false, true, false, false, false, false, false, false, false, false, false, false, false, false, false, false, false, false, false, false, false, false, false, false, false, false, false, false, false, false, false, false, false, false, false, false, false, false, false, false, false, true, true] := rfl
def nx293_0 : Nm := ⟨[false, true, false, true, true, false, true, false, true, false, true], [], false⟩
theorem nx293_0_zero : nx293_0.zero = false := rfl
theorem nx293_0_fix : nx293_0.fix = [] := rfl
theorem nx293_0_keep : nx293_0.keep = [false, true, false, true, true, false, true, false, true, false, true] := rfl
def tr293 : Nat → Tree := fun i => if i = 9 then .quiet 0 (.quiet 1 (.quiet 2 (.quiet 3 (.quiet 4 (.quiet 5 (.quiet 6 (.quiet 7 (.quiet 8 (.quiet 9 (.quiet 10 (.quiet 11 (.quiet 12 (.quiet 13 (.quiet 14 (.quiet 15 (.quiet 16 (.quiet 17 (.alt 18 .done .stop)))))))))))))))))) else .done
def lp293 : Nat → Nm := fun i => if i = 7 then nl293_7 else ⟨[], [], false⟩
def jn293 : Nat → Option Jn := fun _ => none
def ex293 : Nat → Option Nm := fun i => if i = 0 then some nx293_0 else none
def rg293 : Nat → Option Nm := fun _ => none
theorem p293 : plansOk tr293 (Tryz.f293.body.getD .skip) = true := by kernel_rfl
def T293 (N : Nat) : Tab := { tr := tr293, lp := lp293, ex := ex293, rg := rg293, jn := jn293, fuel := N }
theorem T293_pins (N : Nat) : (T293 N).pins = false := rfl
theorem tb293 (N : Nat) : TbOk Tryz.prog (T293 N) := tb_none fun _ => rfl
theorem T293_tr (N : Nat) (i : Nat) : (T293 N).tr i = tr293 i := rfl
theorem T293_lp (N : Nat) (i : Nat) : (T293 N).lp i = lp293 i := rfl
theorem T293_ex (N : Nat) (i : Nat) : (T293 N).ex i = ex293 i := rfl
theorem T293_rg (N : Nat) (i : Nat) : (T293 N).rg i = rg293 i := rfl
theorem T293_jn (N : Nat) (i : Nat) : (T293 N).jn i = jn293 i := rfl
theorem T293_fuel (N : Nat) : (T293 N).fuel = N := rfl
noncomputable def c293_7 : Code := cut [true, true, true, true, false, true, true, true] (Tryz.f293.body.getD .skip)
theorem c293_7_at {N : Nat} {Q : X → St → Option (Vals [i108, i4])} {e : List LV} {h : List Blk} : runT tt Γ293 (T293 N) c293_7 Q ⟨e, h⟩ = runT tt Γ293 (T293 N) (cut [true, true, true, true, false, true, true, true] (Tryz.f293.body.getD .skip)) Q ⟨e, h⟩ := rfl
theorem r293_l7 (N : Nat) (v4 : Int) (v5 : Int) (v6 : Int) (v8 : List (Val (.int .i64))) (v9 : Int) (v10 : Bool) (v11 : List (Val (.int .i64))) (v12 : Int) (v13 : Bool) (v14 : Int) (v15 : Bool) {k0 : (List (Val (.int .i64))) → Option (Vals [i108, i4])} {Q : X → St → Option (Vals [i108, i4])} {c : Code} (hc : c = c293_7) (hret : ∀ st, Q .ret st = retS tt true [i108, i4] [.cell 8 108, .tmp 9] st) (h0 : ∀ (v17 : List (Val (.int .i64))), Q (.exit 0) ⟨[u, .one (.int .i64 v4), u, .one (.int .i64 v5), .one (.ptr 0 0 0), u, .one (.ptr 1 0 0), u, .one (.ptr 2 0 0), u, .one (.own 3), u, u, u, u, u, u, u, u, u, u, u, u, u, u, u, u, u, u, u, u, u, u, u, u, u, u, u, u, u, u, u, u, u, u, u, u, u, u, u, u, u, u, u, u, u, u, u, u, u, u, u, u, u, u, u, u, u, u, u, u, u, u, u, u, u, u, u, u, u, u, u, u, u, u, u, u, u, u, u, u, u, u, u, u, u, u, u, u, u], [.box [.sl 3 (.int .i64) v8 4, .int .i64 v9, .bool v10], .box [.sl 3 (.int .i64) v11 4, .int .i64 v12, .bool v13], .box [.nils, .int .i64 v14, .bool v15], .row 3 (.int .i64) v17 true true 0]⟩ = k0 v17) : ∀ (n : Nat) (v7 : Int) (v16 : List (Val (.int .i64))), loopR (runT tt Γ293 (T293 N) c) false nl293_7 Q n ⟨[u, .one (.int .i64 v4), u, .one (.int .i64 v5), .one (.ptr 0 0 0), u, .one (.ptr 1 0 0), u, .one (.ptr 2 0 0), u, .one (.own 3), u, u, u, u, u, u, u, u, u, u, u, u, u, u, u, u, u, u, u, u, u, u, u, u, u, u, u, u, u, u, u, u, u, u, u, u, u, u, u, .one (.int .i64 v6), .one (.int .i64 v7), u, u, u, u, u, u, u, u, u, u, u, u, u, u, u, u, u, u, u, u, u, u, u, u, u, u, u, u, u, u, u, u, u, u, u, u, u, u, u, u, u, u, u, u, u, u, u, u], [.box [.sl 3 (.int .i64) v8 4, .int .i64 v9, .bool v10], .box [.sl 3 (.int .i64) v11 4, .int .i64 v12, .bool v13], .box [.nils, .int .i64 v14, .bool v15], .row 3 (.int .i64) v16 true true 0]⟩ = m293_l7 N v4 v5 v6 v8 v9 v10 v11 v12 v13 v14 v15 k0 n v7 v16 := by
  subst hc; intro n; induction n with
  | zero => intros; rfl
  | succ n ih =>
    intro v7 v16
    rw [loop_succ, c293_7_at, m293_l7]; unfold Tryz.f293
    simp (maxSteps := 10000000) -implicitDefEqProofs [T293_tr, tr293, T293_lp, lp293, T293_ex, ex293, T293_rg, rg293, T293_jn, jn293, T293_fuel, T293_pins, nl293_7_fix, nl293_7_keep, nl293_7_zero, nx293_0_fix, nx293_0_keep, nx293_0_zero, Γ293_207, Γ293_279, g207, g279, hret, h0, ih]
theorem run293 (N : Nat) (v0 : Val Y108) (v1 : Int) (v2 : Val Y108) (v3 : Int) : runT tt Γ293 (T293 N) (Tryz.f293.body.getD .skip) (retR tt true [i108, i4] [.cell 8 108, .tmp 9]) (entryP [i108, i3, i108, i3] 100 (v0, v1, v2, v3, ())) = m293 N v0 v1 v2 v3 := by
  unfold Tryz.f293
  simp (maxSteps := 10000000) -implicitDefEqProofs [T293_tr, tr293, T293_lp, lp293, T293_ex, ex293, T293_rg, rg293, T293_jn, jn293, T293_fuel, T293_pins, nl293_7_fix, nl293_7_keep, nl293_7_zero, nx293_0_fix, nx293_0_keep, nx293_0_zero, Γ293_207, Γ293_279, g207, g279]
  rewrite [r293_l7 (k0 := (fun (v18 : List (Val (.int .i64))) => bif (v0.2.2 : Bool) then (bif (!(decide (v1 = (0 : Int)))) then (chk (mkAtom_pre v18 (IntKind.i64.wrap ((IntKind.i64.wrap (v1 * (v0.2.1 : Int))) + (IntKind.i64.wrap (v3 * (v2.2.1 : Int))))) true) (some (((((mkAtom v18 (IntKind.i64.wrap ((IntKind.i64.wrap (v1 * (v0.2.1 : Int))) + (IntKind.i64.wrap (v3 * (v2.2.1 : Int))))) true).1).1 : List (Val (.int .i64))), ((((mkAtom v18 (IntKind.i64.wrap ((IntKind.i64.wrap (v1 * (v0.2.1 : Int))) + (IntKind.i64.wrap (v3 * (v2.2.1 : Int))))) true).1).2).1 : Int), ((((mkAtom v18 (IntKind.i64.wrap ((IntKind.i64.wrap (v1 * (v0.2.1 : Int))) + (IntKind.i64.wrap (v3 * (v2.2.1 : Int))))) true).1).2).2 : Bool)), ((mkAtom v18 (IntKind.i64.wrap ((IntKind.i64.wrap (v1 * (v0.2.1 : Int))) + (IntKind.i64.wrap (v3 * (v2.2.1 : Int))))) true).2 : Bool), ()))) else (bif (v2.2.2 : Bool) then (chk (mkAtom_pre v18 (IntKind.i64.wrap ((IntKind.i64.wrap (v1 * (v0.2.1 : Int))) + (IntKind.i64.wrap (v3 * (v2.2.1 : Int))))) (!(decide (v3 = (0 : Int))))) (some (((((mkAtom v18 (IntKind.i64.wrap ((IntKind.i64.wrap (v1 * (v0.2.1 : Int))) + (IntKind.i64.wrap (v3 * (v2.2.1 : Int))))) (!(decide (v3 = (0 : Int))))).1).1 : List (Val (.int .i64))), ((((mkAtom v18 (IntKind.i64.wrap ((IntKind.i64.wrap (v1 * (v0.2.1 : Int))) + (IntKind.i64.wrap (v3 * (v2.2.1 : Int))))) (!(decide (v3 = (0 : Int))))).1).2).1 : Int), ((((mkAtom v18 (IntKind.i64.wrap ((IntKind.i64.wrap (v1 * (v0.2.1 : Int))) + (IntKind.i64.wrap (v3 * (v2.2.1 : Int))))) (!(decide (v3 = (0 : Int))))).1).2).2 : Bool)), ((mkAtom v18 (IntKind.i64.wrap ((IntKind.i64.wrap (v1 * (v0.2.1 : Int))) + (IntKind.i64.wrap (v3 * (v2.2.1 : Int))))) (!(decide (v3 = (0 : Int))))).2 : Bool), ()))) else (chk (mkAtom_pre v18 (IntKind.i64.wrap ((IntKind.i64.wrap (v1 * (v0.2.1 : Int))) + (IntKind.i64.wrap (v3 * (v2.2.1 : Int))))) false) (some (((((mkAtom v18 (IntKind.i64.wrap ((IntKind.i64.wrap (v1 * (v0.2.1 : Int))) + (IntKind.i64.wrap (v3 * (v2.2.1 : Int))))) false).1).1 : List (Val (.int .i64))), ((((mkAtom v18 (IntKind.i64.wrap ((IntKind.i64.wrap (v1 * (v0.2.1 : Int))) + (IntKind.i64.wrap (v3 * (v2.2.1 : Int))))) false).1).2).1 : Int), ((((mkAtom v18 (IntKind.i64.wrap ((IntKind.i64.wrap (v1 * (v0.2.1 : Int))) + (IntKind.i64.wrap (v3 * (v2.2.1 : Int))))) false).1).2).2 : Bool)), ((mkAtom v18 (IntKind.i64.wrap ((IntKind.i64.wrap (v1 * (v0.2.1 : Int))) + (IntKind.i64.wrap (v3 * (v2.2.1 : Int))))) false).2 : Bool), ()))))) else (bif (v2.2.2 : Bool) then (chk (mkAtom_pre v18 (IntKind.i64.wrap ((IntKind.i64.wrap (v1 * (v0.2.1 : Int))) + (IntKind.i64.wrap (v3 * (v2.2.1 : Int))))) (!(decide (v3 = (0 : Int))))) (some (((((mkAtom v18 (IntKind.i64.wrap ((IntKind.i64.wrap (v1 * (v0.2.1 : Int))) + (IntKind.i64.wrap (v3 * (v2.2.1 : Int))))) (!(decide (v3 = (0 : Int))))).1).1 : List (Val (.int .i64))), ((((mkAtom v18 (IntKind.i64.wrap ((IntKind.i64.wrap (v1 * (v0.2.1 : Int))) + (IntKind.i64.wrap (v3 * (v2.2.1 : Int))))) (!(decide (v3 = (0 : Int))))).1).2).1 : Int), ((((mkAtom v18 (IntKind.i64.wrap ((IntKind.i64.wrap (v1 * (v0.2.1 : Int))) + (IntKind.i64.wrap (v3 * (v2.2.1 : Int))))) (!(decide (v3 = (0 : Int))))).1).2).2 : Bool)), ((mkAtom v18 (IntKind.i64.wrap ((IntKind.i64.wrap (v1 * (v0.2.1 : Int))) + (IntKind.i64.wrap (v3 * (v2.2.1 : Int))))) (!(decide (v3 = (0 : Int))))).2 : Bool), ()))) else (chk (mkAtom_pre v18 (IntKind.i64.wrap ((IntKind.i64.wrap (v1 * (v0.2.1 : Int))) + (IntKind.i64.wrap (v3 * (v2.2.1 : Int))))) false) (some (((((mkAtom v18 (IntKind.i64.wrap ((IntKind.i64.wrap (v1 * (v0.2.1 : Int))) + (IntKind.i64.wrap (v3 * (v2.2.1 : Int))))) false).1).1 : List (Val (.int .i64))), ((((mkAtom v18 (IntKind.i64.wrap ((IntKind.i64.wrap (v1 * (v0.2.1 : Int))) + (IntKind.i64.wrap (v3 * (v2.2.1 : Int))))) false).1).2).1 : Int), ((((mkAtom v18 (IntKind.i64.wrap ((IntKind.i64.wrap (v1 * (v0.2.1 : Int))) + (IntKind.i64.wrap (v3 * (v2.2.1 : Int))))) false).1).2).2 : Bool)), ((mkAtom v18 (IntKind.i64.wrap ((IntKind.i64.wrap (v1 * (v0.2.1 : Int))) + (IntKind.i64.wrap (v3 * (v2.2.1 : Int))))) false).2 : Bool), ())))))) N _ _ _ _ _ _ _ _ _ _ _ ?_ ?_ ?_]
  · rewrite [m293]; first | rfl | simp (maxSteps := 10000000) -implicitDefEqProofs []
  · rfl
  · intro; simp only [seqR_ret, blockR_ret, retR_ret, retX_ret]
  · intro v18; simp (maxSteps := 10000000) -implicitDefEqProofs [T293_tr, tr293, T293_lp, lp293, T293_ex, ex293, T293_rg, rg293, T293_jn, jn293, T293_fuel, T293_pins, nl293_7_fix, nl293_7_keep, nl293_7_zero, nx293_0_fix, nx293_0_keep, nx293_0_zero, Γ293_207, Γ293_279, g207, g279]
noncomputable def m235_l5 (N : Nat) (v4 : Int) (v5 : Int) (v7 : List (Val (.int .i64))) (v8 : Int) (v9 : Bool) (v10 : List (Val (.int .i64))) (v11 : Int) (v12 : Bool) (v13 : Int) (v14 : Bool) (k0 : (List (Val (.int .i64))) → Option (Vals [i108, i4])) : Nat → Int → (List (Val (.int .i64))) → Option (Vals [i108, i4])
  | 0, _, _ => none
  | n + 1, v6, v15 => bif (decide (v6 < (v7.length : Int))) then (chk (0 ≤ v6 ∧ v6 < (v7.length : Int)) (chk (0 ≤ v6 ∧ v6 < (v10.length : Int)) (chk (v15.length + ([(IntKind.i64.wrap ((IntKind.i64.wrap (v4 * ((v7.getD v6.toNat (dflt (.int .i64))) : Int))) + (IntKind.i64.wrap (v5 * ((v10.getD v6.toNat (dflt (.int .i64))) : Int)))))] : List (Val (.int .i64))).length ≤ 1048576) (m235_l5 N v4 v5 v7 v8 v9 v10 v11 v12 v13 v14 k0 n (IntKind.i64.wrap (v6 + (1 : Int))) (v15 ++ ([(IntKind.i64.wrap ((IntKind.i64.wrap (v4 * ((v7.getD v6.toNat (dflt (.int .i64))) : Int))) + (IntKind.i64.wrap (v5 * ((v10.getD v6.toNat (dflt (.int .i64))) : Int)))))] : List (Val (.int .i64)))))))) else (k0 v15)
noncomputable def m235 (N : Nat) (v0 : Val Y108) (v1 : Int) (v2 : Val Y108) (v3 : Int) : Option (Vals [i108, i4]) := bif (!((isAtom v0) : Bool)) then (some ((([] : List (Val (.int .i64))), (0 : Int), false), false, ())) else (bif (!((isAtom v2) : Bool)) then (some ((([] : List (Val (.int .i64))), (0 : Int), false), false, ())) else (bif (!(decide (((v0.1 : List (Val (.int .i64))).length : Int) = ((v2.1 : List (Val (.int .i64))).length : Int)))) then (some ((([] : List (Val (.int .i64))), (0 : Int), false), false, ())) else (bif (!((inR v1 (0 : Int) (400000000 : Int)) : Bool)) then (some ((([] : List (Val (.int .i64))), (0 : Int), false), false, ())) else (bif (!((inR v3 (0 : Int) (400000000 : Int)) : Bool)) then (some ((([] : List (Val (.int .i64))), (0 : Int), false), false, ())) else (m235_l5 N v1 v3 (v0.1 : List (Val (.int .i64))) (v0.2.1 : Int) (v0.2.2 : Bool) (v2.1 : List (Val (.int .i64))) (v2.2.1 : Int) (v2.2.2 : Bool) (0 : Int) false (fun (v17 : List (Val (.int .i64))) => bif (v0.2.2 : Bool) then (bif (decide ((0 : Int) < v1)) then (chk (mkAtom_pre v17 (IntKind.i64.wrap ((IntKind.i64.wrap (v1 * (v0.2.1 : Int))) + (IntKind.i64.wrap (v3 * (v2.2.1 : Int))))) true) (some (((((mkAtom v17 (IntKind.i64.wrap ((IntKind.i64.wrap (v1 * (v0.2.1 : Int))) + (IntKind.i64.wrap (v3 * (v2.2.1 : Int))))) true).1).1 : List (Val (.int .i64))), ((((mkAtom v17 (IntKind.i64.wrap ((IntKind.i64.wrap (v1 * (v0.2.1 : Int))) + (IntKind.i64.wrap (v3 * (v2.2.1 : Int))))) true).1).2).1 : Int), ((((mkAtom v17 (IntKind.i64.wrap ((IntKind.i64.wrap (v1 * (v0.2.1 : Int))) + (IntKind.i64.wrap (v3 * (v2.2.1 : Int))))) true).1).2).2 : Bool)), ((mkAtom v17 (IntKind.i64.wrap ((IntKind.i64.wrap (v1 * (v0.2.1 : Int))) + (IntKind.i64.wrap (v3 * (v2.2.1 : Int))))) true).2 : Bool), ()))) else (bif (v2.2.2 : Bool) then (chk (mkAtom_pre v17 (IntKind.i64.wrap ((IntKind.i64.wrap (v1 * (v0.2.1 : Int))) + (IntKind.i64.wrap (v3 * (v2.2.1 : Int))))) (decide ((0 : Int) < v3))) (some (((((mkAtom v17 (IntKind.i64.wrap ((IntKind.i64.wrap (v1 * (v0.2.1 : Int))) + (IntKind.i64.wrap (v3 * (v2.2.1 : Int))))) (decide ((0 : Int) < v3))).1).1 : List (Val (.int .i64))), ((((mkAtom v17 (IntKind.i64.wrap ((IntKind.i64.wrap (v1 * (v0.2.1 : Int))) + (IntKind.i64.wrap (v3 * (v2.2.1 : Int))))) (decide ((0 : Int) < v3))).1).2).1 : Int), ((((mkAtom v17 (IntKind.i64.wrap ((IntKind.i64.wrap (v1 * (v0.2.1 : Int))) + (IntKind.i64.wrap (v3 * (v2.2.1 : Int))))) (decide ((0 : Int) < v3))).1).2).2 : Bool)), ((mkAtom v17 (IntKind.i64.wrap ((IntKind.i64.wrap (v1 * (v0.2.1 : Int))) + (IntKind.i64.wrap (v3 * (v2.2.1 : Int))))) (decide ((0 : Int) < v3))).2 : Bool), ()))) else (chk (mkAtom_pre v17 (IntKind.i64.wrap ((IntKind.i64.wrap (v1 * (v0.2.1 : Int))) + (IntKind.i64.wrap (v3 * (v2.2.1 : Int))))) false) (some (((((mkAtom v17 (IntKind.i64.wrap ((IntKind.i64.wrap (v1 * (v0.2.1 : Int))) + (IntKind.i64.wrap (v3 * (v2.2.1 : Int))))) false).1).1 : List (Val (.int .i64))), ((((mkAtom v17 (IntKind.i64.wrap ((IntKind.i64.wrap (v1 * (v0.2.1 : Int))) + (IntKind.i64.wrap (v3 * (v2.2.1 : Int))))) false).1).2).1 : Int), ((((mkAtom v17 (IntKind.i64.wrap ((IntKind.i64.wrap (v1 * (v0.2.1 : Int))) + (IntKind.i64.wrap (v3 * (v2.2.1 : Int))))) false).1).2).2 : Bool)), ((mkAtom v17 (IntKind.i64.wrap ((IntKind.i64.wrap (v1 * (v0.2.1 : Int))) + (IntKind.i64.wrap (v3 * (v2.2.1 : Int))))) false).2 : Bool), ()))))) else (bif (v2.2.2 : Bool) then (chk (mkAtom_pre v17 (IntKind.i64.wrap ((IntKind.i64.wrap (v1 * (v0.2.1 : Int))) + (IntKind.i64.wrap (v3 * (v2.2.1 : Int))))) (decide ((0 : Int) < v3))) (some (((((mkAtom v17 (IntKind.i64.wrap ((IntKind.i64.wrap (v1 * (v0.2.1 : Int))) + (IntKind.i64.wrap (v3 * (v2.2.1 : Int))))) (decide ((0 : Int) < v3))).1).1 : List (Val (.int .i64))), ((((mkAtom v17 (IntKind.i64.wrap ((IntKind.i64.wrap (v1 * (v0.2.1 : Int))) + (IntKind.i64.wrap (v3 * (v2.2.1 : Int))))) (decide ((0 : Int) < v3))).1).2).1 : Int), ((((mkAtom v17 (IntKind.i64.wrap ((IntKind.i64.wrap (v1 * (v0.2.1 : Int))) + (IntKind.i64.wrap (v3 * (v2.2.1 : Int))))) (decide ((0 : Int) < v3))).1).2).2 : Bool)), ((mkAtom v17 (IntKind.i64.wrap ((IntKind.i64.wrap (v1 * (v0.2.1 : Int))) + (IntKind.i64.wrap (v3 * (v2.2.1 : Int))))) (decide ((0 : Int) < v3))).2 : Bool), ()))) else (chk (mkAtom_pre v17 (IntKind.i64.wrap ((IntKind.i64.wrap (v1 * (v0.2.1 : Int))) + (IntKind.i64.wrap (v3 * (v2.2.1 : Int))))) false) (some (((((mkAtom v17 (IntKind.i64.wrap ((IntKind.i64.wrap (v1 * (v0.2.1 : Int))) + (IntKind.i64.wrap (v3 * (v2.2.1 : Int))))) false).1).1 : List (Val (.int .i64))), ((((mkAtom v17 (IntKind.i64.wrap ((IntKind.i64.wrap (v1 * (v0.2.1 : Int))) + (IntKind.i64.wrap (v3 * (v2.2.1 : Int))))) false).1).2).1 : Int), ((((mkAtom v17 (IntKind.i64.wrap ((IntKind.i64.wrap (v1 * (v0.2.1 : Int))) + (IntKind.i64.wrap (v3 * (v2.2.1 : Int))))) false).1).2).2 : Bool)), ((mkAtom v17 (IntKind.i64.wrap ((IntKind.i64.wrap (v1 * (v0.2.1 : Int))) + (IntKind.i64.wrap (v3 * (v2.2.1 : Int))))) false).2 : Bool), ()))))) N (0 : Int) ([] : List (Val (.int .i64))))))))
def Γ235 : Gam := [(118, g118), (149, g149), (193, g193)]
theorem Γ235_118 : Gam.get Γ235 118 = some g118 := rfl
theorem Γ235_149 : Gam.get Γ235 149 = some g149 := rfl
theorem Γ235_193 : Gam.get Γ235 193 = some g193 := rfl
def nl235_5 : Nm := ⟨[false, true, false, true, true, false, true, false, true, false, true, true], [], false⟩
theorem nl235_5_zero : nl235_5.zero = false := rfl
theorem nl235_5_fix : nl235_5.fix = [] := rfl
theorem nl235_5_keep : nl235_5.keep = [false, true, false, true, true, false, true, false, true, false, true, true] := rfl
def nx235_0 : Nm := ⟨[false, true, false, true, true, false, true, false, true, false, true], [], false⟩
theorem nx235_0_zero : nx235_0.zero = false := rfl
theorem nx235_0_fix : nx235_0.fix = [] := rfl
theorem nx235_0_keep : nx235_0.keep = [false, true, false, true, true, false, true, false, true, false, true] := rfl
def tr235 : Nat → Tree := fun i => if i = 7 then .quiet 1 (.quiet 2 (.quiet 3 (.quiet 4 (.quiet 5 (.quiet 6 (.quiet 7 (.quiet 8 (.quiet 9 (.quiet 10 (.quiet 11 (.quiet 12 (.quiet 13 (.quiet 14 (.quiet 15 (.first 0 (.alt 16 (.alt 17 (.quiet 18 .done) .stop) .stop)))))))))))))))) else .done
def lp235 : Nat → Nm := fun i => if i = 5 then nl235_5 else ⟨[], [], false⟩
def jn235 : Nat → Option Jn := fun _ => none
def ex235 : Nat → Option Nm := fun i => if i = 0 then some nx235_0 else none
def rg235 : Nat → Option Nm := fun _ => none
theorem p235 : plansOk tr235 (Tryz.f235.body.getD .skip) = true := by kernel_rfl
def T235 (N : Nat) : Tab := { tr := tr235, lp := lp235, ex := ex235, rg := rg235, jn := jn235, fuel := N }
theorem T235_pins (N : Nat) : (T235 N).pins = false := rfl
theorem tb235 (N : Nat) : TbOk Tryz.prog (T235 N) := tb_none fun _ => rfl
theorem T235_tr (N : Nat) (i : Nat) : (T235 N).tr i = tr235 i := rfl
theorem T235_lp (N : Nat) (i : Nat) : (T235 N).lp i = lp235 i := rfl
theorem T235_ex (N : Nat) (i : Nat) : (T235 N).ex i = ex235 i := rfl
theorem T235_rg (N : Nat) (i : Nat) : (T235 N).rg i = rg235 i := rfl
theorem T235_jn (N : Nat) (i : Nat) : (T235 N).jn i = jn235 i := rfl
theorem T235_fuel (N : Nat) : (T235 N).fuel = N := rfl
noncomputable def c235_5 : Code := cut [true, true, true, false, true, true, true] (Tryz.f235.body.getD .skip)
theorem c235_5_at {N : Nat} {Q : X → St → Option (Vals [i108, i4])} {e : List LV} {h : List Blk} : runT tt Γ235 (T235 N) c235_5 Q ⟨e, h⟩ = runT tt Γ235 (T235 N) (cut [true, true, true, false, true, true, true] (Tryz.f235.body.getD .skip)) Q ⟨e, h⟩ := rfl
theorem r235_l5 (N : Nat) (v4 : Int) (v5 : Int) (v7 : List (Val (.int .i64))) (v8 : Int) (v9 : Bool) (v10 : List (Val (.int .i64))) (v11 : Int) (v12 : Bool) (v13 : Int) (v14 : Bool) {k0 : (List (Val (.int .i64))) → Option (Vals [i108, i4])} {Q : X → St → Option (Vals [i108, i4])} {c : Code} (hc : c = c235_5) (hret : ∀ st, Q .ret st = retS tt true [i108, i4] [.cell 8 108, .tmp 9] st) (h0 : ∀ (v16 : List (Val (.int .i64))), Q (.exit 0) ⟨[u, .one (.int .i64 v4), u, .one (.int .i64 v5), .one (.ptr 0 0 0), u, .one (.ptr 1 0 0), u, .one (.ptr 2 0 0), u, .one (.own 3), u, u, u, u, u, u, u, u, u, u, u, u, u, u, u, u, u, u, u, u, u, u, u, u, u, u, u, u, u, u, u, u, u, u, u, u, u, u, u, u, u, u, u, u, u, u, u, u, u, u, u, u, u, u, u, u, u, u, u, u, u, u, u, u, u, u, u, u, u, u, u, u, u, u, u, u, u, u, u, u, u, u, u, u, u, u, u], [.box [.sl 3 (.int .i64) v7 4, .int .i64 v8, .bool v9], .box [.sl 3 (.int .i64) v10 4, .int .i64 v11, .bool v12], .box [.nils, .int .i64 v13, .bool v14], .row 3 (.int .i64) v16 true true 0]⟩ = k0 v16) : ∀ (n : Nat) (v6 : Int) (v15 : List (Val (.int .i64))), loopR (runT tt Γ235 (T235 N) c) false nl235_5 Q n ⟨[u, .one (.int .i64 v4), u, .one (.int .i64 v5), .one (.ptr 0 0 0), u, .one (.ptr 1 0 0), u, .one (.ptr 2 0 0), u, .one (.own 3), .one (.int .i64 v6), u, u, u, u, u, u, u, u, u, u, u, u, u, u, u, u, u, u, u, u, u, u, u, u, u, u, u, u, u, u, u, u, u, u, u, u, u, u, u, u, u, u, u, u, u, u, u, u, u, u, u, u, u, u, u, u, u, u, u, u, u, u, u, u, u, u, u, u, u, u, u, u, u, u, u, u, u, u, u, u, u, u, u, u, u, u], [.box [.sl 3 (.int .i64) v7 4, .int .i64 v8, .bool v9], .box [.sl 3 (.int .i64) v10 4, .int .i64 v11, .bool v12], .box [.nils, .int .i64 v13, .bool v14], .row 3 (.int .i64) v15 true true 0]⟩ = m235_l5 N v4 v5 v7 v8 v9 v10 v11 v12 v13 v14 k0 n v6 v15 := by
  subst hc; intro n; induction n with
  | zero => intros; rfl
  | succ n ih =>
    intro v6 v15
    rw [loop_succ, c235_5_at, m235_l5]; unfold Tryz.f235
    simp (maxSteps := 10000000) -implicitDefEqProofs [T235_tr, tr235, T235_lp, lp235, T235_ex, ex235, T235_rg, rg235, T235_jn, jn235, T235_fuel, T235_pins, nl235_5_fix, nl235_5_keep, nl235_5_zero, nx235_0_fix, nx235_0_keep, nx235_0_zero, Γ235_118, Γ235_149, Γ235_193, g118, g149, g193, hret, h0, ih]
theorem run235 (N : Nat) (v0 : Val Y108) (v1 : Int) (v2 : Val Y108) (v3 : Int) : runT tt Γ235 (T235 N) (Tryz.f235.body.getD .skip) (retR tt true [i108, i4] [.cell 8 108, .tmp 9]) (entryP [i108, i3, i108, i3] 98 (v0, v1, v2, v3, ())) = m235 N v0 v1 v2 v3 := by
  unfold Tryz.f235
  simp (maxSteps := 10000000) -implicitDefEqProofs [T235_tr, tr235, T235_lp, lp235, T235_ex, ex235, T235_rg, rg235, T235_jn, jn235, T235_fuel, T235_pins, nl235_5_fix, nl235_5_keep, nl235_5_zero, nx235_0_fix, nx235_0_keep, nx235_0_zero, Γ235_118, Γ235_149, Γ235_193, g118, g149, g193]
  rewrite [r235_l5 (k0 := (fun (v17 : List (Val (.int .i64))) => bif (v0.2.2 : Bool) then (bif (decide ((0 : Int) < v1)) then (chk (mkAtom_pre v17 (IntKind.i64.wrap ((IntKind.i64.wrap (v1 * (v0.2.1 : Int))) + (IntKind.i64.wrap (v3 * (v2.2.1 : Int))))) true) (some (((((mkAtom v17 (IntKind.i64.wrap ((IntKind.i64.wrap (v1 * (v0.2.1 : Int))) + (IntKind.i64.wrap (v3 * (v2.2.1 : Int))))) true).1).1 : List (Val (.int .i64))), ((((mkAtom v17 (IntKind.i64.wrap ((IntKind.i64.wrap (v1 * (v0.2.1 : Int))) + (IntKind.i64.wrap (v3 * (v2.2.1 : Int))))) true).1).2).1 : Int), ((((mkAtom v17 (IntKind.i64.wrap ((IntKind.i64.wrap (v1 * (v0.2.1 : Int))) + (IntKind.i64.wrap (v3 * (v2.2.1 : Int))))) true).1).2).2 : Bool)), ((mkAtom v17 (IntKind.i64.wrap ((IntKind.i64.wrap (v1 * (v0.2.1 : Int))) + (IntKind.i64.wrap (v3 * (v2.2.1 : Int))))) true).2 : Bool), ()))) else (bif (v2.2.2 : Bool) then (chk (mkAtom_pre v17 (IntKind.i64.wrap ((IntKind.i64.wrap (v1 * (v0.2.1 : Int))) + (IntKind.i64.wrap (v3 * (v2.2.1 : Int))))) (decide ((0 : Int) < v3))) (some (((((mkAtom v17 (IntKind.i64.wrap ((IntKind.i64.wrap (v1 * (v0.2.1 : Int))) + (IntKind.i64.wrap (v3 * (v2.2.1 : Int))))) (decide ((0 : Int) < v3))).1).1 : List (Val (.int .i64))), ((((mkAtom v17 (IntKind.i64.wrap ((IntKind.i64.wrap (v1 * (v0.2.1 : Int))) + (IntKind.i64.wrap (v3 * (v2.2.1 : Int))))) (decide ((0 : Int) < v3))).1).2).1 : Int), ((((mkAtom v17 (IntKind.i64.wrap ((IntKind.i64.wrap (v1 * (v0.2.1 : Int))) + (IntKind.i64.wrap (v3 * (v2.2.1 : Int))))) (decide ((0 : Int) < v3))).1).2).2 : Bool)), ((mkAtom v17 (IntKind.i64.wrap ((IntKind.i64.wrap (v1 * (v0.2.1 : Int))) + (IntKind.i64.wrap (v3 * (v2.2.1 : Int))))) (decide ((0 : Int) < v3))).2 : Bool), ()))) else (chk (mkAtom_pre v17 (IntKind.i64.wrap ((IntKind.i64.wrap (v1 * (v0.2.1 : Int))) + (IntKind.i64.wrap (v3 * (v2.2.1 : Int))))) false) (some (((((mkAtom v17 (IntKind.i64.wrap ((IntKind.i64.wrap (v1 * (v0.2.1 : Int))) + (IntKind.i64.wrap (v3 * (v2.2.1 : Int))))) false).1).1 : List (Val (.int .i64))), ((((mkAtom v17 (IntKind.i64.wrap ((IntKind.i64.wrap (v1 * (v0.2.1 : Int))) + (IntKind.i64.wrap (v3 * (v2.2.1 : Int))))) false).1).2).1 : Int), ((((mkAtom v17 (IntKind.i64.wrap ((IntKind.i64.wrap (v1 * (v0.2.1 : Int))) + (IntKind.i64.wrap (v3 * (v2.2.1 : Int))))) false).1).2).2 : Bool)), ((mkAtom v17 (IntKind.i64.wrap ((IntKind.i64.wrap (v1 * (v0.2.1 : Int))) + (IntKind.i64.wrap (v3 * (v2.2.1 : Int))))) false).2 : Bool), ()))))) else (bif (v2.2.2 : Bool) then (chk (mkAtom_pre v17 (IntKind.i64.wrap ((IntKind.i64.wrap (v1 * (v0.2.1 : Int))) + (IntKind.i64.wrap (v3 * (v2.2.1 : Int))))) (decide ((0 : Int) < v3))) (some (((((mkAtom v17 (IntKind.i64.wrap ((IntKind.i64.wrap (v1 * (v0.2.1 : Int))) + (IntKind.i64.wrap (v3 * (v2.2.1 : Int))))) (decide ((0 : Int) < v3))).1).1 : List (Val (.int .i64))), ((((mkAtom v17 (IntKind.i64.wrap ((IntKind.i64.wrap (v1 * (v0.2.1 : Int))) + (IntKind.i64.wrap (v3 * (v2.2.1 : Int))))) (decide ((0 : Int) < v3))).1).2).1 : Int), ((((mkAtom v17 (IntKind.i64.wrap ((IntKind.i64.wrap (v1 * (v0.2.1 : Int))) + (IntKind.i64.wrap (v3 * (v2.2.1 : Int))))) (decide ((0 : Int) < v3))).1).2).2 : Bool)), ((mkAtom v17 (IntKind.i64.wrap ((IntKind.i64.wrap (v1 * (v0.2.1 : Int))) + (IntKind.i64.wrap (v3 * (v2.2.1 : Int))))) (decide ((0 : Int) < v3))).2 : Bool), ()))) else (chk (mkAtom_pre v17 (IntKind.i64.wrap ((IntKind.i64.wrap (v1 * (v0.2.1 : Int))) + (IntKind.i64.wrap (v3 * (v2.2.1 : Int))))) false) (some (((((mkAtom v17 (IntKind.i64.wrap ((IntKind.i64.wrap (v1 * (v0.2.1 : Int))) + (IntKind.i64.wrap (v3 * (v2.2.1 : Int))))) false).1).1 : List (Val (.int .i64))), ((((mkAtom v17 (IntKind.i64.wrap ((IntKind.i64.wrap (v1 * (v0.2.1 : Int))) + (IntKind.i64.wrap (v3 * (v2.2.1 : Int))))) false).1).2).1 : Int), ((((mkAtom v17 (IntKind.i64.wrap ((IntKind.i64.wrap (v1 * (v0.2.1 : Int))) + (IntKind.i64.wrap (v3 * (v2.2.1 : Int))))) false).1).2).2 : Bool)), ((mkAtom v17 (IntKind.i64.wrap ((IntKind.i64.wrap (v1 * (v0.2.1 : Int))) + (IntKind.i64.wrap (v3 * (v2.2.1 : Int))))) false).2 : Bool), ())))))) N _ _ _ _ _ _ _ _ _ _ ?_ ?_ ?_]
  · rewrite [m235]; first | rfl | simp (maxSteps := 10000000) -implicitDefEqProofs []
  · rfl
  · intro; simp only [seqR_ret, blockR_ret, retR_ret, retX_ret]
  · intro v17; simp (maxSteps := 10000000) -implicitDefEqProofs [T235_tr, tr235, T235_lp, lp235, T235_ex, ex235, T235_rg, rg235, T235_jn, jn235, T235_fuel, T235_pins, nl235_5_fix, nl235_5_keep, nl235_5_zero, nx235_0_fix, nx235_0_keep, nx235_0_zero, Γ235_118, Γ235_149, Γ235_193, g118, g149, g193]
theorem mix_in {p q x y : Int} (hp : 0 ≤ p ∧ p ≤ 400000000) (hq : 0 ≤ q ∧ q ≤ 400000000) (hx : -400000000 ≤ x ∧ x ≤ 400000000) (hy : -400000000 ≤ y ∧ y ≤ 400000000) :
    IntKind.i64.wrap (IntKind.i64.wrap (p * x) + IntKind.i64.wrap (q * y)) = p * x + q * y ∧ inI (p * x + q * y) := by
  have h1 : (p * x).natAbs ≤ 400000000 * 400000000 := by rw [Int.natAbs_mul]; exact Nat.mul_le_mul (by omega) (by omega)
  have h2 : (q * y).natAbs ≤ 400000000 * 400000000 := by rw [Int.natAbs_mul]; exact Nat.mul_le_mul (by omega) (by omega)
  generalize p * x = u at *
  generalize q * y = v at *
  rw [wrap64 (n := u) (by omega) (by omega), wrap64 (n := v) (by omega) (by omega), wrap64 (by omega) (by omega)]
  exact ⟨rfl, by unfold inI; omega⟩
theorem mixC_in {p q : Int} (hp : 0 ≤ p ∧ p ≤ 400000000) (hq : 0 ≤ q ∧ q ≤ 400000000) {xs ys : List Int} (hx : ∀ x ∈ xs, -400000000 ≤ x ∧ x ≤ 400000000) (hy : ∀ x ∈ ys, -400000000 ≤ x ∧ x ≤ 400000000) : ∀ z ∈ mixC p q xs ys, inI z := by
  intro z hz
  obtain ⟨⟨x, y⟩, hm, rfl⟩ := List.mem_map.1 hz
  obtain ⟨h1, h2⟩ := List.of_mem_zip hm
  exact (mix_in hp hq (hx x h1) (hy y h2)).2
theorem mixC_len {p q : Int} {xs ys : List Int} (h : xs.length = ys.length) : (mixC p q xs ys).length = xs.length := by simp [mixC, h]
theorem t293 (N : Nat) (p q : Int) (hp : 0 ≤ p ∧ p ≤ 400000000) (hq : 0 ≤ q ∧ q ≤ 400000000) (xs ys : List (Val (.int .i64))) (c : Int) (s : Bool) (c' : Int) (s' : Bool) (d : Int) (e : Bool) (K : List (Val (.int .i64)) → Option (Vals [i108, i4])) (hl : xs.length ≤ 1048576) (hxy : xs.length = ys.length)
    (hx : ∀ x ∈ (xs : List Int), -400000000 ≤ x ∧ x ≤ 400000000) (hy : ∀ x ∈ (ys : List Int), -400000000 ≤ x ∧ x ≤ 400000000) (n : Nat) (hn : xs.length < n) :
    m293_l7 N p q xs.length xs c s ys c' s' d e K n 0 (List.replicate xs.length (dflt (.int .i64))) = K (mixC p q xs ys) := by
  have hm := mixC_len (p := p) (q := q) hxy
  have := copy_loop (xs := (mixC p q xs ys : List (Val (.int .i64)))) (F := fun n i v => m293_l7 N p q xs.length xs c s ys c' s' d e K n i v) (k := K) (dflt (.int .i64)) (by rw [hm]; exact hl) (fun n i v hi hv => ?_) (fun n i v hi => ?_) n (by rw [hm]; exact hn)
  · rw [hm] at this; exact this
  · have hi : i < xs.length := by rw [hm] at hi; exact hi
    have hv : v.length = xs.length := by rw [hm] at hv; exact hv
    have hi2 : i < ys.length := by omega
    rw [m293_l7, bif_dec (by omega), chk_pos (by omega), chk_pos (by omega), chk_pos (by omega), chk_pos (by simp; omega), getD_atI hi, getD_atI hi2, (mix_in hp hq (hx _ (List.getElem_mem hi)) (hy _ (List.getElem_mem hi2))).1]
    have e : (mixC p q xs ys)[i] = p * xs[i] + q * ys[i] := by simp [mixC]
    simp only [e, Int.toNat_natCast]
  · have hi : xs.length ≤ i := by rw [hm] at hi; exact hi
    rw [m293_l7, bif_decN (by omega)]
theorem t235 (N : Nat) (p q : Int) (hp : 0 ≤ p ∧ p ≤ 400000000) (hq : 0 ≤ q ∧ q ≤ 400000000) (xs ys : List (Val (.int .i64))) (c : Int) (s : Bool) (c' : Int) (s' : Bool) (d : Int) (e : Bool) (K : List (Val (.int .i64)) → Option (Vals [i108, i4])) (hl : xs.length ≤ 1048576) (hxy : xs.length = ys.length)
    (hx : ∀ x ∈ (xs : List Int), -400000000 ≤ x ∧ x ≤ 400000000) (hy : ∀ x ∈ (ys : List Int), -400000000 ≤ x ∧ x ≤ 400000000) (n : Nat) (hn : xs.length < n) :
    m235_l5 N p q xs c s ys c' s' d e K n 0 [] = K (mixC p q xs ys) := by
  have hz : (List.zip (α := Int) (β := Int) xs ys).length = xs.length := by simp [hxy]
  refine (loop_fold (xs := List.zip (α := Int) (β := Int) xs ys) (F := fun n i v => m235_l5 N p q xs c s ys c' s' d e K n i v) (step := fun _ z (v : List (Val (.int .i64))) K => chk (v.length + [p * z.1 + q * z.2].length ≤ 1048576) (K (v ++ [p * z.1 + q * z.2]))) (k := K) (by omega) (fun n i v hi => ?_) (fun n i v hi => ?_) n _ (by omega)).trans ((app_fold (f := fun (z : Int × Int) => p * z.1 + q * z.2) (k := K) (List.zip (α := Int) (β := Int) xs ys) 0 [] (by simp; omega)).trans ?_)
  · have hi1 : i < xs.length := by omega
    have hi2 : i < ys.length := by omega
    rw [m235_l5, bif_dec (by omega), chk_pos (by omega), chk_pos (by omega), getD_atI hi1, getD_atI hi2, (mix_in hp hq (hx _ (List.getElem_mem hi1)) (hy _ (List.getElem_mem hi2))).1]
    simp only [List.getElem_zip]
  · rw [m235_l5, bif_decN (by omega)]
  · rw [List.nil_append]; rfl
theorem inR_iff {x a b : Int} (h : a ≤ x ∧ x ≤ b) : inR x a b = true := decide_eq_true h
theorem inR_not {x a b : Int} (h : ¬ (a ≤ x ∧ x ≤ b)) : inR x a b = false := decide_eq_false h
theorem okA_all {a : Val Y108} (h : isAtom a = true) : ∀ x ∈ (a.1 : List Int), @LE.le Int _ (-400000000) x ∧ @LE.le Int _ x 400000000 := (atom_in h).2.2
theorem mix_pre {p q : Int} (hp : 0 ≤ p ∧ p ≤ 400000000) (hq : 0 ≤ q ∧ q ≤ 400000000) {a b : Val Y108} (ha : isAtom a = true) (hb : isAtom b = true) (hl : List.length (α := Int) a.1 = List.length (α := Int) b.1) (s : Bool) :
    IntKind.i64.wrap (IntKind.i64.wrap (p * (a.2.1 : Int)) + IntKind.i64.wrap (q * (b.2.1 : Int))) = p * a.2.1 + q * b.2.1 ∧ mkAtom_pre (mixC p q a.1 b.1) (p * a.2.1 + q * b.2.1) s := by
  obtain ⟨h1, h2⟩ := mix_in hp hq (okA_c ha) (okA_c hb)
  have h4 := (atom_in ha).1
  have hm := mixC_len (p := p) (q := q) hl
  exact ⟨h1, ⟨by have : (mixC p q a.1 b.1).length ≤ 1048576 := by omega
                 exact this, h2, mixC_in hp hq (okA_all ha) (okA_all hb)⟩⟩
theorem e293 (a : Val Y108) (p : Int) (b : Val Y108) (q : Int) : ∃ N, m293 N a p b q = some ((mixA a p b q).1, (mixA a p b q).2, ()) := ⟨List.length (α := Int) a.1 + 1, by
  rw [m293]
  unfold mixA
  cases ha : isAtom a with
  | false => rfl
  | true =>
  cases hb : isAtom b with
  | false => rfl
  | true =>
  by_cases hl : List.length (α := Int) a.1 = List.length (α := Int) b.1
  · have hlI : ((List.length (α := Val (.int .i64)) a.1 : Int) = (List.length (α := Val (.int .i64)) b.1 : Int)) := congrArg Int.ofNat hl
    by_cases hp : 0 ≤ p ∧ p ≤ 400000000
    · by_cases hq : 0 ≤ q ∧ q ≤ 400000000
      · rw [inR_iff hp, inR_iff hq, decide_eq_true hl, decide_eq_true hlI, bif_decN (show ¬ p < 0 by omega), bif_decN (show ¬ 400000000 < p by omega), bif_decN (show ¬ q < 0 by omega), bif_decN (show ¬ 400000000 < q by omega)]
        simp only [Bool.not_true, cond_false, cond_true, Bool.and_self]
        have h4 := (atom_in ha).1
        rw [chk_pos (chk_len (by omega)), Int.toNat_natCast, List.length_replicate, t293 _ p q hp hq a.1 b.1 _ _ _ _ _ _ _ (by omega) hl (okA_all ha) (okA_all hb) _ (Nat.lt_succ_self _)]
        have hw := fun s => mix_pre hp hq ha hb hl s
        rw [(hw true).1, chk_pos (hw true).2, chk_pos (hw false).2, chk_pos (hw _).2]
        have ep : (!decide (p = 0)) = decide (0 < p) := by by_cases h : p = 0 <;> simp [h] <;> omega
        have eq' : (!decide (q = 0)) = decide (0 < q) := by by_cases h : q = 0 <;> simp [h] <;> omega
        rw [ep, eq']
        cases a.2.2 <;> cases b.2.2 <;> cases decide (0 < p) <;> cases decide (0 < q) <;> rfl
      · rw [inR_not hq, decide_eq_true hlI, bif_decN (show ¬ p < 0 by omega), bif_decN (show ¬ 400000000 < p by omega)]
        simp only [Bool.not_true, cond_false, Bool.and_false]
        by_cases hq0 : q < 0
        · rw [bif_dec hq0]
        · rw [bif_decN hq0, bif_dec (show 400000000 < q by omega)]
    · rw [inR_not hp, decide_eq_true hlI]
      simp only [Bool.not_true, cond_false, Bool.and_false, Bool.false_and]
      by_cases hp0 : p < 0
      · rw [bif_dec hp0]
      · rw [bif_decN hp0, bif_dec (show 400000000 < p by omega)]
  · have hlI : ¬ ((List.length (α := Val (.int .i64)) a.1 : Int) = (List.length (α := Val (.int .i64)) b.1 : Int)) := fun h => hl (Int.ofNat.inj h)
    rw [decide_eq_false hl, decide_eq_false hlI]
    rfl⟩
theorem s293 : Sound Tryz.prog 293 g293 := sound_run (tt := tt) (Γ := Γ293) hT (ok_cons s207 (ok_cons s279 ok_nil)) hm (fn := Tryz.f293) Tryz.func293 (c := Tryz.f293.body.getD .skip) (by kernel_rfl) (by kernel_rfl) fun x hx => by
  obtain ⟨N, h⟩ := e293 x.1 x.2.1 x.2.2.1 x.2.2.2.1
  exact ⟨T293 N, p293, noSem_ok _, tb293 N, (run293 N x.1 x.2.1 x.2.2.1 x.2.2.2.1).trans h⟩
theorem e235 (a : Val Y108) (p : Int) (b : Val Y108) (q : Int) (h : mixA_pre a p b q) : ∃ N, m235 N a p b q = some ((mixA a p b q).1, (mixA a p b q).2, ()) := ⟨List.length (α := Int) a.1 + 1, by
  rw [m235]
  unfold mixA
  cases ha : isAtom a with
  | false => rfl
  | true =>
  cases hb : isAtom b with
  | false => rfl
  | true =>
  by_cases hl : List.length (α := Int) a.1 = List.length (α := Int) b.1
  · have hlI : ((List.length (α := Val (.int .i64)) a.1 : Int) = (List.length (α := Val (.int .i64)) b.1 : Int)) := congrArg Int.ofNat hl
    by_cases hp : 0 ≤ p ∧ p ≤ 400000000
    · by_cases hq : 0 ≤ q ∧ q ≤ 400000000
      · rw [inR_iff hp, inR_iff hq, decide_eq_true hl, decide_eq_true hlI]
        simp only [Bool.not_true, cond_false, cond_true, Bool.and_self]
        have h4 := (atom_in ha).1
        rw [t235 _ p q hp hq a.1 b.1 _ _ _ _ _ _ _ (by omega) hl (okA_all ha) (okA_all hb) _ (Nat.lt_succ_self _)]
        have hw := fun s => mix_pre hp hq ha hb hl s
        rw [(hw true).1, chk_pos (hw true).2, chk_pos (hw false).2, chk_pos (hw _).2]
        cases a.2.2 <;> cases b.2.2 <;> cases decide (0 < p) <;> cases decide (0 < q) <;> rfl
      · rw [inR_not hq, inR_iff hp, decide_eq_true hlI]
        simp only [Bool.not_true, Bool.not_false, cond_false, cond_true, Bool.and_false]
    · rw [inR_not hp, decide_eq_true hlI]
      simp only [Bool.not_true, Bool.not_false, cond_false, cond_true, Bool.and_false, Bool.false_and]
  · have hlI : ¬ ((List.length (α := Val (.int .i64)) a.1 : Int) = (List.length (α := Val (.int .i64)) b.1 : Int)) := fun h => hl (Int.ofNat.inj h)
    rw [decide_eq_false hl, decide_eq_false hlI]
    rfl⟩
theorem s235 : Sound Tryz.prog 235 g235 := sound_run (tt := tt) (Γ := Γ235) hT (ok_cons s118 (ok_cons s149 (ok_cons s193 ok_nil))) hm (fn := Tryz.f235) Tryz.func235 (c := Tryz.f235.body.getD .skip) (by kernel_rfl) (by kernel_rfl) fun x hx => by
  obtain ⟨N, h⟩ := e235 x.1 x.2.1 x.2.2.1 x.2.2.2.1 hx
  exact ⟨T235 N, p235, noSem_ok _, tb235 N, (run235 N x.1 x.2.1 x.2.2.1 x.2.2.2.1).trans h⟩
end Go.T
