/- Dropping variables. -/
import Derived.Test.YthefcjjgchekiaaGreatB6
import Derived.Test.YthefcjjgchekiaaGreatB8
set_option linter.unusedSimpArgs false
set_option linter.unusedVariables false
namespace Go.T
open Go Go.Proofs
set_option maxHeartbeats 4000000
set_option maxRecDepth 100000
def cfV (v : Int) (a : Val Y108) : Int := List.getD (α := Int) a.1 v.toNat 0
def mixIn (v : Int) (a : Val Y108) : List (Val Y108) → List (Val Y108) → Option (List (Val Y108))
  | [], s => some s
  | b :: r, s => bif decide (cfV v b < 0) then (bif (mixA a (-cfV v b) b (cfV v a)).2 then mixIn v a r (s ++ [(mixA a (-cfV v b) b (cfV v a)).1]) else none) else mixIn v a r s
def mixOut (v : Int) (l : List (Val Y108)) : List (Val Y108) → List (Val Y108) → Option (List (Val Y108))
  | [], s => some s
  | a :: r, s => bif decide (0 < cfV v a) then (match mixIn v a l s with
    | some s' => mixOut v l r s'
    | none => none) else mixOut v l r s
def dropL (c : Val Y33) (v : Int) : Val Y33 × Bool := match mixOut v c.2 c.2 (List.filter (α := Val Y108) (fun a => decide (cfV v a = 0)) c.2) with
  | some l => limV c.1 l
  | none => (((0 : Int), []), false)
def dropL_pre (c : Val Y33) (v : Int) : Prop := isCell c = true ∧ 0 ≤ v ∧ v < (c.1 : Int)
def dropV (c : Val Y33) (v : Int) : Val Y33 × Bool := bif isCell c && decide (0 ≤ v ∧ v < (c.1 : Int)) then dropL c v else (((0 : Int), []), false)
def g237 : G := { ps := [i33, i3], rs := [i33, i4], dp := true, pre := fun _ => True, fn := fun x => ((dropV x.1 x.2.1).1, (dropV x.1 x.2.1).2, ()) }
def g151 : G := { ps := [i33, i3], rs := [i33, i4], dp := false, pre := fun x => dropL_pre x.1 x.2.1, fn := fun x => ((dropL x.1 x.2.1).1, (dropL x.1 x.2.1).2, ()) }
noncomputable def m237_l5 (N : Nat) (v2 : Int) (v3 : List (Val Y108)) (v4 : Int) (v6 : Int) (v7 : List (Val Y108)) (v8 : Int) (k0 : (List (Val Y108)) → Option (Vals [i33, i4])) : Nat → Int → (List (Val Y108)) → Option (Vals [i33, i4])
  | 0, _, _ => none
  | n + 1, v5, v9 => bif (decide (v5 < v4)) then (chk (0 ≤ v5 ∧ v5 < (v3.length : Int)) (chk (0 ≤ v2 ∧ v2 < (((v3.getD v5.toNat (dflt Y108)).1 : List (Val (.int .i64))).length : Int)) (bif (decide (((((v3.getD v5.toNat (dflt Y108)).1 : List (Val (.int .i64))).getD v2.toNat (dflt (.int .i64))) : Int) = (0 : Int))) then (chk (v9.length + ([(v3.getD v5.toNat (dflt Y108))] : List (Val Y108)).length ≤ 1048576) (m237_l5 N v2 v3 v4 v6 v7 v8 k0 n (IntKind.i64.wrap (v5 + (1 : Int))) (v9 ++ ([(v3.getD v5.toNat (dflt Y108))] : List (Val Y108))))) else (m237_l5 N v2 v3 v4 v6 v7 v8 k0 n (IntKind.i64.wrap (v5 + (1 : Int))) v9)))) else (k0 v9)
noncomputable def m237_l15 (N : Nat) (v36 : Int) (v37 : List (Val Y108)) (v38 : Int) (v39 : Int) (v40 : List (Val Y108)) (v41 : Int) (v43 : Int) (v44 : List (Val Y108)) (v45 : Int) (v47 : List (Val (.int .i64))) (v48 : Int) (v49 : Bool) (k4 : (List (Val Y108)) → Option (Vals [i33, i4])) : Nat → Int → (List (Val Y108)) → Option (Vals [i33, i4])
  | 0, _, _ => none
  | n + 1, v42, v46 => bif (decide (v42 < v41)) then (chk (0 ≤ v42 ∧ v42 < (v40.length : Int)) (chk (0 ≤ v36 ∧ v36 < (((v40.getD v42.toNat (dflt Y108)).1 : List (Val (.int .i64))).length : Int)) (bif (decide ((0 : Int) ≤ ((((v40.getD v42.toNat (dflt Y108)).1 : List (Val (.int .i64))).getD v36.toNat (dflt (.int .i64))) : Int))) then (m237_l15 N v36 v37 v38 v39 v40 v41 v43 v44 v45 v47 v48 v49 k4 n (IntKind.i64.wrap (v42 + (1 : Int))) v46) else (chk (0 ≤ v36 ∧ v36 < (((v40.getD v42.toNat (dflt Y108)).1 : List (Val (.int .i64))).length : Int)) (chk (0 ≤ v36 ∧ v36 < (v47.length : Int)) (bif (!((mixA (v47, v48, v49) (IntKind.i64.wrap (0 - ((((v40.getD v42.toNat (dflt Y108)).1 : List (Val (.int .i64))).getD v36.toNat (dflt (.int .i64))) : Int))) (v40.getD v42.toNat (dflt Y108)) ((v47.getD v36.toNat (dflt (.int .i64))) : Int)).2 : Bool)) then (some (((0 : Int), ([] : List (Val Y108))), false, ())) else (chk (v46.length + ([((((mixA (v47, v48, v49) (IntKind.i64.wrap (0 - ((((v40.getD v42.toNat (dflt Y108)).1 : List (Val (.int .i64))).getD v36.toNat (dflt (.int .i64))) : Int))) (v40.getD v42.toNat (dflt Y108)) ((v47.getD v36.toNat (dflt (.int .i64))) : Int)).1).1 : List (Val (.int .i64))), ((((mixA (v47, v48, v49) (IntKind.i64.wrap (0 - ((((v40.getD v42.toNat (dflt Y108)).1 : List (Val (.int .i64))).getD v36.toNat (dflt (.int .i64))) : Int))) (v40.getD v42.toNat (dflt Y108)) ((v47.getD v36.toNat (dflt (.int .i64))) : Int)).1).2).1 : Int), ((((mixA (v47, v48, v49) (IntKind.i64.wrap (0 - ((((v40.getD v42.toNat (dflt Y108)).1 : List (Val (.int .i64))).getD v36.toNat (dflt (.int .i64))) : Int))) (v40.getD v42.toNat (dflt Y108)) ((v47.getD v36.toNat (dflt (.int .i64))) : Int)).1).2).2 : Bool))] : List (Val Y108)).length ≤ 1048576) (m237_l15 N v36 v37 v38 v39 v40 v41 v43 v44 v45 v47 v48 v49 k4 n (IntKind.i64.wrap (v42 + (1 : Int))) (v46 ++ ([((((mixA (v47, v48, v49) (IntKind.i64.wrap (0 - ((((v40.getD v42.toNat (dflt Y108)).1 : List (Val (.int .i64))).getD v36.toNat (dflt (.int .i64))) : Int))) (v40.getD v42.toNat (dflt Y108)) ((v47.getD v36.toNat (dflt (.int .i64))) : Int)).1).1 : List (Val (.int .i64))), ((((mixA (v47, v48, v49) (IntKind.i64.wrap (0 - ((((v40.getD v42.toNat (dflt Y108)).1 : List (Val (.int .i64))).getD v36.toNat (dflt (.int .i64))) : Int))) (v40.getD v42.toNat (dflt Y108)) ((v47.getD v36.toNat (dflt (.int .i64))) : Int)).1).2).1 : Int), ((((mixA (v47, v48, v49) (IntKind.i64.wrap (0 - ((((v40.getD v42.toNat (dflt Y108)).1 : List (Val (.int .i64))).getD v36.toNat (dflt (.int .i64))) : Int))) (v40.getD v42.toNat (dflt Y108)) ((v47.getD v36.toNat (dflt (.int .i64))) : Int)).1).2).2 : Bool))] : List (Val Y108))))))))))) else (k4 v46)
noncomputable def m237_l11 (N : Nat) (v12 : Int) (v13 : List (Val Y108)) (v14 : Int) (v16 : Int) (v17 : List (Val Y108)) (v18 : Int) (k2 : (List (Val Y108)) → Option (Vals [i33, i4])) : Nat → Int → (List (Val Y108)) → Option (Vals [i33, i4])
  | 0, _, _ => none
  | n + 1, v15, v19 => bif (decide (v15 < v14)) then (chk (0 ≤ v15 ∧ v15 < (v13.length : Int)) (chk (0 ≤ v12 ∧ v12 < (((v13.getD v15.toNat (dflt Y108)).1 : List (Val (.int .i64))).length : Int)) (bif (decide (((((v13.getD v15.toNat (dflt Y108)).1 : List (Val (.int .i64))).getD v12.toNat (dflt (.int .i64))) : Int) ≤ (0 : Int))) then (m237_l11 N v12 v13 v14 v16 v17 v18 k2 n (IntKind.i64.wrap (v15 + (1 : Int))) v19) else (m237_l15 N v12 v13 v14 v15 v17 (v17.length : Int) v16 v17 v18 ((v13.getD v15.toNat (dflt Y108)).1 : List (Val (.int .i64))) (((v13.getD v15.toNat (dflt Y108)).2).1 : Int) (((v13.getD v15.toNat (dflt Y108)).2).2 : Bool) (fun (v51 : List (Val Y108)) => m237_l11 N v12 v13 v14 v16 v17 v18 k2 n (IntKind.i64.wrap (v15 + (1 : Int))) v51) N (0 : Int) v19)))) else (k2 v19)
noncomputable def m237 (N : Nat) (v0 : Val Y33) (v1 : Int) : Option (Vals [i33, i4]) := bif (!((isCell v0) : Bool)) then (some (((0 : Int), ([] : List (Val Y108))), false, ())) else (bif (decide (v1 < (0 : Int))) then (some (((0 : Int), ([] : List (Val Y108))), false, ())) else (bif (decide ((v0.1 : Int) ≤ v1)) then (some (((0 : Int), ([] : List (Val Y108))), false, ())) else (m237_l5 N v1 (v0.2 : List (Val Y108)) ((v0.2 : List (Val Y108)).length : Int) (v0.1 : Int) (v0.2 : List (Val Y108)) (0 : Int) (fun (v11 : List (Val Y108)) => m237_l11 N v1 (v0.2 : List (Val Y108)) ((v0.2 : List (Val Y108)).length : Int) (v0.1 : Int) (v0.2 : List (Val Y108)) (0 : Int) (fun (v53 : List (Val Y108)) => chk (limV_pre (v0.1 : Int) v53) (some (((((limV (v0.1 : Int) v53).1).1 : Int), (((limV (v0.1 : Int) v53).1).2 : List (Val Y108))), ((limV (v0.1 : Int) v53).2 : Bool), ()))) N (0 : Int) v11) N (0 : Int) ([] : List (Val Y108)))))
def Γ237 : Gam := [(199, g199), (255, g255), (293, g293)]
theorem Γ237_199 : Gam.get Γ237 199 = some g199 := rfl
theorem Γ237_255 : Gam.get Γ237 255 = some g255 := rfl
theorem Γ237_293 : Gam.get Γ237 293 = some g293 := rfl
def nl237_5 : Nm := ⟨[false, true, true, false, true, false, true, false, false, false, false, false, false, false, false, false, false, false, false, false, false, false, false, false, false, false, false, false, false, false, false, true, true, true], [.und 6 0 108 Y108], false⟩
theorem nl237_5_zero : nl237_5.zero = false := rfl
theorem nl237_5_fix : nl237_5.fix = [.und 6 0 108 Y108] := rfl
theorem nl237_5_keep : nl237_5.keep = [false, true, true, false, true, false, true, false, false, false, false, false, false, false, false, false, false, false, false, false, false, false, false, false, false, false, false, false, false, false, false, true, true, true] := rfl
def nl237_15 : Nm := ⟨[false, true, true, false, true, false, true, false, false, false, true, false, false, false, false, false, false, false, false, false, false, false, false, false, false, false, false, false, false, false, false, false, false, false, false, false, false, false, false, false, false, false, false, false, false, false, false, false, false, true, true, true, false, false, false, false, false, false, false, false, false, false, true, true, true], [], false⟩
theorem nl237_15_zero : nl237_15.zero = false := rfl
theorem nl237_15_fix : nl237_15.fix = [] := rfl
theorem nl237_15_keep : nl237_15.keep = [false, true, true, false, true, false, true, false, false, false, true, false, false, false, false, false, false, false, false, false, false, false, false, false, false, false, false, false, false, false, false, false, false, false, false, false, false, false, false, false, false, false, false, false, false, false, false, false, false, true, true, true, false, false, false, false, false, false, false, false, false, false, true, true, true] := rfl
def nl237_11 : Nm := ⟨[false, true, true, false, true, false, true, false, false, false, false, false, false, false, false, false, false, false, false, false, false, false, false, false, false, false, false, false, false, false, false, false, false, false, false, false, false, false, false, false, false, false, false, false, false, false, false, false, false, true, true, true], [], false⟩
theorem nl237_11_zero : nl237_11.zero = false := rfl
theorem nl237_11_fix : nl237_11.fix = [] := rfl
theorem nl237_11_keep : nl237_11.keep = [false, true, true, false, true, false, true, false, false, false, false, false, false, false, false, false, false, false, false, false, false, false, false, false, false, false, false, false, false, false, false, false, false, false, false, false, false, false, false, false, false, false, false, false, false, false, false, false, false, true, true, true] := rfl
def nx237_0 : Nm := ⟨[false, true, true, false, true, false, true], [], false⟩
theorem nx237_0_zero : nx237_0.zero = false := rfl
theorem nx237_0_fix : nx237_0.fix = [] := rfl
theorem nx237_0_keep : nx237_0.keep = [false, true, true, false, true, false, true] := rfl
def nx237_2 : Nm := ⟨[false, false, true, false, true, false, true], [], false⟩
theorem nx237_2_zero : nx237_2.zero = false := rfl
theorem nx237_2_fix : nx237_2.fix = [] := rfl
theorem nx237_2_keep : nx237_2.keep = [false, false, true, false, true, false, true] := rfl
def nx237_4 : Nm := ⟨[false, true, true, false, true, false, true, false, false, false, false, false, false, false, false, false, false, false, false, false, false, false, false, false, false, false, false, false, false, false, false, false, false, false, false, false, false, false, false, false, false, false, false, false, false, false, false, false, false, true, true, true], [], false⟩
theorem nx237_4_zero : nx237_4.zero = false := rfl
theorem nx237_4_fix : nx237_4.fix = [] := rfl
theorem nx237_4_keep : nx237_4.keep = [false, true, true, false, true, false, true, false, false, false, false, false, false, false, false, false, false, false, false, false, false, false, false, false, false, false, false, false, false, false, false, false, false, false, false, false, false, false, false, false, false, false, false, false, false, false, false, false, false, true, true, true] := rfl
def nr237_18 : Nm := ⟨[false, true, true, false, true, false, true, false, false, false, true, false, false, true, true, false, false, false, false, false, false, false, false, false, false, false, false, false, false, false, false, false, false, false, false, false, false, false, false, false, false, false, false, false, false, false, false, false, false, true, true, true, false, false, false, false, false, false, false, false, false, false, true, true, true], [], false⟩
theorem nr237_18_zero : nr237_18.zero = false := rfl
theorem nr237_18_fix : nr237_18.fix = [] := rfl
theorem nr237_18_keep : nr237_18.keep = [false, true, true, false, true, false, true, false, false, false, true, false, false, true, true, false, false, false, false, false, false, false, false, false, false, false, false, false, false, false, false, false, false, false, false, false, false, false, false, false, false, false, false, false, false, false, false, false, false, true, true, true, false, false, false, false, false, false, false, false, false, false, true, true, true] := rfl
def tr237 : Nat → Tree := fun i => if i = 18 then .first 3 (.first 10 (.grow 0 (.grow 1 (.grow 2 (.grow 4 (.grow 5 (.first 6 (.grow 7 (.grow 8 (.grow 9 (.grow 11 (.grow 12 (.alt 13 (.first 14 (.first 15 (.first 16 (.alt 17 (.alt 18 (.quiet 19 .done) .stop) .stop)))) (.alt 17 (.alt 13 (.quiet 14 (.quiet 15 (.first 16 (.alt 18 (.quiet 19 .done) .stop)))) .stop) .stop)))))))))))))) else .done
def lp237 : Nat → Nm := fun i => if i = 5 then nl237_5 else if i = 15 then nl237_15 else if i = 11 then nl237_11 else ⟨[], [], false⟩
def jn237 : Nat → Option Jn := fun _ => none
def ex237 : Nat → Option Nm := fun i => if i = 0 then some nx237_0 else if i = 2 then some nx237_2 else if i = 4 then some nx237_4 else none
def rg237 : Nat → Option Nm := fun i => if i = 18 then some nr237_18 else none
theorem p237 : plansOk tr237 (Tryz.f237.body.getD .skip) = true := by kernel_rfl
def T237 (N : Nat) : Tab := { tr := tr237, lp := lp237, ex := ex237, rg := rg237, jn := jn237, fuel := N }
theorem T237_pins (N : Nat) : (T237 N).pins = false := rfl
theorem tb237 (N : Nat) : TbOk Tryz.prog (T237 N) := tb_none fun _ => rfl
theorem T237_tr (N : Nat) (i : Nat) : (T237 N).tr i = tr237 i := rfl
theorem T237_lp (N : Nat) (i : Nat) : (T237 N).lp i = lp237 i := rfl
theorem T237_ex (N : Nat) (i : Nat) : (T237 N).ex i = ex237 i := rfl
theorem T237_rg (N : Nat) (i : Nat) : (T237 N).rg i = rg237 i := rfl
theorem T237_jn (N : Nat) (i : Nat) : (T237 N).jn i = jn237 i := rfl
theorem T237_fuel (N : Nat) : (T237 N).fuel = N := rfl
noncomputable def c237_5 : Code := cut [true, true, true, false, true, true, true] (Tryz.f237.body.getD .skip)
theorem c237_5_at {N : Nat} {Q : X → St → Option (Vals [i33, i4])} {e : List LV} {h : List Blk} : runT tt Γ237 (T237 N) c237_5 Q ⟨e, h⟩ = runT tt Γ237 (T237 N) (cut [true, true, true, false, true, true, true] (Tryz.f237.body.getD .skip)) Q ⟨e, h⟩ := rfl
theorem r237_l5 (N : Nat) (v2 : Int) (v3 : List (Val Y108)) (v4 : Int) (v6 : Int) (v7 : List (Val Y108)) (v8 : Int) {k0 : (List (Val Y108)) → Option (Vals [i33, i4])} {Q : X → St → Option (Vals [i33, i4])} {c : Code} (hc : c = c237_5) (hret : ∀ st, Q .ret st = retS tt true [i33, i4] [.cell 4 33, .tmp 5] st) (h0 : ∀ (v10 : List (Val Y108)), Q (.exit 0) ⟨[u, .one (.int .i64 v2), .one (.ptr 0 0 0), u, .one (.ptr 1 0 0), u, .one (.own 2), u, u, u, u, u, u, u, u, u, u, u, u, u, u, u, u, u, u, u, u, u, u, u, u, u, u, u, u, u, u, u, u, u, u, u, u, u, u, u, u, u, u, u, u, u, u, u, u, u, u, u, u, u, u, u, u, u, u, u, u, u, u, u, u, u, u, u, u, u, u, u, u, u, u, u, u, u, u, u, u, u, u, u, u, u, u, u, u, u, u, u, u, u, u, u, u, u, u, u], [.box [.int .i64 v6, .sl 108 Y108 v7 3], .box [.int .i64 v8, .nils], .row 108 Y108 v10 false true 3]⟩ = k0 v10) : ∀ (n : Nat) (v5 : Int) (v9 : List (Val Y108)), loopR (runT tt Γ237 (T237 N) c) false nl237_5 Q n ⟨[u, .one (.int .i64 v2), .one (.ptr 0 0 0), u, .one (.ptr 1 0 0), u, .one (.own 2), u, u, u, u, u, u, u, u, u, u, u, u, u, u, u, u, u, u, u, u, u, u, u, u, .one (.sl 108 Y108 v3 3), .one (.int .i64 v4), .one (.int .i64 v5), u, u, u, u, u, u, u, u, u, u, u, u, u, u, u, u, u, u, u, u, u, u, u, u, u, u, u, u, u, u, u, u, u, u, u, u, u, u, u, u, u, u, u, u, u, u, u, u, u, u, u, u, u, u, u, u, u, u, u, u, u, u, u, u, u, u, u, u, u, u, u, u], [.box [.int .i64 v6, .sl 108 Y108 v7 3], .box [.int .i64 v8, .nils], .row 108 Y108 v9 false true 3]⟩ = m237_l5 N v2 v3 v4 v6 v7 v8 k0 n v5 v9 := by
  subst hc; intro n; induction n with
  | zero => intros; rfl
  | succ n ih =>
    intro v5 v9
    rw [loop_succ, c237_5_at, m237_l5]; unfold Tryz.f237
    simp (maxSteps := 10000000) -implicitDefEqProofs [T237_tr, tr237, T237_lp, lp237, T237_ex, ex237, T237_rg, rg237, T237_jn, jn237, T237_fuel, T237_pins, nl237_5_fix, nl237_5_keep, nl237_5_zero, nl237_15_fix, nl237_15_keep, nl237_15_zero, nl237_11_fix, nl237_11_keep, nl237_11_zero, nx237_0_fix, nx237_0_keep, nx237_0_zero, nx237_2_fix, nx237_2_keep, nx237_2_zero, nx237_4_fix, nx237_4_keep, nx237_4_zero, nr237_18_fix, nr237_18_keep, nr237_18_zero, Γ237_199, Γ237_255, Γ237_293, g199, g255, g293, hret, h0, ih]
noncomputable def c237_15 : Code := cut [true, true, true, true, false, true, true, true, true, true, false, true, true, true, true, true, true] (Tryz.f237.body.getD .skip)
theorem c237_15_at {N : Nat} {Q : X → St → Option (Vals [i33, i4])} {e : List LV} {h : List Blk} : runT tt Γ237 (T237 N) c237_15 Q ⟨e, h⟩ = runT tt Γ237 (T237 N) (cut [true, true, true, true, false, true, true, true, true, true, false, true, true, true, true, true, true] (Tryz.f237.body.getD .skip)) Q ⟨e, h⟩ := rfl
theorem r237_l15 (N : Nat) (v36 : Int) (v37 : List (Val Y108)) (v38 : Int) (v39 : Int) (v40 : List (Val Y108)) (v41 : Int) (v43 : Int) (v44 : List (Val Y108)) (v45 : Int) (v47 : List (Val (.int .i64))) (v48 : Int) (v49 : Bool) {k4 : (List (Val Y108)) → Option (Vals [i33, i4])} {Q : X → St → Option (Vals [i33, i4])} {c : Code} (hc : c = c237_15) (hret : ∀ st, Q .ret st = retS tt true [i33, i4] [.cell 4 33, .tmp 5] st) (h4 : ∀ (v50 : List (Val Y108)), Q (.exit 4) ⟨[u, .one (.int .i64 v36), .one (.ptr 0 0 0), u, .one (.ptr 1 0 0), u, .one (.own 2), u, u, u, u, u, u, u, u, u, u, u, u, u, u, u, u, u, u, u, u, u, u, u, u, u, u, u, u, u, u, u, u, u, u, u, u, u, u, u, u, u, u, .one (.sl 108 Y108 v37 3), .one (.int .i64 v38), .one (.int .i64 v39), u, u, u, u, u, u, u, u, u, u, u, u, u, u, u, u, u, u, u, u, u, u, u, u, u, u, u, u, u, u, u, u, u, u, u, u, u, u, u, u, u, u, u, u, u, u, u, u, u, u, u, u, u, u], [.box [.int .i64 v43, .sl 108 Y108 v44 3], .box [.int .i64 v45, .nils], .row 108 Y108 v50 false true 3]⟩ = k4 v50) : ∀ (n : Nat) (v42 : Int) (v46 : List (Val Y108)), loopR (runT tt Γ237 (T237 N) c) false nl237_15 Q n ⟨[u, .one (.int .i64 v36), .one (.ptr 0 0 0), u, .one (.ptr 1 0 0), u, .one (.own 2), u, u, u, .one (.ptr 3 0 0), u, u, u, u, u, u, u, u, u, u, u, u, u, u, u, u, u, u, u, u, u, u, u, u, u, u, u, u, u, u, u, u, u, u, u, u, u, u, .one (.sl 108 Y108 v37 4), .one (.int .i64 v38), .one (.int .i64 v39), u, u, u, u, u, u, u, u, u, u, .one (.sl 108 Y108 v40 4), .one (.int .i64 v41), .one (.int .i64 v42), u, u, u, u, u, u, u, u, u, u, u, u, u, u, u, u, u, u, u, u, u, u, u, u, u, u, u, u, u, u, u, u, u, u, u, u, u, u, u, u, u], [.box [.int .i64 v43, .sl 108 Y108 v44 4], .box [.int .i64 v45, .nils], .row 108 Y108 v46 false true 4, .box [.sl 3 (.int .i64) v47 4, .int .i64 v48, .bool v49]]⟩ = m237_l15 N v36 v37 v38 v39 v40 v41 v43 v44 v45 v47 v48 v49 k4 n v42 v46 := by
  subst hc; intro n; induction n with
  | zero => intros; rfl
  | succ n ih =>
    intro v42 v46
    rw [loop_succ, c237_15_at, m237_l15]; unfold Tryz.f237
    simp (maxSteps := 10000000) -implicitDefEqProofs [T237_tr, tr237, T237_lp, lp237, T237_ex, ex237, T237_rg, rg237, T237_jn, jn237, T237_fuel, T237_pins, nl237_5_fix, nl237_5_keep, nl237_5_zero, nl237_15_fix, nl237_15_keep, nl237_15_zero, nl237_11_fix, nl237_11_keep, nl237_11_zero, nx237_0_fix, nx237_0_keep, nx237_0_zero, nx237_2_fix, nx237_2_keep, nx237_2_zero, nx237_4_fix, nx237_4_keep, nx237_4_zero, nr237_18_fix, nr237_18_keep, nr237_18_zero, Γ237_199, Γ237_255, Γ237_293, g199, g255, g293, hret, h4, ih]
noncomputable def c237_11 : Code := cut [true, true, true, true, false, true, true, true] (Tryz.f237.body.getD .skip)
theorem c237_11_at {N : Nat} {Q : X → St → Option (Vals [i33, i4])} {e : List LV} {h : List Blk} : runT tt Γ237 (T237 N) c237_11 Q ⟨e, h⟩ = runT tt Γ237 (T237 N) (cut [true, true, true, true, false, true, true, true] (Tryz.f237.body.getD .skip)) Q ⟨e, h⟩ := rfl
theorem r237_l11 (N : Nat) (v12 : Int) (v13 : List (Val Y108)) (v14 : Int) (v16 : Int) (v17 : List (Val Y108)) (v18 : Int) {k2 : (List (Val Y108)) → Option (Vals [i33, i4])} {Q : X → St → Option (Vals [i33, i4])} {c : Code} (hc : c = c237_11) (hret : ∀ st, Q .ret st = retS tt true [i33, i4] [.cell 4 33, .tmp 5] st) (h2 : ∀ (v52 : List (Val Y108)), Q (.exit 2) ⟨[u, u, .one (.ptr 0 0 0), u, .one (.ptr 1 0 0), u, .one (.own 2), u, u, u, u, u, u, u, u, u, u, u, u, u, u, u, u, u, u, u, u, u, u, u, u, u, u, u, u, u, u, u, u, u, u, u, u, u, u, u, u, u, u, u, u, u, u, u, u, u, u, u, u, u, u, u, u, u, u, u, u, u, u, u, u, u, u, u, u, u, u, u, u, u, u, u, u, u, u, u, u, u, u, u, u, u, u, u, u, u, u, u, u, u, u, u, u, u, u, u], [.box [.int .i64 v16, .sl 108 Y108 v17 3], .box [.int .i64 v18, .nils], .row 108 Y108 v52 false true 3]⟩ = k2 v52) : ∀ (n : Nat) (v15 : Int) (v19 : List (Val Y108)), loopR (runT tt Γ237 (T237 N) c) false nl237_11 Q n ⟨[u, .one (.int .i64 v12), .one (.ptr 0 0 0), u, .one (.ptr 1 0 0), u, .one (.own 2), u, u, u, u, u, u, u, u, u, u, u, u, u, u, u, u, u, u, u, u, u, u, u, u, u, u, u, u, u, u, u, u, u, u, u, u, u, u, u, u, u, u, .one (.sl 108 Y108 v13 3), .one (.int .i64 v14), .one (.int .i64 v15), u, u, u, u, u, u, u, u, u, u, u, u, u, u, u, u, u, u, u, u, u, u, u, u, u, u, u, u, u, u, u, u, u, u, u, u, u, u, u, u, u, u, u, u, u, u, u, u, u, u, u, u, u, u], [.box [.int .i64 v16, .sl 108 Y108 v17 3], .box [.int .i64 v18, .nils], .row 108 Y108 v19 false true 3]⟩ = m237_l11 N v12 v13 v14 v16 v17 v18 k2 n v15 v19 := by
  subst hc; intro n; induction n with
  | zero => intros; rfl
  | succ n ih =>
    intro v15 v19
    rw [loop_succ, c237_11_at]; unfold Tryz.f237
    simp (maxSteps := 10000000) -implicitDefEqProofs [T237_tr, tr237, T237_lp, lp237, T237_ex, ex237, T237_rg, rg237, T237_jn, jn237, T237_fuel, T237_pins, nl237_5_fix, nl237_5_keep, nl237_5_zero, nl237_15_fix, nl237_15_keep, nl237_15_zero, nl237_11_fix, nl237_11_keep, nl237_11_zero, nx237_0_fix, nx237_0_keep, nx237_0_zero, nx237_2_fix, nx237_2_keep, nx237_2_zero, nx237_4_fix, nx237_4_keep, nx237_4_zero, nr237_18_fix, nr237_18_keep, nr237_18_zero, Γ237_199, Γ237_255, Γ237_293, g199, g255, g293, hret, h2, ih]
    rewrite [r237_l15 (k4 := (fun (v51 : List (Val Y108)) => m237_l11 N v12 v13 v14 v16 v17 v18 k2 n (IntKind.i64.wrap (v15 + (1 : Int))) v51)) N _ _ _ _ _ _ _ _ _ _ _ _ ?_ ?_ ?_]
    · rewrite [m237_l11]; first | rfl | simp (maxSteps := 10000000) -implicitDefEqProofs [ih]
    · rfl
    · intro; simp only [seqR_ret, blockR_ret, retR_ret, retX_ret, hret]
    · intro v51; simp (maxSteps := 10000000) -implicitDefEqProofs [T237_tr, tr237, T237_lp, lp237, T237_ex, ex237, T237_rg, rg237, T237_jn, jn237, T237_fuel, T237_pins, nl237_5_fix, nl237_5_keep, nl237_5_zero, nl237_15_fix, nl237_15_keep, nl237_15_zero, nl237_11_fix, nl237_11_keep, nl237_11_zero, nx237_0_fix, nx237_0_keep, nx237_0_zero, nx237_2_fix, nx237_2_keep, nx237_2_zero, nx237_4_fix, nx237_4_keep, nx237_4_zero, nr237_18_fix, nr237_18_keep, nr237_18_zero, Γ237_199, Γ237_255, Γ237_293, g199, g255, g293, hret, h2, ih]
theorem run237 (N : Nat) (v0 : Val Y33) (v1 : Int) : runT tt Γ237 (T237 N) (Tryz.f237.body.getD .skip) (retR tt true [i33, i4] [.cell 4 33, .tmp 5]) (entryP [i33, i3] 106 (v0, v1, ())) = m237 N v0 v1 := by
  unfold Tryz.f237
  simp (maxSteps := 10000000) -implicitDefEqProofs [T237_tr, tr237, T237_lp, lp237, T237_ex, ex237, T237_rg, rg237, T237_jn, jn237, T237_fuel, T237_pins, nl237_5_fix, nl237_5_keep, nl237_5_zero, nl237_15_fix, nl237_15_keep, nl237_15_zero, nl237_11_fix, nl237_11_keep, nl237_11_zero, nx237_0_fix, nx237_0_keep, nx237_0_zero, nx237_2_fix, nx237_2_keep, nx237_2_zero, nx237_4_fix, nx237_4_keep, nx237_4_zero, nr237_18_fix, nr237_18_keep, nr237_18_zero, Γ237_199, Γ237_255, Γ237_293, g199, g255, g293]
  rewrite [r237_l5 (k0 := (fun (v11 : List (Val Y108)) => m237_l11 N v1 (v0.2 : List (Val Y108)) ((v0.2 : List (Val Y108)).length : Int) (v0.1 : Int) (v0.2 : List (Val Y108)) (0 : Int) (fun (v53 : List (Val Y108)) => chk (limV_pre (v0.1 : Int) v53) (some (((((limV (v0.1 : Int) v53).1).1 : Int), (((limV (v0.1 : Int) v53).1).2 : List (Val Y108))), ((limV (v0.1 : Int) v53).2 : Bool), ()))) N (0 : Int) v11)) N _ _ _ _ _ _ ?_ ?_ ?_]
  · rewrite [m237]; first | rfl | simp (maxSteps := 10000000) -implicitDefEqProofs []
  · rfl
  · intro; simp only [seqR_ret, blockR_ret, retR_ret, retX_ret]
  · intro v11; simp (maxSteps := 10000000) -implicitDefEqProofs [T237_tr, tr237, T237_lp, lp237, T237_ex, ex237, T237_rg, rg237, T237_jn, jn237, T237_fuel, T237_pins, nl237_5_fix, nl237_5_keep, nl237_5_zero, nl237_15_fix, nl237_15_keep, nl237_15_zero, nl237_11_fix, nl237_11_keep, nl237_11_zero, nx237_0_fix, nx237_0_keep, nx237_0_zero, nx237_2_fix, nx237_2_keep, nx237_2_zero, nx237_4_fix, nx237_4_keep, nx237_4_zero, nr237_18_fix, nr237_18_keep, nr237_18_zero, Γ237_199, Γ237_255, Γ237_293, g199, g255, g293]
    rewrite [r237_l11 (k2 := (fun (v53 : List (Val Y108)) => chk (limV_pre (v0.1 : Int) v53) (some (((((limV (v0.1 : Int) v53).1).1 : Int), (((limV (v0.1 : Int) v53).1).2 : List (Val Y108))), ((limV (v0.1 : Int) v53).2 : Bool), ())))) N _ _ _ _ _ _ ?_ ?_ ?_]
    · first | rfl | simp (maxSteps := 10000000) -implicitDefEqProofs []
    · rfl
    · intro; simp only [seqR_ret, blockR_ret, retR_ret, retX_ret]
    · intro v53; simp (maxSteps := 10000000) -implicitDefEqProofs [T237_tr, tr237, T237_lp, lp237, T237_ex, ex237, T237_rg, rg237, T237_jn, jn237, T237_fuel, T237_pins, nl237_5_fix, nl237_5_keep, nl237_5_zero, nl237_15_fix, nl237_15_keep, nl237_15_zero, nl237_11_fix, nl237_11_keep, nl237_11_zero, nx237_0_fix, nx237_0_keep, nx237_0_zero, nx237_2_fix, nx237_2_keep, nx237_2_zero, nx237_4_fix, nx237_4_keep, nx237_4_zero, nr237_18_fix, nr237_18_keep, nr237_18_zero, Γ237_199, Γ237_255, Γ237_293, g199, g255, g293]
noncomputable def m151_l3 (N : Nat) (v2 : Int) (v4 : Int) (v5 : List (Val Y108)) (v6 : Int) (k0 : (List (Val Y108)) → Option (Vals [i33, i4])) : Nat → Int → (List (Val Y108)) → Option (Vals [i33, i4])
  | 0, _, _ => none
  | n + 1, v3, v7 => bif (decide (v3 < (v5.length : Int))) then (chk (0 ≤ v3 ∧ v3 < (v5.length : Int)) (chk (0 ≤ v2 ∧ v2 < (((v5.getD v3.toNat (dflt Y108)).1 : List (Val (.int .i64))).length : Int)) (bif (decide (((((v5.getD v3.toNat (dflt Y108)).1 : List (Val (.int .i64))).getD v2.toNat (dflt (.int .i64))) : Int) = (0 : Int))) then (chk (0 ≤ v3 ∧ v3 < (v5.length : Int)) (chk (v7.length + ([(v5.getD v3.toNat (dflt Y108))] : List (Val Y108)).length ≤ 1048576) (m151_l3 N v2 v4 v5 v6 k0 n (IntKind.i64.wrap (v3 + (1 : Int))) (v7 ++ ([(v5.getD v3.toNat (dflt Y108))] : List (Val Y108)))))) else (m151_l3 N v2 v4 v5 v6 k0 n (IntKind.i64.wrap (v3 + (1 : Int))) v7)))) else (k0 v7)
noncomputable def m151_l11 (N : Nat) (v25 : Int) (v26 : Int) (v28 : Int) (v29 : List (Val Y108)) (v30 : Int) (k4 : (List (Val Y108)) → Option (Vals [i33, i4])) : Nat → Int → (List (Val Y108)) → Option (Vals [i33, i4])
  | 0, _, _ => none
  | n + 1, v27, v31 => bif (decide (v27 < (v29.length : Int))) then (chk (0 ≤ v26 ∧ v26 < (v29.length : Int)) (chk (0 ≤ v25 ∧ v25 < (((v29.getD v26.toNat (dflt Y108)).1 : List (Val (.int .i64))).length : Int)) (chk (0 ≤ v27 ∧ v27 < (v29.length : Int)) (chk (0 ≤ v25 ∧ v25 < (((v29.getD v27.toNat (dflt Y108)).1 : List (Val (.int .i64))).length : Int)) (bif (decide (((((v29.getD v26.toNat (dflt Y108)).1 : List (Val (.int .i64))).getD v25.toNat (dflt (.int .i64))) : Int) ≤ (0 : Int))) then (m151_l11 N v25 v26 v28 v29 v30 k4 n (IntKind.i64.wrap (v27 + (1 : Int))) v31) else (bif (decide ((0 : Int) ≤ ((((v29.getD v27.toNat (dflt Y108)).1 : List (Val (.int .i64))).getD v25.toNat (dflt (.int .i64))) : Int))) then (m151_l11 N v25 v26 v28 v29 v30 k4 n (IntKind.i64.wrap (v27 + (1 : Int))) v31) else (chk (0 ≤ v26 ∧ v26 < (v29.length : Int)) (chk (0 ≤ v27 ∧ v27 < (v29.length : Int)) (chk (mixA_pre (v29.getD v26.toNat (dflt Y108)) (IntKind.i64.wrap (0 - ((((v29.getD v27.toNat (dflt Y108)).1 : List (Val (.int .i64))).getD v25.toNat (dflt (.int .i64))) : Int))) (v29.getD v27.toNat (dflt Y108)) ((((v29.getD v26.toNat (dflt Y108)).1 : List (Val (.int .i64))).getD v25.toNat (dflt (.int .i64))) : Int)) (bif (!((mixA (v29.getD v26.toNat (dflt Y108)) (IntKind.i64.wrap (0 - ((((v29.getD v27.toNat (dflt Y108)).1 : List (Val (.int .i64))).getD v25.toNat (dflt (.int .i64))) : Int))) (v29.getD v27.toNat (dflt Y108)) ((((v29.getD v26.toNat (dflt Y108)).1 : List (Val (.int .i64))).getD v25.toNat (dflt (.int .i64))) : Int)).2 : Bool)) then (some (((0 : Int), ([] : List (Val Y108))), false, ())) else (chk (v31.length + ([((((mixA (v29.getD v26.toNat (dflt Y108)) (IntKind.i64.wrap (0 - ((((v29.getD v27.toNat (dflt Y108)).1 : List (Val (.int .i64))).getD v25.toNat (dflt (.int .i64))) : Int))) (v29.getD v27.toNat (dflt Y108)) ((((v29.getD v26.toNat (dflt Y108)).1 : List (Val (.int .i64))).getD v25.toNat (dflt (.int .i64))) : Int)).1).1 : List (Val (.int .i64))), ((((mixA (v29.getD v26.toNat (dflt Y108)) (IntKind.i64.wrap (0 - ((((v29.getD v27.toNat (dflt Y108)).1 : List (Val (.int .i64))).getD v25.toNat (dflt (.int .i64))) : Int))) (v29.getD v27.toNat (dflt Y108)) ((((v29.getD v26.toNat (dflt Y108)).1 : List (Val (.int .i64))).getD v25.toNat (dflt (.int .i64))) : Int)).1).2).1 : Int), ((((mixA (v29.getD v26.toNat (dflt Y108)) (IntKind.i64.wrap (0 - ((((v29.getD v27.toNat (dflt Y108)).1 : List (Val (.int .i64))).getD v25.toNat (dflt (.int .i64))) : Int))) (v29.getD v27.toNat (dflt Y108)) ((((v29.getD v26.toNat (dflt Y108)).1 : List (Val (.int .i64))).getD v25.toNat (dflt (.int .i64))) : Int)).1).2).2 : Bool))] : List (Val Y108)).length ≤ 1048576) (m151_l11 N v25 v26 v28 v29 v30 k4 n (IntKind.i64.wrap (v27 + (1 : Int))) (v31 ++ ([((((mixA (v29.getD v26.toNat (dflt Y108)) (IntKind.i64.wrap (0 - ((((v29.getD v27.toNat (dflt Y108)).1 : List (Val (.int .i64))).getD v25.toNat (dflt (.int .i64))) : Int))) (v29.getD v27.toNat (dflt Y108)) ((((v29.getD v26.toNat (dflt Y108)).1 : List (Val (.int .i64))).getD v25.toNat (dflt (.int .i64))) : Int)).1).1 : List (Val (.int .i64))), ((((mixA (v29.getD v26.toNat (dflt Y108)) (IntKind.i64.wrap (0 - ((((v29.getD v27.toNat (dflt Y108)).1 : List (Val (.int .i64))).getD v25.toNat (dflt (.int .i64))) : Int))) (v29.getD v27.toNat (dflt Y108)) ((((v29.getD v26.toNat (dflt Y108)).1 : List (Val (.int .i64))).getD v25.toNat (dflt (.int .i64))) : Int)).1).2).1 : Int), ((((mixA (v29.getD v26.toNat (dflt Y108)) (IntKind.i64.wrap (0 - ((((v29.getD v27.toNat (dflt Y108)).1 : List (Val (.int .i64))).getD v25.toNat (dflt (.int .i64))) : Int))) (v29.getD v27.toNat (dflt Y108)) ((((v29.getD v26.toNat (dflt Y108)).1 : List (Val (.int .i64))).getD v25.toNat (dflt (.int .i64))) : Int)).1).2).2 : Bool))] : List (Val Y108))))))))))))))) else (k4 v31)
noncomputable def m151_l8 (N : Nat) (v10 : Int) (v12 : Int) (v13 : List (Val Y108)) (v14 : Int) (k2 : (List (Val Y108)) → Option (Vals [i33, i4])) : Nat → Int → (List (Val Y108)) → Option (Vals [i33, i4])
  | 0, _, _ => none
  | n + 1, v11, v15 => bif (decide (v11 < (v13.length : Int))) then (m151_l11 N v10 v11 v12 v13 v14 (fun (v33 : List (Val Y108)) => m151_l8 N v10 v12 v13 v14 k2 n (IntKind.i64.wrap (v11 + (1 : Int))) v33) N (0 : Int) v15) else (k2 v15)
noncomputable def m151 (N : Nat) (v0 : Val Y33) (v1 : Int) : Option (Vals [i33, i4]) := m151_l3 N v1 (v0.1 : Int) (v0.2 : List (Val Y108)) (0 : Int) (fun (v9 : List (Val Y108)) => m151_l8 N v1 (v0.1 : Int) (v0.2 : List (Val Y108)) (0 : Int) (fun (v35 : List (Val Y108)) => chk (nrmV_pre (v0.1 : Int) v35) (bif (decide ((16 : Int) < (((nrmV (v0.1 : Int) v35).2 : List (Val Y108)).length : Int))) then (some (((0 : Int), ([] : List (Val Y108))), false, ())) else (some ((nrmV (v0.1 : Int) v35), true, ())))) N (0 : Int) v9) N (0 : Int) ([] : List (Val Y108))
def Γ151 : Gam := [(150, g150), (235, g235)]
theorem Γ151_150 : Gam.get Γ151 150 = some g150 := rfl
theorem Γ151_235 : Gam.get Γ151 235 = some g235 := rfl
def nl151_3 : Nm := ⟨[false, true, true, false, true, false, true, true], [.und 6 0 108 Y108], false⟩
theorem nl151_3_zero : nl151_3.zero = false := rfl
theorem nl151_3_fix : nl151_3.fix = [.und 6 0 108 Y108] := rfl
theorem nl151_3_keep : nl151_3.keep = [false, true, true, false, true, false, true, true] := rfl
def nl151_11 : Nm := ⟨[false, true, true, false, true, false, true, false, true, true], [], false⟩
theorem nl151_11_zero : nl151_11.zero = false := rfl
theorem nl151_11_fix : nl151_11.fix = [] := rfl
theorem nl151_11_keep : nl151_11.keep = [false, true, true, false, true, false, true, false, true, true] := rfl
def nl151_8 : Nm := ⟨[false, true, true, false, true, false, true, false, true], [], false⟩
theorem nl151_8_zero : nl151_8.zero = false := rfl
theorem nl151_8_fix : nl151_8.fix = [] := rfl
theorem nl151_8_keep : nl151_8.keep = [false, true, true, false, true, false, true, false, true] := rfl
def nx151_0 : Nm := ⟨[false, true, true, false, true, false, true], [], false⟩
theorem nx151_0_zero : nx151_0.zero = false := rfl
theorem nx151_0_fix : nx151_0.fix = [] := rfl
theorem nx151_0_keep : nx151_0.keep = [false, true, true, false, true, false, true] := rfl
def nx151_2 : Nm := ⟨[false, false, true, false, true, false, true], [], false⟩
theorem nx151_2_zero : nx151_2.zero = false := rfl
theorem nx151_2_fix : nx151_2.fix = [] := rfl
theorem nx151_2_keep : nx151_2.keep = [false, false, true, false, true, false, true] := rfl
def nx151_4 : Nm := ⟨[false, true, true, false, true, false, true, false, true], [], false⟩
theorem nx151_4_zero : nx151_4.zero = false := rfl
theorem nx151_4_fix : nx151_4.fix = [] := rfl
theorem nx151_4_keep : nx151_4.keep = [false, true, true, false, true, false, true, false, true] := rfl
def nr151_16 : Nm := ⟨[false, true, true, false, true, false, true, false, true, true, false, false, true, true], [], false⟩
theorem nr151_16_zero : nr151_16.zero = false := rfl
theorem nr151_16_fix : nr151_16.fix = [] := rfl
theorem nr151_16_keep : nr151_16.keep = [false, true, true, false, true, false, true, false, true, true, false, false, true, true] := rfl
def tr151 : Nat → Tree := fun i => if i = 16 then .first 2 (.first 5 (.first 6 (.first 9 (.first 12 (.grow 0 (.grow 1 (.grow 3 (.grow 4 (.grow 7 (.grow 8 (.grow 10 (.grow 11 (.alt 13 (.first 14 (.first 15 (.first 16 (.alt 17 (.alt 18 (.quiet 19 .done) .stop) .stop)))) (.alt 17 (.alt 13 (.quiet 14 (.quiet 15 (.first 16 (.alt 18 (.quiet 19 .done) .stop)))) .stop) .stop)))))))))))))) else .done
def lp151 : Nat → Nm := fun i => if i = 3 then nl151_3 else if i = 11 then nl151_11 else if i = 8 then nl151_8 else ⟨[], [], false⟩
def jn151 : Nat → Option Jn := fun _ => none
def ex151 : Nat → Option Nm := fun i => if i = 0 then some nx151_0 else if i = 2 then some nx151_2 else if i = 4 then some nx151_4 else none
def rg151 : Nat → Option Nm := fun i => if i = 16 then some nr151_16 else none
theorem p151 : plansOk tr151 (Tryz.f151.body.getD .skip) = true := by kernel_rfl
def T151 (N : Nat) : Tab := { tr := tr151, lp := lp151, ex := ex151, rg := rg151, jn := jn151, fuel := N }
theorem T151_pins (N : Nat) : (T151 N).pins = false := rfl
theorem tb151 (N : Nat) : TbOk Tryz.prog (T151 N) := tb_none fun _ => rfl
theorem T151_tr (N : Nat) (i : Nat) : (T151 N).tr i = tr151 i := rfl
theorem T151_lp (N : Nat) (i : Nat) : (T151 N).lp i = lp151 i := rfl
theorem T151_ex (N : Nat) (i : Nat) : (T151 N).ex i = ex151 i := rfl
theorem T151_rg (N : Nat) (i : Nat) : (T151 N).rg i = rg151 i := rfl
theorem T151_jn (N : Nat) (i : Nat) : (T151 N).jn i = jn151 i := rfl
theorem T151_fuel (N : Nat) : (T151 N).fuel = N := rfl
noncomputable def c151_3 : Code := cut [true, true, false, true, true, true] (Tryz.f151.body.getD .skip)
theorem c151_3_at {N : Nat} {Q : X → St → Option (Vals [i33, i4])} {e : List LV} {h : List Blk} : runT tt Γ151 (T151 N) c151_3 Q ⟨e, h⟩ = runT tt Γ151 (T151 N) (cut [true, true, false, true, true, true] (Tryz.f151.body.getD .skip)) Q ⟨e, h⟩ := rfl
theorem r151_l3 (N : Nat) (v2 : Int) (v4 : Int) (v5 : List (Val Y108)) (v6 : Int) {k0 : (List (Val Y108)) → Option (Vals [i33, i4])} {Q : X → St → Option (Vals [i33, i4])} {c : Code} (hc : c = c151_3) (hret : ∀ st, Q .ret st = retS tt false [i33, i4] [.cell 4 33, .tmp 5] st) (h0 : ∀ (v8 : List (Val Y108)), Q (.exit 0) ⟨[u, .one (.int .i64 v2), .one (.ptr 0 0 0), u, .one (.ptr 1 0 0), u, .one (.own 2), u, u, u, u, u, u, u, u, u, u, u, u, u, u, u, u, u, u, u, u, u, u, u, u, u, u, u, u, u, u, u, u, u, u, u, u, u, u, u, u, u, u, u, u, u, u, u, u, u, u, u, u, u, u, u, u, u, u, u, u, u, u, u, u, u, u, u, u, u, u, u, u, u, u, u, u, u, u, u, u, u, u, u, u, u, u, u, u, u, u, u, u, u, u, u, u, u, u, u, u, u, u, u, u, u, u], [.box [.int .i64 v4, .sl 108 Y108 v5 3], .box [.int .i64 v6, .nils], .row 108 Y108 v8 false true 3]⟩ = k0 v8) : ∀ (n : Nat) (v3 : Int) (v7 : List (Val Y108)), loopR (runT tt Γ151 (T151 N) c) false nl151_3 Q n ⟨[u, .one (.int .i64 v2), .one (.ptr 0 0 0), u, .one (.ptr 1 0 0), u, .one (.own 2), .one (.int .i64 v3), u, u, u, u, u, u, u, u, u, u, u, u, u, u, u, u, u, u, u, u, u, u, u, u, u, u, u, u, u, u, u, u, u, u, u, u, u, u, u, u, u, u, u, u, u, u, u, u, u, u, u, u, u, u, u, u, u, u, u, u, u, u, u, u, u, u, u, u, u, u, u, u, u, u, u, u, u, u, u, u, u, u, u, u, u, u, u, u, u, u, u, u, u, u, u, u, u, u, u, u, u, u, u, u, u], [.box [.int .i64 v4, .sl 108 Y108 v5 3], .box [.int .i64 v6, .nils], .row 108 Y108 v7 false true 3]⟩ = m151_l3 N v2 v4 v5 v6 k0 n v3 v7 := by
  subst hc; intro n; induction n with
  | zero => intros; rfl
  | succ n ih =>
    intro v3 v7
    rw [loop_succ, c151_3_at, m151_l3]; unfold Tryz.f151
    simp (maxSteps := 10000000) -implicitDefEqProofs [T151_tr, tr151, T151_lp, lp151, T151_ex, ex151, T151_rg, rg151, T151_jn, jn151, T151_fuel, T151_pins, nl151_3_fix, nl151_3_keep, nl151_3_zero, nl151_11_fix, nl151_11_keep, nl151_11_zero, nl151_8_fix, nl151_8_keep, nl151_8_zero, nx151_0_fix, nx151_0_keep, nx151_0_zero, nx151_2_fix, nx151_2_keep, nx151_2_zero, nx151_4_fix, nx151_4_keep, nx151_4_zero, nr151_16_fix, nr151_16_keep, nr151_16_zero, Γ151_150, Γ151_235, g150, g235, hret, h0, ih]
noncomputable def c151_11 : Code := cut [true, true, true, false, true, true, true, true, false, true, true, true, true] (Tryz.f151.body.getD .skip)
theorem c151_11_at {N : Nat} {Q : X → St → Option (Vals [i33, i4])} {e : List LV} {h : List Blk} : runT tt Γ151 (T151 N) c151_11 Q ⟨e, h⟩ = runT tt Γ151 (T151 N) (cut [true, true, true, false, true, true, true, true, false, true, true, true, true] (Tryz.f151.body.getD .skip)) Q ⟨e, h⟩ := rfl
theorem r151_l11 (N : Nat) (v25 : Int) (v26 : Int) (v28 : Int) (v29 : List (Val Y108)) (v30 : Int) {k4 : (List (Val Y108)) → Option (Vals [i33, i4])} {Q : X → St → Option (Vals [i33, i4])} {c : Code} (hc : c = c151_11) (hret : ∀ st, Q .ret st = retS tt false [i33, i4] [.cell 4 33, .tmp 5] st) (h4 : ∀ (v32 : List (Val Y108)), Q (.exit 4) ⟨[u, .one (.int .i64 v25), .one (.ptr 0 0 0), u, .one (.ptr 1 0 0), u, .one (.own 2), u, .one (.int .i64 v26), u, u, u, u, u, u, u, u, u, u, u, u, u, u, u, u, u, u, u, u, u, u, u, u, u, u, u, u, u, u, u, u, u, u, u, u, u, u, u, u, u, u, u, u, u, u, u, u, u, u, u, u, u, u, u, u, u, u, u, u, u, u, u, u, u, u, u, u, u, u, u, u, u, u, u, u, u, u, u, u, u, u, u, u, u, u, u, u, u, u, u, u, u, u, u, u, u, u, u, u, u, u, u, u], [.box [.int .i64 v28, .sl 108 Y108 v29 3], .box [.int .i64 v30, .nils], .row 108 Y108 v32 false true 3]⟩ = k4 v32) : ∀ (n : Nat) (v27 : Int) (v31 : List (Val Y108)), loopR (runT tt Γ151 (T151 N) c) false nl151_11 Q n ⟨[u, .one (.int .i64 v25), .one (.ptr 0 0 0), u, .one (.ptr 1 0 0), u, .one (.own 2), u, .one (.int .i64 v26), .one (.int .i64 v27), u, u, u, u, u, u, u, u, u, u, u, u, u, u, u, u, u, u, u, u, u, u, u, u, u, u, u, u, u, u, u, u, u, u, u, u, u, u, u, u, u, u, u, u, u, u, u, u, u, u, u, u, u, u, u, u, u, u, u, u, u, u, u, u, u, u, u, u, u, u, u, u, u, u, u, u, u, u, u, u, u, u, u, u, u, u, u, u, u, u, u, u, u, u, u, u, u, u, u, u, u, u, u], [.box [.int .i64 v28, .sl 108 Y108 v29 3], .box [.int .i64 v30, .nils], .row 108 Y108 v31 false true 3]⟩ = m151_l11 N v25 v26 v28 v29 v30 k4 n v27 v31 := by
  subst hc; intro n; induction n with
  | zero => intros; rfl
  | succ n ih =>
    intro v27 v31
    rw [loop_succ, c151_11_at, m151_l11]; unfold Tryz.f151
    simp (maxSteps := 10000000) -implicitDefEqProofs [T151_tr, tr151, T151_lp, lp151, T151_ex, ex151, T151_rg, rg151, T151_jn, jn151, T151_fuel, T151_pins, nl151_3_fix, nl151_3_keep, nl151_3_zero, nl151_11_fix, nl151_11_keep, nl151_11_zero, nl151_8_fix, nl151_8_keep, nl151_8_zero, nx151_0_fix, nx151_0_keep, nx151_0_zero, nx151_2_fix, nx151_2_keep, nx151_2_zero, nx151_4_fix, nx151_4_keep, nx151_4_zero, nr151_16_fix, nr151_16_keep, nr151_16_zero, Γ151_150, Γ151_235, g150, g235, hret, h4, ih]
noncomputable def c151_8 : Code := cut [true, true, true, false, true, true, true] (Tryz.f151.body.getD .skip)
theorem c151_8_at {N : Nat} {Q : X → St → Option (Vals [i33, i4])} {e : List LV} {h : List Blk} : runT tt Γ151 (T151 N) c151_8 Q ⟨e, h⟩ = runT tt Γ151 (T151 N) (cut [true, true, true, false, true, true, true] (Tryz.f151.body.getD .skip)) Q ⟨e, h⟩ := rfl
theorem r151_l8 (N : Nat) (v10 : Int) (v12 : Int) (v13 : List (Val Y108)) (v14 : Int) {k2 : (List (Val Y108)) → Option (Vals [i33, i4])} {Q : X → St → Option (Vals [i33, i4])} {c : Code} (hc : c = c151_8) (hret : ∀ st, Q .ret st = retS tt false [i33, i4] [.cell 4 33, .tmp 5] st) (h2 : ∀ (v34 : List (Val Y108)), Q (.exit 2) ⟨[u, u, .one (.ptr 0 0 0), u, .one (.ptr 1 0 0), u, .one (.own 2), u, u, u, u, u, u, u, u, u, u, u, u, u, u, u, u, u, u, u, u, u, u, u, u, u, u, u, u, u, u, u, u, u, u, u, u, u, u, u, u, u, u, u, u, u, u, u, u, u, u, u, u, u, u, u, u, u, u, u, u, u, u, u, u, u, u, u, u, u, u, u, u, u, u, u, u, u, u, u, u, u, u, u, u, u, u, u, u, u, u, u, u, u, u, u, u, u, u, u, u, u, u, u, u, u, u], [.box [.int .i64 v12, .sl 108 Y108 v13 3], .box [.int .i64 v14, .nils], .row 108 Y108 v34 false true 3]⟩ = k2 v34) : ∀ (n : Nat) (v11 : Int) (v15 : List (Val Y108)), loopR (runT tt Γ151 (T151 N) c) false nl151_8 Q n ⟨[u, .one (.int .i64 v10), .one (.ptr 0 0 0), u, .one (.ptr 1 0 0), u, .one (.own 2), u, .one (.int .i64 v11), u, u, u, u, u, u, u, u, u, u, u, u, u, u, u, u, u, u, u, u, u, u, u, u, u, u, u, u, u, u, u, u, u, u, u, u, u, u, u, u, u, u, u, u, u, u, u, u, u, u, u, u, u, u, u, u, u, u, u, u, u, u, u, u, u, u, u, u, u, u, u, u, u, u, u, u, u, u, u, u, u, u, u, u, u, u, u, u, u, u, u, u, u, u, u, u, u, u, u, u, u, u, u, u], [.box [.int .i64 v12, .sl 108 Y108 v13 3], .box [.int .i64 v14, .nils], .row 108 Y108 v15 false true 3]⟩ = m151_l8 N v10 v12 v13 v14 k2 n v11 v15 := by
  subst hc; intro n; induction n with
  | zero => intros; rfl
  | succ n ih =>
    intro v11 v15
    rw [loop_succ, c151_8_at]; unfold Tryz.f151
    simp (maxSteps := 10000000) -implicitDefEqProofs [T151_tr, tr151, T151_lp, lp151, T151_ex, ex151, T151_rg, rg151, T151_jn, jn151, T151_fuel, T151_pins, nl151_3_fix, nl151_3_keep, nl151_3_zero, nl151_11_fix, nl151_11_keep, nl151_11_zero, nl151_8_fix, nl151_8_keep, nl151_8_zero, nx151_0_fix, nx151_0_keep, nx151_0_zero, nx151_2_fix, nx151_2_keep, nx151_2_zero, nx151_4_fix, nx151_4_keep, nx151_4_zero, nr151_16_fix, nr151_16_keep, nr151_16_zero, Γ151_150, Γ151_235, g150, g235, hret, h2, ih]
    rewrite [r151_l11 (k4 := (fun (v33 : List (Val Y108)) => m151_l8 N v10 v12 v13 v14 k2 n (IntKind.i64.wrap (v11 + (1 : Int))) v33)) N _ _ _ _ _ ?_ ?_ ?_]
    · rewrite [m151_l8]; first | rfl | simp (maxSteps := 10000000) -implicitDefEqProofs [ih]
    · rfl
    · intro; simp only [seqR_ret, blockR_ret, retR_ret, retX_ret, hret]
    · intro v33; simp (maxSteps := 10000000) -implicitDefEqProofs [T151_tr, tr151, T151_lp, lp151, T151_ex, ex151, T151_rg, rg151, T151_jn, jn151, T151_fuel, T151_pins, nl151_3_fix, nl151_3_keep, nl151_3_zero, nl151_11_fix, nl151_11_keep, nl151_11_zero, nl151_8_fix, nl151_8_keep, nl151_8_zero, nx151_0_fix, nx151_0_keep, nx151_0_zero, nx151_2_fix, nx151_2_keep, nx151_2_zero, nx151_4_fix, nx151_4_keep, nx151_4_zero, nr151_16_fix, nr151_16_keep, nr151_16_zero, Γ151_150, Γ151_235, g150, g235, hret, h2, ih]
theorem run151 (N : Nat) (v0 : Val Y33) (v1 : Int) : runT tt Γ151 (T151 N) (Tryz.f151.body.getD .skip) (retR tt false [i33, i4] [.cell 4 33, .tmp 5]) (entryP [i33, i3] 113 (v0, v1, ())) = m151 N v0 v1 := by
  unfold Tryz.f151
  simp (maxSteps := 10000000) -implicitDefEqProofs [T151_tr, tr151, T151_lp, lp151, T151_ex, ex151, T151_rg, rg151, T151_jn, jn151, T151_fuel, T151_pins, nl151_3_fix, nl151_3_keep, nl151_3_zero, nl151_11_fix, nl151_11_keep, nl151_11_zero, nl151_8_fix, nl151_8_keep, nl151_8_zero, nx151_0_fix, nx151_0_keep, nx151_0_zero, nx151_2_fix, nx151_2_keep, nx151_2_zero, nx151_4_fix, nx151_4_keep, nx151_4_zero, nr151_16_fix, nr151_16_keep, nr151_16_zero, Γ151_150, Γ151_235, g150, g235]
  rewrite [r151_l3 (k0 := (fun (v9 : List (Val Y108)) => m151_l8 N v1 (v0.1 : Int) (v0.2 : List (Val Y108)) (0 : Int) (fun (v35 : List (Val Y108)) => chk (nrmV_pre (v0.1 : Int) v35) (bif (decide ((16 : Int) < (((nrmV (v0.1 : Int) v35).2 : List (Val Y108)).length : Int))) then (some (((0 : Int), ([] : List (Val Y108))), false, ())) else (some ((nrmV (v0.1 : Int) v35), true, ())))) N (0 : Int) v9)) N _ _ _ _ ?_ ?_ ?_]
  · rewrite [m151]; first | rfl | simp (maxSteps := 10000000) -implicitDefEqProofs []
  · rfl
  · intro; simp only [seqR_ret, blockR_ret, retR_ret, retX_ret]
  · intro v9; simp (maxSteps := 10000000) -implicitDefEqProofs [T151_tr, tr151, T151_lp, lp151, T151_ex, ex151, T151_rg, rg151, T151_jn, jn151, T151_fuel, T151_pins, nl151_3_fix, nl151_3_keep, nl151_3_zero, nl151_11_fix, nl151_11_keep, nl151_11_zero, nl151_8_fix, nl151_8_keep, nl151_8_zero, nx151_0_fix, nx151_0_keep, nx151_0_zero, nx151_2_fix, nx151_2_keep, nx151_2_zero, nx151_4_fix, nx151_4_keep, nx151_4_zero, nr151_16_fix, nr151_16_keep, nr151_16_zero, Γ151_150, Γ151_235, g150, g235]
    rewrite [r151_l8 (k2 := (fun (v35 : List (Val Y108)) => chk (nrmV_pre (v0.1 : Int) v35) (bif (decide ((16 : Int) < (((nrmV (v0.1 : Int) v35).2 : List (Val Y108)).length : Int))) then (some (((0 : Int), ([] : List (Val Y108))), false, ())) else (some ((nrmV (v0.1 : Int) v35), true, ()))))) N _ _ _ _ ?_ ?_ ?_]
    · first | rfl | simp (maxSteps := 10000000) -implicitDefEqProofs []
    · rfl
    · intro; simp only [seqR_ret, blockR_ret, retR_ret, retX_ret]
    · intro v35; simp (maxSteps := 10000000) -implicitDefEqProofs [T151_tr, tr151, T151_lp, lp151, T151_ex, ex151, T151_rg, rg151, T151_jn, jn151, T151_fuel, T151_pins, nl151_3_fix, nl151_3_keep, nl151_3_zero, nl151_11_fix, nl151_11_keep, nl151_11_zero, nl151_8_fix, nl151_8_keep, nl151_8_zero, nx151_0_fix, nx151_0_keep, nx151_0_zero, nx151_2_fix, nx151_2_keep, nx151_2_zero, nx151_4_fix, nx151_4_keep, nx151_4_zero, nr151_16_fix, nr151_16_keep, nr151_16_zero, Γ151_150, Γ151_235, g150, g235]
def okD (d : Int) (a : Val Y108) : Prop := okA a ∧ (List.length (α := Int) a.1 : Int) = d
abbrev noCell : Option (Vals [i33, i4]) := some (((0 : Int), ([] : List (Val Y108))), false, ())
theorem cfV_eq (v : Int) (a : Val Y108) : List.getD (α := Val (.int .i64)) a.1 v.toNat (dflt (.int .i64)) = cfV v a := rfl
theorem cfV_in {v : Int} {a : Val Y108} (h : okA a) : -400000000 ≤ cfV v a ∧ cfV v a ≤ 400000000 := by
  unfold cfV
  by_cases hv : v.toNat < List.length (α := Int) a.1
  · rw [List.getD_eq_getElem?_getD, List.getElem?_eq_getElem hv]
    exact okA_all h _ (List.getElem_mem hv)
  · rw [List.getD_eq_getElem?_getD, List.getElem?_eq_none (by omega)]
    exact ⟨by decide, by decide⟩
theorem mkAtom_okD {co : List Int} {k : Int} {s : Bool} (h : (mkAtom co k s).2 = true) : okA (mkAtom co k s).1 ∧ List.length (α := Int) (mkAtom co k s).1.1 = co.length := by
  unfold mkAtom mkAtomG at *
  generalize max 1 (gL k.natAbs co) = g at *
  cases hb : isAtom (List.map (α := Int) (fun x => x.tdiv (g : Int)) co, k.tdiv (g : Int), s) with
  | true => exact ⟨hb, by simp⟩
  | false => rw [hb] at h; simp at h
theorem mixA_okD {d p q : Int} {a b : Val Y108} (ha : okD d a) (hb : okD d b) (h : (mixA a p b q).2 = true) : okD d (mixA a p b q).1 := by
  unfold mixA at *
  cases hc : (isAtom a && isAtom b && decide (List.length (α := Int) a.1 = List.length (α := Int) b.1) && inR p 0 400000000 && inR q 0 400000000) with
  | false => rw [hc] at h; simp at h
  | true =>
    rw [hc] at h
    obtain ⟨h1, h2⟩ := mkAtom_okD h
    simp only [Bool.and_eq_true, decide_eq_true_eq] at hc
    refine ⟨h1, ?_⟩
    have := ha.2
    have e := mixC_len (p := p) (q := q) hc.1.1.2
    show (List.length (α := Int) (mkAtom (mixC p q a.1 b.1) _ _).1.1 : Int) = d
    rw [h2, e]; exact this
theorem mixIn_ok {v d : Int} {a : Val Y108} (ha : okD d a) : ∀ {xs s s' : List (Val Y108)}, (∀ b ∈ xs, okD d b) → (∀ b ∈ s, okD d b) → mixIn v a xs s = some s' → (∀ b ∈ s', okD d b) ∧ s'.length ≤ s.length + xs.length
  | [], s, s', _, hs, h => by simp only [mixIn, Option.some.injEq] at h; subst h; exact ⟨hs, by simp⟩
  | b :: r, s, s', hx, hs, h => by
    simp only [mixIn] at h
    cases hn : decide (cfV v b < 0) with
    | false =>
      rw [hn] at h
      obtain ⟨h1, h2⟩ := mixIn_ok ha (fun c hc => hx c (by simp [hc])) hs h
      exact ⟨h1, by simp; omega⟩
    | true =>
      rw [hn] at h
      cases hm : (mixA a (-cfV v b) b (cfV v a)).2 with
      | false => rw [hm] at h; simp at h
      | true =>
        rw [hm] at h
        simp only [cond_true] at h
        obtain ⟨h1, h2⟩ := mixIn_ok ha (fun c hc => hx c (by simp [hc])) (fun c hc => by
          rcases List.mem_append.1 hc with hc | hc
          · exact hs c hc
          · simp only [List.mem_singleton] at hc; subst hc; exact mixA_okD ha (hx b (by simp)) hm) h
        exact ⟨h1, by simp at h2 ⊢; omega⟩
theorem mixOut_ok {v d : Int} {l : List (Val Y108)} (hl : ∀ b ∈ l, okD d b) : ∀ {xs s s' : List (Val Y108)}, (∀ b ∈ xs, okD d b) → (∀ b ∈ s, okD d b) → mixOut v l xs s = some s' → (∀ b ∈ s', okD d b) ∧ s'.length ≤ s.length + xs.length * l.length
  | [], s, s', _, hs, h => by simp only [mixOut, Option.some.injEq] at h; subst h; exact ⟨hs, by simp⟩
  | a :: r, s, s', hx, hs, h => by
    simp only [mixOut] at h
    cases hn : decide (0 < cfV v a) with
    | false =>
      rw [hn] at h
      obtain ⟨h1, h2⟩ := mixOut_ok hl (fun c hc => hx c (by simp [hc])) hs h
      exact ⟨h1, by simp [Nat.add_mul]; omega⟩
    | true =>
      rw [hn] at h
      simp only [cond_true] at h
      cases hm : mixIn v a l s with
      | none => rw [hm] at h; simp at h
      | some s1 =>
        rw [hm] at h
        obtain ⟨g1, g2⟩ := mixIn_ok (hx a (by simp)) hl hs hm
        obtain ⟨h1, h2⟩ := mixOut_ok hl (fun c hc => hx c (by simp [hc])) g1 h
        exact ⟨h1, by simp [Nat.add_mul]; omega⟩
theorem flat_fold {ρ : Type} {v : Int} {k : List (Val Y108) → Option ρ} : ∀ (xs : List (Val Y108)) (i : Nat) (s : List (Val Y108)), s.length + xs.length ≤ 1048576 →
    foldK (fun _ (x : Val Y108) (s : List (Val Y108)) K => bif decide (cfV v x = 0) then chk (s.length + [x].length ≤ 1048576) (K (s ++ [x])) else K s) i xs s k = k (s ++ xs.filter fun a => decide (cfV v a = 0))
  | [], _, s, _ => by rw [foldK]; simp
  | x :: xs, i, s, h => by
    simp only [List.length_cons] at h
    rw [foldK, List.filter_cons]
    cases hb : decide (cfV v x = 0) with
    | true => simp only [cond_true]; rw [chk_pos (by simp; omega), flat_fold xs _ _ (by simp; omega)]; simp
    | false => simp only [cond_false]; rw [flat_fold xs _ _ (by omega)]; simp
theorem mixIn_fold {ρ : Type} {v : Int} {a : Val Y108} {r : Option ρ} {k : List (Val Y108) → Option ρ} : ∀ (xs : List (Val Y108)) (i : Nat) (s : List (Val Y108)), s.length + xs.length ≤ 1048576 →
    foldK (fun _ (b : Val Y108) (s : List (Val Y108)) K => bif decide (0 ≤ cfV v b) then K s else bif !(mixA a (-cfV v b) b (cfV v a)).2 then r else chk (s.length + [(mixA a (-cfV v b) b (cfV v a)).1].length ≤ 1048576) (K (s ++ [(mixA a (-cfV v b) b (cfV v a)).1]))) i xs s k = match mixIn v a xs s with
      | some s' => k s'
      | none => r
  | [], _, s, _ => by rw [foldK]; rfl
  | b :: xs, i, s, h => by
    simp only [List.length_cons] at h
    rw [foldK, mixIn]
    by_cases hb : cfV v b < 0
    · rw [bif_decN (show ¬ 0 ≤ cfV v b by omega), bif_dec hb]
      cases hm : (mixA a (-cfV v b) b (cfV v a)).2 with
      | false => rfl
      | true =>
        simp only [Bool.not_true, cond_false, cond_true]
        rw [chk_pos (by simp; omega)]
        exact mixIn_fold xs _ _ (by simp; omega)
    · rw [bif_dec (show 0 ≤ cfV v b by omega), bif_decN hb]
      exact mixIn_fold xs _ _ (by omega)
theorem t237a (N : Nat) (d v : Int) (l : List (Val Y108)) (hv : 0 ≤ v ∧ v < d) (hl : l.length ≤ 1048576) (h : ∀ b ∈ l, okD d b) (K : List (Val Y108) → Option (Vals [i33, i4])) (n : Nat) (hn : l.length < n) :
    m237_l5 N v l l.length d l 0 K n 0 [] = K (l.filter fun a => decide (cfV v a = 0)) :=
  (loop_fold (xs := l) (F := fun n i s => m237_l5 N v l l.length d l 0 K n i s) (step := fun _ (x : Val Y108) (s : List (Val Y108)) K => bif decide (cfV v x = 0) then chk (s.length + [x].length ≤ 1048576) (K (s ++ [x])) else K s) (k := K) hl (fun n i s hi => by
    have hd := (h _ (List.getElem_mem hi)).2
    rw [m237_l5, bif_dec (by omega), chk_pos (by omega), getD_atI hi, chk_pos ⟨hv.1, by rw [show (List.length (α := Val (.int .i64)) l[i].1 : Int) = d from hd]; exact hv.2⟩]
    try rfl) (fun n i s hi => by rw [m237_l5, bif_decN (by omega)]) n [] hn).trans (flat_fold l 0 [] (by simpa using hl))
theorem t237b (N : Nat) (d v : Int) (l : List (Val Y108)) (hv : 0 ≤ v ∧ v < d) (hl : l.length ≤ 1048576) (h : ∀ b ∈ l, okD d b) (a : Val Y108) (ha : okD d a) (i0 : Int) (K : List (Val Y108) → Option (Vals [i33, i4])) (n : Nat) (hn : l.length < n) (s : List (Val Y108)) (hs : s.length + l.length ≤ 1048576) :
    m237_l15 N v l l.length i0 l l.length d l 0 a.1 a.2.1 a.2.2 K n 0 s = match mixIn v a l s with
      | some s' => K s'
      | none => noCell :=
  (loop_fold (xs := l) (F := fun n i s => m237_l15 N v l l.length i0 l l.length d l 0 a.1 a.2.1 a.2.2 K n i s) (step := fun _ (b : Val Y108) (s : List (Val Y108)) K => bif decide (0 ≤ cfV v b) then K s else bif !(mixA a (-cfV v b) b (cfV v a)).2 then noCell else chk (s.length + [(mixA a (-cfV v b) b (cfV v a)).1].length ≤ 1048576) (K (s ++ [(mixA a (-cfV v b) b (cfV v a)).1]))) (k := K) hl (fun n i s hi => by
    have hb := h _ (List.getElem_mem hi)
    have hbd := hb.2
    have had := ha.2
    have hc := cfV_in (v := v) hb.1
    rw [m237_l15, bif_dec (by omega), chk_pos (by omega), getD_atI hi, chk_pos ⟨hv.1, by rw [show (List.length (α := Val (.int .i64)) l[i].1 : Int) = d from hbd]; exact hv.2⟩, chk_pos ⟨hv.1, by rw [show (List.length (α := Val (.int .i64)) l[i].1 : Int) = d from hbd]; exact hv.2⟩, chk_pos ⟨hv.1, by rw [show (List.length (α := Val (.int .i64)) a.1 : Int) = d from had]; exact hv.2⟩, cfV_eq, cfV_eq, neg_in (by unfold inI; omega)]
    try rfl) (fun n i s hi => by rw [m237_l15, bif_decN (by omega)]) n s hn).trans (mixIn_fold l 0 s hs)
theorem t237c (N : Nat) (d v : Int) (l : List (Val Y108)) (hv : 0 ≤ v ∧ v < d) (hl : l.length ≤ 16) (h : ∀ b ∈ l, okD d b) (hN : l.length < N) (K : List (Val Y108) → Option (Vals [i33, i4])) : ∀ (k i : Nat), l.length - i = k → ∀ n, k < n → ∀ s : List (Val Y108), s.length + k * l.length ≤ 1000 → (∀ b ∈ s, okD d b) →
    m237_l11 N v l l.length d l 0 K n i s = match mixOut v l (l.drop i) s with
      | some s' => K s'
      | none => noCell
  | 0, i, hi, n + 1, _, s, _, _ => by
    rw [m237_l11, bif_decN (by omega), List.drop_eq_nil_of_le (by omega)]
    rfl
  | k + 1, i, hi, n + 1, hn, s, hs, hsd => by
    have h1 : i < l.length := by omega
    have ha := h _ (List.getElem_mem h1)
    have had := ha.2
    have hk : s.length + (k * l.length + l.length) ≤ 1000 := by rw [Nat.add_mul, Nat.one_mul] at hs; exact hs
    rw [m237_l11, bif_dec (by omega), chk_pos (by omega), getD_atI h1, chk_pos ⟨hv.1, by rw [show (List.length (α := Val (.int .i64)) l[i].1 : Int) = d from had]; exact hv.2⟩, cfV_eq, wrap_succ h1 (by omega), drop_at h1, mixOut]
    by_cases hc : 0 < cfV v l[i]
    · rw [bif_decN (show ¬ cfV v l[i] ≤ 0 by omega), bif_dec hc, t237b N d v l hv (by omega) h l[i] ha _ _ N hN s (by omega)]
      cases hm : mixIn v l[i] l s with
      | none => rfl
      | some s1 =>
        obtain ⟨g1, g2⟩ := mixIn_ok ha h hsd hm
        exact t237c N d v l hv hl h hN K k (i + 1) (by omega) n (by omega) s1 (by omega) g1
    · rw [bif_dec (show cfV v l[i] ≤ 0 by omega), bif_decN hc]
      exact t237c N d v l hv hl h hN K k (i + 1) (by omega) n (by omega) s (by omega) hsd
theorem drop_okL {d v : Int} {l s : List (Val Y108)} (hd : 0 ≤ d ∧ d ≤ 4) (hl : l.length ≤ 16) (h : ∀ b ∈ l, okD d b) (hm : mixOut v l l (l.filter fun a => decide (cfV v a = 0)) = some s) : okL d s := by
  have hf := List.length_filter_le (fun a : Val Y108 => decide (cfV v a = 0)) l
  obtain ⟨g1, g2⟩ := mixOut_ok h h (fun b hb => h b (List.mem_filter.1 hb).1) hm
  have : l.length * l.length ≤ 16 * 16 := Nat.mul_le_mul hl hl
  exact ⟨hd, by omega, g1⟩
theorem e237 (c : Val Y33) (v : Int) : ∃ N, m237 N c v = some ((dropV c v).1, (dropV c v).2, ()) := ⟨List.length (α := Val Y108) c.2 + 1, by
  rw [m237]
  unfold dropV
  cases hc : isCell c with
  | false => rfl
  | true =>
  obtain ⟨hd, hl, hok⟩ := cell_in hc
  simp only [Bool.not_true, cond_false, Bool.true_and]
  by_cases h1 : v < 0
  · rw [bif_dec h1, decide_eq_false (by omega)]; rfl
  rw [bif_decN h1]
  by_cases h2 : (c.1 : Int) ≤ v
  · rw [bif_dec h2, decide_eq_false (fun h => absurd h.2 (Int.not_lt.2 h2))]; rfl
  have hv : 0 ≤ v ∧ v < (c.1 : Int) := ⟨by omega, Int.not_le.1 h2⟩
  rw [bif_decN h2, decide_eq_true hv]
  have hf := List.length_filter_le (fun a : Val Y108 => decide (cfV v a = 0)) c.2
  have hll : List.length (α := Val Y108) c.2 * List.length (α := Val Y108) c.2 ≤ 16 * 16 := Nat.mul_le_mul hl hl
  rw [t237a _ c.1 v c.2 hv (by omega) hok _ _ (Nat.lt_succ_self _)]
  have hfs : ∀ b ∈ List.filter (α := Val Y108) (fun a => decide (cfV v a = 0)) c.2, okD c.1 b := fun b hb => hok b (List.mem_filter.1 hb).1
  unfold dropL
  generalize hS : List.filter (α := Val Y108) (fun a => decide (cfV v a = 0)) c.2 = S at hf hfs ⊢
  refine (t237c _ c.1 v c.2 hv hl hok (Nat.lt_succ_self _) _ (List.length (α := Val Y108) c.2) 0 rfl _ (Nat.lt_succ_self _) S (by have h5 : S.length ≤ List.length (α := Val Y108) c.2 := hf; omega) hfs).trans ?_
  rw [List.drop_zero]
  simp only [cond_true]
  cases hm : mixOut v c.2 c.2 S with
  | none => rfl
  | some s =>
    dsimp only
    rw [chk_pos (show limV_pre c.1 s from drop_okL hd hl hok (hS ▸ hm))]⟩
theorem s237 : Sound Tryz.prog 237 g237 := sound_run (tt := tt) (Γ := Γ237) hT (ok_cons s199 (ok_cons s255 (ok_cons s293 ok_nil))) hm (fn := Tryz.f237) Tryz.func237 (c := Tryz.f237.body.getD .skip) (by kernel_rfl) (by kernel_rfl) fun x hx => by
  obtain ⟨N, h⟩ := e237 x.1 x.2.1
  exact ⟨T237 N, p237, noSem_ok _, tb237 N, (run237 N x.1 x.2.1).trans h⟩
theorem skip_fold {ρ α σ : Type} {k : σ → Option ρ} : ∀ (xs : List α) (i : Nat) (s : σ), foldK (fun _ (_ : α) (s : σ) (K : σ → Option ρ) => K s) i xs s k = k s
  | [], _, _ => rfl
  | _ :: xs, i, s => by rw [foldK]; exact skip_fold xs _ s
theorem t151a (N : Nat) (d v : Int) (l : List (Val Y108)) (hv : 0 ≤ v ∧ v < d) (hl : l.length ≤ 1048576) (h : ∀ b ∈ l, okD d b) (K : List (Val Y108) → Option (Vals [i33, i4])) (n : Nat) (hn : l.length < n) :
    m151_l3 N v d l 0 K n 0 [] = K (l.filter fun a => decide (cfV v a = 0)) :=
  (loop_fold (xs := l) (F := fun n i s => m151_l3 N v d l 0 K n i s) (step := fun _ (x : Val Y108) (s : List (Val Y108)) K => bif decide (cfV v x = 0) then chk (s.length + [x].length ≤ 1048576) (K (s ++ [x])) else K s) (k := K) hl (fun n i s hi => by
    have hd := (h _ (List.getElem_mem hi)).2
    rw [m151_l3, bif_dec (by omega), chk_pos (by omega), getD_atI hi, chk_pos ⟨hv.1, by rw [show (List.length (α := Val (.int .i64)) l[i].1 : Int) = d from hd]; exact hv.2⟩, chk_pos (by omega)]
    try rfl) (fun n i s hi => by rw [m151_l3, bif_decN (by omega)]) n [] hn).trans (flat_fold l 0 [] (by simpa using hl))
theorem t151b (N : Nat) (d v : Int) (l : List (Val Y108)) (hv : 0 ≤ v ∧ v < d) (hl : l.length ≤ 1048576) (h : ∀ b ∈ l, okD d b) (i0 : Nat) (h0 : i0 < l.length) (K : List (Val Y108) → Option (Vals [i33, i4])) (n : Nat) (hn : l.length < n) (s : List (Val Y108)) (hs : s.length + l.length ≤ 1048576) :
    m151_l11 N v i0 d l 0 K n 0 s = bif decide (0 < cfV v l[i0]) then (match mixIn v l[i0] l s with
      | some s' => K s'
      | none => noCell) else K s := by
  refine (loop_fold (xs := l) (F := fun n i s => m151_l11 N v i0 d l 0 K n i s) (step := fun _ (b : Val Y108) (s : List (Val Y108)) K => bif decide (cfV v l[i0] ≤ 0) then K s else bif decide (0 ≤ cfV v b) then K s else bif !(mixA l[i0] (-cfV v b) b (cfV v l[i0])).2 then noCell else chk (s.length + [(mixA l[i0] (-cfV v b) b (cfV v l[i0])).1].length ≤ 1048576) (K (s ++ [(mixA l[i0] (-cfV v b) b (cfV v l[i0])).1]))) (k := K) hl (fun n i s hi => ?_) (fun n i s hi => by rw [m151_l11, bif_decN (by omega)]) n s hn).trans ?_
  · have ha := h _ (List.getElem_mem h0)
    have hb := h _ (List.getElem_mem hi)
    have hbd := hb.2
    have had := ha.2
    have hc := cfV_in (v := v) hb.1
    have p1 : idA_pre l[i0] := by have := (atom_in ha.1).1; show List.length (α := Val (.int .i64)) l[i0].1 ≤ 1048576; exact Nat.le_trans this (by decide)
    have p2 : idA_pre l[i] := by have := (atom_in hb.1).1; show List.length (α := Val (.int .i64)) l[i].1 ≤ 1048576; exact Nat.le_trans this (by decide)
    rw [m151_l11, bif_dec (by omega), getD_atI h0, getD_atI hi]
    have ng : IntKind.i64.wrap (0 - cfV v l[i]) = -cfV v l[i] := neg_in (by unfold inI; omega)
    rw [cfV_eq v l[i0], cfV_eq v l[i], ng, chk_pos (by omega), chk_pos ⟨hv.1, by rw [show (List.length (α := Val (.int .i64)) l[i0].1 : Int) = d from had]; exact hv.2⟩, chk_pos (by omega), chk_pos ⟨hv.1, by rw [show (List.length (α := Val (.int .i64)) l[i].1 : Int) = d from hbd]; exact hv.2⟩, chk_pos (by omega), chk_pos (by omega), chk_pos (show mixA_pre l[i0] _ l[i] _ from ⟨p1, p2⟩)]
    try rfl
  · by_cases hx : 0 < cfV v l[i0]
    · rw [bif_dec hx, decide_eq_false (show ¬ cfV v l[i0] ≤ 0 by omega)]
      exact mixIn_fold l 0 s hs
    · rw [bif_decN hx, decide_eq_true (show cfV v l[i0] ≤ 0 by omega)]
      exact skip_fold l 0 s
theorem t151c (N : Nat) (d v : Int) (l : List (Val Y108)) (hv : 0 ≤ v ∧ v < d) (hl : l.length ≤ 16) (h : ∀ b ∈ l, okD d b) (hN : l.length < N) (K : List (Val Y108) → Option (Vals [i33, i4])) : ∀ (k i : Nat), l.length - i = k → ∀ n, k < n → ∀ s : List (Val Y108), s.length + k * l.length ≤ 1000 → (∀ b ∈ s, okD d b) →
    m151_l8 N v d l 0 K n i s = match mixOut v l (l.drop i) s with
      | some s' => K s'
      | none => noCell
  | 0, i, hi, n + 1, _, s, _, _ => by
    rw [m151_l8, bif_decN (by omega), List.drop_eq_nil_of_le (by omega)]
    rfl
  | k + 1, i, hi, n + 1, hn, s, hs, hsd => by
    have h1 : i < l.length := by omega
    have ha := h _ (List.getElem_mem h1)
    have hk : s.length + (k * l.length + l.length) ≤ 1000 := by rw [Nat.add_mul, Nat.one_mul] at hs; exact hs
    rw [m151_l8, bif_dec (by omega), wrap_succ h1 (by omega), drop_at h1, mixOut, t151b N d v l hv (by omega) h i h1 _ N hN s (by omega)]
    by_cases hc : 0 < cfV v l[i]
    · rw [bif_dec hc, bif_dec hc]
      cases hm : mixIn v l[i] l s with
      | none => rfl
      | some s1 =>
        obtain ⟨g1, g2⟩ := mixIn_ok ha h hsd hm
        exact t151c N d v l hv hl h hN K k (i + 1) (by omega) n (by omega) s1 (by omega) g1
    · rw [bif_decN hc, bif_decN hc]
      exact t151c N d v l hv hl h hN K k (i + 1) (by omega) n (by omega) s (by omega) hsd
theorem e151 (c : Val Y33) (v : Int) (h : dropL_pre c v) : ∃ N, m151 N c v = some ((dropL c v).1, (dropL c v).2, ()) := ⟨List.length (α := Val Y108) c.2 + 1, by
  obtain ⟨hc, hv⟩ := h
  rw [m151]
  obtain ⟨hd, hl, hok⟩ := cell_in hc
  have hf := List.length_filter_le (fun a : Val Y108 => decide (cfV v a = 0)) c.2
  have hll : List.length (α := Val Y108) c.2 * List.length (α := Val Y108) c.2 ≤ 16 * 16 := Nat.mul_le_mul hl hl
  rw [t151a _ c.1 v c.2 hv (by omega) hok _ _ (Nat.lt_succ_self _)]
  have hfs : ∀ b ∈ List.filter (α := Val Y108) (fun a => decide (cfV v a = 0)) c.2, okD c.1 b := fun b hb => hok b (List.mem_filter.1 hb).1
  unfold dropL
  generalize hS : List.filter (α := Val Y108) (fun a => decide (cfV v a = 0)) c.2 = S at hf hfs ⊢
  refine (t151c _ c.1 v c.2 hv hl hok (Nat.lt_succ_self _) _ (List.length (α := Val Y108) c.2) 0 rfl _ (Nat.lt_succ_self _) S (by have h5 : S.length ≤ List.length (α := Val Y108) c.2 := hf; omega) hfs).trans ?_
  rw [List.drop_zero]
  cases hm : mixOut v c.2 c.2 S with
  | none => rfl
  | some s =>
    dsimp only
    rw [chk_pos (show nrmV_pre c.1 s from drop_okL hd hl hok (hS ▸ hm))]
    unfold limV
    cases decide ((16 : Int) < (List.length (α := Val Y108) (nrmV c.1 s).2 : Int)) <;> rfl⟩
theorem s151 : Sound Tryz.prog 151 g151 := sound_run (tt := tt) (Γ := Γ151) hT (ok_cons s150 (ok_cons s235 ok_nil)) hm (fn := Tryz.f151) Tryz.func151 (c := Tryz.f151.body.getD .skip) (by kernel_rfl) (by kernel_rfl) fun x hx => by
  obtain ⟨N, h⟩ := e151 x.1 x.2.1 hx
  exact ⟨T151 N, p151, noSem_ok _, tb151 N, (run151 N x.1 x.2.1).trans h⟩
end Go.T
