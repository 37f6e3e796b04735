/- Dropping variables. -/
import Derived.Test.YthefcjjgchekiaaGreatB6
import Derived.Test.YthefcjjgchekiaaGreatB8
set_option linter.unusedSimpArgs false
set_option linter.unusedVariables false
namespace Go.T
open Go Go.Proofs
set_option maxHeartbeats 4000000
set_option maxRecDepth 100000
def cfV (v : Int) (a : Val qa) : Int := List.getD (α := Int) a.1 v.toNat 0
def qcJ (v : Int) (a : Val qa) : List (Val qa) → List (Val qa) → Option (List (Val qa))
  | [], s => some s
  | b :: r, s => bif decide (cfV v b < 0) then (bif (q5 a (-cfV v b) b (cfV v a)).2 then qcJ v a r (s ++ [(q5 a (-cfV v b) b (cfV v a)).1]) else none) else qcJ v a r s
def qb2 (v : Int) (l : List (Val qa)) : List (Val qa) → List (Val qa) → Option (List (Val qa))
  | [], s => some s
  | a :: r, s => bif decide (0 < cfV v a) then (match qcJ v a l s with
    | some s' => qb2 v l r s'
    | none => none) else qb2 v l r s
def qad (c : Val Y33) (v : Int) : Val Y33 × Bool := match qb2 v c.2 c.2 (List.filter (α := Val qa) (fun a => decide (cfV v a = 0)) c.2) with
  | some l => qaL c.1 l
  | none => (((0 : Int), []), false)
def qyL (c : Val Y33) (v : Int) : Prop := qz c = true ∧ 0 ≤ v ∧ v < (c.1 : Int)
def qev (c : Val Y33) (v : Int) : Val Y33 × Bool := bif qz c && decide (0 ≤ v ∧ v < (c.1 : Int)) then qad c v else (((0 : Int), []), false)
def qkK : G := { ps := [i33, i3], rs := [i33, i4], dp := true, pre := fun _ => True, fn := fun x => ((qev x.1 x.2.1).1, (qev x.1 x.2.1).2, ()) }
def qk5 : G := { ps := [i33, i3], rs := [i33, i4], dp := false, pre := fun x => qyL x.1 x.2.1, fn := fun x => ((qad x.1 x.2.1).1, (qad x.1 x.2.1).2, ()) }
noncomputable def qfw (N : Nat) (v2 : Int) (v3 : List (Val qa)) (v4 : Int) (v6 : Int) (v7 : List (Val qa)) (v8 : Int) (k0 : (List (Val qa)) → Option (qb [i33, i4])) : Nat → Int → (List (Val qa)) → Option (qb [i33, i4])
  | 0, _, _ => none
  | n + 1, v5, v9 => bif (decide (v5 < v4)) then (chk (0 ≤ v5 ∧ v5 < (v3.length : Int)) (chk (0 ≤ v2 ∧ v2 < (((v3.getD v5.toNat (qc qa)).1 : List (Val (.int .i64))).length : Int)) (bif (decide (((((v3.getD v5.toNat (qc qa)).1 : List (Val (.int .i64))).getD v2.toNat (qc (.int .i64))) : Int) = (0 : Int))) then (chk (v9.length + ([(v3.getD v5.toNat (qc qa))] : List (Val qa)).length ≤ 1048576) (qfw N v2 v3 v4 v6 v7 v8 k0 n (IntKind.i64.wrap (v5 + (1 : Int))) (v9 ++ ([(v3.getD v5.toNat (qc qa))] : List (Val qa))))) else (qfw N v2 v3 v4 v6 v7 v8 k0 n (IntKind.i64.wrap (v5 + (1 : Int))) v9)))) else (k0 v9)
noncomputable def qe2 (N : Nat) (v36 : Int) (v37 : List (Val qa)) (v38 : Int) (v39 : Int) (v40 : List (Val qa)) (v41 : Int) (v43 : Int) (v44 : List (Val qa)) (v45 : Int) (v47 : List (Val (.int .i64))) (v48 : Int) (v49 : Bool) (k4 : (List (Val qa)) → Option (qb [i33, i4])) : Nat → Int → (List (Val qa)) → Option (qb [i33, i4])
  | 0, _, _ => none
  | n + 1, v42, v46 => bif (decide (v42 < v41)) then (chk (0 ≤ v42 ∧ v42 < (v40.length : Int)) (chk (0 ≤ v36 ∧ v36 < (((v40.getD v42.toNat (qc qa)).1 : List (Val (.int .i64))).length : Int)) (bif (decide ((0 : Int) ≤ ((((v40.getD v42.toNat (qc qa)).1 : List (Val (.int .i64))).getD v36.toNat (qc (.int .i64))) : Int))) then (qe2 N v36 v37 v38 v39 v40 v41 v43 v44 v45 v47 v48 v49 k4 n (IntKind.i64.wrap (v42 + (1 : Int))) v46) else (chk (0 ≤ v36 ∧ v36 < (((v40.getD v42.toNat (qc qa)).1 : List (Val (.int .i64))).length : Int)) (chk (0 ≤ v36 ∧ v36 < (v47.length : Int)) (bif (!((q5 (v47, v48, v49) (IntKind.i64.wrap (0 - ((((v40.getD v42.toNat (qc qa)).1 : List (Val (.int .i64))).getD v36.toNat (qc (.int .i64))) : Int))) (v40.getD v42.toNat (qc qa)) ((v47.getD v36.toNat (qc (.int .i64))) : Int)).2 : Bool)) then (some (((0 : Int), ([] : List (Val qa))), false, ())) else (chk (v46.length + ([((((q5 (v47, v48, v49) (IntKind.i64.wrap (0 - ((((v40.getD v42.toNat (qc qa)).1 : List (Val (.int .i64))).getD v36.toNat (qc (.int .i64))) : Int))) (v40.getD v42.toNat (qc qa)) ((v47.getD v36.toNat (qc (.int .i64))) : Int)).1).1 : List (Val (.int .i64))), ((((q5 (v47, v48, v49) (IntKind.i64.wrap (0 - ((((v40.getD v42.toNat (qc qa)).1 : List (Val (.int .i64))).getD v36.toNat (qc (.int .i64))) : Int))) (v40.getD v42.toNat (qc qa)) ((v47.getD v36.toNat (qc (.int .i64))) : Int)).1).2).1 : Int), ((((q5 (v47, v48, v49) (IntKind.i64.wrap (0 - ((((v40.getD v42.toNat (qc qa)).1 : List (Val (.int .i64))).getD v36.toNat (qc (.int .i64))) : Int))) (v40.getD v42.toNat (qc qa)) ((v47.getD v36.toNat (qc (.int .i64))) : Int)).1).2).2 : Bool))] : List (Val qa)).length ≤ 1048576) (qe2 N v36 v37 v38 v39 v40 v41 v43 v44 v45 v47 v48 v49 k4 n (IntKind.i64.wrap (v42 + (1 : Int))) (v46 ++ ([((((q5 (v47, v48, v49) (IntKind.i64.wrap (0 - ((((v40.getD v42.toNat (qc qa)).1 : List (Val (.int .i64))).getD v36.toNat (qc (.int .i64))) : Int))) (v40.getD v42.toNat (qc qa)) ((v47.getD v36.toNat (qc (.int .i64))) : Int)).1).1 : List (Val (.int .i64))), ((((q5 (v47, v48, v49) (IntKind.i64.wrap (0 - ((((v40.getD v42.toNat (qc qa)).1 : List (Val (.int .i64))).getD v36.toNat (qc (.int .i64))) : Int))) (v40.getD v42.toNat (qc qa)) ((v47.getD v36.toNat (qc (.int .i64))) : Int)).1).2).1 : Int), ((((q5 (v47, v48, v49) (IntKind.i64.wrap (0 - ((((v40.getD v42.toNat (qc qa)).1 : List (Val (.int .i64))).getD v36.toNat (qc (.int .i64))) : Int))) (v40.getD v42.toNat (qc qa)) ((v47.getD v36.toNat (qc (.int .i64))) : Int)).1).2).2 : Bool))] : List (Val qa))))))))))) else (k4 v46)
noncomputable def qeb (N : Nat) (v12 : Int) (v13 : List (Val qa)) (v14 : Int) (v16 : Int) (v17 : List (Val qa)) (v18 : Int) (k2 : (List (Val qa)) → Option (qb [i33, i4])) : Nat → Int → (List (Val qa)) → Option (qb [i33, i4])
  | 0, _, _ => none
  | n + 1, v15, v19 => bif (decide (v15 < v14)) then (chk (0 ≤ v15 ∧ v15 < (v13.length : Int)) (chk (0 ≤ v12 ∧ v12 < (((v13.getD v15.toNat (qc qa)).1 : List (Val (.int .i64))).length : Int)) (bif (decide (((((v13.getD v15.toNat (qc qa)).1 : List (Val (.int .i64))).getD v12.toNat (qc (.int .i64))) : Int) ≤ (0 : Int))) then (qeb N v12 v13 v14 v16 v17 v18 k2 n (IntKind.i64.wrap (v15 + (1 : Int))) v19) else (qe2 N v12 v13 v14 v15 v17 (v17.length : Int) v16 v17 v18 ((v13.getD v15.toNat (qc qa)).1 : List (Val (.int .i64))) (((v13.getD v15.toNat (qc qa)).2).1 : Int) (((v13.getD v15.toNat (qc qa)).2).2 : Bool) (fun (v51 : List (Val qa)) => qeb N v12 v13 v14 v16 v17 v18 k2 n (IntKind.i64.wrap (v15 + (1 : Int))) v51) N (0 : Int) v19)))) else (k2 v19)
noncomputable def qyG (N : Nat) (v0 : Val Y33) (v1 : Int) : Option (qb [i33, i4]) := bif (!((qz v0) : Bool)) then (some (((0 : Int), ([] : List (Val qa))), false, ())) else (bif (decide (v1 < (0 : Int))) then (some (((0 : Int), ([] : List (Val qa))), false, ())) else (bif (decide ((v0.1 : Int) ≤ v1)) then (some (((0 : Int), ([] : List (Val qa))), false, ())) else (qfw N v1 (v0.2 : List (Val qa)) ((v0.2 : List (Val qa)).length : Int) (v0.1 : Int) (v0.2 : List (Val qa)) (0 : Int) (fun (v11 : List (Val qa)) => qeb N v1 (v0.2 : List (Val qa)) ((v0.2 : List (Val qa)).length : Int) (v0.1 : Int) (v0.2 : List (Val qa)) (0 : Int) (fun (v53 : List (Val qa)) => chk (qge (v0.1 : Int) v53) (some (((((qaL (v0.1 : Int) v53).1).1 : Int), (((qaL (v0.1 : Int) v53).1).2 : List (Val qa))), ((qaL (v0.1 : Int) v53).2 : Bool), ()))) N (0 : Int) v11) N (0 : Int) ([] : List (Val qa)))))
def qb1 : Gam := [(199, qay), (255, qcY), (293, qeO)]
theorem qiq : Gam.get qb1 199 = some qay := rfl
theorem qiI : Gam.get qb1 255 = some qcY := rfl
theorem qgW : Gam.get qb1 293 = some qeO := rfl
def qo4 : Nm := ⟨[false, true, true, false, true, false, true, false, false, false, false, false, false, false, false, false, false, false, false, false, false, false, false, false, false, false, false, false, false, false, false, true, true, true], [.und 6 0 108 qa], false⟩
theorem qhI : qo4.zero = false := rfl
theorem qie : qo4.fix = [.und 6 0 108 qa] := rfl
theorem qiB : qo4.keep = [false, true, true, false, true, false, true, false, false, false, false, false, false, false, false, false, false, false, false, false, false, false, false, false, false, false, false, false, false, false, false, true, true, true] := rfl
def qq4 : Nm := ⟨[false, true, true, false, true, false, true, false, false, false, true, false, false, false, false, false, false, false, false, false, false, false, false, false, false, false, false, false, false, false, false, false, false, false, false, false, false, false, false, false, false, false, false, false, false, false, false, false, false, true, true, true, false, false, false, false, false, false, false, false, false, false, true, true, true], [], false⟩
theorem qij : qq4.zero = false := rfl
theorem qiH : qq4.fix = [] := rfl
theorem qjz : qq4.keep = [false, true, true, false, true, false, true, false, false, false, true, false, false, false, false, false, false, false, false, false, false, false, false, false, false, false, false, false, false, false, false, false, false, false, false, false, false, false, false, false, false, false, false, false, false, false, false, false, false, true, true, true, false, false, false, false, false, false, false, false, false, false, true, true, true] := rfl
def qpB : Nm := ⟨[false, true, true, false, true, false, true, false, false, false, false, false, false, false, false, false, false, false, false, false, false, false, false, false, false, false, false, false, false, false, false, false, false, false, false, false, false, false, false, false, false, false, false, false, false, false, false, false, false, true, true, true], [], false⟩
theorem qiy : qpB.zero = false := rfl
theorem qg6 : qpB.fix = [] := rfl
theorem qiN : qpB.keep = [false, true, true, false, true, false, true, false, false, false, false, false, false, false, false, false, false, false, false, false, false, false, false, false, false, false, false, false, false, false, false, false, false, false, false, false, false, false, false, false, false, false, false, false, false, false, false, false, false, true, true, true] := rfl
def qvD : Nm := ⟨[false, true, true, false, true, false, true], [], false⟩
theorem qgZ : qvD.zero = false := rfl
theorem qib : qvD.fix = [] := rfl
theorem qhK : qvD.keep = [false, true, true, false, true, false, true] := rfl
def qwj : Nm := ⟨[false, false, true, false, true, false, true], [], false⟩
theorem qhc : qwj.zero = false := rfl
theorem qho : qwj.fix = [] := rfl
theorem qjv : qwj.keep = [false, false, true, false, true, false, true] := rfl
def qxm : Nm := ⟨[false, true, true, false, true, false, true, false, false, false, false, false, false, false, false, false, false, false, false, false, false, false, false, false, false, false, false, false, false, false, false, false, false, false, false, false, false, false, false, false, false, false, false, false, false, false, false, false, false, true, true, true], [], false⟩
theorem qhp : qxm.zero = false := rfl
theorem qg1 : qxm.fix = [] := rfl
theorem qjF : qxm.keep = [false, true, true, false, true, false, true, false, false, false, false, false, false, false, false, false, false, false, false, false, false, false, false, false, false, false, false, false, false, false, false, false, false, false, false, false, false, false, false, false, false, false, false, false, false, false, false, false, false, true, true, true] := rfl
def qwB : Nm := ⟨[false, true, true, false, true, false, true, false, false, false, true, false, false, true, true, false, false, false, false, false, false, false, false, false, false, false, false, false, false, false, false, false, false, false, false, false, false, false, false, false, false, false, false, false, false, false, false, false, false, true, true, true, false, false, false, false, false, false, false, false, false, false, true, true, true], [], false⟩
theorem qiX : qwB.zero = false := rfl
theorem qhW : qwB.fix = [] := rfl
theorem qjt : qwB.keep = [false, true, true, false, true, false, true, false, false, false, true, false, false, true, true, false, false, false, false, false, false, false, false, false, false, false, false, false, false, false, false, false, false, false, false, false, false, false, false, false, false, false, false, false, false, false, false, false, false, true, true, true, false, false, false, false, false, false, false, false, false, false, true, true, true] := rfl
def qeQ : Nat → Tree := fun i => if i = 18 then .first 3 (.first 10 (.grow 0 (.grow 1 (.grow 2 (.grow 4 (.grow 5 (.first 6 (.grow 7 (.grow 8 (.grow 9 (.grow 11 (.grow 12 (.alt 13 (.first 14 (.first 15 (.first 16 (.alt 17 (.alt 18 (.quiet 19 .done) .stop) .stop)))) (.alt 17 (.alt 13 (.quiet 14 (.quiet 15 (.first 16 (.alt 18 (.quiet 19 .done) .stop)))) .stop) .stop)))))))))))))) else .done
def qeW : Nat → Nm := fun i => if i = 5 then qo4 else if i = 15 then qq4 else if i = 11 then qpB else ⟨[], [], false⟩
def qe3 : Nat → Option Jn := fun _ => none
def qe8 : Nat → Option Nm := fun i => if i = 0 then some qvD else if i = 2 then some qwj else if i = 4 then some qxm else none
def qeZ : Nat → Option Nm := fun i => if i = 18 then some qwB else none
theorem qVT : qj qeQ (Tryz.f237.body.getD .skip) = true := by kernel_rfl
def qa9 (N : Nat) : Tab := { tr := qeQ, lp := qeW, ex := qe8, rg := qeZ, jn := qe3, fuel := N }
theorem qim (N : Nat) : (qa9 N).pins = false := rfl
theorem zeW (N : Nat) : qk Tryz.prog (qa9 N) := qp fun _ => rfl
theorem qgU (N : Nat) (i : Nat) : (qa9 N).tr i = qeQ i := rfl
theorem qin (N : Nat) (i : Nat) : (qa9 N).lp i = qeW i := rfl
theorem qjh (N : Nat) (i : Nat) : (qa9 N).ex i = qe8 i := rfl
theorem qhA (N : Nat) (i : Nat) : (qa9 N).rg i = qeZ i := rfl
theorem qjk (N : Nat) (i : Nat) : (qa9 N).jn i = qe3 i := rfl
theorem qhL (N : Nat) : (qa9 N).fuel = N := rfl
noncomputable def qQ5 : Code := cut [true, true, true, false, true, true, true] (Tryz.f237.body.getD .skip)
theorem qWj {N : Nat} {Q : X → St → Option (qb [i33, i4])} {e : List LV} {h : List Blk} : qf tt qb1 (qa9 N) qQ5 Q ⟨e, h⟩ = qf tt qb1 (qa9 N) (cut [true, true, true, false, true, true, true] (Tryz.f237.body.getD .skip)) Q ⟨e, h⟩ := rfl
theorem zas (N : Nat) (v2 : Int) (v3 : List (Val qa)) (v4 : Int) (v6 : Int) (v7 : List (Val qa)) (v8 : Int) {k0 : (List (Val qa)) → Option (qb [i33, i4])} {Q : X → St → Option (qb [i33, i4])} {c : Code} (hc : c = qQ5) (hret : ∀ st, Q .ret st = qE tt true [i33, i4] [.cell 4 33, .tmp 5] st) (h0 : ∀ (v10 : List (Val qa)), Q (.exit 0) ⟨[u, .one (.int .i64 v2), .one (.ptr 0 0 0), u, .one (.ptr 1 0 0), u, .one (.own 2), u, u, u, u, u, u, u, u, u, u, u, u, u, u, u, u, u, u, u, u, u, u, u, u, u, u, u, u, u, u, u, u, u, u, u, u, u, u, u, u, u, u, u, u, u, u, u, u, u, u, u, u, u, u, u, u, u, u, u, u, u, u, u, u, u, u, u, u, u, u, u, u, u, u, u, u, u, u, u, u, u, u, u, u, u, u, u, u, u, u, u, u, u, u, u, u, u, u, u], [.box [.int .i64 v6, .sl 108 qa v7 3], .box [.int .i64 v8, .nils], .row 108 qa v10 false true 3]⟩ = k0 v10) : ∀ (n : Nat) (v5 : Int) (v9 : List (Val qa)), qF (qf tt qb1 (qa9 N) c) false qo4 Q n ⟨[u, .one (.int .i64 v2), .one (.ptr 0 0 0), u, .one (.ptr 1 0 0), u, .one (.own 2), u, u, u, u, u, u, u, u, u, u, u, u, u, u, u, u, u, u, u, u, u, u, u, u, .one (.sl 108 qa v3 3), .one (.int .i64 v4), .one (.int .i64 v5), u, u, u, u, u, u, u, u, u, u, u, u, u, u, u, u, u, u, u, u, u, u, u, u, u, u, u, u, u, u, u, u, u, u, u, u, u, u, u, u, u, u, u, u, u, u, u, u, u, u, u, u, u, u, u, u, u, u, u, u, u, u, u, u, u, u, u, u, u, u, u, u], [.box [.int .i64 v6, .sl 108 qa v7 3], .box [.int .i64 v8, .nils], .row 108 qa v9 false true 3]⟩ = qfw N v2 v3 v4 v6 v7 v8 k0 n v5 v9 := by
  subst hc; intro n; induction n with
  | zero => intros; rfl
  | succ n ih =>
    intro v5 v9
    rw [qM, qWj, qfw]; unfold Tryz.f237
    simp (maxSteps := 10000000) -implicitDefEqProofs [qgU, qeQ, qin, qeW, qjh, qe8, qhA, qeZ, qjk, qe3, qhL, qim, qie, qiB, qhI, qiH, qjz, qij, qg6, qiN, qiy, qib, qhK, qgZ, qho, qjv, qhc, qg1, qjF, qhp, qhW, qjt, qiX, qiq, qiI, qgW, qay, qcY, qeO, hret, h0, ih]
noncomputable def qTb : Code := cut [true, true, true, true, false, true, true, true, true, true, false, true, true, true, true, true, true] (Tryz.f237.body.getD .skip)
theorem qXi {N : Nat} {Q : X → St → Option (qb [i33, i4])} {e : List LV} {h : List Blk} : qf tt qb1 (qa9 N) qTb Q ⟨e, h⟩ = qf tt qb1 (qa9 N) (cut [true, true, true, true, false, true, true, true, true, true, false, true, true, true, true, true, true] (Tryz.f237.body.getD .skip)) Q ⟨e, h⟩ := rfl
theorem ze7 (N : Nat) (v36 : Int) (v37 : List (Val qa)) (v38 : Int) (v39 : Int) (v40 : List (Val qa)) (v41 : Int) (v43 : Int) (v44 : List (Val qa)) (v45 : Int) (v47 : List (Val (.int .i64))) (v48 : Int) (v49 : Bool) {k4 : (List (Val qa)) → Option (qb [i33, i4])} {Q : X → St → Option (qb [i33, i4])} {c : Code} (hc : c = qTb) (hret : ∀ st, Q .ret st = qE tt true [i33, i4] [.cell 4 33, .tmp 5] st) (h4 : ∀ (v50 : List (Val qa)), Q (.exit 4) ⟨[u, .one (.int .i64 v36), .one (.ptr 0 0 0), u, .one (.ptr 1 0 0), u, .one (.own 2), u, u, u, u, u, u, u, u, u, u, u, u, u, u, u, u, u, u, u, u, u, u, u, u, u, u, u, u, u, u, u, u, u, u, u, u, u, u, u, u, u, u, .one (.sl 108 qa v37 3), .one (.int .i64 v38), .one (.int .i64 v39), u, u, u, u, u, u, u, u, u, u, u, u, u, u, u, u, u, u, u, u, u, u, u, u, u, u, u, u, u, u, u, u, u, u, u, u, u, u, u, u, u, u, u, u, u, u, u, u, u, u, u, u, u, u], [.box [.int .i64 v43, .sl 108 qa v44 3], .box [.int .i64 v45, .nils], .row 108 qa v50 false true 3]⟩ = k4 v50) : ∀ (n : Nat) (v42 : Int) (v46 : List (Val qa)), qF (qf tt qb1 (qa9 N) c) false qq4 Q n ⟨[u, .one (.int .i64 v36), .one (.ptr 0 0 0), u, .one (.ptr 1 0 0), u, .one (.own 2), u, u, u, .one (.ptr 3 0 0), u, u, u, u, u, u, u, u, u, u, u, u, u, u, u, u, u, u, u, u, u, u, u, u, u, u, u, u, u, u, u, u, u, u, u, u, u, u, .one (.sl 108 qa v37 4), .one (.int .i64 v38), .one (.int .i64 v39), u, u, u, u, u, u, u, u, u, u, .one (.sl 108 qa v40 4), .one (.int .i64 v41), .one (.int .i64 v42), u, u, u, u, u, u, u, u, u, u, u, u, u, u, u, u, u, u, u, u, u, u, u, u, u, u, u, u, u, u, u, u, u, u, u, u, u, u, u, u, u], [.box [.int .i64 v43, .sl 108 qa v44 4], .box [.int .i64 v45, .nils], .row 108 qa v46 false true 4, .box [.sl 3 (.int .i64) v47 4, .int .i64 v48, .bool v49]]⟩ = qe2 N v36 v37 v38 v39 v40 v41 v43 v44 v45 v47 v48 v49 k4 n v42 v46 := by
  subst hc; intro n; induction n with
  | zero => intros; rfl
  | succ n ih =>
    intro v42 v46
    rw [qM, qXi, qe2]; unfold Tryz.f237
    simp (maxSteps := 10000000) -implicitDefEqProofs [qgU, qeQ, qin, qeW, qjh, qe8, qhA, qeZ, qjk, qe3, qhL, qim, qie, qiB, qhI, qiH, qjz, qij, qg6, qiN, qiy, qib, qhK, qgZ, qho, qjv, qhc, qg1, qjF, qhp, qhW, qjt, qiX, qiq, qiI, qgW, qay, qcY, qeO, hret, h4, ih]
noncomputable def qUl : Code := cut [true, true, true, true, false, true, true, true] (Tryz.f237.body.getD .skip)
theorem zbx {N : Nat} {Q : X → St → Option (qb [i33, i4])} {e : List LV} {h : List Blk} : qf tt qb1 (qa9 N) qUl Q ⟨e, h⟩ = qf tt qb1 (qa9 N) (cut [true, true, true, true, false, true, true, true] (Tryz.f237.body.getD .skip)) Q ⟨e, h⟩ := rfl
theorem q1x (N : Nat) (v12 : Int) (v13 : List (Val qa)) (v14 : Int) (v16 : Int) (v17 : List (Val qa)) (v18 : Int) {k2 : (List (Val qa)) → Option (qb [i33, i4])} {Q : X → St → Option (qb [i33, i4])} {c : Code} (hc : c = qUl) (hret : ∀ st, Q .ret st = qE tt true [i33, i4] [.cell 4 33, .tmp 5] st) (h2 : ∀ (v52 : List (Val qa)), Q (.exit 2) ⟨[u, u, .one (.ptr 0 0 0), u, .one (.ptr 1 0 0), u, .one (.own 2), u, u, u, u, u, u, u, u, u, u, u, u, u, u, u, u, u, u, u, u, u, u, u, u, u, u, u, u, u, u, u, u, u, u, u, u, u, u, u, u, u, u, u, u, u, u, u, u, u, u, u, u, u, u, u, u, u, u, u, u, u, u, u, u, u, u, u, u, u, u, u, u, u, u, u, u, u, u, u, u, u, u, u, u, u, u, u, u, u, u, u, u, u, u, u, u, u, u, u], [.box [.int .i64 v16, .sl 108 qa v17 3], .box [.int .i64 v18, .nils], .row 108 qa v52 false true 3]⟩ = k2 v52) : ∀ (n : Nat) (v15 : Int) (v19 : List (Val qa)), qF (qf tt qb1 (qa9 N) c) false qpB Q n ⟨[u, .one (.int .i64 v12), .one (.ptr 0 0 0), u, .one (.ptr 1 0 0), u, .one (.own 2), u, u, u, u, u, u, u, u, u, u, u, u, u, u, u, u, u, u, u, u, u, u, u, u, u, u, u, u, u, u, u, u, u, u, u, u, u, u, u, u, u, u, .one (.sl 108 qa v13 3), .one (.int .i64 v14), .one (.int .i64 v15), u, u, u, u, u, u, u, u, u, u, u, u, u, u, u, u, u, u, u, u, u, u, u, u, u, u, u, u, u, u, u, u, u, u, u, u, u, u, u, u, u, u, u, u, u, u, u, u, u, u, u, u, u, u], [.box [.int .i64 v16, .sl 108 qa v17 3], .box [.int .i64 v18, .nils], .row 108 qa v19 false true 3]⟩ = qeb N v12 v13 v14 v16 v17 v18 k2 n v15 v19 := by
  subst hc; intro n; induction n with
  | zero => intros; rfl
  | succ n ih =>
    intro v15 v19
    rw [qM, zbx]; unfold Tryz.f237
    simp (maxSteps := 10000000) -implicitDefEqProofs [qgU, qeQ, qin, qeW, qjh, qe8, qhA, qeZ, qjk, qe3, qhL, qim, qie, qiB, qhI, qiH, qjz, qij, qg6, qiN, qiy, qib, qhK, qgZ, qho, qjv, qhc, qg1, qjF, qhp, qhW, qjt, qiX, qiq, qiI, qgW, qay, qcY, qeO, hret, h2, ih]
    rewrite [ze7 (k4 := (fun (v51 : List (Val qa)) => qeb N v12 v13 v14 v16 v17 v18 k2 n (IntKind.i64.wrap (v15 + (1 : Int))) v51)) N _ _ _ _ _ _ _ _ _ _ _ _ ?_ ?_ ?_]
    · rewrite [qeb]; first | rfl | simp (maxSteps := 10000000) -implicitDefEqProofs [ih]
    · rfl
    · intro; simp only [qK, qJ, qL, qC, hret]
    · intro v51; simp (maxSteps := 10000000) -implicitDefEqProofs [qgU, qeQ, qin, qeW, qjh, qe8, qhA, qeZ, qjk, qe3, qhL, qim, qie, qiB, qhI, qiH, qjz, qij, qg6, qiN, qiy, qib, qhK, qgZ, qho, qjv, qhc, qg1, qjF, qhp, qhW, qjt, qiX, qiq, qiI, qgW, qay, qcY, qeO, hret, h2, ih]
theorem zfp (N : Nat) (v0 : Val Y33) (v1 : Int) : qf tt qb1 (qa9 N) (Tryz.f237.body.getD .skip) (qm tt true [i33, i4] [.cell 4 33, .tmp 5]) (qq [i33, i3] 106 (v0, v1, ())) = qyG N v0 v1 := by
  unfold Tryz.f237
  simp (maxSteps := 10000000) -implicitDefEqProofs [qgU, qeQ, qin, qeW, qjh, qe8, qhA, qeZ, qjk, qe3, qhL, qim, qie, qiB, qhI, qiH, qjz, qij, qg6, qiN, qiy, qib, qhK, qgZ, qho, qjv, qhc, qg1, qjF, qhp, qhW, qjt, qiX, qiq, qiI, qgW, qay, qcY, qeO]
  rewrite [zas (k0 := (fun (v11 : List (Val qa)) => qeb N v1 (v0.2 : List (Val qa)) ((v0.2 : List (Val qa)).length : Int) (v0.1 : Int) (v0.2 : List (Val qa)) (0 : Int) (fun (v53 : List (Val qa)) => chk (qge (v0.1 : Int) v53) (some (((((qaL (v0.1 : Int) v53).1).1 : Int), (((qaL (v0.1 : Int) v53).1).2 : List (Val qa))), ((qaL (v0.1 : Int) v53).2 : Bool), ()))) N (0 : Int) v11)) N _ _ _ _ _ _ ?_ ?_ ?_]
  · rewrite [qyG]; first | rfl | simp (maxSteps := 10000000) -implicitDefEqProofs []
  · rfl
  · intro; simp only [qK, qJ, qL, qC]
  · intro v11; simp (maxSteps := 10000000) -implicitDefEqProofs [qgU, qeQ, qin, qeW, qjh, qe8, qhA, qeZ, qjk, qe3, qhL, qim, qie, qiB, qhI, qiH, qjz, qij, qg6, qiN, qiy, qib, qhK, qgZ, qho, qjv, qhc, qg1, qjF, qhp, qhW, qjt, qiX, qiq, qiI, qgW, qay, qcY, qeO]
    rewrite [q1x (k2 := (fun (v53 : List (Val qa)) => chk (qge (v0.1 : Int) v53) (some (((((qaL (v0.1 : Int) v53).1).1 : Int), (((qaL (v0.1 : Int) v53).1).2 : List (Val qa))), ((qaL (v0.1 : Int) v53).2 : Bool), ())))) N _ _ _ _ _ _ ?_ ?_ ?_]
    · first | rfl | simp (maxSteps := 10000000) -implicitDefEqProofs []
    · rfl
    · intro; simp only [qK, qJ, qL, qC]
    · intro v53; simp (maxSteps := 10000000) -implicitDefEqProofs [qgU, qeQ, qin, qeW, qjh, qe8, qhA, qeZ, qjk, qe3, qhL, qim, qie, qiB, qhI, qiH, qjz, qij, qg6, qiN, qiy, qib, qhK, qgZ, qho, qjv, qhc, qg1, qjF, qhp, qhW, qjt, qiX, qiq, qiI, qgW, qay, qcY, qeO]
noncomputable def qe0 (N : Nat) (v2 : Int) (v4 : Int) (v5 : List (Val qa)) (v6 : Int) (k0 : (List (Val qa)) → Option (qb [i33, i4])) : Nat → Int → (List (Val qa)) → Option (qb [i33, i4])
  | 0, _, _ => none
  | n + 1, v3, v7 => bif (decide (v3 < (v5.length : Int))) then (chk (0 ≤ v3 ∧ v3 < (v5.length : Int)) (chk (0 ≤ v2 ∧ v2 < (((v5.getD v3.toNat (qc qa)).1 : List (Val (.int .i64))).length : Int)) (bif (decide (((((v5.getD v3.toNat (qc qa)).1 : List (Val (.int .i64))).getD v2.toNat (qc (.int .i64))) : Int) = (0 : Int))) then (chk (0 ≤ v3 ∧ v3 < (v5.length : Int)) (chk (v7.length + ([(v5.getD v3.toNat (qc qa))] : List (Val qa)).length ≤ 1048576) (qe0 N v2 v4 v5 v6 k0 n (IntKind.i64.wrap (v3 + (1 : Int))) (v7 ++ ([(v5.getD v3.toNat (qc qa))] : List (Val qa)))))) else (qe0 N v2 v4 v5 v6 k0 n (IntKind.i64.wrap (v3 + (1 : Int))) v7)))) else (k0 v7)
noncomputable def qet (N : Nat) (v25 : Int) (v26 : Int) (v28 : Int) (v29 : List (Val qa)) (v30 : Int) (k4 : (List (Val qa)) → Option (qb [i33, i4])) : Nat → Int → (List (Val qa)) → Option (qb [i33, i4])
  | 0, _, _ => none
  | n + 1, v27, v31 => bif (decide (v27 < (v29.length : Int))) then (chk (0 ≤ v26 ∧ v26 < (v29.length : Int)) (chk (0 ≤ v25 ∧ v25 < (((v29.getD v26.toNat (qc qa)).1 : List (Val (.int .i64))).length : Int)) (chk (0 ≤ v27 ∧ v27 < (v29.length : Int)) (chk (0 ≤ v25 ∧ v25 < (((v29.getD v27.toNat (qc qa)).1 : List (Val (.int .i64))).length : Int)) (bif (decide (((((v29.getD v26.toNat (qc qa)).1 : List (Val (.int .i64))).getD v25.toNat (qc (.int .i64))) : Int) ≤ (0 : Int))) then (qet N v25 v26 v28 v29 v30 k4 n (IntKind.i64.wrap (v27 + (1 : Int))) v31) else (bif (decide ((0 : Int) ≤ ((((v29.getD v27.toNat (qc qa)).1 : List (Val (.int .i64))).getD v25.toNat (qc (.int .i64))) : Int))) then (qet N v25 v26 v28 v29 v30 k4 n (IntKind.i64.wrap (v27 + (1 : Int))) v31) else (chk (0 ≤ v26 ∧ v26 < (v29.length : Int)) (chk (0 ≤ v27 ∧ v27 < (v29.length : Int)) (chk (qz7 (v29.getD v26.toNat (qc qa)) (IntKind.i64.wrap (0 - ((((v29.getD v27.toNat (qc qa)).1 : List (Val (.int .i64))).getD v25.toNat (qc (.int .i64))) : Int))) (v29.getD v27.toNat (qc qa)) ((((v29.getD v26.toNat (qc qa)).1 : List (Val (.int .i64))).getD v25.toNat (qc (.int .i64))) : Int)) (bif (!((q5 (v29.getD v26.toNat (qc qa)) (IntKind.i64.wrap (0 - ((((v29.getD v27.toNat (qc qa)).1 : List (Val (.int .i64))).getD v25.toNat (qc (.int .i64))) : Int))) (v29.getD v27.toNat (qc qa)) ((((v29.getD v26.toNat (qc qa)).1 : List (Val (.int .i64))).getD v25.toNat (qc (.int .i64))) : Int)).2 : Bool)) then (some (((0 : Int), ([] : List (Val qa))), false, ())) else (chk (v31.length + ([((((q5 (v29.getD v26.toNat (qc qa)) (IntKind.i64.wrap (0 - ((((v29.getD v27.toNat (qc qa)).1 : List (Val (.int .i64))).getD v25.toNat (qc (.int .i64))) : Int))) (v29.getD v27.toNat (qc qa)) ((((v29.getD v26.toNat (qc qa)).1 : List (Val (.int .i64))).getD v25.toNat (qc (.int .i64))) : Int)).1).1 : List (Val (.int .i64))), ((((q5 (v29.getD v26.toNat (qc qa)) (IntKind.i64.wrap (0 - ((((v29.getD v27.toNat (qc qa)).1 : List (Val (.int .i64))).getD v25.toNat (qc (.int .i64))) : Int))) (v29.getD v27.toNat (qc qa)) ((((v29.getD v26.toNat (qc qa)).1 : List (Val (.int .i64))).getD v25.toNat (qc (.int .i64))) : Int)).1).2).1 : Int), ((((q5 (v29.getD v26.toNat (qc qa)) (IntKind.i64.wrap (0 - ((((v29.getD v27.toNat (qc qa)).1 : List (Val (.int .i64))).getD v25.toNat (qc (.int .i64))) : Int))) (v29.getD v27.toNat (qc qa)) ((((v29.getD v26.toNat (qc qa)).1 : List (Val (.int .i64))).getD v25.toNat (qc (.int .i64))) : Int)).1).2).2 : Bool))] : List (Val qa)).length ≤ 1048576) (qet N v25 v26 v28 v29 v30 k4 n (IntKind.i64.wrap (v27 + (1 : Int))) (v31 ++ ([((((q5 (v29.getD v26.toNat (qc qa)) (IntKind.i64.wrap (0 - ((((v29.getD v27.toNat (qc qa)).1 : List (Val (.int .i64))).getD v25.toNat (qc (.int .i64))) : Int))) (v29.getD v27.toNat (qc qa)) ((((v29.getD v26.toNat (qc qa)).1 : List (Val (.int .i64))).getD v25.toNat (qc (.int .i64))) : Int)).1).1 : List (Val (.int .i64))), ((((q5 (v29.getD v26.toNat (qc qa)) (IntKind.i64.wrap (0 - ((((v29.getD v27.toNat (qc qa)).1 : List (Val (.int .i64))).getD v25.toNat (qc (.int .i64))) : Int))) (v29.getD v27.toNat (qc qa)) ((((v29.getD v26.toNat (qc qa)).1 : List (Val (.int .i64))).getD v25.toNat (qc (.int .i64))) : Int)).1).2).1 : Int), ((((q5 (v29.getD v26.toNat (qc qa)) (IntKind.i64.wrap (0 - ((((v29.getD v27.toNat (qc qa)).1 : List (Val (.int .i64))).getD v25.toNat (qc (.int .i64))) : Int))) (v29.getD v27.toNat (qc qa)) ((((v29.getD v26.toNat (qc qa)).1 : List (Val (.int .i64))).getD v25.toNat (qc (.int .i64))) : Int)).1).2).2 : Bool))] : List (Val qa))))))))))))))) else (k4 v31)
noncomputable def qfo (N : Nat) (v10 : Int) (v12 : Int) (v13 : List (Val qa)) (v14 : Int) (k2 : (List (Val qa)) → Option (qb [i33, i4])) : Nat → Int → (List (Val qa)) → Option (qb [i33, i4])
  | 0, _, _ => none
  | n + 1, v11, v15 => bif (decide (v11 < (v13.length : Int))) then (qet N v10 v11 v12 v13 v14 (fun (v33 : List (Val qa)) => qfo N v10 v12 v13 v14 k2 n (IntKind.i64.wrap (v11 + (1 : Int))) v33) N (0 : Int) v15) else (k2 v15)
noncomputable def qzw (N : Nat) (v0 : Val Y33) (v1 : Int) : Option (qb [i33, i4]) := qe0 N v1 (v0.1 : Int) (v0.2 : List (Val qa)) (0 : Int) (fun (v9 : List (Val qa)) => qfo N v1 (v0.1 : Int) (v0.2 : List (Val qa)) (0 : Int) (fun (v35 : List (Val qa)) => chk (qaX (v0.1 : Int) v35) (bif (decide ((16 : Int) < (((qr (v0.1 : Int) v35).2 : List (Val qa)).length : Int))) then (some (((0 : Int), ([] : List (Val qa))), false, ())) else (some ((qr (v0.1 : Int) v35), true, ())))) N (0 : Int) v9) N (0 : Int) ([] : List (Val qa))
def qco : Gam := [(150, qaq), (235, qeH)]
theorem qhT : Gam.get qco 150 = some qaq := rfl
theorem qiJ : Gam.get qco 235 = some qeH := rfl
def qsu : Nm := ⟨[false, true, true, false, true, false, true, true], [.und 6 0 108 qa], false⟩
theorem qhx : qsu.zero = false := rfl
theorem qjm : qsu.fix = [.und 6 0 108 qa] := rfl
theorem qji : qsu.keep = [false, true, true, false, true, false, true, true] := rfl
def qsw : Nm := ⟨[false, true, true, false, true, false, true, false, true, true], [], false⟩
theorem qiC : qsw.zero = false := rfl
theorem qjg : qsw.fix = [] := rfl
theorem qg9 : qsw.keep = [false, true, true, false, true, false, true, false, true, true] := rfl
def qoN : Nm := ⟨[false, true, true, false, true, false, true, false, true], [], false⟩
theorem qir : qoN.zero = false := rfl
theorem qhe : qoN.fix = [] := rfl
theorem qig : qoN.keep = [false, true, true, false, true, false, true, false, true] := rfl
def qwY : Nm := ⟨[false, true, true, false, true, false, true], [], false⟩
theorem qiG : qwY.zero = false := rfl
theorem qhk : qwY.fix = [] := rfl
theorem qhs : qwY.keep = [false, true, true, false, true, false, true] := rfl
def qwH : Nm := ⟨[false, false, true, false, true, false, true], [], false⟩
theorem qhb : qwH.zero = false := rfl
theorem qiZ : qwH.fix = [] := rfl
theorem qiw : qwH.keep = [false, false, true, false, true, false, true] := rfl
def qyc : Nm := ⟨[false, true, true, false, true, false, true, false, true], [], false⟩
theorem qi8 : qyc.zero = false := rfl
theorem qjn : qyc.fix = [] := rfl
theorem qiu : qyc.keep = [false, true, true, false, true, false, true, false, true] := rfl
def qxl : Nm := ⟨[false, true, true, false, true, false, true, false, true, true, false, false, true, true], [], false⟩
theorem qju : qxl.zero = false := rfl
theorem qjB : qxl.fix = [] := rfl
theorem qgX : qxl.keep = [false, true, true, false, true, false, true, false, true, true, false, false, true, true] := rfl
def qer : Nat → Tree := fun i => if i = 16 then .first 2 (.first 5 (.first 6 (.first 9 (.first 12 (.grow 0 (.grow 1 (.grow 3 (.grow 4 (.grow 7 (.grow 8 (.grow 10 (.grow 11 (.alt 13 (.first 14 (.first 15 (.first 16 (.alt 17 (.alt 18 (.quiet 19 .done) .stop) .stop)))) (.alt 17 (.alt 13 (.quiet 14 (.quiet 15 (.first 16 (.alt 18 (.quiet 19 .done) .stop)))) .stop) .stop)))))))))))))) else .done
def qeS : Nat → Nm := fun i => if i = 3 then qsu else if i = 11 then qsw else if i = 8 then qoN else ⟨[], [], false⟩
def qeV : Nat → Option Jn := fun _ => none
def qfC : Nat → Option Nm := fun i => if i = 0 then some qwY else if i = 2 then some qwH else if i = 4 then some qyc else none
def qfD : Nat → Option Nm := fun i => if i = 16 then some qxl else none
theorem q7k : qj qer (Tryz.f151.body.getD .skip) = true := by kernel_rfl
def qbb (N : Nat) : Tab := { tr := qer, lp := qeS, ex := qfC, rg := qfD, jn := qeV, fuel := N }
theorem qhM (N : Nat) : (qbb N).pins = false := rfl
theorem qVR (N : Nat) : qk Tryz.prog (qbb N) := qp fun _ => rfl
theorem qjb (N : Nat) (i : Nat) : (qbb N).tr i = qer i := rfl
theorem qis (N : Nat) (i : Nat) : (qbb N).lp i = qeS i := rfl
theorem qi6 (N : Nat) (i : Nat) : (qbb N).ex i = qfC i := rfl
theorem qiY (N : Nat) (i : Nat) : (qbb N).rg i = qfD i := rfl
theorem qix (N : Nat) (i : Nat) : (qbb N).jn i = qeV i := rfl
theorem qg5 (N : Nat) : (qbb N).fuel = N := rfl
noncomputable def qSu : Code := cut [true, true, false, true, true, true] (Tryz.f151.body.getD .skip)
theorem q7U {N : Nat} {Q : X → St → Option (qb [i33, i4])} {e : List LV} {h : List Blk} : qf tt qco (qbb N) qSu Q ⟨e, h⟩ = qf tt qco (qbb N) (cut [true, true, false, true, true, true] (Tryz.f151.body.getD .skip)) Q ⟨e, h⟩ := rfl
theorem zar (N : Nat) (v2 : Int) (v4 : Int) (v5 : List (Val qa)) (v6 : Int) {k0 : (List (Val qa)) → Option (qb [i33, i4])} {Q : X → St → Option (qb [i33, i4])} {c : Code} (hc : c = qSu) (hret : ∀ st, Q .ret st = qE tt false [i33, i4] [.cell 4 33, .tmp 5] st) (h0 : ∀ (v8 : List (Val qa)), Q (.exit 0) ⟨[u, .one (.int .i64 v2), .one (.ptr 0 0 0), u, .one (.ptr 1 0 0), u, .one (.own 2), u, u, u, u, u, u, u, u, u, u, u, u, u, u, u, u, u, u, u, u, u, u, u, u, u, u, u, u, u, u, u, u, u, u, u, u, u, u, u, u, u, u, u, u, u, u, u, u, u, u, u, u, u, u, u, u, u, u, u, u, u, u, u, u, u, u, u, u, u, u, u, u, u, u, u, u, u, u, u, u, u, u, u, u, u, u, u, u, u, u, u, u, u, u, u, u, u, u, u, u, u, u, u, u, u, u], [.box [.int .i64 v4, .sl 108 qa v5 3], .box [.int .i64 v6, .nils], .row 108 qa v8 false true 3]⟩ = k0 v8) : ∀ (n : Nat) (v3 : Int) (v7 : List (Val qa)), qF (qf tt qco (qbb N) c) false qsu Q n ⟨[u, .one (.int .i64 v2), .one (.ptr 0 0 0), u, .one (.ptr 1 0 0), u, .one (.own 2), .one (.int .i64 v3), u, u, u, u, u, u, u, u, u, u, u, u, u, u, u, u, u, u, u, u, u, u, u, u, u, u, u, u, u, u, u, u, u, u, u, u, u, u, u, u, u, u, u, u, u, u, u, u, u, u, u, u, u, u, u, u, u, u, u, u, u, u, u, u, u, u, u, u, u, u, u, u, u, u, u, u, u, u, u, u, u, u, u, u, u, u, u, u, u, u, u, u, u, u, u, u, u, u, u, u, u, u, u, u, u], [.box [.int .i64 v4, .sl 108 qa v5 3], .box [.int .i64 v6, .nils], .row 108 qa v7 false true 3]⟩ = qe0 N v2 v4 v5 v6 k0 n v3 v7 := by
  subst hc; intro n; induction n with
  | zero => intros; rfl
  | succ n ih =>
    intro v3 v7
    rw [qM, q7U, qe0]; unfold Tryz.f151
    simp (maxSteps := 10000000) -implicitDefEqProofs [qjb, qer, qis, qeS, qi6, qfC, qiY, qfD, qix, qeV, qg5, qhM, qjm, qji, qhx, qjg, qg9, qiC, qhe, qig, qir, qhk, qhs, qiG, qiZ, qiw, qhb, qjn, qiu, qi8, qjB, qgX, qju, qhT, qiJ, qaq, qeH, hret, h0, ih]
noncomputable def qQ7 : Code := cut [true, true, true, false, true, true, true, true, false, true, true, true, true] (Tryz.f151.body.getD .skip)
theorem qZf {N : Nat} {Q : X → St → Option (qb [i33, i4])} {e : List LV} {h : List Blk} : qf tt qco (qbb N) qQ7 Q ⟨e, h⟩ = qf tt qco (qbb N) (cut [true, true, true, false, true, true, true, true, false, true, true, true, true] (Tryz.f151.body.getD .skip)) Q ⟨e, h⟩ := rfl
theorem zeh (N : Nat) (v25 : Int) (v26 : Int) (v28 : Int) (v29 : List (Val qa)) (v30 : Int) {k4 : (List (Val qa)) → Option (qb [i33, i4])} {Q : X → St → Option (qb [i33, i4])} {c : Code} (hc : c = qQ7) (hret : ∀ st, Q .ret st = qE tt false [i33, i4] [.cell 4 33, .tmp 5] st) (h4 : ∀ (v32 : List (Val qa)), Q (.exit 4) ⟨[u, .one (.int .i64 v25), .one (.ptr 0 0 0), u, .one (.ptr 1 0 0), u, .one (.own 2), u, .one (.int .i64 v26), u, u, u, u, u, u, u, u, u, u, u, u, u, u, u, u, u, u, u, u, u, u, u, u, u, u, u, u, u, u, u, u, u, u, u, u, u, u, u, u, u, u, u, u, u, u, u, u, u, u, u, u, u, u, u, u, u, u, u, u, u, u, u, u, u, u, u, u, u, u, u, u, u, u, u, u, u, u, u, u, u, u, u, u, u, u, u, u, u, u, u, u, u, u, u, u, u, u, u, u, u, u, u, u], [.box [.int .i64 v28, .sl 108 qa v29 3], .box [.int .i64 v30, .nils], .row 108 qa v32 false true 3]⟩ = k4 v32) : ∀ (n : Nat) (v27 : Int) (v31 : List (Val qa)), qF (qf tt qco (qbb N) c) false qsw Q n ⟨[u, .one (.int .i64 v25), .one (.ptr 0 0 0), u, .one (.ptr 1 0 0), u, .one (.own 2), u, .one (.int .i64 v26), .one (.int .i64 v27), u, u, u, u, u, u, u, u, u, u, u, u, u, u, u, u, u, u, u, u, u, u, u, u, u, u, u, u, u, u, u, u, u, u, u, u, u, u, u, u, u, u, u, u, u, u, u, u, u, u, u, u, u, u, u, u, u, u, u, u, u, u, u, u, u, u, u, u, u, u, u, u, u, u, u, u, u, u, u, u, u, u, u, u, u, u, u, u, u, u, u, u, u, u, u, u, u, u, u, u, u, u, u], [.box [.int .i64 v28, .sl 108 qa v29 3], .box [.int .i64 v30, .nils], .row 108 qa v31 false true 3]⟩ = qet N v25 v26 v28 v29 v30 k4 n v27 v31 := by
  subst hc; intro n; induction n with
  | zero => intros; rfl
  | succ n ih =>
    intro v27 v31
    rw [qM, qZf, qet]; unfold Tryz.f151
    simp (maxSteps := 10000000) -implicitDefEqProofs [qjb, qer, qis, qeS, qi6, qfC, qiY, qfD, qix, qeV, qg5, qhM, qjm, qji, qhx, qjg, qg9, qiC, qhe, qig, qir, qhk, qhs, qiG, qiZ, qiw, qhb, qjn, qiu, qi8, qjB, qgX, qju, qhT, qiJ, qaq, qeH, hret, h4, ih]
noncomputable def qRm : Code := cut [true, true, true, false, true, true, true] (Tryz.f151.body.getD .skip)
theorem qWi {N : Nat} {Q : X → St → Option (qb [i33, i4])} {e : List LV} {h : List Blk} : qf tt qco (qbb N) qRm Q ⟨e, h⟩ = qf tt qco (qbb N) (cut [true, true, true, false, true, true, true] (Tryz.f151.body.getD .skip)) Q ⟨e, h⟩ := rfl
theorem qZJ (N : Nat) (v10 : Int) (v12 : Int) (v13 : List (Val qa)) (v14 : Int) {k2 : (List (Val qa)) → Option (qb [i33, i4])} {Q : X → St → Option (qb [i33, i4])} {c : Code} (hc : c = qRm) (hret : ∀ st, Q .ret st = qE tt false [i33, i4] [.cell 4 33, .tmp 5] st) (h2 : ∀ (v34 : List (Val qa)), Q (.exit 2) ⟨[u, u, .one (.ptr 0 0 0), u, .one (.ptr 1 0 0), u, .one (.own 2), u, u, u, u, u, u, u, u, u, u, u, u, u, u, u, u, u, u, u, u, u, u, u, u, u, u, u, u, u, u, u, u, u, u, u, u, u, u, u, u, u, u, u, u, u, u, u, u, u, u, u, u, u, u, u, u, u, u, u, u, u, u, u, u, u, u, u, u, u, u, u, u, u, u, u, u, u, u, u, u, u, u, u, u, u, u, u, u, u, u, u, u, u, u, u, u, u, u, u, u, u, u, u, u, u, u], [.box [.int .i64 v12, .sl 108 qa v13 3], .box [.int .i64 v14, .nils], .row 108 qa v34 false true 3]⟩ = k2 v34) : ∀ (n : Nat) (v11 : Int) (v15 : List (Val qa)), qF (qf tt qco (qbb N) c) false qoN Q n ⟨[u, .one (.int .i64 v10), .one (.ptr 0 0 0), u, .one (.ptr 1 0 0), u, .one (.own 2), u, .one (.int .i64 v11), u, u, u, u, u, u, u, u, u, u, u, u, u, u, u, u, u, u, u, u, u, u, u, u, u, u, u, u, u, u, u, u, u, u, u, u, u, u, u, u, u, u, u, u, u, u, u, u, u, u, u, u, u, u, u, u, u, u, u, u, u, u, u, u, u, u, u, u, u, u, u, u, u, u, u, u, u, u, u, u, u, u, u, u, u, u, u, u, u, u, u, u, u, u, u, u, u, u, u, u, u, u, u, u], [.box [.int .i64 v12, .sl 108 qa v13 3], .box [.int .i64 v14, .nils], .row 108 qa v15 false true 3]⟩ = qfo N v10 v12 v13 v14 k2 n v11 v15 := by
  subst hc; intro n; induction n with
  | zero => intros; rfl
  | succ n ih =>
    intro v11 v15
    rw [qM, qWi]; unfold Tryz.f151
    simp (maxSteps := 10000000) -implicitDefEqProofs [qjb, qer, qis, qeS, qi6, qfC, qiY, qfD, qix, qeV, qg5, qhM, qjm, qji, qhx, qjg, qg9, qiC, qhe, qig, qir, qhk, qhs, qiG, qiZ, qiw, qhb, qjn, qiu, qi8, qjB, qgX, qju, qhT, qiJ, qaq, qeH, hret, h2, ih]
    rewrite [zeh (k4 := (fun (v33 : List (Val qa)) => qfo N v10 v12 v13 v14 k2 n (IntKind.i64.wrap (v11 + (1 : Int))) v33)) N _ _ _ _ _ ?_ ?_ ?_]
    · rewrite [qfo]; first | rfl | simp (maxSteps := 10000000) -implicitDefEqProofs [ih]
    · rfl
    · intro; simp only [qK, qJ, qL, qC, hret]
    · intro v33; simp (maxSteps := 10000000) -implicitDefEqProofs [qjb, qer, qis, qeS, qi6, qfC, qiY, qfD, qix, qeV, qg5, qhM, qjm, qji, qhx, qjg, qg9, qiC, qhe, qig, qir, qhk, qhs, qiG, qiZ, qiw, qhb, qjn, qiu, qi8, qjB, qgX, qju, qhT, qiJ, qaq, qeH, hret, h2, ih]
theorem qZB (N : Nat) (v0 : Val Y33) (v1 : Int) : qf tt qco (qbb N) (Tryz.f151.body.getD .skip) (qm tt false [i33, i4] [.cell 4 33, .tmp 5]) (qq [i33, i3] 113 (v0, v1, ())) = qzw N v0 v1 := by
  unfold Tryz.f151
  simp (maxSteps := 10000000) -implicitDefEqProofs [qjb, qer, qis, qeS, qi6, qfC, qiY, qfD, qix, qeV, qg5, qhM, qjm, qji, qhx, qjg, qg9, qiC, qhe, qig, qir, qhk, qhs, qiG, qiZ, qiw, qhb, qjn, qiu, qi8, qjB, qgX, qju, qhT, qiJ, qaq, qeH]
  rewrite [zar (k0 := (fun (v9 : List (Val qa)) => qfo N v1 (v0.1 : Int) (v0.2 : List (Val qa)) (0 : Int) (fun (v35 : List (Val qa)) => chk (qaX (v0.1 : Int) v35) (bif (decide ((16 : Int) < (((qr (v0.1 : Int) v35).2 : List (Val qa)).length : Int))) then (some (((0 : Int), ([] : List (Val qa))), false, ())) else (some ((qr (v0.1 : Int) v35), true, ())))) N (0 : Int) v9)) N _ _ _ _ ?_ ?_ ?_]
  · rewrite [qzw]; first | rfl | simp (maxSteps := 10000000) -implicitDefEqProofs []
  · rfl
  · intro; simp only [qK, qJ, qL, qC]
  · intro v9; simp (maxSteps := 10000000) -implicitDefEqProofs [qjb, qer, qis, qeS, qi6, qfC, qiY, qfD, qix, qeV, qg5, qhM, qjm, qji, qhx, qjg, qg9, qiC, qhe, qig, qir, qhk, qhs, qiG, qiZ, qiw, qhb, qjn, qiu, qi8, qjB, qgX, qju, qhT, qiJ, qaq, qeH]
    rewrite [qZJ (k2 := (fun (v35 : List (Val qa)) => chk (qaX (v0.1 : Int) v35) (bif (decide ((16 : Int) < (((qr (v0.1 : Int) v35).2 : List (Val qa)).length : Int))) then (some (((0 : Int), ([] : List (Val qa))), false, ())) else (some ((qr (v0.1 : Int) v35), true, ()))))) N _ _ _ _ ?_ ?_ ?_]
    · first | rfl | simp (maxSteps := 10000000) -implicitDefEqProofs []
    · rfl
    · intro; simp only [qK, qJ, qL, qC]
    · intro v35; simp (maxSteps := 10000000) -implicitDefEqProofs [qjb, qer, qis, qeS, qi6, qfC, qiY, qfD, qix, qeV, qg5, qhM, qjm, qji, qhx, qjg, qg9, qiC, qhe, qig, qir, qhk, qhs, qiG, qiZ, qiw, qhb, qjn, qiu, qi8, qjB, qgX, qju, qhT, qiJ, qaq, qeH]
def okD (d : Int) (a : Val qa) : Prop := okA a ∧ (List.length (α := Int) a.1 : Int) = d
abbrev qlm : Option (qb [i33, i4]) := some (((0 : Int), ([] : List (Val qa))), false, ())
theorem qtL (v : Int) (a : Val qa) : List.getD (α := Val (.int .i64)) a.1 v.toNat (qc (.int .i64)) = cfV v a := rfl
theorem qVj {v : Int} {a : Val qa} (h : okA a) : -400000000 ≤ cfV v a ∧ cfV v a ≤ 400000000 := by
  unfold cfV
  by_cases hv : v.toNat < List.length (α := Int) a.1
  · rw [List.getD_eq_getElem?_getD, List.getElem?_eq_getElem hv]
    exact qjq h _ (List.getElem_mem hv)
  · rw [List.getD_eq_getElem?_getD, List.getElem?_eq_none (by omega)]
    exact ⟨by decide, by decide⟩
theorem za9 {co : List Int} {k : Int} {s : Bool} (h : (qv co k s).2 = true) : okA (qv co k s).1 ∧ List.length (α := Int) (qv co k s).1.1 = co.length := by
  unfold qv qEh at *
  generalize max 1 (gL k.natAbs co) = g at *
  cases hb : qD (List.map (α := Int) (fun x => x.tdiv (g : Int)) co, k.tdiv (g : Int), s) with
  | true => exact ⟨hb, by simp⟩
  | false => rw [hb] at h; simp at h
theorem q96 {d p q : Int} {a b : Val qa} (ha : okD d a) (hb : okD d b) (h : (q5 a p b q).2 = true) : okD d (q5 a p b q).1 := by
  unfold q5 at *
  cases hc : (qD a && qD b && decide (List.length (α := Int) a.1 = List.length (α := Int) b.1) && inR p 0 400000000 && inR q 0 400000000) with
  | false => rw [hc] at h; simp at h
  | true =>
    rw [hc] at h
    obtain ⟨h1, h2⟩ := za9 h
    simp only [Bool.and_eq_true, decide_eq_true_eq] at hc
    refine ⟨h1, ?_⟩
    have := ha.2
    have e := qJ8 (p := p) (q := q) hc.1.1.2
    show (List.length (α := Int) (qv (qdg p q a.1 b.1) _ _).1.1 : Int) = d
    rw [h2, e]; exact this
theorem qox {v d : Int} {a : Val qa} (ha : okD d a) : ∀ {xs s s' : List (Val qa)}, (∀ b ∈ xs, okD d b) → (∀ b ∈ s, okD d b) → qcJ v a xs s = some s' → (∀ b ∈ s', okD d b) ∧ s'.length ≤ s.length + xs.length
  | [], s, s', _, hs, h => by simp only [qcJ, Option.some.injEq] at h; subst h; exact ⟨hs, by simp⟩
  | b :: r, s, s', hx, hs, h => by
    simp only [qcJ] at h
    cases hn : decide (cfV v b < 0) with
    | false =>
      rw [hn] at h
      obtain ⟨h1, h2⟩ := qox ha (fun c hc => hx c (by simp [hc])) hs h
      exact ⟨h1, by simp; omega⟩
    | true =>
      rw [hn] at h
      cases hm : (q5 a (-cfV v b) b (cfV v a)).2 with
      | false => rw [hm] at h; simp at h
      | true =>
        rw [hm] at h
        simp only [cond_true] at h
        obtain ⟨h1, h2⟩ := qox ha (fun c hc => hx c (by simp [hc])) (fun c hc => by
          rcases List.mem_append.1 hc with hc | hc
          · exact hs c hc
          · simp only [List.mem_singleton] at hc; subst hc; exact q96 ha (hx b (by simp)) hm) h
        exact ⟨h1, by simp at h2 ⊢; omega⟩
theorem qKL {v d : Int} {l : List (Val qa)} (hl : ∀ b ∈ l, okD d b) : ∀ {xs s s' : List (Val qa)}, (∀ b ∈ xs, okD d b) → (∀ b ∈ s, okD d b) → qb2 v l xs s = some s' → (∀ b ∈ s', okD d b) ∧ s'.length ≤ s.length + xs.length * l.length
  | [], s, s', _, hs, h => by simp only [qb2, Option.some.injEq] at h; subst h; exact ⟨hs, by simp⟩
  | a :: r, s, s', hx, hs, h => by
    simp only [qb2] at h
    cases hn : decide (0 < cfV v a) with
    | false =>
      rw [hn] at h
      obtain ⟨h1, h2⟩ := qKL hl (fun c hc => hx c (by simp [hc])) hs h
      exact ⟨h1, by simp [Nat.add_mul]; omega⟩
    | true =>
      rw [hn] at h
      simp only [cond_true] at h
      cases hm : qcJ v a l s with
      | none => rw [hm] at h; simp at h
      | some s1 =>
        rw [hm] at h
        obtain ⟨g1, g2⟩ := qox (hx a (by simp)) hl hs hm
        obtain ⟨h1, h2⟩ := qKL hl (fun c hc => hx c (by simp [hc])) g1 h
        exact ⟨h1, by simp [Nat.add_mul]; omega⟩
theorem qxI {ρ : Type} {v : Int} {k : List (Val qa) → Option ρ} : ∀ (xs : List (Val qa)) (i : Nat) (s : List (Val qa)), s.length + xs.length ≤ 1048576 →
    qS (fun _ (x : Val qa) (s : List (Val qa)) K => bif decide (cfV v x = 0) then chk (s.length + [x].length ≤ 1048576) (K (s ++ [x])) else K s) i xs s k = k (s ++ xs.filter fun a => decide (cfV v a = 0))
  | [], _, s, _ => by rw [qS]; simp
  | x :: xs, i, s, h => by
    simp only [List.length_cons] at h
    rw [qS, List.filter_cons]
    cases hb : decide (cfV v x = 0) with
    | true => simp only [cond_true]; rw [qe (by simp; omega), qxI xs _ _ (by simp; omega)]; simp
    | false => simp only [cond_false]; rw [qxI xs _ _ (by omega)]; simp
theorem qz3 {ρ : Type} {v : Int} {a : Val qa} {r : Option ρ} {k : List (Val qa) → Option ρ} : ∀ (xs : List (Val qa)) (i : Nat) (s : List (Val qa)), s.length + xs.length ≤ 1048576 →
    qS (fun _ (b : Val qa) (s : List (Val qa)) K => bif decide (0 ≤ cfV v b) then K s else bif !(q5 a (-cfV v b) b (cfV v a)).2 then r else chk (s.length + [(q5 a (-cfV v b) b (cfV v a)).1].length ≤ 1048576) (K (s ++ [(q5 a (-cfV v b) b (cfV v a)).1]))) i xs s k = match qcJ v a xs s with
      | some s' => k s'
      | none => r
  | [], _, s, _ => by rw [qS]; rfl
  | b :: xs, i, s, h => by
    simp only [List.length_cons] at h
    rw [qS, qcJ]
    by_cases hb : cfV v b < 0
    · rw [ql (show ¬ 0 ≤ cfV v b by omega), qn hb]
      cases hm : (q5 a (-cfV v b) b (cfV v a)).2 with
      | false => rfl
      | true =>
        simp only [Bool.not_true, cond_false, cond_true]
        rw [qe (by simp; omega)]
        exact qz3 xs _ _ (by simp; omega)
    · rw [qn (show 0 ≤ cfV v b by omega), ql hb]
      exact qz3 xs _ _ (by omega)
theorem qYW (N : Nat) (d v : Int) (l : List (Val qa)) (hv : 0 ≤ v ∧ v < d) (hl : l.length ≤ 1048576) (h : ∀ b ∈ l, okD d b) (K : List (Val qa) → Option (qb [i33, i4])) (n : Nat) (hn : l.length < n) :
    qfw N v l l.length d l 0 K n 0 [] = K (l.filter fun a => decide (cfV v a = 0)) :=
  (qax (xs := l) (F := fun n i s => qfw N v l l.length d l 0 K n i s) (step := fun _ (x : Val qa) (s : List (Val qa)) K => bif decide (cfV v x = 0) then chk (s.length + [x].length ≤ 1048576) (K (s ++ [x])) else K s) (k := K) hl (fun n i s hi => by
    have hd := (h _ (List.getElem_mem hi)).2
    rw [qfw, qn (by omega), qe (by omega), qG hi, qe ⟨hv.1, by rw [show (List.length (α := Val (.int .i64)) l[i].1 : Int) = d from hd]; exact hv.2⟩]
    try rfl) (fun n i s hi => by rw [qfw, ql (by omega)]) n [] hn).trans (qxI l 0 [] (by simpa using hl))
theorem zaO (N : Nat) (d v : Int) (l : List (Val qa)) (hv : 0 ≤ v ∧ v < d) (hl : l.length ≤ 1048576) (h : ∀ b ∈ l, okD d b) (a : Val qa) (ha : okD d a) (i0 : Int) (K : List (Val qa) → Option (qb [i33, i4])) (n : Nat) (hn : l.length < n) (s : List (Val qa)) (hs : s.length + l.length ≤ 1048576) :
    qe2 N v l l.length i0 l l.length d l 0 a.1 a.2.1 a.2.2 K n 0 s = match qcJ v a l s with
      | some s' => K s'
      | none => qlm :=
  (qax (xs := l) (F := fun n i s => qe2 N v l l.length i0 l l.length d l 0 a.1 a.2.1 a.2.2 K n i s) (step := fun _ (b : Val qa) (s : List (Val qa)) K => bif decide (0 ≤ cfV v b) then K s else bif !(q5 a (-cfV v b) b (cfV v a)).2 then qlm else chk (s.length + [(q5 a (-cfV v b) b (cfV v a)).1].length ≤ 1048576) (K (s ++ [(q5 a (-cfV v b) b (cfV v a)).1]))) (k := K) hl (fun n i s hi => by
    have hb := h _ (List.getElem_mem hi)
    have hbd := hb.2
    have had := ha.2
    have hc := qVj (v := v) hb.1
    rw [qe2, qn (by omega), qe (by omega), qG hi, qe ⟨hv.1, by rw [show (List.length (α := Val (.int .i64)) l[i].1 : Int) = d from hbd]; exact hv.2⟩, qe ⟨hv.1, by rw [show (List.length (α := Val (.int .i64)) l[i].1 : Int) = d from hbd]; exact hv.2⟩, qe ⟨hv.1, by rw [show (List.length (α := Val (.int .i64)) a.1 : Int) = d from had]; exact hv.2⟩, qtL, qtL, qlX (by unfold inI; omega)]
    try rfl) (fun n i s hi => by rw [qe2, ql (by omega)]) n s hn).trans (qz3 l 0 s hs)
theorem qB4 (N : Nat) (d v : Int) (l : List (Val qa)) (hv : 0 ≤ v ∧ v < d) (hl : l.length ≤ 16) (h : ∀ b ∈ l, okD d b) (hN : l.length < N) (K : List (Val qa) → Option (qb [i33, i4])) : ∀ (k i : Nat), l.length - i = k → ∀ n, k < n → ∀ s : List (Val qa), s.length + k * l.length ≤ 1000 → (∀ b ∈ s, okD d b) →
    qeb N v l l.length d l 0 K n i s = match qb2 v l (l.drop i) s with
      | some s' => K s'
      | none => qlm
  | 0, i, hi, n + 1, _, s, _, _ => by
    rw [qeb, ql (by omega), List.drop_eq_nil_of_le (by omega)]
    rfl
  | k + 1, i, hi, n + 1, hn, s, hs, hsd => by
    have h1 : i < l.length := by omega
    have ha := h _ (List.getElem_mem h1)
    have had := ha.2
    have hk : s.length + (k * l.length + l.length) ≤ 1000 := by rw [Nat.add_mul, Nat.one_mul] at hs; exact hs
    rw [qeb, qn (by omega), qe (by omega), qG h1, qe ⟨hv.1, by rw [show (List.length (α := Val (.int .i64)) l[i].1 : Int) = d from had]; exact hv.2⟩, qtL, qbD h1 (by omega), qb4 h1, qb2]
    by_cases hc : 0 < cfV v l[i]
    · rw [ql (show ¬ cfV v l[i] ≤ 0 by omega), qn hc, zaO N d v l hv (by omega) h l[i] ha _ _ N hN s (by omega)]
      cases hm : qcJ v l[i] l s with
      | none => rfl
      | some s1 =>
        obtain ⟨g1, g2⟩ := qox ha h hsd hm
        exact qB4 N d v l hv hl h hN K k (i + 1) (by omega) n (by omega) s1 (by omega) g1
    · rw [qn (show cfV v l[i] ≤ 0 by omega), ql hc]
      exact qB4 N d v l hv hl h hN K k (i + 1) (by omega) n (by omega) s (by omega) hsd
theorem qIE {d v : Int} {l s : List (Val qa)} (hd : 0 ≤ d ∧ d ≤ 4) (hl : l.length ≤ 16) (h : ∀ b ∈ l, okD d b) (hm : qb2 v l l (l.filter fun a => decide (cfV v a = 0)) = some s) : okL d s := by
  have hf := List.length_filter_le (fun a : Val qa => decide (cfV v a = 0)) l
  obtain ⟨g1, g2⟩ := qKL h h (fun b hb => h b (List.mem_filter.1 hb).1) hm
  have : l.length * l.length ≤ 16 * 16 := Nat.mul_le_mul hl hl
  exact ⟨hd, by omega, g1⟩
theorem qYJ (c : Val Y33) (v : Int) : ∃ N, qyG N c v = some ((qev c v).1, (qev c v).2, ()) := ⟨List.length (α := Val qa) c.2 + 1, by
  rw [qyG]
  unfold qev
  cases hc : qz c with
  | false => rfl
  | true =>
  obtain ⟨hd, hl, hok⟩ := qbi hc
  simp only [Bool.not_true, cond_false, Bool.true_and]
  by_cases h1 : v < 0
  · rw [qn h1, decide_eq_false (by omega)]; rfl
  rw [ql h1]
  by_cases h2 : (c.1 : Int) ≤ v
  · rw [qn h2, decide_eq_false (fun h => absurd h.2 (Int.not_lt.2 h2))]; rfl
  have hv : 0 ≤ v ∧ v < (c.1 : Int) := ⟨by omega, Int.not_le.1 h2⟩
  rw [ql h2, decide_eq_true hv]
  have hf := List.length_filter_le (fun a : Val qa => decide (cfV v a = 0)) c.2
  have hll : List.length (α := Val qa) c.2 * List.length (α := Val qa) c.2 ≤ 16 * 16 := Nat.mul_le_mul hl hl
  rw [qYW _ c.1 v c.2 hv (by omega) hok _ _ (Nat.lt_succ_self _)]
  have hfs : ∀ b ∈ List.filter (α := Val qa) (fun a => decide (cfV v a = 0)) c.2, okD c.1 b := fun b hb => hok b (List.mem_filter.1 hb).1
  unfold qad
  generalize hS : List.filter (α := Val qa) (fun a => decide (cfV v a = 0)) c.2 = S at hf hfs ⊢
  refine (qB4 _ c.1 v c.2 hv hl hok (Nat.lt_succ_self _) _ (List.length (α := Val qa) c.2) 0 rfl _ (Nat.lt_succ_self _) S (by have h5 : S.length ≤ List.length (α := Val qa) c.2 := hf; omega) hfs).trans ?_
  rw [List.drop_zero]
  simp only [cond_true]
  cases hm : qb2 v c.2 c.2 S with
  | none => rfl
  | some s =>
    dsimp only
    rw [qe (show qge c.1 s from qIE hd hl hok (hS ▸ hm))]⟩
theorem q3b : Sound Tryz.prog 237 qkK := qt (tt := tt) (Γ := qb1) hT (qg qnN (qg qQI (qg qW3 qo))) hm (fn := Tryz.f237) Tryz.func237 (c := Tryz.f237.body.getD .skip) (by kernel_rfl) (by kernel_rfl) fun x hx => by
  obtain ⟨N, h⟩ := qYJ x.1 x.2.1
  exact ⟨qa9 N, qVT, qw _, zeW N, (zfp N x.1 x.2.1).trans h⟩
theorem qQ2 {ρ α σ : Type} {k : σ → Option ρ} : ∀ (xs : List α) (i : Nat) (s : σ), qS (fun _ (_ : α) (s : σ) (K : σ → Option ρ) => K s) i xs s k = k s
  | [], _, _ => rfl
  | _ :: xs, i, s => by rw [qS]; exact qQ2 xs _ s
theorem q1c (N : Nat) (d v : Int) (l : List (Val qa)) (hv : 0 ≤ v ∧ v < d) (hl : l.length ≤ 1048576) (h : ∀ b ∈ l, okD d b) (K : List (Val qa) → Option (qb [i33, i4])) (n : Nat) (hn : l.length < n) :
    qe0 N v d l 0 K n 0 [] = K (l.filter fun a => decide (cfV v a = 0)) :=
  (qax (xs := l) (F := fun n i s => qe0 N v d l 0 K n i s) (step := fun _ (x : Val qa) (s : List (Val qa)) K => bif decide (cfV v x = 0) then chk (s.length + [x].length ≤ 1048576) (K (s ++ [x])) else K s) (k := K) hl (fun n i s hi => by
    have hd := (h _ (List.getElem_mem hi)).2
    rw [qe0, qn (by omega), qe (by omega), qG hi, qe ⟨hv.1, by rw [show (List.length (α := Val (.int .i64)) l[i].1 : Int) = d from hd]; exact hv.2⟩, qe (by omega)]
    try rfl) (fun n i s hi => by rw [qe0, ql (by omega)]) n [] hn).trans (qxI l 0 [] (by simpa using hl))
theorem qVB (N : Nat) (d v : Int) (l : List (Val qa)) (hv : 0 ≤ v ∧ v < d) (hl : l.length ≤ 1048576) (h : ∀ b ∈ l, okD d b) (i0 : Nat) (h0 : i0 < l.length) (K : List (Val qa) → Option (qb [i33, i4])) (n : Nat) (hn : l.length < n) (s : List (Val qa)) (hs : s.length + l.length ≤ 1048576) :
    qet N v i0 d l 0 K n 0 s = bif decide (0 < cfV v l[i0]) then (match qcJ v l[i0] l s with
      | some s' => K s'
      | none => qlm) else K s := by
  refine (qax (xs := l) (F := fun n i s => qet N v i0 d l 0 K n i s) (step := fun _ (b : Val qa) (s : List (Val qa)) K => bif decide (cfV v l[i0] ≤ 0) then K s else bif decide (0 ≤ cfV v b) then K s else bif !(q5 l[i0] (-cfV v b) b (cfV v l[i0])).2 then qlm else chk (s.length + [(q5 l[i0] (-cfV v b) b (cfV v l[i0])).1].length ≤ 1048576) (K (s ++ [(q5 l[i0] (-cfV v b) b (cfV v l[i0])).1]))) (k := K) hl (fun n i s hi => ?_) (fun n i s hi => by rw [qet, ql (by omega)]) n s hn).trans ?_
  · have ha := h _ (List.getElem_mem h0)
    have hb := h _ (List.getElem_mem hi)
    have hbd := hb.2
    have had := ha.2
    have hc := qVj (v := v) hb.1
    have p1 : qba l[i0] := by have := (qa5 ha.1).1; show List.length (α := Val (.int .i64)) l[i0].1 ≤ 1048576; exact Nat.le_trans this (by decide)
    have p2 : qba l[i] := by have := (qa5 hb.1).1; show List.length (α := Val (.int .i64)) l[i].1 ≤ 1048576; exact Nat.le_trans this (by decide)
    rw [qet, qn (by omega), qG h0, qG hi]
    have ng : IntKind.i64.wrap (0 - cfV v l[i]) = -cfV v l[i] := qlX (by unfold inI; omega)
    rw [qtL v l[i0], qtL v l[i], ng, qe (by omega), qe ⟨hv.1, by rw [show (List.length (α := Val (.int .i64)) l[i0].1 : Int) = d from had]; exact hv.2⟩, qe (by omega), qe ⟨hv.1, by rw [show (List.length (α := Val (.int .i64)) l[i].1 : Int) = d from hbd]; exact hv.2⟩, qe (by omega), qe (by omega), qe (show qz7 l[i0] _ l[i] _ from ⟨p1, p2⟩)]
    try rfl
  · by_cases hx : 0 < cfV v l[i0]
    · rw [qn hx, decide_eq_false (show ¬ cfV v l[i0] ≤ 0 by omega)]
      exact qz3 l 0 s hs
    · rw [ql hx, decide_eq_true (show cfV v l[i0] ≤ 0 by omega)]
      exact qQ2 l 0 s
theorem qDG (N : Nat) (d v : Int) (l : List (Val qa)) (hv : 0 ≤ v ∧ v < d) (hl : l.length ≤ 16) (h : ∀ b ∈ l, okD d b) (hN : l.length < N) (K : List (Val qa) → Option (qb [i33, i4])) : ∀ (k i : Nat), l.length - i = k → ∀ n, k < n → ∀ s : List (Val qa), s.length + k * l.length ≤ 1000 → (∀ b ∈ s, okD d b) →
    qfo N v d l 0 K n i s = match qb2 v l (l.drop i) s with
      | some s' => K s'
      | none => qlm
  | 0, i, hi, n + 1, _, s, _, _ => by
    rw [qfo, ql (by omega), List.drop_eq_nil_of_le (by omega)]
    rfl
  | k + 1, i, hi, n + 1, hn, s, hs, hsd => by
    have h1 : i < l.length := by omega
    have ha := h _ (List.getElem_mem h1)
    have hk : s.length + (k * l.length + l.length) ≤ 1000 := by rw [Nat.add_mul, Nat.one_mul] at hs; exact hs
    rw [qfo, qn (by omega), qbD h1 (by omega), qb4 h1, qb2, qVB N d v l hv (by omega) h i h1 _ N hN s (by omega)]
    by_cases hc : 0 < cfV v l[i]
    · rw [qn hc, qn hc]
      cases hm : qcJ v l[i] l s with
      | none => rfl
      | some s1 =>
        obtain ⟨g1, g2⟩ := qox ha h hsd hm
        exact qDG N d v l hv hl h hN K k (i + 1) (by omega) n (by omega) s1 (by omega) g1
    · rw [ql hc, ql hc]
      exact qDG N d v l hv hl h hN K k (i + 1) (by omega) n (by omega) s (by omega) hsd
theorem q6l (c : Val Y33) (v : Int) (h : qyL c v) : ∃ N, qzw N c v = some ((qad c v).1, (qad c v).2, ()) := ⟨List.length (α := Val qa) c.2 + 1, by
  obtain ⟨hc, hv⟩ := h
  rw [qzw]
  obtain ⟨hd, hl, hok⟩ := qbi hc
  have hf := List.length_filter_le (fun a : Val qa => decide (cfV v a = 0)) c.2
  have hll : List.length (α := Val qa) c.2 * List.length (α := Val qa) c.2 ≤ 16 * 16 := Nat.mul_le_mul hl hl
  rw [q1c _ c.1 v c.2 hv (by omega) hok _ _ (Nat.lt_succ_self _)]
  have hfs : ∀ b ∈ List.filter (α := Val qa) (fun a => decide (cfV v a = 0)) c.2, okD c.1 b := fun b hb => hok b (List.mem_filter.1 hb).1
  unfold qad
  generalize hS : List.filter (α := Val qa) (fun a => decide (cfV v a = 0)) c.2 = S at hf hfs ⊢
  refine (qDG _ c.1 v c.2 hv hl hok (Nat.lt_succ_self _) _ (List.length (α := Val qa) c.2) 0 rfl _ (Nat.lt_succ_self _) S (by have h5 : S.length ≤ List.length (α := Val qa) c.2 := hf; omega) hfs).trans ?_
  rw [List.drop_zero]
  cases hm : qb2 v c.2 c.2 S with
  | none => rfl
  | some s =>
    dsimp only
    rw [qe (show qaX c.1 s from qIE hd hl hok (hS ▸ hm))]
    unfold qaL
    cases decide ((16 : Int) < (List.length (α := Val qa) (qr c.1 s).2 : Int)) <;> rfl⟩
theorem qY7 : Sound Tryz.prog 151 qk5 := qt (tt := tt) (Γ := qco) hT (qg qoV (qg q4t qo)) hm (fn := Tryz.f151) Tryz.func151 (c := Tryz.f151.body.getD .skip) (by kernel_rfl) (by kernel_rfl) fun x hx => by
  obtain ⟨N, h⟩ := q6l x.1 x.2.1 hx
  exact ⟨qbb N, q7k, qw _, qVR N, (qZB N x.1 x.2.1).trans h⟩
end Go.T
