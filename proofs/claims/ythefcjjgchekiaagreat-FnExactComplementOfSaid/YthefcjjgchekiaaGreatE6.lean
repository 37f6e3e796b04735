/- Regions: cells that are added. Run. -/
import Derived.Test.YthefcjjgchekiaaGreatE5
import Derived.Test.YthefcjjgchekiaaGreatT11
set_option linter.unusedSimpArgs false
set_option linter.unusedVariables false
namespace Go.T
open Go Go.Proofs
set_option maxHeartbeats 4000000
set_option maxRecDepth 100000
def qbJ (c : Val Y33) : Bool := match (c.2 : List (Val qa)) with
  | [a] => !qab a && decide ((a.2.1 : Int) = 1) && !a.2.2
  | _ => false
def quj (c : Val Y33) : Prop := qz c = true
def quf : G := { ps := [i33], rs := [i4], dp := true, pre := fun x => quj x.1, fn := fun x => (qbJ x.1, ()) }
noncomputable def qvW (N : Nat) (v0 : Val Y33) : Option (qb [i4]) := bif (decide (((v0.2 : List (Val qa)).length : Int) = (1 : Int))) then (chk (0 ≤ (0 : Int) ∧ (0 : Int) < ((v0.2 : List (Val qa)).length : Int)) (chk (qkV ((v0.2 : List (Val qa)).getD ((0 : Int).toNat) (qc qa))) (bif (!((qab ((v0.2 : List (Val qa)).getD ((0 : Int).toNat) (qc qa))) : Bool)) then (chk (0 ≤ (0 : Int) ∧ (0 : Int) < ((v0.2 : List (Val qa)).length : Int)) (bif (decide (((((v0.2 : List (Val qa)).getD ((0 : Int).toNat) (qc qa)).2).1 : Int) = (1 : Int))) then (chk (0 ≤ (0 : Int) ∧ (0 : Int) < ((v0.2 : List (Val qa)).length : Int)) (some ((!((((v0.2 : List (Val qa)).getD ((0 : Int).toNat) (qc qa)).2).2 : Bool)), ()))) else (some (false, ())))) else (some (false, ()))))) else (some (false, ()))
def qBB : Gam := [(287, qdu)]
theorem q7E : Gam.get qBB 287 = some qdu := rfl
def qxF : Nat → Tree := fun _ => .done
def qMZ : Nat → Nm := fun _ => ⟨[], [], false⟩
def qI4 : Nat → Option Jn := fun _ => none
def qBQ : Nat → Option Nm := fun _ => none
def qIQ : Nat → Option Nm := fun _ => none
theorem za3 : qj qxF (Tryz.f240.body.getD .skip) = true := by kernel_rfl
def qeI (N : Nat) : Tab := { tr := qxF, lp := qMZ, ex := qBQ, rg := qIQ, jn := qI4, fuel := N }
theorem qY8 (N : Nat) : (qeI N).pins = false := rfl
theorem q4O (N : Nat) : qk Tryz.prog (qeI N) := qp fun _ => rfl
theorem q5j (N : Nat) (i : Nat) : (qeI N).tr i = qxF i := rfl
theorem qWV (N : Nat) (i : Nat) : (qeI N).lp i = qMZ i := rfl
theorem qYG (N : Nat) (i : Nat) : (qeI N).ex i = qBQ i := rfl
theorem q2g (N : Nat) (i : Nat) : (qeI N).rg i = qIQ i := rfl
theorem zbb (N : Nat) (i : Nat) : (qeI N).jn i = qI4 i := rfl
theorem q7d (N : Nat) : (qeI N).fuel = N := rfl
theorem zeH (N : Nat) (v0 : Val Y33) : qf tt qBB (qeI N) (Tryz.f240.body.getD .skip) (qm tt true [i4] [.tmp 2]) (qq [i33] 31 (v0, ())) = qvW N v0 := by
  rw [qvW]; unfold Tryz.f240
  simp (maxSteps := 10000000) -implicitDefEqProofs [q5j, qxF, qWV, qMZ, qYG, qBQ, q2g, qIQ, zbb, qI4, q7d, qY8, q7E, qdu]
  try rfl
abbrev qaR : Val Y50 × Bool := (((0 : Int), []), false)
def qV (r : Val Y50) : Bool := decide (0 ≤ (r.1 : Int) ∧ (r.1 : Int) ≤ 4) && decide ((List.length (α := Val Y33) r.2 : Int) ≤ 12) && List.all (α := Val Y33) r.2 fun c => qz c && decide ((c.1 : Int) = (r.1 : Int))
def qbH (r : Val Y50) : Prop := List.length (α := Val Y33) r.2 ≤ 1048576 ∧ ∀ c ∈ (r.2 : List (Val Y33)), qbW c
noncomputable def qgz (N : Nat) (v2 : Int) (v3 : List (Val Y33)) (k0 : Unit → Option (qb [i4])) : Nat → Int → Option (qb [i4])
  | 0, _ => none
  | n + 1, v1 => bif (decide (v1 < (v3.length : Int))) then (chk (0 ≤ v1 ∧ v1 < (v3.length : Int)) (chk (qbW (v3.getD v1.toNat (qc Y33))) (bif (!((qz (v3.getD v1.toNat (qc Y33))) : Bool)) then (some (false, ())) else (chk (0 ≤ v1 ∧ v1 < (v3.length : Int)) (bif (!(decide (((v3.getD v1.toNat (qc Y33)).1 : Int) = v2))) then (some (false, ())) else (qgz N v2 v3 k0 n (IntKind.i64.wrap (v1 + (1 : Int))))))))) else (k0 ())
noncomputable def qv9 (N : Nat) (v0 : Val Y50) : Option (qb [i4]) := qgz N (v0.1 : Int) (v0.2 : List (Val Y33)) (fun (_ : Unit) => bif ((inR (v0.1 : Int) (0 : Int) (4 : Int)) : Bool) then (some ((decide (((v0.2 : List (Val Y33)).length : Int) ≤ (12 : Int))), ())) else (some (false, ()))) N (0 : Int)
def qhv : Gam := [(104, qcj), (118, qbh)]
theorem qEn : Gam.get qhv 104 = some qcj := rfl
theorem qNN : Gam.get qhv 118 = some qbh := rfl
def qoQ : Nm := ⟨[false, true, false, true], [], false⟩
theorem qQb : qoQ.zero = false := rfl
theorem qAW : qoQ.fix = [] := rfl
theorem qBS : qoQ.keep = [false, true, false, true] := rfl
def quv : Nm := ⟨[false, true], [], false⟩
theorem qCe : quv.zero = false := rfl
theorem qDH : quv.fix = [] := rfl
theorem qMO : quv.keep = [false, true] := rfl
def qkz : Nat → Tree := fun i => if i = 4 then .quiet 0 (.quiet 1 (.quiet 2 (.quiet 3 (.quiet 4 (.alt 5 (.quiet 6 (.quiet 7 (.quiet 8 (.quiet 9 (.quiet 10 (.quiet 11 (.quiet 12 (.quiet 13 (.quiet 14 (.quiet 15 (.quiet 16 (.quiet 17 .done)))))))))))) .stop))))) else .done
def qs7 : Nat → Nm := fun i => if i = 2 then qoQ else ⟨[], [], false⟩
def qqZ : Nat → Option Jn := fun _ => none
def qo1 : Nat → Option Nm := fun i => if i = 0 then some quv else none
def qqT : Nat → Option Nm := fun _ => none
theorem q4o : qj qkz (Tryz.f117.body.getD .skip) = true := by kernel_rfl
def qcF (N : Nat) : Tab := { tr := qkz, lp := qs7, ex := qo1, rg := qqT, jn := qqZ, fuel := N }
theorem qHV (N : Nat) : (qcF N).pins = false := rfl
theorem qXz (N : Nat) : qk Tryz.prog (qcF N) := qp fun _ => rfl
theorem qB3 (N : Nat) (i : Nat) : (qcF N).tr i = qkz i := rfl
theorem qAx (N : Nat) (i : Nat) : (qcF N).lp i = qs7 i := rfl
theorem qLv (N : Nat) (i : Nat) : (qcF N).ex i = qo1 i := rfl
theorem qIv (N : Nat) (i : Nat) : (qcF N).rg i = qqT i := rfl
theorem qNE (N : Nat) (i : Nat) : (qcF N).jn i = qqZ i := rfl
theorem qJa (N : Nat) : (qcF N).fuel = N := rfl
noncomputable def qU2 : Code := cut [true, false, true, true, true] (Tryz.f117.body.getD .skip)
theorem q0i {N : Nat} {Q : X → St → Option (qb [i4])} {e : List LV} {h : List Blk} : qf tt qhv (qcF N) qU2 Q ⟨e, h⟩ = qf tt qhv (qcF N) (cut [true, false, true, true, true] (Tryz.f117.body.getD .skip)) Q ⟨e, h⟩ := rfl
theorem q5Z (N : Nat) (v2 : Int) (v3 : List (Val Y33)) {k0 : Unit → Option (qb [i4])} {Q : X → St → Option (qb [i4])} {c : Code} (hc : c = qU2) (hret : ∀ st, Q .ret st = qE tt true [i4] [.tmp 2] st) (h0 : Q (.exit 0) ⟨[u, .one (.ptr 0 0 0), u, u, u, u, u, u, u, u, u, u, u, u, u, u, u, u, u, u, u, u, u, u, u, u, u, u, u, u, u, u, u, u, u, u, u, u], [.box [.int .i64 v2, .sl 33 Y33 v3 1]]⟩ = k0 ()) : ∀ (n : Nat) (v1 : Int), qF (qf tt qhv (qcF N) c) false qoQ Q n ⟨[u, .one (.ptr 0 0 0), u, .one (.int .i64 v1), u, u, u, u, u, u, u, u, u, u, u, u, u, u, u, u, u, u, u, u, u, u, u, u, u, u, u, u, u, u, u, u, u, u], [.box [.int .i64 v2, .sl 33 Y33 v3 1]]⟩ = qgz N v2 v3 k0 n v1 := by
  subst hc; intro n; induction n with
  | zero => intros; rfl
  | succ n ih =>
    intro v1
    rw [qM, q0i, qgz]; unfold Tryz.f117
    simp (maxSteps := 10000000) -implicitDefEqProofs [qB3, qkz, qAx, qs7, qLv, qo1, qIv, qqT, qNE, qqZ, qJa, qHV, qAW, qBS, qQb, qDH, qMO, qCe, qEn, qNN, qcj, qbh, hret, h0, ih]
theorem q5U (N : Nat) (v0 : Val Y50) : qf tt qhv (qcF N) (Tryz.f117.body.getD .skip) (qm tt true [i4] [.tmp 2]) (qq [i50] 38 (v0, ())) = qv9 N v0 := by
  unfold Tryz.f117
  simp (maxSteps := 10000000) -implicitDefEqProofs [qB3, qkz, qAx, qs7, qLv, qo1, qIv, qqT, qNE, qqZ, qJa, qHV, qAW, qBS, qQb, qDH, qMO, qCe, qEn, qNN, qcj, qbh]
  rewrite [q5Z (k0 := (fun (_ : Unit) => bif ((inR (v0.1 : Int) (0 : Int) (4 : Int)) : Bool) then (some ((decide (((v0.2 : List (Val Y33)).length : Int) ≤ (12 : Int))), ())) else (some (false, ())))) N _ _ ?_ ?_ ?_]
  · rewrite [qv9]; first | rfl | simp (maxSteps := 10000000) -implicitDefEqProofs []
  · rfl
  · intro; simp only [qK, qJ, qL, qC]
  · simp (maxSteps := 10000000) -implicitDefEqProofs [qB3, qkz, qAx, qs7, qLv, qo1, qIv, qqT, qNE, qqZ, qJa, qHV, qAW, qBS, qQb, qDH, qMO, qCe, qEn, qNN, qcj, qbh]
noncomputable def qfL (N : Nat) (v1 : List (Val Y33)) (v2 : Int) (v4 : Int) (v5 : List (Val Y33)) (k0 : Unit → Option (qb [i4])) : Nat → Int → Option (qb [i4])
  | 0, _ => none
  | n + 1, v3 => bif (decide (v3 < v2)) then (chk (0 ≤ v3 ∧ v3 < (v1.length : Int)) (bif (!((qz (v1.getD v3.toNat (qc Y33))) : Bool)) then (some (false, ())) else (bif (!(decide (((v1.getD v3.toNat (qc Y33)).1 : Int) = v4))) then (some (false, ())) else (qfL N v1 v2 v4 v5 k0 n (IntKind.i64.wrap (v3 + (1 : Int))))))) else (k0 ())
noncomputable def qzH (N : Nat) (v0 : Val Y50) : Option (qb [i4]) := bif (decide ((v0.1 : Int) < (0 : Int))) then (some (false, ())) else (bif (decide ((4 : Int) < (v0.1 : Int))) then (some (false, ())) else (bif (decide ((12 : Int) < ((v0.2 : List (Val Y33)).length : Int))) then (some (false, ())) else (qfL N (v0.2 : List (Val Y33)) ((v0.2 : List (Val Y33)).length : Int) (v0.1 : Int) (v0.2 : List (Val Y33)) (fun (_ : Unit) => some (true, ())) N (0 : Int))))
def qkQ : Gam := [(199, qay)]
theorem qLR : Gam.get qkQ 199 = some qay := rfl
def qop : Nm := ⟨[false, true, false, false, false, false, false, false, false, false, false, false, false, false, false, false, false, false, false, false, true, true, true], [], false⟩
theorem qMN : qop.zero = false := rfl
theorem qPN : qop.fix = [] := rfl
theorem qEc : qop.keep = [false, true, false, false, false, false, false, false, false, false, false, false, false, false, false, false, false, false, false, false, true, true, true] := rfl
def qzc : Nm := ⟨[], [], false⟩
theorem qCU : qzc.zero = false := rfl
theorem qFx : qzc.fix = [] := rfl
theorem qDs : qzc.keep = [] := rfl
def qjW : Nat → Tree := fun _ => .done
def qn5 : Nat → Nm := fun i => if i = 4 then qop else ⟨[], [], false⟩
def qpN : Nat → Option Jn := fun _ => none
def qqG : Nat → Option Nm := fun i => if i = 0 then some qzc else none
def qm8 : Nat → Option Nm := fun _ => none
theorem q6v : qj qjW (Tryz.f124.body.getD .skip) = true := by kernel_rfl
def qcU (N : Nat) : Tab := { tr := qjW, lp := qn5, ex := qqG, rg := qm8, jn := qpN, fuel := N }
theorem qP3 (N : Nat) : (qcU N).pins = false := rfl
theorem qX1 (N : Nat) : qk Tryz.prog (qcU N) := qp fun _ => rfl
theorem qEq (N : Nat) (i : Nat) : (qcU N).tr i = qjW i := rfl
theorem qGe (N : Nat) (i : Nat) : (qcU N).lp i = qn5 i := rfl
theorem qCB (N : Nat) (i : Nat) : (qcU N).ex i = qqG i := rfl
theorem qNf (N : Nat) (i : Nat) : (qcU N).rg i = qm8 i := rfl
theorem qD8 (N : Nat) (i : Nat) : (qcU N).jn i = qpN i := rfl
theorem qHL (N : Nat) : (qcU N).fuel = N := rfl
noncomputable def qTa : Code := cut [true, true, false, true, true, true] (Tryz.f124.body.getD .skip)
theorem qWa {N : Nat} {Q : X → St → Option (qb [i4])} {e : List LV} {h : List Blk} : qf tt qkQ (qcU N) qTa Q ⟨e, h⟩ = qf tt qkQ (qcU N) (cut [true, true, false, true, true, true] (Tryz.f124.body.getD .skip)) Q ⟨e, h⟩ := rfl
theorem qVQ (N : Nat) (v1 : List (Val Y33)) (v2 : Int) (v4 : Int) (v5 : List (Val Y33)) {k0 : Unit → Option (qb [i4])} {Q : X → St → Option (qb [i4])} {c : Code} (hc : c = qTa) (hret : ∀ st, Q .ret st = qE tt true [i4] [.tmp 2] st) (h0 : Q (.exit 0) ⟨[u, u, u, u, u, u, u, u, u, u, u, u, u, u, u, u, u, u, u, u, u, u, u, u, u, u, u, u, u, u, u, u, u, u, u, u, u], []⟩ = k0 ()) : ∀ (n : Nat) (v3 : Int), qF (qf tt qkQ (qcU N) c) false qop Q n ⟨[u, .one (.ptr 0 0 0), u, u, u, u, u, u, u, u, u, u, u, u, u, u, u, u, u, u, .one (.sl 33 Y33 v1 1), .one (.int .i64 v2), .one (.int .i64 v3), u, u, u, u, u, u, u, u, u, u, u, u, u, u], [.box [.int .i64 v4, .sl 33 Y33 v5 1]]⟩ = qfL N v1 v2 v4 v5 k0 n v3 := by
  subst hc; intro n; induction n with
  | zero => intros; rfl
  | succ n ih =>
    intro v3
    rw [qM, qWa, qfL]; unfold Tryz.f124
    simp (maxSteps := 10000000) -implicitDefEqProofs [qEq, qjW, qGe, qn5, qCB, qqG, qNf, qm8, qD8, qpN, qHL, qP3, qPN, qEc, qMN, qFx, qDs, qCU, qLR, qay, hret, h0, ih]
theorem q4v (N : Nat) (v0 : Val Y50) : qf tt qkQ (qcU N) (Tryz.f124.body.getD .skip) (qm tt true [i4] [.tmp 2]) (qq [i50] 37 (v0, ())) = qzH N v0 := by
  unfold Tryz.f124
  simp (maxSteps := 10000000) -implicitDefEqProofs [qEq, qjW, qGe, qn5, qCB, qqG, qNf, qm8, qD8, qpN, qHL, qP3, qPN, qEc, qMN, qFx, qDs, qCU, qLR, qay]
  rewrite [qVQ (k0 := (fun (_ : Unit) => some (true, ()))) N _ _ _ _ ?_ ?_ ?_]
  · rewrite [qzH]; first | rfl | simp (maxSteps := 10000000) -implicitDefEqProofs []
  · rfl
  · intro; simp only [qK, qJ, qL, qC]
  · simp (maxSteps := 10000000) -implicitDefEqProofs [qEq, qjW, qGe, qn5, qCB, qqG, qNf, qm8, qD8, qpN, qHL, qP3, qPN, qEc, qMN, qFx, qDs, qCU, qLR, qay]
def qbc : G := { ps := [i50], rs := [i4], dp := true, pre := fun x => qbH x.1, fn := fun x => (qV x.1, ()) }
def qbC : G := { ps := [i50], rs := [i4], dp := true, pre := fun _ => True, fn := fun x => (qV x.1, ()) }
def q4 (r : Val Y50) (c : Val Y33) : Val Y50 × Bool := bif (qH c).2 then (bif qbJ (qH c).1 then (r, true) else (bif decide (12 ≤ (List.length (α := Val Y33) r.2 : Int)) then (r, false) else ((r.1, (r.2 : List (Val Y33)) ++ [(qH c).1]), true))) else (r, false)
def qhR (r : Val Y50) (c : Val Y33) : Val Y50 := (q4 r c).1
def qqa (r : Val Y50) (c : Val Y33) : Bool := (q4 r c).2
def qhy (r : Val Y50) (_ : Val Y33) : Prop := List.length (α := Val Y33) r.2 ≤ 12
def qdK : Gb := { t := i50, ps := [i33], rs := [i4], pre := fun v x => qhy v x.1, fv := fun v x => qhR v x.1, fn := fun v x => (qqa v x.1, ()) }
noncomputable def qvV (N : Nat) (v0 : Val Y50) (v1 : Val Y33) : Option (Val Y50 × qb [i4]) := bif (!((qH v1).2 : Bool)) then (some (v0, (false, ()))) else (chk (quj ((((qH v1).1).1 : Int), (((qH v1).1).2 : List (Val qa)))) (bif ((qbJ ((((qH v1).1).1 : Int), (((qH v1).1).2 : List (Val qa)))) : Bool) then (some (v0, (true, ()))) else (bif (decide ((12 : Int) ≤ ((v0.2 : List (Val Y33)).length : Int))) then (some (v0, (false, ()))) else (chk ((v0.2 : List (Val Y33)).length + ([((((qH v1).1).1 : Int), (((qH v1).1).2 : List (Val qa)))] : List (Val Y33)).length ≤ 1048576) (some (((v0.1 : Int), ((v0.2 : List (Val Y33)) ++ ([((((qH v1).1).1 : Int), (((qH v1).1).2 : List (Val qa)))] : List (Val Y33)))), (true, ())))))))
def qyY : Gam := [(138, qe5), (240, quf)]
theorem zdS : Gam.get qyY 138 = some qe5 := rfl
theorem q3h : Gam.get qyY 240 = some quf := rfl
def qwc : Nm := ⟨[], [], false⟩
theorem qZV : qwc.zero = false := rfl
theorem q9S : qwc.fix = [] := rfl
theorem q21 : qwc.keep = [] := rfl
def quS : Nat → Tree := fun i => if i = 8 then .quiet 5 (.first 0 (.first 1 (.alt 2 (.alt 3 (.alt 4 (.alt 6 (.alt 7 (.quiet 8 (.quiet 9 (.alt 10 .done .stop))) .stop) .stop) (.alt 6 (.quiet 4 (.alt 7 (.quiet 8 (.quiet 9 (.alt 10 .done .stop))) .stop)) .stop)) (.alt 6 (.quiet 3 (.quiet 4 (.alt 7 (.quiet 8 (.quiet 9 (.alt 10 .done .stop))) .stop))) .stop)) (.alt 6 (.quiet 2 (.quiet 3 (.quiet 4 (.alt 7 (.quiet 8 (.quiet 9 (.alt 10 .done .stop))) .stop)))) .stop)))) else .done
def qAF : Nat → Nm := fun _ => ⟨[], [], false⟩
def qNZ : Nat → Option Jn := fun _ => none
def qBv : Nat → Option Nm := fun _ => none
def qBJ : Nat → Option Nm := fun i => if i = 8 then some qwc else none
theorem qY4 : qj quS (Tryz.f222.body.getD .skip) = true := by kernel_rfl
def qew (N : Nat) : Tab := { tr := quS, lp := qAF, ex := qBv, rg := qBJ, jn := qNZ, fuel := N, pins := true }
theorem qZo (N : Nat) : (qew N).pins = true := rfl
theorem qWN (N : Nat) : qk Tryz.prog (qew N) := qp fun _ => rfl
theorem qWb (N : Nat) (i : Nat) : (qew N).tr i = quS i := rfl
theorem qVO (N : Nat) (i : Nat) : (qew N).lp i = qAF i := rfl
theorem qVS (N : Nat) (i : Nat) : (qew N).ex i = qBv i := rfl
theorem zcq (N : Nat) (i : Nat) : (qew N).rg i = qBJ i := rfl
theorem q2f (N : Nat) (i : Nat) : (qew N).jn i = qNZ i := rfl
theorem q8L (N : Nat) : (qew N).fuel = N := rfl
theorem q0U (N : Nat) (v0 : Val Y50) (v1 : Val Y33) : qf tt qyY (qew N) (Tryz.f222.body.getD .skip) (qcl (qrY tt i50 [i4] [.tmp 4])) (qsn i50 [i33] 32 v0 (v1, ())) = qvV N v0 v1 := by
  rw [qvV]; unfold Tryz.f222
  simp (maxSteps := 10000000) -implicitDefEqProofs [qWb, quS, qVO, qAF, qVS, qBv, zcq, qBJ, q2f, qNZ, q8L, qZo, qC, q64, q9S, q21, qZV, zdS, q3h, qe5, quf]
  try rfl
def qa8 (r : Val Y50) (c : Val Y33) : Val Y50 × Bool := bif (qW (qr c.1 c.2)).2 then (bif qbJ (qW (qr c.1 c.2)).1 then (r, true) else ((r.1, (r.2 : List (Val Y33)) ++ [(qW (qr c.1 c.2)).1]), decide ((List.length (α := Val Y33) r.2 : Int) + 1 ≤ 12))) else qaR
def qkm (r : Val Y50) (c : Val Y33) : Prop := qz c = true ∧ List.length (α := Val Y33) r.2 ≤ 12
def qcq : G := { ps := [i50, i33], rs := [i50, i4], dp := false, pre := fun x => qkm x.1 x.2.1, fn := fun x => ((qa8 x.1 x.2.1).1, (qa8 x.1 x.2.1).2, ()) }
noncomputable def qz6 (N : Nat) (v0 : Val Y50) (v1 : Val Y33) : Option (qb [i50, i4]) := chk (qaX (v1.1 : Int) (v1.2 : List (Val qa))) (chk (qkw (qr (v1.1 : Int) (v1.2 : List (Val qa)))) (bif (!((qW (qr (v1.1 : Int) (v1.2 : List (Val qa)))).2 : Bool)) then (some (((0 : Int), ([] : List (Val Y33))), false, ())) else (bif (decide ((16 : Int) < ((((qW (qr (v1.1 : Int) (v1.2 : List (Val qa)))).1).2 : List (Val qa)).length : Int))) then (some (((0 : Int), ([] : List (Val Y33))), false, ())) else (bif (decide (((((qW (qr (v1.1 : Int) (v1.2 : List (Val qa)))).1).2 : List (Val qa)).length : Int) = (1 : Int))) then (chk (0 ≤ (0 : Int) ∧ (0 : Int) < ((((qW (qr (v1.1 : Int) (v1.2 : List (Val qa)))).1).2 : List (Val qa)).length : Int)) (chk ((0 : Int).toNat < (((qW (qr (v1.1 : Int) (v1.2 : List (Val qa)))).1).2 : List (Val qa)).length) (chk (qk4 ((((qW (qr (v1.1 : Int) (v1.2 : List (Val qa)))).1).2 : List (Val qa)).getD ((0 : Int).toNat) (qc qa))) (bif ((qbQ ((((qW (qr (v1.1 : Int) (v1.2 : List (Val qa)))).1).2 : List (Val qa)).getD ((0 : Int).toNat) (qc qa))) : Bool) then (some (v0, true, ())) else (chk (([] : List (Val Y33)).length + (v0.2 : List (Val Y33)).length ≤ 1048576) (chk ((([] : List (Val Y33)) ++ (v0.2 : List (Val Y33))).length + ([((((qW (qr (v1.1 : Int) (v1.2 : List (Val qa)))).1).1 : Int), (((qW (qr (v1.1 : Int) (v1.2 : List (Val qa)))).1).2 : List (Val qa)))] : List (Val Y33)).length ≤ 1048576) (some (((v0.1 : Int), ((([] : List (Val Y33)) ++ (v0.2 : List (Val Y33))) ++ ([((((qW (qr (v1.1 : Int) (v1.2 : List (Val qa)))).1).1 : Int), (((qW (qr (v1.1 : Int) (v1.2 : List (Val qa)))).1).2 : List (Val qa)))] : List (Val Y33)))), (decide ((((([] : List (Val Y33)) ++ (v0.2 : List (Val Y33))) ++ ([((((qW (qr (v1.1 : Int) (v1.2 : List (Val qa)))).1).1 : Int), (((qW (qr (v1.1 : Int) (v1.2 : List (Val qa)))).1).2 : List (Val qa)))] : List (Val Y33))).length : Int) ≤ (12 : Int))), ())))))))) else (chk (([] : List (Val Y33)).length + (v0.2 : List (Val Y33)).length ≤ 1048576) (chk ((([] : List (Val Y33)) ++ (v0.2 : List (Val Y33))).length + ([((((qW (qr (v1.1 : Int) (v1.2 : List (Val qa)))).1).1 : Int), (((qW (qr (v1.1 : Int) (v1.2 : List (Val qa)))).1).2 : List (Val qa)))] : List (Val Y33)).length ≤ 1048576) (some (((v0.1 : Int), ((([] : List (Val Y33)) ++ (v0.2 : List (Val Y33))) ++ ([((((qW (qr (v1.1 : Int) (v1.2 : List (Val qa)))).1).1 : Int), (((qW (qr (v1.1 : Int) (v1.2 : List (Val qa)))).1).2 : List (Val qa)))] : List (Val Y33)))), (decide ((((([] : List (Val Y33)) ++ (v0.2 : List (Val Y33))) ++ ([((((qW (qr (v1.1 : Int) (v1.2 : List (Val qa)))).1).1 : Int), (((qW (qr (v1.1 : Int) (v1.2 : List (Val qa)))).1).2 : List (Val qa)))] : List (Val Y33))).length : Int) ≤ (12 : Int))), ()))))))))
def qmR : Gam := [(150, qaq), (217, qdI), (229, qfp)]
theorem zcH : Gam.get qmR 150 = some qaq := rfl
theorem q3Q : Gam.get qmR 217 = some qdI := rfl
theorem zeg : Gam.get qmR 229 = some qfp := rfl
def qy6 : Nm := ⟨[false, false, false, false, true, false, false, false, true], [], false⟩
theorem q48 : qy6.zero = false := rfl
theorem qZO : qy6.fix = [] := rfl
theorem qXk : qy6.keep = [false, false, false, false, true, false, false, false, true] := rfl
def qvX : Nm := ⟨[false, false, false, false, true, true], [], false⟩
theorem zbT : qvX.zero = false := rfl
theorem zb2 : qvX.fix = [] := rfl
theorem zdD : qvX.keep = [false, false, false, false, true, true] := rfl
def qyF : Nat → Tree := fun i => if i = 6 then .keep 0 (.keep 1 (.keep 3 (.keep 4 (.keep 6 (.alt 2 (.alt 5 (.alt 7 (.alt 8 (.first 9 (.alt 10 (.alt 11 .done .stop) .stop)) (.alt 10 (.alt 8 (.quiet 9 (.alt 11 .done .stop)) .stop) .stop)) (.alt 10 (.alt 7 (.alt 8 (.quiet 9 (.alt 11 .done .stop)) .stop) .stop) .stop)) (.alt 7 (.alt 5 (.alt 8 (.first 9 (.alt 10 (.alt 11 .done .stop) .stop)) (.alt 10 (.alt 8 (.quiet 9 (.alt 11 .done .stop)) .stop) .stop)) (.alt 10 (.alt 5 (.alt 8 (.quiet 9 (.alt 11 .done .stop)) .stop) .stop) .stop)) (.alt 10 (.alt 5 (.alt 7 (.alt 8 (.quiet 9 (.alt 11 .done .stop)) .stop) .stop) (.alt 7 (.alt 5 (.alt 8 (.quiet 9 (.alt 11 .done .stop)) .stop) .stop) .stop)) .stop))) (.alt 7 (.alt 2 (.alt 5 (.alt 8 (.first 9 (.alt 10 (.alt 11 .done .stop) .stop)) (.alt 10 (.alt 8 (.quiet 9 (.alt 11 .done .stop)) .stop) .stop)) (.alt 10 (.alt 5 (.alt 8 (.quiet 9 (.alt 11 .done .stop)) .stop) .stop) .stop)) (.alt 10 (.alt 2 (.alt 5 (.alt 8 (.quiet 9 (.alt 11 .done .stop)) .stop) .stop) .stop) .stop)) (.alt 10 (.alt 2 (.alt 5 (.alt 7 (.alt 8 (.quiet 9 (.alt 11 .done .stop)) .stop) .stop) (.alt 7 (.alt 5 (.alt 8 (.quiet 9 (.alt 11 .done .stop)) .stop) .stop) .stop)) (.alt 7 (.alt 2 (.alt 5 (.alt 8 (.quiet 9 (.alt 11 .done .stop)) .stop) .stop) .stop) .stop)) .stop))))))) else if i = 7 then .quiet 0 (.alt 1 (.alt 2 (.alt 3 (.first 4 (.alt 5 (.quiet 6 .done) .stop)) (.alt 5 (.quiet 3 (.quiet 4 (.quiet 6 .done))) .stop)) (.alt 5 (.quiet 2 (.quiet 3 (.quiet 4 (.quiet 6 .done)))) .stop)) (.alt 5 (.quiet 1 (.quiet 2 (.quiet 3 (.quiet 4 (.quiet 6 .done))))) .stop)) else .done
def qGQ : Nat → Nm := fun _ => ⟨[], [], false⟩
def qA6 : Nat → Option Jn := fun _ => none
def qBR : Nat → Option Nm := fun _ => none
def qPV : Nat → Option Nm := fun i => if i = 6 then some qy6 else if i = 7 then some qvX else none
theorem q0h : qj qyF (Tryz.f143.body.getD .skip) = true := by kernel_rfl
def qdM (N : Nat) : Tab := { tr := qyF, lp := qGQ, ex := qBR, rg := qPV, jn := qA6, fuel := N }
theorem qVV (N : Nat) : (qdM N).pins = false := rfl
theorem zd3 (N : Nat) : qk Tryz.prog (qdM N) := qp fun _ => rfl
theorem qWK (N : Nat) (i : Nat) : (qdM N).tr i = qyF i := rfl
theorem q2X (N : Nat) (i : Nat) : (qdM N).lp i = qGQ i := rfl
theorem qZ3 (N : Nat) (i : Nat) : (qdM N).ex i = qBR i := rfl
theorem qZ9 (N : Nat) (i : Nat) : (qdM N).rg i = qPV i := rfl
theorem qXw (N : Nat) (i : Nat) : (qdM N).jn i = qA6 i := rfl
theorem q5O (N : Nat) : (qdM N).fuel = N := rfl
theorem zaG (N : Nat) (v0 : Val Y50) (v1 : Val Y33) : qf tt qmR (qdM N) (Tryz.f143.body.getD .skip) (qm tt false [i50, i4] [.cell 4 50, .tmp 5]) (qq [i50, i33] 54 (v0, v1, ())) = qz6 N v0 v1 := by
  rw [qz6]; unfold Tryz.f143
  simp (maxSteps := 10000000) -implicitDefEqProofs [qWK, qyF, q2X, qGQ, qZ3, qBR, qZ9, qPV, qXw, qA6, q5O, qVV, qZO, qXk, q48, zb2, zdD, zbT, zcH, q3Q, zeg, qaq, qdI, qfp]
  try rfl
end Go.T
