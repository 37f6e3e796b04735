/- Minimal cells: run. -/
import Derived.Test.YthefcjjgchekiaaGreatE3
set_option linter.unusedSimpArgs false
set_option linter.unusedVariables false
namespace Go.T
open Go Go.Proofs
set_option maxHeartbeats 4000000
set_option maxRecDepth 100000
theorem qWm {α : Type} {b : Bool} {x x' y y' : α} (h : x = x') (h' : y = y') : cond b x y = cond b x' y' := by rw [h, h']
abbrev dA : Val qa := qc qa
abbrev qfG : Val Y33 × Bool := (((0 : Int), []), false)
def qam (c : Val Y33) : Val Y33 × Bool := bif qz c then (qr c.1 c.2, true) else qfG
def qgr : G := { ps := [i33], rs := [i33, i4], dp := true, pre := fun _ => True, fn := fun x => ((qam x.1).1, (qam x.1).2, ()) }
noncomputable def qzL (N : Nat) (v0 : Val Y33) : Option (qb [i33, i4]) := bif (!((qz v0) : Bool)) then (some (((0 : Int), ([] : List (Val qa))), false, ())) else (chk (qaX (v0.1 : Int) (v0.2 : List (Val qa))) (some ((qr (v0.1 : Int) (v0.2 : List (Val qa))), true, ())))
def qAf : Gam := [(199, qay), (230, qdd)]
theorem q9v : Gam.get qAf 199 = some qay := rfl
theorem ze6 : Gam.get qAf 230 = some qdd := rfl
def qyT : Nat → Tree := fun _ => .done
def qBK : Nat → Nm := fun _ => ⟨[], [], false⟩
def qEH : Nat → Option Jn := fun _ => none
def qLp : Nat → Option Nm := fun _ => none
def qNr : Nat → Option Nm := fun _ => none
theorem zak : qj qyT (Tryz.f215.body.getD .skip) = true := by kernel_rfl
def qd8 (N : Nat) : Tab := { tr := qyT, lp := qBK, ex := qLp, rg := qNr, jn := qEH, fuel := N }
theorem za8 (N : Nat) : (qd8 N).pins = false := rfl
theorem qWe (N : Nat) : qk Tryz.prog (qd8 N) := qp fun _ => rfl
theorem q1i (N : Nat) (i : Nat) : (qd8 N).tr i = qyT i := rfl
theorem zbi (N : Nat) (i : Nat) : (qd8 N).lp i = qBK i := rfl
theorem q8H (N : Nat) (i : Nat) : (qd8 N).ex i = qLp i := rfl
theorem q66 (N : Nat) (i : Nat) : (qd8 N).rg i = qNr i := rfl
theorem q9f (N : Nat) (i : Nat) : (qd8 N).jn i = qEH i := rfl
theorem q7Z (N : Nat) : (qd8 N).fuel = N := rfl
theorem zbv (N : Nat) (v0 : Val Y33) : qf tt qAf (qd8 N) (Tryz.f215.body.getD .skip) (qm tt true [i33, i4] [.cell 2 33, .tmp 3]) (qq [i33] 13 (v0, ())) = qzL N v0 := by
  rw [qzL]; unfold Tryz.f215
  simp (maxSteps := 10000000) -implicitDefEqProofs [q1i, qyT, zbi, qBK, q8H, qLp, q66, qNr, q9f, qEH, q7Z, za8, q9v, ze6, qay, qdd]
  try rfl
def qbz (d : Int) : Nat → Nat → List (Val qa) → Option (List (Val qa))
  | 0, _, l => some l
  | n + 1, i, l => if i < l.length then (bif (qar (d, l.take i ++ l.drop (i + 1)) (l.getD i dA)).2 then (bif (qar (d, l.take i ++ l.drop (i + 1)) (l.getD i dA)).1 then qbz d n i (l.take i ++ l.drop (i + 1)) else qbz d n (i + 1) l) else none) else some l
def qch (d : Int) (vs : List (Val qa)) : Nat → Nat → List Nat → Option (List Nat)
  | 0, _, is => some is
  | n + 1, i, is => if i < is.length then (bif (qar (d, (is.take i ++ is.drop (i + 1)).map fun j => vs.getD j dA) (vs.getD (is.getD i 0) dA)).2 then (bif (qar (d, (is.take i ++ is.drop (i + 1)).map fun j => vs.getD j dA) (vs.getD (is.getD i 0) dA)).1 then qch d vs n i (is.take i ++ is.drop (i + 1)) else qch d vs n (i + 1) is) else none) else some is
def qE2 (vs : List (Val qa)) : Int := (List.length (α := Int) (vs.getD 0 dA).1 : Int)
def qdn (vs : List (Val qa)) : List Nat := (qch (qE2 vs) vs (vs.length + 1) 0 (List.range vs.length)).getD []
def qW (x : Val Y33) : Val Y33 × Bool := bif (qaw x).2 then (bif (qaw x).1 then (qaQ x.1, true) else (match qbz x.1 (List.length (α := Val qa) x.2 + 1) 0 x.2 with
  | some l => ((x.1, l), true)
  | none => qfG)) else qfG
def qkw (x : Val Y33) : Prop := qz x = true
def qH (c : Val Y33) : Val Y33 × Bool := bif qz c then qW (qr c.1 c.2) else qfG
def qe5 : G := { ps := [i33], rs := [i33, i4], dp := true, pre := fun _ => True, fn := fun x => ((qH x.1).1, (qH x.1).2, ()) }
noncomputable def qxS (N : Nat) (v19 : Int) (v20 : List (Val (hd qa))) (v21 : List (Val qa)) (v22 : Int) (v23 : List (Val qa)) (v24 : Int) (v25 : Int) (v26 : List (Val (hd qa))) (k9011 : (List (Val (hd qa))) → Option (qb [i33, i4])) (_ : Nat) : Option (qb [i33, i4]) := chk (0 ≤ (0 : Int) ∧ (0 : Int) ≤ v19 ∧ v19 ≤ (v26.length : Int)) (chk (0 ≤ (IntKind.i64.wrap (v19 + (1 : Int))) ∧ (IntKind.i64.wrap (v19 + (1 : Int))) ≤ (v26.length : Int) ∧ (v26.length : Int) ≤ (v26.length : Int)) (chk (qx6 ([((v26.take v19.toNat).drop (0 : Int).toNat), ((v26.take (v26.length : Int).toNat).drop (IntKind.i64.wrap (v19 + (1 : Int))).toNat)] : List (Val (.slice 108 (hd qa))))) (k9011 ((qkX ([((v26.take v19.toNat).drop (0 : Int).toNat), ((v26.take (v26.length : Int).toNat).drop (IntKind.i64.wrap (v19 + (1 : Int))).toNat)] : List (Val (.slice 108 (hd qa))))) : List (Val (hd qa))))))
noncomputable def qeY (N : Nat) (v2 : List (Val (hd qa))) (v3 : List (Val qa)) (v4 : Int) (v5 : List (Val qa)) (v6 : Int) (k0 : Int → (List (Val (hd qa))) → Option (qb [i33, i4])) : Nat → Int → Int → (List (Val (hd qa))) → Option (qb [i33, i4])
  | 0, _, _, _ => none
  | n + 1, v1, v7, v8 => bif (decide (v1 < (v8.length : Int))) then (qxS N v1 v2 v3 v4 v5 v6 v7 v8 (fun (v28 : List (Val (hd qa))) => chk (0 ≤ v1 ∧ v1 < (v8.length : Int)) (chk (v1.toNat < v8.length) (chk (qP qa v3 v2 = v2 ∧ ((∀ y ∈ v28, y ∈ v2) ∧ (v8.getD v1.toNat (qc (hd qa))) ∈ v2)) (bif (!((qar (v4, (v28.map (lk qa v2 v3))) (lk qa v2 v3 (v8.getD v1.toNat (qc (hd qa))))).2 : Bool)) then (some (((0 : Int), ([] : List (Val qa))), false, ())) else (bif ((qar (v4, (v28.map (lk qa v2 v3))) (lk qa v2 v3 (v8.getD v1.toNat (qc (hd qa))))).1 : Bool) then (qeY N v2 v3 v4 v5 v6 k0 n v1 v4 v28) else (qeY N v2 v3 v4 v5 v6 k0 n (IntKind.i64.wrap (v1 + (1 : Int))) v7 v8)))))) N) else (k0 v7 v8)
noncomputable def qum (N : Nat) (v0 : Val Y33) : Option (qb [i33, i4]) := bif (!((qam v0).2 : Bool)) then (some (((0 : Int), ([] : List (Val qa))), false, ())) else (bif (!((qaw ((((qam v0).1).1 : Int), (((qam v0).1).2 : List (Val qa)))).2 : Bool)) then (some (((0 : Int), ([] : List (Val qa))), false, ())) else (bif ((qaw ((((qam v0).1).1 : Int), (((qam v0).1).2 : List (Val qa)))).1 : Bool) then (chk (qcV (v0.1 : Int)) (some ((((qaQ (v0.1 : Int)).1 : Int), ((qaQ (v0.1 : Int)).2 : List (Val qa))), true, ()))) else (qds (fun p1 : List Nat × List (Val (hd qa)) => qc3 qa p1.2 (((qam v0).1).2 : List (Val qa))) (fun p1 => qeY N p1.2 (((qam v0).1).2 : List (Val qa)) (v0.1 : Int) (v0.2 : List (Val qa)) (0 : Int) (fun (v31 : Int) (v32 : List (Val (hd qa))) => chk (v32 = (qdn (((qam v0).1).2 : List (Val qa))).map (fun i => p1.2.getD i (qc (hd qa))) ∧ (qdn (((qam v0).1).2 : List (Val qa))).Nodup ∧ (∀ i ∈ (qdn (((qam v0).1).2 : List (Val qa))), i < (((qam v0).1).2 : List (Val qa)).length) ∧ qP qa (((qam v0).1).2 : List (Val qa)) p1.2 = p1.2 ∧ p1.2.length = (((qam v0).1).2 : List (Val qa)).length) (some ((v31, ((qdn (((qam v0).1).2 : List (Val qa))).map (fun i => (((qam v0).1).2 : List (Val qa)).getD i (qc qa)))), true, ()))) N (0 : Int) (((qam v0).1).1 : Int) p1.2))))
def qcr : Gam := [(212, qdo), (213, qbS), (215, qgr), (219, qgG), (220, qgN)]
theorem qrq : Gam.get qcr 212 = some qdo := rfl
theorem qmu : Gam.get qcr 213 = some qbS := rfl
theorem qqq : Gam.get qcr 215 = some qgr := rfl
theorem qs8 : Gam.get qcr 219 = some qgG := rfl
theorem qo7 : Gam.get qcr 220 = some qgN := rfl
def qt5 : Nm := ⟨[false, true, true, false, true, false, false, true], [], false⟩
theorem qoU : qt5.zero = false := rfl
theorem qng : qt5.fix = [] := rfl
theorem qoi : qt5.keep = [false, true, true, false, true, false, false, true] := rfl
def qsa : Nm := ⟨[false, true, true, false, true, false, false, true], [.frb 4 1 108 qa], false⟩
theorem ql9 : qsa.zero = false := rfl
theorem qrb : qsa.fix = [.frb 4 1 108 qa] := rfl
theorem qoe : qsa.keep = [false, true, true, false, true, false, false, true] := rfl
def qxX : Nm := ⟨[false, false, true, false, true], [], false⟩
theorem qso : qxX.zero = false := rfl
theorem ql5 : qxX.fix = [] := rfl
theorem qqA : qxX.keep = [false, false, true, false, true] := rfl
def qvT : Nm := ⟨[false, true, true, false, true, false, false, true, true], [], false⟩
theorem qtH : qvT.zero = false := rfl
theorem qne : qvT.fix = [] := rfl
theorem qsO : qvT.keep = [false, true, true, false, true, false, false, true, true] := rfl
def qgR : Nat → Tree := fun i => if i = 11 then .first 4 (.first 8 (.first 9 (.keep 0 (.keep 1 (.keep 2 (.keep 3 (.keep 6 (.keep 7 (.alt 5 (.alt 10 (.alt 11 (.alt 12 (.first 13 (.alt 14 (.alt 15 .done .stop) .stop)) (.alt 14 (.alt 12 (.quiet 13 (.alt 15 .done .stop)) .stop) .stop)) (.alt 14 (.alt 11 (.alt 12 (.quiet 13 (.alt 15 .done .stop)) .stop) .stop) .stop)) (.alt 14 (.alt 10 (.alt 11 (.alt 12 (.quiet 13 (.alt 15 .done .stop)) .stop) .stop) .stop) .stop)) (.alt 10 (.alt 5 (.alt 11 (.alt 12 (.first 13 (.alt 14 (.alt 15 .done .stop) .stop)) (.alt 14 (.alt 12 (.quiet 13 (.alt 15 .done .stop)) .stop) .stop)) (.alt 14 (.alt 11 (.alt 12 (.quiet 13 (.alt 15 .done .stop)) .stop) .stop) .stop)) (.alt 14 (.alt 5 (.alt 11 (.alt 12 (.quiet 13 (.alt 15 .done .stop)) .stop) .stop) .stop) .stop)) (.alt 14 (.alt 5 (.alt 10 (.alt 11 (.alt 12 (.quiet 13 (.alt 15 .done .stop)) .stop) .stop) .stop) (.alt 10 (.alt 5 (.alt 11 (.alt 12 (.quiet 13 (.alt 15 .done .stop)) .stop) .stop) .stop) .stop)) .stop))))))))))) else if i = 12 then .quiet 0 (.quiet 1 (.quiet 2 (.quiet 3 (.quiet 4 (.quiet 5 (.alt 6 (.quiet 7 (.quiet 8 (.quiet 9 (.quiet 10 (.quiet 11 .done))))) .stop)))))) else .done
def qhj : Nat → Nm := fun i => if i = 10 then qsa else ⟨[], [], false⟩
noncomputable def qfv : Nat → Option Jn := fun i => if i = 11 then some (.nt qt5 ttH) else if i = 9 then some (.at (some (.opn 2 qa)) none) else if i = 18 then some (.at (some (.cls 3 0 qa qdn)) none) else none
def qje : Nat → Option Nm := fun i => if i = 0 then some qxX else none
def qif : Nat → Option Nm := fun i => if i = 11 then some qvT else none
theorem ze5 : qj qgR (Tryz.f138.body.getD .skip) = true := by kernel_rfl
noncomputable def qbF (N : Nat) : Tab := { tr := qgR, lp := qhj, ex := qje, rg := qif, jn := qfv, fuel := N }
theorem qqX (N : Nat) : (qbF N).pins = false := rfl
theorem zaK (N : Nat) : qk Tryz.prog (qbF N) := fun id j t h ht => by
  have h : qfv id = _ := h
  unfold qfv at h
  repeat' split at h
  all_goals first | (simp at h; done) | (simp only [Option.some.injEq] at h; subst h; simp [Jn.tb] at ht; done) | (simp only [Option.some.injEq] at h; subst h; simp only [Jn.tb, Option.some.injEq] at ht; subst ht; exact hTH)
theorem qoB (N : Nat) (i : Nat) : (qbF N).tr i = qgR i := rfl
theorem qny (N : Nat) (i : Nat) : (qbF N).lp i = qhj i := rfl
theorem qoC (N : Nat) (i : Nat) : (qbF N).ex i = qje i := rfl
theorem qnR (N : Nat) (i : Nat) : (qbF N).rg i = qif i := rfl
theorem qnB (N : Nat) (i : Nat) : (qbF N).jn i = qfv i := rfl
theorem qsd (N : Nat) : (qbF N).fuel = N := rfl
noncomputable def qRM : Code := cut [true, true, true, true, true, true, false, true, true, true, true, true, false] (Tryz.f138.body.getD .skip)
theorem q0t {N : Nat} {Q : X → St → Option (qb [i33, i4])} {e : List LV} {h : List Blk} : qas ttH qcr (qbF N) qRM Q ⟨e, h⟩ = qas ttH qcr (qbF N) (cut [true, true, true, true, true, true, false, true, true, true, true, true, false] (Tryz.f138.body.getD .skip)) Q ⟨e, h⟩ := rfl
theorem qWH (N : Nat) (F : List Nat) (v19 : Int) (v20 : List (Val (hd qa))) (v21 : List (Val qa)) (v22 : Int) (v23 : List (Val qa)) (v24 : Int) (v25 : Int) (v26 : List (Val (hd qa))) {k9011 : (List (Val (hd qa))) → Option (qb [i33, i4])} {Q : X → St → Option (qb [i33, i4])} {c : Code} (hc : c = qRM) (h9011 : ∀ (v27 : List (Val (hd qa))), Q .normal ⟨[u, .one (.ptr 1 0 0), .one (.ptr 2 0 0), u, .one (.ptr 3 0 0), u, u, .one (.int .i64 v19), .one (.ptr 4 0 0), u, u, u, u, u, u, u, u, u, u, u, u, u, u, u, u, u, u, u, u, u, u, u, u, u, u, u, u, u, u, u, u, u, u, u, u, u, u, u, u, u, u, u, u, u, u, u, u, u, u, u, u, u, u, u, u, u, u, u], [.nst F qa v20 v21, .box [.int .i64 v22, .sl 108 qa v23 7], .box [.int .i64 v24, .nils], .box [.int .i64 v25, .own 5], .box [.int .i64 v22, .own 6], .row 108 (hd qa) v26 true false 0, .row 108 (hd qa) v27 true true 0]⟩ = k9011 v27) : qas ttH qcr (qbF N) c Q ⟨[u, .one (.ptr 1 0 0), .one (.ptr 2 0 0), u, .one (.ptr 3 0 0), u, u, .one (.int .i64 v19), u, u, u, u, u, u, u, u, u, u, u, u, u, u, u, u, u, u, u, u, u, u, u, u, u, u, u, u, u, u, u, u, u, u, u, u, u, u, u, u, u, u, u, u, u, u, u, u, u, u, u, u, u, u, u, u, u, u, u, u], [.nst F qa v20 v21, .box [.int .i64 v22, .sl 108 qa v23 5], .box [.int .i64 v24, .nils], .box [.int .i64 v25, .own 4], .row 108 (hd qa) v26 true false 0]⟩ = qxS N v19 v20 v21 v22 v23 v24 v25 v26 k9011 N := by
  subst hc; rw [q0t, qxS]; unfold Tryz.f138
  simp (maxSteps := 10000000) -implicitDefEqProofs [qah (id := 11), qak (id := 11), qoB, qgR, qny, qhj, qoC, qje, qnR, qif, qnB, qfv, qsd, qqX, qUX, qah (id := 9), qak (id := 9), qah (id := 18), qak (id := 18), qng, qoi, qoU, qrb, qoe, ql9, ql5, qqA, qso, qne, qsO, qtH, qrq, qmu, qqq, qs8, qo7, qdo, qbS, qgr, qgG, qgN, h9011]
noncomputable def qSi : Code := cut [true, true, true, true, true, true, false, true, true, true] (Tryz.f138.body.getD .skip)
theorem qY6 {N : Nat} {Q : X → St → Option (qb [i33, i4])} {e : List LV} {h : List Blk} : qf tt qcr (qbF N) qSi Q ⟨e, h⟩ = qf tt qcr (qbF N) (cut [true, true, true, true, true, true, false, true, true, true] (Tryz.f138.body.getD .skip)) Q ⟨e, h⟩ := rfl
theorem qVo (N : Nat) (F : List Nat) (v2 : List (Val (hd qa))) (v3 : List (Val qa)) (v4 : Int) (v5 : List (Val qa)) (v6 : Int) {k0 : Int → (List (Val (hd qa))) → Option (qb [i33, i4])} {Q : X → St → Option (qb [i33, i4])} {c : Code} (hc : c = qSi) (hret : ∀ st, Q .ret st = qE tt true [i33, i4] [.cell 2 33, .tmp 3] st) (h0 : ∀ (v29 : Int) (v30 : List (Val (hd qa))), Q (.exit 0) ⟨[u, u, .one (.ptr 1 0 0), u, .one (.ptr 2 0 0), u, u, u, u, u, u, u, u, u, u, u, u, u, u, u, u, u, u, u, u, u, u, u, u, u, u, u, u, u, u, u, u, u, u, u, u, u, u, u, u, u, u, u, u, u, u, u, u, u, u, u, u, u, u, u, u, u, u, u, u, u, u, u], [.nst F qa v2 v3, .box [.int .i64 v6, .nils], .box [.int .i64 v29, .own 3], .row 108 (hd qa) v30 true false 0]⟩ = k0 v29 v30) : ∀ (n : Nat) (v1 : Int) (v7 : Int) (v8 : List (Val (hd qa))), qF (qf tt qcr (qbF N) c) false qsa Q n ⟨[u, .one (.ptr 1 0 0), .one (.ptr 2 0 0), u, .one (.ptr 3 0 0), u, u, .one (.int .i64 v1), u, u, u, u, u, u, u, u, u, u, u, u, u, u, u, u, u, u, u, u, u, u, u, u, u, u, u, u, u, u, u, u, u, u, u, u, u, u, u, u, u, u, u, u, u, u, u, u, u, u, u, u, u, u, u, u, u, u, u, u], [.nst F qa v2 v3, .box [.int .i64 v4, .sl 108 qa v5 5], .box [.int .i64 v6, .nils], .box [.int .i64 v7, .own 4], .row 108 (hd qa) v8 true false 0]⟩ = qeY N v2 v3 v4 v5 v6 k0 n v1 v7 v8 := by
  subst hc; intro n; induction n with
  | zero => intros; rfl
  | succ n ih =>
    intro v1 v7 v8
    rw [qM, qY6]; unfold Tryz.f138
    simp (maxSteps := 10000000) -implicitDefEqProofs [qoB, qgR, qny, qhj, qoC, qje, qnR, qif, qnB, qfv, qsd, qqX, qah (id := 9), qak (id := 9), qah (id := 18), qak (id := 18), qng, qoi, qoU, qrb, qoe, ql9, ql5, qqA, qso, qne, qsO, qtH, qrq, qmu, qqq, qs8, qo7, qdo, qbS, qgr, qgG, qgN, hret, h0, ih]
    rewrite [qWH (k9011 := (fun (v28 : List (Val (hd qa))) => chk (0 ≤ v1 ∧ v1 < (v8.length : Int)) (chk (v1.toNat < v8.length) (chk (qP qa v3 v2 = v2 ∧ ((∀ y ∈ v28, y ∈ v2) ∧ (v8.getD v1.toNat (qc (hd qa))) ∈ v2)) (bif (!((qar (v4, (v28.map (lk qa v2 v3))) (lk qa v2 v3 (v8.getD v1.toNat (qc (hd qa))))).2 : Bool)) then (some (((0 : Int), ([] : List (Val qa))), false, ())) else (bif ((qar (v4, (v28.map (lk qa v2 v3))) (lk qa v2 v3 (v8.getD v1.toNat (qc (hd qa))))).1 : Bool) then (qeY N v2 v3 v4 v5 v6 k0 n v1 v4 v28) else (qeY N v2 v3 v4 v5 v6 k0 n (IntKind.i64.wrap (v1 + (1 : Int))) v7 v8))))))) N _ _ _ _ _ _ _ _ _ ?_ ?_]
    · rewrite [qeY]; first | rfl | simp (maxSteps := 10000000) -implicitDefEqProofs [ih]
    · rfl
    · intro v28; simp (maxSteps := 10000000) -implicitDefEqProofs [qoB, qgR, qny, qhj, qoC, qje, qnR, qif, qnB, qfv, qsd, qqX, qah (id := 9), qak (id := 9), qah (id := 18), qak (id := 18), qng, qoi, qoU, qrb, qoe, ql9, ql5, qqA, qso, qne, qsO, qtH, qrq, qmu, qqq, qs8, qo7, qdo, qbS, qgr, qgG, qgN, hret, h0, ih]
theorem q8a (N : Nat) (v0 : Val Y33) : qf tt qcr (qbF N) (Tryz.f138.body.getD .skip) (qm tt true [i33, i4] [.cell 2 33, .tmp 3]) (qq [i33] 68 (v0, ())) = qum N v0 := by
  unfold Tryz.f138
  simp (maxSteps := 10000000) -implicitDefEqProofs [qoB, qgR, qny, qhj, qoC, qje, qnR, qif, qnB, qfv, qsd, qqX, qah (id := 9), qak (id := 9), qah (id := 18), qak (id := 18), qng, qoi, qoU, qrb, qoe, ql9, ql5, qqA, qso, qne, qsO, qtH, qrq, qmu, qqq, qs8, qo7, qdo, qbS, qgr, qgG, qgN]
  rewrite [qum]
  simp only [Bool.cond_not]
  repeat' (first | with_reducible rfl | refine qTC fun _ => ?_ | refine qTV fun p1 _ => ?_ | refine qWm ?_ ?_ | (refine congrArg some ?_; rfl))
  rewrite [qVo (k0 := (fun (v31 : Int) (v32 : List (Val (hd qa))) => chk (v32 = (qdn (((qam v0).1).2 : List (Val qa))).map (fun i => p1.2.getD i (qc (hd qa))) ∧ (qdn (((qam v0).1).2 : List (Val qa))).Nodup ∧ (∀ i ∈ (qdn (((qam v0).1).2 : List (Val qa))), i < (((qam v0).1).2 : List (Val qa)).length) ∧ qP qa (((qam v0).1).2 : List (Val qa)) p1.2 = p1.2 ∧ p1.2.length = (((qam v0).1).2 : List (Val qa)).length) (some ((v31, ((qdn (((qam v0).1).2 : List (Val qa))).map (fun i => (((qam v0).1).2 : List (Val qa)).getD i (qc qa)))), true, ())))) N _ _ _ _ _ _ ?_ ?_ ?_]
  · first | rfl | simp (maxSteps := 10000000) -implicitDefEqProofs []
  · rfl
  · intro; simp only [qK, qJ, qL, qC]
  · intro v31 v32; simp (maxSteps := 10000000) -implicitDefEqProofs [qoB, qgR, qny, qhj, qoC, qje, qnR, qif, qnB, qfv, qsd, qqX, qah (id := 9), qak (id := 9), qah (id := 18), qak (id := 18), qng, qoi, qoU, qrb, qoe, ql9, ql5, qqA, qso, qne, qsO, qtH, qrq, qmu, qqq, qs8, qo7, qdo, qbS, qgr, qgG, qgN]
def cpC (c : Val Y33) : Val Y33 := c
def qi3 (c : Val Y33) : Prop := Bd Y33 c
def qgF : G := { ps := [i33], rs := [i33], dp := true, pre := fun x => qi3 x.1, fn := fun x => (cpC x.1, ()) }
noncomputable def qic (N : Nat) (v2 : Int) (v3 : List (Val qa)) (v4 : Int) (v5 : Int) (k0 : (List (Val qa)) → Option (qb [i33])) : Nat → Int → (List (Val qa)) → Option (qb [i33])
  | 0, _, _ => none
  | n + 1, v1, v6 => bif (decide (v1 < (v3.length : Int))) then (chk (0 ≤ v1 ∧ v1 < (v3.length : Int)) (chk (qba (v3.getD v1.toNat (qc qa))) (chk (v6.length + ([(((idA (v3.getD v1.toNat (qc qa))).1 : List (Val (.int .i64))), (((idA (v3.getD v1.toNat (qc qa))).2).1 : Int), (((idA (v3.getD v1.toNat (qc qa))).2).2 : Bool))] : List (Val qa)).length ≤ 1048576) (qic N v2 v3 v4 v5 k0 n (IntKind.i64.wrap (v1 + (1 : Int))) (v6 ++ ([(((idA (v3.getD v1.toNat (qc qa))).1 : List (Val (.int .i64))), (((idA (v3.getD v1.toNat (qc qa))).2).1 : Int), (((idA (v3.getD v1.toNat (qc qa))).2).2 : Bool))] : List (Val qa))))))) else (k0 v6)
noncomputable def qAd (N : Nat) (v0 : Val Y33) : Option (qb [i33]) := qic N (v0.1 : Int) (v0.2 : List (Val qa)) (0 : Int) (v0.1 : Int) (fun (v8 : List (Val qa)) => some (((v0.1 : Int), v8), ())) N (0 : Int) ([] : List (Val qa))
def qlL : Gam := [(234, qdy)]
theorem qE3 : Gam.get qlL 234 = some qdy := rfl
def qsv : Nm := ⟨[false, true, true, true, true], [.box 3 1 108 qa], false⟩
theorem qHb : qsv.zero = false := rfl
theorem qBM : qsv.fix = [.box 3 1 108 qa] := rfl
theorem qLd : qsv.keep = [false, true, true, true, true] := rfl
def qyx : Nm := ⟨[false, false, true, true], [], false⟩
theorem qMo : qyx.zero = false := rfl
theorem qLm : qyx.fix = [] := rfl
theorem qFY : qyx.keep = [false, false, true, true] := rfl
def qwR : Nm := ⟨[false, true, true, true, true], [], false⟩
theorem qEG : qwR.zero = false := rfl
theorem qMd : qwR.fix = [] := rfl
theorem qLK : qwR.keep = [false, true, true, true, true] := rfl
def qlE : Nat → Tree := fun i => if i = 5 then .quiet 2 (.quiet 3 (.quiet 4 (.quiet 5 (.quiet 6 (.alt 0 (.alt 1 (.alt 7 (.alt 8 (.alt 9 (.quiet 10 (.alt 11 .done .stop)) .stop) .stop) .stop) (.alt 7 (.alt 1 (.alt 8 (.alt 9 (.quiet 10 (.alt 11 .done .stop)) .stop) .stop) (.alt 8 (.quiet 1 (.alt 9 (.quiet 10 (.alt 11 .done .stop)) .stop)) .stop)) .stop)) (.alt 7 (.alt 0 (.alt 1 (.alt 8 (.alt 9 (.quiet 10 (.alt 11 .done .stop)) .stop) .stop) (.alt 8 (.quiet 1 (.alt 9 (.quiet 10 (.alt 11 .done .stop)) .stop)) .stop)) (.alt 8 (.quiet 0 (.quiet 1 (.alt 9 (.quiet 10 (.alt 11 .done .stop)) .stop))) .stop)) .stop)))))) else .done
def qn4 : Nat → Nm := fun i => if i = 3 then qsv else ⟨[], [], false⟩
def qqh : Nat → Option Jn := fun _ => none
def qoJ : Nat → Option Nm := fun i => if i = 0 then some qyx else none
def qn2 : Nat → Option Nm := fun i => if i = 5 then some qwR else none
theorem qYj : qj qlE (Tryz.f210.body.getD .skip) = true := by kernel_rfl
def qc1 (N : Nat) : Tab := { tr := qlE, lp := qn4, ex := qoJ, rg := qn2, jn := qqh, fuel := N }
theorem qFJ (N : Nat) : (qc1 N).pins = false := rfl
theorem qXd (N : Nat) : qk Tryz.prog (qc1 N) := qp fun _ => rfl
theorem qGa (N : Nat) (i : Nat) : (qc1 N).tr i = qlE i := rfl
theorem qBY (N : Nat) (i : Nat) : (qc1 N).lp i = qn4 i := rfl
theorem qH6 (N : Nat) (i : Nat) : (qc1 N).ex i = qoJ i := rfl
theorem qEj (N : Nat) (i : Nat) : (qc1 N).rg i = qn2 i := rfl
theorem qAn (N : Nat) (i : Nat) : (qc1 N).jn i = qqh i := rfl
theorem qJL (N : Nat) : (qc1 N).fuel = N := rfl
noncomputable def qQ6 : Code := cut [true, true, false, true, true, true] (Tryz.f210.body.getD .skip)
theorem q20 {N : Nat} {Q : X → St → Option (qb [i33])} {e : List LV} {h : List Blk} : qf tt qlL (qc1 N) qQ6 Q ⟨e, h⟩ = qf tt qlL (qc1 N) (cut [true, true, false, true, true, true] (Tryz.f210.body.getD .skip)) Q ⟨e, h⟩ := rfl
theorem q2a (N : Nat) (v2 : Int) (v3 : List (Val qa)) (v4 : Int) (v5 : Int) {k0 : (List (Val qa)) → Option (qb [i33])} {Q : X → St → Option (qb [i33])} {c : Code} (hc : c = qQ6) (hret : ∀ st, Q .ret st = qE tt true [i33] [.cell 2 33] st) (h0 : ∀ (v7 : List (Val qa)), Q (.exit 0) ⟨[u, u, .one (.ptr 0 0 0), .one (.ptr 1 0 0), u, u, u, u, u, u, u, u, u, u, u, u, u, u, u, u, u, u, u, u, u, u, u], [.box [.int .i64 v4, .nils], .box [.int .i64 v5, .own 2], .row 108 qa v7 true true 0]⟩ = k0 v7) : ∀ (n : Nat) (v1 : Int) (v6 : List (Val qa)), qF (qf tt qlL (qc1 N) c) false qsv Q n ⟨[u, .one (.ptr 0 0 0), .one (.ptr 1 0 0), .one (.ptr 2 0 0), .one (.int .i64 v1), u, u, u, u, u, u, u, u, u, u, u, u, u, u, u, u, u, u, u, u, u, u], [.box [.int .i64 v2, .sl 108 qa v3 4], .box [.int .i64 v4, .nils], .box [.int .i64 v5, .own 3], .row 108 qa v6 true true 0]⟩ = qic N v2 v3 v4 v5 k0 n v1 v6 := by
  subst hc; intro n; induction n with
  | zero => intros; rfl
  | succ n ih =>
    intro v1 v6
    rw [qM, q20, qic]; unfold Tryz.f210
    simp (maxSteps := 10000000) -implicitDefEqProofs [qGa, qlE, qBY, qn4, qH6, qoJ, qEj, qn2, qAn, qqh, qJL, qFJ, qBM, qLd, qHb, qLm, qFY, qMo, qMd, qLK, qEG, qE3, qdy, hret, h0, ih]
theorem qZr (N : Nat) (v0 : Val Y33) : qf tt qlL (qc1 N) (Tryz.f210.body.getD .skip) (qm tt true [i33] [.cell 2 33]) (qq [i33] 27 (v0, ())) = qAd N v0 := by
  unfold Tryz.f210
  simp (maxSteps := 10000000) -implicitDefEqProofs [qGa, qlE, qBY, qn4, qH6, qoJ, qEj, qn2, qAn, qqh, qJL, qFJ, qBM, qLd, qHb, qLm, qFY, qMo, qMd, qLK, qEG, qE3, qdy]
  rewrite [q2a (k0 := (fun (v8 : List (Val qa)) => some (((v0.1 : Int), v8), ()))) N _ _ _ _ ?_ ?_ ?_]
  · rewrite [qAd]; first | rfl | simp (maxSteps := 10000000) -implicitDefEqProofs []
  · rfl
  · intro; simp only [qK, qJ, qL, qC]
  · intro v8; simp (maxSteps := 10000000) -implicitDefEqProofs [qGa, qlE, qBY, qn4, qH6, qoJ, qEj, qn2, qAn, qqh, qJL, qFJ, qBM, qLd, qHb, qLm, qFY, qMo, qMd, qLK, qEG, qE3, qdy]
def qdI : G := { ps := [i33], rs := [i33, i4], dp := true, pre := fun x => qkw x.1, fn := fun x => ((qW x.1).1, (qW x.1).2, ()) }
noncomputable def qvB (N : Nat) (v15 : Int) (v16 : Int) (v17 : List (Val qa)) (v18 : Int) (v19 : Int) (v20 : List (Val qa)) (k9009 : (List (Val qa)) → Option (qb [i33, i4])) (_ : Nat) : Option (qb [i33, i4]) := chk (0 ≤ (0 : Int) ∧ (0 : Int) ≤ v15 ∧ v15 ≤ (v20.length : Int)) (chk (([] : List (Val qa)).length + ((v20.take v15.toNat).drop (0 : Int).toNat).length ≤ 1048576) (chk (0 ≤ (IntKind.i64.wrap (v15 + (1 : Int))) ∧ (IntKind.i64.wrap (v15 + (1 : Int))) ≤ (v20.length : Int) ∧ (v20.length : Int) ≤ (v20.length : Int)) (chk ((([] : List (Val qa)) ++ ((v20.take v15.toNat).drop (0 : Int).toNat)).length + ((v20.take (v20.length : Int).toNat).drop (IntKind.i64.wrap (v15 + (1 : Int))).toNat).length ≤ 1048576) (k9009 ((([] : List (Val qa)) ++ ((v20.take v15.toNat).drop (0 : Int).toNat)) ++ ((v20.take (v20.length : Int).toNat).drop (IntKind.i64.wrap (v15 + (1 : Int))).toNat))))))
noncomputable def qe1 (N : Nat) (v2 : Int) (v3 : List (Val qa)) (v4 : Int) (k0 : Int → (List (Val qa)) → Option (qb [i33, i4])) : Nat → Int → Int → (List (Val qa)) → Option (qb [i33, i4])
  | 0, _, _, _ => none
  | n + 1, v1, v5, v6 => bif (decide (v1 < (v6.length : Int))) then (qvB N v1 v2 v3 v4 v5 v6 (fun (v22 : List (Val qa)) => chk (0 ≤ v1 ∧ v1 < (v6.length : Int)) (chk (v1.toNat < v6.length) (chk (qof (v2, v22) (v6.getD v1.toNat (qc qa))) (bif (!((qar (v2, v22) (v6.getD v1.toNat (qc qa))).2 : Bool)) then (some (((0 : Int), ([] : List (Val qa))), false, ())) else (bif ((qar (v2, v22) (v6.getD v1.toNat (qc qa))).1 : Bool) then (chk (qi3 (v2, v22)) (qe1 N v2 v3 v4 k0 n v1 ((cpC (v2, v22)).1 : Int) ((cpC (v2, v22)).2 : List (Val qa)))) else (qe1 N v2 v3 v4 k0 n (IntKind.i64.wrap (v1 + (1 : Int))) v5 v6)))))) N) else (k0 v5 v6)
noncomputable def qwm (N : Nat) (v0 : Val Y33) : Option (qb [i33, i4]) := chk (qn6 v0) (bif (!((qaw v0).2 : Bool)) then (some (((0 : Int), ([] : List (Val qa))), false, ())) else (bif ((qaw v0).1 : Bool) then (chk (qcV (v0.1 : Int)) (some ((((qaQ (v0.1 : Int)).1 : Int), ((qaQ (v0.1 : Int)).2 : List (Val qa))), true, ()))) else (chk (qi3 v0) (qe1 N (v0.1 : Int) (v0.2 : List (Val qa)) (0 : Int) (fun (v25 : Int) (v26 : List (Val qa)) => some ((v25, v26), true, ())) N (0 : Int) ((cpC v0).1 : Int) ((cpC v0).2 : List (Val qa))))))
def qde : Gam := [(208, qdk), (209, qcM), (210, qgF), (283, qfX)]
theorem qqI : Gam.get qde 208 = some qdk := rfl
theorem qod : Gam.get qde 209 = some qcM := rfl
theorem qsZ : Gam.get qde 210 = some qgF := rfl
theorem qr0 : Gam.get qde 283 = some qfX := rfl
def qu4 : Nm := ⟨[false, true, true, false, false, false, true, true], [], false⟩
theorem qqc : qu4.zero = false := rfl
theorem qoW : qu4.fix = [] := rfl
theorem qpx : qu4.keep = [false, true, true, false, false, false, true, true] := rfl
def qtp : Nm := ⟨[false, true, true, false, false, false, true, true], [.frb 6 1 108 qa], false⟩
theorem qtc : qtp.zero = false := rfl
theorem qpR : qtp.fix = [.frb 6 1 108 qa] := rfl
theorem qmV : qtp.keep = [false, true, true, false, false, false, true, true] := rfl
def quC : Nm := ⟨[false, false, true, false, false, false, true], [], false⟩
theorem qov : quC.zero = false := rfl
theorem qqy : quC.fix = [] := rfl
theorem qrd : quC.keep = [false, false, true, false, false, false, true] := rfl
def quW : Nm := ⟨[false, true, true, false, false, false, true, true, true], [], false⟩
theorem qrT : quW.zero = false := rfl
theorem qpG : quW.fix = [] := rfl
theorem qpA : quW.keep = [false, true, true, false, false, false, true, true, true] := rfl
def qf1 : Nat → Tree := fun i => if i = 9 then .first 5 (.first 10 (.first 11 (.keep 0 (.keep 1 (.keep 3 (.keep 4 (.keep 8 (.keep 9 (.alt 2 (.alt 6 (.alt 7 (.alt 12 (.alt 13 (.first 14 (.alt 15 (.alt 16 .done .stop) .stop)) (.alt 15 (.alt 13 (.quiet 14 (.alt 16 .done .stop)) .stop) .stop)) (.alt 15 (.alt 12 (.alt 13 (.quiet 14 (.alt 16 .done .stop)) .stop) .stop) .stop)) (.alt 12 (.alt 7 (.alt 13 (.first 14 (.alt 15 (.alt 16 .done .stop) .stop)) (.alt 15 (.alt 13 (.quiet 14 (.alt 16 .done .stop)) .stop) .stop)) (.alt 15 (.alt 7 (.alt 13 (.quiet 14 (.alt 16 .done .stop)) .stop) .stop) .stop)) (.alt 15 (.alt 7 (.alt 12 (.alt 13 (.quiet 14 (.alt 16 .done .stop)) .stop) .stop) (.alt 12 (.alt 7 (.alt 13 (.quiet 14 (.alt 16 .done .stop)) .stop) .stop) .stop)) .stop))) (.alt 12 (.alt 6 (.alt 7 (.alt 13 (.first 14 (.alt 15 (.alt 16 .done .stop) .stop)) (.alt 15 (.alt 13 (.quiet 14 (.alt 16 .done .stop)) .stop) .stop)) (.alt 15 (.alt 7 (.alt 13 (.quiet 14 (.alt 16 .done .stop)) .stop) .stop) .stop)) (.alt 15 (.alt 6 (.alt 7 (.alt 13 (.quiet 14 (.alt 16 .done .stop)) .stop) .stop) .stop) .stop)) (.alt 15 (.alt 6 (.alt 7 (.alt 12 (.alt 13 (.quiet 14 (.alt 16 .done .stop)) .stop) .stop) (.alt 12 (.alt 7 (.alt 13 (.quiet 14 (.alt 16 .done .stop)) .stop) .stop) .stop)) (.alt 12 (.alt 6 (.alt 7 (.alt 13 (.quiet 14 (.alt 16 .done .stop)) .stop) .stop) .stop) .stop)) .stop))) (.alt 6 (.alt 2 (.alt 7 (.alt 12 (.alt 13 (.first 14 (.alt 15 (.alt 16 .done .stop) .stop)) (.alt 15 (.alt 13 (.quiet 14 (.alt 16 .done .stop)) .stop) .stop)) (.alt 15 (.alt 12 (.alt 13 (.quiet 14 (.alt 16 .done .stop)) .stop) .stop) .stop)) (.alt 12 (.alt 7 (.alt 13 (.first 14 (.alt 15 (.alt 16 .done .stop) .stop)) (.alt 15 (.alt 13 (.quiet 14 (.alt 16 .done .stop)) .stop) .stop)) (.alt 15 (.alt 7 (.alt 13 (.quiet 14 (.alt 16 .done .stop)) .stop) .stop) .stop)) (.alt 15 (.alt 7 (.alt 12 (.alt 13 (.quiet 14 (.alt 16 .done .stop)) .stop) .stop) (.alt 12 (.alt 7 (.alt 13 (.quiet 14 (.alt 16 .done .stop)) .stop) .stop) .stop)) .stop))) (.alt 12 (.alt 2 (.alt 7 (.alt 13 (.first 14 (.alt 15 (.alt 16 .done .stop) .stop)) (.alt 15 (.alt 13 (.quiet 14 (.alt 16 .done .stop)) .stop) .stop)) (.alt 15 (.alt 7 (.alt 13 (.quiet 14 (.alt 16 .done .stop)) .stop) .stop) .stop)) (.alt 15 (.alt 2 (.alt 7 (.alt 13 (.quiet 14 (.alt 16 .done .stop)) .stop) .stop) .stop) .stop)) (.alt 15 (.alt 2 (.alt 7 (.alt 12 (.alt 13 (.quiet 14 (.alt 16 .done .stop)) .stop) .stop) (.alt 12 (.alt 7 (.alt 13 (.quiet 14 (.alt 16 .done .stop)) .stop) .stop) .stop)) (.alt 12 (.alt 2 (.alt 7 (.alt 13 (.quiet 14 (.alt 16 .done .stop)) .stop) .stop) .stop) .stop)) .stop))) (.alt 12 (.alt 2 (.alt 6 (.alt 7 (.alt 13 (.first 14 (.alt 15 (.alt 16 .done .stop) .stop)) (.alt 15 (.alt 13 (.quiet 14 (.alt 16 .done .stop)) .stop) .stop)) (.alt 15 (.alt 7 (.alt 13 (.quiet 14 (.alt 16 .done .stop)) .stop) .stop) .stop)) (.alt 15 (.alt 6 (.alt 7 (.alt 13 (.quiet 14 (.alt 16 .done .stop)) .stop) .stop) .stop) .stop)) (.alt 6 (.alt 2 (.alt 7 (.alt 13 (.first 14 (.alt 15 (.alt 16 .done .stop) .stop)) (.alt 15 (.alt 13 (.quiet 14 (.alt 16 .done .stop)) .stop) .stop)) (.alt 15 (.alt 7 (.alt 13 (.quiet 14 (.alt 16 .done .stop)) .stop) .stop) .stop)) (.alt 15 (.alt 2 (.alt 7 (.alt 13 (.quiet 14 (.alt 16 .done .stop)) .stop) .stop) .stop) .stop)) (.alt 15 (.alt 2 (.alt 6 (.alt 7 (.alt 13 (.quiet 14 (.alt 16 .done .stop)) .stop) .stop) .stop) (.alt 6 (.alt 2 (.alt 7 (.alt 13 (.quiet 14 (.alt 16 .done .stop)) .stop) .stop) .stop) .stop)) .stop))) (.alt 15 (.alt 2 (.alt 6 (.alt 7 (.alt 12 (.alt 13 (.quiet 14 (.alt 16 .done .stop)) .stop) .stop) (.alt 12 (.alt 7 (.alt 13 (.quiet 14 (.alt 16 .done .stop)) .stop) .stop) .stop)) (.alt 12 (.alt 6 (.alt 7 (.alt 13 (.quiet 14 (.alt 16 .done .stop)) .stop) .stop) .stop) .stop)) (.alt 6 (.alt 2 (.alt 7 (.alt 12 (.alt 13 (.quiet 14 (.alt 16 .done .stop)) .stop) .stop) (.alt 12 (.alt 7 (.alt 13 (.quiet 14 (.alt 16 .done .stop)) .stop) .stop) .stop)) (.alt 12 (.alt 2 (.alt 7 (.alt 13 (.quiet 14 (.alt 16 .done .stop)) .stop) .stop) .stop) .stop)) (.alt 12 (.alt 2 (.alt 6 (.alt 7 (.alt 13 (.quiet 14 (.alt 16 .done .stop)) .stop) .stop) .stop) (.alt 6 (.alt 2 (.alt 7 (.alt 13 (.quiet 14 (.alt 16 .done .stop)) .stop) .stop) .stop) .stop)) .stop))) .stop)))))))))))) else if i = 10 then .quiet 0 (.quiet 1 (.quiet 2 (.quiet 3 (.quiet 4 (.quiet 5 (.alt 6 (.quiet 7 (.quiet 8 (.quiet 9 (.quiet 10 (.quiet 11 .done))))) .stop)))))) else .done
def qhP : Nat → Nm := fun i => if i = 8 then qtp else ⟨[], [], false⟩
def qeX : Nat → Option Jn := fun i => if i = 9 then some (.nm qu4) else none
def qiR : Nat → Option Nm := fun i => if i = 0 then some quC else none
def qjE : Nat → Option Nm := fun i => if i = 9 then some quW else none
theorem q1N : qj qf1 (Tryz.f217.body.getD .skip) = true := by kernel_rfl
def qbI (N : Nat) : Tab := { tr := qf1, lp := qhP, ex := qiR, rg := qjE, jn := qeX, fuel := N }
theorem qp7 (N : Nat) : (qbI N).pins = false := rfl
theorem q4g (N : Nat) : qk Tryz.prog (qbI N) := fun id j t h ht => by
  have h : qeX id = _ := h
  unfold qeX at h
  repeat' split at h
  all_goals first | (simp at h; done) | (simp only [Option.some.injEq] at h; subst h; simp [Jn.tb] at ht; done) | (simp only [Option.some.injEq] at h; subst h; simp only [Jn.tb, Option.some.injEq] at ht; subst ht; exact hTH)
theorem qnX (N : Nat) (i : Nat) : (qbI N).tr i = qf1 i := rfl
theorem qnH (N : Nat) (i : Nat) : (qbI N).lp i = qhP i := rfl
theorem qse (N : Nat) (i : Nat) : (qbI N).ex i = qiR i := rfl
theorem qro (N : Nat) (i : Nat) : (qbI N).rg i = qjE i := rfl
theorem ql4 (N : Nat) (i : Nat) : (qbI N).jn i = qeX i := rfl
theorem qtK (N : Nat) : (qbI N).fuel = N := rfl
noncomputable def qQE : Code := cut [true, true, true, true, true, false, true, true, true, true, true, false] (Tryz.f217.body.getD .skip)
theorem q6W {N : Nat} {Q : X → St → Option (qb [i33, i4])} {e : List LV} {h : List Blk} : qas tt qde (qbI N) qQE Q ⟨e, h⟩ = qas tt qde (qbI N) (cut [true, true, true, true, true, false, true, true, true, true, true, false] (Tryz.f217.body.getD .skip)) Q ⟨e, h⟩ := rfl
theorem qX9 (N : Nat) (v15 : Int) (v16 : Int) (v17 : List (Val qa)) (v18 : Int) (v19 : Int) (v20 : List (Val qa)) {k9009 : (List (Val qa)) → Option (qb [i33, i4])} {Q : X → St → Option (qb [i33, i4])} {c : Code} (hc : c = qQE) (h9009 : ∀ (v21 : List (Val qa)), Q .normal ⟨[u, .one (.ptr 0 0 0), .one (.ptr 1 0 0), u, u, u, .one (.ptr 2 0 0), .one (.int .i64 v15), .one (.ptr 3 0 0), u, u, u, u, u, u, u, u, u, u, u, u, u, u, u, u, u, u, u, u, u, u, u, u, u, u, u, u, u, u, u, u, u, u, u, u, u, u, u, u, u, u, u, u, u, u, u, u, u, u, u, u, u, u, u], [.box [.int .i64 v16, .sl 108 qa v17 6], .box [.int .i64 v18, .nils], .box [.int .i64 v19, .own 4], .box [.int .i64 v16, .own 5], .row 108 qa v20 true false 0, .row 108 qa v21 false true 6]⟩ = k9009 v21) : qas tt qde (qbI N) c Q ⟨[u, .one (.ptr 0 0 0), .one (.ptr 1 0 0), u, u, u, .one (.ptr 2 0 0), .one (.int .i64 v15), u, u, u, u, u, u, u, u, u, u, u, u, u, u, u, u, u, u, u, u, u, u, u, u, u, u, u, u, u, u, u, u, u, u, u, u, u, u, u, u, u, u, u, u, u, u, u, u, u, u, u, u, u, u, u, u], [.box [.int .i64 v16, .sl 108 qa v17 4], .box [.int .i64 v18, .nils], .box [.int .i64 v19, .own 3], .row 108 qa v20 true false 0]⟩ = qvB N v15 v16 v17 v18 v19 v20 k9009 N := by
  subst hc; rw [q6W, qvB]; unfold Tryz.f217
  simp (maxSteps := 10000000) -implicitDefEqProofs [qah (id := 9), qak (id := 9), qnX, qf1, qnH, qhP, qse, qiR, qro, qjE, ql4, qeX, qtK, qp7, qUX, qoW, qpx, qqc, qpR, qmV, qtc, qqy, qrd, qov, qpG, qpA, qrT, qqI, qod, qsZ, qr0, qdk, qcM, qgF, qfX, h9009]
noncomputable def qQ3 : Code := cut [true, true, true, true, true, false, true, true, true] (Tryz.f217.body.getD .skip)
theorem qY1 {N : Nat} {Q : X → St → Option (qb [i33, i4])} {e : List LV} {h : List Blk} : qf tt qde (qbI N) qQ3 Q ⟨e, h⟩ = qf tt qde (qbI N) (cut [true, true, true, true, true, false, true, true, true] (Tryz.f217.body.getD .skip)) Q ⟨e, h⟩ := rfl
theorem zby (N : Nat) (v2 : Int) (v3 : List (Val qa)) (v4 : Int) {k0 : Int → (List (Val qa)) → Option (qb [i33, i4])} {Q : X → St → Option (qb [i33, i4])} {c : Code} (hc : c = qQ3) (hret : ∀ st, Q .ret st = qE tt true [i33, i4] [.cell 2 33, .tmp 3] st) (h0 : ∀ (v23 : Int) (v24 : List (Val qa)), Q (.exit 0) ⟨[u, u, .one (.ptr 0 0 0), u, u, u, .one (.ptr 1 0 0), u, u, u, u, u, u, u, u, u, u, u, u, u, u, u, u, u, u, u, u, u, u, u, u, u, u, u, u, u, u, u, u, u, u, u, u, u, u, u, u, u, u, u, u, u, u, u, u, u, u, u, u, u, u, u, u, u], [.box [.int .i64 v4, .nils], .box [.int .i64 v23, .own 2], .row 108 qa v24 true false 0]⟩ = k0 v23 v24) : ∀ (n : Nat) (v1 : Int) (v5 : Int) (v6 : List (Val qa)), qF (qf tt qde (qbI N) c) false qtp Q n ⟨[u, .one (.ptr 0 0 0), .one (.ptr 1 0 0), u, u, u, .one (.ptr 2 0 0), .one (.int .i64 v1), u, u, u, u, u, u, u, u, u, u, u, u, u, u, u, u, u, u, u, u, u, u, u, u, u, u, u, u, u, u, u, u, u, u, u, u, u, u, u, u, u, u, u, u, u, u, u, u, u, u, u, u, u, u, u, u], [.box [.int .i64 v2, .sl 108 qa v3 4], .box [.int .i64 v4, .nils], .box [.int .i64 v5, .own 3], .row 108 qa v6 true false 0]⟩ = qe1 N v2 v3 v4 k0 n v1 v5 v6 := by
  subst hc; intro n; induction n with
  | zero => intros; rfl
  | succ n ih =>
    intro v1 v5 v6
    rw [qM, qY1]; unfold Tryz.f217
    simp (maxSteps := 10000000) -implicitDefEqProofs [qnX, qf1, qnH, qhP, qse, qiR, qro, qjE, ql4, qeX, qtK, qp7, qoW, qpx, qqc, qpR, qmV, qtc, qqy, qrd, qov, qpG, qpA, qrT, qqI, qod, qsZ, qr0, qdk, qcM, qgF, qfX, hret, h0, ih]
    rewrite [qX9 (k9009 := (fun (v22 : List (Val qa)) => chk (0 ≤ v1 ∧ v1 < (v6.length : Int)) (chk (v1.toNat < v6.length) (chk (qof (v2, v22) (v6.getD v1.toNat (qc qa))) (bif (!((qar (v2, v22) (v6.getD v1.toNat (qc qa))).2 : Bool)) then (some (((0 : Int), ([] : List (Val qa))), false, ())) else (bif ((qar (v2, v22) (v6.getD v1.toNat (qc qa))).1 : Bool) then (chk (qi3 (v2, v22)) (qe1 N v2 v3 v4 k0 n v1 ((cpC (v2, v22)).1 : Int) ((cpC (v2, v22)).2 : List (Val qa)))) else (qe1 N v2 v3 v4 k0 n (IntKind.i64.wrap (v1 + (1 : Int))) v5 v6))))))) N _ _ _ _ _ _ ?_ ?_]
    · rewrite [qe1]; first | rfl | simp (maxSteps := 10000000) -implicitDefEqProofs [ih]
    · rfl
    · intro v22; simp (maxSteps := 10000000) -implicitDefEqProofs [qnX, qf1, qnH, qhP, qse, qiR, qro, qjE, ql4, qeX, qtK, qp7, qoW, qpx, qqc, qpR, qmV, qtc, qqy, qrd, qov, qpG, qpA, qrT, qqI, qod, qsZ, qr0, qdk, qcM, qgF, qfX, hret, h0, ih]
theorem zcG (N : Nat) (v0 : Val Y33) : qf tt qde (qbI N) (Tryz.f217.body.getD .skip) (qm tt true [i33, i4] [.cell 2 33, .tmp 3]) (qq [i33] 64 (v0, ())) = qwm N v0 := by
  unfold Tryz.f217
  simp (maxSteps := 10000000) -implicitDefEqProofs [qnX, qf1, qnH, qhP, qse, qiR, qro, qjE, ql4, qeX, qtK, qp7, qoW, qpx, qqc, qpR, qmV, qtc, qqy, qrd, qov, qpG, qpA, qrT, qqI, qod, qsZ, qr0, qdk, qcM, qgF, qfX]
  rewrite [zby (k0 := (fun (v25 : Int) (v26 : List (Val qa)) => some ((v25, v26), true, ()))) N _ _ _ ?_ ?_ ?_]
  · rewrite [qwm]; first | rfl | simp (maxSteps := 10000000) -implicitDefEqProofs []
  · rfl
  · intro; simp only [qK, qJ, qL, qC]
  · intro v25 v26; simp (maxSteps := 10000000) -implicitDefEqProofs [qnX, qf1, qnH, qhP, qse, qiR, qro, qjE, ql4, qeX, qtK, qp7, qoW, qpx, qqc, qpR, qmV, qtc, qqy, qrd, qov, qpG, qpA, qrT, qqI, qod, qsZ, qr0, qdk, qcM, qgF, qfX]
end Go.T
