/- Atoms of numbers; cells' bounds. -/
import Derived.Test.YthefcjjgchekiaaGreatA2
import Derived.Test.YthefcjjgchekiaaGreatA3
set_option linter.unusedSimpArgs false
set_option linter.unusedVariables false
namespace Go.T
open Go Go.Proofs
set_option maxHeartbeats 4000000
set_option maxRecDepth 100000
theorem qvE {ρ α β : Type} {f : α → β} {k : List β → Option ρ} : ∀ (xs : List α) (i : Nat) (s : List β), s.length + xs.length ≤ 1048576 → qS (fun _ x (s : List β) K => chk (s.length + [f x].length ≤ 1048576) (K (s ++ [f x]))) i xs s k = k (s ++ xs.map f)
  | [], _, s, _ => by rw [qS]; simp
  | x :: xs, i, s, h => by
    simp only [List.length_cons] at h
    rw [qS, qe (by simp; omega)]; dsimp only; rw [qvE xs (i + 1) _ (by simp; omega)]
    simp
theorem qff {x : Int} {g : Nat} (h : inI x) : IntKind.i64.wrap (x.tdiv (g : Int)) = x.tdiv (g : Int) := by
  have : (x.tdiv (g : Int)).natAbs ≤ x.natAbs := by
    rw [Int.natAbs_tdiv]; exact Nat.div_le_self _ _
  unfold inI at h
  exact qaH (by omega) (by omega)
def qEh (co : List (Val (.int .i64))) (k : Int) (s : Bool) (g : Nat) : Val qa × Bool :=
  bif qD (List.map (α := Int) (fun x => x.tdiv (g : Int)) co, k.tdiv (g : Int), s) then ((List.map (α := Int) (fun x => x.tdiv (g : Int)) co, k.tdiv (g : Int), s), true) else (([], (0 : Int), false), false)
def qv (co : List (Val (.int .i64))) (k : Int) (s : Bool) : Val qa × Bool := qEh co k s (max 1 (gL k.natAbs co))
def qaC (co : List (Val (.int .i64))) (k : Int) (_ : Bool) : Prop := qd7 co k
theorem qKb (co : List (Val (.int .i64))) (k : Int) (s : Bool) (g : Nat) (hg : g = max 1 (gL k.natAbs co)) : (bif !qD (List.map (α := Int) (fun x => x.tdiv (g : Int)) co, k.tdiv (g : Int), s) then some ((([] : List (Val (.int .i64))), (0 : Int), false), false, ()) else some ((List.map (α := Int) (fun x => x.tdiv (g : Int)) co, k.tdiv (g : Int), s), true, ())) = some ((qv co k s).1, (qv co k s).2, ()) := by
  rw [qv, ← hg, qEh, qaP]
  cases qD (List.map (α := Int) (fun x => x.tdiv (g : Int)) co, k.tdiv (g : Int), s) <;> rfl
noncomputable def qgv (N : Nat) (v3 : List (Val (.int .i64))) (v4 : Int) (v6 : Int) (v7 : Bool) (v8 : Int) (v9 : Bool) (k0 : (List (Val (.int .i64))) → Option (qb [qi, i4])) : Nat → Int → (List (Val (.int .i64))) → Option (qb [qi, i4])
  | 0, _, _ => none
  | n + 1, v5, v10 => bif (decide (v5 < (v3.length : Int))) then (chk (0 ≤ v5 ∧ v5 < (v3.length : Int)) (chk (v4 ≠ 0) (chk (v10.length + ([(IntKind.i64.wrap (((v3.getD v5.toNat (qc (.int .i64))) : Int).tdiv v4))] : List (Val (.int .i64))).length ≤ 1048576) (qgv N v3 v4 v6 v7 v8 v9 k0 n (IntKind.i64.wrap (v5 + (1 : Int))) (v10 ++ ([(IntKind.i64.wrap (((v3.getD v5.toNat (qc (.int .i64))) : Int).tdiv v4))] : List (Val (.int .i64)))))))) else (k0 v10)
noncomputable def qyU (N : Nat) (v0 : List (Val (.int .i64))) (v1 : Int) (v2 : Bool) : Option (qb [qi, i4]) := chk (qd7 v0 v1) (chk ((max (1 : Int) ((qbR v0 v1) : Int)) ≠ 0) (qgv N v0 (max (1 : Int) ((qbR v0 v1) : Int)) (0 : Int) false (IntKind.i64.wrap (v1.tdiv (max (1 : Int) ((qbR v0 v1) : Int)))) v2 (fun (v12 : List (Val (.int .i64))) => bif (!((qD (v12, (IntKind.i64.wrap (v1.tdiv (max (1 : Int) ((qbR v0 v1) : Int)))), v2)) : Bool)) then (some ((([] : List (Val (.int .i64))), (0 : Int), false), false, ())) else (some ((v12, (IntKind.i64.wrap (v1.tdiv (max (1 : Int) ((qbR v0 v1) : Int)))), v2), true, ()))) N (0 : Int) ([] : List (Val (.int .i64)))))
def qgS : Gam := [(193, qaY), (231, qcc)]
theorem qNb : Gam.get qgS 193 = some qaY := rfl
theorem qMt : Gam.get qgS 231 = some qcc := rfl
def qqn : Nm := ⟨[true, false, false, false, false, false, true, false, true, true, true], [.box 9 0 3 (.int .i64)], false⟩
theorem qHO : qqn.zero = false := rfl
theorem qN2 : qqn.fix = [.box 9 0 3 (.int .i64)] := rfl
theorem qDp : qqn.keep = [true, false, false, false, false, false, true, false, true, true, true] := rfl
def qwi : Nm := ⟨[false, false, false, false, false, false, true, false, false, true], [], false⟩
theorem qBe : qwi.zero = false := rfl
theorem qHM : qwi.fix = [] := rfl
theorem qPg : qwi.keep = [false, false, false, false, false, false, true, false, false, true] := rfl
def quF : Nm := ⟨[true, false, false, false, false, false, true, false, true, true, true], [], false⟩
theorem qIi : quF.zero = false := rfl
theorem qHQ : quF.fix = [] := rfl
theorem qKD : quF.keep = [true, false, false, false, false, false, true, false, true, true, true] := rfl
def qku : Nat → Tree := fun i => if i = 6 then .quiet 2 (.quiet 3 (.quiet 4 (.quiet 5 (.quiet 6 (.quiet 7 (.alt 0 (.alt 1 (.alt 8 (.alt 9 (.quiet 10 (.alt 11 .done .stop)) .stop) .stop) (.alt 8 (.quiet 1 (.alt 9 (.quiet 10 (.alt 11 .done .stop)) .stop)) .stop)) (.alt 8 (.quiet 0 (.quiet 1 (.alt 9 (.quiet 10 (.alt 11 .done .stop)) .stop))) .stop))))))) else .done
def qot : Nat → Nm := fun i => if i = 4 then qqn else ⟨[], [], false⟩
def qoo : Nat → Option Jn := fun _ => none
def qsT : Nat → Option Nm := fun i => if i = 0 then some qwi else none
def ql7 : Nat → Option Nm := fun i => if i = 6 then some quF else none
theorem q0H : qj qku (Tryz.f149.body.getD .skip) = true := by kernel_rfl
def qct (N : Nat) : Tab := { tr := qku, lp := qot, ex := qsT, rg := ql7, jn := qoo, fuel := N }
theorem qOm (N : Nat) : (qct N).pins = false := rfl
theorem zaj (N : Nat) : qk Tryz.prog (qct N) := qp fun _ => rfl
theorem qEf (N : Nat) (i : Nat) : (qct N).tr i = qku i := rfl
theorem qAj (N : Nat) (i : Nat) : (qct N).lp i = qot i := rfl
theorem qDW (N : Nat) (i : Nat) : (qct N).ex i = qsT i := rfl
theorem qBk (N : Nat) (i : Nat) : (qct N).rg i = ql7 i := rfl
theorem qB7 (N : Nat) (i : Nat) : (qct N).jn i = qoo i := rfl
theorem qAr (N : Nat) : (qct N).fuel = N := rfl
noncomputable def qSI : Code := cut [true, true, true, false, true, true, true] (Tryz.f149.body.getD .skip)
theorem q0d {N : Nat} {Q : X → St → Option (qb [qi, i4])} {e : List LV} {h : List Blk} : qf tt qgS (qct N) qSI Q ⟨e, h⟩ = qf tt qgS (qct N) (cut [true, true, true, false, true, true, true] (Tryz.f149.body.getD .skip)) Q ⟨e, h⟩ := rfl
theorem zfA (N : Nat) (v3 : List (Val (.int .i64))) (v4 : Int) (v6 : Int) (v7 : Bool) (v8 : Int) (v9 : Bool) {k0 : (List (Val (.int .i64))) → Option (qb [qi, i4])} {Q : X → St → Option (qb [qi, i4])} {c : Code} (hc : c = qSI) (hret : ∀ st, Q .ret st = qE tt true [qi, i4] [.cell 6 108, .tmp 7] st) (h0 : ∀ (v11 : List (Val (.int .i64))), Q (.exit 0) ⟨[u, u, u, u, u, u, .one (.ptr 0 0 0), u, u, .one (.ptr 1 0 0), u, u, u, u, u, u, u, u, u, u, u, u, u, u, u, u, u, u, u, u, u, u, u, u, u, u, u, u, u, u, u, u], [.box [.nils, .int .i64 v6, .bool v7], .box [.own 2, .int .i64 v8, .bool v9], .row 3 (.int .i64) v11 true true 0]⟩ = k0 v11) : ∀ (n : Nat) (v5 : Int) (v10 : List (Val (.int .i64))), qF (qf tt qgS (qct N) c) false qqn Q n ⟨[.one (.sl 3 (.int .i64) v3 3), u, u, u, u, u, .one (.ptr 0 0 0), u, .one (.int .i64 v4), .one (.ptr 1 0 0), .one (.int .i64 v5), u, u, u, u, u, u, u, u, u, u, u, u, u, u, u, u, u, u, u, u, u, u, u, u, u, u, u, u, u, u, u], [.box [.nils, .int .i64 v6, .bool v7], .box [.own 2, .int .i64 v8, .bool v9], .row 3 (.int .i64) v10 true true 0]⟩ = qgv N v3 v4 v6 v7 v8 v9 k0 n v5 v10 := by
  subst hc; intro n; induction n with
  | zero => intros; rfl
  | succ n ih =>
    intro v5 v10
    rw [qM, q0d, qgv]; unfold Tryz.f149
    simp (maxSteps := 10000000) -implicitDefEqProofs [qEf, qku, qAj, qot, qDW, qsT, qBk, ql7, qB7, qoo, qAr, qOm, qN2, qDp, qHO, qHM, qPg, qBe, qHQ, qKD, qIi, qNb, qMt, qaY, qcc, hret, h0, ih]
theorem qYt (N : Nat) (v0 : List (Val (.int .i64))) (v1 : Int) (v2 : Bool) : qf tt qgS (qct N) (Tryz.f149.body.getD .skip) (qm tt true [qi, i4] [.cell 6 108, .tmp 7]) (qq [i25, i3, i4] 42 (v0, v1, v2, ())) = qyU N v0 v1 v2 := by
  unfold Tryz.f149
  simp (maxSteps := 10000000) -implicitDefEqProofs [qEf, qku, qAj, qot, qDW, qsT, qBk, ql7, qB7, qoo, qAr, qOm, qN2, qDp, qHO, qHM, qPg, qBe, qHQ, qKD, qIi, qNb, qMt, qaY, qcc]
  rewrite [zfA (k0 := (fun (v12 : List (Val (.int .i64))) => bif (!((qD (v12, (IntKind.i64.wrap (v1.tdiv (max (1 : Int) ((qbR v0 v1) : Int)))), v2)) : Bool)) then (some ((([] : List (Val (.int .i64))), (0 : Int), false), false, ())) else (some ((v12, (IntKind.i64.wrap (v1.tdiv (max (1 : Int) ((qbR v0 v1) : Int)))), v2), true, ())))) N _ _ _ _ _ _ ?_ ?_ ?_]
  · rewrite [qyU]; first | rfl | simp (maxSteps := 10000000) -implicitDefEqProofs []
  · rfl
  · intro; simp only [qK, qJ, qL, qC]
  · intro v12; simp (maxSteps := 10000000) -implicitDefEqProofs [qEf, qku, qAj, qot, qDW, qsT, qBk, ql7, qB7, qoo, qAr, qOm, qN2, qDp, qHO, qHM, qPg, qBe, qHQ, qKD, qIi, qNb, qMt, qaY, qcc]
noncomputable def qe6 (N : Nat) (v3 : Int) (v4 : List (Val (.int .i64))) (v5 : Int) (v7 : Int) (v8 : Bool) (v9 : Int) (v10 : Bool) (k0 : (List (Val (.int .i64))) → Option (qb [qi, i4])) : Nat → Int → (List (Val (.int .i64))) → Option (qb [qi, i4])
  | 0, _, _ => none
  | n + 1, v6, v11 => bif (decide (v6 < v5)) then (chk (0 ≤ v6 ∧ v6 < (v4.length : Int)) (chk (v3 ≠ 0) (chk (0 ≤ v6 ∧ v6 < (v11.length : Int)) (chk (v6.toNat < v11.length) (qe6 N v3 v4 v5 v7 v8 v9 v10 k0 n (IntKind.i64.wrap (v6 + (1 : Int))) (v11.set v6.toNat (IntKind.i64.wrap (((v4.getD v6.toNat (qc (.int .i64))) : Int).tdiv v3)))))))) else (k0 v11)
noncomputable def qxB (N : Nat) (v0 : List (Val (.int .i64))) (v1 : Int) (v2 : Bool) : Option (qb [qi, i4]) := chk (qee v0) (chk (qdH ((qaB v0) : Int) v1) (bif (decide (((qbn ((qaB v0) : Int) v1) : Int) = (0 : Int))) then (chk ((1 : Int) ≠ 0) (chk (0 ≤ (v0.length : Int) ∧ (v0.length : Int) ≤ (v0.length : Int) ∧ (v0.length : Int) ≤ 1048576) (qe6 N (1 : Int) v0 (v0.length : Int) (0 : Int) false (IntKind.i64.wrap (v1.tdiv (1 : Int))) v2 (fun (v13 : List (Val (.int .i64))) => bif (!((qD (v13, (IntKind.i64.wrap (v1.tdiv (1 : Int))), v2)) : Bool)) then (some ((([] : List (Val (.int .i64))), (0 : Int), false), false, ())) else (some ((v13, (IntKind.i64.wrap (v1.tdiv (1 : Int))), v2), true, ()))) N (0 : Int) (List.replicate (v0.length : Int).toNat (qc (.int .i64)))))) else (chk (((qbn ((qaB v0) : Int) v1) : Int) ≠ 0) (chk (0 ≤ (v0.length : Int) ∧ (v0.length : Int) ≤ (v0.length : Int) ∧ (v0.length : Int) ≤ 1048576) (qe6 N ((qbn ((qaB v0) : Int) v1) : Int) v0 (v0.length : Int) (0 : Int) false (IntKind.i64.wrap (v1.tdiv ((qbn ((qaB v0) : Int) v1) : Int))) v2 (fun (v4 : List (Val (.int .i64))) => bif (!((qD (v4, (IntKind.i64.wrap (v1.tdiv ((qbn ((qaB v0) : Int) v1) : Int))), v2)) : Bool)) then (some ((([] : List (Val (.int .i64))), (0 : Int), false), false, ())) else (some ((v4, (IntKind.i64.wrap (v1.tdiv ((qbn ((qaB v0) : Int) v1) : Int))), v2), true, ()))) N (0 : Int) (List.replicate (v0.length : Int).toNat (qc (.int .i64))))))))
def qf3 : Gam := [(279, qaD), (280, qbA), (282, qbk)]
theorem qur : Gam.get qf3 279 = some qaD := rfl
theorem qwK : Gam.get qf3 280 = some qbA := rfl
theorem qt6 : Gam.get qf3 282 = some qbk := rfl
def qmZ : Nm := ⟨[false, false, false, false, false, false, true, false, true, true, false, false, false, false, false, false, false, false, false, false, false, false, false, false, false, false, true, true, true], [], false⟩
theorem qwr : qmZ.zero = false := rfl
theorem qt3 : qmZ.fix = [] := rfl
theorem qvk : qmZ.keep = [false, false, false, false, false, false, true, false, true, true, false, false, false, false, false, false, false, false, false, false, false, false, false, false, false, false, true, true, true] := rfl
def qyA : Nm := ⟨[false, false, false, false, false, false, true, false, false, true], [], false⟩
theorem qu5 : qyA.zero = false := rfl
theorem quV : qyA.fix = [] := rfl
theorem qzy : qyA.keep = [false, false, false, false, false, false, true, false, false, true] := rfl
def qzD : Nm := ⟨[true, false, false, false, false, false, true, false, true, true], [], false⟩
theorem qxj : qzD.zero = false := rfl
theorem quE : qzD.fix = [] := rfl
theorem qzt : qzD.keep = [true, false, false, false, false, false, true, false, true, true] := rfl
def qhu : Nat → Tree := fun i => if i = 4 then .first 0 (.first 3 (.first 4 (.first 5 (.first 6 (.grow 1 (.alt 2 (.first 7 (.alt 8 (.alt 9 .done .stop) .stop)) (.alt 8 (.alt 2 (.quiet 7 (.alt 9 .done .stop)) .stop) .stop))))))) else if i = 8 then .quiet 0 (.quiet 1 (.quiet 2 (.quiet 3 (.quiet 4 (.quiet 5 (.quiet 6 (.alt 7 .done .stop))))))) else .done
def qkJ : Nat → Nm := fun i => if i = 6 then qmZ else ⟨[], [], false⟩
def qkO : Nat → Option Jn := fun _ => none
def qjL : Nat → Option Nm := fun i => if i = 0 then some qyA else none
def qjK : Nat → Option Nm := fun i => if i = 4 then some qzD else none
theorem q50 : qj qhu (Tryz.f207.body.getD .skip) = true := by kernel_rfl
def qcC (N : Nat) : Tab := { tr := qhu, lp := qkJ, ex := qjL, rg := qjK, jn := qkO, fuel := N }
theorem qul (N : Nat) : (qcC N).pins = false := rfl
theorem q8V (N : Nat) : qk Tryz.prog (qcC N) := qp fun _ => rfl
theorem qud (N : Nat) (i : Nat) : (qcC N).tr i = qhu i := rfl
theorem qyD (N : Nat) (i : Nat) : (qcC N).lp i = qkJ i := rfl
theorem qzj (N : Nat) (i : Nat) : (qcC N).ex i = qjL i := rfl
theorem qzn (N : Nat) (i : Nat) : (qcC N).rg i = qjK i := rfl
theorem qxk (N : Nat) (i : Nat) : (qcC N).jn i = qkO i := rfl
theorem qzg (N : Nat) : (qcC N).fuel = N := rfl
noncomputable def qRE : Code := cut [true, true, true, true, false, true, true, true] (Tryz.f207.body.getD .skip)
theorem qWq {N : Nat} {Q : X → St → Option (qb [qi, i4])} {e : List LV} {h : List Blk} : qf tt qf3 (qcC N) qRE Q ⟨e, h⟩ = qf tt qf3 (qcC N) (cut [true, true, true, true, false, true, true, true] (Tryz.f207.body.getD .skip)) Q ⟨e, h⟩ := rfl
theorem qQL (N : Nat) (v3 : Int) (v4 : List (Val (.int .i64))) (v5 : Int) (v7 : Int) (v8 : Bool) (v9 : Int) (v10 : Bool) {k0 : (List (Val (.int .i64))) → Option (qb [qi, i4])} {Q : X → St → Option (qb [qi, i4])} {c : Code} (hc : c = qRE) (hret : ∀ st, Q .ret st = qE tt true [qi, i4] [.cell 6 108, .tmp 7] st) (h0 : ∀ (v12 : List (Val (.int .i64))), Q (.exit 0) ⟨[u, u, u, u, u, u, .one (.ptr 0 0 0), u, u, .one (.ptr 1 0 0), u, u, u, u, u, u, u, u, u, u, u, u, u, u, u, u, u, u, u, u, u, u, u, u, u, u, u, u, u, u, u, u, u, u, u, u], [.box [.nils, .int .i64 v7, .bool v8], .box [.own 2, .int .i64 v9, .bool v10], .row 3 (.int .i64) v12 true true 0]⟩ = k0 v12) : ∀ (n : Nat) (v6 : Int) (v11 : List (Val (.int .i64))), qF (qf tt qf3 (qcC N) c) false qmZ Q n ⟨[u, u, u, u, u, u, .one (.ptr 0 0 0), u, .one (.int .i64 v3), .one (.ptr 1 0 0), u, u, u, u, u, u, u, u, u, u, u, u, u, u, u, u, .one (.sl 3 (.int .i64) v4 3), .one (.int .i64 v5), .one (.int .i64 v6), u, u, u, u, u, u, u, u, u, u, u, u, u, u, u, u, u], [.box [.nils, .int .i64 v7, .bool v8], .box [.own 2, .int .i64 v9, .bool v10], .row 3 (.int .i64) v11 true true 0]⟩ = qe6 N v3 v4 v5 v7 v8 v9 v10 k0 n v6 v11 := by
  subst hc; intro n; induction n with
  | zero => intros; rfl
  | succ n ih =>
    intro v6 v11
    rw [qM, qWq, qe6]; unfold Tryz.f207
    simp (maxSteps := 10000000) -implicitDefEqProofs [qud, qhu, qyD, qkJ, qzj, qjL, qzn, qjK, qxk, qkO, qzg, qul, qt3, qvk, qwr, quV, qzy, qu5, quE, qzt, qxj, qur, qwK, qt6, qaD, qbA, qbk, hret, h0, ih]
theorem zaR (N : Nat) (v0 : List (Val (.int .i64))) (v1 : Int) (v2 : Bool) : qf tt qf3 (qcC N) (Tryz.f207.body.getD .skip) (qm tt true [qi, i4] [.cell 6 108, .tmp 7]) (qq [i25, i3, i4] 46 (v0, v1, v2, ())) = qxB N v0 v1 v2 := by
  unfold Tryz.f207
  simp (maxSteps := 10000000) -implicitDefEqProofs [qud, qhu, qyD, qkJ, qzj, qjL, qzn, qjK, qxk, qkO, qzg, qul, qt3, qvk, qwr, quV, qzy, qu5, quE, qzt, qxj, qur, qwK, qt6, qaD, qbA, qbk]
  rewrite [qQL (k0 := (fun (v13 : List (Val (.int .i64))) => bif (!((qD (v13, (IntKind.i64.wrap (v1.tdiv (1 : Int))), v2)) : Bool)) then (some ((([] : List (Val (.int .i64))), (0 : Int), false), false, ())) else (some ((v13, (IntKind.i64.wrap (v1.tdiv (1 : Int))), v2), true, ())))) N _ _ _ _ _ _ _ ?_ ?_ ?_]
  rewrite [qQL (k0 := (fun (v4 : List (Val (.int .i64))) => bif (!((qD (v4, (IntKind.i64.wrap (v1.tdiv ((qbn ((qaB v0) : Int) v1) : Int))), v2)) : Bool)) then (some ((([] : List (Val (.int .i64))), (0 : Int), false), false, ())) else (some ((v4, (IntKind.i64.wrap (v1.tdiv ((qbn ((qaB v0) : Int) v1) : Int))), v2), true, ())))) N _ _ _ _ _ _ _ ?_ ?_ ?_]
  · rewrite [qxB]; first | rfl | simp (maxSteps := 10000000) -implicitDefEqProofs []
  · rfl
  · intro; simp only [qK, qJ, qL, qC]
  · intro v4; simp (maxSteps := 10000000) -implicitDefEqProofs [qud, qhu, qyD, qkJ, qzj, qjL, qzn, qjK, qxk, qkO, qzg, qul, qt3, qvk, qwr, quV, qzy, qu5, quE, qzt, qxj, qur, qwK, qt6, qaD, qbA, qbk]
  · rfl
  · intro; simp only [qK, qJ, qL, qC]
  · intro v13; simp (maxSteps := 10000000) -implicitDefEqProofs [qud, qhu, qyD, qkJ, qzj, qjL, qzn, qjK, qxk, qkO, qzg, qul, qt3, qvk, qwr, quV, qzy, qu5, quE, qzt, qxj, qur, qwK, qt6, qaD, qbA, qbk]
def qke : G := { ps := [i25, i3, i4], rs := [qi, i4], dp := true, pre := fun x => qaC x.1 x.2.1 x.2.2.1, fn := fun x => ((qv x.1 x.2.1 x.2.2.1).1, (qv x.1 x.2.1 x.2.2.1).2, ()) }
def qkS : G := { ps := [i25, i3, i4], rs := [qi, i4], dp := true, pre := fun x => qaC x.1 x.2.1 x.2.2.1, fn := fun x => ((qv x.1 x.2.1 x.2.2.1).1, (qv x.1 x.2.1 x.2.2.1).2, ()) }
theorem q7f (N : Nat) (co : List (Val (.int .i64))) (g : Nat) (hg1 : (g : Int) ≠ 0) (a : Int) (b : Bool) (c : Int) (s : Bool) (K : List (Val (.int .i64)) → Option (qb [qi, i4])) (hl : co.length ≤ 1048576) (hx : ∀ x ∈ co, inI x) (n : Nat) (hn : co.length < n) :
    qgv N co (g : Int) a b c s K n 0 [] = K (List.map (α := Int) (fun x => x.tdiv (g : Int)) co) := by
  refine (qax (F := fun n i s' => qgv N co (g : Int) a b c s K n i s') (step := fun _ x (s : List (Val (.int .i64))) K => chk (s.length + [IntKind.i64.wrap (Int.tdiv x (g : Int))].length ≤ 1048576) (K (s ++ [IntKind.i64.wrap (Int.tdiv x (g : Int))]))) (k := K) hl (fun n i s' hi => ?_) (fun n i s' hi => ?_) n _ hn).trans ((qvE (f := fun x => IntKind.i64.wrap (Int.tdiv x (g : Int))) (k := K) co 0 [] (by simpa using hl)).trans ?_)
  · rw [qgv, qn (by omega), qe (by omega), qe hg1, qG hi]
  · rw [qgv, ql (by omega)]
  · have e : List.map (fun x => IntKind.i64.wrap (Int.tdiv x (g : Int))) co = List.map (α := Int) (fun x => x.tdiv (g : Int)) co := List.map_congr_left fun x hx' => qff (hx x hx')
    rw [List.nil_append, e]
theorem qW4 (co : List (Val (.int .i64))) (k : Int) (s : Bool) (h : qaC co k s) : ∃ N, qyU N co k s = some ((qv co k s).1, (qv co k s).2, ()) := ⟨co.length + 1, by
  obtain ⟨hl, hk, hx⟩ := h
  have hg : max (1 : Int) (qbR co k) = ((max 1 (gL k.natAbs co) : Nat) : Int) := by unfold qbR; omega
  rw [qyU, qe (show qd7 co k from ⟨hl, hk, hx⟩), hg, qe (by omega), qff hk]
  generalize hG : max 1 (gL k.natAbs co) = g
  have hg1 : (g : Int) ≠ 0 := by omega
  rw [q7f _ co g hg1 0 false _ s _ hl hx _ (Nat.lt_succ_self _)]
  exact qKb co k s g hG.symm⟩
theorem q59 : Sound Tryz.prog 149 qke := qt (tt := tt) (Γ := qgS) hT (qg qyJ (qg qKz qo)) hm (fn := Tryz.f149) Tryz.func149 (c := Tryz.f149.body.getD .skip) (by kernel_rfl) (by kernel_rfl) fun x hx => by
  obtain ⟨N, h⟩ := qW4 x.1 x.2.1 x.2.2.1 hx
  exact ⟨qct N, q0H, qw _, zaj N, (qYt N x.1 x.2.1 x.2.2.1).trans h⟩
theorem qQ4 (N : Nat) (co : List (Val (.int .i64))) (g : Nat) (hg1 : (g : Int) ≠ 0) (a : Int) (b : Bool) (c : Int) (s : Bool) (K : List (Val (.int .i64)) → Option (qb [qi, i4])) (hl : co.length ≤ 1048576) (hx : ∀ x ∈ co, inI x) (n : Nat) (hn : co.length < n) :
    qe6 N (g : Int) co co.length a b c s K n 0 (List.replicate co.length (qc (.int .i64))) = K (List.map (α := Int) (fun x => x.tdiv (g : Int)) co) := by
  have := qlR (xs := List.map (α := Int) (fun x => x.tdiv (g : Int)) co) (F := fun n i s' => qe6 N (g : Int) co co.length a b c s K n i s') (k := K) (qc (.int .i64)) (by simpa using hl) (fun n i s' hi hs => ?_) (fun n i s' hi => ?_) n (by simpa using hn)
  · simpa using this
  · have hi : i < co.length := by simpa using hi
    have hs : s'.length = co.length := by simpa using hs
    rw [qe6, qn (by omega), qe (by omega), qe hg1, qe (by omega), qe (by omega), qG hi, qff (hx _ (List.getElem_mem hi))]
    simp
  · have hi : co.length ≤ i := by simpa using hi
    rw [qe6, ql (by omega)]
theorem q3I (co : List (Val (.int .i64))) (k : Int) (s : Bool) (h : qaC co k s) : ∃ N, qxB N co k s = some ((qv co k s).1, (qv co k s).2, ()) := ⟨co.length + 1, by
  obtain ⟨hl, hk, hx⟩ := h
  have eg : qbn (qaB co) k = ((gL k.natAbs co : Nat) : Int) := by
    unfold qbn qaB
    rw [Int.natAbs_natCast, ← qzZ, Nat.gcd_zero_left]
  rw [qxB, qe (show qee co from ⟨hl, hx⟩), qe (show qdH (qaB co) k from ⟨qG5 co 0 (by omega) hx, hk⟩), eg, Int.toNat_natCast]
  by_cases h0 : gL k.natAbs co = 0
  · rw [qn (by omega), qe (by decide), qe (qg0 hl)]
    have e1 : ((1 : Nat) : Int) = 1 := rfl
    have := qff (g := 1) hk
    rw [e1] at this
    rw [this]
    have t := qQ4 (co.length + 1) co 1 (by decide) 0 false (k.tdiv 1) s (fun v => bif !qD (v, k.tdiv 1, s) then some ((([] : List (Val (.int .i64))), (0 : Int), false), false, ()) else some ((v, k.tdiv 1, s), true, ())) hl hx _ (Nat.lt_succ_self _)
    rw [e1] at t
    rw [t]
    exact qKb co k s 1 (by omega)
  · rw [ql (by omega), qe (by omega), qe (qg0 hl), qff hk]
    rw [qQ4 (co.length + 1) co (gL k.natAbs co) (by omega) 0 false _ s _ hl hx _ (Nat.lt_succ_self _)]
    exact qKb co k s _ (by omega)⟩
theorem qWW : Sound Tryz.prog 207 qkS := qt (tt := tt) (Γ := qf3) hT (qg qnP (qg qHX (qg qv1 qo))) hm (fn := Tryz.f207) Tryz.func207 (c := Tryz.f207.body.getD .skip) (by kernel_rfl) (by kernel_rfl) fun x hx => by
  obtain ⟨N, h⟩ := q3I x.1 x.2.1 x.2.2.1 hx
  exact ⟨qcC N, q50, qw _, q8V N, (zaR N x.1 x.2.1 x.2.2.1).trans h⟩
theorem qa5 {a : Val qa} (h : qD a = true) : (List.length (α := Int) a.1 ≤ 4) ∧ inI a.2.1 ∧ ∀ x ∈ (a.1 : List Int), -400000000 ≤ x ∧ x ≤ 400000000 := by
  unfold qD at h
  simp only [Bool.and_eq_true, decide_eq_true_eq] at h
  obtain ⟨⟨⟨h1, h2⟩, h3⟩, _⟩ := h
  exact ⟨h1, qnz h2, fun x hx => of_decide_eq_true (List.all_eq_true.1 h3 x hx)⟩
theorem qbi {c : Val Y33} (h : qz c = true) : (0 ≤ (c.1 : Int) ∧ (c.1 : Int) ≤ 4) ∧ List.length (α := Val qa) c.2 ≤ 16 ∧ ∀ a ∈ (c.2 : List (Val qa)), qD a = true ∧ (List.length (α := Val (.int .i64)) a.1 : Int) = (c.1 : Int) := by
  unfold qz at h
  simp only [Bool.and_eq_true, decide_eq_true_eq] at h
  obtain ⟨⟨h1, h2⟩, h3⟩ := h
  refine ⟨h1, by omega, fun a ha => ?_⟩
  have := List.all_eq_true.1 h3 a ha
  simp only [Bool.and_eq_true, decide_eq_true_eq] at this
  exact this
end Go.T
