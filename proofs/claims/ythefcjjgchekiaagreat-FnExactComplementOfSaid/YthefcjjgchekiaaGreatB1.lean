/- Atoms: their directions, their order. -/
import Derived.Test.YthefcjjgchekiaaGreatA8a
set_option linter.unusedSimpArgs false
set_option linter.unusedVariables false
namespace Go.T
open Go Go.Proofs
set_option maxHeartbeats 4000000
set_option maxRecDepth 100000
abbrev atm (a : Val qa) : Atm := a
def okA (a : Val qa) : Prop := qD a = true
def qab (a : Val qa) : Bool := decide (gL 0 (atm a).1 ≠ 0)
def qkV (a : Val qa) : Prop := okA a
def gSv (a : Val qa) : Int := (gS (atm a) : Int)
def qei (a : Val qa) : Prop := okA a
def sgn (a b : Int) : Int := if a < b then -1 else if b < a then 1 else 0
def qa1 (a b : Val qa) : Int := way (atm a) (atm b)
def qc6 (a b : Val qa) : Prop := okA a ∧ okA b ∧ List.length (α := Int) a.1 = List.length (α := Int) b.1
def qhg (a b : Val qa) : Int := bif qD a && qD b && decide (List.length (α := Int) a.1 = List.length (α := Int) b.1) then qaI (atm a) (atm b) else 2
theorem qjC {a : Val qa} (h : okA a) : ∀ x ∈ (a.1 : List Int), inI x := fun x hx => by
  have h1 : @LE.le Int _ (-400000000) x ∧ @LE.le Int _ x 400000000 := (qa5 h).2.2 x hx
  unfold inI; omega
theorem qyP {a : Val qa} (h : okA a) : qee a.1 := ⟨by have := (qa5 h).1; omega, qjC h⟩
theorem qjT {a : Val qa} (h : okA a) : -400000000 ≤ (a.2.1 : Int) ∧ @LE.le Int _ a.2.1 400000000 := by
  have h : qD a = true := h
  unfold qD at h
  simp only [Bool.and_eq_true, decide_eq_true_eq] at h
  exact of_decide_eq_true h.1.1.2
theorem qR5 {a : Val qa} (h : okA a) (hv : qab a = true) : qiA (atm a) := by
  have h : qD a = true := h
  unfold qD at h
  simp only [Bool.and_eq_true, decide_eq_true_eq] at h
  have h2 := h.2
  exact ⟨of_decide_eq_true hv, by have h2 : ((gL (Int.natAbs a.2.1) a.1 : Nat) : Int) ≤ 1 := h2; show gL (Int.natAbs a.2.1) a.1 ≤ 1; omega⟩
theorem qxg {a : Val qa} (h : okA a) : gSv a ≤ 400000000 := by
  unfold gSv gS
  by_cases h0 : gL 0 (atm a).1 = 0
  · rw [h0]; decide
  · obtain ⟨x, hx, hne⟩ : ∃ x ∈ (atm a).1, x ≠ 0 := by
      apply Classical.byContradiction
      intro hn
      exact h0 (qBy.2 fun x hx => Classical.byContradiction fun hne => hn ⟨x, hx, hne⟩)
    have h1 := (qqS (atm a).1 0).2 x hx
    have h2 := Nat.le_of_dvd (by omega) h1
    have h3 : @LE.le Int _ (-400000000) x ∧ @LE.le Int _ x 400000000 := (qa5 h).2.2 x hx
    omega
theorem qY9 (p q : Int) : sgn p q = sgI (p - q) := by
  unfold sgn sgI
  split <;> split <;> (try split) <;> omega
theorem qzT {x y : Int} (h1 : -400000000 ≤ x ∧ x ≤ 400000000) (h2 : 0 ≤ y ∧ y ≤ 400000000) : IntKind.i64.wrap (x * y) = x * y := by
  have h : (x * y).natAbs ≤ 400000000 * 400000000 := by
    rw [Int.natAbs_mul]; exact Nat.mul_le_mul (by omega) (by omega)
  exact qaH (by omega) (by omega)
def qdu : G := { ps := [qi], rs := [i4], dp := true, pre := fun x => qkV x.1, fn := fun x => (qab x.1, ()) }
def qfy : G := { ps := [qi], rs := [i3], dp := true, pre := fun x => qei x.1, fn := fun x => (gSv x.1, ()) }
def qeU : G := { ps := [i3, i3], rs := [i3], dp := true, pre := fun _ => True, fn := fun x => (sgn x.1 x.2.1, ()) }
noncomputable def qyj (N : Nat) (v0 : Val qa) : Option (qb [i4]) := chk (qee (v0.1 : List (Val (.int .i64)))) (some ((!(decide (((qaB (v0.1 : List (Val (.int .i64)))) : Int) = (0 : Int)))), ()))
def qDb : Gam := [(282, qbk)]
theorem zd8 : Gam.get qDb 282 = some qbk := rfl
def qy5 : Nat → Tree := fun _ => .done
def qLS : Nat → Nm := fun _ => ⟨[], [], false⟩
def qEd : Nat → Option Jn := fun _ => none
def qMm : Nat → Option Nm := fun _ => none
def qM2 : Nat → Option Nm := fun _ => none
theorem q1s : qj qy5 (Tryz.f287.body.getD .skip) = true := by kernel_rfl
def qeM (N : Nat) : Tab := { tr := qy5, lp := qLS, ex := qMm, rg := qM2, jn := qEd, fuel := N }
theorem q5w (N : Nat) : (qeM N).pins = false := rfl
theorem q3a (N : Nat) : qk Tryz.prog (qeM N) := qp fun _ => rfl
theorem zfE (N : Nat) (i : Nat) : (qeM N).tr i = qy5 i := rfl
theorem za4 (N : Nat) (i : Nat) : (qeM N).lp i = qLS i := rfl
theorem qXf (N : Nat) (i : Nat) : (qeM N).ex i = qMm i := rfl
theorem zad (N : Nat) (i : Nat) : (qeM N).rg i = qM2 i := rfl
theorem zea (N : Nat) (i : Nat) : (qeM N).jn i = qEd i := rfl
theorem zcX (N : Nat) : (qeM N).fuel = N := rfl
theorem q97 (N : Nat) (v0 : Val qa) : qf tt qDb (qeM N) (Tryz.f287.body.getD .skip) (qm tt true [i4] [.tmp 2]) (qq [qi] 7 (v0, ())) = qyj N v0 := by
  rw [qyj]; unfold Tryz.f287
  simp (maxSteps := 10000000) -implicitDefEqProofs [zfE, qy5, za4, qLS, qXf, qMm, zad, qM2, zea, qEd, zcX, q5w, zd8, qbk]
  try rfl
noncomputable def qu7 (N : Nat) (v0 : Val qa) : Option (qb [i3]) := chk (qee (v0.1 : List (Val (.int .i64)))) (bif (decide (((qaB (v0.1 : List (Val (.int .i64)))) : Int) = (0 : Int))) then (some ((1 : Int), ())) else (some (((qaB (v0.1 : List (Val (.int .i64)))) : Int), ())))
def qIR : Gam := [(282, qbk)]
theorem qVy : Gam.get qIR 282 = some qbk := rfl
def qyi : Nat → Tree := fun _ => .done
def qEO : Nat → Nm := fun _ => ⟨[], [], false⟩
def qAV : Nat → Option Jn := fun _ => none
def qHR : Nat → Option Nm := fun _ => none
def qKH : Nat → Option Nm := fun _ => none
theorem zeu : qj qyi (Tryz.f318.body.getD .skip) = true := by kernel_rfl
def qdR (N : Nat) : Tab := { tr := qyi, lp := qEO, ex := qHR, rg := qKH, jn := qAV, fuel := N }
theorem q7w (N : Nat) : (qdR N).pins = false := rfl
theorem q0f (N : Nat) : qk Tryz.prog (qdR N) := qp fun _ => rfl
theorem qWA (N : Nat) (i : Nat) : (qdR N).tr i = qyi i := rfl
theorem q5f (N : Nat) (i : Nat) : (qdR N).lp i = qEO i := rfl
theorem zbE (N : Nat) (i : Nat) : (qdR N).ex i = qHR i := rfl
theorem q2x (N : Nat) (i : Nat) : (qdR N).rg i = qKH i := rfl
theorem zbh (N : Nat) (i : Nat) : (qdR N).jn i = qAV i := rfl
theorem q5Q (N : Nat) : (qdR N).fuel = N := rfl
theorem q55 (N : Nat) (v0 : Val qa) : qf tt qIR (qdR N) (Tryz.f318.body.getD .skip) (qm tt true [i3] [.tmp 2]) (qq [qi] 10 (v0, ())) = qu7 N v0 := by
  rw [qu7]; unfold Tryz.f318
  simp (maxSteps := 10000000) -implicitDefEqProofs [qWA, qyi, q5f, qEO, zbE, qHR, q2x, qKH, zbh, qAV, q5Q, q7w, qVy, qbk]
  try rfl
noncomputable def qw9 (N : Nat) (v0 : Int) (v1 : Int) : Option (qb [i3]) := bif (decide (v0 < v1)) then (some ((-1 : Int), ())) else (bif (decide (v1 < v0)) then (some ((1 : Int), ())) else (some ((0 : Int), ())))
def qUI : Gam := []
def qzx : Nat → Tree := fun _ => .done
def qKZ : Nat → Nm := fun _ => ⟨[], [], false⟩
def qHP : Nat → Option Jn := fun _ => none
def qDM : Nat → Option Nm := fun _ => none
def qEJ : Nat → Option Nm := fun _ => none
theorem ze9 : qj qzx (Tryz.f317.body.getD .skip) = true := by kernel_rfl
def qeE (N : Nat) : Tab := { tr := qzx, lp := qKZ, ex := qDM, rg := qEJ, jn := qHP, fuel := N }
theorem zc1 (N : Nat) : (qeE N).pins = false := rfl
theorem q0E (N : Nat) : qk Tryz.prog (qeE N) := qp fun _ => rfl
theorem zaY (N : Nat) (i : Nat) : (qeE N).tr i = qzx i := rfl
theorem q1D (N : Nat) (i : Nat) : (qeE N).lp i = qKZ i := rfl
theorem zcB (N : Nat) (i : Nat) : (qeE N).ex i = qDM i := rfl
theorem qWr (N : Nat) (i : Nat) : (qeE N).rg i = qEJ i := rfl
theorem zdv (N : Nat) (i : Nat) : (qeE N).jn i = qHP i := rfl
theorem q5E (N : Nat) : (qeE N).fuel = N := rfl
theorem qXY (N : Nat) (v0 : Int) (v1 : Int) : qf tt qUI (qeE N) (Tryz.f317.body.getD .skip) (qm tt true [i3] [.tmp 4]) (qq [i3, i3] 11 (v0, v1, ())) = qw9 N v0 v1 := by
  rw [qw9]; unfold Tryz.f317
  simp (maxSteps := 10000000) -implicitDefEqProofs [zaY, qzx, q1D, qKZ, zcB, qDM, qWr, qEJ, zdv, qHP, q5E, zc1]
  try rfl
theorem zfk (a : Val qa) (h : qkV a) : ∃ N, qyj N a = some (qab a, ()) := ⟨0, by
  rw [qyj, qe (qyP h)]
  unfold qab qaB
  have e : (((gL 0 (atm a).1 : Nat) : Int) = 0) ↔ (gL 0 (atm a).1 = 0) := by omega
  by_cases h0 : gL 0 (atm a).1 = 0
  · simp [h0]
  · simp [h0]⟩
theorem qWX (a : Val qa) (h : qei a) : ∃ N, qu7 N a = some (gSv a, ()) := ⟨0, by
  rw [qu7, qe (qyP h)]
  unfold gSv gS qaB
  by_cases h0 : gL 0 (atm a).1 = 0
  · rw [qn (by show ((gL 0 (atm a).1 : Nat) : Int) = 0; omega), h0]; rfl
  · rw [ql (by show ¬ ((gL 0 (atm a).1 : Nat) : Int) = 0; omega)]
    rw [Nat.max_eq_right (by omega)]⟩
theorem qYR (a b : Int) : ∃ N, qw9 N a b = some (sgn a b, ()) := ⟨0, by
  rw [qw9, sgn]
  by_cases h1 : a < b <;> by_cases h2 : b < a <;> simp [h1, h2]⟩
theorem qQC : Sound Tryz.prog 287 qdu := qt (tt := tt) (Γ := qDb) hT (qg qv1 qo) hm (fn := Tryz.f287) Tryz.func287 (c := Tryz.f287.body.getD .skip) (by kernel_rfl) (by kernel_rfl) fun x hx => by
  obtain ⟨N, h⟩ := zfk x.1 hx
  exact ⟨qeM N, q1s, qw _, q3a N, (q97 N x.1).trans h⟩
theorem qSO : Sound Tryz.prog 318 qfy := qt (tt := tt) (Γ := qIR) hT (qg qv1 qo) hm (fn := Tryz.f318) Tryz.func318 (c := Tryz.f318.body.getD .skip) (by kernel_rfl) (by kernel_rfl) fun x hx => by
  obtain ⟨N, h⟩ := qWX x.1 hx
  exact ⟨qdR N, zeu, qw _, q0f N, (q55 N x.1).trans h⟩
theorem qQ1 : Sound Tryz.prog 317 qeU := qt (tt := tt) (Γ := qUI) hT qo hm (fn := Tryz.f317) Tryz.func317 (c := Tryz.f317.body.getD .skip) (by kernel_rfl) (by kernel_rfl) fun x hx => by
  obtain ⟨N, h⟩ := qYR x.1 x.2.1
  exact ⟨qeE N, ze9, qw _, q0E N, (qXY N x.1 x.2.1).trans h⟩
def qdr : G := { ps := [qi, qi], rs := [i3], dp := true, pre := fun x => qc6 x.1 x.2.1, fn := fun x => (qa1 x.1 x.2.1, ()) }
noncomputable def qg7 (N : Nat) (v2 : Int) (v3 : Int) (v4 : Int) (v6 : List (Val (.int .i64))) (v7 : Int) (v8 : Bool) (v9 : List (Val (.int .i64))) (v10 : Int) (v11 : Bool) (k0 : Unit → Option (qb [i3])) : Nat → Int → Option (qb [i3])
  | 0, _ => none
  | n + 1, v5 => bif (decide (v5 < v4)) then (chk (0 ≤ v5 ∧ v5 < (v6.length : Int)) (chk (v2 ≠ 0) (chk (0 ≤ v5 ∧ v5 < (v9.length : Int)) (chk (v3 ≠ 0) (bif (!(decide (((sgn (IntKind.i64.wrap (((v6.getD v5.toNat (qc (.int .i64))) : Int).tdiv v2)) (IntKind.i64.wrap (((v9.getD v5.toNat (qc (.int .i64))) : Int).tdiv v3))) : Int) = (0 : Int)))) then (some (((sgn (IntKind.i64.wrap (((v6.getD v5.toNat (qc (.int .i64))) : Int).tdiv v2)) (IntKind.i64.wrap (((v9.getD v5.toNat (qc (.int .i64))) : Int).tdiv v3))) : Int), ())) else (qg7 N v2 v3 v4 v6 v7 v8 v9 v10 v11 k0 n (IntKind.i64.wrap (v5 + (1 : Int))))))))) else (k0 ())
noncomputable def qtQ (N : Nat) (v0 : Val qa) (v1 : Val qa) : Option (qb [i3]) := chk (qei v0) (chk (qei v1) (qg7 N ((gSv v0) : Int) ((gSv v1) : Int) ((v0.1 : List (Val (.int .i64))).length : Int) (v0.1 : List (Val (.int .i64))) (v0.2.1 : Int) (v0.2.2 : Bool) (v1.1 : List (Val (.int .i64))) (v1.2.1 : Int) (v1.2.2 : Bool) (fun (_ : Unit) => some ((0 : Int), ())) N (0 : Int)))
def qhi : Gam := [(317, qeU), (318, qfy)]
theorem qGC : Gam.get qhi 317 = some qeU := rfl
theorem qOS : Gam.get qhi 318 = some qfy := rfl
def qpU : Nm := ⟨[false, false, true, true, false, true, true, false, false, false, false, false, false, false, false, true, true], [], false⟩
theorem qJp : qpU.zero = false := rfl
theorem qL3 : qpU.fix = [] := rfl
theorem qAv : qpU.keep = [false, false, true, true, false, true, true, false, false, false, false, false, false, false, false, true, true] := rfl
def qxz : Nm := ⟨[], [], false⟩
theorem qQr : qxz.zero = false := rfl
theorem qNL : qxz.fix = [] := rfl
theorem qJD : qxz.keep = [] := rfl
def qug : Nm := ⟨[false, false, true, true, false, true, true], [], false⟩
theorem qL8 : qug.zero = false := rfl
theorem qEM : qug.fix = [] := rfl
theorem qAp : qug.keep = [false, false, true, true, false, true, true] := rfl
def qjO : Nat → Tree := fun i => if i = 1 then .quiet 0 (.alt 1 (.quiet 2 (.alt 3 (.quiet 4 (.quiet 5 .done)) .stop)) (.alt 2 (.alt 1 (.alt 3 (.quiet 4 (.quiet 5 .done)) .stop) .stop) .stop)) else if i = 5 then .quiet 0 (.quiet 1 (.quiet 2 (.quiet 3 (.quiet 4 (.quiet 5 (.quiet 6 (.quiet 7 (.quiet 8 (.quiet 9 (.quiet 10 (.quiet 11 (.quiet 12 (.quiet 13 (.alt 14 (.quiet 15 .done) .stop)))))))))))))) else .done
def qtt : Nat → Nm := fun i => if i = 3 then qpU else ⟨[], [], false⟩
def qm2 : Nat → Option Jn := fun _ => none
def qoj : Nat → Option Nm := fun i => if i = 0 then some qxz else none
def qpD : Nat → Option Nm := fun i => if i = 1 then some qug else none
theorem zeZ : qj qjO (Tryz.f290.body.getD .skip) = true := by kernel_rfl
def qcW (N : Nat) : Tab := { tr := qjO, lp := qtt, ex := qoj, rg := qpD, jn := qm2, fuel := N }
theorem qMf (N : Nat) : (qcW N).pins = false := rfl
theorem zeb (N : Nat) : qk Tryz.prog (qcW N) := qp fun _ => rfl
theorem qOs (N : Nat) (i : Nat) : (qcW N).tr i = qjO i := rfl
theorem qAm (N : Nat) (i : Nat) : (qcW N).lp i = qtt i := rfl
theorem qGD (N : Nat) (i : Nat) : (qcW N).ex i = qoj i := rfl
theorem qFv (N : Nat) (i : Nat) : (qcW N).rg i = qpD i := rfl
theorem qCs (N : Nat) (i : Nat) : (qcW N).jn i = qm2 i := rfl
theorem qI3 (N : Nat) : (qcW N).fuel = N := rfl
noncomputable def qTz : Code := cut [true, true, false, true, true, true] (Tryz.f290.body.getD .skip)
theorem q90 {N : Nat} {Q : X → St → Option (qb [i3])} {e : List LV} {h : List Blk} : qf tt qhi (qcW N) qTz Q ⟨e, h⟩ = qf tt qhi (qcW N) (cut [true, true, false, true, true, true] (Tryz.f290.body.getD .skip)) Q ⟨e, h⟩ := rfl
theorem q0V (N : Nat) (v2 : Int) (v3 : Int) (v4 : Int) (v6 : List (Val (.int .i64))) (v7 : Int) (v8 : Bool) (v9 : List (Val (.int .i64))) (v10 : Int) (v11 : Bool) {k0 : Unit → Option (qb [i3])} {Q : X → St → Option (qb [i3])} {c : Code} (hc : c = qTz) (hret : ∀ st, Q .ret st = qE tt true [i3] [.tmp 4] st) (h0 : Q (.exit 0) ⟨[u, u, u, u, u, u, u, u, u, u, u, u, u, u, u, u, u, u, u, u, u, u, u, u, u, u, u, u, u, u, u, u, u, u, u, u, u, u], []⟩ = k0 ()) : ∀ (n : Nat) (v5 : Int), qF (qf tt qhi (qcW N) c) false qpU Q n ⟨[u, u, .one (.ptr 0 0 0), .one (.ptr 1 0 0), u, .one (.int .i64 v2), .one (.int .i64 v3), u, u, u, u, u, u, u, u, .one (.int .i64 v4), .one (.int .i64 v5), u, u, u, u, u, u, u, u, u, u, u, u, u, u, u, u, u, u, u, u, u], [.box [.sl 3 (.int .i64) v6 2, .int .i64 v7, .bool v8], .box [.sl 3 (.int .i64) v9 2, .int .i64 v10, .bool v11]]⟩ = qg7 N v2 v3 v4 v6 v7 v8 v9 v10 v11 k0 n v5 := by
  subst hc; intro n; induction n with
  | zero => intros; rfl
  | succ n ih =>
    intro v5
    rw [qM, q90, qg7]; unfold Tryz.f290
    simp (maxSteps := 10000000) -implicitDefEqProofs [qOs, qjO, qAm, qtt, qGD, qoj, qFv, qpD, qCs, qm2, qI3, qMf, qL3, qAv, qJp, qNL, qJD, qQr, qEM, qAp, qL8, qGC, qOS, qeU, qfy, hret, h0, ih]
theorem zfu (N : Nat) (v0 : Val qa) (v1 : Val qa) : qf tt qhi (qcW N) (Tryz.f290.body.getD .skip) (qm tt true [i3] [.tmp 4]) (qq [qi, qi] 38 (v0, v1, ())) = qtQ N v0 v1 := by
  unfold Tryz.f290
  simp (maxSteps := 10000000) -implicitDefEqProofs [qOs, qjO, qAm, qtt, qGD, qoj, qFv, qpD, qCs, qm2, qI3, qMf, qL3, qAv, qJp, qNL, qJD, qQr, qEM, qAp, qL8, qGC, qOS, qeU, qfy]
  rewrite [q0V (k0 := (fun (_ : Unit) => some ((0 : Int), ()))) N _ _ _ _ _ _ _ _ _ ?_ ?_ ?_]
  · rewrite [qtQ]; first | rfl | simp (maxSteps := 10000000) -implicitDefEqProofs []
  · rfl
  · intro; simp only [qK, qJ, qL, qC]
  · simp (maxSteps := 10000000) -implicitDefEqProofs [qOs, qjO, qAm, qtt, qGD, qoj, qFv, qpD, qCs, qm2, qI3, qMf, qL3, qAv, qJp, qNL, qJD, qQr, qEM, qAp, qL8, qGC, qOS, qeU, qfy]
theorem qQY (N : Nat) (g h : Nat) (hg : (g : Int) ≠ 0) (hh : (h : Int) ≠ 0) (xs ys : List (Val (.int .i64))) (hl : xs.length = ys.length) (h4 : xs.length ≤ 1048576) (hx : ∀ x ∈ xs, inI x) (hy : ∀ x ∈ ys, inI x) (c c' : Int) (s s' : Bool) : ∀ (k i : Nat), xs.length - i = k → ∀ n, k < n →
    qg7 N g h xs.length xs c s ys c' s' (fun _ => some ((0 : Int), ())) n i = some (qaU ((List.drop (α := Int) i xs).map fun x => x.tdiv (g : Int)) ((List.drop (α := Int) i ys).map fun x => x.tdiv (h : Int)), ())
  | 0, i, hi, n + 1, _ => by
    rw [qg7, ql (by omega), List.drop_eq_nil_of_le (by omega), List.drop_eq_nil_of_le (by omega)]
    rfl
  | k + 1, i, hi, n + 1, hn => by
    have h1 : i < xs.length := by omega
    have h2 : i < ys.length := by omega
    rw [qg7, qn (by omega), qe (by omega), qe hg, qe (by omega), qe hh, qG h1, qG h2, qff (hx _ (List.getElem_mem h1)), qff (hy _ (List.getElem_mem h2)), qbD h1 h4]
    rw [List.drop_eq_getElem_cons h1, List.drop_eq_getElem_cons h2, List.map_cons, List.map_cons, qaU]
    generalize hp : Int.tdiv xs[i] (g : Int) = p
    generalize hq : Int.tdiv ys[i] (h : Int) = q
    unfold sgn
    by_cases a1 : p < q
    · simp [a1]
    · by_cases a2 : q < p
      · simp [a1, a2]
      · rw [if_neg a1, if_neg a2, if_neg a1, if_neg a2]
        simp only [decide_true, Bool.not_true, cond_false]
        exact qQY N g h hg hh xs ys hl h4 hx hy c c' s s' k (i + 1) (by omega) n (by omega)
theorem qWy (a b : Val qa) (h : qc6 a b) : ∃ N, qtQ N a b = some (qa1 a b, ()) := ⟨List.length (α := Val (.int .i64)) a.1 + 1, by
  obtain ⟨ha, hb, hl⟩ := h
  rw [qtQ, qe (show qei a from ha), qe (show qei b from hb)]
  have := qQY (List.length (α := Val (.int .i64)) a.1 + 1) (gS (atm a)) (gS (atm b)) (by have := qdi (atm a); omega) (by have := qdi (atm b); omega) a.1 b.1 hl (by have := (qa5 ha).1; omega) (qjC ha) (qjC hb) a.2.1 b.2.1 a.2.2 b.2.2 _ 0 rfl _ (Nat.lt_succ_self _)
  simp only [List.drop_zero] at this
  exact this⟩
theorem qUC : Sound Tryz.prog 290 qdr := qt (tt := tt) (Γ := qhi) hT (qg qQ1 (qg qSO qo)) hm (fn := Tryz.f290) Tryz.func290 (c := Tryz.f290.body.getD .skip) (by kernel_rfl) (by kernel_rfl) fun x hx => by
  obtain ⟨N, h⟩ := qWy x.1 x.2.1 hx
  exact ⟨qcW N, zeZ, qw _, zeb N, (zfu N x.1 x.2.1).trans h⟩
def q9A : G := { ps := [qi, qi], rs := [i3], dp := true, pre := fun _ => True, fn := fun x => (qhg x.1 x.2.1, ()) }
noncomputable def qx1 (N : Nat) (v0 : Val qa) (v1 : Val qa) : Option (qb [i3]) := bif (!((qD v0) : Bool)) then (some ((2 : Int), ())) else (bif (!((qD v1) : Bool)) then (some ((2 : Int), ())) else (bif (!(decide (((v0.1 : List (Val (.int .i64))).length : Int) = ((v1.1 : List (Val (.int .i64))).length : Int)))) then (some ((2 : Int), ())) else (chk (qc6 v0 v1) (bif (!(decide (((qa1 v0 v1) : Int) = (0 : Int)))) then (some (((qa1 v0 v1) : Int), ())) else (chk (qei v1) (chk (qei v0) (bif (!(decide (((sgn (IntKind.i64.wrap ((v0.2.1 : Int) * ((gSv v1) : Int))) (IntKind.i64.wrap ((v1.2.1 : Int) * ((gSv v0) : Int)))) : Int) = (0 : Int)))) then (some (((sgn (IntKind.i64.wrap ((v0.2.1 : Int) * ((gSv v1) : Int))) (IntKind.i64.wrap ((v1.2.1 : Int) * ((gSv v0) : Int)))) : Int), ())) else (bif ((v0.2.2 : Bool) == (v1.2.2 : Bool)) then (some ((0 : Int), ())) else (bif (v0.2.2 : Bool) then (some ((1 : Int), ())) else (some ((-1 : Int), ())))))))))))
def qjM : Gam := [(279, qaD), (290, qdr), (317, qeU), (318, qfy)]
theorem q3q : Gam.get qjM 279 = some qaD := rfl
theorem q7o : Gam.get qjM 290 = some qdr := rfl
theorem q4V : Gam.get qjM 317 = some qeU := rfl
theorem q9q : Gam.get qjM 318 = some qfy := rfl
def qw3 : Nat → Tree := fun i => if i = 6 then .quiet 2 (.keep 0 (.keep 1 (.keep 5 (.keep 6 (.keep 7 (.alt 3 (.first 4 (.alt 8 (.quiet 9 (.alt 10 (.quiet 11 .done) .stop)) .stop)) .stop)))))) else .done
def qPv : Nat → Nm := fun _ => ⟨[], [], false⟩
def qNk : Nat → Option Jn := fun _ => none
def qHr : Nat → Option Nm := fun _ => none
def qK7 : Nat → Option Nm := fun _ => none
theorem qYa : qj qw3 (Tryz.f289.body.getD .skip) = true := by kernel_rfl
def qeC (N : Nat) : Tab := { tr := qw3, lp := qPv, ex := qHr, rg := qK7, jn := qNk, fuel := N }
theorem zdZ (N : Nat) : (qeC N).pins = false := rfl
theorem zb4 (N : Nat) : qk Tryz.prog (qeC N) := qp fun _ => rfl
theorem q9B (N : Nat) (i : Nat) : (qeC N).tr i = qw3 i := rfl
theorem q63 (N : Nat) (i : Nat) : (qeC N).lp i = qPv i := rfl
theorem q3A (N : Nat) (i : Nat) : (qeC N).ex i = qHr i := rfl
theorem q42 (N : Nat) (i : Nat) : (qeC N).rg i = qK7 i := rfl
theorem zfe (N : Nat) (i : Nat) : (qeC N).jn i = qNk i := rfl
theorem q5v (N : Nat) : (qeC N).fuel = N := rfl
theorem zaq (N : Nat) (v0 : Val qa) (v1 : Val qa) : qf tt qjM (qeC N) (Tryz.f289.body.getD .skip) (qm tt true [i3] [.tmp 4]) (qq [qi, qi] 51 (v0, v1, ())) = qx1 N v0 v1 := by
  rw [qx1]; unfold Tryz.f289
  simp (maxSteps := 10000000) -implicitDefEqProofs [q9B, qw3, q63, qPv, q3A, qHr, q42, qK7, zfe, qNk, q5v, zdZ, q3q, q7o, q4V, q9q, qaD, qdr, qeU, qfy]
  try rfl
theorem q2R (a b : Val qa) : ∃ N, qx1 N a b = some (qhg a b, ()) := ⟨0, by
  rw [qx1, qhg]
  cases ha : qD a with
  | false => simp
  | true =>
    cases hb : qD b with
    | false => simp
    | true =>
      by_cases hl : List.length (α := Int) a.1 = List.length (α := Int) b.1
      · have hl' : ((List.length (α := Val (.int .i64)) a.1 : Nat) : Int) = (List.length (α := Val (.int .i64)) b.1 : Nat) := by exact_mod_cast hl
        have h1 := qjT ha
        have h2 := qjT hb
        have g1 := qxg ha
        have g2 := qxg hb
        have p1 := qdi (atm a)
        have p2 := qdi (atm b)
        simp only [hl, decide_true, Bool.and_self, cond_true, Bool.not_true, cond_false]
        rw [qe (show qc6 a b from ⟨ha, hb, hl⟩), qe (show qei b from hb), qe (show qei a from ha)]
        rw [qzT h1 ⟨by unfold gSv; omega, g2⟩, qzT h2 ⟨by unfold gSv; omega, g1⟩, qY9]
        have e1 : sgI (a.2.1 * gSv b - b.2.1 * gSv a) = qfe (atm a) (atm b) := rfl
        rw [e1]
        unfold qaI qa1
        by_cases w0 : way (atm a) (atm b) = 0
        · by_cases s0 : qfe (atm a) (atm b) = 0
          · simp only [w0, s0, decide_true, Bool.not_true, cond_false, if_true]
            unfold stc
            cases a.2.2 <;> cases b.2.2 <;> rfl
          · simp [w0, s0]
        · simp [w0]
      · have hl' : ¬ ((List.length (α := Val (.int .i64)) a.1 : Nat) : Int) = (List.length (α := Val (.int .i64)) b.1 : Nat) := by exact_mod_cast hl
        simp only [hl, decide_false, Bool.and_false, cond_false, Bool.not_true]
        rw [qaP, ql hl']⟩
theorem q1V : Sound Tryz.prog 289 q9A := qt (tt := tt) (Γ := qjM) hT (qg qnP (qg qUC (qg qQ1 (qg qSO qo)))) hm (fn := Tryz.f289) Tryz.func289 (c := Tryz.f289.body.getD .skip) (by kernel_rfl) (by kernel_rfl) fun x hx => by
  obtain ⟨N, h⟩ := q2R x.1 x.2.1
  exact ⟨qeC N, qYa, qw _, zb4 N, (zaq N x.1 x.2.1).trans h⟩
def qaQ (d : Int) : Val Y33 := (d, [(List.replicate d.toNat (0 : Int), (1 : Int), false)])
def qcV (d : Int) : Prop := 0 ≤ d ∧ d ≤ 1048576
def idL (l : List (Val (.int .i64))) : List (Val (.int .i64)) := l
def qpv (l : List (Val (.int .i64))) : Prop := l.length ≤ 1048576
def idA (a : Val qa) : Val qa := a
def qba (a : Val qa) : Prop := List.length (α := Val (.int .i64)) a.1 ≤ 1048576
def qbS : G := { ps := [i3], rs := [i33], dp := true, pre := fun x => qcV x.1, fn := fun x => (qaQ x.1, ()) }
def quT : G := { ps := [i25], rs := [i25], dp := true, pre := fun x => qpv x.1, fn := fun x => (idL x.1, ()) }
noncomputable def qvA (N : Nat) (v0 : Int) : Option (qb [i33]) := chk (0 ≤ v0 ∧ v0 ≤ v0 ∧ v0 ≤ 1048576) (some ((v0, ([((List.replicate v0.toNat (qc (.int .i64))), (1 : Int), false)] : List (Val qa))), ()))
def qQy : Gam := []
def qz8 : Nat → Tree := fun _ => .done
def qE7 : Nat → Nm := fun _ => ⟨[], [], false⟩
def qDa : Nat → Option Jn := fun _ => none
def qQt : Nat → Option Nm := fun _ => none
def qFj : Nat → Option Nm := fun _ => none
theorem q51 : qj qz8 (Tryz.f213.body.getD .skip) = true := by kernel_rfl
def qeA (N : Nat) : Tab := { tr := qz8, lp := qE7, ex := qQt, rg := qFj, jn := qDa, fuel := N }
theorem q7P (N : Nat) : (qeA N).pins = false := rfl
theorem q0b (N : Nat) : qk Tryz.prog (qeA N) := qp fun _ => rfl
theorem zb8 (N : Nat) (i : Nat) : (qeA N).tr i = qz8 i := rfl
theorem q8K (N : Nat) (i : Nat) : (qeA N).lp i = qE7 i := rfl
theorem qVr (N : Nat) (i : Nat) : (qeA N).ex i = qQt i := rfl
theorem q34 (N : Nat) (i : Nat) : (qeA N).rg i = qFj i := rfl
theorem q82 (N : Nat) (i : Nat) : (qeA N).jn i = qDa i := rfl
theorem q04 (N : Nat) : (qeA N).fuel = N := rfl
theorem zda (N : Nat) (v0 : Int) : qf tt qQy (qeA N) (Tryz.f213.body.getD .skip) (qm tt true [i33] [.cell 2 33]) (qq [i3] 9 (v0, ())) = qvA N v0 := by
  rw [qvA]; unfold Tryz.f213
  simp (maxSteps := 10000000) -implicitDefEqProofs [zb8, qz8, q8K, qE7, qVr, qQt, q34, qFj, q82, qDa, q04, q7P]
  try rfl
noncomputable def qyf (N : Nat) (v0 : List (Val (.int .i64))) : Option (qb [i25]) := chk (([] : List (Val (.int .i64))).length + v0.length ≤ 1048576) (some ((([] : List (Val (.int .i64))) ++ v0), ()))
def qVa : Gam := []
def qvL : Nat → Tree := fun _ => .done
def qDD : Nat → Nm := fun _ => ⟨[], [], false⟩
def qIa : Nat → Option Jn := fun _ => none
def qCL : Nat → Option Nm := fun _ => none
def qH0 : Nat → Option Nm := fun _ => none
theorem q6T : qj qvL (Tryz.f238.body.getD .skip) = true := by kernel_rfl
def qd1 (N : Nat) : Tab := { tr := qvL, lp := qDD, ex := qCL, rg := qH0, jn := qIa, fuel := N }
theorem zbY (N : Nat) : (qd1 N).pins = false := rfl
theorem q6o (N : Nat) : qk Tryz.prog (qd1 N) := qp fun _ => rfl
theorem qXN (N : Nat) (i : Nat) : (qd1 N).tr i = qvL i := rfl
theorem zdK (N : Nat) (i : Nat) : (qd1 N).lp i = qDD i := rfl
theorem qYO (N : Nat) (i : Nat) : (qd1 N).ex i = qCL i := rfl
theorem q5S (N : Nat) (i : Nat) : (qd1 N).rg i = qH0 i := rfl
theorem q1M (N : Nat) (i : Nat) : (qd1 N).jn i = qIa i := rfl
theorem qXE (N : Nat) : (qd1 N).fuel = N := rfl
theorem q6s (N : Nat) (v0 : List (Val (.int .i64))) : qf tt qVa (qd1 N) (Tryz.f238.body.getD .skip) (qm tt true [i25] [.tmp 2]) (qq [i25] 6 (v0, ())) = qyf N v0 := by
  rw [qyf]; unfold Tryz.f238
  simp (maxSteps := 10000000) -implicitDefEqProofs [qXN, qvL, zdK, qDD, qYO, qCL, q5S, qH0, q1M, qIa, qXE, zbY]
  try rfl
theorem zb6 (d : Int) (h : qcV d) : ∃ N, qvA N d = some (qaQ d, ()) := ⟨0, by
  rw [qvA, qe ⟨h.1, Int.le_refl _, h.2⟩]; rfl⟩
theorem q9T (l : List (Val (.int .i64))) (h : qpv l) : ∃ N, qyf N l = some (idL l, ()) := ⟨0, by
  rw [qyf, qe (by simpa [qpv] using h)]; rfl⟩
theorem qTM : Sound Tryz.prog 213 qbS := qt (tt := tt) (Γ := qQy) hT qo hm (fn := Tryz.f213) Tryz.func213 (c := Tryz.f213.body.getD .skip) (by kernel_rfl) (by kernel_rfl) fun x hx => by
  obtain ⟨N, h⟩ := zb6 x.1 hx
  exact ⟨qeA N, q51, qw _, q0b N, (zda N x.1).trans h⟩
theorem q9I : Sound Tryz.prog 238 quT := qt (tt := tt) (Γ := qVa) hT qo hm (fn := Tryz.f238) Tryz.func238 (c := Tryz.f238.body.getD .skip) (by kernel_rfl) (by kernel_rfl) fun x hx => by
  obtain ⟨N, h⟩ := q9T x.1 hx
  exact ⟨qd1 N, q6T, qw _, q6o N, (q6s N x.1).trans h⟩
def qgk : G := { ps := [qi], rs := [qi], dp := true, pre := fun x => qba x.1, fn := fun x => (idA x.1, ()) }
noncomputable def qvf (N : Nat) (v0 : Val qa) : Option (qb [qi]) := chk (qpv (v0.1 : List (Val (.int .i64)))) (some ((((idL (v0.1 : List (Val (.int .i64)))) : List (Val (.int .i64))), (v0.2.1 : Int), (v0.2.2 : Bool)), ()))
def qF9 : Gam := [(238, quT)]
theorem zdR : Gam.get qF9 238 = some quT := rfl
def qxy : Nm := ⟨[false, false, true], [], false⟩
theorem q27 : qxy.zero = false := rfl
theorem q93 : qxy.fix = [] := rfl
theorem q2I : qxy.keep = [false, false, true] := rfl
def qwf : Nat → Tree := fun i => if i = 1 then .quiet 0 (.quiet 1 (.alt 2 (.quiet 3 (.quiet 4 (.quiet 5 (.quiet 6 (.quiet 7 (.alt 8 .done .stop)))))) (.alt 3 (.alt 2 (.quiet 4 (.quiet 5 (.quiet 6 (.quiet 7 (.alt 8 .done .stop))))) (.alt 4 (.alt 2 (.quiet 5 (.quiet 6 (.quiet 7 (.alt 8 .done .stop)))) (.alt 5 (.alt 2 (.quiet 6 (.quiet 7 (.alt 8 .done .stop))) (.alt 6 (.alt 2 (.quiet 7 (.alt 8 .done .stop)) .stop) .stop)) .stop)) (.alt 5 (.alt 2 (.quiet 4 (.quiet 6 (.quiet 7 (.alt 8 .done .stop)))) (.alt 4 (.alt 2 (.quiet 6 (.quiet 7 (.alt 8 .done .stop))) (.alt 6 (.alt 2 (.quiet 7 (.alt 8 .done .stop)) .stop) .stop)) (.alt 6 (.alt 2 (.quiet 4 (.quiet 7 (.alt 8 .done .stop))) (.alt 4 (.alt 2 (.quiet 7 (.alt 8 .done .stop)) .stop) .stop)) .stop))) .stop))) (.alt 5 (.alt 2 (.quiet 3 (.quiet 4 (.quiet 6 (.quiet 7 (.alt 8 .done .stop))))) (.alt 3 (.alt 2 (.quiet 4 (.quiet 6 (.quiet 7 (.alt 8 .done .stop)))) (.alt 4 (.alt 2 (.quiet 6 (.quiet 7 (.alt 8 .done .stop))) (.alt 6 (.alt 2 (.quiet 7 (.alt 8 .done .stop)) .stop) .stop)) (.alt 6 (.alt 2 (.quiet 4 (.quiet 7 (.alt 8 .done .stop))) (.alt 4 (.alt 2 (.quiet 7 (.alt 8 .done .stop)) .stop) .stop)) .stop))) (.alt 6 (.alt 2 (.quiet 3 (.quiet 4 (.quiet 7 (.alt 8 .done .stop)))) (.alt 3 (.alt 2 (.quiet 4 (.quiet 7 (.alt 8 .done .stop))) (.alt 4 (.alt 2 (.quiet 7 (.alt 8 .done .stop)) .stop) .stop)) .stop)) .stop))) .stop)))) else .done
def qJz : Nat → Nm := fun _ => ⟨[], [], false⟩
def qIz : Nat → Option Jn := fun _ => none
def qDR : Nat → Option Nm := fun _ => none
def qEe : Nat → Option Nm := fun i => if i = 1 then some qxy else none
theorem za1 : qj qwf (Tryz.f236.body.getD .skip) = true := by kernel_rfl
def qeF (N : Nat) : Tab := { tr := qwf, lp := qJz, ex := qDR, rg := qEe, jn := qIz, fuel := N }
theorem zcN (N : Nat) : (qeF N).pins = false := rfl
theorem zbG (N : Nat) : qk Tryz.prog (qeF N) := qp fun _ => rfl
theorem q6Y (N : Nat) (i : Nat) : (qeF N).tr i = qwf i := rfl
theorem qYH (N : Nat) (i : Nat) : (qeF N).lp i = qJz i := rfl
theorem q6Z (N : Nat) (i : Nat) : (qeF N).ex i = qDR i := rfl
theorem q6N (N : Nat) (i : Nat) : (qeF N).rg i = qEe i := rfl
theorem q2t (N : Nat) (i : Nat) : (qeF N).jn i = qIz i := rfl
theorem qVD (N : Nat) : (qeF N).fuel = N := rfl
theorem zfy (N : Nat) (v0 : Val qa) : qf tt qF9 (qeF N) (Tryz.f236.body.getD .skip) (qm tt true [qi] [.cell 2 108]) (qq [qi] 11 (v0, ())) = qvf N v0 := by
  rw [qvf]; unfold Tryz.f236
  simp (maxSteps := 10000000) -implicitDefEqProofs [q6Y, qwf, qYH, qJz, q6Z, qDR, q6N, qEe, q2t, qIz, qVD, zcN, q93, q2I, q27, zdR, quT]
  try rfl
theorem qYy (a : Val qa) (h : qba a) : ∃ N, qvf N a = some (idA a, ()) := ⟨0, by
  rw [qvf, qe (show qpv a.1 from h)]; rfl⟩
theorem ze3 : Sound Tryz.prog 236 qgk := qt (tt := tt) (Γ := qF9) hT (qg q9I qo) hm (fn := Tryz.f236) Tryz.func236 (c := Tryz.f236.body.getD .skip) (by kernel_rfl) (by kernel_rfl) fun x hx => by
  obtain ⟨N, h⟩ := qYy x.1 hx
  exact ⟨qeF N, za1, qw _, zbG N, (zfy N x.1).trans h⟩
end Go.T
