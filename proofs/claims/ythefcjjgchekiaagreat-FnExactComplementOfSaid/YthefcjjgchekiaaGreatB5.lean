/- Normal cells: the reference's. -/
import Derived.Test.YthefcjjgchekiaaGreatB4
set_option linter.unusedSimpArgs false
set_option linter.unusedVariables false
namespace Go.T
open Go Go.Proofs
set_option maxHeartbeats 4000000
set_option maxRecDepth 100000
def qbQ (a : Val qa) : Bool := !qab a
def qk4 (a : Val qa) : Prop := okA a
def qgh (a : Val qa) : Bool := decide ((a.2.1 : Int) < 0) || (decide ((a.2.1 : Int) = 0) && !a.2.2)
def gLv (a : Val qa) : Int := (gL 0 (atm a).1 : Nat)
def qd9 (a : Val qa) : Prop := okA a
def qi4 (a b : Val qa) : Bool := decide (qaI (atm b) (atm a) ≤ 0)
def qnq (a b : Val qa) : Prop := okA a ∧ okA b ∧ way (atm b) (atm a) = 0
def qgb (l : List (Val qa)) (a : Val qa) : List (Val qa) := qaz l a
def qhn (l : List (Val qa)) (a : Val qa) : Prop := l.length ≤ 1048575 ∧ okA a ∧ ∀ b ∈ l, okA b ∧ List.length (α := Int) b.1 = List.length (α := Int) a.1
theorem zfi (c : Int) (h s : Bool) : (!h && (decide (0 < c) || (decide (c = 0) && s))) = (!h && !(decide (c < 0) || (decide (c = 0) && !s))) := by
  by_cases h1 : c < 0
  · have h2 : ¬ (0 : Int) < c := by omega
    have h3 : ¬ c = 0 := by omega
    simp [h1, h2, h3]
  · by_cases h2 : c = 0
    · simp [h2]
    · have h3 : (0 : Int) < c := by omega
      simp [h1, h2, h3]
theorem zbP (p q : Int) (s t : Bool) : decide ((if sgI (p - q) = 0 then (if t = s then 0 else if t then 1 else -1) else sgI (p - q)) ≤ (0 : Int)) = (decide (p < q) || (decide (q = p) && (s || !t))) := by
  unfold sgI
  by_cases c1 : p < q
  · have c2 : p - q < 0 := by omega
    simp [c1, c2]
  · by_cases c2 : q = p
    · subst c2
      cases s <;> cases t <;> simp
    · have c3 : ¬ p - q < 0 := by omega
      have c4 : 0 < p - q := by omega
      rw [if_neg c3, if_pos c4, if_neg (by omega)]
      simp [c1, c2]
theorem q2u (a : Val qa) : qci a = (qbQ a && !qgh a) := zfi a.2.1 (qab a) a.2.2
def qfp : G := { ps := [qi], rs := [i4], dp := true, pre := fun x => qk4 x.1, fn := fun x => (qbQ x.1, ()) }
noncomputable def qf0 (N : Nat) (v2 : List (Val (.int .i64))) (v3 : Int) (v4 : Bool) (k0 : Unit → Option (qb [i4])) : Nat → Int → Option (qb [i4])
  | 0, _ => none
  | n + 1, v1 => bif (decide (v1 < (v2.length : Int))) then (chk (0 ≤ v1 ∧ v1 < (v2.length : Int)) (bif (!(decide (((v2.getD v1.toNat (qc (.int .i64))) : Int) = (0 : Int)))) then (some (false, ())) else (qf0 N v2 v3 v4 k0 n (IntKind.i64.wrap (v1 + (1 : Int)))))) else (k0 ())
noncomputable def qw7 (N : Nat) (v0 : Val qa) : Option (qb [i4]) := qf0 N (v0.1 : List (Val (.int .i64))) (v0.2.1 : Int) (v0.2.2 : Bool) (fun (_ : Unit) => some (true, ())) N (0 : Int)
def qsh : Gam := []
def qpr : Nm := ⟨[false, true, false, true], [], false⟩
theorem qCm : qpr.zero = false := rfl
theorem qM7 : qpr.fix = [] := rfl
theorem qHE : qpr.keep = [false, true, false, true] := rfl
def qxT : Nm := ⟨[], [], false⟩
theorem qJE : qxT.zero = false := rfl
theorem qCn : qxT.fix = [] := rfl
theorem qIC : qxT.keep = [] := rfl
def qlt : Nat → Tree := fun _ => .done
def qsB : Nat → Nm := fun i => if i = 2 then qpr else ⟨[], [], false⟩
def qsK : Nat → Option Jn := fun _ => none
def qqE : Nat → Option Nm := fun i => if i = 0 then some qxT else none
def qqL : Nat → Option Nm := fun _ => none
theorem q3s : qj qlt (Tryz.f229.body.getD .skip) = true := by kernel_rfl
def qcS (N : Nat) : Tab := { tr := qlt, lp := qsB, ex := qqE, rg := qqL, jn := qsK, fuel := N }
theorem qIX (N : Nat) : (qcS N).pins = false := rfl
theorem q1L (N : Nat) : qk Tryz.prog (qcS N) := qp fun _ => rfl
theorem qM5 (N : Nat) (i : Nat) : (qcS N).tr i = qlt i := rfl
theorem qPI (N : Nat) (i : Nat) : (qcS N).lp i = qsB i := rfl
theorem qCz (N : Nat) (i : Nat) : (qcS N).ex i = qqE i := rfl
theorem qNO (N : Nat) (i : Nat) : (qcS N).rg i = qqL i := rfl
theorem qA5 (N : Nat) (i : Nat) : (qcS N).jn i = qsK i := rfl
theorem qC8 (N : Nat) : (qcS N).fuel = N := rfl
noncomputable def qSV : Code := cut [true, false, true, true, true] (Tryz.f229.body.getD .skip)
theorem qZc {N : Nat} {Q : X → St → Option (qb [i4])} {e : List LV} {h : List Blk} : qf tt qsh (qcS N) qSV Q ⟨e, h⟩ = qf tt qsh (qcS N) (cut [true, false, true, true, true] (Tryz.f229.body.getD .skip)) Q ⟨e, h⟩ := rfl
theorem q4m (N : Nat) (v2 : List (Val (.int .i64))) (v3 : Int) (v4 : Bool) {k0 : Unit → Option (qb [i4])} {Q : X → St → Option (qb [i4])} {c : Code} (hc : c = qSV) (hret : ∀ st, Q .ret st = qE tt true [i4] [.tmp 2] st) (h0 : Q (.exit 0) ⟨[u, u, u, u, u, u, u, u, u, u, u, u, u, u, u, u, u], []⟩ = k0 ()) : ∀ (n : Nat) (v1 : Int), qF (qf tt qsh (qcS N) c) false qpr Q n ⟨[u, .one (.ptr 0 0 0), u, .one (.int .i64 v1), u, u, u, u, u, u, u, u, u, u, u, u, u], [.box [.sl 3 (.int .i64) v2 1, .int .i64 v3, .bool v4]]⟩ = qf0 N v2 v3 v4 k0 n v1 := by
  subst hc; intro n; induction n with
  | zero => intros; rfl
  | succ n ih =>
    intro v1
    rw [qM, qZc, qf0]; unfold Tryz.f229
    simp (maxSteps := 10000000) -implicitDefEqProofs [qM5, qlt, qPI, qsB, qCz, qqE, qNO, qqL, qA5, qsK, qC8, qIX, qM7, qHE, qCm, qCn, qIC, qJE, hret, h0, ih]
theorem zem (N : Nat) (v0 : Val qa) : qf tt qsh (qcS N) (Tryz.f229.body.getD .skip) (qm tt true [i4] [.tmp 2]) (qq [qi] 17 (v0, ())) = qw7 N v0 := by
  unfold Tryz.f229
  simp (maxSteps := 10000000) -implicitDefEqProofs [qM5, qlt, qPI, qsB, qCz, qqE, qNO, qqL, qA5, qsK, qC8, qIX, qM7, qHE, qCm, qCn, qIC, qJE]
  rewrite [q4m (k0 := (fun (_ : Unit) => some (true, ()))) N _ _ _ ?_ ?_ ?_]
  · rewrite [qw7]; first | rfl | simp (maxSteps := 10000000) -implicitDefEqProofs []
  · rfl
  · intro; simp only [qK, qJ, qL, qC]
  · simp (maxSteps := 10000000) -implicitDefEqProofs [qM5, qlt, qPI, qsB, qCz, qqE, qNO, qqL, qA5, qsK, qC8, qIX, qM7, qHE, qCm, qCn, qIC, qJE]
noncomputable def qzh (N : Nat) (v0 : Val qa) : Option (qb [i4]) := bif (decide ((v0.2.1 : Int) < (0 : Int))) then (some (true, ())) else (bif (decide ((v0.2.1 : Int) = (0 : Int))) then (some ((!(v0.2.2 : Bool)), ())) else (some (false, ())))
def qVc : Gam := []
def qvI : Nat → Tree := fun _ => .done
def qNq : Nat → Nm := fun _ => ⟨[], [], false⟩
def qOr : Nat → Option Jn := fun _ => none
def qB6 : Nat → Option Nm := fun _ => none
def qLZ : Nat → Option Nm := fun _ => none
theorem q0z : qj qvI (Tryz.f232.body.getD .skip) = true := by kernel_rfl
def qef (N : Nat) : Tab := { tr := qvI, lp := qNq, ex := qB6, rg := qLZ, jn := qOr, fuel := N }
theorem zcl (N : Nat) : (qef N).pins = false := rfl
theorem q6V (N : Nat) : qk Tryz.prog (qef N) := qp fun _ => rfl
theorem zcR (N : Nat) (i : Nat) : (qef N).tr i = qvI i := rfl
theorem q9K (N : Nat) (i : Nat) : (qef N).lp i = qNq i := rfl
theorem qZ8 (N : Nat) (i : Nat) : (qef N).ex i = qB6 i := rfl
theorem q4X (N : Nat) (i : Nat) : (qef N).rg i = qLZ i := rfl
theorem q7l (N : Nat) (i : Nat) : (qef N).jn i = qOr i := rfl
theorem qYi (N : Nat) : (qef N).fuel = N := rfl
theorem qXC (N : Nat) (v0 : Val qa) : qf tt qVc (qef N) (Tryz.f232.body.getD .skip) (qm tt true [i4] [.tmp 2]) (qq [qi] 16 (v0, ())) = qzh N v0 := by
  rw [qzh]; unfold Tryz.f232
  simp (maxSteps := 10000000) -implicitDefEqProofs [zcR, qvI, q9K, qNq, qZ8, qB6, q4X, qLZ, q7l, qOr, qYi, zcl]
  try rfl
theorem q0C (N : Nat) (xs : List (Val (.int .i64))) (c : Int) (b : Bool) (K : Unit → Option (qb [i4])) (hl : xs.length ≤ 1048576) (n : Nat) (hn : xs.length < n) : qf0 N xs c b K n 0 = bif List.all (α := Int) xs (fun x => decide (x = 0)) then K () else some (false, ()) :=
  (qax (F := fun n i (_ : Unit) => qf0 N xs c b K n i) (step := fun _ x _ K => bif decide (x = 0) then K () else some (false, ())) (k := K) hl (fun n i s hi => by rw [qf0, qn (by omega), qe (by omega), qG hi, qaP]) (fun n i s hi => by rw [qf0, ql (by omega)]) n () hn).trans (qfz xs 0)
theorem q2y (a : Val qa) (h : qk4 a) : ∃ N, qw7 N a = some (qbQ a, ()) := ⟨List.length (α := Val (.int .i64)) a.1 + 1, by
  have h4 := (qa5 h).1
  rw [qw7, q0C _ _ _ _ _ (by omega) _ (Nat.lt_succ_self _)]
  have e : qbQ a = List.all (α := Int) a.1 (fun x => decide (x = 0)) := by
    unfold qbQ qab
    rw [Bool.eq_iff_iff]
    simp only [Bool.not_eq_true', decide_eq_false_iff_not, List.all_eq_true, decide_eq_true_eq, Decidable.not_not, ne_eq]
    exact qBy
  rw [e]
  cases List.all (α := Int) a.1 (fun x => decide (x = 0)) <;> rfl⟩
theorem qUN : Sound Tryz.prog 229 qfp := qt (tt := tt) (Γ := qsh) hT qo hm (fn := Tryz.f229) Tryz.func229 (c := Tryz.f229.body.getD .skip) (by kernel_rfl) (by kernel_rfl) fun x hx => by
  obtain ⟨N, h⟩ := q2y x.1 hx
  exact ⟨qcS N, q3s, qw _, q1L N, (zem N x.1).trans h⟩
def qlo : G := { ps := [qi], rs := [i4], dp := true, pre := fun _ => True, fn := fun x => (qgh x.1, ()) }
theorem zaH (a : Val qa) : ∃ N, qzh N a = some (qgh a, ()) := ⟨0, by
  rw [qzh, qgh]
  by_cases h1 : (a.2.1 : Int) < 0 <;> by_cases h2 : (a.2.1 : Int) = 0 <;> simp [h1, h2]⟩
theorem q4K : Sound Tryz.prog 232 qlo := qt (tt := tt) (Γ := qVc) hT qo hm (fn := Tryz.f232) Tryz.func232 (c := Tryz.f232.body.getD .skip) (by kernel_rfl) (by kernel_rfl) fun x hx => by
  obtain ⟨N, h⟩ := zaH x.1
  exact ⟨qef N, q0z, qw _, q6V N, (qXC N x.1).trans h⟩
def qfx : G := { ps := [qi], rs := [i3], dp := true, pre := fun x => qd9 x.1, fn := fun x => (gLv x.1, ()) }
noncomputable def qww (N : Nat) (v0 : Val qa) : Option (qb [i3]) := chk (qd7 (v0.1 : List (Val (.int .i64))) (0 : Int)) (some (((qbR (v0.1 : List (Val (.int .i64))) (0 : Int)) : Int), ()))
def qDC : Gam := [(231, qcc)]
theorem q9X : Gam.get qDC 231 = some qcc := rfl
def qzz : Nat → Tree := fun _ => .done
def qHv : Nat → Nm := fun _ => ⟨[], [], false⟩
def qGE : Nat → Option Jn := fun _ => none
def qG4 : Nat → Option Nm := fun _ => none
def qHA : Nat → Option Nm := fun _ => none
theorem q9G : qj qzz (Tryz.f319.body.getD .skip) = true := by kernel_rfl
def qex (N : Nat) : Tab := { tr := qzz, lp := qHv, ex := qG4, rg := qHA, jn := qGE, fuel := N }
theorem zcV (N : Nat) : (qex N).pins = false := rfl
theorem qVG (N : Nat) : qk Tryz.prog (qex N) := qp fun _ => rfl
theorem q4M (N : Nat) (i : Nat) : (qex N).tr i = qzz i := rfl
theorem q02 (N : Nat) (i : Nat) : (qex N).lp i = qHv i := rfl
theorem zcF (N : Nat) (i : Nat) : (qex N).ex i = qG4 i := rfl
theorem zaL (N : Nat) (i : Nat) : (qex N).rg i = qHA i := rfl
theorem q4h (N : Nat) (i : Nat) : (qex N).jn i = qGE i := rfl
theorem zbz (N : Nat) : (qex N).fuel = N := rfl
theorem q6g (N : Nat) (v0 : Val qa) : qf tt qDC (qex N) (Tryz.f319.body.getD .skip) (qm tt true [i3] [.tmp 2]) (qq [qi] 6 (v0, ())) = qww N v0 := by
  rw [qww]; unfold Tryz.f319
  simp (maxSteps := 10000000) -implicitDefEqProofs [q4M, qzz, q02, qHv, zcF, qG4, zaL, qHA, q4h, qGE, zbz, zcV, q9X, qcc]
  try rfl
theorem q8X (a : Val qa) (h : qd9 a) : ∃ N, qww N a = some (gLv a, ()) := ⟨0, by
  rw [qww, qe (show qd7 a.1 0 from ⟨(qyP h).1, by unfold inI; omega, (qyP h).2⟩)]; rfl⟩
theorem qTv : Sound Tryz.prog 319 qfx := qt (tt := tt) (Γ := qDC) hT (qg qKz qo) hm (fn := Tryz.f319) Tryz.func319 (c := Tryz.f319.body.getD .skip) (by kernel_rfl) (by kernel_rfl) fun x hx => by
  obtain ⟨N, h⟩ := q8X x.1 hx
  exact ⟨qex N, q9G, qw _, qVG N, (q6g N x.1).trans h⟩
theorem qzl (a : Val qa) : max (1 : Int) (gLv a) = gSv a := by unfold gLv gSv gS; omega
noncomputable def qgY (N : Nat) (v2 : Int) (v3 : Int) (v5 : List (Val (.int .i64))) (v6 : Int) (v7 : Bool) (v8 : List (Val (.int .i64))) (v9 : Int) (v10 : Bool) (k0 : Unit → Option (qb [i3])) : Nat → Int → Option (qb [i3])
  | 0, _ => none
  | n + 1, v4 => bif (decide (v4 < (v5.length : Int))) then (bif (decide (v4 < (v8.length : Int))) then (chk (0 ≤ v4 ∧ v4 < (v5.length : Int)) (chk (v2 ≠ 0) (chk (0 ≤ v4 ∧ v4 < (v8.length : Int)) (chk (v3 ≠ 0) (bif (!(decide ((IntKind.i64.wrap (((v5.getD v4.toNat (qc (.int .i64))) : Int).tdiv v2)) = (IntKind.i64.wrap (((v8.getD v4.toNat (qc (.int .i64))) : Int).tdiv v3))))) then (bif (decide ((IntKind.i64.wrap (((v5.getD v4.toNat (qc (.int .i64))) : Int).tdiv v2)) < (IntKind.i64.wrap (((v8.getD v4.toNat (qc (.int .i64))) : Int).tdiv v3)))) then (some ((-1 : Int), ())) else (some ((1 : Int), ()))) else (qgY N v2 v3 v5 v6 v7 v8 v9 v10 k0 n (IntKind.i64.wrap (v4 + (1 : Int))))))))) else (k0 ())) else (k0 ())
noncomputable def qtV (N : Nat) (v0 : Val qa) (v1 : Val qa) : Option (qb [i3]) := chk (qd9 v0) (chk (qd9 v1) (qgY N (max (1 : Int) ((gLv v0) : Int)) (max (1 : Int) ((gLv v1) : Int)) (v0.1 : List (Val (.int .i64))) (v0.2.1 : Int) (v0.2.2 : Bool) (v1.1 : List (Val (.int .i64))) (v1.2.1 : Int) (v1.2.2 : Bool) (fun (_ : Unit) => some ((0 : Int), ())) N (0 : Int)))
def qli : Gam := [(319, qfx)]
theorem qFB : Gam.get qli 319 = some qfx := rfl
def qni : Nm := ⟨[false, false, true, true, false, true, true, true], [], false⟩
theorem qL7 : qni.zero = false := rfl
theorem qOz : qni.fix = [] := rfl
theorem qN6 : qni.keep = [false, false, true, true, false, true, true, true] := rfl
def qv6 : Nm := ⟨[], [], false⟩
theorem qFk : qv6.zero = false := rfl
theorem qMM : qv6.fix = [] := rfl
theorem qEt : qv6.keep = [] := rfl
def qlI : Nat → Tree := fun _ => .done
def qm5 : Nat → Nm := fun i => if i = 4 then qni else ⟨[], [], false⟩
def qqV : Nat → Option Jn := fun _ => none
def qnO : Nat → Option Nm := fun i => if i = 0 then some qv6 else none
def qnx : Nat → Option Nm := fun _ => none
theorem q0y : qj qlI (Tryz.f291.body.getD .skip) = true := by kernel_rfl
def qcX (N : Nat) : Tab := { tr := qlI, lp := qm5, ex := qnO, rg := qnx, jn := qqV, fuel := N }
theorem qHY (N : Nat) : (qcX N).pins = false := rfl
theorem q8p (N : Nat) : qk Tryz.prog (qcX N) := qp fun _ => rfl
theorem qK1 (N : Nat) (i : Nat) : (qcX N).tr i = qlI i := rfl
theorem qHT (N : Nat) (i : Nat) : (qcX N).lp i = qm5 i := rfl
theorem qPC (N : Nat) (i : Nat) : (qcX N).ex i = qnO i := rfl
theorem qJn (N : Nat) (i : Nat) : (qcX N).rg i = qnx i := rfl
theorem qFP (N : Nat) (i : Nat) : (qcX N).jn i = qqV i := rfl
theorem qER (N : Nat) : (qcX N).fuel = N := rfl
noncomputable def qTW : Code := cut [true, true, true, false, true, true, true] (Tryz.f291.body.getD .skip)
theorem zbu {N : Nat} {Q : X → St → Option (qb [i3])} {e : List LV} {h : List Blk} : qf tt qli (qcX N) qTW Q ⟨e, h⟩ = qf tt qli (qcX N) (cut [true, true, true, false, true, true, true] (Tryz.f291.body.getD .skip)) Q ⟨e, h⟩ := rfl
theorem q7i (N : Nat) (v2 : Int) (v3 : Int) (v5 : List (Val (.int .i64))) (v6 : Int) (v7 : Bool) (v8 : List (Val (.int .i64))) (v9 : Int) (v10 : Bool) {k0 : Unit → Option (qb [i3])} {Q : X → St → Option (qb [i3])} {c : Code} (hc : c = qTW) (hret : ∀ st, Q .ret st = qE tt true [i3] [.tmp 4] st) (h0 : Q (.exit 0) ⟨[u, u, u, u, u, u, u, u, u, u, u, u, u, u, u, u, u, u, u, u, u, u, u, u, u, u, u, u, u, u, u, u, u, u, u, u, u, u, u, u, u, u, u, u, u, u, u, u, u, u], []⟩ = k0 ()) : ∀ (n : Nat) (v4 : Int), qF (qf tt qli (qcX N) c) false qni Q n ⟨[u, u, .one (.ptr 0 0 0), .one (.ptr 1 0 0), u, .one (.int .i64 v2), .one (.int .i64 v3), .one (.int .i64 v4), u, u, u, u, u, u, u, u, u, u, u, u, u, u, u, u, u, u, u, u, u, u, u, u, u, u, u, u, u, u, u, u, u, u, u, u, u, u, u, u, u, u], [.box [.sl 3 (.int .i64) v5 2, .int .i64 v6, .bool v7], .box [.sl 3 (.int .i64) v8 2, .int .i64 v9, .bool v10]]⟩ = qgY N v2 v3 v5 v6 v7 v8 v9 v10 k0 n v4 := by
  subst hc; intro n; induction n with
  | zero => intros; rfl
  | succ n ih =>
    intro v4
    rw [qM, zbu, qgY]; unfold Tryz.f291
    simp (maxSteps := 10000000) -implicitDefEqProofs [qK1, qlI, qHT, qm5, qPC, qnO, qJn, qnx, qFP, qqV, qER, qHY, qOz, qN6, qL7, qMM, qEt, qFk, qFB, qfx, hret, h0, ih]
theorem zcM (N : Nat) (v0 : Val qa) (v1 : Val qa) : qf tt qli (qcX N) (Tryz.f291.body.getD .skip) (qm tt true [i3] [.tmp 4]) (qq [qi, qi] 50 (v0, v1, ())) = qtV N v0 v1 := by
  unfold Tryz.f291
  simp (maxSteps := 10000000) -implicitDefEqProofs [qK1, qlI, qHT, qm5, qPC, qnO, qJn, qnx, qFP, qqV, qER, qHY, qOz, qN6, qL7, qMM, qEt, qFk, qFB, qfx]
  rewrite [q7i (k0 := (fun (_ : Unit) => some ((0 : Int), ()))) N _ _ _ _ _ _ _ _ ?_ ?_ ?_]
  · rewrite [qtV]; first | rfl | simp (maxSteps := 10000000) -implicitDefEqProofs []
  · rfl
  · intro; simp only [qK, qJ, qL, qC]
  · simp (maxSteps := 10000000) -implicitDefEqProofs [qK1, qlI, qHT, qm5, qPC, qnO, qJn, qnx, qFP, qqV, qER, qHY, qOz, qN6, qL7, qMM, qEt, qFk, qFB, qfx]
noncomputable def qx2 (N : Nat) (v0 : Val qa) (v1 : Val qa) : Option (qb [i4]) := chk (qd9 v1) (chk (qd9 v0) (bif (decide ((IntKind.i64.wrap ((v1.2.1 : Int) * (max (1 : Int) ((gLv v0) : Int)))) < (IntKind.i64.wrap ((v0.2.1 : Int) * (max (1 : Int) ((gLv v1) : Int)))))) then (some (true, ())) else (bif (decide ((IntKind.i64.wrap ((v0.2.1 : Int) * (max (1 : Int) ((gLv v1) : Int)))) = (IntKind.i64.wrap ((v1.2.1 : Int) * (max (1 : Int) ((gLv v0) : Int)))))) then (bif (v0.2.2 : Bool) then (some (true, ())) else (some ((!(v1.2.2 : Bool)), ()))) else (some (false, ())))))
def qE1 : Gam := [(319, qfx)]
theorem zbV : Gam.get qE1 319 = some qfx := rfl
def qxU : Nm := ⟨[false, false, true, true, false, true], [], false⟩
theorem q9L : qxU.zero = false := rfl
theorem q1I : qxU.fix = [] := rfl
theorem qZy : qxU.keep = [false, false, true, true, false, true] := rfl
def qAe : Nm := ⟨[false, false, true, true, false, true, true], [], false⟩
theorem q4u : qAe.zero = false := rfl
theorem zax : qAe.fix = [] := rfl
theorem qYh : qAe.keep = [false, false, true, true, false, true, true] := rfl
def qw1 : Nat → Tree := fun i => if i = 1 then .quiet 2 (.alt 0 (.alt 1 (.alt 3 (.alt 4 (.quiet 5 (.quiet 6 .done)) .stop) .stop) (.alt 3 (.alt 1 (.alt 4 (.quiet 5 (.quiet 6 .done)) .stop) (.alt 4 (.quiet 1 (.quiet 5 (.quiet 6 .done))) .stop)) .stop)) (.alt 3 (.alt 0 (.alt 1 (.alt 4 (.quiet 5 (.quiet 6 .done)) .stop) (.alt 4 (.quiet 1 (.quiet 5 (.quiet 6 .done))) .stop)) (.alt 4 (.quiet 0 (.quiet 1 (.quiet 5 (.quiet 6 .done)))) .stop)) .stop)) else if i = 2 then .quiet 2 (.alt 0 (.alt 1 (.alt 3 (.alt 4 (.quiet 5 (.quiet 6 .done)) .stop) .stop) (.alt 3 (.alt 1 (.alt 4 (.quiet 5 (.quiet 6 .done)) .stop) (.alt 4 (.quiet 1 (.quiet 5 (.quiet 6 .done))) .stop)) .stop)) (.alt 3 (.alt 0 (.alt 1 (.alt 4 (.quiet 5 (.quiet 6 .done)) .stop) (.alt 4 (.quiet 1 (.quiet 5 (.quiet 6 .done))) .stop)) (.alt 4 (.quiet 0 (.quiet 1 (.quiet 5 (.quiet 6 .done)))) .stop)) .stop)) else .done
def qON : Nat → Nm := fun _ => ⟨[], [], false⟩
def qKR : Nat → Option Jn := fun _ => none
def qOL : Nat → Option Nm := fun _ => none
def qHg : Nat → Option Nm := fun i => if i = 1 then some qxU else if i = 2 then some qAe else none
theorem qXH : qj qw1 (Tryz.f292.body.getD .skip) = true := by kernel_rfl
def qej (N : Nat) : Tab := { tr := qw1, lp := qON, ex := qOL, rg := qHg, jn := qKR, fuel := N }
theorem q8C (N : Nat) : (qej N).pins = false := rfl
theorem zdi (N : Nat) : qk Tryz.prog (qej N) := qp fun _ => rfl
theorem q36 (N : Nat) (i : Nat) : (qej N).tr i = qw1 i := rfl
theorem zc8 (N : Nat) (i : Nat) : (qej N).lp i = qON i := rfl
theorem q10 (N : Nat) (i : Nat) : (qej N).ex i = qOL i := rfl
theorem q0m (N : Nat) (i : Nat) : (qej N).rg i = qHg i := rfl
theorem qY5 (N : Nat) (i : Nat) : (qej N).jn i = qKR i := rfl
theorem q8A (N : Nat) : (qej N).fuel = N := rfl
theorem q38 (N : Nat) (v0 : Val qa) (v1 : Val qa) : qf tt qE1 (qej N) (Tryz.f292.body.getD .skip) (qm tt true [i4] [.tmp 4]) (qq [qi, qi] 36 (v0, v1, ())) = qx2 N v0 v1 := by
  rw [qx2]; unfold Tryz.f292
  simp (maxSteps := 10000000) -implicitDefEqProofs [q36, qw1, zc8, qON, q10, qOL, q0m, qHg, qY5, qKR, q8A, q8C, q1I, qZy, q9L, zax, qYh, q4u, zbV, qfx]
  try rfl
noncomputable def qyb (N : Nat) (v0 : Val qa) : Option (qb [qi]) := chk (([] : List (Val (.int .i64))).length + (v0.1 : List (Val (.int .i64))).length ≤ 1048576) (some (((([] : List (Val (.int .i64))) ++ (v0.1 : List (Val (.int .i64)))), (v0.2.1 : Int), (v0.2.2 : Bool)), ()))
def qRU : Gam := []
def quO : Nat → Tree := fun i => if i = 1 then .keep 1 (.keep 2 (.keep 4 (.keep 5 (.keep 6 (.keep 7 (.alt 0 (.alt 3 (.quiet 8 (.alt 9 .done .stop)) .stop) .stop)))))) else .done
def qKG : Nat → Nm := fun _ => ⟨[], [], false⟩
def qBD : Nat → Option Jn := fun _ => none
def qP7 : Nat → Option Nm := fun _ => none
def qHp : Nat → Option Nm := fun _ => none
theorem q5t : qj quO (Tryz.f234.body.getD .skip) = true := by kernel_rfl
def qea (N : Nat) : Tab := { tr := quO, lp := qKG, ex := qP7, rg := qHp, jn := qBD, fuel := N }
theorem q8d (N : Nat) : (qea N).pins = false := rfl
theorem qWo (N : Nat) : qk Tryz.prog (qea N) := qp fun _ => rfl
theorem zfj (N : Nat) (i : Nat) : (qea N).tr i = quO i := rfl
theorem qYq (N : Nat) (i : Nat) : (qea N).lp i = qKG i := rfl
theorem qZP (N : Nat) (i : Nat) : (qea N).ex i = qP7 i := rfl
theorem q2L (N : Nat) (i : Nat) : (qea N).rg i = qHp i := rfl
theorem qWL (N : Nat) (i : Nat) : (qea N).jn i = qBD i := rfl
theorem q1A (N : Nat) : (qea N).fuel = N := rfl
theorem q9N (N : Nat) (v0 : Val qa) : qf tt qRU (qea N) (Tryz.f234.body.getD .skip) (qm tt true [qi] [.cell 2 108]) (qq [qi] 12 (v0, ())) = qyb N v0 := by
  rw [qyb]; unfold Tryz.f234
  simp (maxSteps := 10000000) -implicitDefEqProofs [zfj, quO, qYq, qKG, qZP, qP7, q2L, qHp, qWL, qBD, q1A, q8d]
  try rfl
noncomputable def qwZ (N : Nat) (v0 : Int) : Option (qb [i33]) := chk (0 ≤ v0 ∧ v0 ≤ v0 ∧ v0 ≤ 1048576) (some ((v0, ([((List.replicate v0.toNat (qc (.int .i64))), (1 : Int), false)] : List (Val qa))), ()))
def qUK : Gam := []
def qxu : Nat → Tree := fun _ => .done
def qBX : Nat → Nm := fun _ => ⟨[], [], false⟩
def qJP : Nat → Option Jn := fun _ => none
def qNd : Nat → Option Nm := fun _ => none
def qNj : Nat → Option Nm := fun _ => none
theorem q5k : qj qxu (Tryz.f209.body.getD .skip) = true := by kernel_rfl
def qed (N : Nat) : Tab := { tr := qxu, lp := qBX, ex := qNd, rg := qNj, jn := qJP, fuel := N }
theorem q5z (N : Nat) : (qed N).pins = false := rfl
theorem q2m (N : Nat) : qk Tryz.prog (qed N) := qp fun _ => rfl
theorem q0x (N : Nat) (i : Nat) : (qed N).tr i = qxu i := rfl
theorem q2p (N : Nat) (i : Nat) : (qed N).lp i = qBX i := rfl
theorem qXA (N : Nat) (i : Nat) : (qed N).ex i = qNd i := rfl
theorem q5q (N : Nat) (i : Nat) : (qed N).rg i = qNj i := rfl
theorem q4T (N : Nat) (i : Nat) : (qed N).jn i = qJP i := rfl
theorem q11 (N : Nat) : (qed N).fuel = N := rfl
theorem q7Q (N : Nat) (v0 : Int) : qf tt qUK (qed N) (Tryz.f209.body.getD .skip) (qm tt true [i33] [.cell 2 33]) (qq [i3] 9 (v0, ())) = qwZ N v0 := by
  rw [qwZ]; unfold Tryz.f209
  simp (maxSteps := 10000000) -implicitDefEqProofs [q0x, qxu, q2p, qBX, qXA, qNd, q5q, qNj, q4T, qJP, q11, q5z]
  try rfl
def qjN : G := { ps := [qi, qi], rs := [i3], dp := true, pre := fun x => qc6 x.1 x.2.1, fn := fun x => (qa1 x.1 x.2.1, ()) }
theorem qRO (N : Nat) (g h : Nat) (hg : (g : Int) ≠ 0) (hh : (h : Int) ≠ 0) (xs ys : List (Val (.int .i64))) (hl : xs.length = ys.length) (h4 : xs.length ≤ 1048576) (hx : ∀ x ∈ xs, inI x) (hy : ∀ x ∈ ys, inI x) (c c' : Int) (s s' : Bool) : ∀ (k i : Nat), xs.length - i = k → ∀ n, k < n →
    qgY N g h xs c s ys c' s' (fun _ => some ((0 : Int), ())) n i = some (qaU ((List.drop (α := Int) i xs).map fun x => x.tdiv (g : Int)) ((List.drop (α := Int) i ys).map fun x => x.tdiv (h : Int)), ())
  | 0, i, hi, n + 1, _ => by
    rw [qgY, ql (by omega), List.drop_eq_nil_of_le (by omega), List.drop_eq_nil_of_le (by omega)]
    rfl
  | k + 1, i, hi, n + 1, hn => by
    have h1 : i < xs.length := by omega
    have h2 : i < ys.length := by omega
    rw [qgY, qn (by omega), qn (by omega), qe (by omega), qe hg, qe (by omega), qe hh, qG h1, qG h2, qff (hx _ (List.getElem_mem h1)), qff (hy _ (List.getElem_mem h2)), qbD h1 h4]
    rw [List.drop_eq_getElem_cons h1, List.drop_eq_getElem_cons h2, List.map_cons, List.map_cons, qaU]
    generalize hp : Int.tdiv xs[i] (g : Int) = p
    generalize hq : Int.tdiv ys[i] (h : Int) = q
    by_cases a1 : p < q
    · have : ¬ p = q := by omega
      simp [a1, this]
    · by_cases a2 : q < p
      · have : ¬ p = q := by omega
        simp [a1, a2, this]
      · have : p = q := by omega
        rw [if_neg a1, if_neg a2, qaP, qn this]
        exact qRO N g h hg hh xs ys hl h4 hx hy c c' s s' k (i + 1) (by omega) n (by omega)
theorem q3V (a b : Val qa) (h : qc6 a b) : ∃ N, qtV N a b = some (qa1 a b, ()) := ⟨List.length (α := Val (.int .i64)) a.1 + 1, by
  obtain ⟨ha, hb, hl⟩ := h
  rw [qtV, qe (show qd9 a from ha), qe (show qd9 b from hb), qzl, qzl]
  have := qRO (List.length (α := Val (.int .i64)) a.1 + 1) (gS (atm a)) (gS (atm b)) (by have := qdi (atm a); omega) (by have := qdi (atm b); omega) a.1 b.1 hl (by have := (qa5 ha).1; omega) (qjC ha) (qjC hb) a.2.1 b.2.1 a.2.2 b.2.2 _ 0 rfl _ (Nat.lt_succ_self _)
  simp only [List.drop_zero] at this
  exact this⟩
theorem qW7 : Sound Tryz.prog 291 qjN := qt (tt := tt) (Γ := qli) hT (qg qTv qo) hm (fn := Tryz.f291) Tryz.func291 (c := Tryz.f291.body.getD .skip) (by kernel_rfl) (by kernel_rfl) fun x hx => by
  obtain ⟨N, h⟩ := q3V x.1 x.2.1 hx
  exact ⟨qcX N, q0y, qw _, q8p N, (zcM N x.1 x.2.1).trans h⟩
def qld : G := { ps := [qi, qi], rs := [i4], dp := true, pre := fun x => qnq x.1 x.2.1, fn := fun x => (qi4 x.1 x.2.1, ()) }
theorem zdA (a b : Val qa) (h : qnq a b) : ∃ N, qx2 N a b = some (qi4 a b, ()) := ⟨0, by
  obtain ⟨ha, hb, hw⟩ := h
  have h1 := qjT ha
  have h2 := qjT hb
  have g1 := qxg ha
  have g2 := qxg hb
  have p1 := qdi (atm a)
  have p2 := qdi (atm b)
  rw [qx2, qe (show qd9 b from hb), qe (show qd9 a from ha), qzl, qzl, qzT h1 ⟨by unfold gSv; omega, g2⟩, qzT h2 ⟨by unfold gSv; omega, g1⟩]
  have e : qi4 a b = (decide ((b.2.1 : Int) * gSv a < a.2.1 * gSv b) || (decide ((a.2.1 : Int) * gSv b = b.2.1 * gSv a) && (a.2.2 || !b.2.2))) := by
    unfold qi4 qaI
    rw [if_pos hw]
    have e1 : qfe (atm b) (atm a) = sgI (b.2.1 * gSv a - a.2.1 * gSv b) := rfl
    rw [e1]
    exact zbP _ _ _ _
  rw [e]
  by_cases c1 : (b.2.1 : Int) * gSv a < a.2.1 * gSv b
  · simp [c1]
  · by_cases c2 : (a.2.1 : Int) * gSv b = b.2.1 * gSv a
    · rw [ql c1, qn c2, decide_eq_false c1, decide_eq_true c2, Bool.false_or, Bool.true_and]
      cases a.2.2 <;> rfl
    · simp [c1, c2]⟩
theorem qW9 : Sound Tryz.prog 292 qld := qt (tt := tt) (Γ := qE1) hT (qg qTv qo) hm (fn := Tryz.f292) Tryz.func292 (c := Tryz.f292.body.getD .skip) (by kernel_rfl) (by kernel_rfl) fun x hx => by
  obtain ⟨N, h⟩ := zdA x.1 x.2.1 hx
  exact ⟨qej N, qXH, qw _, zdi N, (q38 N x.1 x.2.1).trans h⟩
def qdy : G := { ps := [qi], rs := [qi], dp := true, pre := fun x => qba x.1, fn := fun x => (idA x.1, ()) }
def qcM : G := { ps := [i3], rs := [i33], dp := true, pre := fun x => qcV x.1, fn := fun x => (qaQ x.1, ()) }
theorem q14 (a : Val qa) (h : qba a) : ∃ N, qyb N a = some (idA a, ()) := ⟨0, by
  rw [qyb, qe (by have h : List.length (α := Val (.int .i64)) a.1 ≤ 1048576 := h; simpa using h)]; rfl⟩
theorem qV1 (d : Int) (h : qcV d) : ∃ N, qwZ N d = some (qaQ d, ()) := ⟨0, by
  rw [qwZ, qe ⟨h.1, Int.le_refl _, h.2⟩]; rfl⟩
theorem qUF : Sound Tryz.prog 234 qdy := qt (tt := tt) (Γ := qRU) hT qo hm (fn := Tryz.f234) Tryz.func234 (c := Tryz.f234.body.getD .skip) (by kernel_rfl) (by kernel_rfl) fun x hx => by
  obtain ⟨N, h⟩ := q14 x.1 hx
  exact ⟨qea N, q5t, qw _, qWo N, (q9N N x.1).trans h⟩
theorem qU6 : Sound Tryz.prog 209 qcM := qt (tt := tt) (Γ := qUK) hT qo hm (fn := Tryz.f209) Tryz.func209 (c := Tryz.f209.body.getD .skip) (by kernel_rfl) (by kernel_rfl) fun x hx => by
  obtain ⟨N, h⟩ := qV1 x.1 hx
  exact ⟨qed N, q5k, qw _, q2m N, (q7Q N x.1).trans h⟩
noncomputable def qgT (N : Nat) (v2 : List (Val qa)) (v4 : List (Val (.int .i64))) (v5 : Int) (v6 : Bool) (k0 : Int → Option (qb [i31])) : Nat → Int → Option (qb [i31])
  | 0, _ => none
  | n + 1, v3 => bif (decide (v3 < (v2.length : Int))) then (chk (0 ≤ v3 ∧ v3 < (v2.length : Int)) (chk (qc6 (v2.getD v3.toNat (qc qa)) (v4, v5, v6)) (bif (decide (((qa1 (v2.getD v3.toNat (qc qa)) (v4, v5, v6)) : Int) < (0 : Int))) then (qgT N v2 v4 v5 v6 k0 n (IntKind.i64.wrap (v3 + (1 : Int)))) else (k0 v3)))) else (k0 v3)
noncomputable def qym (N : Nat) (v0 : List (Val qa)) (v1 : Val qa) : Option (qb [i31]) := qgT N v0 (v1.1 : List (Val (.int .i64))) (v1.2.1 : Int) (v1.2.2 : Bool) (fun (v8 : Int) => bif (decide (v8 < (v0.length : Int))) then (chk (0 ≤ v8 ∧ v8 < (v0.length : Int)) (chk (qc6 (v0.getD v8.toNat (qc qa)) v1) (bif (decide (((qa1 (v0.getD v8.toNat (qc qa)) v1) : Int) = (0 : Int))) then (chk (0 ≤ v8 ∧ v8 < (v0.length : Int)) (chk (qnq (v0.getD v8.toNat (qc qa)) v1) (bif ((qi4 (v0.getD v8.toNat (qc qa)) v1) : Bool) then (some (v0, ())) else (chk (([] : List (Val qa)).length + v0.length ≤ 1048576) (chk (0 ≤ v8 ∧ v8 < ((([] : List (Val qa)) ++ v0).length : Int)) (chk (v8.toNat < (([] : List (Val qa)) ++ v0).length) (some (((([] : List (Val qa)) ++ v0).set v8.toNat v1), ())))))))) else (chk (0 ≤ (0 : Int) ∧ (0 : Int) ≤ v8 ∧ v8 ≤ (v0.length : Int)) (chk (0 ≤ v8 ∧ v8 ≤ (v0.length : Int) ∧ (v0.length : Int) ≤ (v0.length : Int)) (chk (([] : List (Val qa)).length + ((v0.take v8.toNat).drop (0 : Int).toNat).length ≤ 1048576) (chk ((([] : List (Val qa)) ++ ((v0.take v8.toNat).drop (0 : Int).toNat)).length + ([v1] : List (Val qa)).length ≤ 1048576) (chk (((([] : List (Val qa)) ++ ((v0.take v8.toNat).drop (0 : Int).toNat)) ++ ([v1] : List (Val qa))).length + ((v0.take (v0.length : Int).toNat).drop v8.toNat).length ≤ 1048576) (some ((((([] : List (Val qa)) ++ ((v0.take v8.toNat).drop (0 : Int).toNat)) ++ ([v1] : List (Val qa))) ++ ((v0.take (v0.length : Int).toNat).drop v8.toNat)), ())))))))))) else (chk (0 ≤ (0 : Int) ∧ (0 : Int) ≤ v8 ∧ v8 ≤ (v0.length : Int)) (chk (0 ≤ v8 ∧ v8 ≤ (v0.length : Int) ∧ (v0.length : Int) ≤ (v0.length : Int)) (chk (([] : List (Val qa)).length + ((v0.take v8.toNat).drop (0 : Int).toNat).length ≤ 1048576) (chk ((([] : List (Val qa)) ++ ((v0.take v8.toNat).drop (0 : Int).toNat)).length + ([v1] : List (Val qa)).length ≤ 1048576) (chk (((([] : List (Val qa)) ++ ((v0.take v8.toNat).drop (0 : Int).toNat)) ++ ([v1] : List (Val qa))).length + ((v0.take (v0.length : Int).toNat).drop v8.toNat).length ≤ 1048576) (some ((((([] : List (Val qa)) ++ ((v0.take v8.toNat).drop (0 : Int).toNat)) ++ ([v1] : List (Val qa))) ++ ((v0.take (v0.length : Int).toNat).drop v8.toNat)), ())))))))) N (0 : Int)
def qjp : Gam := [(291, qjN), (292, qld)]
theorem qCj : Gam.get qjp 291 = some qjN := rfl
theorem qF3 : Gam.get qjp 292 = some qld := rfl
def qmx : Nm := ⟨[true, false, false, true, false, true], [], false⟩
theorem qI7 : qmx.zero = false := rfl
theorem qNI : qmx.fix = [] := rfl
theorem qMc : qmx.keep = [true, false, false, true, false, true] := rfl
def qyt : Nm := ⟨[true, false, false, true, false, true], [], false⟩
theorem qEi : qyt.zero = false := rfl
theorem qQu : qyt.fix = [] := rfl
theorem qEB : qyt.keep = [true, false, false, true, false, true] := rfl
def qyh : Nm := ⟨[false, false, false, false, true], [], false⟩
theorem qHe : qyh.zero = false := rfl
theorem qDd : qyh.fix = [] := rfl
theorem qCl : qyh.keep = [false, false, false, false, true] := rfl
def qj6 : Nat → Tree := fun i => if i = 2 then .quiet 0 (.quiet 1 (.quiet 2 (.quiet 3 (.quiet 4 (.quiet 5 (.quiet 6 (.quiet 7 (.quiet 8 (.quiet 9 (.alt 10 (.quiet 11 (.quiet 12 .done)) .stop)))))))))) else if i = 4 then .quiet 0 (.quiet 1 (.quiet 2 (.quiet 3 (.quiet 4 (.quiet 5 (.quiet 6 (.quiet 7 (.quiet 8 (.quiet 9 (.alt 10 (.quiet 11 (.quiet 12 .done)) .stop)))))))))) else if i = 5 then .quiet 0 (.quiet 1 (.quiet 2 (.quiet 3 (.quiet 4 (.alt 5 .done .stop))))) else if i = 10 then .first 1 (.first 2 (.first 8 (.first 9 (.pure 3 (.pure 10 (.alt 0 (.alt 4 (.quiet 5 (.alt 6 (.alt 7 (.alt 11 (.quiet 12 .done) .stop) .stop) .stop)) (.alt 5 (.alt 4 (.alt 6 (.alt 7 (.alt 11 (.quiet 12 .done) .stop) .stop) .stop) (.alt 6 (.alt 4 (.alt 7 (.alt 11 (.quiet 12 .done) .stop) .stop) .stop) .stop)) .stop)) (.alt 5 (.alt 0 (.alt 4 (.alt 6 (.alt 7 (.alt 11 (.quiet 12 .done) .stop) .stop) .stop) (.alt 6 (.alt 4 (.alt 7 (.alt 11 (.quiet 12 .done) .stop) .stop) .stop) .stop)) (.alt 6 (.alt 0 (.alt 4 (.alt 7 (.alt 11 (.quiet 12 .done) .stop) .stop) .stop) .stop) .stop)) .stop))))))) else .done
def qpw : Nat → Nm := fun i => if i = 2 then qmx else ⟨[], [], false⟩
def qnS : Nat → Option Jn := fun _ => none
def qnY : Nat → Option Nm := fun i => if i = 0 then some qyt else none
def qoO : Nat → Option Nm := fun i => if i = 10 then some qyh else none
theorem zam : qj qj6 (Tryz.f233.body.getD .skip) = true := by kernel_rfl
def qcN (N : Nat) : Tab := { tr := qj6, lp := qpw, ex := qnY, rg := qoO, jn := qnS, fuel := N }
theorem qQg (N : Nat) : (qcN N).pins = false := rfl
theorem q4l (N : Nat) : qk Tryz.prog (qcN N) := qp fun _ => rfl
theorem qJN (N : Nat) (i : Nat) : (qcN N).tr i = qj6 i := rfl
theorem qNu (N : Nat) (i : Nat) : (qcN N).lp i = qpw i := rfl
theorem qDx (N : Nat) (i : Nat) : (qcN N).ex i = qnY i := rfl
theorem qND (N : Nat) (i : Nat) : (qcN N).rg i = qoO i := rfl
theorem qNx (N : Nat) (i : Nat) : (qcN N).jn i = qnS i := rfl
theorem qQw (N : Nat) : (qcN N).fuel = N := rfl
noncomputable def qTK : Code := cut [true, true, false, true, true] (Tryz.f233.body.getD .skip)
theorem q52 {N : Nat} {Q : X → St → Option (qb [i31])} {e : List LV} {h : List Blk} : qf tt qjp (qcN N) qTK Q ⟨e, h⟩ = qf tt qjp (qcN N) (cut [true, true, false, true, true] (Tryz.f233.body.getD .skip)) Q ⟨e, h⟩ := rfl
theorem q8I (N : Nat) (v2 : List (Val qa)) (v4 : List (Val (.int .i64))) (v5 : Int) (v6 : Bool) {k0 : Int → Option (qb [i31])} {Q : X → St → Option (qb [i31])} {c : Code} (hc : c = qTK) (hret : ∀ st, Q .ret st = qE tt false [i31] [.tmp 4] st) (h0 : ∀ (v7 : Int), Q (.exit 0) ⟨[.one (.sl 108 qa v2 1), u, u, .one (.ptr 0 0 0), u, .one (.int .i64 v7), u, u, u, u, u, u, u, u, u, u, u, u, u, u, u, u, u, u, u, u, u, u, u, u, u, u, u, u, u, u, u, u, u, u, u, u, u, u, u, u, u, u, u, u, u, u, u, u, u, u, u, u, u, u, u, u], [.box [.sl 3 (.int .i64) v4 1, .int .i64 v5, .bool v6]]⟩ = k0 v7) : ∀ (n : Nat) (v3 : Int), qF (qf tt qjp (qcN N) c) false qmx Q n ⟨[.one (.sl 108 qa v2 1), u, u, .one (.ptr 0 0 0), u, .one (.int .i64 v3), u, u, u, u, u, u, u, u, u, u, u, u, u, u, u, u, u, u, u, u, u, u, u, u, u, u, u, u, u, u, u, u, u, u, u, u, u, u, u, u, u, u, u, u, u, u, u, u, u, u, u, u, u, u, u, u], [.box [.sl 3 (.int .i64) v4 1, .int .i64 v5, .bool v6]]⟩ = qgT N v2 v4 v5 v6 k0 n v3 := by
  subst hc; intro n; induction n with
  | zero => intros; rfl
  | succ n ih =>
    intro v3
    rw [qM, q52, qgT]; unfold Tryz.f233
    simp (maxSteps := 10000000) -implicitDefEqProofs [qJN, qj6, qNu, qpw, qDx, qnY, qND, qoO, qNx, qnS, qQw, qQg, qNI, qMc, qI7, qQu, qEB, qEi, qDd, qCl, qHe, qCj, qF3, qjN, qld, hret, h0, ih]
theorem q7a (N : Nat) (v0 : List (Val qa)) (v1 : Val qa) : qf tt qjp (qcN N) (Tryz.f233.body.getD .skip) (qm tt false [i31] [.tmp 4]) (qq [i31, qi] 62 (v0, v1, ())) = qym N v0 v1 := by
  unfold Tryz.f233
  simp (maxSteps := 10000000) -implicitDefEqProofs [qJN, qj6, qNu, qpw, qDx, qnY, qND, qoO, qNx, qnS, qQw, qQg, qNI, qMc, qI7, qQu, qEB, qEi, qDd, qCl, qHe, qCj, qF3, qjN, qld]
  rewrite [q8I (k0 := (fun (v8 : Int) => bif (decide (v8 < (v0.length : Int))) then (chk (0 ≤ v8 ∧ v8 < (v0.length : Int)) (chk (qc6 (v0.getD v8.toNat (qc qa)) v1) (bif (decide (((qa1 (v0.getD v8.toNat (qc qa)) v1) : Int) = (0 : Int))) then (chk (0 ≤ v8 ∧ v8 < (v0.length : Int)) (chk (qnq (v0.getD v8.toNat (qc qa)) v1) (bif ((qi4 (v0.getD v8.toNat (qc qa)) v1) : Bool) then (some (v0, ())) else (chk (([] : List (Val qa)).length + v0.length ≤ 1048576) (chk (0 ≤ v8 ∧ v8 < ((([] : List (Val qa)) ++ v0).length : Int)) (chk (v8.toNat < (([] : List (Val qa)) ++ v0).length) (some (((([] : List (Val qa)) ++ v0).set v8.toNat v1), ())))))))) else (chk (0 ≤ (0 : Int) ∧ (0 : Int) ≤ v8 ∧ v8 ≤ (v0.length : Int)) (chk (0 ≤ v8 ∧ v8 ≤ (v0.length : Int) ∧ (v0.length : Int) ≤ (v0.length : Int)) (chk (([] : List (Val qa)).length + ((v0.take v8.toNat).drop (0 : Int).toNat).length ≤ 1048576) (chk ((([] : List (Val qa)) ++ ((v0.take v8.toNat).drop (0 : Int).toNat)).length + ([v1] : List (Val qa)).length ≤ 1048576) (chk (((([] : List (Val qa)) ++ ((v0.take v8.toNat).drop (0 : Int).toNat)) ++ ([v1] : List (Val qa))).length + ((v0.take (v0.length : Int).toNat).drop v8.toNat).length ≤ 1048576) (some ((((([] : List (Val qa)) ++ ((v0.take v8.toNat).drop (0 : Int).toNat)) ++ ([v1] : List (Val qa))) ++ ((v0.take (v0.length : Int).toNat).drop v8.toNat)), ())))))))))) else (chk (0 ≤ (0 : Int) ∧ (0 : Int) ≤ v8 ∧ v8 ≤ (v0.length : Int)) (chk (0 ≤ v8 ∧ v8 ≤ (v0.length : Int) ∧ (v0.length : Int) ≤ (v0.length : Int)) (chk (([] : List (Val qa)).length + ((v0.take v8.toNat).drop (0 : Int).toNat).length ≤ 1048576) (chk ((([] : List (Val qa)) ++ ((v0.take v8.toNat).drop (0 : Int).toNat)).length + ([v1] : List (Val qa)).length ≤ 1048576) (chk (((([] : List (Val qa)) ++ ((v0.take v8.toNat).drop (0 : Int).toNat)) ++ ([v1] : List (Val qa))).length + ((v0.take (v0.length : Int).toNat).drop v8.toNat).length ≤ 1048576) (some ((((([] : List (Val qa)) ++ ((v0.take v8.toNat).drop (0 : Int).toNat)) ++ ([v1] : List (Val qa))) ++ ((v0.take (v0.length : Int).toNat).drop v8.toNat)), ()))))))))) N _ _ _ _ ?_ ?_ ?_]
  · rewrite [qym]; first | rfl | simp (maxSteps := 10000000) -implicitDefEqProofs []
  · rfl
  · intro; simp only [qK, qJ, qL, qC]
  · intro v8; simp (maxSteps := 10000000) -implicitDefEqProofs [qJN, qj6, qNu, qpw, qDx, qnY, qND, qoO, qNx, qnS, qQw, qQg, qNI, qMc, qI7, qQu, qEB, qEi, qDd, qCl, qHe, qCj, qF3, qjN, qld]
def qln : G := { ps := [i31, qi], rs := [i31], dp := false, pre := fun x => qhn x.1 x.2.1, fn := fun x => (qgb x.1 x.2.1, ()) }
def qa3 (l : List (Val qa)) (a : Val qa) : Nat := (l.takeWhile fun b => decide (qa1 b a < 0)).length
theorem q0D (l : List (Val qa)) (a : Val qa) : qa3 l a ≤ l.length := (List.takeWhile_sublist _).length_le
theorem qQR : ∀ (l : List (Val qa)) (a : Val qa), qaz l a = if h : qa3 l a < l.length then (if qa1 l[qa3 l a] a = 0 then (if qaI (atm a) (atm l[qa3 l a]) ≤ 0 then l else l.set (qa3 l a) a) else l.take (qa3 l a) ++ [a] ++ l.drop (qa3 l a)) else l.take (qa3 l a) ++ [a] ++ l.drop (qa3 l a)
  | [], a => rfl
  | b :: r, a => by
    have ih := qQR r a
    by_cases h1 : qa1 b a < 0
    · have e : qa3 (b :: r) a = qa3 r a + 1 := by simp [qa3, List.takeWhile, h1]
      have h1' : way b a < 0 := h1
      simp only [qaz, h1', if_true, e, List.length_cons, Nat.add_lt_add_iff_right, List.getElem_cons_succ, List.set_cons_succ, List.take_succ_cons, List.drop_succ_cons, List.cons_append]
      rw [ih]
      split
      · split
        · split <;> rfl
        · rfl
      · rfl
    · have e : qa3 (b :: r) a = 0 := by simp [qa3, List.takeWhile, h1]
      have h1' : ¬ way b a < 0 := h1
      simp only [qaz, h1', if_false, e, List.length_cons, Nat.zero_lt_succ, dif_pos, List.getElem_cons_zero, List.set_cons_zero, List.take_zero, List.drop_zero, List.nil_append]
      by_cases h2 : way b a = 0
      · rw [if_pos h2, if_pos (show qa1 b a = 0 from h2)]
      · rw [if_neg h2, if_neg (show ¬ qa1 b a = 0 from h2)]; rfl
theorem qSD (N : Nat) (l : List (Val qa)) (a : Val qa) (h : qhn l a) (K : Int → Option (qb [i31])) : ∀ (k i : Nat), l.length - i = k → i ≤ l.length → ∀ n, k < n →
    qgT N l a.1 a.2.1 a.2.2 K n i = K ((i + qa3 (l.drop i) a : Nat) : Int)
  | 0, i, hi, hle, n + 1, _ => by
    rw [qgT, ql (by omega), List.drop_eq_nil_of_le (by omega)]
    rfl
  | k + 1, i, hi, hle, n + 1, hn => by
    have h1 : i < l.length := by omega
    obtain ⟨hl, ha, hb⟩ := h
    have hb1 := hb _ (List.getElem_mem h1)
    rw [qgT, qn (by omega), qe (by omega), qG h1, qe (show qc6 _ _ from ⟨hb1.1, ha, hb1.2⟩), qbD h1 (by omega)]
    rw [qb4 h1]
    by_cases h2 : qa1 l[i] a < 0
    · have e : qa3 (l[i] :: l.drop (i + 1)) a = qa3 (l.drop (i + 1)) a + 1 := by simp [qa3, List.takeWhile, h2]
      rw [qn (show qa1 l[i] (a.1, a.2.1, a.2.2) < 0 from h2), e, qSD N l a ⟨hl, ha, hb⟩ K k (i + 1) (by omega) (by omega) n (by omega)]
      congr 2; omega
    · have e : qa3 (l[i] :: l.drop (i + 1)) a = 0 := by simp [qa3, List.takeWhile, h2]
      rw [ql (show ¬ qa1 l[i] (a.1, a.2.1, a.2.2) < 0 from h2), e]
      rfl
theorem q0R (l : List (Val qa)) (a : Val qa) (h : qhn l a) : ∃ N, qym N l a = some (qgb l a, ()) := ⟨l.length + 1, by
  have t := qSD (l.length + 1) l a h
  rw [qym]
  refine (t _ _ 0 rfl (by omega) _ (Nat.lt_succ_self _)).trans ?_
  obtain ⟨hl, ha, hb⟩ := h
  rw [List.drop_zero, Nat.zero_add]
  have hle := q0D l a
  rw [qgb, qQR]
  generalize qa3 l a = j at hle ⊢
  have last : chk (0 ≤ (0 : Int) ∧ (0 : Int) ≤ (j : Int) ∧ (j : Int) ≤ (l.length : Int)) (chk (0 ≤ (j : Int) ∧ (j : Int) ≤ (l.length : Int) ∧ (l.length : Int) ≤ (l.length : Int)) (chk (([] : List (Val qa)).length + ((l.take (j : Int).toNat).drop (0 : Int).toNat).length ≤ 1048576) (chk ((([] : List (Val qa)) ++ ((l.take (j : Int).toNat).drop (0 : Int).toNat)).length + ([a] : List (Val qa)).length ≤ 1048576) (chk (((([] : List (Val qa)) ++ ((l.take (j : Int).toNat).drop (0 : Int).toNat)) ++ ([a] : List (Val qa))).length + ((l.take (l.length : Int).toNat).drop (j : Int).toNat).length ≤ 1048576)
      (some (((([] : List (Val qa)) ++ ((l.take (j : Int).toNat).drop (0 : Int).toNat)) ++ ([a] : List (Val qa))) ++ ((l.take (l.length : Int).toNat).drop (j : Int).toNat), ()))))))
      = (some (l.take j ++ [a] ++ l.drop j, ()) : Option (qb [i31])) := by
    have e1 : (j : Int).toNat = j := rfl
    have e2 : (l.length : Int).toNat = l.length := rfl
    have e3 : (0 : Int).toNat = 0 := rfl
    rw [e1, e2, e3, List.drop_zero, List.take_length, List.nil_append]
    rw [qe (by omega), qe (by omega), qe (by simp; omega), qe (by simp; omega), qe (by simp; omega)]
  by_cases hj : j < l.length
  · have hb1 := hb _ (List.getElem_mem hj)
    have e1 : (j : Int).toNat = j := rfl
    rw [dif_pos hj, qn (by omega), qe (by omega), qG hj, qe (show qc6 _ _ from ⟨hb1.1, ha, hb1.2⟩)]
    by_cases hw : qa1 l[j] a = 0
    · have hw' : way (atm a) (atm l[j]) = 0 := by have := qbf.anti (atm a) (atm l[j]); have hw : way (atm l[j]) (atm a) = 0 := hw; omega
      rw [qn hw, if_pos hw, qe (by omega), qe (show qnq _ _ from ⟨hb1.1, ha, hw'⟩)]
      unfold qi4
      by_cases hs : qaI (atm a) (atm l[j]) ≤ 0
      · rw [qn hs, if_pos hs]
      · rw [ql hs, if_neg hs, List.nil_append, qe (by simp; omega), qe (by omega), qe (by omega), e1]
    · rw [ql hw, if_neg hw]
      exact last
  · rw [dif_neg hj, ql (by omega)]
    exact last⟩
theorem qWU : Sound Tryz.prog 233 qln := qt (tt := tt) (Γ := qjp) hT (qg qW7 (qg qW9 qo)) hm (fn := Tryz.f233) Tryz.func233 (c := Tryz.f233.body.getD .skip) (by kernel_rfl) (by kernel_rfl) fun x hx => by
  obtain ⟨N, h⟩ := q0R x.1 x.2.1 hx
  exact ⟨qcN N, zam, qw _, q4l N, (q7a N x.1 x.2.1).trans h⟩
noncomputable def qfq (N : Nat) (v2 : Int) (v3 : List (Val qa)) (v5 : Int) (v6 : Int) (k0 : (List (Val qa)) → Option (qb [i33])) : Nat → Int → (List (Val qa)) → Option (qb [i33])
  | 0, _, _ => none
  | n + 1, v4, v7 => bif (decide (v4 < (v3.length : Int))) then (chk (0 ≤ v4 ∧ v4 < (v3.length : Int)) (chk (qk4 (v3.getD v4.toNat (qc qa))) (bif ((qbQ (v3.getD v4.toNat (qc qa))) : Bool) then (chk (0 ≤ v4 ∧ v4 < (v3.length : Int)) (bif (!((qgh (v3.getD v4.toNat (qc qa))) : Bool)) then (chk (qcV v2) (some ((((qaQ v2).1 : Int), ((qaQ v2).2 : List (Val qa))), ()))) else (qfq N v2 v3 v5 v6 k0 n (IntKind.i64.wrap (v4 + (1 : Int))) v7))) else (chk (0 ≤ v4 ∧ v4 < (v3.length : Int)) (chk (qba (v3.getD v4.toNat (qc qa))) (chk (qhn v7 (((idA (v3.getD v4.toNat (qc qa))).1 : List (Val (.int .i64))), (((idA (v3.getD v4.toNat (qc qa))).2).1 : Int), (((idA (v3.getD v4.toNat (qc qa))).2).2 : Bool))) (qfq N v2 v3 v5 v6 k0 n (IntKind.i64.wrap (v4 + (1 : Int))) ((qgb v7 (((idA (v3.getD v4.toNat (qc qa))).1 : List (Val (.int .i64))), (((idA (v3.getD v4.toNat (qc qa))).2).1 : Int), (((idA (v3.getD v4.toNat (qc qa))).2).2 : Bool))) : List (Val qa))))))))) else (k0 v7)
noncomputable def qvJ (N : Nat) (v0 : Int) (v1 : List (Val qa)) : Option (qb [i33]) := qfq N v0 v1 (0 : Int) v0 (fun (v9 : List (Val qa)) => some ((v0, v9), ())) N (0 : Int) ([] : List (Val qa))
def qek : Gam := [(209, qcM), (229, qfp), (232, qlo), (233, qln), (234, qdy)]
theorem qLD : Gam.get qek 209 = some qcM := rfl
theorem qCO : Gam.get qek 229 = some qfp := rfl
theorem qPk : Gam.get qek 232 = some qlo := rfl
theorem qNp : Gam.get qek 233 = some qln := rfl
theorem qOD : Gam.get qek 234 = some qdy := rfl
def qmr : Nm := ⟨[true, true, false, false, true, true, true], [.nsb 5 1 108 qa], false⟩
theorem qOA : qmr.zero = false := rfl
theorem qM3 : qmr.fix = [.nsb 5 1 108 qa] := rfl
theorem qLG : qmr.keep = [true, true, false, false, true, true, true] := rfl
def qu9 : Nm := ⟨[false, false, false, false, true, true], [], false⟩
theorem qKp : qu9.zero = false := rfl
theorem qKC : qu9.fix = [] := rfl
theorem qL9 : qu9.keep = [false, false, false, false, true, true] := rfl
def qwv : Nm := ⟨[true, true, false, false, true, true, true], [], false⟩
theorem qGw : qwv.zero = false := rfl
theorem qCY : qwv.fix = [] := rfl
theorem qJB : qwv.keep = [true, true, false, false, true, true, true] := rfl
def qkb : Nat → Tree := fun i => if i = 8 then .quiet 2 (.quiet 3 (.quiet 4 (.quiet 5 (.alt 0 (.alt 1 (.alt 6 (.alt 7 (.quiet 8 (.alt 9 .done .stop)) .stop) .stop) (.alt 6 (.quiet 1 (.alt 7 (.quiet 8 (.alt 9 .done .stop)) .stop)) .stop)) (.alt 6 (.quiet 0 (.quiet 1 (.alt 7 (.quiet 8 (.alt 9 .done .stop)) .stop))) .stop))))) else .done
def qnl : Nat → Nm := fun i => if i = 3 then qmr else ⟨[], [], false⟩
def qqt : Nat → Option Jn := fun _ => none
def qqb : Nat → Option Nm := fun i => if i = 0 then some qu9 else none
def qoF : Nat → Option Nm := fun i => if i = 8 then some qwv else none
theorem zbs : qj qkb (Tryz.f150.body.getD .skip) = true := by kernel_rfl
def qcO (N : Nat) : Tab := { tr := qkb, lp := qnl, ex := qqb, rg := qoF, jn := qqt, fuel := N }
theorem qIP (N : Nat) : (qcO N).pins = false := rfl
theorem qYY (N : Nat) : qk Tryz.prog (qcO N) := qp fun _ => rfl
theorem qEI (N : Nat) (i : Nat) : (qcO N).tr i = qkb i := rfl
theorem qP8 (N : Nat) (i : Nat) : (qcO N).lp i = qnl i := rfl
theorem qOl (N : Nat) (i : Nat) : (qcO N).ex i = qqb i := rfl
theorem qJu (N : Nat) (i : Nat) : (qcO N).rg i = qoF i := rfl
theorem qA8 (N : Nat) (i : Nat) : (qcO N).jn i = qqt i := rfl
theorem qDt (N : Nat) : (qcO N).fuel = N := rfl
noncomputable def qSn : Code := cut [true, true, false, true, true, true] (Tryz.f150.body.getD .skip)
theorem q4L {N : Nat} {Q : X → St → Option (qb [i33])} {e : List LV} {h : List Blk} : qf tt qek (qcO N) qSn Q ⟨e, h⟩ = qf tt qek (qcO N) (cut [true, true, false, true, true, true] (Tryz.f150.body.getD .skip)) Q ⟨e, h⟩ := rfl
theorem q1p (N : Nat) (v2 : Int) (v3 : List (Val qa)) (v5 : Int) (v6 : Int) {k0 : (List (Val qa)) → Option (qb [i33])} {Q : X → St → Option (qb [i33])} {c : Code} (hc : c = qSn) (hret : ∀ st, Q .ret st = qE tt false [i33] [.cell 4 33] st) (h0 : ∀ (v8 : List (Val qa)), Q (.exit 0) ⟨[u, u, u, u, .one (.ptr 0 0 0), .one (.ptr 1 0 0), u, u, u, u, u, u, u, u, u, u, u, u, u, u, u, u, u, u, u, u, u, u, u, u, u, u, u, u, u, u, u, u], [.box [.int .i64 v5, .nils], .box [.int .i64 v6, .sl 108 qa v8 2]]⟩ = k0 v8) : ∀ (n : Nat) (v4 : Int) (v7 : List (Val qa)), qF (qf tt qek (qcO N) c) false qmr Q n ⟨[.one (.int .i64 v2), .one (.sl 108 qa v3 2), u, u, .one (.ptr 0 0 0), .one (.ptr 1 0 0), .one (.int .i64 v4), u, u, u, u, u, u, u, u, u, u, u, u, u, u, u, u, u, u, u, u, u, u, u, u, u, u, u, u, u, u, u], [.box [.int .i64 v5, .nils], .box [.int .i64 v6, .sl 108 qa v7 2]]⟩ = qfq N v2 v3 v5 v6 k0 n v4 v7 := by
  subst hc; intro n; induction n with
  | zero => intros; rfl
  | succ n ih =>
    intro v4 v7
    rw [qM, q4L, qfq]; unfold Tryz.f150
    simp (maxSteps := 10000000) -implicitDefEqProofs [qEI, qkb, qP8, qnl, qOl, qqb, qJu, qoF, qA8, qqt, qDt, qIP, qM3, qLG, qOA, qKC, qL9, qKp, qCY, qJB, qGw, qLD, qCO, qPk, qNp, qOD, qcM, qfp, qlo, qln, qdy, hret, h0, ih]
theorem qZN (N : Nat) (v0 : Int) (v1 : List (Val qa)) : qf tt qek (qcO N) (Tryz.f150.body.getD .skip) (qm tt false [i33] [.cell 4 33]) (qq [i3, i31] 38 (v0, v1, ())) = qvJ N v0 v1 := by
  unfold Tryz.f150
  simp (maxSteps := 10000000) -implicitDefEqProofs [qEI, qkb, qP8, qnl, qOl, qqb, qJu, qoF, qA8, qqt, qDt, qIP, qM3, qLG, qOA, qKC, qL9, qKp, qCY, qJB, qGw, qLD, qCO, qPk, qNp, qOD, qcM, qfp, qlo, qln, qdy]
  rewrite [q1p (k0 := (fun (v9 : List (Val qa)) => some ((v0, v9), ()))) N _ _ _ _ ?_ ?_ ?_]
  · rewrite [qvJ]; first | rfl | simp (maxSteps := 10000000) -implicitDefEqProofs []
  · rfl
  · intro; simp only [qK, qJ, qL, qC]
  · intro v9; simp (maxSteps := 10000000) -implicitDefEqProofs [qEI, qkb, qP8, qnl, qOl, qqb, qJu, qoF, qA8, qqt, qDt, qIP, qM3, qLG, qOA, qKC, qL9, qKp, qCY, qJB, qGw, qLD, qCO, qPk, qNp, qOD, qcM, qfp, qlo, qln, qdy]
def qaq : G := { ps := [i3, i31], rs := [i33], dp := false, pre := fun x => qaX x.1 x.2.1, fn := fun x => (qr x.1 x.2.1, ()) }
theorem qMX : ∀ (l : List Atm) (a : Atm), (qaz l a).length ≤ l.length + 1
  | [], _ => by simp [qaz]
  | b :: r, a => by
    have := qMX r a
    simp only [qaz]
    split
    · simp; omega
    · split
      · split <;> simp
      · simp
theorem qCc {ρ : Type} {d : Int} {r : Option ρ} {k : List (Val qa) → Option ρ} : ∀ (xs : List (Val qa)) (i : Nat) (s : List (Val qa)), s.length + xs.length ≤ 1048576 → (∀ b ∈ s, okA b ∧ (List.length (α := Int) b.1 : Int) = d) → (∀ b ∈ xs, okA b ∧ (List.length (α := Int) b.1 : Int) = d) →
    qS (fun _ (x : Val qa) (s : List (Val qa)) K => bif qbQ x then (bif !qgh x then r else K s) else chk (qhn s x) (K (qgb s x))) i xs s k = bif xs.any qci then r else k ((xs.filter qab).foldl qaz s)
  | [], _, s, _, _, _ => by rw [qS]; simp
  | x :: xs, i, s, h, hs, hx => by
    simp only [List.length_cons] at h
    have hx0 := hx x (by simp)
    rw [qS, List.any_cons, q2u]
    cases hn : qbQ x with
    | true =>
      have hv : qab x = false := by simpa [qbQ] using hn
      cases ht : qgh x with
      | false => simp
      | true =>
        simp only [cond_true, Bool.not_true, cond_false, Bool.and_false, Bool.false_or]
        rw [qCc xs (i + 1) s (by omega) hs fun b hb => hx b (by simp [hb])]
        simp [hv]
    | false =>
      have hv : qab x = true := by simpa [qbQ] using hn
      simp only [cond_false, Bool.false_and, Bool.false_or]
      rw [qe (show qhn s x from ⟨by omega, hx0.1, fun b hb => ⟨(hs b hb).1, by have := (hs b hb).2; have := hx0.2; omega⟩⟩)]
      have hl : (qgb s x).length ≤ s.length + 1 := qMX s x
      rw [qCc xs (i + 1) (qgb s x) (by omega) (fun b hb => ?_) fun b hb => hx b (by simp [hb])]
      · simp only [List.filter_cons, hv, if_true, List.foldl_cons]
        rfl
      · rcases qqQ hb with rfl | hb
        · exact hx0
        · exact hs b hb
theorem zc4 (N : Nat) (d : Int) (l : List (Val qa)) (K : List (Val qa) → Option (qb [i33])) (h : okL d l) (n : Nat) (hn : l.length < n) (s : List (Val qa)) : qfq N d l 0 d K n 0 s = qS (fun _ (x : Val qa) (s : List (Val qa)) K => bif qbQ x then (bif !qgh x then some (qaQ d, ()) else K s) else chk (qhn s x) (K (qgb s x))) 0 l s K :=
  qax (xs := l) (F := fun n i s => qfq N d l 0 d K n i s) h.2.1 (fun n i s hi => by
    obtain ⟨ha, hlen⟩ := h.2.2 _ (List.getElem_mem hi)
    have h4 := (qa5 ha).1
    have hd' := h.1
    rw [qfq, qn (by omega), qe (by omega), qG hi, qe (show qk4 _ from ha), qe (by omega), qe (show qcV d from ⟨hd'.1, by omega⟩), qe (by omega), qe (show qba _ from by unfold qba; omega)]
    rfl) (fun n i s hi => by rw [qfq, ql (by omega)]) n s hn
theorem q1w (d : Int) (l : List (Val qa)) (h : qaX d l) : ∃ N, qvJ N d l = some (qr d l, ()) := ⟨l.length + 1, by
  rw [qvJ, zc4 _ _ _ _ h _ (Nat.lt_succ_self _)]
  refine (qCc (d := d) l 0 [] (by simpa using h.2.1) (by simp) h.2.2).trans ?_
  rw [qr]
  cases l.any qci <;> rfl⟩
theorem qoV : Sound Tryz.prog 150 qaq := qt (tt := tt) (Γ := qek) hT (qg qU6 (qg qUN (qg q4K (qg qWU (qg qUF qo))))) hm (fn := Tryz.f150) Tryz.func150 (c := Tryz.f150.body.getD .skip) (by kernel_rfl) (by kernel_rfl) fun x hx => by
  obtain ⟨N, h⟩ := q1w x.1 x.2.1 hx
  exact ⟨qcO N, zbs, qw _, qYY N, (qZN N x.1 x.2.1).trans h⟩
end Go.T
