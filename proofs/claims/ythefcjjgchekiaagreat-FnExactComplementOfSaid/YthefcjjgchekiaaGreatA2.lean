/- Whole numbers; atoms; cells; relations: what the functions compute. -/
import Derived.Test.YthefcjjgchekiaaGreatA1
set_option linter.unusedSimpArgs false
set_option linter.unusedVariables false
namespace Go.T
open Go Go.Proofs
set_option maxHeartbeats 1000000
set_option maxRecDepth 100000
def inI (n : Int) : Prop := -9223372036854775807 ≤ n ∧ n ≤ 9223372036854775807
def qbT (n : Int) : Int := (n.natAbs : Int)
def qc9 (n : Int) : Prop := inI n
def qbn (a b : Int) : Int := (Nat.gcd a.natAbs b.natAbs : Nat)
def qdH (a b : Int) : Prop := inI a ∧ inI b
def qbR (xs : List (Val (.int .i64))) (k : Int) : Int := (gL k.natAbs xs : Nat)
def qd7 (xs : List (Val (.int .i64))) (k : Int) : Prop := xs.length ≤ 1048576 ∧ inI k ∧ ∀ x ∈ xs, inI x
def qaB (xs : List (Val (.int .i64))) : Int := (gL 0 xs : Nat)
def qee (xs : List (Val (.int .i64))) : Prop := xs.length ≤ 1048576 ∧ ∀ x ∈ xs, inI x
def qaV (n : Int) : Bool := decide (-400000000 ≤ n ∧ n ≤ 400000000)
def inR (x a b : Int) : Bool := decide (a ≤ x ∧ x ≤ b)
def qlU : G := { ps := [i3], rs := [i3], dp := true, pre := fun x => qc9 x.1, fn := fun x => (qbT x.1, ()) }
noncomputable def qzI (N : Nat) (v0 : Int) : Option (qb [i3]) := bif (decide (v0 < (0 : Int))) then (some ((IntKind.i64.wrap (0 - v0)), ())) else (some (v0, ()))
def qSR : Gam := []
def qyR : Nat → Tree := fun _ => .done
def qLn : Nat → Nm := fun _ => ⟨[], [], false⟩
def qG2 : Nat → Option Jn := fun _ => none
def qBZ : Nat → Option Nm := fun _ => none
def qQk : Nat → Option Nm := fun _ => none
theorem q77 : qj qyR (Tryz.f313.body.getD .skip) = true := by kernel_rfl
def qdT (N : Nat) : Tab := { tr := qyR, lp := qLn, ex := qBZ, rg := qQk, jn := qG2, fuel := N }
theorem zdl (N : Nat) : (qdT N).pins = false := rfl
theorem zbH (N : Nat) : qk Tryz.prog (qdT N) := qp fun _ => rfl
theorem qZW (N : Nat) (i : Nat) : (qdT N).tr i = qyR i := rfl
theorem za0 (N : Nat) (i : Nat) : (qdT N).lp i = qLn i := rfl
theorem q3r (N : Nat) (i : Nat) : (qdT N).ex i = qBZ i := rfl
theorem qVv (N : Nat) (i : Nat) : (qdT N).rg i = qQk i := rfl
theorem q2v (N : Nat) (i : Nat) : (qdT N).jn i = qG2 i := rfl
theorem qW0 (N : Nat) : (qdT N).fuel = N := rfl
theorem zbd (N : Nat) (v0 : Int) : qf tt qSR (qdT N) (Tryz.f313.body.getD .skip) (qm tt true [i3] [.tmp 2]) (qq [i3] 8 (v0, ())) = qzI N v0 := by
  rw [qzI]; unfold Tryz.f313
  simp (maxSteps := 10000000) -implicitDefEqProofs [qZW, qyR, za0, qLn, q3r, qBZ, qVv, qQk, q2v, qG2, qW0, zdl]
  try rfl
theorem zfF (n : Int) (h : inI n) : ∃ N, qzI N n = some (qbT n, ()) := ⟨0, by
  unfold inI at h
  simp only [qzI, qbT]
  by_cases h0 : n < 0
  · have e : IntKind.i64.wrap (0 - n) = (n.natAbs : Int) := by rw [qaH (by omega) (by omega)]; omega
    simp only [h0, decide_true, cond_true, e]
  · have e : (n.natAbs : Int) = n := by omega
    simp [h0, e]⟩
theorem zcy : Sound Tryz.prog 313 qlU := qt (tt := tt) (Γ := qSR) hT qo hm (fn := Tryz.f313) Tryz.func313 (c := Tryz.f313.body.getD .skip) (by kernel_rfl) (by kernel_rfl) fun x hx => by
  obtain ⟨N, h⟩ := zfF x.1 hx
  exact ⟨qdT N, q77, qw _, zbH N, (zbd N x.1).trans h⟩
noncomputable def qkD (N : Nat)  (k0 : Int → Option (qb [i3])) : Nat → Int → Int → Option (qb [i3])
  | 0, _, _ => none
  | n + 1, v2, v3 => bif (!(decide (v3 = (0 : Int)))) then (chk (v3 ≠ 0) (qkD N  k0 n v3 (v2.tmod v3))) else (k0 v2)
noncomputable def qv5 (N : Nat) (v0 : Int) (v1 : Int) : Option (qb [i3]) := chk (qc9 v0) (chk (qc9 v1) (qkD N  (fun (v5 : Int) => some (v5, ())) N ((qbT v0) : Int) ((qbT v1) : Int)))
def qlp : Gam := [(313, qlU)]
theorem qKx : Gam.get qlp 313 = some qlU := rfl
def qs6 : Nm := ⟨[true, true], [], false⟩
theorem qLB : qs6.zero = false := rfl
theorem qIJ : qs6.fix = [] := rfl
theorem qB0 : qs6.keep = [true, true] := rfl
def qz4 : Nm := ⟨[true], [], false⟩
theorem qBL : qz4.zero = false := rfl
theorem qM6 : qz4.fix = [] := rfl
theorem qP2 : qz4.keep = [true] := rfl
def qlP : Nat → Tree := fun i => if i = 3 then .quiet 0 (.quiet 1 (.quiet 2 (.quiet 3 (.quiet 4 (.quiet 5 .done))))) else .done
def qpu : Nat → Nm := fun i => if i = 2 then qs6 else ⟨[], [], false⟩
def qo8 : Nat → Option Jn := fun _ => none
def qmN : Nat → Option Nm := fun i => if i = 0 then some qz4 else none
def qrL : Nat → Option Nm := fun _ => none
theorem q2E : qj qlP (Tryz.f280.body.getD .skip) = true := by kernel_rfl
def qcw (N : Nat) : Tab := { tr := qlP, lp := qpu, ex := qmN, rg := qrL, jn := qo8, fuel := N }
theorem qDF (N : Nat) : (qcw N).pins = false := rfl
theorem zb7 (N : Nat) : qk Tryz.prog (qcw N) := qp fun _ => rfl
theorem qHG (N : Nat) (i : Nat) : (qcw N).tr i = qlP i := rfl
theorem qME (N : Nat) (i : Nat) : (qcw N).lp i = qpu i := rfl
theorem qKy (N : Nat) (i : Nat) : (qcw N).ex i = qmN i := rfl
theorem qIU (N : Nat) (i : Nat) : (qcw N).rg i = qrL i := rfl
theorem qPS (N : Nat) (i : Nat) : (qcw N).jn i = qo8 i := rfl
theorem qLj (N : Nat) : (qcw N).fuel = N := rfl
noncomputable def qRg : Code := cut [true, true, false, true, true] (Tryz.f280.body.getD .skip)
theorem zaV {N : Nat} {Q : X → St → Option (qb [i3])} {e : List LV} {h : List Blk} : qf tt qlp (qcw N) qRg Q ⟨e, h⟩ = qf tt qlp (qcw N) (cut [true, true, false, true, true] (Tryz.f280.body.getD .skip)) Q ⟨e, h⟩ := rfl
theorem q4k (N : Nat)  {k0 : Int → Option (qb [i3])} {Q : X → St → Option (qb [i3])} {c : Code} (hc : c = qRg) (hret : ∀ st, Q .ret st = qE tt true [i3] [.tmp 4] st) (h0 : ∀ (v4 : Int), Q (.exit 0) ⟨[.one (.int .i64 v4), u, u, u, u, u, u, u, u, u, u, u, u, u, u, u], []⟩ = k0 v4) : ∀ (n : Nat) (v2 : Int) (v3 : Int), qF (qf tt qlp (qcw N) c) false qs6 Q n ⟨[.one (.int .i64 v2), .one (.int .i64 v3), u, u, u, u, u, u, u, u, u, u, u, u, u, u], []⟩ = qkD N  k0 n v2 v3 := by
  subst hc; intro n; induction n with
  | zero => intros; rfl
  | succ n ih =>
    intro v2 v3
    rw [qM, zaV, qkD]; unfold Tryz.f280
    simp (maxSteps := 10000000) -implicitDefEqProofs [qHG, qlP, qME, qpu, qKy, qmN, qIU, qrL, qPS, qo8, qLj, qDF, qIJ, qB0, qLB, qM6, qP2, qBL, qKx, qlU, hret, h0, ih]
theorem qXj (N : Nat) (v0 : Int) (v1 : Int) : qf tt qlp (qcw N) (Tryz.f280.body.getD .skip) (qm tt true [i3] [.tmp 4]) (qq [i3, i3] 16 (v0, v1, ())) = qv5 N v0 v1 := by
  unfold Tryz.f280
  simp (maxSteps := 10000000) -implicitDefEqProofs [qHG, qlP, qME, qpu, qKy, qmN, qIU, qrL, qPS, qo8, qLj, qDF, qIJ, qB0, qLB, qM6, qP2, qBL, qKx, qlU]
  rewrite [q4k (k0 := (fun (v5 : Int) => some (v5, ()))) N  ?_ ?_ ?_]
  · rewrite [qv5]; first | rfl | simp (maxSteps := 10000000) -implicitDefEqProofs []
  · rfl
  · intro; simp only [qK, qJ, qL, qC]
  · intro v5; simp (maxSteps := 10000000) -implicitDefEqProofs [qHG, qlP, qME, qpu, qKy, qmN, qIU, qrL, qPS, qo8, qLj, qDF, qIJ, qB0, qLB, qM6, qP2, qBL, qKx, qlU]
theorem qRR (N : Nat) (k : Int → Option (qb [i3])) : ∀ (n a b : Nat), b < n → qkD N k n (a : Int) (b : Int) = k (Nat.gcd a b : Nat)
  | 0, _, _, h => by omega
  | n + 1, a, b, h => by
    rw [qkD]
    by_cases hb : b = 0
    · subst hb; simp
    · have hb' : ¬ ((b : Int) = 0) := by omega
      have hlt : a % b < b := Nat.mod_lt _ (by omega)
      have hm : ((a : Int).tmod (b : Int)) = ((a % b : Nat) : Int) := by rw [Int.tmod_eq_emod_of_nonneg (by omega)]; rfl
      simp only [hb', decide_false, Bool.not_false, cond_true, ne_eq, not_false_eq_true, qRC]
      rw [hm, qRR N k n b (a % b) (by omega)]
      congr 2
      rw [Nat.gcd_comm b, ← Nat.gcd_rec, Nat.gcd_comm]
def qbA : G := { ps := [i3, i3], rs := [i3], dp := true, pre := fun x => qdH x.1 x.2.1, fn := fun x => (qbn x.1 x.2.1, ()) }
theorem q2J (a b : Int) (h : qdH a b) : ∃ N, qv5 N a b = some (qbn a b, ()) := ⟨b.natAbs + 1, by
  rw [qv5, qe (show qc9 a from h.1), qe (show qc9 b from h.2)]
  simp only [qbT]
  rw [qRR _ _ _ _ _ (Nat.lt_succ_self _)]
  rfl⟩
theorem qHX : Sound Tryz.prog 280 qbA := qt (tt := tt) (Γ := qlp) hT (qg zcy qo) hm (fn := Tryz.f280) Tryz.func280 (c := Tryz.f280.body.getD .skip) (by kernel_rfl) (by kernel_rfl) fun x hx => by
  obtain ⟨N, h⟩ := q2J x.1 x.2.1 hx
  exact ⟨qcw N, q2E, qw _, zb7 N, (qXj N x.1 x.2.1).trans h⟩
theorem qRX {g : Nat} {x : Int} (hg : (g : Int) ≤ 9223372036854775807) (hx : inI x) : qdH (g : Int) x ∧ ((Nat.gcd g x.natAbs : Nat) : Int) ≤ 9223372036854775807 := by
  refine ⟨⟨⟨by omega, hg⟩, hx⟩, ?_⟩
  unfold inI at hx
  by_cases h0 : x.natAbs = 0
  · rw [h0]; simpa using hg
  · have := Nat.gcd_le_right (m := g) (n := x.natAbs) (by omega)
    omega
theorem qUW {ρ : Type} : ∀ (xs : List Int) (i g : Nat) (k : Int → Option ρ), (g : Int) ≤ 9223372036854775807 → (∀ x ∈ xs, inI x) → qS (fun _ x s K => chk (qdH s x) (K (qbn s x))) i xs (g : Int) k = k (gL g xs : Nat)
  | [], _, _, _, _, _ => rfl
  | x :: xs, i, g, k, hg, hx => by
    obtain ⟨h1, h2⟩ := qRX hg (hx x (by simp))
    rw [qS, qe h1]
    exact qUW xs (i + 1) _ k h2 fun y hy => hx y (by simp [hy])
noncomputable def qh0 (N : Nat) (v2 : List (Val (.int .i64))) (v3 : Int) (k0 : Int → Option (qb [i3])) : Nat → Int → Int → Option (qb [i3])
  | 0, _, _ => none
  | n + 1, v1, v4 => bif (decide (v4 < v3)) then (chk (0 ≤ v4 ∧ v4 < (v2.length : Int)) (chk (qdH v1 ((v2.getD v4.toNat (qc (.int .i64))) : Int)) (qh0 N v2 v3 k0 n ((qbn v1 ((v2.getD v4.toNat (qc (.int .i64))) : Int)) : Int) (IntKind.i64.wrap (v4 + (1 : Int)))))) else (k0 v1)
noncomputable def qxM (N : Nat) (v0 : List (Val (.int .i64))) : Option (qb [i3]) := qh0 N v0 (v0.length : Int) (fun (v6 : Int) => some (v6, ())) N (0 : Int) (0 : Int)
def qlT : Gam := [(280, qbA)]
theorem qJ5 : Gam.get qlT 280 = some qbA := rfl
def qta : Nm := ⟨[false, false, false, true, false, false, true, true, true], [], false⟩
theorem qFc : qta.zero = false := rfl
theorem qL5 : qta.fix = [] := rfl
theorem qMi : qta.keep = [false, false, false, true, false, false, true, true, true] := rfl
def qwe : Nm := ⟨[false, false, false, true], [], false⟩
theorem qFI : qwe.zero = false := rfl
theorem qDh : qwe.fix = [] := rfl
theorem qMR : qwe.keep = [false, false, false, true] := rfl
def qlA : Nat → Tree := fun _ => .done
def qsN : Nat → Nm := fun i => if i = 3 then qta else ⟨[], [], false⟩
def qmn : Nat → Option Jn := fun _ => none
def qoc : Nat → Option Nm := fun i => if i = 0 then some qwe else none
def qqz : Nat → Option Nm := fun _ => none
theorem qYT : qj qlA (Tryz.f282.body.getD .skip) = true := by kernel_rfl
def qcQ (N : Nat) : Tab := { tr := qlA, lp := qsN, ex := qoc, rg := qqz, jn := qmn, fuel := N }
theorem qLQ (N : Nat) : (qcQ N).pins = false := rfl
theorem qVz (N : Nat) : qk Tryz.prog (qcQ N) := qp fun _ => rfl
theorem qK6 (N : Nat) (i : Nat) : (qcQ N).tr i = qlA i := rfl
theorem qDz (N : Nat) (i : Nat) : (qcQ N).lp i = qsN i := rfl
theorem qFU (N : Nat) (i : Nat) : (qcQ N).ex i = qoc i := rfl
theorem qIu (N : Nat) (i : Nat) : (qcQ N).rg i = qqz i := rfl
theorem qNg (N : Nat) (i : Nat) : (qcQ N).jn i = qmn i := rfl
theorem qFu (N : Nat) : (qcQ N).fuel = N := rfl
noncomputable def qTX : Code := cut [true, true, false, true, true, true] (Tryz.f282.body.getD .skip)
theorem qX3 {N : Nat} {Q : X → St → Option (qb [i3])} {e : List LV} {h : List Blk} : qf tt qlT (qcQ N) qTX Q ⟨e, h⟩ = qf tt qlT (qcQ N) (cut [true, true, false, true, true, true] (Tryz.f282.body.getD .skip)) Q ⟨e, h⟩ := rfl
theorem zfh (N : Nat) (v2 : List (Val (.int .i64))) (v3 : Int) {k0 : Int → Option (qb [i3])} {Q : X → St → Option (qb [i3])} {c : Code} (hc : c = qTX) (hret : ∀ st, Q .ret st = qE tt true [i3] [.tmp 2] st) (h0 : ∀ (v5 : Int), Q (.exit 0) ⟨[u, u, u, .one (.int .i64 v5), u, u, u, u, u, u, u, u, u, u, u, u, u], []⟩ = k0 v5) : ∀ (n : Nat) (v1 : Int) (v4 : Int), qF (qf tt qlT (qcQ N) c) false qta Q n ⟨[u, u, u, .one (.int .i64 v1), u, u, .one (.sl 3 (.int .i64) v2 0), .one (.int .i64 v3), .one (.int .i64 v4), u, u, u, u, u, u, u, u], []⟩ = qh0 N v2 v3 k0 n v1 v4 := by
  subst hc; intro n; induction n with
  | zero => intros; rfl
  | succ n ih =>
    intro v1 v4
    rw [qM, qX3, qh0]; unfold Tryz.f282
    simp (maxSteps := 10000000) -implicitDefEqProofs [qK6, qlA, qDz, qsN, qFU, qoc, qIu, qqz, qNg, qmn, qFu, qLQ, qL5, qMi, qFc, qDh, qMR, qFI, qJ5, qbA, hret, h0, ih]
theorem q2W (N : Nat) (v0 : List (Val (.int .i64))) : qf tt qlT (qcQ N) (Tryz.f282.body.getD .skip) (qm tt true [i3] [.tmp 2]) (qq [i25] 17 (v0, ())) = qxM N v0 := by
  unfold Tryz.f282
  simp (maxSteps := 10000000) -implicitDefEqProofs [qK6, qlA, qDz, qsN, qFU, qoc, qIu, qqz, qNg, qmn, qFu, qLQ, qL5, qMi, qFc, qDh, qMR, qFI, qJ5, qbA]
  rewrite [zfh (k0 := (fun (v6 : Int) => some (v6, ()))) N _ _ ?_ ?_ ?_]
  · rewrite [qxM]; first | rfl | simp (maxSteps := 10000000) -implicitDefEqProofs []
  · rfl
  · intro; simp only [qK, qJ, qL, qC]
  · intro v6; simp (maxSteps := 10000000) -implicitDefEqProofs [qK6, qlA, qDz, qsN, qFU, qoc, qIu, qqz, qNg, qmn, qFu, qLQ, qL5, qMi, qFc, qDh, qMR, qFI, qJ5, qbA]
def qbk : G := { ps := [i25], rs := [i3], dp := true, pre := fun x => qee x.1, fn := fun x => (qaB x.1, ()) }
theorem q4G (xs : List (Val (.int .i64))) (h : qee xs) : ∃ N, qxM N xs = some (qaB xs, ()) := ⟨xs.length + 1, by
  rw [qxM]
  rw [qax (F := fun n i s => qh0 _ xs xs.length _ n s i) (step := fun _ x s K => chk (qdH s x) (K (qbn s x))) (k := fun s => some (s, ())) h.1 ?_ ?_ _ _ (Nat.lt_succ_self _)]
  · exact qUW xs 0 0 _ (by omega) h.2
  · intro n i s hi
    rw [qh0, qn (by omega), qe (by omega), qG hi]
  · intro n i s hi
    rw [qh0, ql (by omega)]⟩
theorem qv1 : Sound Tryz.prog 282 qbk := qt (tt := tt) (Γ := qlT) hT (qg qHX qo) hm (fn := Tryz.f282) Tryz.func282 (c := Tryz.f282.body.getD .skip) (by kernel_rfl) (by kernel_rfl) fun x hx => by
  obtain ⟨N, h⟩ := q4G x.1 hx
  exact ⟨qcQ N, qYT, qw _, qVz N, (q2W N x.1).trans h⟩
def qfK : G := { ps := [i3], rs := [i3], dp := true, pre := fun x => qc9 x.1, fn := fun x => (qbT x.1, ()) }
noncomputable def qva (N : Nat) (v0 : Int) : Option (qb [i3]) := some ((max v0 (IntKind.i64.wrap (0 - v0))), ())
def qQD : Gam := []
def qzO : Nat → Tree := fun _ => .done
def qQh : Nat → Nm := fun _ => ⟨[], [], false⟩
def qLq : Nat → Option Jn := fun _ => none
def qBd : Nat → Option Nm := fun _ => none
def qFK : Nat → Option Nm := fun _ => none
theorem q03 : qj qzO (Tryz.f278.body.getD .skip) = true := by kernel_rfl
def qez (N : Nat) : Tab := { tr := qzO, lp := qQh, ex := qBd, rg := qFK, jn := qLq, fuel := N }
theorem zc6 (N : Nat) : (qez N).pins = false := rfl
theorem zcj (N : Nat) : qk Tryz.prog (qez N) := qp fun _ => rfl
theorem qX6 (N : Nat) (i : Nat) : (qez N).tr i = qzO i := rfl
theorem q0j (N : Nat) (i : Nat) : (qez N).lp i = qQh i := rfl
theorem q3f (N : Nat) (i : Nat) : (qez N).ex i = qBd i := rfl
theorem zd0 (N : Nat) (i : Nat) : (qez N).rg i = qFK i := rfl
theorem q75 (N : Nat) (i : Nat) : (qez N).jn i = qLq i := rfl
theorem q1d (N : Nat) : (qez N).fuel = N := rfl
theorem q4i (N : Nat) (v0 : Int) : qf tt qQD (qez N) (Tryz.f278.body.getD .skip) (qm tt true [i3] [.tmp 2]) (qq [i3] 7 (v0, ())) = qva N v0 := by
  rw [qva]; unfold Tryz.f278
  simp (maxSteps := 10000000) -implicitDefEqProofs [qX6, qzO, q0j, qQh, q3f, qBd, zd0, qFK, q75, qLq, q1d, zc6]
  try rfl
theorem qYr (n : Int) (h : inI n) : ∃ N, qva N n = some (qbT n, ()) := ⟨0, by
  unfold inI at h
  rw [qva, qaH (by omega) (by omega)]
  have e : max n (0 - n) = qbT n := by unfold qbT; omega
  rw [e]⟩
theorem qYz : Sound Tryz.prog 278 qfK := qt (tt := tt) (Γ := qQD) hT qo hm (fn := Tryz.f278) Tryz.func278 (c := Tryz.f278.body.getD .skip) (by kernel_rfl) (by kernel_rfl) fun x hx => by
  obtain ⟨N, h⟩ := qYr x.1 hx
  exact ⟨qez N, q03, qw _, zcj N, (q4i N x.1).trans h⟩
noncomputable def qvM (N : Nat) (v0 : Int) (v1 : Int) (v2 : Int) : Option (qb [i4]) := bif (decide (v1 ≤ v0)) then (some ((decide (v0 ≤ v2)), ())) else (some (false, ()))
def qSb : Gam := []
def qwO : Nat → Tree := fun _ => .done
def qPe : Nat → Nm := fun _ => ⟨[], [], false⟩
def qJA : Nat → Option Jn := fun _ => none
def qO9 : Nat → Option Nm := fun _ => none
def qIT : Nat → Option Nm := fun _ => none
theorem zbp : qj qwO (Tryz.f118.body.getD .skip) = true := by kernel_rfl
def qeh (N : Nat) : Tab := { tr := qwO, lp := qPe, ex := qO9, rg := qIT, jn := qJA, fuel := N }
theorem zaX (N : Nat) : (qeh N).pins = false := rfl
theorem q4R (N : Nat) : qk Tryz.prog (qeh N) := qp fun _ => rfl
theorem zaE (N : Nat) (i : Nat) : (qeh N).tr i = qwO i := rfl
theorem zbl (N : Nat) (i : Nat) : (qeh N).lp i = qPe i := rfl
theorem qV5 (N : Nat) (i : Nat) : (qeh N).ex i = qO9 i := rfl
theorem q6e (N : Nat) (i : Nat) : (qeh N).rg i = qIT i := rfl
theorem q4Q (N : Nat) (i : Nat) : (qeh N).jn i = qJA i := rfl
theorem q49 (N : Nat) : (qeh N).fuel = N := rfl
theorem za2 (N : Nat) (v0 : Int) (v1 : Int) (v2 : Int) : qf tt qSb (qeh N) (Tryz.f118.body.getD .skip) (qm tt true [i4] [.tmp 6]) (qq [i3, i3, i3] 15 (v0, v1, v2, ())) = qvM N v0 v1 v2 := by
  rw [qvM]; unfold Tryz.f118
  simp (maxSteps := 10000000) -implicitDefEqProofs [zaE, qwO, zbl, qPe, qV5, qO9, q6e, qIT, q4Q, qJA, q49, zaX]
  try rfl
def qbh : G := { ps := [i3, i3, i3], rs := [i4], dp := true, pre := fun _ => True, fn := fun x => (inR x.1 x.2.1 x.2.2.1, ()) }
theorem q9E (x a b : Int) : ∃ N, qvM N x a b = some (inR x a b, ()) := ⟨0, by
  simp only [qvM, inR]
  by_cases h1 : a ≤ x <;> by_cases h2 : x ≤ b <;> simp [h1, h2]⟩
theorem qwV : Sound Tryz.prog 118 qbh := qt (tt := tt) (Γ := qSb) hT qo hm (fn := Tryz.f118) Tryz.func118 (c := Tryz.f118.body.getD .skip) (by kernel_rfl) (by kernel_rfl) fun x hx => by
  obtain ⟨N, h⟩ := q9E x.1 x.2.1 x.2.2.1
  exact ⟨qeh N, zbp, qw _, q4R N, (za2 N x.1 x.2.1 x.2.2.1).trans h⟩
noncomputable def qx8 (N : Nat) (v0 : Int) : Option (qb [i4]) := some (((inR v0 (-400000000 : Int) (400000000 : Int)) : Bool), ())
def qHI : Gam := [(118, qbh)]
theorem qXQ : Gam.get qHI 118 = some qbh := rfl
def qvQ : Nat → Tree := fun _ => .done
def qG6 : Nat → Nm := fun _ => ⟨[], [], false⟩
def qKN : Nat → Option Jn := fun _ => none
def qBa : Nat → Option Nm := fun _ => none
def qM1 : Nat → Option Nm := fun _ => none
theorem q7t : qj qvQ (Tryz.f194.body.getD .skip) = true := by kernel_rfl
def qdN (N : Nat) : Tab := { tr := qvQ, lp := qG6, ex := qBa, rg := qM1, jn := qKN, fuel := N }
theorem q4d (N : Nat) : (qdN N).pins = false := rfl
theorem qZ5 (N : Nat) : qk Tryz.prog (qdN N) := qp fun _ => rfl
theorem zfm (N : Nat) (i : Nat) : (qdN N).tr i = qvQ i := rfl
theorem qYN (N : Nat) (i : Nat) : (qdN N).lp i = qG6 i := rfl
theorem zfC (N : Nat) (i : Nat) : (qdN N).ex i = qBa i := rfl
theorem qZt (N : Nat) (i : Nat) : (qdN N).rg i = qM1 i := rfl
theorem q8m (N : Nat) (i : Nat) : (qdN N).jn i = qKN i := rfl
theorem q2l (N : Nat) : (qdN N).fuel = N := rfl
theorem q3z (N : Nat) (v0 : Int) : qf tt qHI (qdN N) (Tryz.f194.body.getD .skip) (qm tt true [i4] [.tmp 2]) (qq [i3] 5 (v0, ())) = qx8 N v0 := by
  rw [qx8]; unfold Tryz.f194
  simp (maxSteps := 10000000) -implicitDefEqProofs [zfm, qvQ, qYN, qG6, zfC, qBa, qZt, qM1, q8m, qKN, q2l, q4d, qXQ, qbh]
  try rfl
noncomputable def qtT (N : Nat) (v0 : Int) : Option (qb [i4]) := bif (decide ((-400000000 : Int) ≤ v0)) then (some ((decide (v0 ≤ (400000000 : Int))), ())) else (some (false, ()))
def qRj : Gam := []
def qtY : Nat → Tree := fun _ => .done
def qFQ : Nat → Nm := fun _ => ⟨[], [], false⟩
def qH3 : Nat → Option Jn := fun _ => none
def qBz : Nat → Option Nm := fun _ => none
def qEA : Nat → Option Nm := fun _ => none
theorem zdN : qj qtY (Tryz.f204.body.getD .skip) = true := by kernel_rfl
def qeu (N : Nat) : Tab := { tr := qtY, lp := qFQ, ex := qBz, rg := qEA, jn := qH3, fuel := N }
theorem zaM (N : Nat) : (qeu N).pins = false := rfl
theorem q70 (N : Nat) : qk Tryz.prog (qeu N) := qp fun _ => rfl
theorem qZj (N : Nat) (i : Nat) : (qeu N).tr i = qtY i := rfl
theorem q2O (N : Nat) (i : Nat) : (qeu N).lp i = qFQ i := rfl
theorem qX7 (N : Nat) (i : Nat) : (qeu N).ex i = qBz i := rfl
theorem zci (N : Nat) (i : Nat) : (qeu N).rg i = qEA i := rfl
theorem zeB (N : Nat) (i : Nat) : (qeu N).jn i = qH3 i := rfl
theorem zeE (N : Nat) : (qeu N).fuel = N := rfl
theorem qWn (N : Nat) (v0 : Int) : qf tt qRj (qeu N) (Tryz.f204.body.getD .skip) (qm tt true [i4] [.tmp 2]) (qq [i3] 9 (v0, ())) = qtT N v0 := by
  rw [qtT]; unfold Tryz.f204
  simp (maxSteps := 10000000) -implicitDefEqProofs [qZj, qtY, q2O, qFQ, qX7, qBz, zci, qEA, zeB, qH3, zeE, zaM]
  try rfl
def qkr : G := { ps := [i3], rs := [i4], dp := true, pre := fun _ => True, fn := fun x => (qaV x.1, ()) }
def qjX : G := { ps := [i3], rs := [i4], dp := true, pre := fun _ => True, fn := fun x => (qaV x.1, ()) }
theorem zdn (x : Int) : ∃ N, qx8 N x = some (qaV x, ()) := ⟨0, by
  simp only [qx8, inR, qaV]⟩
theorem zff : Sound Tryz.prog 194 qkr := qt (tt := tt) (Γ := qHI) hT (qg qwV qo) hm (fn := Tryz.f194) Tryz.func194 (c := Tryz.f194.body.getD .skip) (by kernel_rfl) (by kernel_rfl) fun x hx => by
  obtain ⟨N, h⟩ := zdn x.1
  exact ⟨qdN N, q7t, qw _, qZ5 N, (q3z N x.1).trans h⟩
theorem qXF (x : Int) : ∃ N, qtT N x = some (qaV x, ()) := ⟨0, by
  simp only [qtT, qaV]
  by_cases h1 : -400000000 ≤ x <;> by_cases h2 : x ≤ 400000000 <;> simp [h1, h2]⟩
theorem q9H : Sound Tryz.prog 204 qjX := qt (tt := tt) (Γ := qRj) hT qo hm (fn := Tryz.f204) Tryz.func204 (c := Tryz.f204.body.getD .skip) (by kernel_rfl) (by kernel_rfl) fun x hx => by
  obtain ⟨N, h⟩ := qXF x.1
  exact ⟨qeu N, zdN, qw _, q70 N, (qWn N x.1).trans h⟩
noncomputable def qc7 (N : Nat) (v11 : List (Val (.int .i64))) (v13 : Int) (k2 : Int → Option (qb [i3])) : Nat → Int → Int → Option (qb [i3])
  | 0, _, _ => none
  | n + 1, v12, v14 => bif (!(decide (v14 = (0 : Int)))) then (chk (v14 ≠ 0) (qc7 N v11 v13 k2 n v14 (v12.tmod v14))) else (k2 v12)
noncomputable def qfR (N : Nat) (v2 : List (Val (.int .i64))) (k0 : Int → Option (qb [i3])) : Nat → Int → Int → Option (qb [i3])
  | 0, _, _ => none
  | n + 1, v3, v4 => bif (decide (v4 < (v2.length : Int))) then (chk (0 ≤ v4 ∧ v4 < (v2.length : Int)) (chk (qc9 ((v2.getD v4.toNat (qc (.int .i64))) : Int)) (qc7 N v2 v4 (fun (v16 : Int) => qfR N v2 k0 n v16 (IntKind.i64.wrap (v4 + (1 : Int)))) N v3 ((qbT ((v2.getD v4.toNat (qc (.int .i64))) : Int)) : Int)))) else (k0 v3)
noncomputable def qx5 (N : Nat) (v0 : List (Val (.int .i64))) (v1 : Int) : Option (qb [i3]) := chk (qc9 v1) (qfR N v0 (fun (v18 : Int) => some (v18, ())) N ((qbT v1) : Int) (0 : Int))
def qfd : Gam := [(278, qfK)]
theorem qmH : Gam.get qfd 278 = some qfK := rfl
def qr8 : Nm := ⟨[true, false, false, false, false, true, true, true], [], false⟩
theorem qm4 : qr8.zero = false := rfl
theorem qqN : qr8.fix = [] := rfl
theorem qqi : qr8.keep = [true, false, false, false, false, true, true, true] := rfl
def qsW : Nm := ⟨[true, false, false, false, false, true, true], [], false⟩
theorem qoa : qsW.zero = false := rfl
theorem qpH : qsW.fix = [] := rfl
theorem qqK : qsW.keep = [true, false, false, false, false, true, true] := rfl
def qxC : Nm := ⟨[false, false, false, false, false, true], [], false⟩
theorem qmB : qxC.zero = false := rfl
theorem qpf : qxC.fix = [] := rfl
theorem qs9 : qxC.keep = [false, false, false, false, false, true] := rfl
def qzJ : Nm := ⟨[true, false, false, false, false, true, true], [], false⟩
theorem qnf : qzJ.zero = false := rfl
theorem qqD : qzJ.fix = [] := rfl
theorem qmI : qzJ.keep = [true, false, false, false, false, true, true] := rfl
def qgs : Nat → Tree := fun i => if i = 7 then .quiet 0 (.quiet 1 (.quiet 2 (.quiet 3 (.quiet 4 (.quiet 5 .done))))) else .done
def qjH : Nat → Nm := fun i => if i = 6 then qr8 else if i = 3 then qsW else ⟨[], [], false⟩
def qid : Nat → Option Jn := fun _ => none
def qhh : Nat → Option Nm := fun i => if i = 0 then some qxC else if i = 2 then some qzJ else none
def qiD : Nat → Option Nm := fun _ => none
theorem q6d : qj qgs (Tryz.f231.body.getD .skip) = true := by kernel_rfl
def qbO (N : Nat) : Tab := { tr := qgs, lp := qjH, ex := qhh, rg := qiD, jn := qid, fuel := N }
theorem qs2 (N : Nat) : (qbO N).pins = false := rfl
theorem zeL (N : Nat) : qk Tryz.prog (qbO N) := qp fun _ => rfl
theorem qq5 (N : Nat) (i : Nat) : (qbO N).tr i = qgs i := rfl
theorem qri (N : Nat) (i : Nat) : (qbO N).lp i = qjH i := rfl
theorem qr9 (N : Nat) (i : Nat) : (qbO N).ex i = qhh i := rfl
theorem qp4 (N : Nat) (i : Nat) : (qbO N).rg i = qiD i := rfl
theorem qrw (N : Nat) (i : Nat) : (qbO N).jn i = qid i := rfl
theorem qtr (N : Nat) : (qbO N).fuel = N := rfl
noncomputable def qVk : Code := cut [true, true, false, true, true, true, true, false, true, true, true, true] (Tryz.f231.body.getD .skip)
theorem qYA {N : Nat} {Q : X → St → Option (qb [i3])} {e : List LV} {h : List Blk} : qf tt qfd (qbO N) qVk Q ⟨e, h⟩ = qf tt qfd (qbO N) (cut [true, true, false, true, true, true, true, false, true, true, true, true] (Tryz.f231.body.getD .skip)) Q ⟨e, h⟩ := rfl
theorem za5 (N : Nat) (v11 : List (Val (.int .i64))) (v13 : Int) {k2 : Int → Option (qb [i3])} {Q : X → St → Option (qb [i3])} {c : Code} (hc : c = qVk) (hret : ∀ st, Q .ret st = qE tt true [i3] [.tmp 4] st) (h2 : ∀ (v15 : Int), Q (.exit 2) ⟨[.one (.sl 3 (.int .i64) v11 0), u, u, u, u, .one (.int .i64 v15), .one (.int .i64 v13), u, u, u, u, u, u, u, u, u, u, u, u, u, u, u, u, u, u, u, u, u], []⟩ = k2 v15) : ∀ (n : Nat) (v12 : Int) (v14 : Int), qF (qf tt qfd (qbO N) c) false qr8 Q n ⟨[.one (.sl 3 (.int .i64) v11 0), u, u, u, u, .one (.int .i64 v12), .one (.int .i64 v13), .one (.int .i64 v14), u, u, u, u, u, u, u, u, u, u, u, u, u, u, u, u, u, u, u, u], []⟩ = qc7 N v11 v13 k2 n v12 v14 := by
  subst hc; intro n; induction n with
  | zero => intros; rfl
  | succ n ih =>
    intro v12 v14
    rw [qM, qYA, qc7]; unfold Tryz.f231
    simp (maxSteps := 10000000) -implicitDefEqProofs [qq5, qgs, qri, qjH, qr9, qhh, qp4, qiD, qrw, qid, qtr, qs2, qqN, qqi, qm4, qpH, qqK, qoa, qpf, qs9, qmB, qqD, qmI, qnf, qmH, qfK, hret, h2, ih]
noncomputable def qTj : Code := cut [true, true, false, true, true, true] (Tryz.f231.body.getD .skip)
theorem q0u {N : Nat} {Q : X → St → Option (qb [i3])} {e : List LV} {h : List Blk} : qf tt qfd (qbO N) qTj Q ⟨e, h⟩ = qf tt qfd (qbO N) (cut [true, true, false, true, true, true] (Tryz.f231.body.getD .skip)) Q ⟨e, h⟩ := rfl
theorem q1Q (N : Nat) (v2 : List (Val (.int .i64))) {k0 : Int → Option (qb [i3])} {Q : X → St → Option (qb [i3])} {c : Code} (hc : c = qTj) (hret : ∀ st, Q .ret st = qE tt true [i3] [.tmp 4] st) (h0 : ∀ (v17 : Int), Q (.exit 0) ⟨[u, u, u, u, u, .one (.int .i64 v17), u, u, u, u, u, u, u, u, u, u, u, u, u, u, u, u, u, u, u, u, u, u], []⟩ = k0 v17) : ∀ (n : Nat) (v3 : Int) (v4 : Int), qF (qf tt qfd (qbO N) c) false qsW Q n ⟨[.one (.sl 3 (.int .i64) v2 0), u, u, u, u, .one (.int .i64 v3), .one (.int .i64 v4), u, u, u, u, u, u, u, u, u, u, u, u, u, u, u, u, u, u, u, u, u], []⟩ = qfR N v2 k0 n v3 v4 := by
  subst hc; intro n; induction n with
  | zero => intros; rfl
  | succ n ih =>
    intro v3 v4
    rw [qM, q0u]; unfold Tryz.f231
    simp (maxSteps := 10000000) -implicitDefEqProofs [qq5, qgs, qri, qjH, qr9, qhh, qp4, qiD, qrw, qid, qtr, qs2, qqN, qqi, qm4, qpH, qqK, qoa, qpf, qs9, qmB, qqD, qmI, qnf, qmH, qfK, hret, h0, ih]
    rewrite [za5 (k2 := (fun (v16 : Int) => qfR N v2 k0 n v16 (IntKind.i64.wrap (v4 + (1 : Int))))) N _ _ ?_ ?_ ?_]
    · rewrite [qfR]; first | rfl | simp (maxSteps := 10000000) -implicitDefEqProofs [ih]
    · rfl
    · intro; simp only [qK, qJ, qL, qC, hret]
    · intro v16; simp (maxSteps := 10000000) -implicitDefEqProofs [qq5, qgs, qri, qjH, qr9, qhh, qp4, qiD, qrw, qid, qtr, qs2, qqN, qqi, qm4, qpH, qqK, qoa, qpf, qs9, qmB, qqD, qmI, qnf, qmH, qfK, hret, h0, ih]
theorem q3B (N : Nat) (v0 : List (Val (.int .i64))) (v1 : Int) : qf tt qfd (qbO N) (Tryz.f231.body.getD .skip) (qm tt true [i3] [.tmp 4]) (qq [i25, i3] 28 (v0, v1, ())) = qx5 N v0 v1 := by
  unfold Tryz.f231
  simp (maxSteps := 10000000) -implicitDefEqProofs [qq5, qgs, qri, qjH, qr9, qhh, qp4, qiD, qrw, qid, qtr, qs2, qqN, qqi, qm4, qpH, qqK, qoa, qpf, qs9, qmB, qqD, qmI, qnf, qmH, qfK]
  rewrite [q1Q (k0 := (fun (v18 : Int) => some (v18, ()))) N _ ?_ ?_ ?_]
  · rewrite [qx5]; first | rfl | simp (maxSteps := 10000000) -implicitDefEqProofs []
  · rfl
  · intro; simp only [qK, qJ, qL, qC]
  · intro v18; simp (maxSteps := 10000000) -implicitDefEqProofs [qq5, qgs, qri, qjH, qr9, qhh, qp4, qiD, qrw, qid, qtr, qs2, qqN, qqi, qm4, qpH, qqK, qoa, qpf, qs9, qmB, qqD, qmI, qnf, qmH, qfK]
theorem qTc (N : Nat) (xs : List (Val (.int .i64))) (v : Int) (k : Int → Option (qb [i3])) : ∀ (n b a : Nat), b < n → qc7 N xs v k n (a : Int) (b : Int) = k (Nat.gcd a b : Nat)
  | 0, _, _, h => by omega
  | n + 1, b, a, h => by
    rw [qc7]
    by_cases hb : b = 0
    · subst hb; simp
    · have hb' : ¬ ((b : Int) = 0) := by omega
      have hlt : a % b < b := Nat.mod_lt _ (by omega)
      have hm : ((a : Int).tmod (b : Int)) = ((a % b : Nat) : Int) := by rw [Int.tmod_eq_emod_of_nonneg (by omega)]; rfl
      simp only [hb', decide_false, Bool.not_false, cond_true, ne_eq, not_false_eq_true, qRC]
      rw [hm, qTc N xs v k n (a % b) b (by omega)]
      congr 2
      rw [Nat.gcd_comm b, ← Nat.gcd_rec, Nat.gcd_comm]
theorem qSv (N : Nat) (xs : List (Val (.int .i64))) (v v' : Int) (k : Int → Option (qb [i3])) : ∀ (n : Nat) (a b : Int), qc7 N xs v k n a b = qc7 N xs v' k n a b
  | 0, _, _ => rfl
  | n + 1, a, b => by rw [qc7, qc7, qSv N xs v v' k n]
theorem qRH (N : Nat) (hN : 9223372036854775807 < N) (ys : List (Val (.int .i64))) : ∀ (xs : List Int) (i g : Nat) (k : Int → Option (qb [i3])), (∀ x ∈ xs, inI x) → qS (fun _ x s K => chk (qc9 x) (qc7 N ys 0 K N s (qbT x))) i xs (g : Int) k = k (gL g xs : Nat)
  | [], _, _, _, _ => rfl
  | x :: xs, i, g, k, hx => by
    have h1 := hx x (by simp)
    rw [qS, qe (show qc9 x from h1)]
    simp only [qbT]
    rw [qTc _ _ _ _ _ _ _ (by unfold inI at h1; omega)]
    exact qRH N hN ys xs (i + 1) _ k fun y hy => hx y (by simp [hy])
def qcc : G := { ps := [i25, i3], rs := [i3], dp := true, pre := fun x => qd7 x.1 x.2.1, fn := fun x => (qbR x.1 x.2.1, ()) }
theorem q00 (xs : List (Val (.int .i64))) (k : Int) (h : qd7 xs k) : ∃ N, qx5 N xs k = some (qbR xs k, ()) := ⟨9223372036854775808 + xs.length, by
  rw [qx5, qe (show qc9 k from h.2.1)]
  rw [qax (F := fun n i s => qfR _ xs _ n s i) (step := fun _ x s K => chk (qc9 x) (qc7 (9223372036854775808 + xs.length) xs 0 K (9223372036854775808 + xs.length) s (qbT x))) (k := fun s => some (s, ())) h.1 ?_ ?_ _ _ (by omega)]
  · exact qRH _ (by omega) xs xs 0 k.natAbs _ h.2.2
  · intro n i s hi
    rw [qfR, qn (by omega), qe (by omega), qG hi]
    congr 1
    exact qSv ..
  · intro n i s hi
    rw [qfR, ql (by omega)]⟩
theorem qKz : Sound Tryz.prog 231 qcc := qt (tt := tt) (Γ := qfd) hT (qg qYz qo) hm (fn := Tryz.f231) Tryz.func231 (c := Tryz.f231.body.getD .skip) (by kernel_rfl) (by kernel_rfl) fun x hx => by
  obtain ⟨N, h⟩ := q00 x.1 x.2.1 hx
  exact ⟨qbO N, q6d, qw _, zeL N, (q3B N x.1 x.2.1).trans h⟩
def qD (a : Val qa) : Bool := decide ((a.1 : List Int).length ≤ 4) && qaV a.2.1 && (a.1 : List Int).all qaV && decide (((gL (Int.natAbs a.2.1) a.1 : Nat) : Int) ≤ 1)
noncomputable def qfV (N : Nat) (v2 : List (Val (.int .i64))) (v3 : Int) (v4 : Bool) (k0 : Unit → Option (qb [i4])) : Nat → Int → Option (qb [i4])
  | 0, _ => none
  | n + 1, v1 => bif (decide (v1 < (v2.length : Int))) then (chk (0 ≤ v1 ∧ v1 < (v2.length : Int)) (bif (!((qaV ((v2.getD v1.toNat (qc (.int .i64))) : Int)) : Bool)) then (some (false, ())) else (qfV N v2 v3 v4 k0 n (IntKind.i64.wrap (v1 + (1 : Int)))))) else (k0 ())
noncomputable def qwM (N : Nat) (v0 : Val qa) : Option (qb [i4]) := bif (decide ((4 : Int) < ((v0.1 : List (Val (.int .i64))).length : Int))) then (some (false, ())) else (bif (!((qaV (v0.2.1 : Int)) : Bool)) then (some (false, ())) else (qfV N (v0.1 : List (Val (.int .i64))) (v0.2.1 : Int) (v0.2.2 : Bool) (fun (_ : Unit) => chk (qd7 (v0.1 : List (Val (.int .i64))) (v0.2.1 : Int)) (some ((decide (((qbR (v0.1 : List (Val (.int .i64))) (v0.2.1 : Int)) : Int) ≤ (1 : Int))), ()))) N (0 : Int)))
def qiz : Gam := [(194, qkr), (231, qcc)]
theorem qKV : Gam.get qiz 194 = some qkr := rfl
theorem qO6 : Gam.get qiz 231 = some qcc := rfl
def qmf : Nm := ⟨[false, true, false, true], [], false⟩
theorem qPP : qmf.zero = false := rfl
theorem qOT : qmf.fix = [] := rfl
theorem qCF : qmf.keep = [false, true, false, true] := rfl
def qAb : Nm := ⟨[false, true], [], false⟩
theorem qIB : qAb.zero = false := rfl
theorem qK3 : qAb.fix = [] := rfl
theorem qEF : qAb.keep = [false, true] := rfl
def qjJ : Nat → Tree := fun _ => .done
def qoz : Nat → Nm := fun i => if i = 4 then qmf else ⟨[], [], false⟩
def qm0 : Nat → Option Jn := fun _ => none
def qpb : Nat → Option Nm := fun i => if i = 0 then some qAb else none
def qqr : Nat → Option Nm := fun _ => none
theorem zbq : qj qjJ (Tryz.f193.body.getD .skip) = true := by kernel_rfl
def qc0 (N : Nat) : Tab := { tr := qjJ, lp := qoz, ex := qpb, rg := qqr, jn := qm0, fuel := N }
theorem qL0 (N : Nat) : (qc0 N).pins = false := rfl
theorem q6G (N : Nat) : qk Tryz.prog (qc0 N) := qp fun _ => rfl
theorem qKF (N : Nat) (i : Nat) : (qc0 N).tr i = qjJ i := rfl
theorem qKn (N : Nat) (i : Nat) : (qc0 N).lp i = qoz i := rfl
theorem qF4 (N : Nat) (i : Nat) : (qc0 N).ex i = qpb i := rfl
theorem qBc (N : Nat) (i : Nat) : (qc0 N).rg i = qqr i := rfl
theorem qNG (N : Nat) (i : Nat) : (qc0 N).jn i = qm0 i := rfl
theorem qN9 (N : Nat) : (qc0 N).fuel = N := rfl
noncomputable def qSZ : Code := cut [true, true, false, true, true, true] (Tryz.f193.body.getD .skip)
theorem qXU {N : Nat} {Q : X → St → Option (qb [i4])} {e : List LV} {h : List Blk} : qf tt qiz (qc0 N) qSZ Q ⟨e, h⟩ = qf tt qiz (qc0 N) (cut [true, true, false, true, true, true] (Tryz.f193.body.getD .skip)) Q ⟨e, h⟩ := rfl
theorem q8D (N : Nat) (v2 : List (Val (.int .i64))) (v3 : Int) (v4 : Bool) {k0 : Unit → Option (qb [i4])} {Q : X → St → Option (qb [i4])} {c : Code} (hc : c = qSZ) (hret : ∀ st, Q .ret st = qE tt true [i4] [.tmp 2] st) (h0 : Q (.exit 0) ⟨[u, .one (.ptr 0 0 0), u, u, u, u, u, u, u, u, u, u, u, u, u, u, u, u, u, u, u, u, u, u, u, u, u, u, u, u, u, u, u, u], [.box [.sl 3 (.int .i64) v2 1, .int .i64 v3, .bool v4]]⟩ = k0 ()) : ∀ (n : Nat) (v1 : Int), qF (qf tt qiz (qc0 N) c) false qmf Q n ⟨[u, .one (.ptr 0 0 0), u, .one (.int .i64 v1), u, u, u, u, u, u, u, u, u, u, u, u, u, u, u, u, u, u, u, u, u, u, u, u, u, u, u, u, u, u], [.box [.sl 3 (.int .i64) v2 1, .int .i64 v3, .bool v4]]⟩ = qfV N v2 v3 v4 k0 n v1 := by
  subst hc; intro n; induction n with
  | zero => intros; rfl
  | succ n ih =>
    intro v1
    rw [qM, qXU, qfV]; unfold Tryz.f193
    simp (maxSteps := 10000000) -implicitDefEqProofs [qKF, qjJ, qKn, qoz, qF4, qpb, qBc, qqr, qNG, qm0, qN9, qL0, qOT, qCF, qPP, qK3, qEF, qIB, qKV, qO6, qkr, qcc, hret, h0, ih]
theorem zaZ (N : Nat) (v0 : Val qa) : qf tt qiz (qc0 N) (Tryz.f193.body.getD .skip) (qm tt true [i4] [.tmp 2]) (qq [qi] 34 (v0, ())) = qwM N v0 := by
  unfold Tryz.f193
  simp (maxSteps := 10000000) -implicitDefEqProofs [qKF, qjJ, qKn, qoz, qF4, qpb, qBc, qqr, qNG, qm0, qN9, qL0, qOT, qCF, qPP, qK3, qEF, qIB, qKV, qO6, qkr, qcc]
  rewrite [q8D (k0 := (fun (_ : Unit) => chk (qd7 (v0.1 : List (Val (.int .i64))) (v0.2.1 : Int)) (some ((decide (((qbR (v0.1 : List (Val (.int .i64))) (v0.2.1 : Int)) : Int) ≤ (1 : Int))), ())))) N _ _ _ ?_ ?_ ?_]
  · rewrite [qwM]; first | rfl | simp (maxSteps := 10000000) -implicitDefEqProofs []
  · rfl
  · intro; simp only [qK, qJ, qL, qC]
  · simp (maxSteps := 10000000) -implicitDefEqProofs [qKF, qjJ, qKn, qoz, qF4, qpb, qBc, qqr, qNG, qm0, qN9, qL0, qOT, qCF, qPP, qK3, qEF, qIB, qKV, qO6, qkr, qcc]
noncomputable def qf9 (N : Nat) (v1 : List (Val (.int .i64))) (v2 : Int) (v4 : List (Val (.int .i64))) (v5 : Int) (v6 : Bool) (k0 : Unit → Option (qb [i4])) : Nat → Int → Option (qb [i4])
  | 0, _ => none
  | n + 1, v3 => bif (decide (v3 < v2)) then (chk (0 ≤ v3 ∧ v3 < (v1.length : Int)) (bif (!((qaV ((v1.getD v3.toNat (qc (.int .i64))) : Int)) : Bool)) then (some (false, ())) else (qf9 N v1 v2 v4 v5 v6 k0 n (IntKind.i64.wrap (v3 + (1 : Int)))))) else (k0 ())
noncomputable def qxE (N : Nat) (v0 : Val qa) : Option (qb [i4]) := bif (decide ((4 : Int) < ((v0.1 : List (Val (.int .i64))).length : Int))) then (some (false, ())) else (bif (!((qaV (v0.2.1 : Int)) : Bool)) then (some (false, ())) else (qf9 N (v0.1 : List (Val (.int .i64))) ((v0.1 : List (Val (.int .i64))).length : Int) (v0.1 : List (Val (.int .i64))) (v0.2.1 : Int) (v0.2.2 : Bool) (fun (_ : Unit) => chk (qee (v0.1 : List (Val (.int .i64)))) (chk (qdH ((qaB (v0.1 : List (Val (.int .i64)))) : Int) (v0.2.1 : Int)) (some ((decide (((qbn ((qaB (v0.1 : List (Val (.int .i64)))) : Int) (v0.2.1 : Int)) : Int) ≤ (1 : Int))), ())))) N (0 : Int)))
def qfF : Gam := [(204, qjX), (280, qbA), (282, qbk)]
theorem qJT : Gam.get qfF 204 = some qjX := rfl
theorem qPs : Gam.get qfF 280 = some qbA := rfl
theorem qEk : Gam.get qfF 282 = some qbk := rfl
def qp0 : Nm := ⟨[false, true, false, false, false, false, false, false, false, false, false, false, false, false, false, false, true, true, true], [], false⟩
theorem qE8 : qp0.zero = false := rfl
theorem qIH : qp0.fix = [] := rfl
theorem qAh : qp0.keep = [false, true, false, false, false, false, false, false, false, false, false, false, false, false, false, false, true, true, true] := rfl
def qvt : Nm := ⟨[false, true], [], false⟩
theorem qJJ : qvt.zero = false := rfl
theorem qOg : qvt.fix = [] := rfl
theorem qHK : qvt.keep = [false, true] := rfl
def qv7 : Nm := ⟨[false, false, true], [], false⟩
theorem qEo : qv7.zero = false := rfl
theorem qAw : qv7.fix = [] := rfl
theorem qMp : qv7.keep = [false, false, true] := rfl
def qkn : Nat → Tree := fun i => if i = 9 then .quiet 0 (.quiet 1 (.alt 2 (.quiet 3 (.quiet 4 (.alt 5 (.quiet 6 (.quiet 7 .done)) .stop))) (.alt 3 (.alt 2 (.quiet 4 (.alt 5 (.quiet 6 (.quiet 7 .done)) .stop)) (.alt 4 (.alt 2 (.alt 5 (.quiet 6 (.quiet 7 .done)) .stop) .stop) .stop)) .stop))) else .done
def qtb : Nat → Nm := fun i => if i = 4 then qp0 else ⟨[], [], false⟩
def qol : Nat → Option Jn := fun _ => none
def qpO : Nat → Option Nm := fun i => if i = 0 then some qvt else none
def qsp : Nat → Option Nm := fun i => if i = 9 then some qv7 else none
theorem zbo : qj qkn (Tryz.f279.body.getD .skip) = true := by kernel_rfl
def qcz (N : Nat) : Tab := { tr := qkn, lp := qtb, ex := qpO, rg := qsp, jn := qol, fuel := N }
theorem qE5 (N : Nat) : (qcz N).pins = false := rfl
theorem q2h (N : Nat) : qk Tryz.prog (qcz N) := qp fun _ => rfl
theorem qN1 (N : Nat) (i : Nat) : (qcz N).tr i = qkn i := rfl
theorem qFE (N : Nat) (i : Nat) : (qcz N).lp i = qtb i := rfl
theorem qKI (N : Nat) (i : Nat) : (qcz N).ex i = qpO i := rfl
theorem qDc (N : Nat) (i : Nat) : (qcz N).rg i = qsp i := rfl
theorem qLC (N : Nat) (i : Nat) : (qcz N).jn i = qol i := rfl
theorem qKi (N : Nat) : (qcz N).fuel = N := rfl
noncomputable def qRz : Code := cut [true, true, false, true, true, true] (Tryz.f279.body.getD .skip)
theorem qVK {N : Nat} {Q : X → St → Option (qb [i4])} {e : List LV} {h : List Blk} : qf tt qfF (qcz N) qRz Q ⟨e, h⟩ = qf tt qfF (qcz N) (cut [true, true, false, true, true, true] (Tryz.f279.body.getD .skip)) Q ⟨e, h⟩ := rfl
theorem zcS (N : Nat) (v1 : List (Val (.int .i64))) (v2 : Int) (v4 : List (Val (.int .i64))) (v5 : Int) (v6 : Bool) {k0 : Unit → Option (qb [i4])} {Q : X → St → Option (qb [i4])} {c : Code} (hc : c = qRz) (hret : ∀ st, Q .ret st = qE tt true [i4] [.tmp 2] st) (h0 : Q (.exit 0) ⟨[u, .one (.ptr 0 0 0), u, u, u, u, u, u, u, u, u, u, u, u, u, u, u, u, u, u, u, u, u, u, u, u, u, u, u, u, u, u, u], [.box [.sl 3 (.int .i64) v4 1, .int .i64 v5, .bool v6]]⟩ = k0 ()) : ∀ (n : Nat) (v3 : Int), qF (qf tt qfF (qcz N) c) false qp0 Q n ⟨[u, .one (.ptr 0 0 0), u, u, u, u, u, u, u, u, u, u, u, u, u, u, .one (.sl 3 (.int .i64) v1 1), .one (.int .i64 v2), .one (.int .i64 v3), u, u, u, u, u, u, u, u, u, u, u, u, u, u], [.box [.sl 3 (.int .i64) v4 1, .int .i64 v5, .bool v6]]⟩ = qf9 N v1 v2 v4 v5 v6 k0 n v3 := by
  subst hc; intro n; induction n with
  | zero => intros; rfl
  | succ n ih =>
    intro v3
    rw [qM, qVK, qf9]; unfold Tryz.f279
    simp (maxSteps := 10000000) -implicitDefEqProofs [qN1, qkn, qFE, qtb, qKI, qpO, qDc, qsp, qLC, qol, qKi, qE5, qIH, qAh, qE8, qOg, qHK, qJJ, qAw, qMp, qEo, qJT, qPs, qEk, qjX, qbA, qbk, hret, h0, ih]
theorem q6h (N : Nat) (v0 : Val qa) : qf tt qfF (qcz N) (Tryz.f279.body.getD .skip) (qm tt true [i4] [.tmp 2]) (qq [qi] 33 (v0, ())) = qxE N v0 := by
  unfold Tryz.f279
  simp (maxSteps := 10000000) -implicitDefEqProofs [qN1, qkn, qFE, qtb, qKI, qpO, qDc, qsp, qLC, qol, qKi, qE5, qIH, qAh, qE8, qOg, qHK, qJJ, qAw, qMp, qEo, qJT, qPs, qEk, qjX, qbA, qbk]
  rewrite [zcS (k0 := (fun (_ : Unit) => chk (qee (v0.1 : List (Val (.int .i64)))) (chk (qdH ((qaB (v0.1 : List (Val (.int .i64)))) : Int) (v0.2.1 : Int)) (some ((decide (((qbn ((qaB (v0.1 : List (Val (.int .i64)))) : Int) (v0.2.1 : Int)) : Int) ≤ (1 : Int))), ()))))) N _ _ _ _ _ ?_ ?_ ?_]
  · rewrite [qxE]; first | rfl | simp (maxSteps := 10000000) -implicitDefEqProofs []
  · rfl
  · intro; simp only [qK, qJ, qL, qC]
  · simp (maxSteps := 10000000) -implicitDefEqProofs [qN1, qkn, qFE, qtb, qKI, qpO, qDc, qsp, qLC, qol, qKi, qE5, qIH, qAh, qE8, qOg, qHK, qJJ, qAw, qMp, qEo, qJT, qPs, qEk, qjX, qbA, qbk]
theorem qnz {n : Int} (h : qaV n = true) : inI n := by
  unfold qaV at h; unfold inI; have := of_decide_eq_true h; omega
def qaY : G := { ps := [qi], rs := [i4], dp := true, pre := fun _ => True, fn := fun x => (qD x.1, ()) }
def qaD : G := { ps := [qi], rs := [i4], dp := true, pre := fun _ => True, fn := fun x => (qD x.1, ()) }
theorem zbg (N : Nat) (xs : List (Val (.int .i64))) (c : Int) (b : Bool) (K : Unit → Option (qb [i4])) (hl : xs.length ≤ 1048576) (n : Nat) (hn : xs.length < n) : qfV N xs c b K n 0 = bif List.all (α := Int) xs qaV then K () else some (false, ()) :=
  (qax (F := fun n i (_ : Unit) => qfV N xs c b K n i) (step := fun _ x _ K => bif qaV x then K () else some (false, ())) (k := K) hl (fun n i s hi => by rw [qfV, qn (by omega), qe (by omega), qG hi, qaP]) (fun n i s hi => by rw [qfV, ql (by omega)]) n () hn).trans (qfz xs 0)
theorem zeD (N : Nat) (xs ys : List (Val (.int .i64))) (c : Int) (b : Bool) (K : Unit → Option (qb [i4])) (hl : xs.length ≤ 1048576) (n : Nat) (hn : xs.length < n) : qf9 N xs xs.length ys c b K n 0 = bif List.all (α := Int) xs qaV then K () else some (false, ()) :=
  (qax (F := fun n i (_ : Unit) => qf9 N xs xs.length ys c b K n i) (step := fun _ x _ K => bif qaV x then K () else some (false, ())) (k := K) hl (fun n i s hi => by rw [qf9, qn (by omega), qe (by omega), qG hi, qaP]) (fun n i s hi => by rw [qf9, ql (by omega)]) n () hn).trans (qfz xs 0)
theorem qX2 (a : Val qa) : ∃ N, qwM N a = some (qD a, ()) := ⟨(a.1 : List (Val (.int .i64))).length + 1, by
  obtain ⟨xs, c, b⟩ := a
  change List (Val (.int .i64)) at xs
  change Int at c
  change Bool at b
  rw [qwM, qD]
  dsimp only
  by_cases h4 : xs.length ≤ 4
  · rw [ql (by omega)]
    cases hc : qaV c with
    | false => simp
    | true =>
      rw [zbg _ xs _ _ _ (by omega) _ (Nat.lt_succ_self _)]
      cases ha : List.all (α := Int) xs qaV with
      | false => simp
      | true =>
        rw [qe (show qd7 xs c from ⟨by omega, qnz hc, fun x hx => qnz (List.all_eq_true.1 ha x hx)⟩)]
        simp [h4, qbR]
        rfl
  · rw [qn (by omega)]
    simp [h4]⟩
theorem qyJ : Sound Tryz.prog 193 qaY := qt (tt := tt) (Γ := qiz) hT (qg zff (qg qKz qo)) hm (fn := Tryz.f193) Tryz.func193 (c := Tryz.f193.body.getD .skip) (by kernel_rfl) (by kernel_rfl) fun x hx => by
  obtain ⟨N, h⟩ := qX2 x.1
  exact ⟨qc0 N, zbq, qw _, q6G N, (zaZ N x.1).trans h⟩
theorem qG5 : ∀ (xs : List Int) (g : Nat), (g : Int) ≤ 9223372036854775807 → (∀ x ∈ xs, inI x) → inI (gL g xs : Nat)
  | [], g, h, _ => by unfold inI gL; omega
  | x :: xs, g, h, hx => qG5 xs _ (qRX h (hx x (by simp))).2 fun y hy => hx y (by simp [hy])
theorem q8h (a : Val qa) : ∃ N, qxE N a = some (qD a, ()) := ⟨(a.1 : List (Val (.int .i64))).length + 1, by
  obtain ⟨xs, c, b⟩ := a
  change List (Val (.int .i64)) at xs
  change Int at c
  change Bool at b
  rw [qxE, qD]
  dsimp only
  by_cases h4 : xs.length ≤ 4
  · rw [ql (by omega)]
    cases hc : qaV c with
    | false => simp
    | true =>
      rw [zeD _ xs _ _ _ _ (by omega) _ (Nat.lt_succ_self _)]
      cases ha : List.all (α := Int) xs qaV with
      | false => simp
      | true =>
        have hx : ∀ x ∈ xs, inI x := fun x hx => qnz (List.all_eq_true.1 ha x hx)
        have e : Nat.gcd (gL 0 xs) c.natAbs = gL c.natAbs xs := by rw [← qzZ, Nat.gcd_zero_left]
        rw [qe (show qee xs from ⟨by omega, hx⟩), qe (show qdH (qaB xs) c from ⟨qG5 xs 0 (by omega) hx, qnz hc⟩)]
        simp [h4, qaB, qbn, e]
  · rw [qn (by omega)]
    simp [h4]⟩
theorem qnP : Sound Tryz.prog 279 qaD := qt (tt := tt) (Γ := qfF) hT (qg q9H (qg qHX (qg qv1 qo))) hm (fn := Tryz.f279) Tryz.func279 (c := Tryz.f279.body.getD .skip) (by kernel_rfl) (by kernel_rfl) fun x hx => by
  obtain ⟨N, h⟩ := q8h x.1
  exact ⟨qcz N, zbo, qw _, q2h N, (q6h N x.1).trans h⟩
end Go.T
