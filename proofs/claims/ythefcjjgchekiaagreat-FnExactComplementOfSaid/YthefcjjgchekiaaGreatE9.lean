/- Neat regions: what the functions compute. -/
import Derived.Test.YthefcjjgchekiaaGreatE8
set_option linter.unusedSimpArgs false
set_option linter.unusedVariables false
namespace Go.T
open Go Go.Proofs
set_option maxHeartbeats 4000000
set_option maxRecDepth 100000
theorem qUS (r : Val Y50) (c : Val Y33) : List.length (α := Val Y33) (q4 r c).1.2 ≤ List.length (α := Val Y33) r.2 + 1 := by
  unfold q4
  cases (qH c).2 with
  | false => exact Nat.le_succ _
  | true =>
    cases qbJ (qH c).1 with
    | true => exact Nat.le_succ _
    | false =>
      cases decide (12 ≤ (List.length (α := Val Y33) r.2 : Int)) with
      | true => exact Nat.le_succ _
      | false => exact Nat.le_of_eq (List.length_append ..)
theorem qKQ (f : qb [i33] → qb [i33, i4]) : ∀ (cs : List (Val Y33)) (r : Val Y50), (bif (qaW f cs r).2 then some ((qaW f cs r).1, true, ()) else some (((0 : Int), ([] : List (Val Y33))), false, ()) : Option (qb [i50, i4])) = some ((qaW f cs r).1, (qaW f cs r).2, ())
  | [], r => rfl
  | c :: cs, r => by
    simp only [qaW]
    cases (f (c, ())).2.1 with
    | false => rfl
    | true =>
      cases (q4 r (f (c, ())).1).2 with
      | false => rfl
      | true => exact qKQ f cs _
theorem qRo (N : HN [i33] [i33, i4]) (xs : List (Val Y33)) (v4 : Int) (K : Int → List (Val Y33) → Option (qb [i50, i4])) (hl : xs.length ≤ 12) (hp : ∀ c ∈ xs, N.pre (c, ())) : ∀ (k i : Nat), i + k = xs.length → ∀ n, k < n → ∀ (r : Val Y50), List.length (α := Val Y33) r.2 ≤ i →
    qjD N xs xs.length v4 K n (i : Int) r.1 r.2 = bif (qaW N.fn (xs.drop i) r).2 then K (qaW N.fn (xs.drop i) r).1.1 (qaW N.fn (xs.drop i) r).1.2 else some (((0 : Int), []), false, ())
  | 0, i, hi, n + 1, _, r, _ => by
    rw [qjD, ql (by omega), List.drop_eq_nil_of_le (by omega)]
    rfl
  | k + 1, i, hi, n + 1, hn, r, hr => by
    have h1 : i < xs.length := by omega
    rw [qjD, qn (by omega), qe (by omega), qG h1, qe (hp _ (List.getElem_mem h1)), qbD h1 (by omega), qb4 h1]
    simp only [qaW]
    cases (N.fn (xs[i], ())).2.1 with
    | false => rfl
    | true =>
      simp only [Bool.not_true, cond_false, cond_true]
      rw [qe (show qhy r _ from by show _ ≤ 12; omega)]
      show (bif !(q4 r (N.fn (xs[i], ())).1).2 then _ else _) = _
      cases (q4 r (N.fn (xs[i], ())).1).2 with
      | false => rfl
      | true =>
        simp only [Bool.not_true, cond_false, cond_true]
        exact qRo N xs v4 K hl hp k (i + 1) (by omega) n (by omega) (q4 r (N.fn (xs[i], ())).1).1 (by have := qUS r (N.fn (xs[i], ())).1; omega)
theorem q67 (pre : qb [i33] → Prop) (gf : qb [i33] → qb [i33, i4]) (x : Val Y50) (fv : Value) (hx : quQ pre gf x) : ∃ n, qwI ⟨n, fv, pre, gf⟩ x = some ((qgq gf x).1, (qgq gf x).2, ()) := ⟨List.length (α := Val Y33) x.2 + 1, by
  rw [qwI]
  exact (qRo ⟨_, fv, pre, gf⟩ x.2 0 _ hx.1 hx.2 (List.length (α := Val Y33) x.2) 0 (by omega) _ (Nat.lt_succ_self _) (x.1, []) (by simp)).trans (qKQ gf x.2 (x.1, []))⟩
theorem q7Y : SoundH Tryz.prog 144 qIb := q5N (tt := tt) (Γ := qla) hT qo hm (fn := Tryz.f144) Tryz.func144 (c := Tryz.f144.body.getD .skip) (by kernel_rfl) (by kernel_rfl) fun pre gf x fv hx => by
  obtain ⟨n, h⟩ := q67 pre gf x fv hx
  exact ⟨qb8 ⟨n, fv, pre, gf⟩, _, zb1, ⟨rfl, qIM (qTN qUo qMe) qCW⟩, q7v _, (qXV ⟨n, fv, pre, gf⟩ x).trans h⟩
theorem qWl (c : Val Y33) (_ : True) : ∃ N, qA7 N c = some ((idC c).1, (idC c).2, ()) := ⟨0, rfl⟩
theorem q9d : SoundC Tryz.prog 211 qgK := zeA (tt := tt) (Γ := qTS) hT qo hm (fn := Tryz.f211) Tryz.func211 (c := Tryz.f211.body.getD .skip) (by kernel_rfl) (by kernel_rfl) fun c x hx => by
  obtain ⟨N, h⟩ := qWl  x.1 hx
  exact ⟨qdZ N, qXo, qw _, q4y N, (qVH N x.1 ).trans h⟩
theorem qYe (r : Val Y50) : ∃ N, qzN N r = some ((qap r).1, (qap r).2, ()) := ⟨0, by
  rw [qzN]
  unfold qap
  cases h : qV r with
  | false => rfl
  | true =>
    simp only [Bool.not_true, cond_false, cond_true]
    obtain ⟨_, h2, _⟩ := qb3 h
    exact qe (show quQ _ _ r from ⟨h2, fun _ _ => trivial⟩)⟩
theorem q5l : Sound Tryz.prog 133 qj5 := qt (tt := tt) (Γ := qvj) hT (qg qyB qo) hm (fn := Tryz.f133) Tryz.func133 (c := Tryz.f133.body.getD .skip) (by kernel_rfl) (by kernel_rfl) fun x hx => by
  obtain ⟨N, h⟩ := qYe x.1
  exact ⟨qdw N, qVx, qIM qMe (q9j q7Y (zaN q9d q7J) qCW), q7F N, (zdB N x.1).trans h⟩
theorem qTQ {c : Val Y33} (h : qz c = true) (r : Val Y50) : (qa8 r c).2 = (q4 r c).2 ∧ ((q4 r c).2 = true → (qa8 r c).1 = (q4 r c).1) := by
  have e : qH c = qW (qr c.1 c.2) := by unfold qH; rw [h]; rfl
  unfold qa8 q4
  rw [e]
  cases (qW (qr c.1 c.2)).2 with
  | false => exact ⟨rfl, fun h => absurd h (by simp)⟩
  | true =>
    cases qbJ (qW (qr c.1 c.2)).1 with
    | true => exact ⟨rfl, fun _ => rfl⟩
    | false =>
      simp only [cond_true, cond_false]
      by_cases hl : (12 : Int) ≤ (List.length (α := Val Y33) r.2 : Int)
      · rw [decide_eq_true hl, decide_eq_false (by omega)]
        exact ⟨rfl, fun h => absurd h (by simp)⟩
      · rw [decide_eq_false hl, decide_eq_true (by omega)]
        exact ⟨rfl, fun _ => rfl⟩
theorem qVf (N : Nat) (d : Int) (xs : List (Val Y33)) (v4 : Int) (K : Int → List (Val Y33) → Option (qb [i50, i4])) (hl : xs.length ≤ 12) (hp : ∀ c ∈ xs, qz c = true) : ∀ (k i : Nat), i + k = xs.length → ∀ n, k < n → ∀ (r : Val Y50), List.length (α := Val Y33) r.2 ≤ i →
    qgA N d xs v4 K n (i : Int) r.1 r.2 = bif (qaW idF (xs.drop i) r).2 then K (qaW idF (xs.drop i) r).1.1 (qaW idF (xs.drop i) r).1.2 else some (((0 : Int), []), false, ())
  | 0, i, hi, n + 1, _, r, _ => by
    rw [qgA, ql (by omega), List.drop_eq_nil_of_le (by omega)]
    rfl
  | k + 1, i, hi, n + 1, hn, r, hr => by
    have h1 : i < xs.length := by omega
    have hc := hp _ (List.getElem_mem h1)
    obtain ⟨e1, e2⟩ := qTQ hc r
    rw [qgA, qn (by omega), qe (by omega), qG h1, qe (show qkm r xs[i] from ⟨hc, by omega⟩), qbD h1 (by omega), qb4 h1]
    show (bif !(qa8 r xs[i]).2 then _ else qgA N d xs v4 K n _ (qa8 r xs[i]).1.1 (qa8 r xs[i]).1.2) = _
    rw [e1]
    simp only [qaW]
    show _ = bif (bif (q4 r xs[i]).2 then qaW idF (xs.drop (i + 1)) (q4 r xs[i]).1 else qaR).2 then K (bif (q4 r xs[i]).2 then qaW idF (xs.drop (i + 1)) (q4 r xs[i]).1 else qaR).1.1 (bif (q4 r xs[i]).2 then qaW idF (xs.drop (i + 1)) (q4 r xs[i]).1 else qaR).1.2 else _
    cases ha : (q4 r xs[i]).2 with
    | false => rfl
    | true =>
      simp only [Bool.not_true, cond_false, cond_true]
      rw [e2 ha]
      exact qVf N d xs v4 K hl hp k (i + 1) (by omega) n (by omega) (q4 r xs[i]).1 (by have := qUS r xs[i]; omega)
theorem q39 (r : Val Y50) (h : qwJ r) : ∃ N, qzE N r = some ((qap r).1, (qap r).2, ()) := ⟨List.length (α := Val Y33) r.2 + 1, by
  rw [qzE, qe (show qbH r from h)]
  unfold qap
  cases hr : qV r with
  | false => rfl
  | true =>
    simp only [Bool.not_true, cond_false, cond_true]
    obtain ⟨_, h2, h3⟩ := qb3 hr
    exact (qVf _ r.1 r.2 0 _ h2 (fun c hc => (h3 c hc).1) (List.length (α := Val Y33) r.2) 0 (by omega) _ (Nat.lt_succ_self _) (r.1, []) (by simp)).trans (qKQ idF r.2 (r.1, []))⟩
theorem q1W : Sound Tryz.prog 131 qj3 := qt (tt := tt) (Γ := qhB) hT (qg qzr (qg qRG qo)) hm (fn := Tryz.f131) Tryz.func131 (c := Tryz.f131.body.getD .skip) (by kernel_rfl) (by kernel_rfl) fun x hx => by
  obtain ⟨N, h⟩ := q39 x.1 hx
  exact ⟨qcx N, zex, qw _, q99 N, (zeo N x.1).trans h⟩
end Go.T
