/- A cell taken from a region: what the functions compute. -/
import Derived.Test.YthefcjjgchekiaaGreatE10
set_option linter.unusedSimpArgs false
set_option linter.unusedVariables false
namespace Go.T
open Go Go.Proofs
set_option maxHeartbeats 4000000
set_option maxRecDepth 100000
theorem qDO {r : Val Y50} (c : Val Y33) (h : List.length (α := Val Y33) r.2 ≤ 12) : List.length (α := Val Y33) (q4 r c).1.2 ≤ 12 := by
  unfold q4
  cases (qH c).2 with
  | false => exact h
  | true =>
    cases qbJ (qH c).1 with
    | true => exact h
    | false =>
      simp only [cond_true, cond_false]
      by_cases hl : (12 : Int) ≤ (List.length (α := Val Y33) r.2 : Int)
      · rw [decide_eq_true hl]; exact h
      · rw [decide_eq_false hl]
        refine Nat.le_trans (Nat.le_of_eq (List.length_append ..)) ?_
        show List.length (α := Val Y33) r.2 + 1 ≤ 12
        omega
theorem qCA (d : Int) (l : List (Val qa)) (c : Val Y33) : ∀ (n k : Nat) (r : Val Y50), List.length (α := Val Y33) r.2 ≤ 12 → List.length (α := Val Y33) (qa6 d l c n k r).1.2 ≤ 12
  | 0, _, _, h => h
  | n + 1, k, r, h => by
    simp only [qa6]
    cases (qO c (qbr d l k)).2 with
    | false => exact Nat.zero_le _
    | true =>
      cases (q4 r (qO c (qbr d l k)).1).2 with
      | false => exact Nat.zero_le _
      | true => exact qCA d l c n (k + 1) _ (qDO _ h)
theorem qGP (d : Int) (l : List (Val qa)) : ∀ (cs : List (Val Y33)) (r : Val Y50), (bif (qbo d l cs r).2 then some ((qbo d l cs r).1, true, ()) else some (((0 : Int), ([] : List (Val Y33))), false, ()) : Option (qb [i50, i4])) = some ((qbo d l cs r).1, (qbo d l cs r).2, ())
  | [], r => rfl
  | c :: cs, r => by
    simp only [qbo]
    cases (qa6 d l c l.length 0 r).2 with
    | false => rfl
    | true => exact qGP d l cs _
theorem qS1 {d : Int} {l : List (Val qa)} {i : Nat} (h : i < l.length) : ((d, ([] : List (Val qa)) ++ (l.take (i : Int).toNat).drop (0 : Int).toNat ++ [(((qh l[i]).1.1 : List (Val (.int .i64))), ((qh l[i]).1.2.1 : Int), ((qh l[i]).1.2.2 : Bool))]) : Val Y33) = qbr d l i := by
  unfold qbr
  rw [qdF h]
  show ((d, ([] : List (Val qa)) ++ (l.take i).drop 0 ++ [(qh l[i]).1]) : Val Y33) = _
  rw [List.drop_zero, List.nil_append]
theorem q3X {a : Val qa} (h : qD a = true) : (qh a).2 = true := by unfold qh; rw [h]; rfl
theorem qUf (N : Nat) (a : List (Val Y33)) (b e : Int) (l : List (Val qa)) (d : Int) (f : List (Val Y33)) (g h : Int) (c : Val Y33) (K : Int → List (Val Y33) → Option (qb [i50, i4])) (hl : l.length ≤ 16) (ha : ∀ x ∈ l, qD x = true) : ∀ (k i : Nat), i + k = l.length → ∀ n, k < n → ∀ (r : Val Y50), List.length (α := Val Y33) r.2 ≤ 12 →
    qgJ N a b e l l.length d f g l h c.1 c.2 K n (i : Int) r.1 r.2 = bif (qa6 d l c k i r).2 then K (qa6 d l c k i r).1.1 (qa6 d l c k i r).1.2 else some (((0 : Int), []), false, ())
  | 0, i, hi, n + 1, _, r, _ => by
    rw [qgJ, ql (by omega)]
    rfl
  | k + 1, i, hi, n + 1, hn, r, hr => by
    have h1 : i < l.length := by omega
    have htl : ((l.take (i : Int).toNat).drop (0 : Int).toNat).length ≤ 16 := by
      show ((l.take i).drop 0).length ≤ 16
      rw [List.drop_zero, List.length_take]; omega
    rw [qgJ, qn (by omega), qe (by omega), qG h1, q3X (ha _ (List.getElem_mem h1)), qbD h1 (by omega)]
    simp only [Bool.not_true, cond_false]
    rw [qe (by omega), qe (by simp only [List.length_nil]; omega), qe (by simp only [List.length_append, List.length_nil, List.length_singleton]; omega), qS1 h1]
    simp only [qa6]
    show (bif !(qO c (qbr d l i)).2 then _ else chk (qhy r (qO c (qbr d l i)).1) (bif !(q4 r (qO c (qbr d l i)).1).2 then _ else qgJ N a b e l l.length d f g l h c.1 c.2 K n _ (q4 r (qO c (qbr d l i)).1).1.1 (q4 r (qO c (qbr d l i)).1).1.2)) = _
    generalize qO c (qbr d l i) = m
    cases m.2 with
    | false => rfl
    | true =>
      simp only [Bool.not_true, cond_false, cond_true]
      rw [qe (show qhy r m.1 from hr)]
      cases (q4 r m.1).2 with
      | false => rfl
      | true =>
        simp only [Bool.not_true, cond_false, cond_true]
        exact qUf N a b e l d f g h c K hl ha k (i + 1) (by omega) n (by omega) (q4 r m.1).1 (qDO _ hr)
theorem qVi (N : Nat) (xs : List (Val Y33)) (d : Int) (f : List (Val Y33)) (g : Int) (l : List (Val qa)) (h : Int) (K : Int → List (Val Y33) → Option (qb [i50, i4])) (hx : xs.length ≤ 12) (hl : l.length ≤ 16) (hN : 16 < N) (ha : ∀ x ∈ l, qD x = true) : ∀ (k i : Nat), i + k = xs.length → ∀ n, k < n → ∀ (r : Val Y50), List.length (α := Val Y33) r.2 ≤ 12 →
    qgd N xs xs.length d f g l h K n (i : Int) r.1 r.2 = bif (qbo d l (xs.drop i) r).2 then K (qbo d l (xs.drop i) r).1.1 (qbo d l (xs.drop i) r).1.2 else some (((0 : Int), []), false, ())
  | 0, i, hi, n + 1, _, r, _ => by
    rw [qgd, ql (by omega), List.drop_eq_nil_of_le (by omega)]
    rfl
  | k + 1, i, hi, n + 1, hn, r, hr => by
    have h1 : i < xs.length := by omega
    rw [qgd, qn (by omega), qe (by omega), qG h1, qbD h1 (by omega), qb4 h1]
    refine (qUf N xs xs.length i l d f g h xs[i] _ hl ha l.length 0 (by omega) N (by omega) r hr).trans ?_
    simp only [qbo]
    cases (qa6 d l xs[i] l.length 0 r).2 with
    | false => rfl
    | true =>
      simp only [cond_true]
      exact qVi N xs d f g l h K hx hl hN ha k (i + 1) (by omega) n (by omega) _ (qCA d l xs[i] _ _ r hr)
theorem q1m (r : Val Y50) (m : Val Y33) (h : qut r m) : ∃ N, qyK N r m = some ((qa2 r m).1, (qa2 r m).2, ()) := ⟨30, by
  obtain ⟨h1, h2, h3⟩ := h
  obtain ⟨_, hl, _⟩ := qb3 h1
  obtain ⟨_, ml, mo⟩ := qbi h2
  rw [qyK]
  exact (qVi 30 r.2 r.1 r.2 m.1 m.2 0 _ hl ml (by omega) (fun x hx => (mo x hx).1) (List.length (α := Val Y33) r.2) 0 (by omega) 30 (by omega) (r.1, []) (by simp)).trans (qGP r.1 m.2 r.2 (r.1, []))⟩
theorem q0w : Sound Tryz.prog 139 qkt := qt (tt := tt) (Γ := qdm) hT (qg qUk (qg qSC qo)) hm (fn := Tryz.f139) Tryz.func139 (c := Tryz.f139.body.getD .skip) (by kernel_rfl) (by kernel_rfl) fun x hx => by
  obtain ⟨N, h⟩ := q1m x.1 x.2.1 hx
  exact ⟨qbt N, q8E, qIM (qTN qUo qMe) qCW, q5C N, (q1q N x.1 x.2.1).trans h⟩
theorem qTq {a b : Val Y33} (h : (qO a b).2 = true) : okN a.1 (qO a b).1 := by
  unfold qO at h ⊢
  cases ha : qz a with
  | false => rw [ha] at h; exact absurd h (by simp)
  | true =>
    cases hb : qz b with
    | false => rw [ha, hb] at h; exact absurd h (by simp)
    | true =>
      by_cases hd : (a.1 : Int) = (b.1 : Int)
      · rw [ha, hb, decide_eq_true hd] at h
        rw [decide_eq_true hd]
        exact qAC (qtP ha hb hd).1 h
      · rw [ha, hb, decide_eq_false hd] at h; exact absurd h (by simp)
theorem qRi (N : Nat) (j : Nat) (d : Int) (xs : List (Val Y33)) (f g : Int) (l : List (Val qa)) (K : Int → List (Val Y33) → Option (qb [i50, i4])) (hj : j < xs.length) (hx : xs.length ≤ 12) (hc : ∀ c ∈ xs, qz c = true) (hl : l.length ≤ 16) (ha : ∀ x ∈ l, qD x = true) : ∀ (k i : Nat), i + k = l.length → ∀ n, k < n → ∀ (r : Val Y50), List.length (α := Val Y33) r.2 ≤ 12 →
    qfQ N (j : Int) d xs f g l K n (i : Int) r.1 r.2 = bif (qa6 d l xs[j] k i r).2 then K (qa6 d l xs[j] k i r).1.1 (qa6 d l xs[j] k i r).1.2 else some (((0 : Int), []), false, ())
  | 0, i, hi, n + 1, _, r, _ => by
    rw [qfQ, ql (by omega)]
    rfl
  | k + 1, i, hi, n + 1, hn, r, hr => by
    have h1 : i < l.length := by omega
    have htl : ((l.take (i : Int).toNat).drop (0 : Int).toNat).length ≤ 16 := by
      show ((l.take i).drop 0).length ≤ 16
      rw [List.drop_zero, List.length_take]; omega
    have hat := ha _ (List.getElem_mem h1)
    have hcj := hc _ (List.getElem_mem hj)
    rw [qfQ, qn (by omega), qe (by omega), qe (show (i : Int).toNat < l.length from h1), qG h1, qe (show qky l[i] from by have := (qa5 hat).1; show List.length (α := Int) _ ≤ 1048576; omega), qbD h1 (by omega)]
    rw [qe (by omega), qe (by simp only [List.length_nil]; omega), qe (by simp only [List.length_append, List.length_nil, List.length_singleton]; omega), qS1 h1, qe (by omega), qG hj]
    rw [qe (show qlu xs[j] (qbr d l i) from ⟨by have := (qbi hcj).2.1; show _ ≤ 1048576; omega, by show (l.take i ++ [_]).length ≤ 1048576; simp only [List.length_append, List.length_take, List.length_singleton]; omega⟩)]
    simp only [qa6]
    have hm := @qTq xs[j] (qbr d l i)
    generalize qO xs[j] (qbr d l i) = m at hm ⊢
    cases h2 : m.2 with
    | false => rfl
    | true =>
      have hmc := (hm h2).1
      obtain ⟨e1, e2⟩ := qTQ hmc r
      simp only [Bool.not_true, cond_false, cond_true]
      rw [qe (show qkm (r.1, r.2) m.1 from ⟨hmc, hr⟩)]
      show (bif !(qa8 r m.1).2 then _ else qfQ N (j : Int) d xs f g l K n _ (qa8 r m.1).1.1 (qa8 r m.1).1.2) = _
      rw [e1]
      cases h3 : (q4 r m.1).2 with
      | false => rfl
      | true =>
        simp only [Bool.not_true, cond_false, cond_true]
        rw [e2 h3]
        exact qRi N j d xs f g l K hj hx hc hl ha k (i + 1) (by omega) n (by omega) (q4 r m.1).1 (qDO _ hr)
theorem qQU (N : Nat) (d : Int) (xs : List (Val Y33)) (f g : Int) (l : List (Val qa)) (K : Int → List (Val Y33) → Option (qb [i50, i4])) (hx : xs.length ≤ 12) (hc : ∀ c ∈ xs, qz c = true) (hl : l.length ≤ 16) (hN : 16 < N) (ha : ∀ x ∈ l, qD x = true) : ∀ (k i : Nat), i + k = xs.length → ∀ n, k < n → ∀ (r : Val Y50), List.length (α := Val Y33) r.2 ≤ 12 →
    qgg N d xs f g l K n (i : Int) r.1 r.2 = bif (qbo d l (xs.drop i) r).2 then K (qbo d l (xs.drop i) r).1.1 (qbo d l (xs.drop i) r).1.2 else some (((0 : Int), []), false, ())
  | 0, i, hi, n + 1, _, r, _ => by
    rw [qgg, ql (by omega), List.drop_eq_nil_of_le (by omega)]
    rfl
  | k + 1, i, hi, n + 1, hn, r, hr => by
    have h1 : i < xs.length := by omega
    rw [qgg, qn (by omega), qbD h1 (by omega), qb4 h1]
    refine (qRi N i d xs f g l _ h1 hx hc hl ha l.length 0 (by omega) N (by omega) r hr).trans ?_
    simp only [qbo]
    cases (qa6 d l xs[i] l.length 0 r).2 with
    | false => rfl
    | true =>
      simp only [cond_true]
      exact qQU N d xs f g l K hx hc hl hN ha k (i + 1) (by omega) n (by omega) _ (qCA d l xs[i] _ _ r hr)
theorem q0a (r : Val Y50) (c : Val Y33) (h : qvz r c) : ∃ N, quw N r c = some ((qcB r c).1, (qcB r c).2, ()) := ⟨30, by
  obtain ⟨hr, hc, hd⟩ := h
  obtain ⟨_, hl, ho⟩ := qb3 hr
  obtain ⟨hL, hN⟩ := qha hc
  rw [quw, qe (show qaX c.1 c.2 from hL), qe (show qkw _ from hN.1)]
  unfold qcB
  cases hm : (qW (qr c.1 c.2)).2 with
  | false => rfl
  | true =>
    have hn := qKA hN hm
    generalize (qW (qr c.1 c.2)).1 = m at *
    obtain ⟨_, ml, mo⟩ := qbi hn.1
    simp only [Bool.not_true, cond_false, cond_true]
    exact (qQU 30 r.1 r.2 0 m.1 m.2 _ hl (fun c hc => (ho c hc).1) ml (by omega) (fun x hx => (mo x hx).1) (List.length (α := Val Y33) r.2) 0 (by omega) 30 (by omega) (r.1, []) (by simp)).trans (qGP r.1 m.2 r.2 (r.1, []))⟩
theorem zbN : Sound Tryz.prog 137 qkA := qt (tt := tt) (Γ := qcG) hT (qg qRG (qg qoV (qg qQX (qg qQV (qg qS2 qo))))) hm (fn := Tryz.f137) Tryz.func137 (c := Tryz.f137.body.getD .skip) (by kernel_rfl) (by kernel_rfl) fun x hx => by
  obtain ⟨N, h⟩ := q0a x.1 x.2.1 hx
  exact ⟨qbE N, q7r, qw _, qZK N, (q3i N x.1 x.2.1).trans h⟩
end Go.T
