/- Normal cells are cells; all variables dropped. -/
import Derived.Test.YthefcjjgchekiaaGreatB9
set_option linter.unusedSimpArgs false
set_option linter.unusedVariables false
namespace Go.T
open Go Go.Proofs
set_option maxHeartbeats 4000000
set_option maxRecDepth 100000
def qN5 (c : Val Y33) : Prop := c = qaQ c.1 ∨ ∀ a ∈ (c.2 : List (Val qa)), qab a = true
theorem qT4 {xs : List (Val qa)} {x : Val qa} (h : x ∈ qfE xs) : x ∈ xs := by
  have go : ∀ (xs s : List Atm) {x : Atm}, x ∈ xs.foldl qaz s → x ∈ s ∨ x ∈ xs := by
    intro xs
    induction xs with
    | nil => intro s x h; exact .inl h
    | cons b r ih =>
      intro s x h
      rcases ih (qaz s b) h with h | h
      · rcases qqQ h with rfl | h
        · exact .inr (by simp)
        · exact .inl h
      · exact .inr (by simp [h])
  rcases go xs [] h with h | h
  · simp at h
  · exact h
theorem q87 (xs : List (Val qa)) : (qfE xs).length ≤ xs.length := by
  have go : ∀ (xs s : List Atm), (xs.foldl qaz s).length ≤ s.length + xs.length := by
    intro xs
    induction xs with
    | nil => intro s; simp
    | cons b r ih =>
      intro s
      have h1 := ih (qaz s b)
      have h2 := qMX s b
      simp only [List.foldl_cons, List.length_cons]
      omega
  have := go xs []
  simpa [qfE] using this
theorem qI8 (d : Int) (l : List (Val qa)) : ((qr d l).1 : Int) = d := by
  unfold qr
  cases l.any qci <;> rfl
theorem q8q {d : Int} {l : List (Val qa)} (h : l.length ≤ 16) : List.length (α := Val qa) (qr d l).2 ≤ 16 := by
  unfold qr
  cases l.any qci with
  | true => show 1 ≤ 16; decide
  | false =>
    have h1 := q87 (l.filter qab)
    have h2 := List.length_filter_le qab l
    show (qfE (l.filter qab)).length ≤ 16
    omega
theorem qTn {d : Int} (hd : 0 ≤ d ∧ d ≤ 4) : okD d ((List.replicate d.toNat (0 : Int), (1 : Int), false) : Val qa) := by
  refine ⟨?_, by show ((List.replicate d.toNat (0 : Int)).length : Int) = d; rw [List.length_replicate]; omega⟩
  show qD _ = true
  unfold qD
  have e : gL (Int.natAbs 1) (List.replicate d.toNat (0 : Int)) ≤ 1 := by
    have := (qqS (List.replicate d.toNat (0 : Int)) (Int.natAbs 1)).1
    exact Nat.le_of_dvd (by decide) this
  simp only [Bool.and_eq_true, decide_eq_true_eq]
  refine ⟨⟨⟨by simp; omega, by decide⟩, ?_⟩, by omega⟩
  rw [List.all_eq_true]
  intro x hx
  have : x = 0 := (List.mem_replicate.1 hx).2
  subst this
  decide
theorem q9M {d : Int} {l : List (Val qa)} (h : okL d l) : ∀ a ∈ ((qr d l).2 : List (Val qa)), okD d a := by
  intro a ha
  unfold qr at ha
  cases hb : l.any qci with
  | true =>
    rw [hb] at ha
    have ha : a ∈ ([(List.replicate d.toNat (0 : Int), (1 : Int), false)] : List (Val qa)) := ha
    simp only [List.mem_singleton] at ha
    subst ha
    exact qTn h.1
  | false =>
    rw [hb] at ha
    have ha : a ∈ qfE (l.filter qab) := ha
    exact h.2.2 a (List.mem_filter.1 (qT4 ha)).1
theorem za6 (d : Int) (l : List (Val qa)) : qN5 (qr d l) := by
  unfold qr
  cases l.any qci with
  | true => exact .inl rfl
  | false => exact .inr fun a ha => (List.mem_filter.1 (qT4 ha)).2
theorem qCP {c : Val Y33} (h1 : 0 ≤ (c.1 : Int) ∧ (c.1 : Int) ≤ 4) (h2 : List.length (α := Val qa) c.2 ≤ 16) (h3 : ∀ a ∈ (c.2 : List (Val qa)), okD c.1 a) : qz c = true := by
  unfold qz
  simp only [Bool.and_eq_true, decide_eq_true_eq]
  refine ⟨⟨h1, by omega⟩, ?_⟩
  rw [List.all_eq_true]
  intro a ha
  obtain ⟨g1, g2⟩ := h3 a ha
  have g1 : qD a = true := g1
  simp only [Bool.and_eq_true, decide_eq_true_eq]
  exact ⟨g1, g2⟩
def okN (d : Int) (c : Val Y33) : Prop := qz c = true ∧ qN5 c ∧ (c.1 : Int) = d
theorem qSa {d : Int} {l : List (Val qa)} (h : okL d l) (hl : List.length (α := Val qa) (qr d l).2 ≤ 16) : okN d (qr d l) :=
  ⟨qCP (by rw [qI8]; exact h.1) hl (by rw [qI8]; exact q9M h), za6 d l, qI8 d l⟩
theorem qAC {d : Int} {l : List (Val qa)} (h : okL d l) (h2 : (qaL d l).2 = true) : okN d (qaL d l).1 := by
  unfold qaL at *
  by_cases c : (16 : Int) < (List.length (α := Val qa) (qr d l).2 : Int)
  · rw [decide_eq_true c] at h2; simp at h2
  · rw [decide_eq_false c] at h2 ⊢; exact qSa h (by omega)
theorem q9h {c : Val Y33} {v : Int} (h : qz c = true) (h2 : (qad c v).2 = true) : okN c.1 (qad c v).1 := by
  obtain ⟨hd, hl, hok⟩ := qbi h
  unfold qad at *
  cases hm : qb2 v c.2 c.2 (List.filter (α := Val qa) (fun a => decide (cfV v a = 0)) c.2) with
  | none => rw [hm] at h2; simp at h2
  | some s =>
    rw [hm] at h2
    exact qAC (qIE hd hl hok hm) h2
theorem qha {c : Val Y33} (h : qz c = true) : okL c.1 c.2 ∧ okN c.1 (qr c.1 c.2) := by
  obtain ⟨hd, hl, hok⟩ := qbi h
  have : okL c.1 c.2 := ⟨hd, by omega, hok⟩
  exact ⟨this, qSa this (q8q hl)⟩
def qfJ (v : Int) : Nat → Val Y33 → Option (Val Y33)
  | 0, c => some c
  | n + 1, c => if (n : Int) = v then qfJ v n c else bif (qad c n).2 then qfJ v n (qad c n).1 else none
end Go.T
