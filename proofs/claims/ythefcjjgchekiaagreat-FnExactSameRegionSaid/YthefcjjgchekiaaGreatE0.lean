/- Normal cells are cells; all variables dropped. -/
import Derived.Test.YthefcjjgchekiaaGreatB9
set_option linter.unusedSimpArgs false
set_option linter.unusedVariables false
namespace Go.T
open Go Go.Proofs
set_option maxHeartbeats 4000000
set_option maxRecDepth 100000
def nrmF (c : Val Y33) : Prop := c = noneC c.1 ∨ ∀ a ∈ (c.2 : List (Val Y108)), hasVar a = true
theorem nrmL_in {xs : List (Val Y108)} {x : Val Y108} (h : x ∈ nrmL xs) : x ∈ xs := by
  have go : ∀ (xs s : List Atm) {x : Atm}, x ∈ xs.foldl putA s → x ∈ s ∨ x ∈ xs := by
    intro xs
    induction xs with
    | nil => intro s x h; exact .inl h
    | cons b r ih =>
      intro s x h
      rcases ih (putA s b) h with h | h
      · rcases putA_mem h with rfl | h
        · exact .inr (by simp)
        · exact .inl h
      · exact .inr (by simp [h])
  rcases go xs [] h with h | h
  · simp at h
  · exact h
theorem nrmL_len (xs : List (Val Y108)) : (nrmL xs).length ≤ xs.length := by
  have go : ∀ (xs s : List Atm), (xs.foldl putA s).length ≤ s.length + xs.length := by
    intro xs
    induction xs with
    | nil => intro s; simp
    | cons b r ih =>
      intro s
      have h1 := ih (putA s b)
      have h2 := putA_len s b
      simp only [List.foldl_cons, List.length_cons]
      omega
  have := go xs []
  simpa [nrmL] using this
theorem nrmV_dim (d : Int) (l : List (Val Y108)) : ((nrmV d l).1 : Int) = d := by
  unfold nrmV
  cases l.any badA <;> rfl
theorem nrmV_len {d : Int} {l : List (Val Y108)} (h : l.length ≤ 16) : List.length (α := Val Y108) (nrmV d l).2 ≤ 16 := by
  unfold nrmV
  cases l.any badA with
  | true => show 1 ≤ 16; decide
  | false =>
    have h1 := nrmL_len (l.filter hasVar)
    have h2 := List.length_filter_le hasVar l
    show (nrmL (l.filter hasVar)).length ≤ 16
    omega
theorem noneC_ok {d : Int} (hd : 0 ≤ d ∧ d ≤ 4) : okD d ((List.replicate d.toNat (0 : Int), (1 : Int), false) : Val Y108) := by
  refine ⟨?_, by show ((List.replicate d.toNat (0 : Int)).length : Int) = d; rw [List.length_replicate]; omega⟩
  show isAtom _ = true
  unfold isAtom
  have e : gL (Int.natAbs 1) (List.replicate d.toNat (0 : Int)) ≤ 1 := by
    have := (gL_dvd (List.replicate d.toNat (0 : Int)) (Int.natAbs 1)).1
    exact Nat.le_of_dvd (by decide) this
  simp only [Bool.and_eq_true, decide_eq_true_eq]
  refine ⟨⟨⟨by simp; omega, by decide⟩, ?_⟩, by omega⟩
  rw [List.all_eq_true]
  intro x hx
  have : x = 0 := (List.mem_replicate.1 hx).2
  subst this
  decide
theorem nrmV_okD {d : Int} {l : List (Val Y108)} (h : okL d l) : ∀ a ∈ ((nrmV d l).2 : List (Val Y108)), okD d a := by
  intro a ha
  unfold nrmV at ha
  cases hb : l.any badA with
  | true =>
    rw [hb] at ha
    have ha : a ∈ ([(List.replicate d.toNat (0 : Int), (1 : Int), false)] : List (Val Y108)) := ha
    simp only [List.mem_singleton] at ha
    subst ha
    exact noneC_ok h.1
  | false =>
    rw [hb] at ha
    have ha : a ∈ nrmL (l.filter hasVar) := ha
    exact h.2.2 a (List.mem_filter.1 (nrmL_in ha)).1
theorem nrmV_F (d : Int) (l : List (Val Y108)) : nrmF (nrmV d l) := by
  unfold nrmV
  cases l.any badA with
  | true => exact .inl rfl
  | false => exact .inr fun a ha => (List.mem_filter.1 (nrmL_in ha)).2
theorem isCell_of {c : Val Y33} (h1 : 0 ≤ (c.1 : Int) ∧ (c.1 : Int) ≤ 4) (h2 : List.length (α := Val Y108) c.2 ≤ 16) (h3 : ∀ a ∈ (c.2 : List (Val Y108)), okD c.1 a) : isCell c = true := by
  unfold isCell
  simp only [Bool.and_eq_true, decide_eq_true_eq]
  refine ⟨⟨h1, by omega⟩, ?_⟩
  rw [List.all_eq_true]
  intro a ha
  obtain ⟨g1, g2⟩ := h3 a ha
  have g1 : isAtom a = true := g1
  simp only [Bool.and_eq_true, decide_eq_true_eq]
  exact ⟨g1, g2⟩
def okN (d : Int) (c : Val Y33) : Prop := isCell c = true ∧ nrmF c ∧ (c.1 : Int) = d
theorem nrmV_N {d : Int} {l : List (Val Y108)} (h : okL d l) (hl : List.length (α := Val Y108) (nrmV d l).2 ≤ 16) : okN d (nrmV d l) :=
  ⟨isCell_of (by rw [nrmV_dim]; exact h.1) hl (by rw [nrmV_dim]; exact nrmV_okD h), nrmV_F d l, nrmV_dim d l⟩
theorem limV_N {d : Int} {l : List (Val Y108)} (h : okL d l) (h2 : (limV d l).2 = true) : okN d (limV d l).1 := by
  unfold limV at *
  by_cases c : (16 : Int) < (List.length (α := Val Y108) (nrmV d l).2 : Int)
  · rw [decide_eq_true c] at h2; simp at h2
  · rw [decide_eq_false c] at h2 ⊢; exact nrmV_N h (by omega)
theorem dropL_N {c : Val Y33} {v : Int} (h : isCell c = true) (h2 : (dropL c v).2 = true) : okN c.1 (dropL c v).1 := by
  obtain ⟨hd, hl, hok⟩ := cell_in h
  unfold dropL at *
  cases hm : mixOut v c.2 c.2 (List.filter (α := Val Y108) (fun a => decide (cfV v a = 0)) c.2) with
  | none => rw [hm] at h2; simp at h2
  | some s =>
    rw [hm] at h2
    exact limV_N (drop_okL hd hl hok hm) h2
theorem okL_cell {c : Val Y33} (h : isCell c = true) : okL c.1 c.2 ∧ okN c.1 (nrmV c.1 c.2) := by
  obtain ⟨hd, hl, hok⟩ := cell_in h
  have : okL c.1 c.2 := ⟨hd, by omega, hok⟩
  exact ⟨this, nrmV_N this (nrmV_len hl)⟩
def dropAll (v : Int) : Nat → Val Y33 → Option (Val Y33)
  | 0, c => some c
  | n + 1, c => if (n : Int) = v then dropAll v n c else bif (dropL c n).2 then dropAll v n (dropL c n).1 else none
end Go.T
