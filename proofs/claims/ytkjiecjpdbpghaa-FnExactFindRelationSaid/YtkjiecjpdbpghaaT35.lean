/- T: sizes, equality, bounds of values. -/
import Derived.Test.YtkjiecjpdbpghaaT34
namespace Go.T
open Go

def szL {α : Type} (f : α → Int → Int) : List α → Int → Int
  | [], n => n
  | x :: r, n => if f x n < 0 then -1 else szL f r (f x n)
/-- What is left of n behind a value's parts. -/
def szV : (t : Ty) → Val t → Int → Int
  | .int _, _, n => n
  | .bool, _, n => n
  | .str, s, n => if n - s.size < 0 then -1 else n - s.size
  | .slice _ t, xs, n => if n - xs.length < 0 then -1 else szL (szV t) xs (n - xs.length)
  | .pair a b, v, n => if szV a v.1 n < 0 then -1 else szV b v.2 (szV a v.1 n)
def Bd : (t : Ty) → Val t → Prop
  | .int _, _ => True
  | .bool, _ => True
  | .str, s => s.size ≤ 1048576
  | .slice _ t, xs => xs.length ≤ 1048576 ∧ ∀ x ∈ xs, Bd t x
  | .pair a b, v => Bd a v.1 ∧ Bd b v.2

theorem szL_le {α : Type} {f : α → Int → Int} (hf : ∀ x n, 0 ≤ n → f x n ≤ n ∧ (f x n < 0 → f x n = -1)) : ∀ (xs : List α) (n : Int), 0 ≤ n → szL f xs n ≤ n ∧ (szL f xs n < 0 → szL f xs n = -1)
  | [], n, h => ⟨Int.le_refl _, fun h' => by simp only [szL] at h' ⊢; omega⟩
  | x :: r, n, h => by
    have h1 := hf x n h
    simp only [szL]
    split
    · exact ⟨by omega, fun _ => rfl⟩
    · have := szL_le hf r (f x n) (by omega)
      exact ⟨by omega, this.2⟩
theorem szV_le : ∀ (t : Ty) (x : Val t) (n : Int), 0 ≤ n → szV t x n ≤ n ∧ (szV t x n < 0 → szV t x n = -1)
  | .int _, _, n, h => ⟨Int.le_refl _, fun h' => by simp only [szV] at h' ⊢; omega⟩
  | .bool, _, n, h => ⟨Int.le_refl _, fun h' => by simp only [szV] at h' ⊢; omega⟩
  | .str, s, n, h => by simp only [szV]; split <;> omega
  | .slice _ t, xs, n, h => by
    simp only [szV]
    split
    · exact ⟨by omega, fun _ => rfl⟩
    · have := szL_le (f := szV t) (fun x n h => szV_le t x n h) xs (n - xs.length) (by omega)
      exact ⟨by omega, this.2⟩
  | .pair a b, v, n, h => by
    simp only [szV]
    have h1 := szV_le a v.1 n h
    split
    · exact ⟨by omega, fun _ => rfl⟩
    · have := szV_le b v.2 (szV a v.1 n) (by omega)
      exact ⟨by omega, this.2⟩

theorem szL_mem {α : Type} {f : α → Int → Int} {B : α → Prop} (hf : ∀ x n, 0 ≤ n → n ≤ 1048576 → 0 ≤ f x n → f x n ≤ n ∧ B x) : ∀ (xs : List α) (n : Int), 0 ≤ n → n ≤ 1048576 → 0 ≤ szL f xs n → ∀ x ∈ xs, B x
  | [], _, _, _, _ => by simp
  | x :: r, n, h0, h1, h => by
    simp only [szL] at h
    split at h
    · omega
    · rename_i hx
      have := hf x n h0 h1 (by omega)
      intro y hy
      rcases List.mem_cons.1 hy with rfl | hy
      · exact this.2
      · exact szL_mem hf r (f x n) (by omega) (by omega) h y hy
theorem szV_Bd : ∀ (t : Ty) (x : Val t) (n : Int), 0 ≤ n → n ≤ 1048576 → 0 ≤ szV t x n → Bd t x
  | .int _, _, _, _, _, _ => trivial
  | .bool, _, _, _, _, _ => trivial
  | .str, s, n, h0, h1, h => by
    simp only [szV] at h
    split at h
    · omega
    · simp only [Bd]; omega
  | .slice _ t, xs, n, h0, h1, h => by
    simp only [szV] at h
    split at h
    · omega
    · refine ⟨by omega, ?_⟩
      exact szL_mem (f := szV t) (fun x n h0 h1 h => ⟨(szV_le t x n h0).1, szV_Bd t x n h0 h1 h⟩) xs _ (by omega) (by omega) h
  | .pair a b, v, n, h0, h1, h => by
    simp only [szV] at h
    split at h
    · omega
    · have := szV_le a v.1 n h0
      exact ⟨szV_Bd a v.1 n h0 h1 (by omega), szV_Bd b v.2 _ (by omega) (by omega) h⟩

theorem szL_flat {α : Type} {f : α → Int → Int} (hf : ∀ x n, f x n = n) : ∀ (xs : List α) (n : Int), 0 ≤ n → szL f xs n = n
  | [], _, _ => rfl
  | x :: r, n, h => by simp only [szL, hf]; rw [if_neg (by omega), szL_flat hf r n h]

def eqL {α : Type} (f : α → α → Bool) : List α → List α → Bool
  | [], [] => true
  | x :: xs, y :: ys => f x y && eqL f xs ys
  | _, _ => false
def eqV : (t : Ty) → Val t → Val t → Bool
  | .int _, a, b => decide ((a : Int) = b)
  | .bool, a, b => (a : Bool) == b
  | .str, a, b => ByteArray.toList a == ByteArray.toList b
  | .slice _ t, xs, ys => eqL (eqV t) xs ys
  | .pair a b, v, u => eqV a v.1 u.1 && eqV b v.2 u.2
theorem eqL_refl {α : Type} {f : α → α → Bool} (hf : ∀ x, f x x = true) : ∀ xs : List α, eqL f xs xs = true
  | [] => rfl
  | x :: xs => by simp [eqL, hf, eqL_refl hf xs]
theorem eqV_refl : ∀ (t : Ty) (x : Val t), eqV t x x = true
  | .int _, x => by simp [eqV]
  | .bool, x => by simp [eqV]
  | .str, x => by simp [eqV]
  | .slice _ t, xs => by simp only [eqV]; exact eqL_refl (eqV_refl t) xs
  | .pair a b, v => by simp [eqV, eqV_refl a v.1, eqV_refl b v.2]
theorem eqL_len {α : Type} {f : α → α → Bool} : ∀ (xs ys : List α), xs.length ≠ ys.length → eqL f xs ys = false
  | [], [], h => absurd rfl h
  | [], _ :: _, _ => rfl
  | _ :: _, [], _ => rfl
  | x :: xs, y :: ys, h => by simp [eqL, eqL_len xs ys (by simpa using h)]

theorem szV_pair {a b : Ty} {v : Val a × Val b} {n : Int} : szV (.pair a b) v n = if szV a v.1 n < 0 then -1 else szV b v.2 (szV a v.1 n) := rfl
theorem szV_int {k : IntKind} {v : Int} {n : Int} : szV (.int k) v n = n := rfl
theorem szV_bool {v : Bool} {n : Int} : szV .bool v n = n := rfl
theorem szV_str {s : ByteArray} {n : Int} : szV .str s n = if n - s.size < 0 then -1 else n - s.size := rfl
theorem szV_slice {e : Nat} {t : Ty} {xs : List (Val t)} {n : Int} : szV (.slice e t) xs n = if n - xs.length < 0 then -1 else szL (szV t) xs (n - xs.length) := rfl
theorem szV_pair_neg {a b : Ty} {v : Val a × Val b} {n : Int} (h : szV a v.1 n < 0) : szV (.pair a b) v n = -1 := by rw [szV_pair, if_pos h]
theorem szV_pair_pos {a b : Ty} {v : Val a × Val b} {n : Int} (h : 0 ≤ szV a v.1 n) : szV (.pair a b) v n = szV b v.2 (szV a v.1 n) := by rw [szV_pair, if_neg (by omega)]
theorem szV_pair_int {k : IntKind} {b : Ty} {v : Int × Val b} {n : Int} (h : 0 ≤ n) : szV (.pair (.int k) b) v n = szV b v.2 n := by rw [szV_pair, szV_int, if_neg (by omega)]
theorem szV_slice_neg {e : Nat} {t : Ty} {xs : List (Val t)} {n : Int} (h : n - xs.length < 0) : szV (.slice e t) xs n = -1 := by rw [szV_slice, if_pos h]
theorem szV_str_neg {s : ByteArray} {n : Int} (h : n - s.size < 0) : szV .str s n = -1 := by rw [szV_str, if_pos h]
theorem szV_str_pos {s : ByteArray} {n : Int} (h : 0 ≤ n - s.size) : szV .str s n = n - s.size := by rw [szV_str, if_neg (by omega)]
theorem szL_flatV {t : Ty} (h : ∀ (x : Val t) n, szV t x n = n) (xs : List (Val t)) (n : Int) (hn : 0 ≤ n) : szL (szV t) xs n = n := szL_flat h xs n hn
theorem szL_end {α : Type} {f : α → Int → Int} {xs : List α} {i : Nat} {m R : Int} (hi : xs.length ≤ i) (hI : szL f (xs.drop i) m = R) : m = R := by
  rw [List.drop_eq_nil_of_le hi] at hI; exact hI
theorem szL_step {α : Type} {f : α → Int → Int} {xs : List α} {i : Nat} {m R : Int} {d : α} (hi : i < xs.length) (hI : szL f (xs.drop i) m = R) :
    (f (xs[i]?.getD d) m < 0 → -1 = R) ∧ (0 ≤ f (xs[i]?.getD d) m → szL f (xs.drop (i + 1)) (f (xs[i]?.getD d) m) = R) := by
  rw [List.drop_eq_getElem_cons hi] at hI
  rw [List.getElem?_eq_getElem hi, Option.getD_some]
  simp only [szL] at hI
  refine ⟨fun h => ?_, fun h => ?_⟩
  · rw [if_pos h] at hI; exact hI
  · rw [if_neg (by omega)] at hI; exact hI
theorem mem_at {α : Type} {xs : List α} {i : Nat} {d : α} (hi : i < xs.length) : xs[i]?.getD d ∈ xs := by
  rw [List.getElem?_eq_getElem hi, Option.getD_some]; exact List.getElem_mem hi
theorem wrap_succ {i n : Nat} (h : i < n) (hn : n ≤ 1048576) : IntKind.i64.wrap ((i : Int) + 1) = ((i + 1 : Nat) : Int) := by
  rw [IntKind.wrap_i64]; omega
def szPre (t : Ty) (x : Val t) (n : Int) : Prop := Sm t x ∧ 0 ≤ n ∧ n ≤ 1048576
/-- A new row, filled up to i. -/
def fillP {α : Type} (xs : List α) (d : α) (i : Nat) : List α := xs.take i ++ List.replicate (xs.length - i) d
theorem fillP_len {α : Type} {xs : List α} {d : α} {i : Nat} (h : i ≤ xs.length) : (fillP xs d i).length = xs.length := by
  simp [fillP]; omega
theorem fillP_zero {α : Type} (xs : List α) (d : α) : List.replicate xs.length d = fillP xs d 0 := by simp [fillP]
theorem fillP_end {α : Type} {xs : List α} {d : α} {i : Nat} (h : xs.length ≤ i) : fillP xs d i = xs := by
  simp [fillP, List.take_of_length_le h, Nat.sub_eq_zero_of_le h]
theorem fillP_set {α : Type} {xs : List α} {d d' : α} {i : Nat} (h : i < xs.length) : (fillP xs d i).set i (xs[i]?.getD d') = fillP xs d (i + 1) := by
  have e1 : xs.length - i = (xs.length - (i + 1)) + 1 := by omega
  have e2 : i - (xs.take i).length = 0 := by simp; omega
  unfold fillP
  rw [e1, List.replicate_succ, List.set_append_right _ _ (by simp; omega), e2, List.set_cons_zero, List.getElem?_eq_getElem h, Option.getD_some]
  have e3 : xs.take (i + 1) = xs.take i ++ [xs[i]] := by rw [List.take_add_one, List.getElem?_eq_getElem h]; rfl
  rw [e3, List.append_assoc]; rfl
theorem wrap64 {n : Int} (h1 : -9223372036854775808 ≤ n) (h2 : n ≤ 9223372036854775807) : IntKind.i64.wrap n = n := by
  rw [IntKind.wrap_i64]; omega
theorem eqL_step {α : Type} {f : α → α → Bool} {xs ys : List α} {i : Nat} {R : Bool} {d : α} (hl : xs.length = ys.length) (hi : i < xs.length) (hI : eqL f (xs.drop i) (ys.drop i) = R) :
    (f (xs[i]?.getD d) (ys[i]?.getD d) = false → R = false) ∧ (f (xs[i]?.getD d) (ys[i]?.getD d) = true → eqL f (xs.drop (i + 1)) (ys.drop (i + 1)) = R) := by
  rw [List.drop_eq_getElem_cons hi, List.drop_eq_getElem_cons (by omega : i < ys.length)] at hI
  rw [List.getElem?_eq_getElem hi, List.getElem?_eq_getElem (by omega : i < ys.length), Option.getD_some, Option.getD_some]
  simp only [eqL] at hI
  exact ⟨fun h => by rw [h] at hI; simpa using hI.symm, fun h => by rw [h] at hI; simpa using hI⟩
theorem eqL_end {α : Type} {f : α → α → Bool} {xs ys : List α} {i : Nat} {R : Bool} (hl : xs.length = ys.length) (hi : xs.length ≤ i) (hI : eqL f (xs.drop i) (ys.drop i) = R) : R = true := by
  rw [List.drop_eq_nil_of_le hi, List.drop_eq_nil_of_le (by omega)] at hI; exact hI.symm
theorem eqV_pair {a b : Ty} {v u : Val a × Val b} : eqV (.pair a b) v u = (eqV a v.1 u.1 && eqV b v.2 u.2) := rfl
theorem eqV_int {k : IntKind} {a b : Int} : eqV (.int k) a b = decide (a = b) := rfl
theorem eqV_bool {a b : Bool} : eqV .bool a b = (a == b) := rfl
theorem eqV_str {a b : ByteArray} : eqV .str a b = (a.toList == b.toList) := rfl
def chain : Nat → Nat → Tree → Tree
  | _, 0, t => t
  | i, n + 1, t => .quiet i (chain (i + 1) n t)
attribute [simp] chain
end Go.T
