/- T: what comes in as an argument. -/
import Derived.Test.YtkjiecjpdbpghaaT8
import Derived.ProofKit
import Derived.OpenShut
import Derived.WideShapes
import Derived.Carry
import Derived.Below
set_option linter.unusedSimpArgs false
set_option linter.unusedVariables false
namespace Go.T
open Go Go.WideShapes

/-- What holds of every value that comes in: lengths, ranges. -/
def Sm : (t : Ty) → Val t → Prop
  | .int k, n => (Lit.int k n).wf = true
  | .bool, _ => True
  | .str, s => s.size ≤ maxLen
  | .hdr, _ => True
  | .slice _ t, xs => xs.length ≤ maxLen ∧ ∀ x ∈ xs, Sm t x
  | .pair a b, v => Sm a v.1 ∧ Sm b v.2

mutual
/-- How a type's values are told, out of the program's types. -/
def tyOf (P : Program) : Nat → TypeId → Option Ty
  | 0, _ => none
  | n + 1, t => match P.underlying t with
    | some (.int k) => some (.int k)
    | some .bool => some .bool
    | some .string => some .str
    | some (.slice e) => match tyOf P n e with
      | some te => if P.cellsOf e = te.sz then some (.slice e te) else none
      | none => none
    | some (.struct fs) => match fieldsTy P n 0 fs.toList with
      | some ty => if P.cellsOf t = ty.sz then some ty else none
      | none => none
    | _ => none
def fieldsTy (P : Program) : Nat → Nat → List Field → Option Ty
  | 0, _, _ => none
  | n + 1, off, fs => match fs with
    | [] => none
    | [f] => match tyOf P n f.type with
      | some a => if f.offset = off ∧ P.cellsOf f.type = a.sz then some a else none
      | none => none
    | f :: g :: r => match tyOf P n f.type with
      | some a => if f.offset = off ∧ P.cellsOf f.type = a.sz then match fieldsTy P n (off + a.sz) (g :: r) with
        | some b => some (.pair a b)
        | none => none
        else none
      | none => none
end

theorem cells_At {w : World} {a : Addr} {n : Nat} {cs : List Value} (h : w.cells? 0 a n = some cs) : cs.length = n ∧ At w a cs := by
  unfold World.cells? at h
  simp only [Nat.zero_le, if_true] at h
  have hl := mapM_some_length h
  refine ⟨by simpa using hl, fun j u hu => ?_⟩
  have hj : j < n := by
    have := (List.getElem?_eq_some_iff.1 hu).1
    simp at hl; omega
  have := mapM_some_get h j j (by simp [hj])
  rw [this, hu]

theorem list_of {α : Type} {Q : Nat → α → Prop} : ∀ n : Nat, (∀ i, i < n → ∃ x, Q i x) → ∃ xs : List α, xs.length = n ∧ ∀ i x, xs[i]? = some x → Q i x
  | 0, _ => ⟨[], rfl, fun i x h => by simp at h⟩
  | n + 1, h => by
    obtain ⟨xs, hl, hx⟩ := list_of n fun i hi => h i (by omega)
    obtain ⟨y, hy⟩ := h n (by omega)
    refine ⟨xs ++ [y], by simp [hl], fun i x hi => ?_⟩
    by_cases e : i < n
    · rw [List.getElem?_append_left (by omega)] at hi; exact hx i x hi
    · rw [List.getElem?_append_right (by omega)] at hi
      have : i = n := by
        rcases Nat.lt_or_ge n i with h' | h'
        · rw [List.getElem?_eq_none (by simp; omega)] at hi; cases hi
        · omega
      subst this
      simp [hl] at hi
      subst hi; exact hy

section
variable {H : Type} {enc : TypeId × Value → H} {P : Program} {w : World} {spare : Nat → Bool} {held : Bool}

mutual
theorem trod_K : ∀ (n : Nat) {fuel : Nat} {t : TypeId} {ty : Ty} {cs : List Value} {x : DataW H × List MemPlace}, tyOf P n t = some ty → DataW.trod enc P w 0 spare held fuel t cs = some x → ∃ v : Val ty, K w (fun _ => True) ty v cs ∧ Sm ty v
  | 0, _, _, _, _, _, h, _ => by simp [tyOf] at h
  | n + 1, fuel, t, ty, cs, x, h, hx => by
    unfold tyOf at h
    split at h
    · rename_i k hu
      cases h
      obtain ⟨m, rfl, _, hw⟩ := DataW.trod_int hu hx
      exact ⟨m, by rw [K], hw⟩
    · rename_i hu
      cases h
      obtain ⟨b, rfl, _⟩ := DataW.trod_bool hu hx
      exact ⟨(b : Bool), by rw [K], trivial⟩
    · rename_i hu
      cases h
      obtain ⟨s, rfl, _, hs⟩ := DataW.trod_string hu hx
      exact ⟨(s : ByteArray), by rw [K], hs⟩
    · rename_i e hu
      split at h
      · rename_i te hte
        split at h
        · rename_i hsz
          cases h
          rcases DataW.trod_slice hu hx with ⟨rfl, _⟩ | ⟨a, len, cap, elems, rest, m, _, rfl, _, _, h1, h2, h3, h4, _⟩
          · refine ⟨([] : List (Val te)), ?_, ?_⟩
            · rw [K]; exact ⟨none, 0, rfl, Nat.le_refl _, fun i x h => by simp at h⟩
            · exact ⟨by simp, by simp⟩
          · obtain ⟨xs, hxl, hxs⟩ := list_of (Q := fun i (v : Val te) => (∃ cs, K w (fun _ => True) te v cs ∧ At w (a.add (i * te.sz)) cs) ∧ Sm te v) len fun i hi => by
              have hg := h4 i hi
              have : i < elems.length := by omega
              rw [List.getElem?_eq_getElem this, hsz] at hg
              simp only [Option.bind_eq_some_iff] at hg
              obtain ⟨cs', hc, ht⟩ := hg
              obtain ⟨_, hat⟩ := cells_At hc
              obtain ⟨v, hv, hs⟩ := trod_K n hte ht
              exact ⟨v, ⟨cs', hv, hat⟩, hs⟩
            refine ⟨xs, ?_, ?_⟩
            · rw [K]
              exact ⟨some a, cap, by rw [hxl], by omega, fun i x hi => by
                obtain ⟨⟨cs', hv, hat⟩, _⟩ := hxs i x hi
                exact ⟨a, cs', rfl, trivial, hv, hat⟩⟩
            · refine ⟨by omega, fun y hy => ?_⟩
              obtain ⟨i, hi⟩ := List.getElem?_of_mem hy
              exact (hxs i y hi).2
        · simp at h
      · simp at h
    · rename_i fs hu
      split at h
      · rename_i ty' hty
        split at h
        · rename_i hsz
          cases h
          obtain ⟨ys, m, _, _, hl, hyl, hf⟩ := DataW.trod_struct hu hx
          obtain ⟨v, hk, hs⟩ := fields_K (cs := cs) n hty (fun f hm => by
            obtain ⟨i, hi⟩ := List.getElem?_of_mem hm
            have hi' : fs[i]? = some f := by rw [← Array.getElem?_toList]; exact hi
            have := hf i f hi'
            have hil : i < ys.length := by rw [hyl]; exact (Array.getElem?_eq_some_iff.1 hi').1
            rw [List.getElem?_eq_getElem hil] at this
            exact ⟨_, this⟩)
          refine ⟨v, ?_, hs⟩
          have : (cs.drop 0).take ty.sz = cs := by rw [List.drop_zero, List.take_of_length_le (by omega)]
          rw [← this]; exact hk
        · simp at h
      · simp at h
    · simp at h
theorem fields_K : ∀ (n : Nat) {fuel off : Nat} {fs : List Field} {ty : Ty} {cs : List Value}, fieldsTy P n off fs = some ty → (∀ f ∈ fs, ∃ y, DataW.trod enc P w 0 spare held fuel f.type ((cs.drop f.offset).take (P.cellsOf f.type)) = some y) →
    ∃ v : Val ty, K w (fun _ => True) ty v ((cs.drop off).take ty.sz) ∧ Sm ty v
  | 0, _, _, _, _, _, h, _ => by simp [fieldsTy] at h
  | n + 1, fuel, off, [], ty, cs, h, _ => by simp [fieldsTy] at h
  | n + 1, fuel, off, [f], ty, cs, h, hm => by
    simp only [fieldsTy] at h
    split at h
    · rename_i a ha
      split at h
      · rename_i hc
        cases h
        obtain ⟨y, hy⟩ := hm f (by simp)
        rw [hc.1, hc.2] at hy
        exact trod_K n ha hy
      · simp at h
    · simp at h
  | n + 1, fuel, off, f :: g :: r, ty, cs, h, hm => by
    simp only [fieldsTy] at h
    split at h
    · rename_i a ha
      split at h
      · rename_i hc
        split at h
        · rename_i b hb
          cases h
          obtain ⟨y, hy⟩ := hm f (by simp)
          rw [hc.1, hc.2] at hy
          obtain ⟨v1, hk1, hs1⟩ := trod_K n ha hy
          obtain ⟨v2, hk2, hs2⟩ := fields_K (cs := cs) n hb fun f hf => hm f (List.mem_cons_of_mem _ hf)
          refine ⟨((v1, v2) : Val a × Val b), ?_, hs1, hs2⟩
          rw [K]
          refine ⟨_, _, ?_, hk1, hk2⟩
          rw [Ty.sz, ← List.drop_drop, List.take_add]
        · simp at h
      · simp at h
    · simp at h
end

/-- An argument's whole. -/
def Sms : (tis : List TI) → Vals tis → Prop
  | [], _ => True
  | ti :: r, x => Sm ti.ty x.1 ∧ Sms r x.2

def aggOf (P : Program) (t : TypeId) : Bool := match P.underlying t with
  | some (.struct _) => true
  | _ => false

theorem arg_K {base n : Nat} {r : Reach} {t : TypeId} {ti : TI} {v : Value} {d : DataW H} {p : List MemPlace} (hty : tyOf P n t = some ti.ty) (hag : aggOf P t = ti.agg) (hv : Value.okWide P w r base t v) (h : DataW.Trod enc P w 0 spare held t v d p) :
    ∃ x : Val ti.ty, ∃ cs, K w (fun _ => True) ti.ty x cs ∧ wrapped ti.agg cs v ∧ Sm ti.ty x := by
  obtain ⟨fuel, hf⟩ := h
  obtain ⟨x, hk, hs⟩ := trod_K n hty hf
  refine ⟨x, _, hk, ?_, hs⟩
  rw [← hag]
  unfold aggOf
  cases n with
  | zero => simp [tyOf] at hty
  | succ n =>
    unfold tyOf at hty
    split at hty
    · rename_i k hu
      rw [hu]
      simp only [wrapped]
      obtain ⟨m, hc, _⟩ := DataW.trod_int hu hf
      simp only [Value.okWide, hu, Cell.okWide] at hv
      cases v <;> simp_all [Cell.ok, Value.cells]
    · rename_i hu
      rw [hu]
      simp only [wrapped]
      simp only [Value.okWide, hu, Cell.okWide] at hv
      cases v <;> simp_all [Cell.ok, Value.cells]
    · rename_i hu
      rw [hu]
      simp only [wrapped]
      obtain ⟨s, rfl⟩ := okWide_string hu hv
      simp [Value.cells]
    · rename_i e hu
      rw [hu]
      simp only [wrapped]
      obtain ⟨a, l, c, rfl⟩ := okWide_slice hu hv
      simp [Value.cells]
    · rename_i fs hu
      rw [hu]
      simp only [wrapped]
      obtain ⟨cs, rfl, _⟩ := okWide_struct hu hv
      simp [Value.cells]
    · simp at hty
end
end Go.T
/- T: sizes, equality, bounds of values. -/
namespace Go.T
open Go

def szL {α : Type} (f : α → Int → Int) : List α → Int → Int
  | [], n => n
  | x :: r, n => if f x n < 0 then -1 else szL f r (f x n)
/-- What is left of n behind a value's parts. -/
def szV : (t : Ty) → Val t → Int → Int
  | .int _, _, n => n
  | .bool, _, n => n
  | .str, s, n => if n - s.size < 0 then -1 else n - s.size
  | .hdr, _, n => n
  | .slice _ t, xs, n => if n - xs.length < 0 then -1 else szL (szV t) xs (n - xs.length)
  | .pair a b, v, n => if szV a v.1 n < 0 then -1 else szV b v.2 (szV a v.1 n)
def Bd : (t : Ty) → Val t → Prop
  | .int _, _ => True
  | .bool, _ => True
  | .str, s => s.size ≤ 1048576
  | .hdr, _ => True
  | .slice _ t, xs => xs.length ≤ 1048576 ∧ ∀ x ∈ xs, Bd t x
  | .pair a b, v => Bd a v.1 ∧ Bd b v.2

theorem szL_le {α : Type} {f : α → Int → Int} (hf : ∀ x n, 0 ≤ n → f x n ≤ n ∧ (f x n < 0 → f x n = -1)) : ∀ (xs : List α) (n : Int), 0 ≤ n → szL f xs n ≤ n ∧ (szL f xs n < 0 → szL f xs n = -1)
  | [], n, h => ⟨Int.le_refl _, fun h' => by simp only [szL] at h' ⊢; omega⟩
  | x :: r, n, h => by
    have h1 := hf x n h
    simp only [szL]
    split
    · exact ⟨by omega, fun _ => rfl⟩
    · have := szL_le hf r (f x n) (by omega)
      exact ⟨by omega, this.2⟩
theorem szV_le : ∀ (t : Ty) (x : Val t) (n : Int), 0 ≤ n → szV t x n ≤ n ∧ (szV t x n < 0 → szV t x n = -1)
  | .int _, _, n, h => ⟨Int.le_refl _, fun h' => by simp only [szV] at h' ⊢; omega⟩
  | .bool, _, n, h => ⟨Int.le_refl _, fun h' => by simp only [szV] at h' ⊢; omega⟩
  | .str, s, n, h => by simp only [szV]; split <;> omega
  | .hdr, _, n, h => ⟨Int.le_refl _, fun h' => by simp only [szV] at h' ⊢; omega⟩
  | .slice _ t, xs, n, h => by
    simp only [szV]
    split
    · exact ⟨by omega, fun _ => rfl⟩
    · have := szL_le (f := szV t) (fun x n h => szV_le t x n h) xs (n - xs.length) (by omega)
      exact ⟨by omega, this.2⟩
  | .pair a b, v, n, h => by
    simp only [szV]
    have h1 := szV_le a v.1 n h
    split
    · exact ⟨by omega, fun _ => rfl⟩
    · have := szV_le b v.2 (szV a v.1 n) (by omega)
      exact ⟨by omega, this.2⟩

theorem szL_mem {α : Type} {f : α → Int → Int} {B : α → Prop} (hf : ∀ x n, 0 ≤ n → n ≤ 1048576 → 0 ≤ f x n → f x n ≤ n ∧ B x) : ∀ (xs : List α) (n : Int), 0 ≤ n → n ≤ 1048576 → 0 ≤ szL f xs n → ∀ x ∈ xs, B x
  | [], _, _, _, _ => by simp
  | x :: r, n, h0, h1, h => by
    simp only [szL] at h
    split at h
    · omega
    · rename_i hx
      have := hf x n h0 h1 (by omega)
      intro y hy
      rcases List.mem_cons.1 hy with rfl | hy
      · exact this.2
      · exact szL_mem hf r (f x n) (by omega) (by omega) h y hy
theorem szV_Bd : ∀ (t : Ty) (x : Val t) (n : Int), 0 ≤ n → n ≤ 1048576 → 0 ≤ szV t x n → Bd t x
  | .int _, _, _, _, _, _ => trivial
  | .bool, _, _, _, _, _ => trivial
  | .hdr, _, _, _, _, _ => trivial
  | .str, s, n, h0, h1, h => by
    simp only [szV] at h
    split at h
    · omega
    · simp only [Bd]; omega
  | .slice _ t, xs, n, h0, h1, h => by
    simp only [szV] at h
    split at h
    · omega
    · refine ⟨by omega, ?_⟩
      exact szL_mem (f := szV t) (fun x n h0 h1 h => ⟨(szV_le t x n h0).1, szV_Bd t x n h0 h1 h⟩) xs _ (by omega) (by omega) h
  | .pair a b, v, n, h0, h1, h => by
    simp only [szV] at h
    split at h
    · omega
    · have := szV_le a v.1 n h0
      exact ⟨szV_Bd a v.1 n h0 h1 (by omega), szV_Bd b v.2 _ (by omega) (by omega) h⟩

theorem szL_flat {α : Type} {f : α → Int → Int} (hf : ∀ x n, f x n = n) : ∀ (xs : List α) (n : Int), 0 ≤ n → szL f xs n = n
  | [], _, _ => rfl
  | x :: r, n, h => by simp only [szL, hf]; rw [if_neg (by omega), szL_flat hf r n h]

def eqL {α : Type} (f : α → α → Bool) : List α → List α → Bool
  | [], [] => true
  | x :: xs, y :: ys => f x y && eqL f xs ys
  | _, _ => false
def eqV : (t : Ty) → Val t → Val t → Bool
  | .int _, a, b => decide ((a : Int) = b)
  | .bool, a, b => (a : Bool) == b
  | .str, a, b => ByteArray.toList a == ByteArray.toList b
  | .hdr, _, _ => true
  | .slice _ t, xs, ys => eqL (eqV t) xs ys
  | .pair a b, v, u => eqV a v.1 u.1 && eqV b v.2 u.2
theorem eqL_refl {α : Type} {f : α → α → Bool} (hf : ∀ x, f x x = true) : ∀ xs : List α, eqL f xs xs = true
  | [] => rfl
  | x :: xs => by simp [eqL, hf, eqL_refl hf xs]
theorem eqV_refl : ∀ (t : Ty) (x : Val t), eqV t x x = true
  | .int _, x => by simp [eqV]
  | .bool, x => by simp [eqV]
  | .str, x => by simp [eqV]
  | .hdr, x => by simp [eqV]
  | .slice _ t, xs => by simp only [eqV]; exact eqL_refl (eqV_refl t) xs
  | .pair a b, v => by simp [eqV, eqV_refl a v.1, eqV_refl b v.2]
theorem eqL_len {α : Type} {f : α → α → Bool} : ∀ (xs ys : List α), xs.length ≠ ys.length → eqL f xs ys = false
  | [], [], h => absurd rfl h
  | [], _ :: _, _ => rfl
  | _ :: _, [], _ => rfl
  | x :: xs, y :: ys, h => by simp [eqL, eqL_len xs ys (by simpa using h)]

theorem szV_pair {a b : Ty} {v : Val a × Val b} {n : Int} : szV (.pair a b) v n = if szV a v.1 n < 0 then -1 else szV b v.2 (szV a v.1 n) := rfl
theorem szV_int {k : IntKind} {v : Int} {n : Int} : szV (.int k) v n = n := rfl
theorem szV_bool {v : Bool} {n : Int} : szV .bool v n = n := rfl
theorem szV_str {s : ByteArray} {n : Int} : szV .str s n = if n - s.size < 0 then -1 else n - s.size := rfl
theorem szV_slice {e : Nat} {t : Ty} {xs : List (Val t)} {n : Int} : szV (.slice e t) xs n = if n - xs.length < 0 then -1 else szL (szV t) xs (n - xs.length) := rfl
theorem szV_pair_neg {a b : Ty} {v : Val a × Val b} {n : Int} (h : szV a v.1 n < 0) : szV (.pair a b) v n = -1 := by rw [szV_pair, if_pos h]
theorem szV_pair_pos {a b : Ty} {v : Val a × Val b} {n : Int} (h : 0 ≤ szV a v.1 n) : szV (.pair a b) v n = szV b v.2 (szV a v.1 n) := by rw [szV_pair, if_neg (by omega)]
theorem szV_pair_int {k : IntKind} {b : Ty} {v : Int × Val b} {n : Int} (h : 0 ≤ n) : szV (.pair (.int k) b) v n = szV b v.2 n := by rw [szV_pair, szV_int, if_neg (by omega)]
theorem szV_slice_neg {e : Nat} {t : Ty} {xs : List (Val t)} {n : Int} (h : n - xs.length < 0) : szV (.slice e t) xs n = -1 := by rw [szV_slice, if_pos h]
theorem szV_str_neg {s : ByteArray} {n : Int} (h : n - s.size < 0) : szV .str s n = -1 := by rw [szV_str, if_pos h]
theorem szV_str_pos {s : ByteArray} {n : Int} (h : 0 ≤ n - s.size) : szV .str s n = n - s.size := by rw [szV_str, if_neg (by omega)]
theorem szL_flatV {t : Ty} (h : ∀ (x : Val t) n, szV t x n = n) (xs : List (Val t)) (n : Int) (hn : 0 ≤ n) : szL (szV t) xs n = n := szL_flat h xs n hn
theorem szL_end {α : Type} {f : α → Int → Int} {xs : List α} {i : Nat} {m R : Int} (hi : xs.length ≤ i) (hI : szL f (xs.drop i) m = R) : m = R := by
  rw [List.drop_eq_nil_of_le hi] at hI; exact hI
theorem szL_step {α : Type} {f : α → Int → Int} {xs : List α} {i : Nat} {m R : Int} {d : α} (hi : i < xs.length) (hI : szL f (xs.drop i) m = R) :
    (f (xs[i]?.getD d) m < 0 → -1 = R) ∧ (0 ≤ f (xs[i]?.getD d) m → szL f (xs.drop (i + 1)) (f (xs[i]?.getD d) m) = R) := by
  rw [List.drop_eq_getElem_cons hi] at hI
  rw [List.getElem?_eq_getElem hi, Option.getD_some]
  simp only [szL] at hI
  refine ⟨fun h => ?_, fun h => ?_⟩
  · rw [if_pos h] at hI; exact hI
  · rw [if_neg (by omega)] at hI; exact hI
theorem mem_at {α : Type} {xs : List α} {i : Nat} {d : α} (hi : i < xs.length) : xs[i]?.getD d ∈ xs := by
  rw [List.getElem?_eq_getElem hi, Option.getD_some]; exact List.getElem_mem hi
theorem wrap_succ {i n : Nat} (h : i < n) (hn : n ≤ 1048576) : IntKind.i64.wrap ((i : Int) + 1) = ((i + 1 : Nat) : Int) := by
  rw [IntKind.wrap_i64]; omega
def szPre (t : Ty) (x : Val t) (n : Int) : Prop := Sm t x ∧ 0 ≤ n ∧ n ≤ 1048576
/-- A new row, filled up to i. -/
def fillP {α : Type} (xs : List α) (d : α) (i : Nat) : List α := xs.take i ++ List.replicate (xs.length - i) d
theorem fillP_len {α : Type} {xs : List α} {d : α} {i : Nat} (h : i ≤ xs.length) : (fillP xs d i).length = xs.length := by
  simp [fillP]; omega
theorem fillP_zero {α : Type} (xs : List α) (d : α) : List.replicate xs.length d = fillP xs d 0 := by simp [fillP]
theorem fillP_end {α : Type} {xs : List α} {d : α} {i : Nat} (h : xs.length ≤ i) : fillP xs d i = xs := by
  simp [fillP, List.take_of_length_le h, Nat.sub_eq_zero_of_le h]
theorem fillP_set {α : Type} {xs : List α} {d d' : α} {i : Nat} (h : i < xs.length) : (fillP xs d i).set i (xs[i]?.getD d') = fillP xs d (i + 1) := by
  have e1 : xs.length - i = (xs.length - (i + 1)) + 1 := by omega
  have e2 : i - (xs.take i).length = 0 := by simp; omega
  unfold fillP
  rw [e1, List.replicate_succ, List.set_append_right _ _ (by simp; omega), e2, List.set_cons_zero, List.getElem?_eq_getElem h, Option.getD_some]
  have e3 : xs.take (i + 1) = xs.take i ++ [xs[i]] := by rw [List.take_add_one, List.getElem?_eq_getElem h]; rfl
  rw [e3, List.append_assoc]; rfl
theorem wrap64 {n : Int} (h1 : -9223372036854775808 ≤ n) (h2 : n ≤ 9223372036854775807) : IntKind.i64.wrap n = n := by
  rw [IntKind.wrap_i64]; omega
theorem eqL_step {α : Type} {f : α → α → Bool} {xs ys : List α} {i : Nat} {R : Bool} {d : α} (hl : xs.length = ys.length) (hi : i < xs.length) (hI : eqL f (xs.drop i) (ys.drop i) = R) :
    (f (xs[i]?.getD d) (ys[i]?.getD d) = false → R = false) ∧ (f (xs[i]?.getD d) (ys[i]?.getD d) = true → eqL f (xs.drop (i + 1)) (ys.drop (i + 1)) = R) := by
  rw [List.drop_eq_getElem_cons hi, List.drop_eq_getElem_cons (by omega : i < ys.length)] at hI
  rw [List.getElem?_eq_getElem hi, List.getElem?_eq_getElem (by omega : i < ys.length), Option.getD_some, Option.getD_some]
  simp only [eqL] at hI
  exact ⟨fun h => by rw [h] at hI; simpa using hI.symm, fun h => by rw [h] at hI; simpa using hI⟩
theorem eqL_end {α : Type} {f : α → α → Bool} {xs ys : List α} {i : Nat} {R : Bool} (hl : xs.length = ys.length) (hi : xs.length ≤ i) (hI : eqL f (xs.drop i) (ys.drop i) = R) : R = true := by
  rw [List.drop_eq_nil_of_le hi, List.drop_eq_nil_of_le (by omega)] at hI; exact hI.symm
theorem eqV_pair {a b : Ty} {v u : Val a × Val b} : eqV (.pair a b) v u = (eqV a v.1 u.1 && eqV b v.2 u.2) := rfl
theorem eqV_int {k : IntKind} {a b : Int} : eqV (.int k) a b = decide (a = b) := rfl
theorem eqV_bool {a b : Bool} : eqV .bool a b = (a == b) := rfl
theorem eqV_str {a b : ByteArray} : eqV .str a b = (a.toList == b.toList) := rfl
def chain : Nat → Nat → Tree → Tree
  | _, 0, t => t
  | i, n + 1, t => .quiet i (chain (i + 1) n t)
attribute [simp] chain
end Go.T
/- T: nil slices as rows of no elements. -/
namespace Go.T
open Go

/-- Where a nil slice becomes a row: a slot (its cell c), a box that a slot leads to (its cell c). -/
inductive Fix
  | env (j c e : Nat) (t : Ty)
  | box (j c e : Nat) (t : Ty)
structure Nm where
  keep : List Bool
  fix : List Fix := []

def St.fix1 (st : St) : Fix → St
  | .env j c e t => match st.env[j]? with
    | some (.one .nils) => { env := st.env.set j (.one (.own st.heap.length)), heap := st.heap ++ [.row e t [] true true 0] }
    | some (.agg cs) => match cs[c]? with
      | some .nils => { env := st.env.set j (.agg (cs.set c (.own st.heap.length))), heap := st.heap ++ [.row e t [] true true 0] }
      | _ => st
    | _ => st
  | .box j c e t => match st.env[j]? with
    | some (.one (.ptr id _ _)) => match st.heap[id]? with
      | some (.box cs) => match cs[c]? with
        | some .nils => { env := st.env, heap := st.heap.set id (.box (cs.set c (.own st.heap.length))) ++ [.row e t [] true true 0] }
        | _ => st
      | _ => st
    | _ => st
def St.fixes (st : St) : List Fix → St
  | [] => st
  | f :: r => (st.fix1 f).fixes r
def St.norm (nm : Nm) (st : St) : St := (st.fixes nm.fix).gc nm.keep

section
variable {w0 w : World} {mine : Mine} {m : Mp} {h : List Blk}

/-- A box read otherwise. -/
theorem HR.rebox (H : HR w0 mine w m h) {id : Nat} {cs cs' : List LC} (hb : h[id]? = some (.box cs)) (hc : ∀ vs : List Value, F2 (C w m h) cs vs → F2 (C w m h) cs' vs) :
    HR w0 mine w m (h.set id (.box cs')) ∧ Oks w w m m h (h.set id (.box cs')) ∧ Sims m m h (h.set id (.box cs')) := by
  have hid := (List.getElem?_eq_some_iff.1 hb).1
  have get : ∀ j y, (h.set id (.box cs'))[j]? = some y → (j = id ∧ y = .box cs') ∨ (j ≠ id ∧ h[j]? = some y) := fun j y hy => by
    rw [List.getElem?_set] at hy
    split at hy
    · rename_i e; subst e; simp [hid] at hy; exact .inl ⟨rfl, hy.symm⟩
    · rename_i e; exact .inr ⟨fun e' => e e'.symm, hy⟩
  have old : ∀ j y, (h.set id (.box cs'))[j]? = some y → ∃ y0, h[j]? = some y0 ∧ fpB m j y = fpB m j y0 ∧ ∀ n b, okB m n b j y ↔ okB m n b j y0 := fun j y hy => by
    rcases get j y hy with ⟨rfl, rfl⟩ | ⟨_, hy⟩
    · exact ⟨_, hb, rfl, fun _ _ => Iff.rfl⟩
    · exact ⟨y, hy, rfl, fun _ _ => Iff.rfl⟩
  have hok : Oks w w m m h (h.set id (.box cs')) := fun n b hb' _ => ⟨rfl, hb'.1, fun j y hy => by
    obtain ⟨y0, h0, _, h2⟩ := old j y hy
    exact (h2 n b).2 (hb'.2 j y0 h0)⟩
  have hs : Sims m m h (h.set id (.box cs')) := fun j x hx => by
    by_cases e : j = id
    · subst e
      rw [hb] at hx; cases hx
      exact ⟨.box cs', by simp [hid], rfl⟩
    · refine ⟨x, by rw [List.getElem?_set_ne (fun e' => e e'.symm)]; exact hx, ?_⟩
      cases x <;> simp [Sim]
  refine ⟨⟨fun j y hy => ?_, fun j y hy => ?_, fun j y j' y' hne hy hy' b hb1 hb2 => ?_, fun j y hy b hb1 => ?_, H.fr, H.mx, H.nx, fun j v hp => ?_⟩, hok, hs⟩
  · rcases get j y hy with ⟨rfl, rfl⟩ | ⟨_, hy'⟩
    · obtain ⟨arr, ty, h1, h2, h3⟩ := H.br j _ hb
      exact ⟨arr, ty, h1, (hc _ h2).imp fun _ _ _ hC => C_mono hok hs hC, h3⟩
    · exact BR_mono hok hs rfl rfl rfl (fun _ _ => rfl) (H.br j y hy')
  · obtain ⟨y0, h0, h1, _⟩ := old j y hy
    rw [h1]; exact H.nd j y0 h0
  · obtain ⟨y0, h0, h1, _⟩ := old j y hy
    obtain ⟨y0', h0', h1', _⟩ := old j' y' hy'
    rw [h1] at hb1; rw [h1'] at hb2
    exact H.dj j y0 j' y0' hne h0 h0' b hb1 hb2
  · obtain ⟨y0, h0, h1, _⟩ := old j y hy
    rw [h1] at hb1; exact H.lt j y0 h0 b hb1
  · obtain ⟨h1, h2⟩ := H.pn j v hp
    exact ⟨by simpa using h1, h2⟩

/-- A row of none. -/
theorem HR.newNil (H : HR w0 mine w m h) (e : Nat) (t : Ty) : ∃ m', HR w0 mine w m' (h ++ [.row e t [] true true 0]) ∧ Oks w w m m' h (h ++ [.row e t [] true true 0]) ∧ Sims m m' h (h ++ [.row e t [] true true 0]) ∧
    C w m' (h ++ [.row e t [] true true 0]) (.own h.length) (.slice none 0 0) := by
  have hf : F2 (RowOk w) [.row e t [] true true 0] [((.slice none 0 0 : Value), ([] : List Nat))] := .cons ⟨e, t, [], [], rfl, ⟨by simp, .inl ⟨rfl, rfl⟩⟩, rfl, rfl⟩ .nil
  obtain ⟨H', hok, hs⟩ := HR.results H (Fr.refl _ w) hf (by simp [RowR.fp, Value.ownBlock]) (by simp [RowR.fp, Value.ownBlock])
  exact ⟨_, H', hok, hs, (CellR_C hf (c := .own h.length) ⟨0, _, rfl, rfl, rfl⟩).1⟩

theorem C_nils {m : Mp} {v : Value} (h1 : C w m h .nils v) : v = .slice none 0 0 := h1

theorem F2_setC {α β : Type} {R : α → β → Prop} {cs : List α} {vs : List β} (hf : F2 R cs vs) {c : Nat} {x : α} (hx : ∀ v, vs[c]? = some v → R x v) : F2 R (cs.set c x) vs := by
  induction hf generalizing c with
  | nil => exact .nil
  | cons h1 h2 ih => cases c with
    | zero => exact .cons (hx _ rfl) h2
    | succ c => exact .cons h1 (ih fun v hv => hx v (by simpa using hv))

theorem Le.fix1 (st : St) (f : Fix) : Le st (st.fix1 f) := fun w0 mine a w hp hr => by
  obtain ⟨hd, m, H, he⟩ := hr
  cases f with
  | env j c e t =>
    simp only [St.fix1]
    split
    · rename_i hj
      obtain ⟨m', H', hok, hs, hc⟩ := H.newNil e t
      refine ⟨hd, m', H', F2_setC (env_mono hok hs he) fun v hv => ?_⟩
      obtain ⟨v', hv', hV⟩ := he.get hj
      rw [hv] at hv'; cases hv'
      have : v = .slice none 0 0 := hV
      subst this
      exact hc
    · rename_i cs hj
      split
      · rename_i hc'
        obtain ⟨m', H', hok, hs, hc⟩ := H.newNil e t
        refine ⟨hd, m', H', F2_setC (env_mono hok hs he) fun v hv => ?_⟩
        obtain ⟨v', hv', hV⟩ := he.get hj
        rw [hv] at hv'; cases hv'
        obtain ⟨vs, rfl, hf⟩ := hV
        refine ⟨vs, rfl, F2_setC (hf.imp fun _ _ _ h => C_mono hok hs h) fun u hu => ?_⟩
        obtain ⟨u', hu', hC⟩ := hf.get hc'
        rw [hu] at hu'; cases hu'
        have : u = .slice none 0 0 := hC
        subst this
        exact hc
      · exact ⟨hd, m, H, he⟩
    · exact ⟨hd, m, H, he⟩
  | box j c e t =>
    simp only [St.fix1]
    split
    · rename_i id i f hj
      split
      · rename_i cs hb
        split
        · rename_i hc'
          obtain ⟨m', H', hok, hs, hc⟩ := H.newNil e t
          have hid := (List.getElem?_eq_some_iff.1 hb).1
          have hb' : (st.heap ++ [Blk.row e t [] true true 0])[id]? = some (.box cs) := by rw [List.getElem?_append_left hid]; exact hb
          obtain ⟨H2, hok2, hs2⟩ := H'.rebox hb' (cs' := cs.set c (.own st.heap.length)) fun vs hf => F2_setC hf fun u hu => by
            obtain ⟨u', hu', hC⟩ := hf.get hc'
            rw [hu] at hu'; cases hu'
            have : u = .slice none 0 0 := hC
            subst this
            exact hc
          rw [List.set_append_left _ _ hid] at H2 hok2 hs2
          exact ⟨hd, m', H2, env_mono hok2 hs2 (env_mono hok hs he)⟩
        · exact ⟨hd, m, H, he⟩
      · exact ⟨hd, m, H, he⟩
    · exact ⟨hd, m, H, he⟩
theorem Le.fixes : ∀ (l : List Fix) (st : St), Le st (st.fixes l)
  | [], st => Le.refl st
  | f :: r, st => (Le.fix1 st f).trans (Le.fixes r _)
theorem Le.norm (nm : Nm) (st : St) : Le st (st.norm nm) := (Le.fixes nm.fix st).trans (Le.gc _ nm.keep)
end
end Go.T
/- T: code run to what it returns. -/
namespace Go.T
open Go

variable {ρ : Type}

open Classical in
/-- k, if p. -/
noncomputable def chk (p : Prop) (k : Option ρ) : Option ρ := if p then k else none
theorem chk_some {p : Prop} {k : Option ρ} {r : ρ} : chk p k = some r ↔ p ∧ k = some r := by
  unfold chk; split <;> simp [*]
theorem chk_pos {p : Prop} {k : Option ρ} (h : p) : chk p k = k := by simp [chk, h]

noncomputable def opR (tt : TT) (Γ : Gam) (o : Oper) (st : St) (k : St → Option ρ) : Option ρ := match stepAll tt Γ o st with
  | some (p, st') => chk p (k st')
  | none => none
def guardR (ops : Array Oper) (o : Oper) (st : St) (yes no : St → Option ρ) : Option ρ := match o.guard with
  | none => yes st
  | some (j, want) => match (ops[j]?).bind (·.dst) with
    | none => no st
    | some t => match st.env[t]? with
      | some (.one (.bool b)) => bif (b == want) then yes (st.lit t want) else no (st.lit t (!want))
      | some (.tup _) => no st
      | none => no st
      | _ => none
noncomputable def regionR (tt : TT) (Γ : Gam) (ops : Array Oper) : List Oper → St → (St → Option ρ) → Option ρ
  | [], st, k => k st
  | o :: os, st, k => guardR ops o st (fun st => opR tt Γ o st fun st => regionR tt Γ ops os st k) (fun st => regionR tt Γ ops os (st.put o.dst (.tup [])) k)
noncomputable def stepR (tt : TT) (Γ : Gam) (ops : Array Oper) (i : Nat) (st : St) (k : St → Option ρ) : Option ρ := match ops[i]? with
  | none => none
  | some o => guardR ops o st (fun st => opR tt Γ o st k) (fun st => k (st.put o.dst (.tup [])))
def Tree.isStop : Tree → Bool
  | .stop => true
  | _ => false
open Classical in
/-- Both are the same. -/
noncomputable def meet (a b : Option ρ) : Option ρ := if a = b then a else none
theorem meet_self {a : Option ρ} : meet a a = a := by simp [meet]
theorem meet_some {a b : Option ρ} {r : ρ} (h : meet a b = some r) : a = some r ∧ b = some r := by
  unfold meet at h
  split at h
  · rename_i e; exact ⟨h, e ▸ h⟩
  · simp at h
noncomputable def treeR (tt : TT) (Γ : Gam) (ops : Array Oper) : Tree → St → (St → Option ρ) → Option ρ
  | .done, st, k => k st
  | .first i t, st, k => chk (rdFree ops i st) (stepR tt Γ ops i st fun st => treeR tt Γ ops t st k)
  | .quiet i t, st, k => stepR tt Γ ops i st fun st => treeR tt Γ ops t st k
  | .grow i t, st, k => chk (rdLt ops i st) (stepR tt Γ ops i st fun st => treeR tt Γ ops t st k)
  | .alt i t r, st, k => bif r.isStop then stepR tt Γ ops i st (fun st => treeR tt Γ ops t st k) else meet (stepR tt Γ ops i st (fun st => treeR tt Γ ops t st k)) (treeR tt Γ ops r st k)
  | _, _, _ => none

def seqR (k : St → Option ρ) (Q : X → St → Option ρ) : X → St → Option ρ
  | .normal, st => k st
  | .ret, st => Q .ret st
  | .exit id, st => Q (.exit id) st
def blockR (id : Nat) (Q : X → St → Option ρ) : X → St → Option ρ
  | .normal, st => Q .normal st
  | .ret, st => Q .ret st
  | .exit id', st => bif id' == id then Q .normal st else Q (.exit id') st
def condR (c : Operand) (st : St) (x y : St → Option ρ) : Option ρ := match st.ev c with
  | .one (.bool b) => bif b then x (st.litO c true) else y (st.litO c false)
  | _ => none
def loopR (F : (X → St → Option ρ) → St → Option ρ) (nm : Nm) (Q : X → St → Option ρ) : Nat → St → Option ρ
  | 0, _ => none
  | n + 1, st => F (seqR (fun st' => loopR F nm Q n (st'.norm nm)) Q) st

/-- A code's first region. -/
def rid : Code → Nat
  | .region id _ _ => id
  | .seq a _ => rid a
  | .cond _ a _ => rid a
  | .block _ a => rid a
  | .loop a => rid a
  | _ => 0
/-- At the head of a loop (told by its first region): what is kept; behind an exit. -/
structure Tab where
  tr : Nat → Tree
  lp : Nat → Nm
  ex : Nat → Option Nm
  rg : Nat → Option Nm
  fuel : Nat

def nxt (o : Option Nm) (k : St → Option ρ) : St → Option ρ := match o with
  | none => k
  | some nm => fun st => k (st.norm nm)

noncomputable def runT (tt : TT) (Γ : Gam) (T : Tab) : Code → (X → St → Option ρ) → St → Option ρ
  | .skip, Q, st => Q .normal st
  | .region id ops false, Q, st => regionR tt Γ ops ops.toList st (nxt (T.rg id) (Q .normal))
  | .region id ops true, Q, st => treeR tt Γ ops (T.tr id) st (nxt (T.rg id) (Q .normal))
  | .seq a b, Q, st => runT tt Γ T a (seqR (runT tt Γ T b Q) Q) st
  | .cond c x y, Q, st => condR c st (runT tt Γ T x Q) (runT tt Γ T y Q)
  | .block id c, Q, st => runT tt Γ T c (blockR id Q) st
  | .loop c, Q, st => loopR (runT tt Γ T c) (T.lp (rid c)) Q T.fuel (st.norm (T.lp (rid c)))
  | .exit id, Q, st => match T.ex id with
    | none => Q (.exit id) st
    | some nm => Q (.exit id) (st.norm nm)
  | .ret, Q, st => Q .ret st
  | _, _, _ => none

section
variable {P : Program} {tt : TT} {Γ : Gam} {T : Tab} {w0 w : World} {mine : Mine} {r : ρ} {ops : Array Oper}

theorem guardR_W {o : Oper} {st : St} {yes no : St → Option ρ} {yes' no' : St → Prop} (hy : ∀ s, yes s = some r → yes' s) (hn : ∀ s, no s = some r → no' s) (h : guardR ops o st yes no = some r) : guardW ops o st yes' no' := by
  unfold guardR at h
  unfold guardW
  split
  · rename_i hg; simp only [hg] at h; exact hy _ h
  · rename_i j want hg
    simp only [hg] at h
    split
    · rename_i hb; simp only [hb] at h; exact hn _ h
    · rename_i t hb
      simp only [hb] at h
      split
      · rename_i b hs
        simp only [hs] at h
        cases hbw : (b == want) with
        | true =>
          rw [hbw] at h
          refine ⟨fun _ => hy _ h, fun e => ?_⟩
          subst e; cases want <;> simp at hbw
        | false =>
          rw [hbw] at h
          refine ⟨fun e => ?_, fun _ => hn _ h⟩
          subst e; simp at hbw
      · rename_i ls hs; simp only [hs] at h; exact hn _ h
      · rename_i hs; simp only [hs] at h; exact hn _ h
      · rename_i h1 h2 h3
        split at h
        · rename_i b hs; exact absurd hs (h1 b)
        · rename_i ls hs; exact absurd hs (h2 ls)
        · rename_i hs; exact absurd hs h3
        · simp at h

theorem regionR_W {k : St → Option ρ} : ∀ (os : List Oper) (st : St), regionR tt Γ ops os st k = some r → regionW P tt Γ ops os st (fun s => k s = some r)
  | [], _, h => h
  | o :: os, st, h => by
    refine guardR_W (fun s hs => ?_) (fun s hs => regionR_W os _ hs) h
    unfold opR at hs
    unfold opW
    split at hs
    · rename_i p st' hst
      rw [hst]
      have := chk_some.1 hs
      exact ⟨this.1, regionR_W os _ this.2⟩
    · simp at hs
theorem stepR_L {i : Nat} {st : St} {k : St → Option ρ} {k' : St → Prop} (hk : ∀ s, k s = some r → k' s) (h : stepR tt Γ ops i st k = some r) : stepL tt Γ ops i st k' := by
  unfold stepR at h
  unfold stepL
  split at h
  · simp at h
  · rename_i o ho
    rw [ho]
    refine guardR_W (fun s hs => ?_) (fun s hs => hk _ hs) h
    unfold opR at hs
    unfold actT
    split at hs
    · rename_i p st' hst
      rw [hst]
      have := chk_some.1 hs
      exact ⟨this.1, hk _ this.2⟩
    · simp at hs
theorem treeR_W {k : St → Option ρ} : ∀ (t : Tree) (st : St), treeR tt Γ ops t st k = some r → treeW tt Γ ops t st (fun s => k s = some r)
  | .done, _, h => h
  | .quiet i t, st, h => stepR_L (fun s hs => treeR_W t s hs) h
  | .alt i t r, st, h => by
    simp only [treeR] at h
    cases hs : r.isStop with
    | true =>
      rw [hs] at h
      refine ⟨stepR_L (fun s hs => treeR_W t s hs) h, ?_⟩
      cases r <;> first | exact trivial | simp [Tree.isStop] at hs
    | false =>
      rw [hs] at h
      obtain ⟨h1, h2⟩ := meet_some h
      exact ⟨stepR_L (fun s hs => treeR_W t s hs) h1, treeR_W r st h2⟩
  | .grow i t, st, h => by
    simp only [treeR] at h
    have := chk_some.1 h
    exact ⟨this.1, stepR_L (fun s hs => treeR_W t s hs) this.2⟩
  | .first i t, st, h => by
    simp only [treeR] at h
    have := chk_some.1 h
    exact ⟨this.1, stepR_L (fun s hs => treeR_W t s hs) this.2⟩
  | .stop, st, h => by simp [treeR] at h

theorem loopR_sound (hpin : ∀ id, mine.pin id = none) {c : Code} {Q : X → St → Option ρ} {nm : Nm} (hc : ∀ (Q : X → St → Option ρ) (st : St) (a : Act) (w : World), runT tt Γ T c Q st = some r → R w0 mine st a w → c.wp P (liftQ w0 mine fun x s => Q x s = some r) a w) {n : Nat} {st : St} {a : Act} {w : World}
    (h : loopR (runT tt Γ T c) nm Q n st = some r) (hr : R w0 mine st a w) : (Code.loop c).wp P (liftQ w0 mine fun x s => Q x s = some r) a w := by
  let J : Act → World → Nat → Prop := fun a w n => ∃ s, R w0 mine s a w ∧ loopR (runT tt Γ T c) nm Q n s = some r
  have hmin : ∀ a w, (∃ n, J a w n) → ∃ m, J a w m ∧ ∀ k, J a w k → m ≤ k := fun a w ⟨n, hn⟩ => exists_min hn
  let M : Act → World → Nat := fun a w => open Classical in if h : ∃ n, J a w n then Classical.choose (hmin a w h) else 0
  have hM : ∀ a w n, J a w n → J a w (M a w) ∧ M a w ≤ n := fun a w n hn => by
    have hex : ∃ n, J a w n := ⟨n, hn⟩
    simp only [M, dif_pos hex]
    exact ⟨(Classical.choose_spec (hmin a w hex)).1, (Classical.choose_spec (hmin a w hex)).2 n hn⟩
  refine wp_loop (I := fun a w => ∃ n, J a w n) (μ := M) ⟨n, st, hr, h⟩ fun a w hex => ?_
  obtain ⟨n, hn⟩ := hex
  obtain ⟨⟨s, hs, hrun⟩, _⟩ := hM a w n hn
  generalize hMn : M a w = mm at hrun ⊢
  cases mm with
  | zero => simp [loopR] at hrun
  | succ k =>
    refine wp_mono (hc _ s a w hrun hs) fun e a' w' he => ?_
    cases e with
    | normal =>
      obtain ⟨s', hs', hk⟩ := he
      have hJ : J a' w' k := ⟨_, Le.norm nm s' _ _ _ _ hpin hs', hk⟩
      have := (hM a' w' _ hJ).2
      exact ⟨⟨_, hJ⟩, by omega⟩
    | ret => exact he
    | exit id => exact he
    | _ => exact he

theorem nxt_Q (hpin : ∀ id, mine.pin id = none) {o : Option Nm} {Q : X → St → Option ρ} {st : St} {a : Act} (hr : R w0 mine st a w) (h : nxt o (Q .normal) st = some r) : liftQ w0 mine (fun x s => Q x s = some r) .normal a w := by
  unfold nxt at h
  split at h
  · exact ⟨st, hr, h⟩
  · exact ⟨_, Le.norm _ st _ _ _ _ hpin hr, h⟩
theorem runT_sound (hT : TTok P tt) (hΓ : ∀ f g, Γ.get f = some g → Sound P f g) (hm : P.follows .mixedOrders = true) (hpin : ∀ id, mine.pin id = none) : ∀ (c : Code), plansOk T.tr c = true → ∀ (Q : X → St → Option ρ) (st : St) (a : Act) (w : World), runT tt Γ T c Q st = some r → R w0 mine st a w → c.wp P (liftQ w0 mine fun x s => Q x s = some r) a w
  | .skip, _, Q, st, a, w, h, hr => wp_skip ⟨st, hr, h⟩
  | .region id ops false, _, Q, st, a, w, h, hr => by
    refine wp_region ?_
    have := regionW_sound (ops := ops) (Q := liftQ w0 mine fun x s => Q x s = some r) hT hΓ (k := fun s => nxt (T.rg id) (Q .normal) s = some r) (fun a w st hr hk => nxt_Q hpin hr hk) ops.toList [] rfl st a w (regionR_W _ _ h) hr
    rw [List.range_eq_range']
    simpa using this
  | .region id ops true, hp, Q, st, a, w, h, hr => by
    refine wp_region_any hm ?_
    have h1 := treeW_all (T.tr id) ops.size _ [] st hp (treeR_W _ _ h) (fun _ _ _ h => by simp at h)
    have hr' : R w0 mine st a { w with drawn := w.drawn + 1 } := by
      obtain ⟨hd, m, H, he⟩ := hr
      obtain ⟨H', hok, hs⟩ := H.heap_eq (w' := { w with drawn := w.drawn + 1 }) rfl rfl rfl rfl
      exact ⟨hd, m, H', env_mono hok hs he⟩
    exact allT_sound hT hΓ (k := fun s => nxt (T.rg id) (Q .normal) s = some r) (fun a w st hr hk => nxt_Q hpin hr hk) _ _ st a _ h1 hr'
  | .seq x y, hp, Q, st, a, w, h, hr => by
    simp only [plansOk, Bool.and_eq_true] at hp
    refine wp_seq (wp_mono (runT_sound hT hΓ hm hpin x hp.1 _ st a w h hr) fun e a' w' he => ?_)
    cases e with
    | normal => obtain ⟨s, hs, hk⟩ := he; exact runT_sound hT hΓ hm hpin y hp.2 Q s a' w' hk hs
    | ret => exact he
    | exit id => exact he
    | _ => exact he
  | .cond c x y, hp, Q, st, a, w, h, hr => by
    simp only [plansOk, Bool.and_eq_true] at hp
    simp only [runT, condR] at h
    split at h
    · rename_i b hb
      have hv : a.eval c = .bool b := by
        obtain ⟨hd, m, H, he⟩ := hr
        have := R.ev H he c
        rw [hb] at this
        exact this
      refine wp_cond hv ?_
      cases b with
      | true =>
        have h : runT tt Γ T x Q (st.litO c true) = some r := h
        rw [R.litO (a := a) (w := w) hb] at h
        exact runT_sound hT hΓ hm hpin x hp.1 Q st a w h hr
      | false =>
        have h : runT tt Γ T y Q (st.litO c false) = some r := h
        rw [R.litO (a := a) (w := w) hb] at h
        exact runT_sound hT hΓ hm hpin y hp.2 Q st a w h hr
    · simp at h
  | .block id c, hp, Q, st, a, w, h, hr => by
    refine wp_block (wp_mono (runT_sound hT hΓ hm hpin c hp _ st a w h hr) fun e a' w' he => ?_)
    cases e with
    | normal => exact he
    | ret => exact he
    | exit id' =>
      obtain ⟨s, hs, hk⟩ := he
      simp only [blockR] at hk
      simp only [Exit.inBlock]
      split
      · rename_i e
        subst e
        simp only [beq_self_eq_true, cond_true] at hk
        exact ⟨s, hs, hk⟩
      · rename_i e
        have : (id' == id) = false := by simpa using e
        simp only [this, cond_false] at hk
        exact ⟨s, hs, hk⟩
    | _ => exact he
  | .loop c, hp, Q, st, a, w, h, hr => loopR_sound hpin (fun Q st a w h hr => runT_sound hT hΓ hm hpin c hp Q st a w h hr) h (Le.norm _ st _ _ _ _ hpin hr)
  | .exit id, _, Q, st, a, w, h, hr => by
    refine wp_exit ?_
    simp only [runT] at h
    split at h
    · exact ⟨st, hr, h⟩
    · exact ⟨_, Le.norm _ st _ _ _ _ hpin hr, h⟩
  | .ret, _, Q, st, a, w, h, hr => wp_ret ⟨st, hr, h⟩
  | .rangeFunc .., _, _, _, _, _, h, _ => by simp [runT] at h
  | .scope _, _, _, _, _, _, h, _ => by simp [runT] at h
  | .label _, _, _, _, _, _, h, _ => by simp [runT] at h
  | .goto _, _, _, _, _, _, h, _ => by simp [runT] at h
  | .refuse _, _, _, _, _, _, h, _ => by simp [runT] at h

/-- What is returned. -/
def ownR (h : List Blk) (ls : List LV) : Bool := deepOf h (ls.flatMap LV.cells) && nodupB (moved (ls.flatMap LV.cells))
def retS (tt : TT) (dp : Bool) (rs : List TI) (rvs : List ResultVar) (st : St) : Option (Vals rs) := match resLVs tt st rvs with
  | none => none
  | some ls => match implodeArgs st.heap rs ls with
    | none => none
    | some y => bif dp then (bif ownR st.heap ls then some y else none) else some y
def retR (tt : TT) (dp : Bool) (rs : List TI) (rvs : List ResultVar) : X → St → Option (Vals rs)
  | .normal, st => retS tt dp rs rvs st
  | .ret, st => retS tt dp rs rvs st
  | .exit _, _ => none
theorem retS_Q {g : G} {rvs : List ResultVar} {y : Vals g.rs} {st : St} (h : retS tt g.dp g.rs rvs st = some y) : ResOk tt g.dp g.rs rvs y st := by
  unfold retS at h
  unfold ResOk
  split at h
  · simp at h
  · rename_i ls hls
    split at h
    · simp at h
    · rename_i z hy
      rw [hls]
      cases hdp : g.dp with
      | false => rw [hdp] at h; simp only [cond_false] at h; cases h; exact ⟨hy, by simp⟩
      | true =>
        rw [hdp] at h
        cases hb : ownR st.heap ls with
        | false => rw [hb] at h; simp at h
        | true =>
          rw [hb] at h
          simp only [cond_true] at h
          cases h
          simp only [ownR, Bool.and_eq_true] at hb
          exact ⟨hy, fun _ => hb⟩
theorem retR_Q {g : G} {rvs : List ResultVar} {x : Vals g.ps} {e : X} {st : St} (h : retR tt g.dp g.rs rvs e st = some (g.fn x)) : retQ tt g rvs x e st := by
  cases e with
  | normal => exact retS_Q h
  | ret => exact retS_Q h
  | exit id => simp [retR] at h
/-- A function is what its code is run to. -/
theorem sound_of_run (hT : TTok P tt) (hΓ : ∀ f g, Γ.get f = some g → Sound P f g) (hm : P.follows .mixedOrders = true) {f : FuncId} {fn : Func} {c : Code} {g : G} (hf : P.funcs[f]? = some fn) (hb : fn.body = some c) (hname : (fn.name == "runtime.NumGoroutine") = false)
    (hrun : ∀ x : Vals g.ps, g.pre x → ∃ T : Tab, plansOk T.tr c = true ∧ runT tt Γ T c (retR tt g.dp g.rs fn.results.toList) (entry g fn.ntmps x) = some (g.fn x)) : Sound P f g :=
  sound_of_wp hT hf hb hname fun x hx w0 mine a w hpin hR => by
    obtain ⟨T, hp, h⟩ := hrun x hx
    refine wp_mono (runT_sound hT hΓ hm hpin c hp _ _ _ _ h hR) fun e a' w' he => ?_
    cases e with
    | normal => obtain ⟨st, hr, h⟩ := he; exact ⟨st, hr, retR_Q h⟩
    | ret => obtain ⟨st, hr, h⟩ := he; exact ⟨st, hr, retR_Q h⟩
    | exit id => obtain ⟨st, hr, h⟩ := he; exact ⟨st, hr, retR_Q h⟩
    | _ => exact he
end
end Go.T
/- T: runs by rewriting: lemmas at states that are written out. -/
namespace Go.T
open Go

abbrev u : LV := .one .undef
variable {ρ : Type}
/-- A part of a code. -/
def cut : List Bool → Code → Code
  | [], c => c
  | false :: r, .seq a _ => cut r a
  | true :: r, .seq _ b => cut r b
  | false :: r, .cond _ a _ => cut r a
  | true :: r, .cond _ _ b => cut r b
  | _ :: r, .block _ a => cut r a
  | _ :: r, .loop a => cut r a
  | _, c => c
def entryP (ps : List TI) (ntmps : Nat) (x : Vals ps) : St := { env := (explodes 0 ps x).map LV1.lv ++ List.replicate (ntmps - ps.length) (.tup []), heap := [] }

section
variable {tt : TT} {Γ : Gam} {T : Tab} {Q : X → St → Option ρ} {e : List LV} {h : List Blk}
@[simp] theorem run_skip' : runT tt Γ T .skip Q ⟨e, h⟩ = Q .normal ⟨e, h⟩ := rfl
@[simp] theorem run_region' {id : Nat} {ops : List Oper} : runT tt Γ T (.region id ⟨ops⟩ false) Q ⟨e, h⟩ = regionR tt Γ ⟨ops⟩ ops ⟨e, h⟩ (nxt (T.rg id) (Q .normal)) := rfl
@[simp] theorem run_regionD' {id : Nat} {ops : Array Oper} : runT tt Γ T (.region id ops true) Q ⟨e, h⟩ = treeR tt Γ ops (T.tr id) ⟨e, h⟩ (nxt (T.rg id) (Q .normal)) := rfl
@[simp] theorem run_seq' {a b : Code} : runT tt Γ T (.seq a b) Q ⟨e, h⟩ = runT tt Γ T a (seqR (runT tt Γ T b Q) Q) ⟨e, h⟩ := rfl
@[simp] theorem run_cond' {c : Operand} {x y : Code} : runT tt Γ T (.cond c x y) Q ⟨e, h⟩ = condR c ⟨e, h⟩ (runT tt Γ T x Q) (runT tt Γ T y Q) := rfl
@[simp] theorem run_block' {id : Nat} {c : Code} : runT tt Γ T (.block id c) Q ⟨e, h⟩ = runT tt Γ T c (blockR id Q) ⟨e, h⟩ := rfl
@[simp] theorem run_loop' {c : Code} : runT tt Γ T (.loop c) Q ⟨e, h⟩ = loopR (runT tt Γ T c) (T.lp (rid c)) Q T.fuel ((St.mk e h).norm (T.lp (rid c))) := rfl
@[simp] theorem run_exit' {id : Nat} : runT tt Γ T (.exit id) Q ⟨e, h⟩ = match T.ex id with
    | none => Q (.exit id) ⟨e, h⟩
    | some nm => Q (.exit id) ((St.mk e h).norm nm) := rfl
@[simp] theorem run_ret' : runT tt Γ T .ret Q ⟨e, h⟩ = Q .ret ⟨e, h⟩ := rfl
theorem loop_zero {F : (X → St → Option ρ) → St → Option ρ} {nm : Nm} {st : St} : loopR F nm Q 0 st = none := rfl
theorem loop_succ {F : (X → St → Option ρ) → St → Option ρ} {nm : Nm} {n : Nat} {st : St} : loopR F nm Q (n + 1) st = F (seqR (fun st' => loopR F nm Q n (st'.norm nm)) Q) st := rfl

variable {ops : Array Oper} {k : St → Option ρ}
@[simp] theorem regionR_nil' : regionR tt Γ ops [] ⟨e, h⟩ k = k ⟨e, h⟩ := rfl
@[simp] theorem regionR_cons' {d : Option Tmp} {op : Op} {ty : TypeId} {pos : String} {aft : Array Edge} {os : List Oper} : regionR tt Γ ops (⟨d, op, ty, pos, aft, none⟩ :: os) ⟨e, h⟩ k = opR tt Γ ⟨d, op, ty, pos, aft, none⟩ ⟨e, h⟩ fun st => regionR tt Γ ops os st k := rfl
@[simp] theorem regionR_guard' {d : Option Tmp} {op : Op} {ty : TypeId} {pos : String} {aft : Array Edge} {g : Nat × Bool} {os : List Oper} : regionR tt Γ ops (⟨d, op, ty, pos, aft, some g⟩ :: os) ⟨e, h⟩ k = guardR ops ⟨d, op, ty, pos, aft, some g⟩ ⟨e, h⟩ (fun st => opR tt Γ ⟨d, op, ty, pos, aft, some g⟩ st fun st => regionR tt Γ ops os st k) (fun st => regionR tt Γ ops os (st.put d (.tup [])) k) := rfl
@[simp] theorem seqR_normal {st : St} : seqR k Q .normal st = k st := rfl
@[simp] theorem seqR_ret {st : St} : seqR k Q .ret st = Q .ret st := rfl
@[simp] theorem seqR_exit {st : St} {id : Nat} : seqR k Q (.exit id) st = Q (.exit id) st := rfl
@[simp] theorem blockR_normal {id : Nat} {st : St} : blockR id Q .normal st = Q .normal st := rfl
@[simp] theorem blockR_ret {id : Nat} {st : St} : blockR id Q .ret st = Q .ret st := rfl
@[simp] theorem blockR_exit {id j : Nat} {st : St} : blockR id Q (.exit j) st = bif j == id then Q .normal st else Q (.exit j) st := rfl
@[simp] theorem seqR_eta : seqR k Q .normal = k := rfl
@[simp] theorem blockR_eta {id : Nat} : blockR id Q .normal = Q .normal := rfl
@[simp] theorem opR' {o : Oper} : opR tt Γ o ⟨e, h⟩ k = (match stepAll tt Γ o ⟨e, h⟩ with
  | some (p, st') => chk p (k st')
  | none => none) := rfl
/-- A branch, a guard: by what is known of the condition. -/
def brL (x : LV) (c : Operand) (e : List LV) (h : List Blk) (a b : St → Option ρ) : Option ρ := match x with
  | .one (.bool v) => bif v then a ((St.mk e h).litO c true) else b ((St.mk e h).litO c false)
  | _ => none
@[simp] theorem condR' {c : Operand} {x y : St → Option ρ} : condR c ⟨e, h⟩ x y = brL ((St.mk e h).ev c) c e h x y := rfl
@[simp high] theorem brL_true {c : Operand} {x y : St → Option ρ} : brL (.one (.bool true)) c e h x y = x ((St.mk e h).litO c true) := rfl
@[simp high] theorem brL_false {c : Operand} {x y : St → Option ρ} : brL (.one (.bool false)) c e h x y = y ((St.mk e h).litO c false) := rfl
@[simp low] theorem brL_any {c : Operand} {x y : St → Option ρ} {v : Bool} : brL (.one (.bool v)) c e h x y = bif v then x ((St.mk e h).litO c true) else y ((St.mk e h).litO c false) := rfl
def guA (d : Option Tmp) (want : Bool) (e : List LV) (h : List Blk) (a b : St → Option ρ) : Option ρ := match d with
  | none => b ⟨e, h⟩
  | some t => match e[t]? with
    | some (.one (.bool v)) => bif (v == want) then a ((St.mk e h).lit t want) else b ((St.mk e h).lit t (!want))
    | some (.tup _) => b ⟨e, h⟩
    | none => b ⟨e, h⟩
    | _ => none
def guB (x : Option LV) (t : Nat) (want : Bool) (e : List LV) (h : List Blk) (a b : St → Option ρ) : Option ρ := match x with
  | some (.one (.bool v)) => bif (v == want) then a ((St.mk e h).lit t want) else b ((St.mk e h).lit t (!want))
  | some (.tup _) => b ⟨e, h⟩
  | none => b ⟨e, h⟩
  | _ => none
theorem guardR' {d : Option Tmp} {op : Op} {ty : TypeId} {pos : String} {aft : Array Edge} {j : Nat} {want : Bool} {a b : St → Option ρ} : guardR ops ⟨d, op, ty, pos, aft, some (j, want)⟩ ⟨e, h⟩ a b = guA ((ops[j]?).bind (·.dst)) want e h a b := by
  unfold guardR guA
  first
    | rfl
    | (dsimp only; done)
    | (dsimp only; cases (ops[j]?).bind (·.dst) <;> rfl)
@[simp] theorem guardR_none {d : Option Tmp} {op : Op} {ty : TypeId} {pos : String} {aft : Array Edge} {a b : St → Option ρ} : guardR ops ⟨d, op, ty, pos, aft, none⟩ ⟨e, h⟩ a b = a ⟨e, h⟩ := rfl
@[simp] theorem guA_none {want : Bool} {a b : St → Option ρ} : guA none want e h a b = b ⟨e, h⟩ := rfl
@[simp] theorem guA_some {t : Nat} {want : Bool} {a b : St → Option ρ} : guA (some t) want e h a b = guB e[t]? t want e h a b := rfl
@[simp high] theorem guB_tt {t : Nat} {a b : St → Option ρ} : guB (some (.one (.bool true))) t true e h a b = a ((St.mk e h).lit t true) := rfl
@[simp high] theorem guB_ff {t : Nat} {a b : St → Option ρ} : guB (some (.one (.bool false))) t false e h a b = a ((St.mk e h).lit t false) := rfl
@[simp high] theorem guB_tf {t : Nat} {a b : St → Option ρ} : guB (some (.one (.bool true))) t false e h a b = b ((St.mk e h).lit t true) := rfl
@[simp high] theorem guB_ft {t : Nat} {a b : St → Option ρ} : guB (some (.one (.bool false))) t true e h a b = b ((St.mk e h).lit t false) := rfl
@[simp low] theorem guB_t {t : Nat} {v : Bool} {a b : St → Option ρ} : guB (some (.one (.bool v))) t true e h a b = bif v then a ((St.mk e h).lit t true) else b ((St.mk e h).lit t false) := by cases v <;> rfl
@[simp low] theorem guB_f {t : Nat} {v : Bool} {a b : St → Option ρ} : guB (some (.one (.bool v))) t false e h a b = bif v then b ((St.mk e h).lit t true) else a ((St.mk e h).lit t false) := by cases v <;> rfl
@[simp] theorem guB_tup {t : Nat} {want : Bool} {l : List LV1} {a b : St → Option ρ} : guB (some (.tup l)) t want e h a b = b ⟨e, h⟩ := rfl
attribute [simp] guardR'
@[simp] theorem nxt_none : nxt none k = k := rfl
@[simp] theorem nxt_some {nm : Nm} {e : List LV} {h : List Blk} : nxt (some nm) k ⟨e, h⟩ = k ((St.mk e h).norm nm) := rfl
@[simp] theorem meet_self' {a : Option ρ} : meet a a = a := meet_self
@[simp] theorem chk_true {k : Option ρ} : chk True k = k := chk_pos trivial
@[simp] theorem chk_false {k : Option ρ} : chk False k = none := by simp [chk]
@[simp] theorem norm' {nm : Nm} : (St.mk e h).norm nm = ((St.mk e h).fixes nm.fix).gc nm.keep := rfl
@[simp] theorem fixes_nil' : (St.mk e h).fixes [] = ⟨e, h⟩ := rfl
@[simp] theorem fixes_cons' {f : Fix} {r : List Fix} : (St.mk e h).fixes (f :: r) = ((St.mk e h).fix1 f).fixes r := rfl
@[simp] theorem retS' {dp : Bool} {rs : List TI} {rvs : List ResultVar} : retS tt dp rs rvs ⟨e, h⟩ = match resLVs tt ⟨e, h⟩ rvs with
  | none => none
  | some ls => match implodeArgs h rs ls with
    | none => none
    | some y => bif dp then (bif ownR h ls then some y else none) else some y := rfl
@[simp] theorem retR_ret {dp : Bool} {rs : List TI} {rvs : List ResultVar} {st : St} : retR tt dp rs rvs .ret st = retS tt dp rs rvs st := rfl
@[simp] theorem retR_normal {dp : Bool} {rs : List TI} {rvs : List ResultVar} {st : St} : retR tt dp rs rvs .normal st = retS tt dp rs rvs st := rfl
attribute [simp] rdLt ownR St.fix1 stepR treeR Tree.isStop entryP rid cut
end
/-- A function is what its code is run to (by its parameters). -/
theorem sound_run {P : Program} {tt : TT} {Γ : Gam} (hT : TTok P tt) (hΓ : ∀ f g, Γ.get f = some g → Sound P f g) (hm : P.follows .mixedOrders = true) {f : FuncId} {fn : Func} {c : Code} {g : G} (hf : P.funcs[f]? = some fn) (hb : fn.body = some c) (hname : (fn.name == "runtime.NumGoroutine") = false)
    (hrun : ∀ x : Vals g.ps, g.pre x → ∃ T : Tab, plansOk T.tr c = true ∧ runT tt Γ T c (retR tt g.dp g.rs fn.results.toList) (entryP g.ps fn.ntmps x) = some (g.fn x)) : Sound P f g :=
  sound_of_run hT hΓ hm hf hb hname hrun
end Go.T
/- Plain: walks over a list by an index. -/
namespace Go.T
open Go

variable {ρ α σ : Type}
theorem drop_at {xs : List α} {i : Nat} (h : i < xs.length) : xs.drop i = xs[i] :: xs.drop (i + 1) := List.drop_eq_getElem_cons h
theorem getD_at {xs : List α} {i : Nat} (h : i < xs.length) (d : α) : xs.getD i d = xs[i] := by simp [List.getD, h]
theorem getD_atI {xs : List α} {i : Nat} (h : i < xs.length) (d : α) : xs.getD (Int.toNat (i : Int)) d = xs[i] := by simp [List.getD, h]
theorem wrapN {i n : Nat} (h : i < n) (hn : n ≤ 1048576) : IntKind.i64.wrap ((i : Int) + 1) = ((i + 1 : Nat) : Int) := wrap_succ h hn
theorem ltI {i n : Nat} (h : i < n) : ((i : Int) < (n : Int)) = True := by simp; omega
theorem geI {i n : Nat} (h : n ≤ i) : ((i : Int) < (n : Int)) = False := by simp; omega
theorem inI' {i n : Nat} (h : i < n) : ((0 : Int) ≤ (i : Int) ∧ (i : Int) < (n : Int)) = True := by simp; omega

/-- A walk in continuations. -/
def foldK (step : Nat → α → σ → (σ → Option ρ) → Option ρ) : Nat → List α → σ → (σ → Option ρ) → Option ρ
  | _, [], s, k => k s
  | i, x :: r, s, k => step i x s fun s' => foldK step (i + 1) r s' k
theorem loop_foldI {F : Nat → Int → σ → Option ρ} {xs : List α} {step : Nat → α → σ → (σ → Option ρ) → Option ρ} {k : σ → Option ρ} (hl : xs.length ≤ 1048576)
    (hF : ∀ (n i : Nat) (s : σ) (h : i < xs.length), F (n + 1) (i : Int) s = step i xs[i] s fun s' => F n (IntKind.i64.wrap ((i : Int) + 1)) s') (hE : ∀ (n i : Nat) (s : σ), xs.length ≤ i → F (n + 1) (i : Int) s = k s) :
    ∀ (n i : Nat) (s : σ), i ≤ xs.length → xs.length - i < n → F n (i : Int) s = foldK step i (xs.drop i) s k
  | 0, _, _, _, h => by omega
  | n + 1, i, s, hi, h => by
    by_cases hlt : i < xs.length
    · rw [hF n i s hlt, drop_at hlt, foldK, wrapN hlt hl]
      congr 1
      funext s'
      exact loop_foldI hl hF hE n (i + 1) s' (by omega) (by omega)
    · rw [hE n i s (by omega), List.drop_eq_nil_of_le (by omega), foldK]
theorem loop_fold {F : Nat → Int → σ → Option ρ} {xs : List α} {step : Nat → α → σ → (σ → Option ρ) → Option ρ} {k : σ → Option ρ} (hl : xs.length ≤ 1048576)
    (hF : ∀ (n i : Nat) (s : σ) (h : i < xs.length), F (n + 1) (i : Int) s = step i xs[i] s fun s' => F n (IntKind.i64.wrap ((i : Int) + 1)) s') (hE : ∀ (n i : Nat) (s : σ), xs.length ≤ i → F (n + 1) (i : Int) s = k s)
    (n : Nat) (s : σ) (hn : xs.length < n) : F n 0 s = foldK step 0 xs s k := by
  have := loop_foldI hl hF hE n 0 s (by omega) (by omega)
  simpa using this

theorem foldK_all {p : α → Bool} {r : Option ρ} {k : Unit → Option ρ} : ∀ (xs : List α) (i : Nat), foldK (fun _ x _ K => bif p x then K () else r) i xs () k = bif xs.all p then k () else r
  | [], _ => rfl
  | x :: xs, i => by
    rw [foldK]; dsimp only; rw [foldK_all xs]
    cases h : p x <;> simp [h]
/-- A walk that gathers. -/
theorem foldK_fold {f : σ → α → σ} {k : σ → Option ρ} : ∀ (xs : List α) (i : Nat) (s : σ), foldK (fun _ x s K => K (f s x)) i xs s k = k (xs.foldl f s)
  | [], _, _ => rfl
  | x :: xs, i, s => by rw [foldK]; dsimp only; rw [foldK_fold xs]; rfl
/-- Steps that are the same on the list's elements. -/
theorem foldK_congr {st st' : Nat → α → σ → (σ → Option ρ) → Option ρ} {k : σ → Option ρ} : ∀ (xs : List α) (i : Nat) (s : σ), (∀ j x s K, x ∈ xs → st j x s K = st' j x s K) → foldK st i xs s k = foldK st' i xs s k
  | [], _, _, _ => rfl
  | x :: xs, i, s, h => by
    rw [foldK, foldK, h i x s _ (by simp)]
    congr 1
    funext s'
    exact foldK_congr xs (i + 1) s' fun j y s K hy => h j y s K (by simp [hy])
theorem bif_not {b : Bool} {x y : α} : (bif !b then x else y) = bif b then y else x := by cases b <;> rfl
theorem bif_dec {p : Prop} [Decidable p] {x y : α} (h : p) : (bif decide p then x else y) = x := by simp [h]
theorem bif_decN {p : Prop} [Decidable p] {x y : α} (h : ¬ p) : (bif decide p then x else y) = y := by simp [h]
end Go.T
/- Plain: sizes, copies, equality of rows. -/
namespace Go.T
open Go

variable {ρ α : Type}
theorem sz_loop {t : Ty} : ∀ (xs : List (Val t)) (i : Nat) (n : Int), 0 ≤ n → n ≤ 1048576 → (∀ x ∈ xs, Sm t x) →
    foldK (fun _ x (s : Int) (K : Int → Option (Int × Unit)) => chk (szPre t x s) (bif decide (szV t x s < 0) then some ((-1 : Int), ()) else K (szV t x s))) i xs n (fun s => some (s, ())) = some (szL (szV t) xs n, ())
  | [], _, _, _, _, _ => rfl
  | x :: xs, i, n, h0, h1, hs => by
    rw [foldK, chk_pos ⟨hs x (by simp), h0, h1⟩, szL]
    by_cases c : szV t x n < 0
    · rw [bif_dec c, if_pos c]
    · rw [bif_decN c, if_neg c]
      exact sz_loop xs (i + 1) _ (by omega) (by have := (szV_le t x n h0).1; omega) fun y hy => hs y (by simp [hy])
theorem copy_loopI {F : Nat → Int → List α → Option ρ} {xs : List α} {k : List α → Option ρ} (d : α) (hl : xs.length ≤ 1048576)
    (hF : ∀ (n i : Nat) (s : List α) (h : i < xs.length), s.length = xs.length → F (n + 1) (i : Int) s = F n (IntKind.i64.wrap ((i : Int) + 1)) (s.set i xs[i])) (hE : ∀ (n i : Nat) (s : List α), xs.length ≤ i → F (n + 1) (i : Int) s = k s) :
    ∀ (n i : Nat), i ≤ xs.length → xs.length - i < n → F n (i : Int) (fillP xs d i) = k xs
  | 0, _, _, h => by omega
  | n + 1, i, hi, h => by
    by_cases hlt : i < xs.length
    · rw [hF n i _ hlt (fillP_len hi), wrapN hlt hl]
      have : (fillP xs d i).set i xs[i] = fillP xs d (i + 1) := by
        have := fillP_set (d := d) (d' := d) hlt
        rwa [List.getElem?_eq_getElem hlt, Option.getD_some] at this
      rw [this]
      exact copy_loopI d hl hF hE n (i + 1) (by omega) (by omega)
    · rw [hE n i _ (by omega), fillP_end (by omega)]
theorem copy_loop {F : Nat → Int → List α → Option ρ} {xs : List α} {k : List α → Option ρ} (d : α) (hl : xs.length ≤ 1048576)
    (hF : ∀ (n i : Nat) (s : List α) (h : i < xs.length), s.length = xs.length → F (n + 1) (i : Int) s = F n (IntKind.i64.wrap ((i : Int) + 1)) (s.set i xs[i])) (hE : ∀ (n i : Nat) (s : List α), xs.length ≤ i → F (n + 1) (i : Int) s = k s) (n : Nat) (hn : xs.length < n) :
    F n 0 (List.replicate xs.length d) = k xs := by
  have := copy_loopI d hl hF hE n 0 (by omega) (by omega)
  rw [← fillP_zero] at this
  simpa using this
theorem eqL_zip {f : α → α → Bool} : ∀ (xs ys : List α), xs.length = ys.length → eqL f xs ys = (xs.zip ys).all fun p => f p.1 p.2
  | [], [], _ => rfl
  | [], _ :: _, h => by simp at h
  | _ :: _, [], h => by simp at h
  | x :: xs, y :: ys, h => by simp [eqL, eqL_zip xs ys (by simpa using h)]
theorem eq_loop {f : α → α → Bool} {xs ys : List α} (hl : xs.length ≤ 1048576) (he : xs.length = ys.length) {F : Nat → Int → Option ρ} {k : Unit → Option ρ} {r : Option ρ}
    (hF : ∀ (n i : Nat) (h : i < xs.length) (h' : i < ys.length), F (n + 1) (i : Int) = bif f xs[i] ys[i] then F n (IntKind.i64.wrap ((i : Int) + 1)) else r) (hE : ∀ (n i : Nat), xs.length ≤ i → F (n + 1) (i : Int) = k ()) (n : Nat) (hn : xs.length < n) :
    F n 0 = bif eqL f xs ys then k () else r := by
  rw [eqL_zip xs ys he]
  have hz : (xs.zip ys).length = xs.length := by simp [he]
  refine (loop_fold (F := fun n i (_ : Unit) => F n i) (xs := xs.zip ys) (step := fun _ p _ K => bif f p.1 p.2 then K () else r) (k := k) (by omega) (fun n i s hi => ?_) (fun n i s hi => ?_) n () (by omega)).trans (foldK_all _ 0)
  · rw [hF n i (by omega) (by omega)]
    simp
  · exact hE n i (by omega)
theorem szP_neg {a b : Ty} {x : Val a} {y : Val b} {n : Int} (h : szV a x n < 0) : szV (.pair a b) (x, y) n = -1 := szV_pair_neg (v := (x, y)) h
theorem szP_pos {a b : Ty} {x : Val a} {y : Val b} {n : Int} (h : 0 ≤ szV a x n) : szV (.pair a b) (x, y) n = szV b y (szV a x n) := szV_pair_pos (v := (x, y)) h
theorem szP_int {k : IntKind} {b : Ty} {x : Int} {y : Val b} {n : Int} (h : 0 ≤ n) : szV (.pair (.int k) b) (x, y) n = szV b y n := szV_pair_pos (a := .int k) (v := (x, y)) h
theorem szP_bool {b : Ty} {x : Bool} {y : Val b} {n : Int} (h : 0 ≤ n) : szV (.pair .bool b) (x, y) n = szV b y n := szV_pair_pos (a := .bool) (v := (x, y)) h
theorem szP_strneg {b : Ty} {x : ByteArray} {y : Val b} {n : Int} (h : n - (x.size : Int) < 0) : szV (.pair .str b) (x, y) n = -1 := szV_pair_neg (a := .str) (v := (x, y)) (by rw [szV_str_neg h]; decide)
theorem szP_strpos {b : Ty} {x : ByteArray} {y : Val b} {n : Int} (h : 0 ≤ n - (x.size : Int)) : szV (.pair .str b) (x, y) n = szV b y (n - x.size) := by
  rw [szP_pos (a := .str) (by rw [szV_str_pos h]; exact h), szV_str_pos h]
theorem bif_some {b : Bool} : (bif b then some (true, ()) else some (false, ()) : Option (Bool × Unit)) = some (b, ()) := by cases b <;> rfl
theorem bif_true {b : Bool} {x y : ρ} (h : b = true) : (bif b then x else y) = x := by rw [h]; rfl
theorem bif_false {b : Bool} {x y : ρ} (h : b = false) : (bif b then x else y) = y := by rw [h]; rfl
theorem eqS {e : Nat} {t : Ty} {x y : List (Val t)} : eqV (.slice e t) x y = eqL (eqV t) x y := rfl
theorem wrapSub {n : Int} {k : Nat} (h0 : 0 ≤ n) (h1 : n ≤ 1048576) (hk : k ≤ maxLen) : IntKind.i64.wrap (n - (k : Int)) = n - k := wrap64 (by simp only [maxLen] at hk; omega) (by omega)
theorem chk_len {k : Nat} (h : k ≤ 1048576) : (0 : Int) ≤ (k : Int) ∧ (k : Int) ≤ (k : Int) ∧ (k : Int) ≤ 1048576 := by omega
end Go.T
