/- T: what comes in as an argument. -/
import Derived.Test.YtkjiecjpdbpghaaT33
import Derived.ProofKit
import Derived.OpenShut
import Derived.WideShapes
import Derived.Carry
import Derived.Below
namespace Go.T
open Go Go.WideShapes

/-- What holds of every value that comes in: lengths, ranges. -/
def Sm : (t : Ty) → Val t → Prop
  | .int k, n => (Lit.int k n).wf = true
  | .bool, _ => True
  | .str, s => s.size ≤ maxLen
  | .slice _ t, xs => xs.length ≤ maxLen ∧ ∀ x ∈ xs, Sm t x
  | .pair a b, v => Sm a v.1 ∧ Sm b v.2

mutual
/-- How a type's values are told, out of the program's types. -/
def tyOf (P : Program) : Nat → TypeId → Option Ty
  | 0, _ => none
  | n + 1, t => match P.underlying t with
    | some (.int k) => some (.int k)
    | some .bool => some .bool
    | some .string => some .str
    | some (.slice e) => match tyOf P n e with
      | some te => if P.cellsOf e = te.sz then some (.slice e te) else none
      | none => none
    | some (.struct fs) => match fieldsTy P n 0 fs.toList with
      | some ty => if P.cellsOf t = ty.sz then some ty else none
      | none => none
    | _ => none
def fieldsTy (P : Program) : Nat → Nat → List Field → Option Ty
  | 0, _, _ => none
  | n + 1, off, fs => match fs with
    | [] => none
    | [f] => match tyOf P n f.type with
      | some a => if f.offset = off ∧ P.cellsOf f.type = a.sz then some a else none
      | none => none
    | f :: g :: r => match tyOf P n f.type with
      | some a => if f.offset = off ∧ P.cellsOf f.type = a.sz then match fieldsTy P n (off + a.sz) (g :: r) with
        | some b => some (.pair a b)
        | none => none
        else none
      | none => none
end

theorem cells_At {w : World} {a : Addr} {n : Nat} {cs : List Value} (h : w.cells? 0 a n = some cs) : cs.length = n ∧ At w a cs := by
  unfold World.cells? at h
  simp only [Nat.zero_le, if_true] at h
  have hl := mapM_some_length h
  refine ⟨by simpa using hl, fun j u hu => ?_⟩
  have hj : j < n := by
    have := (List.getElem?_eq_some_iff.1 hu).1
    simp at hl; omega
  have := mapM_some_get h j j (by simp [hj])
  rw [this, hu]

theorem list_of {α : Type} {Q : Nat → α → Prop} : ∀ n : Nat, (∀ i, i < n → ∃ x, Q i x) → ∃ xs : List α, xs.length = n ∧ ∀ i x, xs[i]? = some x → Q i x
  | 0, _ => ⟨[], rfl, fun i x h => by simp at h⟩
  | n + 1, h => by
    obtain ⟨xs, hl, hx⟩ := list_of n fun i hi => h i (by omega)
    obtain ⟨y, hy⟩ := h n (by omega)
    refine ⟨xs ++ [y], by simp [hl], fun i x hi => ?_⟩
    by_cases e : i < n
    · rw [List.getElem?_append_left (by omega)] at hi; exact hx i x hi
    · rw [List.getElem?_append_right (by omega)] at hi
      have : i = n := by
        rcases Nat.lt_or_ge n i with h' | h'
        · rw [List.getElem?_eq_none (by simp; omega)] at hi; cases hi
        · omega
      subst this
      simp [hl] at hi
      subst hi; exact hy

section
variable {H : Type} {enc : TypeId × Value → H} {P : Program} {w : World} {spare : Nat → Bool} {held : Bool}

mutual
theorem trod_K : ∀ (n : Nat) {fuel : Nat} {t : TypeId} {ty : Ty} {cs : List Value} {x : DataW H × List MemPlace}, tyOf P n t = some ty → DataW.trod enc P w 0 spare held fuel t cs = some x → ∃ v : Val ty, K w (fun _ => True) ty v cs ∧ Sm ty v
  | 0, _, _, _, _, _, h, _ => by simp [tyOf] at h
  | n + 1, fuel, t, ty, cs, x, h, hx => by
    unfold tyOf at h
    split at h
    · rename_i k hu
      cases h
      obtain ⟨m, rfl, _, hw⟩ := DataW.trod_int hu hx
      exact ⟨m, by rw [K], hw⟩
    · rename_i hu
      cases h
      obtain ⟨b, rfl, _⟩ := DataW.trod_bool hu hx
      exact ⟨(b : Bool), by rw [K], trivial⟩
    · rename_i hu
      cases h
      obtain ⟨s, rfl, _, hs⟩ := DataW.trod_string hu hx
      exact ⟨(s : ByteArray), by rw [K], hs⟩
    · rename_i e hu
      split at h
      · rename_i te hte
        split at h
        · rename_i hsz
          cases h
          rcases DataW.trod_slice hu hx with ⟨rfl, _⟩ | ⟨a, len, cap, elems, rest, m, _, rfl, _, _, h1, h2, h3, h4, _⟩
          · refine ⟨([] : List (Val te)), ?_, ?_⟩
            · rw [K]; exact ⟨none, 0, rfl, Nat.le_refl _, fun i x h => by simp at h⟩
            · exact ⟨by simp, by simp⟩
          · obtain ⟨xs, hxl, hxs⟩ := list_of (Q := fun i (v : Val te) => (∃ cs, K w (fun _ => True) te v cs ∧ At w (a.add (i * te.sz)) cs) ∧ Sm te v) len fun i hi => by
              have hg := h4 i hi
              have : i < elems.length := by omega
              rw [List.getElem?_eq_getElem this, hsz] at hg
              simp only [Option.bind_eq_some_iff] at hg
              obtain ⟨cs', hc, ht⟩ := hg
              obtain ⟨_, hat⟩ := cells_At hc
              obtain ⟨v, hv, hs⟩ := trod_K n hte ht
              exact ⟨v, ⟨cs', hv, hat⟩, hs⟩
            refine ⟨xs, ?_, ?_⟩
            · rw [K]
              exact ⟨some a, cap, by rw [hxl], by omega, fun i x hi => by
                obtain ⟨⟨cs', hv, hat⟩, _⟩ := hxs i x hi
                exact ⟨a, cs', rfl, trivial, hv, hat⟩⟩
            · refine ⟨by omega, fun y hy => ?_⟩
              obtain ⟨i, hi⟩ := List.getElem?_of_mem hy
              exact (hxs i y hi).2
        · simp at h
      · simp at h
    · rename_i fs hu
      split at h
      · rename_i ty' hty
        split at h
        · rename_i hsz
          cases h
          obtain ⟨ys, m, _, _, hl, hyl, hf⟩ := DataW.trod_struct hu hx
          obtain ⟨v, hk, hs⟩ := fields_K (cs := cs) n hty (fun f hm => by
            obtain ⟨i, hi⟩ := List.getElem?_of_mem hm
            have hi' : fs[i]? = some f := by rw [← Array.getElem?_toList]; exact hi
            have := hf i f hi'
            have hil : i < ys.length := by rw [hyl]; exact (Array.getElem?_eq_some_iff.1 hi').1
            rw [List.getElem?_eq_getElem hil] at this
            exact ⟨_, this⟩)
          refine ⟨v, ?_, hs⟩
          have : (cs.drop 0).take ty.sz = cs := by rw [List.drop_zero, List.take_of_length_le (by omega)]
          rw [← this]; exact hk
        · simp at h
      · simp at h
    · simp at h
theorem fields_K : ∀ (n : Nat) {fuel off : Nat} {fs : List Field} {ty : Ty} {cs : List Value}, fieldsTy P n off fs = some ty → (∀ f ∈ fs, ∃ y, DataW.trod enc P w 0 spare held fuel f.type ((cs.drop f.offset).take (P.cellsOf f.type)) = some y) →
    ∃ v : Val ty, K w (fun _ => True) ty v ((cs.drop off).take ty.sz) ∧ Sm ty v
  | 0, _, _, _, _, _, h, _ => by simp [fieldsTy] at h
  | n + 1, fuel, off, [], ty, cs, h, _ => by simp [fieldsTy] at h
  | n + 1, fuel, off, [f], ty, cs, h, hm => by
    simp only [fieldsTy] at h
    split at h
    · rename_i a ha
      split at h
      · rename_i hc
        cases h
        obtain ⟨y, hy⟩ := hm f (by simp)
        rw [hc.1, hc.2] at hy
        exact trod_K n ha hy
      · simp at h
    · simp at h
  | n + 1, fuel, off, f :: g :: r, ty, cs, h, hm => by
    simp only [fieldsTy] at h
    split at h
    · rename_i a ha
      split at h
      · rename_i hc
        split at h
        · rename_i b hb
          cases h
          obtain ⟨y, hy⟩ := hm f (by simp)
          rw [hc.1, hc.2] at hy
          obtain ⟨v1, hk1, hs1⟩ := trod_K n ha hy
          obtain ⟨v2, hk2, hs2⟩ := fields_K (cs := cs) n hb fun f hf => hm f (List.mem_cons_of_mem _ hf)
          refine ⟨((v1, v2) : Val a × Val b), ?_, hs1, hs2⟩
          rw [K]
          refine ⟨_, _, ?_, hk1, hk2⟩
          rw [Ty.sz, ← List.drop_drop, List.take_add]
        · simp at h
      · simp at h
    · simp at h
end

/-- An argument's whole. -/
def Sms : (tis : List TI) → Vals tis → Prop
  | [], _ => True
  | ti :: r, x => Sm ti.ty x.1 ∧ Sms r x.2

def aggOf (P : Program) (t : TypeId) : Bool := match P.underlying t with
  | some (.struct _) => true
  | _ => false

theorem arg_K {base n : Nat} {r : Reach} {t : TypeId} {ti : TI} {v : Value} {d : DataW H} {p : List MemPlace} (hty : tyOf P n t = some ti.ty) (hag : aggOf P t = ti.agg) (hv : Value.okWide P w r base t v) (h : DataW.Trod enc P w 0 spare held t v d p) :
    ∃ x : Val ti.ty, ∃ cs, K w (fun _ => True) ti.ty x cs ∧ wrapped ti.agg cs v ∧ Sm ti.ty x := by
  obtain ⟨fuel, hf⟩ := h
  obtain ⟨x, hk, hs⟩ := trod_K n hty hf
  refine ⟨x, _, hk, ?_, hs⟩
  rw [← hag]
  unfold aggOf
  cases n with
  | zero => simp [tyOf] at hty
  | succ n =>
    unfold tyOf at hty
    split at hty
    · rename_i k hu
      rw [hu]
      simp only [wrapped]
      obtain ⟨m, hc, _⟩ := DataW.trod_int hu hf
      simp only [Value.okWide, hu, Cell.okWide] at hv
      cases v <;> simp_all [Cell.ok, Value.cells]
    · rename_i hu
      rw [hu]
      simp only [wrapped]
      simp only [Value.okWide, hu, Cell.okWide] at hv
      cases v <;> simp_all [Cell.ok, Value.cells]
    · rename_i hu
      rw [hu]
      simp only [wrapped]
      obtain ⟨s, rfl⟩ := okWide_string hu hv
      simp [Value.cells]
    · rename_i e hu
      rw [hu]
      simp only [wrapped]
      obtain ⟨a, l, c, rfl⟩ := okWide_slice hu hv
      simp [Value.cells]
    · rename_i fs hu
      rw [hu]
      simp only [wrapped]
      obtain ⟨cs, rfl, _⟩ := okWide_struct hu hv
      simp [Value.cells]
    · simp at hty
end
end Go.T
