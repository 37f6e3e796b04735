/- T: what comes in as an argument. -/
import Derived.Test.YthefcjjgchekiaaGreatT8
import Derived.ProofKit
import Derived.OpenShut
import Derived.WideShapes
import Derived.Carry
import Derived.Below
set_option linter.unusedSimpArgs false
set_option linter.unusedVariables false
namespace Go.T
open Go Go.WideShapes

def Sm : (t : Ty) → Val t → Prop
  | .int k, n => (Lit.int k n).wf = true
  | .bool, _ => True
  | .str, s => s.size ≤ maxLen
  | .hdr, _ => True
  | .slice _ t, xs => xs.length ≤ maxLen ∧ ∀ x ∈ xs, Sm t x
  | .pair a b, v => Sm a v.1 ∧ Sm b v.2

mutual
def tyOf (P : Program) : Nat → TypeId → Option Ty
  | 0, _ => none
  | n + 1, t => match P.underlying t with
    | some (.int k) => some (.int k)
    | some .bool => some .bool
    | some .string => some .str
    | some (.slice e) => match tyOf P n e with
      | some te => if P.cellsOf e = te.sz then some (.slice e te) else none
      | none => none
    | some (.struct fs) => match fieldsTy P n 0 fs.toList with
      | some ty => if P.cellsOf t = ty.sz then some ty else none
      | none => none
    | _ => none
def fieldsTy (P : Program) : Nat → Nat → List Field → Option Ty
  | 0, _, _ => none
  | n + 1, off, fs => match fs with
    | [] => none
    | [f] => match tyOf P n f.type with
      | some a => if f.offset = off ∧ P.cellsOf f.type = a.sz then some a else none
      | none => none
    | f :: g :: r => match tyOf P n f.type with
      | some a => if f.offset = off ∧ P.cellsOf f.type = a.sz then match fieldsTy P n (off + a.sz) (g :: r) with
        | some b => some (.pair a b)
        | none => none
        else none
      | none => none
end

theorem cells_At {w : World} {a : Addr} {n : Nat} {cs : List Value} (h : w.cells? 0 a n = some cs) : cs.length = n ∧ At w a cs := by
  unfold World.cells? at h
  simp only [Nat.zero_le, if_true] at h
  have hl := mapM_some_length h
  refine ⟨by simpa using hl, fun j u hu => ?_⟩
  have hj : j < n := by
    have := (List.getElem?_eq_some_iff.1 hu).1
    simp at hl; omega
  have := mapM_some_get h j j (by simp [hj])
  rw [this, hu]

theorem list_of {α : Type} {Q : Nat → α → Prop} : ∀ n : Nat, (∀ i, i < n → ∃ x, Q i x) → ∃ xs : List α, xs.length = n ∧ ∀ i x, xs[i]? = some x → Q i x
  | 0, _ => ⟨[], rfl, fun i x h => by simp at h⟩
  | n + 1, h => by
    obtain ⟨xs, hl, hx⟩ := list_of n fun i hi => h i (by omega)
    obtain ⟨y, hy⟩ := h n (by omega)
    refine ⟨xs ++ [y], by simp [hl], fun i x hi => ?_⟩
    by_cases e : i < n
    · rw [List.getElem?_append_left (by omega)] at hi; exact hx i x hi
    · rw [List.getElem?_append_right (by omega)] at hi
      have : i = n := by
        rcases Nat.lt_or_ge n i with h' | h'
        · rw [List.getElem?_eq_none (by simp; omega)] at hi; cases hi
        · omega
      subst this
      simp [hl] at hi
      subst hi; exact hy

section
variable {H : Type} {enc : TypeId × Value → H} {P : Program} {w : World} {spare : Nat → Bool} {held : Bool}

mutual
theorem trod_K : ∀ (n : Nat) {fuel : Nat} {t : TypeId} {ty : Ty} {cs : List Value} {x : DataW H × List MemPlace}, tyOf P n t = some ty → DataW.trod enc P w 0 spare held fuel t cs = some x → ∃ v : Val ty, K w (fun _ => True) ty v cs ∧ Sm ty v
  | 0, _, _, _, _, _, h, _ => by simp [tyOf] at h
  | n + 1, fuel, t, ty, cs, x, h, hx => by
    unfold tyOf at h
    split at h
    · rename_i k hu
      cases h
      obtain ⟨m, rfl, _, hw⟩ := DataW.trod_int hu hx
      exact ⟨m, by rw [K], hw⟩
    · rename_i hu
      cases h
      obtain ⟨b, rfl, _⟩ := DataW.trod_bool hu hx
      exact ⟨(b : Bool), by rw [K], trivial⟩
    · rename_i hu
      cases h
      obtain ⟨s, rfl, _, hs⟩ := DataW.trod_string hu hx
      exact ⟨(s : ByteArray), by rw [K], hs⟩
    · rename_i e hu
      split at h
      · rename_i te hte
        split at h
        · rename_i hsz
          cases h
          rcases DataW.trod_slice hu hx with ⟨rfl, _⟩ | ⟨a, len, cap, elems, rest, m, _, rfl, _, _, h1, h2, h3, h4, _⟩
          · refine ⟨([] : List (Val te)), ?_, ?_⟩
            · rw [K]; exact ⟨none, 0, rfl, Nat.le_refl _, fun i x h => by simp at h⟩
            · exact ⟨by simp, by simp⟩
          · obtain ⟨xs, hxl, hxs⟩ := list_of (Q := fun i (v : Val te) => (∃ cs, K w (fun _ => True) te v cs ∧ At w (a.add (i * te.sz)) cs) ∧ Sm te v) len fun i hi => by
              have hg := h4 i hi
              have : i < elems.length := by omega
              rw [List.getElem?_eq_getElem this, hsz] at hg
              simp only [Option.bind_eq_some_iff] at hg
              obtain ⟨cs', hc, ht⟩ := hg
              obtain ⟨_, hat⟩ := cells_At hc
              obtain ⟨v, hv, hs⟩ := trod_K n hte ht
              exact ⟨v, ⟨cs', hv, hat⟩, hs⟩
            refine ⟨xs, ?_, ?_⟩
            · rw [K]
              exact ⟨some a, cap, by rw [hxl], by omega, fun i x hi => by
                obtain ⟨⟨cs', hv, hat⟩, _⟩ := hxs i x hi
                exact ⟨a, cs', rfl, trivial, hv, hat⟩⟩
            · refine ⟨by omega, fun y hy => ?_⟩
              obtain ⟨i, hi⟩ := List.getElem?_of_mem hy
              exact (hxs i y hi).2
        · simp at h
      · simp at h
    · rename_i fs hu
      split at h
      · rename_i ty' hty
        split at h
        · rename_i hsz
          cases h
          obtain ⟨ys, m, _, _, hl, hyl, hf⟩ := DataW.trod_struct hu hx
          obtain ⟨v, hk, hs⟩ := fields_K (cs := cs) n hty (fun f hm => by
            obtain ⟨i, hi⟩ := List.getElem?_of_mem hm
            have hi' : fs[i]? = some f := by rw [← Array.getElem?_toList]; exact hi
            have := hf i f hi'
            have hil : i < ys.length := by rw [hyl]; exact (Array.getElem?_eq_some_iff.1 hi').1
            rw [List.getElem?_eq_getElem hil] at this
            exact ⟨_, this⟩)
          refine ⟨v, ?_, hs⟩
          have : (cs.drop 0).take ty.sz = cs := by rw [List.drop_zero, List.take_of_length_le (by omega)]
          rw [← this]; exact hk
        · simp at h
      · simp at h
    · simp at h
theorem fields_K : ∀ (n : Nat) {fuel off : Nat} {fs : List Field} {ty : Ty} {cs : List Value}, fieldsTy P n off fs = some ty → (∀ f ∈ fs, ∃ y, DataW.trod enc P w 0 spare held fuel f.type ((cs.drop f.offset).take (P.cellsOf f.type)) = some y) →
    ∃ v : Val ty, K w (fun _ => True) ty v ((cs.drop off).take ty.sz) ∧ Sm ty v
  | 0, _, _, _, _, _, h, _ => by simp [fieldsTy] at h
  | n + 1, fuel, off, [], ty, cs, h, _ => by simp [fieldsTy] at h
  | n + 1, fuel, off, [f], ty, cs, h, hm => by
    simp only [fieldsTy] at h
    split at h
    · rename_i a ha
      split at h
      · rename_i hc
        cases h
        obtain ⟨y, hy⟩ := hm f (by simp)
        rw [hc.1, hc.2] at hy
        exact trod_K n ha hy
      · simp at h
    · simp at h
  | n + 1, fuel, off, f :: g :: r, ty, cs, h, hm => by
    simp only [fieldsTy] at h
    split at h
    · rename_i a ha
      split at h
      · rename_i hc
        split at h
        · rename_i b hb
          cases h
          obtain ⟨y, hy⟩ := hm f (by simp)
          rw [hc.1, hc.2] at hy
          obtain ⟨v1, hk1, hs1⟩ := trod_K n ha hy
          obtain ⟨v2, hk2, hs2⟩ := fields_K (cs := cs) n hb fun f hf => hm f (List.mem_cons_of_mem _ hf)
          refine ⟨((v1, v2) : Val a × Val b), ?_, hs1, hs2⟩
          rw [K]
          refine ⟨_, _, ?_, hk1, hk2⟩
          rw [Ty.sz, ← List.drop_drop, List.take_add]
        · simp at h
      · simp at h
    · simp at h
end

def Sms : (tis : List TI) → Vals tis → Prop
  | [], _ => True
  | ti :: r, x => Sm ti.ty x.1 ∧ Sms r x.2

def aggOf (P : Program) (t : TypeId) : Bool := match P.underlying t with
  | some (.struct _) => true
  | _ => false

theorem arg_K {base n : Nat} {r : Reach} {t : TypeId} {ti : TI} {v : Value} {d : DataW H} {p : List MemPlace} (hty : tyOf P n t = some ti.ty) (hag : aggOf P t = ti.agg) (hv : Value.okWide P w r base t v) (h : DataW.Trod enc P w 0 spare held t v d p) :
    ∃ x : Val ti.ty, ∃ cs, K w (fun _ => True) ti.ty x cs ∧ wrapped ti.agg cs v ∧ Sm ti.ty x := by
  obtain ⟨fuel, hf⟩ := h
  obtain ⟨x, hk, hs⟩ := trod_K n hty hf
  refine ⟨x, _, hk, ?_, hs⟩
  rw [← hag]
  unfold aggOf
  cases n with
  | zero => simp [tyOf] at hty
  | succ n =>
    unfold tyOf at hty
    split at hty
    · rename_i k hu
      rw [hu]
      simp only [wrapped]
      obtain ⟨m, hc, _⟩ := DataW.trod_int hu hf
      simp only [Value.okWide, hu, Cell.okWide] at hv
      cases v <;> simp_all [Cell.ok, Value.cells]
    · rename_i hu
      rw [hu]
      simp only [wrapped]
      simp only [Value.okWide, hu, Cell.okWide] at hv
      cases v <;> simp_all [Cell.ok, Value.cells]
    · rename_i hu
      rw [hu]
      simp only [wrapped]
      obtain ⟨s, rfl⟩ := okWide_string hu hv
      simp [Value.cells]
    · rename_i e hu
      rw [hu]
      simp only [wrapped]
      obtain ⟨a, l, c, rfl⟩ := okWide_slice hu hv
      simp [Value.cells]
    · rename_i fs hu
      rw [hu]
      simp only [wrapped]
      obtain ⟨cs, rfl, _⟩ := okWide_struct hu hv
      simp [Value.cells]
    · simp at hty
end
end Go.T
/- T: sizes, equality, bounds of values. -/
namespace Go.T
open Go

def szL {α : Type} (f : α → Int → Int) : List α → Int → Int
  | [], n => n
  | x :: r, n => if f x n < 0 then -1 else szL f r (f x n)
def szV : (t : Ty) → Val t → Int → Int
  | .int _, _, n => n
  | .bool, _, n => n
  | .str, s, n => if n - s.size < 0 then -1 else n - s.size
  | .hdr, _, n => n
  | .slice _ t, xs, n => if n - xs.length < 0 then -1 else szL (szV t) xs (n - xs.length)
  | .pair a b, v, n => if szV a v.1 n < 0 then -1 else szV b v.2 (szV a v.1 n)
def Bd : (t : Ty) → Val t → Prop
  | .int _, _ => True
  | .bool, _ => True
  | .str, s => s.size ≤ 1048576
  | .hdr, _ => True
  | .slice _ t, xs => xs.length ≤ 1048576 ∧ ∀ x ∈ xs, Bd t x
  | .pair a b, v => Bd a v.1 ∧ Bd b v.2

theorem szL_le {α : Type} {f : α → Int → Int} (hf : ∀ x n, 0 ≤ n → f x n ≤ n ∧ (f x n < 0 → f x n = -1)) : ∀ (xs : List α) (n : Int), 0 ≤ n → szL f xs n ≤ n ∧ (szL f xs n < 0 → szL f xs n = -1)
  | [], n, h => ⟨Int.le_refl _, fun h' => by simp only [szL] at h' ⊢; omega⟩
  | x :: r, n, h => by
    have h1 := hf x n h
    simp only [szL]
    split
    · exact ⟨by omega, fun _ => rfl⟩
    · have := szL_le hf r (f x n) (by omega)
      exact ⟨by omega, this.2⟩
theorem szV_le : ∀ (t : Ty) (x : Val t) (n : Int), 0 ≤ n → szV t x n ≤ n ∧ (szV t x n < 0 → szV t x n = -1)
  | .int _, _, n, h => ⟨Int.le_refl _, fun h' => by simp only [szV] at h' ⊢; omega⟩
  | .bool, _, n, h => ⟨Int.le_refl _, fun h' => by simp only [szV] at h' ⊢; omega⟩
  | .str, s, n, h => by simp only [szV]; split <;> omega
  | .hdr, _, n, h => ⟨Int.le_refl _, fun h' => by simp only [szV] at h' ⊢; omega⟩
  | .slice _ t, xs, n, h => by
    simp only [szV]
    split
    · exact ⟨by omega, fun _ => rfl⟩
    · have := szL_le (f := szV t) (fun x n h => szV_le t x n h) xs (n - xs.length) (by omega)
      exact ⟨by omega, this.2⟩
  | .pair a b, v, n, h => by
    simp only [szV]
    have h1 := szV_le a v.1 n h
    split
    · exact ⟨by omega, fun _ => rfl⟩
    · have := szV_le b v.2 (szV a v.1 n) (by omega)
      exact ⟨by omega, this.2⟩

theorem szL_mem {α : Type} {f : α → Int → Int} {B : α → Prop} (hf : ∀ x n, 0 ≤ n → n ≤ 1048576 → 0 ≤ f x n → f x n ≤ n ∧ B x) : ∀ (xs : List α) (n : Int), 0 ≤ n → n ≤ 1048576 → 0 ≤ szL f xs n → ∀ x ∈ xs, B x
  | [], _, _, _, _ => by simp
  | x :: r, n, h0, h1, h => by
    simp only [szL] at h
    split at h
    · omega
    · rename_i hx
      have := hf x n h0 h1 (by omega)
      intro y hy
      rcases List.mem_cons.1 hy with rfl | hy
      · exact this.2
      · exact szL_mem hf r (f x n) (by omega) (by omega) h y hy
theorem szV_Bd : ∀ (t : Ty) (x : Val t) (n : Int), 0 ≤ n → n ≤ 1048576 → 0 ≤ szV t x n → Bd t x
  | .int _, _, _, _, _, _ => trivial
  | .bool, _, _, _, _, _ => trivial
  | .hdr, _, _, _, _, _ => trivial
  | .str, s, n, h0, h1, h => by
    simp only [szV] at h
    split at h
    · omega
    · simp only [Bd]; omega
  | .slice _ t, xs, n, h0, h1, h => by
    simp only [szV] at h
    split at h
    · omega
    · refine ⟨by omega, ?_⟩
      exact szL_mem (f := szV t) (fun x n h0 h1 h => ⟨(szV_le t x n h0).1, szV_Bd t x n h0 h1 h⟩) xs _ (by omega) (by omega) h
  | .pair a b, v, n, h0, h1, h => by
    simp only [szV] at h
    split at h
    · omega
    · have := szV_le a v.1 n h0
      exact ⟨szV_Bd a v.1 n h0 h1 (by omega), szV_Bd b v.2 _ (by omega) (by omega) h⟩

theorem szL_flat {α : Type} {f : α → Int → Int} (hf : ∀ x n, f x n = n) : ∀ (xs : List α) (n : Int), 0 ≤ n → szL f xs n = n
  | [], _, _ => rfl
  | x :: r, n, h => by simp only [szL, hf]; rw [if_neg (by omega), szL_flat hf r n h]

def eqL {α : Type} (f : α → α → Bool) : List α → List α → Bool
  | [], [] => true
  | x :: xs, y :: ys => f x y && eqL f xs ys
  | _, _ => false
def eqV : (t : Ty) → Val t → Val t → Bool
  | .int _, a, b => decide ((a : Int) = b)
  | .bool, a, b => (a : Bool) == b
  | .str, a, b => ByteArray.toList a == ByteArray.toList b
  | .hdr, _, _ => true
  | .slice _ t, xs, ys => eqL (eqV t) xs ys
  | .pair a b, v, u => eqV a v.1 u.1 && eqV b v.2 u.2
theorem eqL_refl {α : Type} {f : α → α → Bool} (hf : ∀ x, f x x = true) : ∀ xs : List α, eqL f xs xs = true
  | [] => rfl
  | x :: xs => by simp [eqL, hf, eqL_refl hf xs]
theorem eqV_refl : ∀ (t : Ty) (x : Val t), eqV t x x = true
  | .int _, x => by simp [eqV]
  | .bool, x => by simp [eqV]
  | .str, x => by simp [eqV]
  | .hdr, x => by simp [eqV]
  | .slice _ t, xs => by simp only [eqV]; exact eqL_refl (eqV_refl t) xs
  | .pair a b, v => by simp [eqV, eqV_refl a v.1, eqV_refl b v.2]
theorem eqL_len {α : Type} {f : α → α → Bool} : ∀ (xs ys : List α), xs.length ≠ ys.length → eqL f xs ys = false
  | [], [], h => absurd rfl h
  | [], _ :: _, _ => rfl
  | _ :: _, [], _ => rfl
  | x :: xs, y :: ys, h => by simp [eqL, eqL_len xs ys (by simpa using h)]

theorem szV_pair {a b : Ty} {v : Val a × Val b} {n : Int} : szV (.pair a b) v n = if szV a v.1 n < 0 then -1 else szV b v.2 (szV a v.1 n) := rfl
theorem szV_slice {e : Nat} {t : Ty} {xs : List (Val t)} {n : Int} : szV (.slice e t) xs n = if n - xs.length < 0 then -1 else szL (szV t) xs (n - xs.length) := rfl
theorem szV_pair_neg {a b : Ty} {v : Val a × Val b} {n : Int} (h : szV a v.1 n < 0) : szV (.pair a b) v n = -1 := by rw [szV_pair, if_pos h]
theorem szV_pair_pos {a b : Ty} {v : Val a × Val b} {n : Int} (h : 0 ≤ szV a v.1 n) : szV (.pair a b) v n = szV b v.2 (szV a v.1 n) := by rw [szV_pair, if_neg (by omega)]
theorem szL_flatV {t : Ty} (h : ∀ (x : Val t) n, szV t x n = n) (xs : List (Val t)) (n : Int) (hn : 0 ≤ n) : szL (szV t) xs n = n := szL_flat h xs n hn
theorem wrap_succ {i n : Nat} (h : i < n) (hn : n ≤ 1048576) : IntKind.i64.wrap ((i : Int) + 1) = ((i + 1 : Nat) : Int) := by
  rw [IntKind.wrap_i64]; omega
def szPre (t : Ty) (x : Val t) (n : Int) : Prop := Sm t x ∧ 0 ≤ n ∧ n ≤ 1048576
def fillP {α : Type} (xs : List α) (d : α) (i : Nat) : List α := xs.take i ++ List.replicate (xs.length - i) d
theorem fillP_len {α : Type} {xs : List α} {d : α} {i : Nat} (h : i ≤ xs.length) : (fillP xs d i).length = xs.length := by
  simp [fillP]; omega
theorem fillP_zero {α : Type} (xs : List α) (d : α) : List.replicate xs.length d = fillP xs d 0 := by simp [fillP]
theorem fillP_end {α : Type} {xs : List α} {d : α} {i : Nat} (h : xs.length ≤ i) : fillP xs d i = xs := by
  simp [fillP, List.take_of_length_le h, Nat.sub_eq_zero_of_le h]
theorem fillP_set {α : Type} {xs : List α} {d d' : α} {i : Nat} (h : i < xs.length) : (fillP xs d i).set i (xs[i]?.getD d') = fillP xs d (i + 1) := by
  have e1 : xs.length - i = (xs.length - (i + 1)) + 1 := by omega
  have e2 : i - (xs.take i).length = 0 := by simp; omega
  unfold fillP
  rw [e1, List.replicate_succ, List.set_append_right _ _ (by simp; omega), e2, List.set_cons_zero, List.getElem?_eq_getElem h, Option.getD_some]
  have e3 : xs.take (i + 1) = xs.take i ++ [xs[i]] := by rw [List.take_add_one, List.getElem?_eq_getElem h]; rfl
  rw [e3, List.append_assoc]; rfl
theorem wrap64 {n : Int} (h1 : -9223372036854775808 ≤ n) (h2 : n ≤ 9223372036854775807) : IntKind.i64.wrap n = n := by
  rw [IntKind.wrap_i64]; omega
def chain : Nat → Nat → Tree → Tree
  | _, 0, t => t
  | i, n + 1, t => .quiet i (chain (i + 1) n t)
attribute [simp] chain
end Go.T
/- T: nil slices as rows of no elements. -/
namespace Go.T
open Go

inductive Fix
  | env (j c e : Nat) (t : Ty)
  | box (j c e : Nat) (t : Ty)
  | und (j c e : Nat) (t : Ty)
  | nse (j c e : Nat) (t : Ty)
  | nsb (j c e : Nat) (t : Ty)
  | unb (j c e : Nat) (t : Ty)
  | frb (j c e : Nat) (t : Ty)
structure Nm where
  keep : List Bool
  fix : List Fix := []
  zero : Bool := false

def St.undp (st : St) (id : Nat) : St := match st.heap[id]? with
  | some (.row e t xs true mt _) => { env := st.env, heap := st.heap.set id (.row e t xs false mt st.heap.length) }
  | _ => st
def St.frz (st : St) (id : Nat) : St := { env := st.env, heap := freeze st.heap [id] }
def St.fix1 (st : St) : Fix → St
  | .env j c e t => match st.env[j]? with
    | some (.one .nils) => { env := st.env.set j (.one (.own st.heap.length)), heap := st.heap ++ [.row e t [] true true 0] }
    | some (.agg cs) => match cs[c]? with
      | some .nils => { env := st.env.set j (.agg (cs.set c (.own st.heap.length))), heap := st.heap ++ [.row e t [] true true 0] }
      | _ => st
    | _ => st
  | .box j c e t => match st.env[j]? with
    | some (.one (.ptr id _ _)) => match st.heap[id]? with
      | some (.box cs) => match cs[c]? with
        | some .nils => { env := st.env, heap := st.heap.set id (.box (cs.set c (.own st.heap.length))) ++ [.row e t [] true true 0] }
        | _ => st
      | _ => st
    | _ => st
  | .nse j c e t => match st.env[j]? with
    | some (.one .nils) => { env := st.env.set j (.one (.sl e t [] st.heap.length)), heap := st.heap }
    | some (.agg cs) => match cs[c]? with
      | some .nils => { env := st.env.set j (.agg (cs.set c (.sl e t [] st.heap.length))), heap := st.heap }
      | _ => st
    | _ => st
  | .nsb j c e t => match st.env[j]? with
    | some (.one (.ptr id _ _)) => match st.heap[id]? with
      | some (.box cs) => match cs[c]? with
        | some .nils => { env := st.env, heap := st.heap.set id (.box (cs.set c (.sl e t [] st.heap.length))) }
        | _ => st
      | _ => st
    | _ => st
  | .und j c _ _ => match st.env[j]? with
    | some lv => match lv.cells[c]? with
      | some (.own id) => st.undp id
      | _ => st
    | _ => st
  | .unb j c _ _ => match st.env[j]? with
    | some (.one (.ptr b _ _)) => match st.heap[b]? with
      | some (.box cs) => match cs[c]? with
        | some (.own id) => st.undp id
        | _ => st
      | _ => st
    | _ => st
  | .frb j c _ _ => match st.env[j]? with
    | some (.one (.ptr b _ _)) => match st.heap[b]? with
      | some (.box cs) => match cs[c]? with
        | some (.own id) => st.frz id
        | _ => st
      | _ => st
    | _ => st
def St.fixes (st : St) : List Fix → St
  | [] => st
  | f :: r => (st.fix1 f).fixes r
def St.norm (nm : Nm) (st : St) : St := (st.fixes nm.fix).gc nm.zero nm.keep

section
variable {w0 w : World} {mine : Mine} {m : Mp} {h : List Blk}

theorem HR.rebox (H : HR w0 mine w m h) {id : Nat} {cs cs' : List LC} (hb : h[id]? = some (.box cs)) (hc : ∀ vs : List Value, F2 (C w m h) cs vs → F2 (C w m h) cs' vs) :
    HR w0 mine w m (h.set id (.box cs')) ∧ Oks w w m m h (h.set id (.box cs')) ∧ Sims m m h (h.set id (.box cs')) := by
  have hid := (List.getElem?_eq_some_iff.1 hb).1
  have get : ∀ j y, (h.set id (.box cs'))[j]? = some y → (j = id ∧ y = .box cs') ∨ (j ≠ id ∧ h[j]? = some y) := fun j y hy => by
    rw [List.getElem?_set] at hy
    split at hy
    · rename_i e; subst e; simp [hid] at hy; exact .inl ⟨rfl, hy.symm⟩
    · rename_i e; exact .inr ⟨fun e' => e e'.symm, hy⟩
  have old : ∀ j y, (h.set id (.box cs'))[j]? = some y → ∃ y0, h[j]? = some y0 ∧ fpB m j y = fpB m j y0 ∧ ∀ n b, okB m n b j y ↔ okB m n b j y0 := fun j y hy => by
    rcases get j y hy with ⟨rfl, rfl⟩ | ⟨_, hy⟩
    · exact ⟨_, hb, rfl, fun _ _ => Iff.rfl⟩
    · exact ⟨y, hy, rfl, fun _ _ => Iff.rfl⟩
  have hok : Oks w w m m h (h.set id (.box cs')) := fun n b hb' _ => ⟨rfl, hb'.1, fun j y hy => by
    obtain ⟨y0, h0, _, h2⟩ := old j y hy
    exact (h2 n b).2 (hb'.2 j y0 h0)⟩
  have hs : Sims m m h (h.set id (.box cs')) := fun j x hx => by
    by_cases e : j = id
    · subst e
      rw [hb] at hx; cases hx
      exact ⟨.box cs', by simp [hid], rfl⟩
    · refine ⟨x, by rw [List.getElem?_set_ne (fun e' => e e'.symm)]; exact hx, ?_⟩
      cases x <;> simp [Sim]
  refine ⟨⟨fun j y hy => ?_, fun j y hy => ?_, fun j y j' y' hne hy hy' b hb1 hb2 => ?_, fun j y hy b hb1 => ?_, H.fr, H.mx, H.nx, fun j v hp => ?_⟩, hok, hs⟩
  · rcases get j y hy with ⟨rfl, rfl⟩ | ⟨_, hy'⟩
    · obtain ⟨arr, ty, h1, h2, h3⟩ := H.br j _ hb
      exact ⟨arr, ty, h1, (hc _ h2).imp fun _ _ _ hC => C_mono hok hs hC, h3⟩
    · exact BR_mono hok hs rfl rfl rfl (fun _ _ => rfl) (H.br j y hy')
  · obtain ⟨y0, h0, h1, _⟩ := old j y hy
    rw [h1]; exact H.nd j y0 h0
  · obtain ⟨y0, h0, h1, _⟩ := old j y hy
    obtain ⟨y0', h0', h1', _⟩ := old j' y' hy'
    rw [h1] at hb1; rw [h1'] at hb2
    exact H.dj j y0 j' y0' hne h0 h0' b hb1 hb2
  · obtain ⟨y0, h0, h1, _⟩ := old j y hy
    rw [h1] at hb1; exact H.lt j y0 h0 b hb1
  · obtain ⟨h1, h2⟩ := H.pn j v hp
    exact ⟨by simpa using h1, h2⟩

theorem HR.newNil (H : HR w0 mine w m h) (e : Nat) (t : Ty) : ∃ m', HR w0 mine w m' (h ++ [.row e t [] true true 0]) ∧ Oks w w m m' h (h ++ [.row e t [] true true 0]) ∧ Sims m m' h (h ++ [.row e t [] true true 0]) ∧
    C w m' (h ++ [.row e t [] true true 0]) (.own h.length) (.slice none 0 0) := by
  have hf : F2 (RowOk w) [.row e t [] true true 0] [((.slice none 0 0 : Value), ([] : List Nat))] := .cons ⟨e, t, [], [], rfl, ⟨by simp, .inl ⟨rfl, rfl⟩⟩, rfl, rfl⟩ .nil
  obtain ⟨H', hok, hs⟩ := HR.results H (Fr.refl _ w) hf (by simp [RowR.fp, Value.ownBlock]) (by simp [RowR.fp, Value.ownBlock])
  exact ⟨_, H', hok, hs, (CellR_C hf (c := .own h.length) ⟨0, _, rfl, rfl, rfl⟩).1⟩

theorem F2_setC {α β : Type} {R : α → β → Prop} {cs : List α} {vs : List β} (hf : F2 R cs vs) {c : Nat} {x : α} (hx : ∀ v, vs[c]? = some v → R x v) : F2 R (cs.set c x) vs := by
  induction hf generalizing c with
  | nil => exact .nil
  | cons h1 h2 ih => cases c with
    | zero => exact .cons (hx _ rfl) h2
    | succ c => exact .cons h1 (ih fun v hv => hx v (by simpa using hv))

theorem HR.undeep (H : HR w0 mine w m h) {id e : Nat} {t : Ty} {xs : List (Val t)} {mt : Bool} {n : Nat} (hb : h[id]? = some (.row e t xs true mt n)) :
    HR w0 mine w m (h.set id (.row e t xs false mt h.length)) ∧ Oks w w m m h (h.set id (.row e t xs false mt h.length)) ∧ Sims m m h (h.set id (.row e t xs false mt h.length)) := by
  have hid := (List.getElem?_eq_some_iff.1 hb).1
  have get : ∀ j y, (h.set id (.row e t xs false mt h.length))[j]? = some y → (j = id ∧ y = .row e t xs false mt h.length) ∨ (j ≠ id ∧ h[j]? = some y) := fun j y hy => by
    rw [List.getElem?_set] at hy
    split at hy
    · rename_i q; subst q; simp [hid] at hy; exact .inl ⟨rfl, hy.symm⟩
    · rename_i q; exact .inr ⟨fun q' => q q'.symm, hy⟩
  have fpsub : ∀ j y, (h.set id (.row e t xs false mt h.length))[j]? = some y → ∃ y0, h[j]? = some y0 ∧ ∀ b ∈ fpB m j y, b ∈ fpB m j y0 := fun j y hy => by
    rcases get j y hy with ⟨rfl, rfl⟩ | ⟨_, hy⟩
    · refine ⟨_, hb, fun b hb' => ?_⟩
      have hb' : b ∈ (m.val j).ownBlock.toList ++ [] := hb'
      rw [List.append_nil] at hb'
      exact List.mem_append_left _ hb'
    · exact ⟨y, hy, fun _ h => h⟩
  have hok : Oks w w m m h (h.set id (.row e t xs false mt h.length)) := fun k b hk _ => ⟨rfl, hk.1, fun j y hy => by
    rcases get j y hy with ⟨rfl, rfl⟩ | ⟨_, hy⟩
    · exact ⟨(hk.2 j _ hb).1, fun h => by simp at h⟩
    · exact hk.2 j y hy⟩
  have hs : Sims m m h (h.set id (.row e t xs false mt h.length)) := fun j x hx => by
    by_cases q : j = id
    · subst q
      rw [hb] at hx; cases hx
      exact ⟨_, List.getElem?_set_self hid, rfl, rfl⟩
    · refine ⟨x, by rw [List.getElem?_set_ne (fun q' => q q'.symm)]; exact hx, ?_⟩
      cases x <;> simp [Sim]
  obtain ⟨inner, ho, hms, _⟩ := H.br id _ hb
  have hnd := H.nd id _ hb
  simp only [fpB] at hnd
  refine ⟨⟨fun j y hy => ?_, fun j y hy => ?_, fun j y j' y' hne hy hy' b h1 h2 => ?_, fun j y hy b h1 => ?_, H.fr, H.mx, H.nx, fun j v hp => ?_⟩, hok, hs⟩
  · rcases get j y hy with ⟨rfl, rfl⟩ | ⟨_, hy⟩
    · refine ⟨inner, ho, hms.toKs fun x c B hB hM => M_K hM fun b hbB => ?_⟩
      have hbn : b ∈ m.nst j := hB b hbB
      have hbf : b ∈ fpB m j (.row e t xs true mt n) := List.mem_append_right _ hbn
      refine ⟨by rw [H.mx]; exact H.nx b (H.lt j _ hb b hbf).2, fun i z hz => ?_⟩
      rcases get i z hz with ⟨rfl, rfl⟩ | ⟨hi, hz⟩
      · refine ⟨fun _ ho' => ?_, fun h => by simp at h⟩
        exact (List.nodup_append.1 hnd).2.2 b (by simp [ho']) b hbn rfl
      · have hdj := H.dj j _ i z (fun q => hi q.symm) hb hz b hbf
        cases z with
        | dead => trivial
        | box cs => show b ≠ m.blk i; simpa [fpB] using hdj
        | nst F t hs vs => exact hdj
        | row e' t' xs' dp mt' k =>
          simp only [fpB, List.mem_append, not_or] at hdj
          refine ⟨fun _ hob => hdj.1 (by simp [hob]), fun hd _ hm => ?_⟩
          subst hd
          exact hdj.2 hm
    · exact BR_mono hok hs rfl rfl rfl (fun _ _ => rfl) (H.br j y hy)
  · rcases get j y hy with ⟨rfl, rfl⟩ | ⟨_, hy⟩
    · show ((m.val j).ownBlock.toList ++ []).Nodup
      rw [List.append_nil]
      exact (List.nodup_append.1 hnd).1
    · exact H.nd j y hy
  · obtain ⟨z, hz, hz1⟩ := fpsub j y hy
    obtain ⟨z', hz', hz1'⟩ := fpsub j' y' hy'
    exact H.dj j z j' z' hne hz hz' b (hz1 b h1) (hz1' b h2)
  · obtain ⟨z, hz, hz1⟩ := fpsub j y hy
    exact H.lt j z hz b (hz1 b h1)
  · obtain ⟨h1, h2⟩ := H.pn j v hp
    exact ⟨by simpa using h1, h2⟩
theorem Le.undp (st : St) (id : Nat) : Le st (st.undp id) := fun w0 mine a w hp hr => by
  unfold St.undp
  split
  · rename_i e t xs mt n hb
    obtain ⟨hd, m, H, he⟩ := hr
    obtain ⟨H', hok, hs⟩ := H.undeep hb
    exact ⟨hd, m, H', env_mono hok hs he⟩
  · exact hr
theorem Le.frz (st : St) (id : Nat) : Le st (st.frz id) := fun w0 mine a w hp hr => by
  obtain ⟨hd, m, H, he⟩ := hr
  obtain ⟨H', hok, hs⟩ := H.weaker (Weakers.freeze st.heap [id])
  exact ⟨hd, m, H', env_mono hok hs he⟩
theorem C_nsl {m : Mp} {v : Value} {e n : Nat} {t : Ty} (h1 : C w m h .nils v) : C w m h (.sl e t [] n) v := by
  have h1 : v = .slice none 0 0 := h1
  exact ⟨none, 0, h1, Nat.le_refl _, fun i x hx => by simp at hx⟩
theorem Le.fix1 (st : St) (f : Fix) : Le st (st.fix1 f) := fun w0 mine a w hp hr => by
  obtain ⟨hd, m, H, he⟩ := hr
  cases f with
  | env j c e t =>
    simp only [St.fix1]
    split
    · rename_i hj
      obtain ⟨m', H', hok, hs, hc⟩ := H.newNil e t
      refine ⟨hd, m', H', F2_setC (env_mono hok hs he) fun v hv => ?_⟩
      obtain ⟨v', hv', hV⟩ := he.get hj
      rw [hv] at hv'; cases hv'
      have : v = .slice none 0 0 := hV
      subst this
      exact hc
    · rename_i cs hj
      split
      · rename_i hc'
        obtain ⟨m', H', hok, hs, hc⟩ := H.newNil e t
        refine ⟨hd, m', H', F2_setC (env_mono hok hs he) fun v hv => ?_⟩
        obtain ⟨v', hv', hV⟩ := he.get hj
        rw [hv] at hv'; cases hv'
        obtain ⟨vs, rfl, hf⟩ := hV
        refine ⟨vs, rfl, F2_setC (hf.imp fun _ _ _ h => C_mono hok hs h) fun u hu => ?_⟩
        obtain ⟨u', hu', hC⟩ := hf.get hc'
        rw [hu] at hu'; cases hu'
        have : u = .slice none 0 0 := hC
        subst this
        exact hc
      · exact ⟨hd, m, H, he⟩
    · exact ⟨hd, m, H, he⟩
  | box j c e t =>
    simp only [St.fix1]
    split
    · rename_i id i f hj
      split
      · rename_i cs hb
        split
        · rename_i hc'
          obtain ⟨m', H', hok, hs, hc⟩ := H.newNil e t
          have hid := (List.getElem?_eq_some_iff.1 hb).1
          have hb' : (st.heap ++ [Blk.row e t [] true true 0])[id]? = some (.box cs) := by rw [List.getElem?_append_left hid]; exact hb
          obtain ⟨H2, hok2, hs2⟩ := H'.rebox hb' (cs' := cs.set c (.own st.heap.length)) fun vs hf => F2_setC hf fun u hu => by
            obtain ⟨u', hu', hC⟩ := hf.get hc'
            rw [hu] at hu'; cases hu'
            have : u = .slice none 0 0 := hC
            subst this
            exact hc
          rw [List.set_append_left _ _ hid] at H2 hok2 hs2
          exact ⟨hd, m', H2, env_mono hok2 hs2 (env_mono hok hs he)⟩
        · exact ⟨hd, m, H, he⟩
      · exact ⟨hd, m, H, he⟩
    · exact ⟨hd, m, H, he⟩
  | nse j c e t =>
    simp only [St.fix1]
    split
    · rename_i hj
      refine ⟨hd, m, H, F2_setC he fun v hv => ?_⟩
      obtain ⟨v', hv', hV⟩ := he.get hj
      rw [hv] at hv'; cases hv'
      exact C_nsl (e := e) (t := t) hV
    · rename_i cs hj
      split
      · rename_i hc'
        refine ⟨hd, m, H, F2_setC he fun v hv => ?_⟩
        obtain ⟨v', hv', hV⟩ := he.get hj
        rw [hv] at hv'; cases hv'
        obtain ⟨vs, rfl, hf⟩ := hV
        refine ⟨vs, rfl, F2_setC hf fun u hu => ?_⟩
        obtain ⟨u', hu', hC⟩ := hf.get hc'
        rw [hu] at hu'; cases hu'
        exact C_nsl hC
      · exact ⟨hd, m, H, he⟩
    · exact ⟨hd, m, H, he⟩
  | nsb j c e t =>
    simp only [St.fix1]
    split
    · rename_i id i f hj
      split
      · rename_i cs hb
        split
        · rename_i hc'
          obtain ⟨H2, hok2, hs2⟩ := H.rebox hb (cs' := cs.set c (.sl e t [] st.heap.length)) fun vs hf => F2_setC hf fun u hu => by
            obtain ⟨u', hu', hC⟩ := hf.get hc'
            rw [hu] at hu'; cases hu'
            exact C_nsl hC
          exact ⟨hd, m, H2, env_mono hok2 hs2 he⟩
        · exact ⟨hd, m, H, he⟩
      · exact ⟨hd, m, H, he⟩
    · exact ⟨hd, m, H, he⟩
  | und j c e t =>
    have hr : R w0 mine st a w := ⟨hd, m, H, he⟩
    simp only [St.fix1]
    split
    · split
      · exact Le.undp st _ w0 mine a w hp hr
      · exact hr
    · exact hr
  | unb j c e t =>
    have hr : R w0 mine st a w := ⟨hd, m, H, he⟩
    simp only [St.fix1]
    split
    · split
      · split
        · exact Le.undp st _ w0 mine a w hp hr
        · exact hr
      · exact hr
    · exact hr
  | frb j c e t =>
    have hr : R w0 mine st a w := ⟨hd, m, H, he⟩
    simp only [St.fix1]
    split
    · split
      · split
        · exact Le.frz st _ w0 mine a w hp hr
        · exact hr
      · exact hr
    · exact hr
theorem Le.fixes : ∀ (l : List Fix) (st : St), Le st (st.fixes l)
  | [], st => Le.refl st
  | f :: r, st => (Le.fix1 st f).trans (Le.fixes r _)
theorem Le.norm (nm : Nm) (st : St) : Le st (st.norm nm) := (Le.fixes nm.fix st).trans (Le.gc _ nm.zero nm.keep)
end

def LC.clamp (L : Nat) : LC → LC
  | .sl e t xs n => if n ≤ L then .sl e t xs n else .undef
  | .tptr t v f n => if n ≤ L then .tptr t v f n else .undef
  | c => c
def LV.clamp (L : Nat) : LV → LV
  | .one c => .one (c.clamp L)
  | .agg cs => .agg (cs.map (LC.clamp L))
  | .tup _ => .one .undef
def Blk.clamp (L : Nat) : Blk → Blk
  | .box cs => .box (cs.map (LC.clamp L))
  | .row e t xs false mt n => if n ≤ L then .row e t xs false mt n else .dead
  | b => b
inductive Pre
  | opn (id : Nat) (t : Ty)
  | cls (id j : Nat) (t : Ty) (sel : List (Val t) → List Nat)
def opnSt (st : St) (id e : Nat) (t : Ty) (mt : Bool) (n : Nat) (F : List Nat) (hs : List (Val (hd t))) (xs : List (Val t)) : St :=
  ⟨st.env.map (LV.clamp n), (st.heap.map (Blk.clamp n)).set id (.row e (hd t) hs true mt 0) ++ [.nst F t hs xs]⟩
end Go.T
/- T: names of elements: a row whose elements are told by their slice values, and back. -/
namespace Go.T
open Go

section
variable {w0 w w' : World} {mine : Mine} {m m' : Mp} {h : List Blk}
structure Keeps (w w' : World) (m m' : Mp) (h h' : List Blk) (L : Nat) : Prop where
  ok : ∀ n b, n ≤ L → okAt m h n b → b < w.heap.size → w'.heap[b]? = w.heap[b]? ∧ okAt m' h' n b
  sim : ∀ id x, h[id]? = some x → ∃ x', h'[id]? = some x' ∧ Sim m m' id x x'
theorem C_clamp {h' : List Blk} {L : Nat} (K : Keeps w w' m m' h h' L) : ∀ {c : LC} {v : Value}, C w m h c v → C w' m' h' (c.clamp L) v
  | .int _ _, _, hc | .bool _, _, hc | .str _, _, hc | .hdr _, _, hc | .nils, _, hc | .nilp, _, hc | .fn _, _, hc => hc
  | .undef, _, _ => trivial
  | .clo f ids, v, hc => C_clo (w' := w') K.sim hc
  | .sl e t xs n, v, hc => by
    simp only [LC.clamp]
    split
    · rename_i hn
      obtain ⟨A, c, he, hl, hr⟩ := hc
      exact ⟨A, c, he, hl, Rd_step (fun b hb hlt => (K.ok n b hn hb hlt).1) (fun b hb hlt => (K.ok n b hn hb hlt).2) hr⟩
    · trivial
  | .tptr t x f n, v, hc => by
    simp only [LC.clamp]
    split
    · rename_i hn
      obtain ⟨a, cs, he, hk, hat, hb⟩ := hc
      have hlt : ∀ hl : 0 < cs.length, a.block < w.heap.size := fun hl => hat.block_lt hl
      have hp : 0 < cs.length := by rw [K_len hk]; exact Ty.sz_pos t
      exact ⟨a, cs, he, K_step (fun b hb hlt => (K.ok n b hn hb hlt).1) (fun b hb hlt => (K.ok n b hn hb hlt).2) hk, hat.move (K.ok n _ hn hb (hlt hp)).1, (K.ok n _ hn hb (hlt hp)).2⟩
    · trivial
  | .own id, v, hc => by
    simp only [LC.clamp, C] at hc ⊢
    cases hx : h[id]? with
    | none => rw [hx] at hc; exact hc.elim
    | some x =>
      obtain ⟨x', hx', hs⟩ := K.sim id x hx
      rw [hx] at hc
      rw [hx']
      cases x <;> cases x' <;> simp_all [Sim]
  | .ptr id i f, v, hc => by
    simp only [LC.clamp, C] at hc ⊢
    cases hx : h[id]? with
    | none => rw [hx] at hc; exact hc.elim
    | some x =>
      obtain ⟨x', hx', hs⟩ := K.sim id x hx
      rw [hx] at hc
      rw [hx']
      cases x <;> cases x' <;> simp_all [Sim]
      all_goals try (obtain ⟨g, hg, rfl⟩ := hc; rfl)
theorem F2_clamp {h' : List Blk} {L : Nat} (K : Keeps w w' m m' h h' L) {cs : List LC} {us : List Value} (hf : F2 (C w m h) cs us) : F2 (C w' m' h') (cs.map (LC.clamp L)) us := by
  induction hf with
  | nil => exact .nil
  | cons h1 _ ih => exact .cons (C_clamp K h1) ih
theorem V_clamp {h' : List Blk} {L : Nat} (K : Keeps w w' m m' h h' L) : ∀ {l : LV} {v : Value}, V w m h l v → V w' m' h' (l.clamp L) v
  | .one c, v, hv => C_clamp K (c := c) hv
  | .agg cs, v, hv => by
    obtain ⟨vs, he, hf⟩ := hv
    refine ⟨vs, he, ?_⟩
    clear he
    generalize vs.toList = us at hf
    induction hf with
    | nil => exact .nil
    | cons h1 _ ih => exact .cons (C_clamp K h1) ih
  | .tup _, _, _ => trivial

theorem env_clamp {h' : List Blk} {L : Nat} (K : Keeps w w' m m' h h' L) {env : List LV} {vs : List Value} (hf : F2 (V w m h) env vs) : F2 (V w' m' h') (env.map (LV.clamp L)) vs := by
  induction hf with
  | nil => exact .nil
  | cons h1 _ ih => exact .cons (V_clamp K h1) ih

end

section
variable {w0 w w' : World} {mine : Mine} {m m' : Mp} {h : List Blk} {st : St} {a : Act}

theorem HR.opn (H : HR w0 mine w m h) {id e : Nat} {t : Ty} {xs : List (Val t)} {mt : Bool} {n : Nat} (hx : h[id]? = some (.row e t xs true mt n)) :
    ∃ (hs : List (Val (hd t))) (F : List Nat) (m' : Mp), Good t hs xs ∧ HR w0 mine w m' ((h.map (Blk.clamp n)).set id (.row e (hd t) hs true mt 0) ++ [.nst F t hs xs]) ∧ Keeps w w m m' h ((h.map (Blk.clamp n)).set id (.row e (hd t) hs true mt 0) ++ [.nst F t hs xs]) n := by
  obtain ⟨inner, ho, hms, hn⟩ := H.br id _ hx
  obtain ⟨hs, m1, n1, e1⟩ := flattens hms
  have g := good_of n1 e1
  have hil : id < h.length := (List.getElem?_eq_some_iff.1 hx).1
  refine ⟨hs, m.nst id, { m with nst := fun i => if i = id then [] else m.nst i }, g, ?_⟩
  have hnd := H.nd id _ hx
  simp only [fpB] at hnd
  have hnd' := List.nodup_append.1 hnd
  have get : ∀ i y, ((h.map (Blk.clamp n)).set id (.row e (hd t) hs true mt 0) ++ [.nst (m.nst id) t hs xs])[i]? = some y → (i = id ∧ y = .row e (hd t) hs true mt 0) ∨ (i = h.length ∧ y = .nst (m.nst id) t hs xs) ∨ (i ≠ id ∧ i ≠ h.length ∧ ∃ x, h[i]? = some x ∧ y = x.clamp n) := fun i y hy => by
    by_cases hl : i < h.length
    · rw [List.getElem?_append_left (by simpa using hl)] at hy
      rw [List.getElem?_set] at hy
      split at hy
      · rename_i e'; subst e'; simp [hl] at hy; exact .inl ⟨rfl, hy.symm⟩
      · rename_i e'
        rw [List.getElem?_map] at hy
        cases hx' : h[i]? with
        | none => rw [hx'] at hy; simp at hy
        | some x => rw [hx'] at hy; simp at hy; exact .inr (.inr ⟨fun q => e' q.symm, by omega, x, rfl, hy.symm⟩)
    · rw [List.getElem?_append_right (by simp; omega)] at hy
      have hlen : i - ((h.map (Blk.clamp n)).set id (.row e (hd t) hs true mt 0)).length = i - h.length := by simp
      rw [hlen] at hy
      have : i - h.length = 0 := by
        rcases Nat.eq_zero_or_pos (i - h.length) with h0 | h0
        · exact h0
        · rw [List.getElem?_eq_none (by simp; omega)] at hy; simp at hy
      rw [this] at hy
      simp at hy
      exact .inr (.inl ⟨by omega, hy.symm⟩)
  have nout : ∀ i, i ≠ id → (if i = id then [] else m.nst i) = m.nst i := fun i hi => by simp [hi]
  have fpout : ∀ i x, i ≠ id → ∀ b, b ∈ fpB { m with nst := fun i => if i = id then [] else m.nst i } i (x.clamp n) → b ∈ fpB m i x := fun i x hi b hb => by
    cases x with
    | dead => exact hb
    | box cs => exact hb
    | nst F t hs vs => exact hb
    | row e t xs dp mt k =>
      cases dp with
      | true =>
        have hb : b ∈ (m.val i).ownBlock.toList ++ (if i = id then [] else m.nst i) := hb
        rw [nout i hi] at hb; exact hb
      | false =>
        simp only [Blk.clamp] at hb
        split at hb
        · exact hb
        · simp [fpB] at hb
  have K : Keeps w w m { m with nst := fun i => if i = id then [] else m.nst i } h ((h.map (Blk.clamp n)).set id (.row e (hd t) hs true mt 0) ++ [.nst (m.nst id) t hs xs]) n := by
    refine ⟨fun n' b hle hb hl => ⟨rfl, hb.1, fun i y hy => ?_⟩, fun i x hx' => ?_⟩
    · rcases get i y hy with ⟨rfl, rfl⟩ | ⟨rfl, rfl⟩ | ⟨hi, _, x, hx', rfl⟩
      · exact ⟨(hb.2 _ _ hx).1, fun _ _ => by simp⟩
      · exact (hb.2 _ _ hx).2 rfl hle
      · have := hb.2 i x hx'
        cases x with
        | dead => trivial
        | box cs => exact this
        | nst F t hs vs => exact this
        | row e t xs dp mt k =>
          cases dp with
          | true =>
            refine ⟨this.1, fun h1 h2 => ?_⟩
            show b ∉ (if i = id then [] else m.nst i)
            rw [nout i hi]; exact this.2 h1 h2
          | false =>
            simp only [Blk.clamp]
            split
            · exact ⟨this.1, fun h => by simp at h⟩
            · trivial
    · have hil' : i < h.length := (List.getElem?_eq_some_iff.1 hx').1
      by_cases hi : i = id
      · subst hi
        rw [hx] at hx'; cases hx'
        exact ⟨.row e (hd t) hs true mt 0, by rw [List.getElem?_append_left (by simpa using hil'), List.getElem?_set_self (by simpa using hil')], hd_sz t, rfl⟩
      · refine ⟨x.clamp n, by rw [List.getElem?_append_left (by simpa using hil'), List.getElem?_set_ne (fun q => hi q.symm), List.getElem?_map, hx']; rfl, ?_⟩
        have hb := H.br i x hx'
        cases x with
        | dead => trivial
        | box cs => rfl
        | nst F t hs vs => trivial
        | row e t xs dp mt k =>
          cases dp with
          | true => exact ⟨rfl, rfl⟩
          | false =>
            simp only [Blk.clamp]
            split
            · exact ⟨rfl, rfl⟩
            · exact BR.rowOne hb
  refine ⟨⟨fun i y hy => ?_, fun i y hy => ?_, fun i y i' y' hne hy hy' b hb hb' => ?_, fun i y hy b hb => ?_, H.fr, H.mx, H.nx, fun i v hp => ?_⟩, K⟩
  · rcases get i y hy with ⟨rfl, rfl⟩ | ⟨rfl, rfl⟩ | ⟨hi, _, x, hx', rfl⟩
    · refine ⟨inner, by rw [hd_sz, g.1]; exact ho, ?_, Nat.zero_le _⟩
      simpa using m1
    · exact n1
    · have hb := H.br i x hx'
      cases x with
      | dead => trivial
      | box cs =>
        obtain ⟨arr, ty, h1, h2, h3⟩ := hb
        exact ⟨arr, ty, h1, F2_clamp K h2, h3⟩
      | nst F t hs vs => exact hb
      | row e t xs dp mt k =>
        obtain ⟨inner, h1, h2⟩ := hb
        cases dp with
        | true =>
          refine ⟨inner, h1, ?_, h2.2⟩
          show Ms (M w t) xs inner (if i = id then [] else m.nst i)
          rw [nout i hi]; exact h2.1
        | false =>
          simp only [Blk.clamp]
          split
          · rename_i hle
            exact ⟨inner, h1, h2.imp fun x c hk => K_step (fun b hb hlt => (K.ok k b hle hb hlt).1) (fun b hb hlt => (K.ok k b hle hb hlt).2) hk⟩
          · trivial
  · rcases get i y hy with ⟨rfl, rfl⟩ | ⟨rfl, rfl⟩ | ⟨hi, _, x, hx', rfl⟩
    · show ((m.val i).ownBlock.toList ++ (if i = i then [] else m.nst i)).Nodup
      simpa using hnd'.1
    · exact hnd'.2.1
    · have := H.nd i x hx'
      cases x with
      | dead => exact this
      | box cs => exact this
      | nst F t hs vs => exact this
      | row e t xs dp mt k =>
        cases dp with
        | true =>
          show ((m.val i).ownBlock.toList ++ (if i = id then [] else m.nst i)).Nodup
          rw [nout i hi]; exact this
        | false =>
          simp only [Blk.clamp]
          split
          · exact this
          · exact List.nodup_nil
  · have own : ∀ b, b ∈ fpB { m with nst := fun i => if i = id then [] else m.nst i } id (.row e (hd t) hs true mt 0) → b ∈ (m.val id).ownBlock.toList := fun b hb => by
      have hb : b ∈ (m.val id).ownBlock.toList ++ (if id = id then [] else m.nst id) := hb
      simpa using hb
    have old : ∀ b, b ∈ (m.val id).ownBlock.toList ∨ b ∈ m.nst id → b ∈ fpB m id (.row e t xs true mt n) := fun b hb => List.mem_append.2 hb
    rcases get i y hy with ⟨rfl, rfl⟩ | ⟨rfl, rfl⟩ | ⟨hi, hi2, x, hx', rfl⟩
    · rcases get i' y' hy' with ⟨rfl, rfl⟩ | ⟨rfl, rfl⟩ | ⟨hi', _, x', hx'', rfl⟩
      · exact hne rfl
      · exact hnd'.2.2 b (own b hb) b hb' rfl
      · exact H.dj i _ i' x' hne hx hx'' b (old b (.inl (own b hb))) (fpout i' x' hi' b hb')
    · rcases get i' y' hy' with ⟨rfl, rfl⟩ | ⟨rfl, rfl⟩ | ⟨hi', _, x', hx'', rfl⟩
      · exact hnd'.2.2 b (own b hb') b hb rfl
      · exact hne rfl
      · exact H.dj id _ i' x' (fun q => hi' q.symm) hx hx'' b (old b (.inr hb)) (fpout i' x' hi' b hb')
    · rcases get i' y' hy' with ⟨rfl, rfl⟩ | ⟨rfl, rfl⟩ | ⟨hi', _, x', hx'', rfl⟩
      · exact H.dj i x i' _ hne hx' hx b (fpout i x hi b hb) (old b (.inl (own b hb')))
      · exact H.dj i x id _ hi hx' hx b (fpout i x hi b hb) (old b (.inr hb'))
      · exact H.dj i x i' x' hne hx' hx'' b (fpout i x hi b hb) (fpout i' x' hi' b hb')
  · rcases get i y hy with ⟨rfl, rfl⟩ | ⟨rfl, rfl⟩ | ⟨hi, _, x, hx', rfl⟩
    · have hb : b ∈ (m.val i).ownBlock.toList ++ (if i = i then [] else m.nst i) := hb
      exact H.lt i _ hx b (List.mem_append_left _ (by simpa using hb))
    · exact H.lt id _ hx b (List.mem_append_right _ hb)
    · exact H.lt i x hx' b (fpout i x hi b hb)
  · obtain ⟨h1, h2⟩ := H.pn i v hp
    exact ⟨by simp; omega, h2⟩

theorem pick_mem {Bs : List (List Nat)} {is : List Nat} {b : Nat} (h : b ∈ (is.map fun i => Bs.getD i []).flatten) : ∃ i ∈ is, b ∈ Bs.getD i [] := by
  obtain ⟨l, hl, hb⟩ := List.mem_flatten.1 h
  obtain ⟨i, hi, rfl⟩ := List.mem_map.1 hl
  exact ⟨i, hi, hb⟩
theorem getD_sub {Bs : List (List Nat)} {i b : Nat} (h : b ∈ Bs.getD i []) : b ∈ Bs.flatten := by
  simp only [List.getD] at h
  cases hB : Bs[i]? with
  | none => rw [hB] at h; simp at h
  | some l => rw [hB] at h; exact List.mem_flatten.2 ⟨l, List.mem_of_getElem? hB, h⟩
theorem flatten_disj : ∀ {Bs : List (List Nat)} {i j b : Nat}, Bs.flatten.Nodup → i ≠ j → b ∈ Bs.getD i [] → b ∉ Bs.getD j []
  | [], _, _, _, _, _, h => by simp at h
  | B :: Bs, i, j, b, hn, hne, hi => by
    rw [List.flatten_cons, List.nodup_append] at hn
    cases i with
    | zero =>
      cases j with
      | zero => exact absurd rfl hne
      | succ j => exact fun hj => hn.2.2 b (by simpa using hi) b (getD_sub (by simpa using hj)) rfl
    | succ i =>
      cases j with
      | zero => exact fun hj => hn.2.2 b (by simpa using hj) b (getD_sub (by simpa using hi)) rfl
      | succ j => simpa using flatten_disj (i := i) (j := j) hn.2.1 (fun q => hne (by omega)) (by simpa using hi)
theorem getD_nodup : ∀ {Bs : List (List Nat)} {i : Nat}, Bs.flatten.Nodup → (Bs.getD i []).Nodup
  | [], _, _ => by simp
  | B :: Bs, i, hn => by
    rw [List.flatten_cons, List.nodup_append] at hn
    cases i with
    | zero => simpa using hn.1
    | succ i => simpa using getD_nodup (i := i) hn.2.1
theorem pick_nodup {Bs : List (List Nat)} (hB : Bs.flatten.Nodup) : ∀ {is : List Nat}, is.Nodup → (is.map fun i => Bs.getD i []).flatten.Nodup
  | [], _ => by simp
  | i :: is, hn => by
    obtain ⟨h1, h2⟩ := List.nodup_cons.1 hn
    rw [List.map_cons, List.flatten_cons, List.nodup_append]
    refine ⟨getD_nodup hB, pick_nodup hB h2, fun b hb c hc e => ?_⟩
    subst e
    obtain ⟨j, hj, hbj⟩ := pick_mem hc
    exact flatten_disj hB (fun (q : i = j) => h1 (by rw [q]; exact hj)) hb hbj
theorem pick_Ms {t : Ty} {vs : List (Val t)} {hs : List (Val (hd t))} {Bs : List (List Nat)} (hp : ∀ i v u, vs[i]? = some v → hs[i]? = some u → Nst w t v u (Bs.getD i [])) (hl : hs.length = vs.length) (hm : mixL t vs hs = hs) :
    ∀ {is : List Nat} {cs : List Value}, (∀ i ∈ is, i < vs.length) → Ms (M w (hd t)) (is.map fun i => hs.getD i (dflt (hd t))) cs [] → Ms (M w t) (is.map fun i => vs.getD i (dflt t)) cs (is.map fun i => Bs.getD i []).flatten
  | [], _, _, h => ⟨h.1, rfl⟩
  | i :: is, _, hb, h => by
    obtain ⟨c1, c2, B1, B2, rfl, hB, h1, h2⟩ := h
    have e1 : B1 = [] := hd_flat h1
    have e2 : B2 = [] := hd_flats h2
    subst e1; subst e2
    have hi : i < vs.length := hb i (by simp)
    have v1 : vs[i]? = some (vs.getD i (dflt t)) := by simp [List.getD, hi]
    have u1 : hs[i]? = some (hs.getD i (dflt (hd t))) := by simp [List.getD, hl, hi]
    refine ⟨c1, c2, _, _, rfl, rfl, unflatten (h := hs.getD i (dflt (hd t))) ?_ (hp i _ _ v1 u1), pick_Ms hp hl hm (fun j hj => hb j (by simp [hj])) h2⟩
    rw [mixL_nm hm v1 u1]; exact h1

theorem HR.cls (H : HR w0 mine w m h) {id j e : Nat} {t : Ty} {is : List Nat} {hs : List (Val (hd t))} {vs : List (Val t)} {F : List Nat} {mt : Bool} {n : Nat} (hx : h[id]? = some (.row e (hd t) (is.map fun i => hs.getD i (dflt (hd t))) true mt n)) (hj : h[j]? = some (.nst F t hs vs))
    (hnd : is.Nodup) (hb : ∀ i ∈ is, i < vs.length) (hm : mixL t vs hs = hs) (hl : hs.length = vs.length) :
    ∃ m', HR w0 mine w m' ((h.set j .dead).set id (.row e t (is.map fun i => vs.getD i (dflt t)) true mt 0)) ∧ Oks w w m m' h ((h.set j .dead).set id (.row e t (is.map fun i => vs.getD i (dflt t)) true mt 0)) ∧ Sims m m' h ((h.set j .dead).set id (.row e t (is.map fun i => vs.getD i (dflt t)) true mt 0)) := by
  obtain ⟨inner, ho, hms, hn⟩ := H.br id _ hx
  have hN : Nsts w t vs hs F := H.br j _ hj
  obtain ⟨Bs, hF, _, hp⟩ := Nsts_parts hN
  have hFn : Bs.flatten.Nodup := by have := H.nd j _ hj; rw [show fpB m j (.nst F t hs vs) = F from rfl, hF] at this; exact this
  have hnil : m.nst id = [] := hd_flats hms
  rw [hnil] at hms
  have hil : id < h.length := (List.getElem?_eq_some_iff.1 hx).1
  have hjl : j < h.length := (List.getElem?_eq_some_iff.1 hj).1
  have hij : id ≠ j := fun q => by subst q; rw [hx] at hj; simp at hj
  have hsub : ∀ b ∈ (is.map fun i => Bs.getD i []).flatten, b ∈ F := fun b hb' => by
    obtain ⟨i, _, hbi⟩ := pick_mem hb'
    rw [hF]; exact getD_sub hbi
  refine ⟨{ m with nst := fun i => if i = id then (is.map fun i => Bs.getD i []).flatten else m.nst i }, ?_⟩
  have get : ∀ i y, ((h.set j .dead).set id (.row e t (is.map fun i => vs.getD i (dflt t)) true mt 0))[i]? = some y → (i = id ∧ y = .row e t (is.map fun i => vs.getD i (dflt t)) true mt 0) ∨ (i = j ∧ y = .dead) ∨ (i ≠ id ∧ i ≠ j ∧ h[i]? = some y) := fun i y hy => by
    rw [List.getElem?_set] at hy
    split at hy
    · rename_i q; subst q; simp [hil] at hy; exact .inl ⟨rfl, hy.symm⟩
    · rename_i q
      rw [List.getElem?_set] at hy
      split at hy
      · rename_i q2; subst q2; simp [hjl] at hy; exact .inr (.inl ⟨rfl, hy.symm⟩)
      · rename_i q2; exact .inr (.inr ⟨fun z => q z.symm, fun z => q2 z.symm, hy⟩)
  have nout : ∀ i, i ≠ id → (if i = id then (is.map fun i => Bs.getD i []).flatten else m.nst i) = m.nst i := fun i hi => by simp [hi]
  have fpout : ∀ i x, i ≠ id → fpB { m with nst := fun i => if i = id then (is.map fun i => Bs.getD i []).flatten else m.nst i } i x = fpB m i x := fun i x hi => by
    cases x <;> simp [fpB, hi]
  have okout : ∀ n b i x, i ≠ id → (okB { m with nst := fun i => if i = id then (is.map fun i => Bs.getD i []).flatten else m.nst i } n b i x ↔ okB m n b i x) := fun n b i x hi => by
    cases x <;> simp [okB, hi]
  have hok : Oks w w m { m with nst := fun i => if i = id then (is.map fun i => Bs.getD i []).flatten else m.nst i } h ((h.set j .dead).set id (.row e t (is.map fun i => vs.getD i (dflt t)) true mt 0)) := fun n' b hb' _ => ⟨rfl, hb'.1, fun i y hy => by
    rcases get i y hy with ⟨rfl, rfl⟩ | ⟨rfl, rfl⟩ | ⟨hi, _, hx'⟩
    · refine ⟨(hb'.2 _ _ hx).1, fun _ _ => ?_⟩
      show b ∉ (if i = i then (is.map fun i => Bs.getD i []).flatten else m.nst i)
      simp only [if_true]
      exact fun hm' => (hb'.2 j _ hj) (hsub b hm')
    · trivial
    · exact (okout n' b i y hi).2 (hb'.2 i y hx')⟩
  have hsm : Sims m { m with nst := fun i => if i = id then (is.map fun i => Bs.getD i []).flatten else m.nst i } h ((h.set j .dead).set id (.row e t (is.map fun i => vs.getD i (dflt t)) true mt 0)) := fun i x hx' => by
    have hil' : i < h.length := (List.getElem?_eq_some_iff.1 hx').1
    by_cases h1 : i = id
    · subst h1
      rw [hx] at hx'; cases hx'
      exact ⟨_, List.getElem?_set_self (by simpa using hil'), (hd_sz t).symm, rfl⟩
    · by_cases h2 : i = j
      · subst h2
        rw [hj] at hx'; cases hx'
        exact ⟨.dead, by rw [List.getElem?_set_ne (fun q => h1 q.symm), List.getElem?_set_self hil'], trivial⟩
      · refine ⟨x, by rw [List.getElem?_set_ne (fun q => h1 q.symm), List.getElem?_set_ne (fun q => h2 q.symm)]; exact hx', ?_⟩
        cases x <;> simp [Sim]
  have own : ∀ b, b ∈ fpB { m with nst := fun i => if i = id then (is.map fun i => Bs.getD i []).flatten else m.nst i } id (.row e t (is.map fun i => vs.getD i (dflt t)) true mt 0) → b ∈ (m.val id).ownBlock.toList ∨ b ∈ (is.map fun i => Bs.getD i []).flatten := fun b hb' => by
    have hb' : b ∈ (m.val id).ownBlock.toList ++ (if id = id then (is.map fun i => Bs.getD i []).flatten else m.nst id) := hb'
    rw [if_pos rfl] at hb'
    exact List.mem_append.1 hb'
  have oldo : ∀ b, b ∈ (m.val id).ownBlock.toList → b ∈ fpB m id (.row e (hd t) (is.map fun i => hs.getD i (dflt (hd t))) true mt n) := fun b hb' => List.mem_append_left _ hb'
  refine ⟨⟨fun i y hy => ?_, fun i y hy => ?_, fun i y i' y' hne hy hy' b hb1 hb2 => ?_, fun i y hy b hb1 => ?_, H.fr, H.mx, H.nx, fun i v hpv => ?_⟩, hok, hsm⟩
  · rcases get i y hy with ⟨rfl, rfl⟩ | ⟨rfl, rfl⟩ | ⟨hi, _, hx'⟩
    · refine ⟨inner, ?_, ?_, Nat.zero_le _⟩
      · rw [hd_sz] at ho
        simpa using ho
      · show Ms (M w t) _ inner (if i = i then (is.map fun i => Bs.getD i []).flatten else m.nst i)
        rw [if_pos rfl]
        exact pick_Ms hp hl hm hb hms
    · trivial
    · exact BR_mono hok hsm rfl rfl (nout i hi) (fun _ _ => rfl) (H.br i y hx')
  · rcases get i y hy with ⟨rfl, rfl⟩ | ⟨rfl, rfl⟩ | ⟨hi, _, hx'⟩
    · show ((m.val i).ownBlock.toList ++ (if i = i then (is.map fun i => Bs.getD i []).flatten else m.nst i)).Nodup
      rw [if_pos rfl, List.nodup_append]
      have hn1 := H.nd i _ hx
      simp only [fpB] at hn1
      refine ⟨(List.nodup_append.1 hn1).1, pick_nodup hFn hnd, fun b h1 c h2 q => ?_⟩
      subst q
      exact H.dj i _ j _ hij hx hj b (oldo b h1) (hsub b h2)
    · exact List.nodup_nil
    · rw [fpout i y hi]; exact H.nd i y hx'
  · rcases get i y hy with ⟨rfl, rfl⟩ | ⟨rfl, rfl⟩ | ⟨hi, hi2, hx'⟩
    · rcases get i' y' hy' with ⟨rfl, rfl⟩ | ⟨rfl, rfl⟩ | ⟨hi', hi2', hx''⟩
      · exact hne rfl
      · simp [fpB] at hb2
      · rw [fpout i' y' hi'] at hb2
        rcases own b hb1 with h1 | h1
        · exact H.dj i _ i' y' hne hx hx'' b (oldo b h1) hb2
        · exact H.dj j _ i' y' (fun q => hi2' q.symm) hj hx'' b (hsub b h1) hb2
    · simp [fpB] at hb1
    · rw [fpout i y hi] at hb1
      rcases get i' y' hy' with ⟨rfl, rfl⟩ | ⟨rfl, rfl⟩ | ⟨hi', hi2', hx''⟩
      · rcases own b hb2 with h1 | h1
        · exact H.dj i y i' _ hne hx' hx b hb1 (oldo b h1)
        · exact H.dj i y j _ hi2 hx' hj b hb1 (hsub b h1)
      · simp [fpB] at hb2
      · rw [fpout i' y' hi'] at hb2
        exact H.dj i y i' y' hne hx' hx'' b hb1 hb2
  · rcases get i y hy with ⟨rfl, rfl⟩ | ⟨rfl, rfl⟩ | ⟨hi, _, hx'⟩
    · rcases own b hb1 with h1 | h1
      · exact H.lt i _ hx b (oldo b h1)
      · exact H.lt j _ hj b (hsub b h1)
    · simp [fpB] at hb1
    · rw [fpout i y hi] at hb1
      exact H.lt i y hx' b hb1
  · obtain ⟨h1, h2⟩ := H.pn i v hpv
    exact ⟨by simpa using h1, h2⟩
end

section
variable {ρ : Type}
open Classical in
noncomputable def chk (p : Prop) (k : Option ρ) : Option ρ := if p then k else none
theorem chk_some {p : Prop} {k : Option ρ} {r : ρ} : chk p k = some r ↔ p ∧ k = some r := by
  unfold chk; split <;> simp [*]
theorem chk_pos {p : Prop} {k : Option ρ} (h : p) : chk p k = k := by simp [chk, h]
theorem chk_comm {p q : Prop} {k : Option ρ} : chk p (chk q k) = chk q (chk p k) := by
  unfold chk; split <;> split <;> simp_all
theorem chk_congr {p : Prop} {k k' : Option ρ} (h : p → k = k') : chk p k = chk p k' := by
  unfold chk; split
  · rename_i hp; exact h hp
  · rfl
open Classical in
noncomputable def allG {ι : Type} (good : ι → Prop) (F : ι → Option ρ) : Option ρ := if h : ∃ r, (∃ i, good i) ∧ ∀ i, good i → F i = some r then some (Classical.choose h) else none
theorem allG_some {ι : Type} {good : ι → Prop} {F : ι → Option ρ} {r : ρ} (h : allG good F = some r) : ∀ i, good i → F i = some r := by
  unfold allG at h
  split at h
  · rename_i hx
    have := Classical.choose_spec hx
    simp only [Option.some.injEq] at h
    intro i hi
    rw [this.2 i hi, h]
  · simp at h
theorem allG_eq {ι : Type} {good : ι → Prop} {F : ι → Option ρ} {r : ρ} (hx : ∃ i, good i) (h : ∀ i, good i → F i = some r) : allG good F = some r := by
  unfold allG
  rw [dif_pos ⟨r, hx, h⟩]
  have := Classical.choose_spec (⟨r, hx, h⟩ : ∃ r, (∃ i, good i) ∧ ∀ i, good i → F i = some r)
  obtain ⟨i, hi⟩ := hx
  rw [← this.2 i hi, h i hi]
theorem allG_congr {ι : Type} {good : ι → Prop} {F F' : ι → Option ρ} (h : ∀ i, good i → F i = F' i) : allG good F = allG good F' := by
  have e : (∃ r, (∃ i, good i) ∧ ∀ i, good i → F i = some r) ↔ (∃ r, (∃ i, good i) ∧ ∀ i, good i → F' i = some r) := by
    constructor
    · rintro ⟨r, hx, hr⟩; exact ⟨r, hx, fun i hi => by rw [← h i hi]; exact hr i hi⟩
    · rintro ⟨r, hx, hr⟩; exact ⟨r, hx, fun i hi => by rw [h i hi]; exact hr i hi⟩
  by_cases hx : ∃ r, (∃ i, good i) ∧ ∀ i, good i → F i = some r
  · obtain ⟨r, h1, h2⟩ := hx
    rw [allG_eq h1 h2, allG_eq h1 fun i hi => by rw [← h i hi]; exact h2 i hi]
  · have hx' := fun q => hx (e.2 q)
    unfold allG
    rw [dif_neg hx, dif_neg hx']

noncomputable def preR (o : Option Pre) (st : St) (k : St → Option ρ) : Option ρ := match o with
  | none => k st
  | some (.opn id t) => match st.heap[id]? with
    | some (.row e t' xs true mt n) => if hh : t' = t then allG (fun p : List Nat × List (Val (hd t)) => Good t p.2 (hh ▸ xs)) (fun p => k (opnSt st id e t mt n p.1 p.2 (hh ▸ xs))) else none
    | _ => none
  | some (.cls id j t sel) => match st.heap[id]?, st.heap[j]? with
    | some (.row e t1 ys true mt _), some (.nst _ t2 hs vs) => if hh : t1 = hd t ∧ t2 = t then
        chk ((hh.1 ▸ ys : List (Val (hd t))) = (sel (hh.2 ▸ vs)).map (fun i => (hh.2 ▸ hs : List (Val (hd t))).getD i (dflt (hd t))) ∧ (sel (hh.2 ▸ vs)).Nodup ∧ (∀ i ∈ sel (hh.2 ▸ vs), i < (hh.2 ▸ vs : List (Val t)).length) ∧ mixL t (hh.2 ▸ vs) (hh.2 ▸ hs) = (hh.2 ▸ hs : List (Val (hd t))) ∧ (hh.2 ▸ hs : List (Val (hd t))).length = (hh.2 ▸ vs : List (Val t)).length)
          (k ⟨st.env, (st.heap.set j .dead).set id (.row e t ((sel (hh.2 ▸ vs)).map (fun i => (hh.2 ▸ vs : List (Val t)).getD i (dflt t))) true mt 0)⟩)
      else none
    | _, _ => none
theorem preR_sound {o : Option Pre} {k : St → Option ρ} {w0 w : World} {mine : Mine} {st : St} {a : Act} {r : ρ} (h : preR o st k = some r) (hr : R w0 mine st a w) : ∃ st', R w0 mine st' a w ∧ k st' = some r := by
  unfold preR at h
  split at h
  · exact ⟨st, hr, h⟩
  · split at h
    · rename_i id t e t' xs mt n hx
      split at h
      · rename_i hh
        subst hh
        obtain ⟨hd', m, H, he⟩ := hr
        obtain ⟨hs, F, m', g, H', K⟩ := H.opn hx
        exact ⟨_, ⟨hd', m', H', env_clamp K he⟩, allG_some h (F, hs) g⟩
      · simp at h
    · simp at h
  · rename_i id j t sel
    split at h
    · rename_i e t1 ys mt n F t2 hs vs hx hj
      split at h
      · rename_i hh
        obtain ⟨rfl, rfl⟩ := hh
        obtain ⟨⟨hys, hnd, hb, hm, hl⟩, hk⟩ := chk_some.1 h
        obtain ⟨hd', m, H, he⟩ := hr
        have hys : ys = (sel vs).map fun i => hs.getD i (dflt (hd t2)) := hys
        subst hys
        obtain ⟨m', H', hok, hsm⟩ := H.cls hx hj hnd hb hm hl
        exact ⟨⟨st.env, (st.heap.set j .dead).set id (.row e t2 ((sel vs).map fun i => vs.getD i (dflt t2)) true mt 0)⟩, ⟨hd', m', H', env_mono hok hsm he⟩, hk⟩
      · simp at h
    · simp at h
end
end Go.T
/- T: code run to what it returns. -/
namespace Go.T
open Go

variable {ρ : Type}

abbrev Sem := Oper → St → Res
def noSem : Sem := fun _ _ => none
noncomputable def semR (S : Sem) (o : Oper) (st : St) (k : St → Option ρ) : Option ρ := match S o st with
  | some (p, st') => chk p (k st')
  | none => none
noncomputable def opR (S : Sem) (tt : TT) (Γ : Gam) (o : Oper) (st : St) (k : St → Option ρ) : Option ρ := match stepAll tt Γ o st with
  | some (p, st') => chk p (k st')
  | none => semR S o st k
def guardR (ops : Array Oper) (o : Oper) (st : St) (yes no : St → Option ρ) : Option ρ := match o.guard with
  | none => yes st
  | some (j, want) => match (ops[j]?).bind (·.dst) with
    | none => no st
    | some t => match st.env[t]? with
      | some (.one (.bool b)) => bif (b == want) then yes (st.lit t want) else no (st.lit t (!want))
      | some (.tup _) => no st
      | none => no st
      | _ => none
noncomputable def regionR (S : Sem) (tt : TT) (Γ : Gam) (ops : Array Oper) : List Oper → St → (St → Option ρ) → Option ρ
  | [], st, k => k st
  | o :: os, st, k => guardR ops o st (fun st => opR S tt Γ o st fun st => regionR S tt Γ ops os st k) (fun st => regionR S tt Γ ops os (st.put o.dst (.tup [])) k)
noncomputable def stepR (tt : TT) (Γ : Gam) (ops : Array Oper) (i : Nat) (st : St) (k : St → Option ρ) : Option ρ := match ops[i]? with
  | none => none
  | some o => guardR ops o st (fun st => opR noSem tt Γ o st k) (fun st => k (st.put o.dst (.tup [])))
def Tree.isStop : Tree → Bool
  | .stop => true
  | _ => false
open Classical in
noncomputable def meet (a b : Option ρ) : Option ρ := if a = b then a else none
theorem meet_self {a : Option ρ} : meet a a = a := by simp [meet]
theorem meet_some {a b : Option ρ} {r : ρ} (h : meet a b = some r) : a = some r ∧ b = some r := by
  unfold meet at h
  split at h
  · rename_i e; exact ⟨h, e ▸ h⟩
  · simp at h
noncomputable def treeR (tt : TT) (Γ : Gam) (ops : Array Oper) : Tree → St → (St → Option ρ) → Option ρ
  | .done, st, k => k st
  | .first i t, st, k => chk (rdFree ops i st) (stepR tt Γ ops i st fun st => treeR tt Γ ops t st k)
  | .pure i t, st, k => chk (rdPure ops i st) (stepR tt Γ ops i st fun st => treeR tt Γ ops t st k)
  | .keep i t, st, k => chk (rdBox ops i st) (stepR tt Γ ops i st fun st => treeR tt Γ ops t st k)
  | .quiet i t, st, k => stepR tt Γ ops i st fun st => treeR tt Γ ops t st k
  | .grow i t, st, k => chk (rdLt ops i st) (stepR tt Γ ops i st fun st => treeR tt Γ ops t st k)
  | .alt i t r, st, k => bif r.isStop then stepR tt Γ ops i st (fun st => treeR tt Γ ops t st k) else meet (stepR tt Γ ops i st (fun st => treeR tt Γ ops t st k)) (treeR tt Γ ops r st k)
  | _, _, _ => none

def seqR (k : St → Option ρ) (Q : X → St → Option ρ) : X → St → Option ρ
  | .normal, st => k st
  | .ret, st => Q .ret st
  | .exit id, st => Q (.exit id) st
def blockR (id : Nat) (Q : X → St → Option ρ) : X → St → Option ρ
  | .normal, st => Q .normal st
  | .ret, st => Q .ret st
  | .exit id', st => bif id' == id then Q .normal st else Q (.exit id') st
def condR (c : Operand) (st : St) (x y : St → Option ρ) : Option ρ := match st.ev c with
  | .one (.bool b) => bif b then x (st.litO c true) else y (st.litO c false)
  | _ => none
def St.nrm (pins : Bool) (nm : Nm) (st : St) : St := bif pins then st.forget nm.keep else st.norm nm
def loopR (F : (X → St → Option ρ) → St → Option ρ) (pins : Bool) (nm : Nm) (Q : X → St → Option ρ) : Nat → St → Option ρ
  | 0, _ => none
  | n + 1, st => F (seqR (fun st' => loopR F pins nm Q n (st'.nrm pins nm)) Q) st

def rid : Code → Nat
  | .region id _ _ => id
  | .seq a _ => rid a
  | .cond _ a _ => rid a
  | .block _ a => rid a
  | .loop a => rid a
  | _ => 0
inductive Jn
  | nm (n : Nm)
  | at (p : Option Pre) (tb : Option TT)
  | nt (n : Nm) (tb : TT)
def Jn.tb : Jn → Option TT
  | .nm _ => none
  | .at _ tb => tb
  | .nt _ tb => some tb
structure Tab where
  tr : Nat → Tree
  lp : Nat → Nm
  ex : Nat → Option Nm
  rg : Nat → Option Nm
  fuel : Nat
  pins : Bool := false
  sem : Sem := noSem
  jn : Nat → Option Jn := fun _ => none

def nxt (pins : Bool) (o : Option Nm) (k : St → Option ρ) : St → Option ρ := match o with
  | none => k
  | some nm => fun st => k (st.nrm pins nm)

noncomputable def joinR (tt : TT) (Γ : Gam) (T : Tab) : Code → (X → St → Option ρ) → St → Option ρ
  | .region id ops false, Q, st => regionR T.sem tt Γ ops ops.toList st (nxt T.pins (T.rg id) (Q .normal))
  | .region id ops true, Q, st => treeR tt Γ ops (T.tr id) st (nxt T.pins (T.rg id) (Q .normal))
  | _, _, _ => none
noncomputable def jnR (o : Option Jn) (tt : TT) (Γ : Gam) (T : Tab) (c : Code) (Q : X → St → Option ρ) (st : St) : Option ρ := match o with
  | none => joinR tt Γ T c Q st
  | some (.nm nm) => joinR tt Γ T c Q (st.nrm T.pins nm)
  | some (.at p tb) => preR p st fun st => joinR (tb.getD tt) Γ T c Q st
  | some (.nt nm tb) => joinR tb Γ T c Q (st.nrm T.pins nm)

noncomputable def runT (tt : TT) (Γ : Gam) (T : Tab) : Code → (X → St → Option ρ) → St → Option ρ
  | .skip, Q, st => Q .normal st
  | .region id ops d, Q, st => jnR (T.jn id) tt Γ T (.region id ops d) Q st
  | .seq a b, Q, st => runT tt Γ T a (seqR (runT tt Γ T b Q) Q) st
  | .cond c x y, Q, st => condR c st (runT tt Γ T x Q) (runT tt Γ T y Q)
  | .block id c, Q, st => runT tt Γ T c (blockR id Q) st
  | .loop c, Q, st => loopR (runT tt Γ T c) T.pins (T.lp (rid c)) Q T.fuel (st.nrm T.pins (T.lp (rid c)))
  | .exit id, Q, st => match T.ex id with
    | none => Q (.exit id) st
    | some nm => Q (.exit id) (st.nrm T.pins nm)
  | .ret, Q, st => Q .ret st
  | _, _, _ => none

section
variable {P : Program} {tt : TT} {Γ : Gam} {T : Tab} {w0 w : World} {mine : Mine} {r : ρ} {ops : Array Oper}

theorem guardR_W {o : Oper} {st : St} {yes no : St → Option ρ} {yes' no' : St → Prop} (hy : ∀ s, yes s = some r → yes' s) (hn : ∀ s, no s = some r → no' s) (h : guardR ops o st yes no = some r) : guardW ops o st yes' no' := by
  unfold guardR at h
  unfold guardW
  split
  · rename_i hg; simp only [hg] at h; exact hy _ h
  · rename_i j want hg
    simp only [hg] at h
    split
    · rename_i hb; simp only [hb] at h; exact hn _ h
    · rename_i t hb
      simp only [hb] at h
      split
      · rename_i b hs
        simp only [hs] at h
        cases hbw : (b == want) with
        | true =>
          rw [hbw] at h
          refine ⟨fun _ => hy _ h, fun e => ?_⟩
          subst e; cases want <;> simp at hbw
        | false =>
          rw [hbw] at h
          refine ⟨fun e => ?_, fun _ => hn _ h⟩
          subst e; simp at hbw
      · rename_i ls hs; simp only [hs] at h; exact hn _ h
      · rename_i hs; simp only [hs] at h; exact hn _ h
      · rename_i h1 h2 h3
        split at h
        · rename_i b hs; exact absurd hs (h1 b)
        · rename_i ls hs; exact absurd hs (h2 ls)
        · rename_i hs; exact absurd hs h3
        · simp at h

def SemOk (P : Program) (S : Sem) : Prop := ∀ (o : Oper) (st : St) (p : Prop) (st' : St), S o st = some (p, st') → p → ∀ (w0 : World) (mine : Mine) (a : Act) (w : World) (next : Act → World → Prop) (Q : Exit → Act → World → Prop), R w0 mine st a w → (∀ a' w', R w0 mine st' a' w' → next a' w') → o.wp P a w next Q
def SemAt (P : Program) (S : Sem) (w0 : World) (mine : Mine) : Prop := ∀ (o : Oper) (st : St) (p : Prop) (st' : St), S o st = some (p, st') → p → ∀ (a : Act) (w : World) (next : Act → World → Prop) (Q : Exit → Act → World → Prop), R w0 mine st a w → (∀ a' w', R w0 mine st' a' w' → next a' w') → o.wp P a w next Q
theorem SemOk.at {S : Sem} (h : SemOk P S) : SemAt P S w0 mine := fun o st p st' hs hp a w next Q hr hn => h o st p st' hs hp w0 mine a w next Q hr hn
theorem noSem_ok (P : Program) : SemOk P noSem := fun _ _ _ _ h => by simp [noSem] at h
theorem regionR_snd (hT : TTok P tt) (hΓ : ∀ f g, Γ.get f = some g → Sound P f g) {S : Sem} (hS : SemAt P S w0 mine) {k : St → Option ρ} {Q : Exit → Act → World → Prop} (hQ : ∀ a w st, R w0 mine st a w → k st = some r → Q .normal a w) :
    ∀ (os pre : List Oper), ops.toList = pre ++ os → ∀ (st : St) (a : Act) (w : World), regionR S tt Γ ops os st k = some r → R w0 mine st a w → wpOps P ops Q (List.range' pre.length os.length) a w
  | [], pre, _, st, a, w, h, hr => hQ a w st hr h
  | o :: os, pre, he, st, a, w, h, hr => by
    have hi : ops[pre.length]? = some o := by rw [← Array.getElem?_toList, he]; simp
    have hrest : ∀ st' a' w', regionR S tt Γ ops os st' k = some r → R w0 mine st' a' w' → wpOps P ops Q (List.range' (pre.length + 1) os.length) a' w' := fun st' a' w' h' hr' => by
      have := regionR_snd hT hΓ hS hQ os (pre ++ [o]) (by rw [he]; simp) st' a' w' h' hr'
      simpa using this
    rw [List.length_cons, List.range'_succ, wpOps_cons]
    unfold wpOp
    simp only [hi]
    have hg := guardR_W (yes' := fun s => opR S tt Γ o s (fun st => regionR S tt Γ ops os st k) = some r) (no' := fun s => regionR S tt Γ ops os (s.put o.dst (.tup [])) k = some r) (fun _ hs => hs) (fun _ hs => hs) h
    rcases guardW_sound hg hr with ⟨hw, h'⟩ | ⟨hw, h'⟩
    · rw [if_pos hw]
      refine .inl ?_
      unfold opR at h'
      split at h'
      · rename_i p st' hst
        have := chk_some.1 h'
        exact stepAll_sound hT hΓ hst this.1 hr fun a' w' hr' => hrest st' a' w' this.2 hr'
      · unfold semR at h'
        split at h'
        · rename_i p st' hst
          have := chk_some.1 h'
          exact hS o st p st' hst this.1 a w _ _ hr fun a' w' hr' => hrest st' a' w' this.2 hr'
        · simp at h'
    · rw [if_neg (by rw [hw]; simp)]
      exact hrest _ _ _ h' (hr.skip o.dst)
theorem stepR_L {i : Nat} {st : St} {k : St → Option ρ} {k' : St → Prop} (hk : ∀ s, k s = some r → k' s) (h : stepR tt Γ ops i st k = some r) : stepL tt Γ ops i st k' := by
  unfold stepR at h
  unfold stepL
  split at h
  · simp at h
  · rename_i o ho
    rw [ho]
    refine guardR_W (fun s hs => ?_) (fun s hs => hk _ hs) h
    unfold opR at hs
    unfold actT
    split at hs
    · rename_i p st' hst
      rw [hst]
      have := chk_some.1 hs
      exact ⟨this.1, hk _ this.2⟩
    · simp [semR, noSem] at hs
theorem treeR_W {k : St → Option ρ} : ∀ (t : Tree) (st : St), treeR tt Γ ops t st k = some r → treeW tt Γ ops t st (fun s => k s = some r)
  | .done, _, h => h
  | .quiet i t, st, h => stepR_L (fun s hs => treeR_W t s hs) h
  | .alt i t r, st, h => by
    simp only [treeR] at h
    cases hs : r.isStop with
    | true =>
      rw [hs] at h
      refine ⟨stepR_L (fun s hs => treeR_W t s hs) h, ?_⟩
      cases r <;> first | exact trivial | simp [Tree.isStop] at hs
    | false =>
      rw [hs] at h
      obtain ⟨h1, h2⟩ := meet_some h
      exact ⟨stepR_L (fun s hs => treeR_W t s hs) h1, treeR_W r st h2⟩
  | .grow i t, st, h => by
    simp only [treeR] at h
    have := chk_some.1 h
    exact ⟨this.1, stepR_L (fun s hs => treeR_W t s hs) this.2⟩
  | .pure i t, st, h => by
    simp only [treeR] at h
    have := chk_some.1 h
    exact ⟨this.1, stepR_L (fun s hs => treeR_W t s hs) this.2⟩
  | .keep i t, st, h => by
    simp only [treeR] at h
    have := chk_some.1 h
    exact ⟨this.1, stepR_L (fun s hs => treeR_W t s hs) this.2⟩
  | .first i t, st, h => by
    simp only [treeR] at h
    have := chk_some.1 h
    exact ⟨this.1, stepR_L (fun s hs => treeR_W t s hs) this.2⟩
  | .stop, st, h => by simp [treeR] at h

def PinOk (pins : Bool) (mine : Mine) : Prop := pins = false → ∀ id, mine.pin id = none
theorem nrm_R {pins : Bool} (hp : PinOk pins mine) {nm : Nm} {st : St} {a : Act} (hr : R w0 mine st a w) : R w0 mine (st.nrm pins nm) a w := by
  cases pins with
  | true => exact LeP.of_forget nm.keep rfl _ _ _ _ hr
  | false => exact Le.norm nm st _ _ _ _ (hp rfl) hr
theorem loopR_sound (hpin : PinOk T.pins mine) {c : Code} {Q : X → St → Option ρ} {nm : Nm} (hc : ∀ (Q : X → St → Option ρ) (st : St) (a : Act) (w : World), runT tt Γ T c Q st = some r → R w0 mine st a w → c.wp P (liftQ w0 mine fun x s => Q x s = some r) a w) {n : Nat} {st : St} {a : Act} {w : World}
    (h : loopR (runT tt Γ T c) T.pins nm Q n st = some r) (hr : R w0 mine st a w) : (Code.loop c).wp P (liftQ w0 mine fun x s => Q x s = some r) a w := by
  let J : Act → World → Nat → Prop := fun a w n => ∃ s, R w0 mine s a w ∧ loopR (runT tt Γ T c) T.pins nm Q n s = some r
  have hmin : ∀ a w, (∃ n, J a w n) → ∃ m, J a w m ∧ ∀ k, J a w k → m ≤ k := fun a w ⟨n, hn⟩ => exists_min hn
  let M : Act → World → Nat := fun a w => open Classical in if h : ∃ n, J a w n then Classical.choose (hmin a w h) else 0
  have hM : ∀ a w n, J a w n → J a w (M a w) ∧ M a w ≤ n := fun a w n hn => by
    have hex : ∃ n, J a w n := ⟨n, hn⟩
    simp only [M, dif_pos hex]
    exact ⟨(Classical.choose_spec (hmin a w hex)).1, (Classical.choose_spec (hmin a w hex)).2 n hn⟩
  refine wp_loop (I := fun a w => ∃ n, J a w n) (μ := M) ⟨n, st, hr, h⟩ fun a w hex => ?_
  obtain ⟨n, hn⟩ := hex
  obtain ⟨⟨s, hs, hrun⟩, _⟩ := hM a w n hn
  generalize hMn : M a w = mm at hrun ⊢
  cases mm with
  | zero => simp [loopR] at hrun
  | succ k =>
    refine wp_mono (hc _ s a w hrun hs) fun e a' w' he => ?_
    cases e with
    | normal =>
      obtain ⟨s', hs', hk⟩ := he
      have hJ : J a' w' k := ⟨_, nrm_R hpin hs', hk⟩
      have := (hM a' w' _ hJ).2
      exact ⟨⟨_, hJ⟩, by omega⟩
    | ret => exact he
    | exit id => exact he
    | _ => exact he

theorem nxt_Q {pins : Bool} (hpin : PinOk pins mine) {o : Option Nm} {Q : X → St → Option ρ} {st : St} {a : Act} (hr : R w0 mine st a w) (h : nxt pins o (Q .normal) st = some r) : liftQ w0 mine (fun x s => Q x s = some r) .normal a w := by
  unfold nxt at h
  split at h
  · exact ⟨st, hr, h⟩
  · exact ⟨_, nrm_R hpin hr, h⟩
theorem joinR_sound (hT : TTok P tt) (hΓ : ∀ f g, Γ.get f = some g → Sound P f g) (hm : P.follows .mixedOrders = true) (hS : SemAt P T.sem w0 mine) (hpin : PinOk T.pins mine) : ∀ (c : Code), plansOk T.tr c = true → ∀ (Q : X → St → Option ρ) (st : St) (a : Act) (w : World), joinR tt Γ T c Q st = some r → R w0 mine st a w → c.wp P (liftQ w0 mine fun x s => Q x s = some r) a w
  | .region id ops false, _, Q, st, a, w, h, hr => by
    refine wp_region ?_
    have := regionR_snd (ops := ops) (Q := liftQ w0 mine fun x s => Q x s = some r) hT hΓ hS (k := nxt T.pins (T.rg id) (Q .normal)) (fun a w st hr hk => nxt_Q hpin hr hk) ops.toList [] rfl st a w h hr
    rw [List.range_eq_range']
    simpa using this
  | .region id ops true, hp, Q, st, a, w, h, hr => by
    refine wp_region_any hm ?_
    have h1 := treeW_all (T.tr id) ops.size _ [] st hp (treeR_W _ _ h) (fun _ _ _ h => by simp at h)
    have hr' : R w0 mine st a { w with drawn := w.drawn + 1 } := by
      obtain ⟨hd, m, H, he⟩ := hr
      obtain ⟨H', hok, hs⟩ := H.heap_eq (w' := { w with drawn := w.drawn + 1 }) rfl rfl rfl rfl (Nat.le_succ _)
      exact ⟨hd, m, H', env_mono hok hs he⟩
    exact allT_sound hT hΓ (k := fun s => nxt T.pins (T.rg id) (Q .normal) s = some r) (fun a w st hr hk => nxt_Q hpin hr hk) _ _ st a _ h1 hr'
  | .seq .., _, _, _, _, _, h, _ => by simp [joinR] at h
  | .cond .., _, _, _, _, _, h, _ => by simp [joinR] at h
  | .skip, _, _, _, _, _, h, _ => by simp [joinR] at h
  | .block .., _, _, _, _, _, h, _ => by simp [joinR] at h
  | .loop .., _, _, _, _, _, h, _ => by simp [joinR] at h
  | .exit .., _, _, _, _, _, h, _ => by simp [joinR] at h
  | .ret, _, _, _, _, _, h, _ => by simp [joinR] at h
  | .rangeFunc .., _, _, _, _, _, h, _ => by simp [joinR] at h
  | .scope _, _, _, _, _, _, h, _ => by simp [joinR] at h
  | .label _, _, _, _, _, _, h, _ => by simp [joinR] at h
  | .goto _, _, _, _, _, _, h, _ => by simp [joinR] at h
  | .refuse _, _, _, _, _, _, h, _ => by simp [joinR] at h
def TbOk (P : Program) (T : Tab) : Prop := ∀ id j t, T.jn id = some j → Jn.tb j = some t → TTok P t
theorem runT_sound (hT : TTok P tt) (hTb : TbOk P T) (hΓ : ∀ f g, Γ.get f = some g → Sound P f g) (hm : P.follows .mixedOrders = true) (hS : SemAt P T.sem w0 mine) (hpin : PinOk T.pins mine) : ∀ (c : Code), plansOk T.tr c = true → ∀ (Q : X → St → Option ρ) (st : St) (a : Act) (w : World), runT tt Γ T c Q st = some r → R w0 mine st a w → c.wp P (liftQ w0 mine fun x s => Q x s = some r) a w
  | .skip, _, Q, st, a, w, h, hr => wp_skip ⟨st, hr, h⟩
  | .region id ops d, hp, Q, st, a, w, h, hr => by
    have h : jnR (T.jn id) tt Γ T (.region id ops d) Q st = some r := h
    unfold jnR at h
    split at h
    · exact joinR_sound hT hΓ hm hS hpin _ hp Q st a w h hr
    · exact joinR_sound hT hΓ hm hS hpin _ hp Q _ a w h (nrm_R hpin hr)
    · rename_i p tb hj
      obtain ⟨st', hr', hk⟩ := preR_sound h hr
      cases tb with
      | none => exact joinR_sound hT hΓ hm hS hpin _ hp Q st' a w hk hr'
      | some t => exact joinR_sound (hTb _ _ _ hj rfl) hΓ hm hS hpin _ hp Q st' a w hk hr'
    · rename_i nm tb hj
      exact joinR_sound (hTb _ _ _ hj rfl) hΓ hm hS hpin _ hp Q _ a w h (nrm_R hpin hr)
  | .seq x y, hp, Q, st, a, w, h, hr => by
    simp only [plansOk, Bool.and_eq_true] at hp
    refine wp_seq (wp_mono (runT_sound hT hTb hΓ hm hS hpin x hp.1 _ st a w h hr) fun e a' w' he => ?_)
    cases e with
    | normal => obtain ⟨s, hs, hk⟩ := he; exact runT_sound hT hTb hΓ hm hS hpin y hp.2 Q s a' w' hk hs
    | ret => exact he
    | exit id => exact he
    | _ => exact he
  | .cond c x y, hp, Q, st, a, w, h, hr => by
    simp only [plansOk, Bool.and_eq_true] at hp
    simp only [runT, condR] at h
    split at h
    · rename_i b hb
      have hv : a.eval c = .bool b := by
        obtain ⟨hd, m, H, he⟩ := hr
        have := R.ev H he c
        rw [hb] at this
        exact this
      refine wp_cond hv ?_
      cases b with
      | true =>
        have h : runT tt Γ T x Q (st.litO c true) = some r := h
        rw [R.litO (a := a) (w := w) hb] at h
        exact runT_sound hT hTb hΓ hm hS hpin x hp.1 Q st a w h hr
      | false =>
        have h : runT tt Γ T y Q (st.litO c false) = some r := h
        rw [R.litO (a := a) (w := w) hb] at h
        exact runT_sound hT hTb hΓ hm hS hpin y hp.2 Q st a w h hr
    · simp at h
  | .block id c, hp, Q, st, a, w, h, hr => by
    refine wp_block (wp_mono (runT_sound hT hTb hΓ hm hS hpin c hp _ st a w h hr) fun e a' w' he => ?_)
    cases e with
    | normal => exact he
    | ret => exact he
    | exit id' =>
      obtain ⟨s, hs, hk⟩ := he
      simp only [blockR] at hk
      simp only [Exit.inBlock]
      split
      · rename_i e
        subst e
        simp only [beq_self_eq_true, cond_true] at hk
        exact ⟨s, hs, hk⟩
      · rename_i e
        have : (id' == id) = false := by simpa using e
        simp only [this, cond_false] at hk
        exact ⟨s, hs, hk⟩
    | _ => exact he
  | .loop c, hp, Q, st, a, w, h, hr => loopR_sound hpin (fun Q st a w h hr => runT_sound hT hTb hΓ hm hS hpin c hp Q st a w h hr) h (nrm_R hpin hr)
  | .exit id, _, Q, st, a, w, h, hr => by
    refine wp_exit ?_
    simp only [runT] at h
    split at h
    · exact ⟨st, hr, h⟩
    · exact ⟨_, nrm_R hpin hr, h⟩
  | .ret, _, Q, st, a, w, h, hr => wp_ret ⟨st, hr, h⟩
  | .rangeFunc .., _, _, _, _, _, h, _ => by simp [runT] at h
  | .scope _, _, _, _, _, _, h, _ => by simp [runT] at h
  | .label _, _, _, _, _, _, h, _ => by simp [runT] at h
  | .goto _, _, _, _, _, _, h, _ => by simp [runT] at h
  | .refuse _, _, _, _, _, _, h, _ => by simp [runT] at h

def ownR (h : List Blk) (ls : List LV) : Bool := deepOf h (ls.flatMap LV.cells) && nodupB (moved (ls.flatMap LV.cells))
def retS (tt : TT) (dp : Bool) (rs : List TI) (rvs : List ResultVar) (st : St) : Option (Vals rs) := match resLVs tt st rvs with
  | none => none
  | some ls => match implodeArgs st.heap rs ls with
    | none => none
    | some y => bif dp then (bif ownR st.heap ls then some y else none) else some y
def retR (tt : TT) (dp : Bool) (rs : List TI) (rvs : List ResultVar) : X → St → Option (Vals rs)
  | .normal, st => retS tt dp rs rvs st
  | .ret, st => retS tt dp rs rvs st
  | .exit _, _ => none
theorem retS_Q {g : G} {rvs : List ResultVar} {y : Vals g.rs} {st : St} (h : retS tt g.dp g.rs rvs st = some y) : ResOk tt g.dp g.rs rvs y st := by
  unfold retS at h
  unfold ResOk
  split at h
  · simp at h
  · rename_i ls hls
    split at h
    · simp at h
    · rename_i z hy
      rw [hls]
      cases hdp : g.dp with
      | false => rw [hdp] at h; simp only [cond_false] at h; cases h; exact ⟨hy, by simp⟩
      | true =>
        rw [hdp] at h
        cases hb : ownR st.heap ls with
        | false => rw [hb] at h; simp at h
        | true =>
          rw [hb] at h
          simp only [cond_true] at h
          cases h
          simp only [ownR, Bool.and_eq_true] at hb
          exact ⟨hy, fun _ => hb⟩
theorem retR_Q {g : G} {rvs : List ResultVar} {x : Vals g.ps} {e : X} {st : St} (h : retR tt g.dp g.rs rvs e st = some (g.fn x)) : retQ tt g rvs x e st := by
  cases e with
  | normal => exact retS_Q h
  | ret => exact retS_Q h
  | exit id => simp [retR] at h
theorem sound_of_run (hT : TTok P tt) (hΓ : ∀ f g, Γ.get f = some g → Sound P f g) (hm : P.follows .mixedOrders = true) {f : FuncId} {fn : Func} {c : Code} {g : G} (hf : P.funcs[f]? = some fn) (hb : fn.body = some c) (hname : (fn.name == "runtime.NumGoroutine") = false)
    (hrun : ∀ x : Vals g.ps, g.pre x → ∃ T : Tab, plansOk T.tr c = true ∧ SemOk P T.sem ∧ TbOk P T ∧ runT tt Γ T c (retR tt g.dp g.rs fn.results.toList) (entry g fn.ntmps x) = some (g.fn x)) : Sound P f g :=
  sound_of_wp hT hf hb hname fun x hx w0 mine a w hpin hR => by
    obtain ⟨T, hp, hS, hTb, h⟩ := hrun x hx
    refine wp_mono (runT_sound hT hTb hΓ hm hS.at (fun _ => hpin) c hp _ _ _ _ h hR) fun e a' w' he => ?_
    cases e with
    | normal => obtain ⟨st, hr, h⟩ := he; exact ⟨st, hr, retR_Q h⟩
    | ret => obtain ⟨st, hr, h⟩ := he; exact ⟨st, hr, retR_Q h⟩
    | exit id => obtain ⟨st, hr, h⟩ := he; exact ⟨st, hr, retR_Q h⟩
    | _ => exact he
end
end Go.T
/- T: runs by rewriting: lemmas at states that are written out. -/
namespace Go.T
open Go

abbrev u : LV := .one .undef
variable {ρ : Type}
def cut : List Bool → Code → Code
  | [], c => c
  | false :: r, .seq a _ => cut r a
  | true :: r, .seq _ b => cut r b
  | false :: r, .cond _ a _ => cut r a
  | true :: r, .cond _ _ b => cut r b
  | _ :: r, .block _ a => cut r a
  | _ :: r, .loop a => cut r a
  | _, c => c
def entryP (ps : List TI) (ntmps : Nat) (x : Vals ps) : St := { env := (explodes 0 ps x).map LV1.lv ++ List.replicate (ntmps - ps.length) (.tup []), heap := [] }

section
variable {tt : TT} {Γ : Gam} {T : Tab} {Q : X → St → Option ρ} {e : List LV} {h : List Blk}
@[simp] theorem run_skip' : runT tt Γ T .skip Q ⟨e, h⟩ = Q .normal ⟨e, h⟩ := rfl
@[simp] theorem run_region' {id : Nat} {ops : Array Oper} {d : Bool} : runT tt Γ T (.region id ops d) Q ⟨e, h⟩ = jnR (T.jn id) tt Γ T (.region id ops d) Q ⟨e, h⟩ := rfl
@[simp] theorem jnR_none' {id : Nat} {ops : List Oper} : jnR none tt Γ T (.region id ⟨ops⟩ false) Q ⟨e, h⟩ = regionR T.sem tt Γ ⟨ops⟩ ops ⟨e, h⟩ (nxt T.pins (T.rg id) (Q .normal)) := rfl
@[simp] theorem jnR_noneD' {id : Nat} {ops : Array Oper} : jnR none tt Γ T (.region id ops true) Q ⟨e, h⟩ = treeR tt Γ ops (T.tr id) ⟨e, h⟩ (nxt T.pins (T.rg id) (Q .normal)) := rfl
@[simp] theorem jnR_some' {nm : Nm} {c : Code} : jnR (some (.nm nm)) tt Γ T c Q ⟨e, h⟩ = joinR tt Γ T c Q ((St.mk e h).nrm T.pins nm) := rfl
@[simp] theorem jnR_at' {p : Option Pre} {tb : Option TT} {c : Code} : jnR (some (.at p tb)) tt Γ T c Q ⟨e, h⟩ = preR p ⟨e, h⟩ fun st => joinR (tb.getD tt) Γ T c Q st := rfl
@[simp] theorem jnR_nt' {nm : Nm} {tb : TT} {c : Code} : jnR (some (.nt nm tb)) tt Γ T c Q ⟨e, h⟩ = joinR tb Γ T c Q ((St.mk e h).nrm T.pins nm) := rfl
@[simp] theorem preR_none' {st : St} {k : St → Option ρ} : preR none st k = k st := rfl
theorem joinR_f {id : Nat} {ops : List Oper} : joinR tt Γ T (.region id ⟨ops⟩ false) Q ⟨e, h⟩ = regionR T.sem tt Γ ⟨ops⟩ ops ⟨e, h⟩ (nxt T.pins (T.rg id) (Q .normal)) := rfl
theorem joinR_d {id : Nat} {ops : Array Oper} : joinR tt Γ T (.region id ops true) Q ⟨e, h⟩ = treeR tt Γ ops (T.tr id) ⟨e, h⟩ (nxt T.pins (T.rg id) (Q .normal)) := rfl
@[simp] theorem run_seq' {a b : Code} : runT tt Γ T (.seq a b) Q ⟨e, h⟩ = runT tt Γ T a (seqR (runT tt Γ T b Q) Q) ⟨e, h⟩ := rfl
@[simp] theorem run_cond' {c : Operand} {x y : Code} : runT tt Γ T (.cond c x y) Q ⟨e, h⟩ = condR c ⟨e, h⟩ (runT tt Γ T x Q) (runT tt Γ T y Q) := rfl
@[simp] theorem run_block' {id : Nat} {c : Code} : runT tt Γ T (.block id c) Q ⟨e, h⟩ = runT tt Γ T c (blockR id Q) ⟨e, h⟩ := rfl
@[simp] theorem run_loop' {c : Code} : runT tt Γ T (.loop c) Q ⟨e, h⟩ = loopR (runT tt Γ T c) T.pins (T.lp (rid c)) Q T.fuel ((St.mk e h).nrm T.pins (T.lp (rid c))) := rfl
@[simp] theorem run_exit' {id : Nat} : runT tt Γ T (.exit id) Q ⟨e, h⟩ = match T.ex id with
    | none => Q (.exit id) ⟨e, h⟩
    | some nm => Q (.exit id) ((St.mk e h).nrm T.pins nm) := rfl
@[simp] theorem run_ret' : runT tt Γ T .ret Q ⟨e, h⟩ = Q .ret ⟨e, h⟩ := rfl
theorem loop_succ {F : (X → St → Option ρ) → St → Option ρ} {pins : Bool} {nm : Nm} {n : Nat} {st : St} : loopR F pins nm Q (n + 1) st = F (seqR (fun st' => loopR F pins nm Q n (st'.nrm pins nm)) Q) st := rfl

variable {ops : Array Oper} {k : St → Option ρ}
@[simp] theorem regionR_nil' {S : Sem} : regionR S tt Γ ops [] ⟨e, h⟩ k = k ⟨e, h⟩ := rfl
@[simp] theorem regionR_cons' {S : Sem} {d : Option Tmp} {op : Op} {ty : TypeId} {pos : String} {aft : Array Edge} {os : List Oper} : regionR S tt Γ ops (⟨d, op, ty, pos, aft, none⟩ :: os) ⟨e, h⟩ k = opR S tt Γ ⟨d, op, ty, pos, aft, none⟩ ⟨e, h⟩ fun st => regionR S tt Γ ops os st k := rfl
@[simp] theorem regionR_guard' {S : Sem} {d : Option Tmp} {op : Op} {ty : TypeId} {pos : String} {aft : Array Edge} {g : Nat × Bool} {os : List Oper} : regionR S tt Γ ops (⟨d, op, ty, pos, aft, some g⟩ :: os) ⟨e, h⟩ k = guardR ops ⟨d, op, ty, pos, aft, some g⟩ ⟨e, h⟩ (fun st => opR S tt Γ ⟨d, op, ty, pos, aft, some g⟩ st fun st => regionR S tt Γ ops os st k) (fun st => regionR S tt Γ ops os (st.put d (.tup [])) k) := rfl
@[simp] theorem seqR_normal {st : St} : seqR k Q .normal st = k st := rfl
@[simp] theorem seqR_ret {st : St} : seqR k Q .ret st = Q .ret st := rfl
@[simp] theorem seqR_exit {st : St} {id : Nat} : seqR k Q (.exit id) st = Q (.exit id) st := rfl
@[simp] theorem blockR_normal {id : Nat} {st : St} : blockR id Q .normal st = Q .normal st := rfl
@[simp] theorem blockR_ret {id : Nat} {st : St} : blockR id Q .ret st = Q .ret st := rfl
@[simp] theorem blockR_exit {id j : Nat} {st : St} : blockR id Q (.exit j) st = bif j == id then Q .normal st else Q (.exit j) st := rfl
@[simp] theorem seqR_eta : seqR k Q .normal = k := rfl
@[simp] theorem blockR_eta {id : Nat} : blockR id Q .normal = Q .normal := rfl
@[simp] theorem opR' {S : Sem} {o : Oper} : opR S tt Γ o ⟨e, h⟩ k = (match stepAll tt Γ o ⟨e, h⟩ with
  | some (p, st') => chk p (k st')
  | none => semR S o ⟨e, h⟩ k) := rfl
theorem semR' {S : Sem} {o : Oper} : semR S o ⟨e, h⟩ k = (match S o ⟨e, h⟩ with
  | some (p, st') => chk p (k st')
  | none => none) := rfl
@[simp] theorem nrm_false {nm : Nm} : (St.mk e h).nrm false nm = (St.mk e h).norm nm := rfl
@[simp] theorem nrm_true {nm : Nm} : (St.mk e h).nrm true nm = ⟨forgetEnv nm.keep e, h⟩ := rfl
attribute [simp] forgetEnv
def brL (x : LV) (c : Operand) (e : List LV) (h : List Blk) (a b : St → Option ρ) : Option ρ := match x with
  | .one (.bool v) => bif v then a ((St.mk e h).litO c true) else b ((St.mk e h).litO c false)
  | _ => none
@[simp] theorem condR' {c : Operand} {x y : St → Option ρ} : condR c ⟨e, h⟩ x y = brL ((St.mk e h).ev c) c e h x y := rfl
@[simp high] theorem brL_true {c : Operand} {x y : St → Option ρ} : brL (.one (.bool true)) c e h x y = x ((St.mk e h).litO c true) := rfl
@[simp high] theorem brL_false {c : Operand} {x y : St → Option ρ} : brL (.one (.bool false)) c e h x y = y ((St.mk e h).litO c false) := rfl
@[simp low] theorem brL_any {c : Operand} {x y : St → Option ρ} {v : Bool} : brL (.one (.bool v)) c e h x y = bif v then x ((St.mk e h).litO c true) else y ((St.mk e h).litO c false) := rfl
def guA (d : Option Tmp) (want : Bool) (e : List LV) (h : List Blk) (a b : St → Option ρ) : Option ρ := match d with
  | none => b ⟨e, h⟩
  | some t => match e[t]? with
    | some (.one (.bool v)) => bif (v == want) then a ((St.mk e h).lit t want) else b ((St.mk e h).lit t (!want))
    | some (.tup _) => b ⟨e, h⟩
    | none => b ⟨e, h⟩
    | _ => none
def guB (x : Option LV) (t : Nat) (want : Bool) (e : List LV) (h : List Blk) (a b : St → Option ρ) : Option ρ := match x with
  | some (.one (.bool v)) => bif (v == want) then a ((St.mk e h).lit t want) else b ((St.mk e h).lit t (!want))
  | some (.tup _) => b ⟨e, h⟩
  | none => b ⟨e, h⟩
  | _ => none
theorem guardR' {d : Option Tmp} {op : Op} {ty : TypeId} {pos : String} {aft : Array Edge} {j : Nat} {want : Bool} {a b : St → Option ρ} : guardR ops ⟨d, op, ty, pos, aft, some (j, want)⟩ ⟨e, h⟩ a b = guA ((ops[j]?).bind (·.dst)) want e h a b := by
  unfold guardR guA
  first
    | rfl
    | (dsimp only; done)
    | (dsimp only; cases (ops[j]?).bind (·.dst) <;> rfl)
@[simp] theorem guardR_none {d : Option Tmp} {op : Op} {ty : TypeId} {pos : String} {aft : Array Edge} {a b : St → Option ρ} : guardR ops ⟨d, op, ty, pos, aft, none⟩ ⟨e, h⟩ a b = a ⟨e, h⟩ := rfl
@[simp] theorem guA_none {want : Bool} {a b : St → Option ρ} : guA none want e h a b = b ⟨e, h⟩ := rfl
@[simp] theorem guA_some {t : Nat} {want : Bool} {a b : St → Option ρ} : guA (some t) want e h a b = guB e[t]? t want e h a b := rfl
@[simp high] theorem guB_tt {t : Nat} {a b : St → Option ρ} : guB (some (.one (.bool true))) t true e h a b = a ((St.mk e h).lit t true) := rfl
@[simp high] theorem guB_ff {t : Nat} {a b : St → Option ρ} : guB (some (.one (.bool false))) t false e h a b = a ((St.mk e h).lit t false) := rfl
@[simp high] theorem guB_tf {t : Nat} {a b : St → Option ρ} : guB (some (.one (.bool true))) t false e h a b = b ((St.mk e h).lit t true) := rfl
@[simp high] theorem guB_ft {t : Nat} {a b : St → Option ρ} : guB (some (.one (.bool false))) t true e h a b = b ((St.mk e h).lit t false) := rfl
@[simp low] theorem guB_t {t : Nat} {v : Bool} {a b : St → Option ρ} : guB (some (.one (.bool v))) t true e h a b = bif v then a ((St.mk e h).lit t true) else b ((St.mk e h).lit t false) := by cases v <;> rfl
@[simp low] theorem guB_f {t : Nat} {v : Bool} {a b : St → Option ρ} : guB (some (.one (.bool v))) t false e h a b = bif v then b ((St.mk e h).lit t true) else a ((St.mk e h).lit t false) := by cases v <;> rfl
@[simp] theorem guB_tup {t : Nat} {want : Bool} {l : List LV1} {a b : St → Option ρ} : guB (some (.tup l)) t want e h a b = b ⟨e, h⟩ := rfl
attribute [simp] guardR'
@[simp] theorem nxt_none {pins : Bool} : nxt pins none k = k := rfl
@[simp] theorem nxt_some {pins : Bool} {nm : Nm} {e : List LV} {h : List Blk} : nxt pins (some nm) k ⟨e, h⟩ = k ((St.mk e h).nrm pins nm) := rfl
@[simp] theorem meet_self' {a : Option ρ} : meet a a = a := meet_self
@[simp] theorem chk_true {k : Option ρ} : chk True k = k := chk_pos trivial
@[simp] theorem chk_false {k : Option ρ} : chk False k = none := by simp [chk]
@[simp] theorem norm' {nm : Nm} : (St.mk e h).norm nm = ((St.mk e h).fixes nm.fix).gc nm.zero nm.keep := rfl
@[simp] theorem fixes_nil' : (St.mk e h).fixes [] = ⟨e, h⟩ := rfl
@[simp] theorem fixes_cons' {f : Fix} {r : List Fix} : (St.mk e h).fixes (f :: r) = ((St.mk e h).fix1 f).fixes r := rfl
@[simp] theorem retS' {dp : Bool} {rs : List TI} {rvs : List ResultVar} : retS tt dp rs rvs ⟨e, h⟩ = match resLVs tt ⟨e, h⟩ rvs with
  | none => none
  | some ls => match implodeArgs h rs ls with
    | none => none
    | some y => bif dp then (bif ownR h ls then some y else none) else some y := rfl
@[simp] theorem retR_ret {dp : Bool} {rs : List TI} {rvs : List ResultVar} {st : St} : retR tt dp rs rvs .ret st = retS tt dp rs rvs st := rfl
@[simp] theorem retR_normal {dp : Bool} {rs : List TI} {rvs : List ResultVar} {st : St} : retR tt dp rs rvs .normal st = retS tt dp rs rvs st := rfl
attribute [simp] eqInts rdLt rdBox isBox rdPure slPure ownR St.fix1 St.undp St.frz stepR treeR Tree.isStop entryP rid cut
end
@[simp] theorem range_2 : List.range 2 = [0, 1] := rfl
@[simp] theorem range_3 : List.range 3 = [0, 1, 2] := rfl
@[simp] theorem range_4 : List.range 4 = [0, 1, 2, 3] := rfl
@[simp] theorem range_5 : List.range 5 = [0, 1, 2, 3, 4] := rfl
@[simp] theorem range_6 : List.range 6 = [0, 1, 2, 3, 4, 5] := rfl
@[simp] theorem range_7 : List.range 7 = [0, 1, 2, 3, 4, 5, 6] := rfl
@[simp] theorem range_8 : List.range 8 = [0, 1, 2, 3, 4, 5, 6, 7] := rfl
theorem tb_none {P : Program} {T : Tab} (h : ∀ i, T.jn i = none) : TbOk P T := fun id j t e => by rw [h] at e; simp at e
theorem sound_run {P : Program} {tt : TT} {Γ : Gam} (hT : TTok P tt) (hΓ : ∀ f g, Γ.get f = some g → Sound P f g) (hm : P.follows .mixedOrders = true) {f : FuncId} {fn : Func} {c : Code} {g : G} (hf : P.funcs[f]? = some fn) (hb : fn.body = some c) (hname : (fn.name == "runtime.NumGoroutine") = false)
    (hrun : ∀ x : Vals g.ps, g.pre x → ∃ T : Tab, plansOk T.tr c = true ∧ SemOk P T.sem ∧ TbOk P T ∧ runT tt Γ T c (retR tt g.dp g.rs fn.results.toList) (entryP g.ps fn.ntmps x) = some (g.fn x)) : Sound P f g :=
  sound_of_run hT hΓ hm hf hb hname hrun
end Go.T
/- Plain: walks over a list by an index. -/
namespace Go.T
open Go

variable {ρ α σ : Type}
theorem drop_at {xs : List α} {i : Nat} (h : i < xs.length) : xs.drop i = xs[i] :: xs.drop (i + 1) := List.drop_eq_getElem_cons h
theorem getD_at {xs : List α} {i : Nat} (h : i < xs.length) (d : α) : xs.getD i d = xs[i] := by simp [List.getD, h]
theorem getD_atI {xs : List α} {i : Nat} (h : i < xs.length) (d : α) : xs.getD (Int.toNat (i : Int)) d = xs[i] := by simp [List.getD, h]
theorem wrapN {i n : Nat} (h : i < n) (hn : n ≤ 1048576) : IntKind.i64.wrap ((i : Int) + 1) = ((i + 1 : Nat) : Int) := wrap_succ h hn
def foldK (step : Nat → α → σ → (σ → Option ρ) → Option ρ) : Nat → List α → σ → (σ → Option ρ) → Option ρ
  | _, [], s, k => k s
  | i, x :: r, s, k => step i x s fun s' => foldK step (i + 1) r s' k
theorem loop_foldI {F : Nat → Int → σ → Option ρ} {xs : List α} {step : Nat → α → σ → (σ → Option ρ) → Option ρ} {k : σ → Option ρ} (hl : xs.length ≤ 1048576)
    (hF : ∀ (n i : Nat) (s : σ) (h : i < xs.length), F (n + 1) (i : Int) s = step i xs[i] s fun s' => F n (IntKind.i64.wrap ((i : Int) + 1)) s') (hE : ∀ (n i : Nat) (s : σ), xs.length ≤ i → F (n + 1) (i : Int) s = k s) :
    ∀ (n i : Nat) (s : σ), i ≤ xs.length → xs.length - i < n → F n (i : Int) s = foldK step i (xs.drop i) s k
  | 0, _, _, _, h => by omega
  | n + 1, i, s, hi, h => by
    by_cases hlt : i < xs.length
    · rw [hF n i s hlt, drop_at hlt, foldK, wrapN hlt hl]
      congr 1
      funext s'
      exact loop_foldI hl hF hE n (i + 1) s' (by omega) (by omega)
    · rw [hE n i s (by omega), List.drop_eq_nil_of_le (by omega), foldK]
theorem loop_fold {F : Nat → Int → σ → Option ρ} {xs : List α} {step : Nat → α → σ → (σ → Option ρ) → Option ρ} {k : σ → Option ρ} (hl : xs.length ≤ 1048576)
    (hF : ∀ (n i : Nat) (s : σ) (h : i < xs.length), F (n + 1) (i : Int) s = step i xs[i] s fun s' => F n (IntKind.i64.wrap ((i : Int) + 1)) s') (hE : ∀ (n i : Nat) (s : σ), xs.length ≤ i → F (n + 1) (i : Int) s = k s)
    (n : Nat) (s : σ) (hn : xs.length < n) : F n 0 s = foldK step 0 xs s k := by
  have := loop_foldI hl hF hE n 0 s (by omega) (by omega)
  simpa using this

theorem foldK_all {p : α → Bool} {r : Option ρ} {k : Unit → Option ρ} : ∀ (xs : List α) (i : Nat), foldK (fun _ x _ K => bif p x then K () else r) i xs () k = bif xs.all p then k () else r
  | [], _ => rfl
  | x :: xs, i => by
    rw [foldK]; dsimp only; rw [foldK_all xs]
    cases h : p x <;> simp [h]
theorem bif_not {b : Bool} {x y : α} : (bif !b then x else y) = bif b then y else x := by cases b <;> rfl
theorem bif_dec {p : Prop} [Decidable p] {x y : α} (h : p) : (bif decide p then x else y) = x := by simp [h]
theorem bif_decN {p : Prop} [Decidable p] {x y : α} (h : ¬ p) : (bif decide p then x else y) = y := by simp [h]
end Go.T
/- Plain: sizes, copies, equality of rows. -/
namespace Go.T
open Go

variable {ρ α : Type}
theorem sz_loop {t : Ty} : ∀ (xs : List (Val t)) (i : Nat) (n : Int), 0 ≤ n → n ≤ 1048576 → (∀ x ∈ xs, Sm t x) →
    foldK (fun _ x (s : Int) (K : Int → Option (Int × Unit)) => chk (szPre t x s) (bif decide (szV t x s < 0) then some ((-1 : Int), ()) else K (szV t x s))) i xs n (fun s => some (s, ())) = some (szL (szV t) xs n, ())
  | [], _, _, _, _, _ => rfl
  | x :: xs, i, n, h0, h1, hs => by
    rw [foldK, chk_pos ⟨hs x (by simp), h0, h1⟩, szL]
    by_cases c : szV t x n < 0
    · rw [bif_dec c, if_pos c]
    · rw [bif_decN c, if_neg c]
      exact sz_loop xs (i + 1) _ (by omega) (by have := (szV_le t x n h0).1; omega) fun y hy => hs y (by simp [hy])
theorem copy_loopI {F : Nat → Int → List α → Option ρ} {xs : List α} {k : List α → Option ρ} (d : α) (hl : xs.length ≤ 1048576)
    (hF : ∀ (n i : Nat) (s : List α) (h : i < xs.length), s.length = xs.length → F (n + 1) (i : Int) s = F n (IntKind.i64.wrap ((i : Int) + 1)) (s.set i xs[i])) (hE : ∀ (n i : Nat) (s : List α), xs.length ≤ i → F (n + 1) (i : Int) s = k s) :
    ∀ (n i : Nat), i ≤ xs.length → xs.length - i < n → F n (i : Int) (fillP xs d i) = k xs
  | 0, _, _, h => by omega
  | n + 1, i, hi, h => by
    by_cases hlt : i < xs.length
    · rw [hF n i _ hlt (fillP_len hi), wrapN hlt hl]
      have : (fillP xs d i).set i xs[i] = fillP xs d (i + 1) := by
        have := fillP_set (d := d) (d' := d) hlt
        rwa [List.getElem?_eq_getElem hlt, Option.getD_some] at this
      rw [this]
      exact copy_loopI d hl hF hE n (i + 1) (by omega) (by omega)
    · rw [hE n i _ (by omega), fillP_end (by omega)]
theorem copy_loop {F : Nat → Int → List α → Option ρ} {xs : List α} {k : List α → Option ρ} (d : α) (hl : xs.length ≤ 1048576)
    (hF : ∀ (n i : Nat) (s : List α) (h : i < xs.length), s.length = xs.length → F (n + 1) (i : Int) s = F n (IntKind.i64.wrap ((i : Int) + 1)) (s.set i xs[i])) (hE : ∀ (n i : Nat) (s : List α), xs.length ≤ i → F (n + 1) (i : Int) s = k s) (n : Nat) (hn : xs.length < n) :
    F n 0 (List.replicate xs.length d) = k xs := by
  have := copy_loopI d hl hF hE n 0 (by omega) (by omega)
  rw [← fillP_zero] at this
  simpa using this
theorem eqL_zip {f : α → α → Bool} : ∀ (xs ys : List α), xs.length = ys.length → eqL f xs ys = (xs.zip ys).all fun p => f p.1 p.2
  | [], [], _ => rfl
  | [], _ :: _, h => by simp at h
  | _ :: _, [], h => by simp at h
  | x :: xs, y :: ys, h => by simp [eqL, eqL_zip xs ys (by simpa using h)]
theorem eq_loop {f : α → α → Bool} {xs ys : List α} (hl : xs.length ≤ 1048576) (he : xs.length = ys.length) {F : Nat → Int → Option ρ} {k : Unit → Option ρ} {r : Option ρ}
    (hF : ∀ (n i : Nat) (h : i < xs.length) (h' : i < ys.length), F (n + 1) (i : Int) = bif f xs[i] ys[i] then F n (IntKind.i64.wrap ((i : Int) + 1)) else r) (hE : ∀ (n i : Nat), xs.length ≤ i → F (n + 1) (i : Int) = k ()) (n : Nat) (hn : xs.length < n) :
    F n 0 = bif eqL f xs ys then k () else r := by
  rw [eqL_zip xs ys he]
  have hz : (xs.zip ys).length = xs.length := by simp [he]
  refine (loop_fold (F := fun n i (_ : Unit) => F n i) (xs := xs.zip ys) (step := fun _ p _ K => bif f p.1 p.2 then K () else r) (k := k) (by omega) (fun n i s hi => ?_) (fun n i s hi => ?_) n () (by omega)).trans (foldK_all _ 0)
  · rw [hF n i (by omega) (by omega)]
    simp
  · exact hE n i (by omega)
theorem szP_neg {a b : Ty} {x : Val a} {y : Val b} {n : Int} (h : szV a x n < 0) : szV (.pair a b) (x, y) n = -1 := szV_pair_neg (v := (x, y)) h
theorem szP_pos {a b : Ty} {x : Val a} {y : Val b} {n : Int} (h : 0 ≤ szV a x n) : szV (.pair a b) (x, y) n = szV b y (szV a x n) := szV_pair_pos (v := (x, y)) h
theorem szP_int {k : IntKind} {b : Ty} {x : Int} {y : Val b} {n : Int} (h : 0 ≤ n) : szV (.pair (.int k) b) (x, y) n = szV b y n := szV_pair_pos (a := .int k) (v := (x, y)) h
theorem bif_some {b : Bool} : (bif b then some (true, ()) else some (false, ()) : Option (Bool × Unit)) = some (b, ()) := by cases b <;> rfl
theorem eqS {e : Nat} {t : Ty} {x y : List (Val t)} : eqV (.slice e t) x y = eqL (eqV t) x y := rfl
theorem wrapSub {n : Int} {k : Nat} (h0 : 0 ≤ n) (h1 : n ≤ 1048576) (hk : k ≤ maxLen) : IntKind.i64.wrap (n - (k : Int)) = n - k := wrap64 (by simp only [maxLen] at hk; omega) (by omega)
theorem chk_len {k : Nat} (h : k ≤ 1048576) : (0 : Int) ≤ (k : Int) ∧ (k : Int) ≤ (k : Int) ∧ (k : Int) ≤ 1048576 := by omega
end Go.T
/- T: calls that write into an argument's own rows. -/
namespace Go.T
open Go

structure Gm where
  t : TI
  pre : Val t.ty → Int → Prop
  fv : Val t.ty → Int → Val t.ty
  fk : Val t.ty → Int → Int
structure SoundM (P : Program) (f : FuncId) (g : Gm) : Prop where
  enters : Enters P f
  runs : ∀ (x : Val g.t.ty) (n : Int), g.pre x n → ∀ (w : World) (cs : List Value) (B : List Nat) (u : Value), M w g.t.ty x cs B → B.Nodup → wrapped g.t.agg cs u →
    Calls P f #[u, .int .i64 n] w fun e w' => e = .returned (.int .i64 (g.fk x n)) ∧ Fr (fun b => b ∈ B) w w' ∧ ∃ B', M w' g.t.ty (g.fv x n) cs B' ∧ B'.Nodup ∧ ∀ b ∈ B', b ∈ B ∨ w.heap.size ≤ b

def setRows (h : List Blk) : List Nat → List Blk → List Blk
  | id :: ids, b :: bs => setRows (h.set id b) ids bs
  | _, _ => h
def noNil : List LC → Bool
  | [] => true
  | .nils :: _ => false
  | _ :: r => noNil r
def stepMk (g : Gm) (x y : LV) (d : Option Tmp) (st : St) : Res := match y with
  | .one (.int .i64 n) => if x.isAgg = some g.t.agg ∧ noNil x.cells = true ∧ deepOf st.heap x.cells = true ∧ nodupB (moved x.cells) = true then match implode st.heap g.t.ty x.cells with
      | some (v, []) => some (g.pre v n, St.put ⟨st.env.map (LV.clamp (los st.heap st.heap.length (moved x.cells))), setRows (st.heap.map (Blk.clamp (los st.heap st.heap.length (moved x.cells)))) (moved x.cells) (explodeOwn 0 g.t.ty (g.fv v n)).2⟩ d (.one (.int .i64 (g.fk v n))))
      | _ => none
    else none
  | _ => none

theorem setRows_nil (h : List Blk) (bs : List Blk) : setRows h [] bs = h := by cases bs <;> rfl
theorem setRows_len : ∀ (ids : List Nat) (bs h : List Blk), (setRows h ids bs).length = h.length
  | [], _, _ => by rw [setRows_nil]
  | _ :: _, [], _ => rfl
  | id :: ids, b :: bs, h => by rw [setRows, setRows_len ids bs]; simp
theorem setRows_other : ∀ (ids : List Nat) (bs h : List Blk) (i : Nat), i ∉ ids → (setRows h ids bs)[i]? = h[i]?
  | [], _, _, _, _ => by rw [setRows_nil]
  | _ :: _, [], _, _, _ => rfl
  | id :: ids, b :: bs, h, i, hi => by
    have hne : id ≠ i := fun e => hi (by rw [e]; exact List.mem_cons_self)
    rw [setRows, setRows_other ids bs _ i (fun hm => hi (List.mem_cons_of_mem _ hm)), List.getElem?_set_ne hne]
theorem setRows_at : ∀ (ids : List Nat) (bs h : List Blk), ids.Nodup → ids.length = bs.length → (∀ i ∈ ids, i < h.length) → ∀ (k : Nat) (id : Nat), ids[k]? = some id → (setRows h ids bs)[id]? = bs[k]?
  | [], _, _, _, _, _, k, id, hk => by simp at hk
  | _ :: _, [], _, _, hl, _, _, _, _ => by simp at hl
  | i :: ids, b :: bs, h, hn, hl, hlt, k, id, hk => by
    obtain ⟨h1, h2⟩ := List.nodup_cons.1 hn
    rw [setRows]
    cases k with
    | zero =>
      simp at hk; subst hk
      rw [setRows_other ids bs _ i h1, List.getElem?_set_self (hlt i List.mem_cons_self)]
      rfl
    | succ k =>
      have := setRows_at ids bs (h.set i b) h2 (by simpa using hl) (fun j hj => by simpa using hlt j (List.mem_cons_of_mem _ hj)) k id (by simpa using hk)
      simpa using this

section
variable {P : Program} {w0 w w' : World} {mine : Mine} {m m' : Mp} {h : List Blk} {st : St} {a : Act} {o : Oper} {next : Act → World → Prop} {Q : Exit → Act → World → Prop}

theorem posOf_at : ∀ {l : List Nat} {j k id : Nat}, l.Nodup → l[k]? = some id → posOf l j id = some (j + k)
  | [], _, _, _, _, h => by simp at h
  | x :: r, j, k, id, hn, h => by
    obtain ⟨h1, h2⟩ := List.nodup_cons.1 hn
    simp only [posOf]
    cases k with
    | zero => simp at h; simp [h]
    | succ k =>
      have hk : r[k]? = some id := by simpa using h
      have hne : ¬ x = id := fun e => h1 (e ▸ List.mem_of_getElem? hk)
      rw [if_neg hne, posOf_at h2 hk]
      congr 1; omega
theorem posOf_no : ∀ {l : List Nat} {j id : Nat}, id ∉ l → posOf l j id = none
  | [], _, _, _ => rfl
  | x :: r, j, id, h => by
    simp only [posOf]
    rw [if_neg (fun e => h (by rw [e]; exact List.mem_cons_self)), posOf_no fun hm => h (List.mem_cons_of_mem _ hm)]
def Mp.marks (m : Mp) (ids : List Nat) (rl : List RowR) : Mp := { m with nst := fun i => match posOf ids 0 i with
  | some k => (rl.getD k (undef, [])).2
  | none => m.nst i }

theorem mk_HR (H : HR w0 mine w m h) {ids : List Nat} (hn : ids.Nodup) {bl : List Blk} {rl : List RowR} (hlen : ids.length = bl.length)
    (hrow : ∀ (k id : Nat), ids[k]? = some id → ∃ (e : Nat) (t : Ty) (xs ys : List (Val t)) (mt : Bool) (n : Nat), h[id]? = some (.row e t xs true mt n) ∧ bl[k]? = some (.row e t ys true true 0))
    (hf : F2 (RowOk w') bl rl) (hBn : (rl.flatMap RowR.fp).Nodup) (hBm : ∀ b ∈ rl.flatMap RowR.fp, b ∈ fpIds m h ids ∨ w.heap.size ≤ b) (hval : ∀ (k id : Nat), ids[k]? = some id → ∃ r, rl[k]? = some r ∧ r.1 = m.val id) (hfr : Fr (fun b => b ∈ fpIds m h ids) w w') :
    HR w0 mine w' (m.marks ids rl) (setRows (h.map (Blk.clamp (los h h.length ids))) ids bl) ∧ Keeps w w' m (m.marks ids rl) h (setRows (h.map (Blk.clamp (los h h.length ids))) ids bl) (los h h.length ids) := by
  have hids : ∀ id ∈ ids, ∃ k, ids[k]? = some id := fun id hid => List.getElem?_of_mem hid
  have hidl : ∀ id ∈ ids, id < h.length := fun id hid => by
    obtain ⟨k, hk⟩ := hids id hid
    obtain ⟨_, _, _, _, _, _, h1, _⟩ := hrow k id hk
    exact (List.getElem?_eq_some_iff.1 h1).1
  have nin : ∀ (k id : Nat), ids[k]? = some id → ∃ r : RowR, rl[k]? = some r ∧ r.1 = m.val id ∧ (m.marks ids rl).nst id = r.2 := fun k id hk => by
    obtain ⟨r, hr, e⟩ := hval k id hk
    refine ⟨r, hr, e, ?_⟩
    have e2 : posOf ids 0 id = some k := by rw [posOf_at hn hk, Nat.zero_add]
    simp only [Mp.marks, e2, List.getD, hr, Option.getD_some]
  have nout : ∀ id, id ∉ ids → (m.marks ids rl).nst id = m.nst id := fun id hid => by simp only [Mp.marks, posOf_no hid]
  have hmem : ∀ {k : Nat} {r : RowR}, rl[k]? = some r → ∀ b ∈ r.fp, b ∈ fpIds m h ids ∨ w.heap.size ≤ b := fun hk b hb => hBm b (List.mem_flatMap.2 ⟨_, List.mem_of_getElem? hk, hb⟩)
  have get : ∀ i y, (setRows (h.map (Blk.clamp (los h h.length ids))) ids bl)[i]? = some y → (∃ k e t ys r, ids[k]? = some i ∧ y = .row e t ys true true 0 ∧ rl[k]? = some r ∧ r.1 = m.val i ∧ (m.marks ids rl).nst i = r.2 ∧ RowOk w' y r) ∨ (i ∉ ids ∧ ∃ x, h[i]? = some x ∧ y = x.clamp (los h h.length ids)) := fun i y hy => by
    by_cases hi : i ∈ ids
    · obtain ⟨k, hk⟩ := hids i hi
      rw [setRows_at ids bl _ hn hlen (fun j hj => by simpa using hidl j hj) k i hk] at hy
      obtain ⟨e, t, xs, ys, mt, n, h1, h2⟩ := hrow k i hk
      rw [hy] at h2; cases h2
      obtain ⟨r, hr, e1, e2⟩ := nin k i hk
      obtain ⟨r', hr', hok⟩ := hf.get hy
      rw [hr] at hr'; cases hr'
      exact .inl ⟨k, e, t, ys, r, hk, rfl, hr, e1, e2, hok⟩
    · rw [setRows_other ids bl _ i hi, List.getElem?_map] at hy
      cases hx : h[i]? with
      | none => rw [hx] at hy; simp at hy
      | some x => rw [hx] at hy; simp at hy; exact .inr ⟨hi, x, rfl, hy.symm⟩
  have fpin : ∀ i e t ys r, (m.marks ids rl).nst i = r.2 → r.1 = m.val i → fpB (m.marks ids rl) i (.row e t ys true true 0) = RowR.fp r := fun i e t ys r h1 h2 => by
    simp only [fpB, RowR.fp, h1, h2]; rfl
  have fpout : ∀ i x, i ∉ ids → ∀ b, b ∈ fpB (m.marks ids rl) i (x.clamp (los h h.length ids)) → b ∈ fpB m i x := fun i x hi b hb => by
    cases x with
    | dead => exact hb
    | box cs => exact hb
    | nst F t hs vs => exact hb
    | row e t xs dp mt n =>
      cases dp with
      | true =>
        have hb : b ∈ (m.val i).ownBlock.toList ++ (m.marks ids rl).nst i := hb
        rw [nout i hi] at hb; exact hb
      | false =>
        simp only [Blk.clamp] at hb
        split at hb
        · exact hb
        · simp [fpB] at hb
  have notB : ∀ i x, i ∉ ids → h[i]? = some x → ∀ b ∈ fpB m i x, b ∉ fpIds m h ids := fun i x hi hx b hb hB' => by
    obtain ⟨id, y, hid, hy, hb'⟩ := fpIds_mem hB'
    exact H.dj i x id y (fun e => hi (e ▸ hid)) hx hy b hb hb'
  have same : ∀ i x, i ∉ ids → h[i]? = some x → ∀ b ∈ fpB m i x, w'.heap[b]? = w.heap[b]? := fun i x hi hx b hb => hfr.block b (H.lt i x hx b hb).1 (notB i x hi hx b hb)
  have K : Keeps w w' m (m.marks ids rl) h (setRows (h.map (Blk.clamp (los h h.length ids))) ids bl) (los h h.length ids) := by
    refine ⟨fun n b hle hb hl => ?_, fun id x hx => ?_⟩
    · have hnb := fpIds_ok hb hle
      refine ⟨hfr.block b hl hnb, hb.1, fun i y hy => ?_⟩
      rcases get i y hy with ⟨k, e, t, ys, r, hk, rfl, hr, e1, e2, _⟩ | ⟨hi, x, hx, rfl⟩
      · have hno : b ∉ r.fp := fun hm => by
          rcases hmem hr b hm with h1 | h1
          · exact hnb h1
          · omega
        refine ⟨fun _ ho => hno ?_, fun _ _ hm => hno ?_⟩
        · have ho : (m.val i).ownBlock = some b := ho
          simp only [RowR.fp, e1, ho]; simp
        · rw [e2] at hm; simp only [RowR.fp]; exact List.mem_append_right _ hm
      · have := hb.2 i x hx
        cases x with
        | dead => trivial
        | box cs => exact this
        | nst F t hs vs => exact this
        | row e t xs dp mt k =>
          cases dp with
          | true =>
            refine ⟨this.1, fun h1 h2 => ?_⟩
            rw [nout i hi]; exact this.2 h1 h2
          | false =>
            simp only [Blk.clamp]
            split
            · exact ⟨this.1, fun h => by simp at h⟩
            · trivial
    · by_cases hi : id ∈ ids
      · obtain ⟨k, hk⟩ := hids id hi
        obtain ⟨e, t, xs, ys, mt, n, h1, h2⟩ := hrow k id hk
        rw [hx] at h1; cases h1
        refine ⟨.row e t ys true true 0, (by rw [setRows_at ids bl _ hn hlen (fun j hj => by simpa using hidl j hj) k id hk]; exact h2), rfl, rfl⟩
      · refine ⟨x.clamp (los h h.length ids), by rw [setRows_other ids bl _ id hi, List.getElem?_map, hx]; rfl, ?_⟩
        have hb := H.br id x hx
        cases x with
        | dead => trivial
        | box cs => rfl
        | nst F t hs vs => trivial
        | row e t xs dp mt k =>
          cases dp with
          | true => exact ⟨rfl, rfl⟩
          | false =>
            simp only [Blk.clamp]
            split
            · exact ⟨rfl, rfl⟩
            · exact BR.rowOne hb
  refine ⟨⟨fun i y hy => ?_, fun i y hy => ?_, fun i y i' y' hne hy hy' b hb hb' => ?_, fun i y hy b hb => ?_, ?_, H.mx, H.nx, fun i v hp => ?_⟩, K⟩
  · rcases get i y hy with ⟨k, e, t, ys, r, hk, rfl, hr, e1, e2, hok⟩ | ⟨hi, x, hx, rfl⟩
    · obtain ⟨e', t', xs', inner, hy', ho, hm⟩ := hok
      cases hy'
      refine ⟨inner, ?_, ?_, Nat.zero_le _⟩
      · have : (m.marks ids rl).val i = r.1 := e1.symm
        rw [this]; exact ho
      · rw [e2]; exact hm
    · have hb := H.br i x hx
      have sm := same i x hi hx
      cases x with
      | dead => trivial
      | box cs =>
        obtain ⟨arr, ty, h1, h2, h3⟩ := hb
        refine ⟨arr, ty, (sm (m.blk i) (by simp [fpB])).trans h1, ?_, h3⟩
        exact F2_clamp K h2
      | nst F t hs vs => exact Nsts_step hb sm
      | row e t xs dp mt k =>
        obtain ⟨inner, h1, h2⟩ := hb
        have ho := ownsRow_move h1 fun b hv => sm b (by simp [fpB, hv])
        cases dp with
        | true =>
          refine ⟨inner, ho, ?_, h2.2⟩
          rw [nout i hi]
          exact h2.1.imp fun x c b hk hx => M_step hx fun k' hk' => sm k' (by simp only [fpB]; exact List.mem_append_right _ (hk k' hk'))
        | false =>
          simp only [Blk.clamp]
          split
          · rename_i hle
            exact ⟨inner, ho, h2.imp fun x c hk => K_step (fun b hb hlt => (K.ok k b hle hb hlt).1) (fun b hb hlt => (K.ok k b hle hb hlt).2) hk⟩
          · trivial
  · rcases get i y hy with ⟨k, e, t, ys, r, hk, rfl, hr, e1, e2, hok⟩ | ⟨hi, x, hx, rfl⟩
    · rw [fpin i e t ys r e2 e1]
      exact flatMap_nodup hBn hr
    · have := H.nd i x hx
      cases x with
      | dead => exact this
      | box cs => exact this
      | nst F t hs vs => exact this
      | row e t xs dp mt n =>
        cases dp with
        | true =>
          have e : fpB (m.marks ids rl) i ((Blk.row e t xs true mt n).clamp (los h h.length ids)) = fpB m i (.row e t xs true mt n) := by
            show (m.val i).ownBlock.toList ++ (m.marks ids rl).nst i = _
            rw [nout i hi]; rfl
          rw [e]; exact this
        | false =>
          simp only [Blk.clamp]
          split
          · exact this
          · exact List.nodup_nil
  · rcases get i y hy with ⟨k, e, t, ys, r, hk, rfl, hr, e1, e2, hok⟩ | ⟨hi, x, hx, rfl⟩
    · rw [fpin i e t ys r e2 e1] at hb
      rcases get i' y' hy' with ⟨k', e', t', ys', r', hk', rfl, hr', e1', e2', hok'⟩ | ⟨hi', x', hx', rfl⟩
      · rw [fpin i' e' t' ys' r' e2' e1'] at hb'
        refine flatMap_disj hBn (fun ek => hne ?_) hr hr' b hb hb'
        subst ek
        rw [hk] at hk'; cases hk'; rfl
      · have hb2 := fpout i' x' hi' b hb'
        rcases hmem hr b hb with h1 | h1
        · exact notB i' x' hi' hx' b hb2 h1
        · have := (H.lt i' x' hx' b hb2).1
          omega
    · rcases get i' y' hy' with ⟨k', e', t', ys', r', hk', rfl, hr', e1', e2', hok'⟩ | ⟨hi', x', hx', rfl⟩
      · rw [fpin i' e' t' ys' r' e2' e1'] at hb'
        have hb2 := fpout i x hi b hb
        rcases hmem hr' b hb' with h1 | h1
        · exact notB i x hi hx b hb2 h1
        · have := (H.lt i x hx b hb2).1
          omega
      · exact H.dj i x i' x' hne hx hx' b (fpout i x hi b hb) (fpout i' x' hi' b hb')
  · rcases get i y hy with ⟨k, e, t, ys, r, hk, rfl, hr, e1, e2, hok⟩ | ⟨hi, x, hx, rfl⟩
    · rw [fpin i e t ys r e2 e1] at hb
      rcases hmem hr b hb with h1 | h1
      · obtain ⟨id, z, hid, hz, hb2⟩ := fpIds_mem h1
        have := H.lt id z hz b hb2
        exact ⟨Nat.lt_of_lt_of_le this.1 hfr.size, this.2⟩
      · refine ⟨?_, .inl (Nat.le_trans H.fr.size h1)⟩
        obtain ⟨e', t', xs', inner, hy', ho, hm⟩ := hok
        rcases List.mem_append.1 hb with hb | hb
        · exact (ho.lt b (by simpa using hb)).2
        · exact Ms_lt (fun x c b hx => M_lt hx) hm b hb
    · have := H.lt i x hx b (fpout i x hi b hb)
      exact ⟨Nat.lt_of_lt_of_le this.1 hfr.size, this.2⟩
  · refine H.fr.trans hfr fun k hk => ?_
    obtain ⟨id, z, hid, hz, hb2⟩ := fpIds_mem hk
    exact (H.lt id z hz k hb2).2
  · obtain ⟨h1, h2⟩ := H.pn i v hp
    exact ⟨by rw [setRows_len]; simpa using h1, h2⟩
end
end Go.T
/- T: calls that mark own rows; those that mark rows held by elements. -/
namespace Go.T
open Go

section
variable {P : Program} {w0 w w' : World} {mine : Mine} {m m' : Mp} {h : List Blk} {st : St} {a : Act} {o : Oper} {next : Act → World → Prop} {Q : Exit → Act → World → Prop}

end
end Go.T
/- T: calls that mark rows held by elements. -/
namespace Go.T
open Go

structure Gms where
  e : Nat
  t : Ty
  pre : List (Val t) → Int → Prop
  fv : List (Val t) → Int → List (Val t)
  fk : List (Val t) → Int → Int
@[reducible] def Gms.gm (g : Gms) : Gm := { t := ⟨.slice g.e g.t, false, [], false⟩, pre := g.pre, fv := g.fv, fk := g.fk }

structure SoundMs (P : Program) (f : FuncId) (g : Gms) : Prop where
  enters : Enters P f
  runs : ∀ (x : List (Val g.t)) (n : Int), g.pre x n → ∀ (w : World) (B : List Nat) (u : Value), M w (.slice g.e g.t) x [u] B → B.Nodup →
    Calls P f #[u, .int .i64 n] w fun e w' => e = .returned (.int .i64 (g.fk x n)) ∧ Fr (fun b => b ∈ B) w w' ∧ M w' (.slice g.e g.t) (g.fv x n) [u] B
theorem SoundMs.gm {P : Program} {f : FuncId} {g : Gms} (S : SoundMs P f g) : SoundM P f g.gm := ⟨S.enters, fun x n hx w cs B u hM hB hw => by
  have hw : cs = [u] := hw
  subst hw
  exact Calls.mono (S.runs x n hx w B u hM hB) fun e w' h => ⟨h.1, h.2.1, B, h.2.2, hB, fun b hb => .inl hb⟩⟩

def getS (e' : Nat) (t' : Ty) : (t : Ty) → Nat → Val t → Option (List (Val t'))
  | .slice e t, 0, v => if he : e = e' ∧ t = t' then some (he.2 ▸ v) else none
  | .pair a b, f, v => if f < a.sz then getS e' t' a f v.1 else getS e' t' b (f - a.sz) v.2
  | _, _, _ => none
def setS (e' : Nat) (t' : Ty) : (t : Ty) → Nat → Val t → List (Val t') → Val t
  | .slice e t, 0, v, y => if he : e = e' ∧ t = t' then he.2 ▸ y else v
  | .pair a b, f, v, y => if f < a.sz then (setS e' t' a f v.1 y, v.2) else (v.1, setS e' t' b (f - a.sz) v.2 y)
  | _, _, v, _ => v
def getH : (t : Ty) → Nat → Val (hd t) → Option Value
  | .slice _ _, 0, h => some h
  | .pair a b, f, h => if f < a.sz then getH a f h.1 else getH b (f - a.sz) h.2
  | _, _, _ => none

def stepMkH (g : Gms) (jn f : Nat) (i x y : LV) (d : Option Tmp) (st : St) : Res := match i, x, y, st.heap[jn]? with
  | .one (.int _ i), .one (.hdr u), .one (.int .i64 n), some (.nst F t hs vs) =>
    match getS g.e g.t t f (vs.getD i.toNat (dflt t)), getH t f (hs.getD i.toNat (dflt (hd t))) with
    | some xs, some u' => some (i.toNat < vs.length ∧ i.toNat < hs.length ∧ u' = u ∧ g.pre xs n,
        St.put ⟨st.env, st.heap.set jn (.nst F t hs (vs.set i.toNat (setS g.e g.t t f (vs.getD i.toNat (dflt t)) (g.fv xs n))))⟩ d (.one (.int .i64 (g.fk xs n))))
    | _, _ => none
  | _, _, _, _ => none

section
variable {P : Program} {w0 w w' : World} {mine : Mine} {m m' : Mp} {h : List Blk} {st : St} {a : Act} {o : Oper} {next : Act → World → Prop} {Q : Exit → Act → World → Prop}

end
end Go.T
/- T: functions that mark their argument. -/
namespace Go.T
open Go

def rowAt (h : List Blk) (id : Nat) : Bool := match h[id]? with
  | some (.row ..) => true
  | _ => false
def retM1 (tt : TT) (t : Ty) (cells : List LC) (rvs : List ResultVar) (st : St) : Option (Val t × Int) := match resLVs tt st rvs with
  | some [.one (.int .i64 k)] => match implode st.heap t cells with
    | some (y, []) => bif deepOf st.heap cells && nodupB (moved cells) && (moved cells).all (rowAt st.heap) then some (y, k) else none
    | _ => none
  | _ => none
noncomputable def retMS (tt : TT) (e : Nat) (t th : Ty) (F : List Nat) (hs : List (Val (hd t))) (rvs : List ResultVar) (st : St) : Option (List (Val th) × List (Val t) × Int) := match resLVs tt st rvs with
  | some [.one (.int .i64 k)] => match st.heap[0]?, st.heap[1]? with
    | some (Blk.row e' t' ys true _ _), some (Blk.nst F' t'' hs' vs) => if hc : e' = e ∧ t' = th ∧ t'' = t then chk (F' = F ∧ hc.2.2 ▸ hs' = hs) (some (hc.2.1 ▸ ys, hc.2.2 ▸ vs, k)) else none
    | _, _ => none
  | _ => none
def retX {ρ : Type} (r : St → Option ρ) : X → St → Option ρ
  | .normal, st => r st
  | .ret, st => r st
  | .exit _, _ => none

section
variable {P : Program} {tt : TT} {Γ : Gam} {w0 w w' : World} {mine : Mine} {m m' : Mp} {h : List Blk} {st : St} {a : Act}

end
end Go.T
/- T: functions that mark a slice, and what its elements hold. -/
namespace Go.T
open Go

section
variable {P : Program} {tt : TT} {Γ : Gam} {w0 w w' : World} {mine : Mine} {m m' : Mp} {h : List Blk} {st : St} {a : Act}

end
end Go.T
/- T: the steps that mark. -/
namespace Go.T
open Go

abbrev Owns := List (Nat × Gm)
abbrev Hdrs := List (Nat × Nat × Gms × Nat × Nat)
def Owns.get : Owns → Nat → Option Gm
  | [], _ => none
  | (f, g) :: r, f' => if f = f' then some g else Owns.get r f'
def Hdrs.get : Hdrs → Nat → Option (Nat × Gms × Nat × Nat)
  | [], _ => none
  | (d, x) :: r, d' => if d = d' then some x else Hdrs.get r d'
def markSem (ow : Owns) (hs : Hdrs) : Sem := fun o st => match o.op, o.dst with
  | .call c, some d => match c.callee, c.args.toList with
    | .value (.func f), [x, y] => match Hdrs.get hs d with
      | some (f', g, fo, ix) => if f' = f then stepMkH g 1 fo (st.ev (.tmp ix)) (st.ev x) (st.ev y) (some d) st else none
      | none => match Owns.get ow f with
        | some g => stepMk g (st.ev x) (st.ev y) (some d) st
        | none => none
    | _, _ => none
  | _, _ => none
attribute [simp] Owns.get Hdrs.get markSem stepMk stepMkH setRows noNil getS setS getH LC.clamp LV.clamp Blk.clamp retM1 retMS rowAt
section
variable {ρ : Type} {r : St → Option ρ} {e : List LV} {h : List Blk} {st : St}
@[simp] theorem retX_ret : retX r .ret st = r st := rfl
@[simp] theorem retX_normal : retX r .normal st = r st := rfl
end
end Go.T
/- Plain: marks and what is held. -/
namespace Go.T
open Go

variable {ρ : Type}
end Go.T
/- Plain: what is held; how many marks. -/
namespace Go.T
open Go

variable {ρ : Type}
end Go.T
/- Plain: how many marks there are at most. -/
namespace Go.T
open Go

end Go.T
/- Plain: walks that gather. -/
namespace Go.T
open Go

variable {ρ α β : Type}
theorem foldK_map {f : α → β} {k : List β → Option ρ} : ∀ (xs : List α) (i : Nat) (s : List β), s.length + xs.length ≤ 1048576 →
    foldK (fun _ x (s : List β) K => chk (s.length + [f x].length ≤ 1048576) (K (s ++ [f x]))) i xs s k = k (s ++ xs.map f)
  | [], _, _, _ => by rw [foldK]; simp
  | x :: xs, i, s, h => by
    simp only [List.length_cons] at h
    rw [foldK]
    dsimp only
    rw [chk_pos (by simp; omega), foldK_map xs _ _ (by simp; omega)]; simp
end Go.T
/- T: calls that put an own row's elements into another order. -/
namespace Go.T
open Go

structure Gsr where
  e : Nat
  t : Ty
  cmp : FuncId
  pre : List (Val t) → Prop
  fv : List (Val t) → List (Val t)
structure SoundSr (P : Program) (f : FuncId) (g : Gsr) : Prop where
  enters : Enters P f
  runs : ∀ (x : List (Val g.t)), g.pre x → ∀ (w : World) (B : List Nat) (u : Value), M w (.slice g.e g.t) x [u] B → B.Nodup →
    Calls P f #[u, .func (.func g.cmp) #[] #[]] w fun e w' => e = .returned (.tuple #[]) ∧ Fr (fun b => b ∈ B) w w' ∧ ∃ B', M w' (.slice g.e g.t) (g.fv x) [u] B' ∧ B'.Nodup ∧ ∀ b ∈ B', b ∈ B ∨ w.heap.size ≤ b

def srRow (g : Gsr) (id : Nat) (d : Option Tmp) (st : St) : Option Blk → Res
  | some (.row e t xs true true _) => if hh : e = g.e ∧ t = g.t then some (g.pre (hh.2 ▸ xs), St.put ⟨st.env.map (LV.clamp (los st.heap st.heap.length [id])), setRows (st.heap.map (Blk.clamp (los st.heap st.heap.length [id]))) [id] [.row g.e g.t (g.fv (hh.2 ▸ xs)) true true 0]⟩ d (.tup [])) else none
  | _ => none
def stepSr (g : Gsr) (x y : LV) (d : Option Tmp) (st : St) : Res := match x, y with
  | .one (.own id), .one (.fn c) => if c = g.cmp then srRow g id d st st.heap[id]? else none
  | _, _ => none

section
variable {P : Program} {w0 w w' : World} {mine : Mine} {m m' : Mp} {h : List Blk} {st : St} {a : Act} {o : Oper} {next : Act → World → Prop} {Q : Exit → Act → World → Prop}
theorem snd_sr {f : FuncId} {g : Gsr} (S : SoundSr P f g) {c : Call} {x y : Operand} (ho : o.op = .call c) (hc : c.callee = .value (.func f)) (hargs : c.args = #[x, y]) {p : Prop} {st' : St} (hs : stepSr g (st.ev x) (st.ev y) o.dst st = some (p, st')) (hp : p)
    (hr : R w0 mine st a w) (hn : ∀ a' w', R w0 mine st' a' w' → next a' w') : o.wp P a w next Q := by
  obtain ⟨hd', m, H, he⟩ := hr
  have hx := R.ev H he x
  have hy := R.ev H he y
  unfold stepSr at hs
  split at hs
  · rename_i id k ex ey
    rw [ex] at hx
    rw [ey] at hy
    have hyv : a.eval y = .func (.func k) #[] #[] := hy
    split at hs
    · rename_i hk
      subst hk
      unfold srRow at hs
      split at hs
      · rename_i e t xs n hb
        split at hs
        · rename_i hh
          obtain ⟨rfl, rfl⟩ := hh
          simp only [Option.some.injEq, Prod.mk.injEq] at hs
          obtain ⟨rfl, rfl⟩ := hs
          have hxv : a.eval x = m.val id := by have hx : C w m st.heap (.own id) (a.eval x) := hx; simp only [C, hb] at hx; exact hx
          obtain ⟨inner, hown, hms, hle⟩ := H.br id _ hb
          have hM : M w (.slice g.e g.t) xs [m.val id] (fpB m id (.row g.e g.t xs true true n)) := ⟨m.val id, inner, m.nst id, rfl, rfl, hown, hms⟩
          have hnd := H.nd id _ hb
          unfold Oper.wp
          rw [run_enter ho hc S.enters, Oper.upon_enter]
          have hvs : c.args.map a.eval = #[m.val id, .func (.func g.cmp) #[] #[]] := by rw [hargs]; simp [hyv, hxv]
          rw [hvs]
          refine Calls.mono (S.runs xs hp w _ _ hM hnd) fun e w' he' => ?_
          obtain ⟨rfl, hfr, B', hM', hBn, hBm⟩ := he'
          have hfp : fpIds m st.heap [id] = fpB m id (.row g.e g.t xs true true n) := by simp [fpIds, hb]
          obtain ⟨v, inner', Bs, hv, rfl, hown', hms'⟩ := hM'
          obtain rfl : m.val id = v := by simpa using hv
          obtain ⟨H', K⟩ := mk_HR H (ids := [id]) (by simp) (bl := [.row g.e g.t (g.fv xs) true true 0]) (rl := [(m.val id, Bs)]) rfl (fun k id' hk => by
            cases k with
            | zero => simp at hk; subst hk; exact ⟨_, _, _, _, _, _, hb, rfl⟩
            | succ k => simp at hk) (.cons ⟨_, _, _, inner', rfl, hown', hms'⟩ .nil) (by simpa [RowR.fp] using hBn) (fun b hb' => by
            have hb' : b ∈ (m.val id).ownBlock.toList ++ Bs := by simpa [RowR.fp] using hb'
            rw [hfp]; exact hBm b hb') (fun k id' hk => by
            cases k with
            | zero => simp at hk; subst hk; exact ⟨_, rfl, rfl⟩
            | succ k => simp at hk) (by rw [hfp]; exact hfr)
          refine hn _ _ ⟨by rw [put_defers]; exact hd', m.marks [id] [(m.val id, Bs)], ?_, ?_⟩
          · rw [St.put_heap]; exact H'
          · rw [St.put_heap, St.put_env]
            exact env_put (env_clamp K he) o.dst ⟨#[], rfl, .nil⟩
        · simp at hs
      · simp at hs
    · simp at hs
  · simp at hs
end

structure SoundGr (P : Program) (f : FuncId) (e : Nat) (t : Ty) : Prop where
  enters : Enters P f
  runs : ∀ (n : Nat), n ≤ 1048576 → ∀ (w : World), Calls P f #[.slice none 0 0, .int .i64 n] w fun e' w' => ∃ v, e' = .returned v ∧ Fr (fun _ => False) w w' ∧ w'.ownsRow 0 e t.sz v 0 [] ∧ ∀ b, v.ownBlock = some b → w.heap.size ≤ b
def stepGr (e : Nat) (t : Ty) (x y : LV) (d : Option Tmp) (st : St) : Res := match x, y with
  | .one .nils, .one (.int .i64 n) => some (0 ≤ n ∧ n ≤ 1048576, St.mk (st.put d (.one (.own st.heap.length))).env (st.heap ++ [.row e t [] true true 0]))
  | _, _ => none
section
variable {P : Program} {w0 w w' : World} {mine : Mine} {m m' : Mp} {h : List Blk} {st : St} {a : Act} {o : Oper} {next : Act → World → Prop} {Q : Exit → Act → World → Prop}
theorem snd_gr {f : FuncId} {e : Nat} {t : Ty} (S : SoundGr P f e t) {c : Call} {x y : Operand} (ho : o.op = .call c) (hc : c.callee = .value (.func f)) (hargs : c.args = #[x, y]) {p : Prop} {st' : St} (hs : stepGr e t (st.ev x) (st.ev y) o.dst st = some (p, st')) (hp : p)
    (hr : R w0 mine st a w) (hn : ∀ a' w', R w0 mine st' a' w' → next a' w') : o.wp P a w next Q := by
  obtain ⟨hd', m, H, he⟩ := hr
  have hx := R.ev H he x
  have hy := R.ev H he y
  unfold stepGr at hs
  split at hs
  · rename_i n ex ey
    rw [ex] at hx
    rw [ey] at hy
    have hxv : a.eval x = .slice none 0 0 := hx
    have hyv : a.eval y = .int .i64 n := hy
    simp only [Option.some.injEq, Prod.mk.injEq] at hs
    obtain ⟨rfl, rfl⟩ := hs
    unfold Oper.wp
    rw [run_enter ho hc S.enters, Oper.upon_enter]
    have hvs : c.args.map a.eval = #[.slice none 0 0, .int .i64 (n.toNat : Int)] := by rw [hargs]; simp [hyv, hxv]; omega
    rw [hvs]
    refine Calls.mono (S.runs n.toNat (by omega) w) fun e' w' he' => ?_
    obtain ⟨v, rfl, hfr, hown, hlo⟩ := he'
    have hf : F2 (RowOk w') [.row e t [] true true 0] [((v, []) : RowR)] := .cons ⟨e, t, [], [], rfl, hown, rfl, rfl⟩ .nil
    obtain ⟨H', hok, hsm⟩ := HR.results H hfr hf (by simp only [RowR.fp, List.flatMap_cons, List.flatMap_nil, List.append_nil]; cases v.ownBlock <;> simp) (fun b hb => by
      simp [RowR.fp] at hb
      exact hlo b hb)
    refine hn _ _ ⟨by rw [put_defers]; exact hd', _, H', ?_⟩
    show F2 (V w' _ _) (st.put o.dst _).env _
    rw [St.put_env]
    exact env_put (env_mono hok hsm he) o.dst (l := .one (.own st.heap.length)) (CellR_C hf (c := .own st.heap.length) ⟨0, _, rfl, rfl, rfl⟩).1
  · simp at hs
end

inductive Own1
  | sr (g : Gsr)
  | gr (e : Nat) (t : Ty)
def Own1.Ok (P : Program) (f : FuncId) : Own1 → Prop
  | .sr g => SoundSr P f g
  | .gr e t => SoundGr P f e t
abbrev Srs := List (Nat × Own1)
def Srs.get : Srs → Nat → Option Own1
  | [], _ => none
  | (f, g) :: r, f' => if f = f' then some g else Srs.get r f'
def own1 (g : Own1) (x y : LV) (d : Option Tmp) (st : St) : Res := match g with
  | .sr g => stepSr g x y d st
  | .gr e t => stepGr e t x y d st
def ownSem (sr : Srs) : Sem := fun o st => match o.op with
  | .call c => match c.callee, c.args.toList with
    | .value (.func f), [x, y] => match Srs.get sr f with
      | some g => own1 g (st.ev x) (st.ev y) o.dst st
      | none => none
    | _, _ => none
  | _ => none
theorem ownSem_ok {P : Program} {sr : Srs} (h1 : ∀ f g, Srs.get sr f = some g → g.Ok P f) : SemOk P (ownSem sr) := by
  intro o st p st' hs' hp w0 mine a w next Q hr hn
  unfold ownSem at hs'
  split at hs'
  · rename_i c ho
    split at hs'
    · rename_i f x y hc ha
      split at hs'
      · rename_i g hg
        have ha : c.args = #[x, y] := by rw [← Array.toList_inj, ha]
        have := h1 _ _ hg
        cases g with
        | sr g => exact snd_sr this ho hc ha hs' hp hr hn
        | gr e t => exact snd_gr this ho hc ha hs' hp hr hn
      · simp at hs'
    · simp at hs'
  · simp at hs'
theorem sr_nil {P : Program} : ∀ f g, Srs.get [] f = some g → g.Ok P f := fun _ _ h => by simp [Srs.get] at h
theorem sr_cons {P : Program} {f0 : Nat} {g0 : Own1} {r : Srs} (h0 : g0.Ok P f0) (h : ∀ f g, Srs.get r f = some g → g.Ok P f) : ∀ f g, Srs.get ((f0, g0) :: r) f = some g → g.Ok P f := fun f g hg => by
  simp only [Srs.get] at hg
  split at hg
  · rename_i e; cases hg; subst e; exact h0
  · exact h f g hg
@[simp] theorem find_nst {F : List Nat} {t : Ty} {hs : List (Val (hd t))} {vs : List (Val t)} {r : List Blk} : List.find? isNst (.nst F t hs vs :: r) = some (.nst F t hs vs) := rfl
@[simp] theorem find_box {cs : List LC} {r : List Blk} : List.find? isNst (.box cs :: r) = List.find? isNst r := rfl
@[simp] theorem find_row {e : Nat} {t : Ty} {xs : List (Val t)} {dp mt : Bool} {n : Nat} {r : List Blk} : List.find? isNst (.row e t xs dp mt n :: r) = List.find? isNst r := rfl
@[simp] theorem find_dead {r : List Blk} : List.find? isNst (.dead :: r) = List.find? isNst r := rfl
attribute [simp] Srs.get ownSem own1 stepSr srRow stepGr isNst callN cnvLs cnvL cnvCs cnvC cnvR hasHdr opnSt preR
end Go.T
