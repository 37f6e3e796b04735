/- T: what the machine's memory says of T's values and states. -/
import Derived.Test.YtkjiecjpdbpghaaT2
import Derived.Laws.OwnMore
namespace Go.T
open Go

/-! ### lists -/
inductive F2 {α β : Type} (R : α → β → Prop) : List α → List β → Prop
  | nil : F2 R [] []
  | cons {a b as bs} : R a b → F2 R as bs → F2 R (a :: as) (b :: bs)

namespace F2
variable {α β : Type} {R S : α → β → Prop}
theorem imp {as : List α} {bs : List β} (h : F2 R as bs) (f : ∀ a b, a ∈ as → R a b → S a b) : F2 S as bs := by
  induction h with
  | nil => exact .nil
  | cons hr _ ih => exact .cons (f _ _ (by simp) hr) (ih fun a b ha hr => f a b (by simp [ha]) hr)
theorem len {as : List α} {bs : List β} (h : F2 R as bs) : as.length = bs.length := by
  induction h with
  | nil => rfl
  | cons _ _ ih => simp [ih]
theorem append {as as' : List α} {bs bs' : List β} (h : F2 R as bs) (h' : F2 R as' bs') : F2 R (as ++ as') (bs ++ bs') := by
  induction h with
  | nil => exact h'
  | cons hr _ ih => exact .cons hr ih
theorem get {as : List α} {bs : List β} (h : F2 R as bs) {i : Nat} {a : α} (ha : as[i]? = some a) : ∃ b, bs[i]? = some b ∧ R a b := by
  induction h generalizing i with
  | nil => simp at ha
  | cons hr _ ih =>
    cases i with
    | zero => simp at ha; subst ha; exact ⟨_, by simp, hr⟩
    | succ i => simpa using ih (by simpa using ha)
theorem get' {as : List α} {bs : List β} (h : F2 R as bs) {i : Nat} {b : β} (hb : bs[i]? = some b) : ∃ a, as[i]? = some a ∧ R a b := by
  induction h generalizing i with
  | nil => simp at hb
  | cons hr _ ih =>
    cases i with
    | zero => simp at hb; subst hb; exact ⟨_, by simp, hr⟩
    | succ i => simpa using ih (by simpa using hb)
theorem take {as : List α} {bs : List β} (h : F2 R as bs) (n : Nat) : F2 R (as.take n) (bs.take n) := by
  induction h generalizing n with
  | nil => simp; exact .nil
  | cons hr _ ih =>
    cases n with
    | zero => simp; exact .nil
    | succ n => simp; exact .cons hr (ih n)
theorem drop {as : List α} {bs : List β} (h : F2 R as bs) (n : Nat) : F2 R (as.drop n) (bs.drop n) := by
  induction h generalizing n with
  | nil => simp; exact .nil
  | cons hr hs ih =>
    cases n with
    | zero => simpa using .cons hr hs
    | succ n => simpa using ih n
theorem split {as as' : List α} {bs : List β} (h : F2 R (as ++ as') bs) : ∃ b1 b2, bs = b1 ++ b2 ∧ F2 R as b1 ∧ F2 R as' b2 := by
  refine ⟨bs.take as.length, bs.drop as.length, by simp, ?_, ?_⟩
  · simpa using h.take as.length
  · simpa using h.drop as.length
theorem set {as : List α} {bs : List β} (h : F2 R as bs) (i : Nat) {a : α} {b : β} (hr : R a b) : F2 R (as.set i a) (bs.set i b) := by
  induction h generalizing i with
  | nil => simp; exact .nil
  | cons hr' hs ih =>
    cases i with
    | zero => simpa using .cons hr hs
    | succ i => simpa using .cons hr' (ih i)
end F2

/-! ### values in memory -/
def At (w : World) (a : Addr) (cs : List Value) : Prop := ∀ j u, cs[j]? = some u → w.cell? (a.add j) = some u

def Rd {α : Type} (w : World) (ok : Nat → Prop) (sz : Nat) (R : α → List Value → Prop) (A : Option Addr) (xs : List α) : Prop :=
  ∀ i x, xs[i]? = some x → ∃ a cs, A = some a ∧ ok a.block ∧ R x cs ∧ At w (a.add (i * sz)) cs

/-- What is read: the rows on the way lie in blocks that are ok. -/
def K (w : World) (ok : Nat → Prop) : (t : Ty) → Val t → List Value → Prop
  | .int k, n, cs => cs = [.int k n]
  | .bool, b, cs => cs = [.bool b]
  | .str, s, cs => cs = [.string s]
  | .slice _ t, xs, cs => ∃ A c, cs = [.slice A xs.length c] ∧ xs.length ≤ c ∧ Rd w ok t.sz (K w ok t) A xs
  | .pair a b, v, cs => ∃ c1 c2, cs = c1 ++ c2 ∧ K w ok a v.1 c1 ∧ K w ok b v.2 c2

/-- Rows of parts: cells (and blocks) one behind the other. -/
def Ks {α : Type} (R : α → List Value → Prop) : List α → List Value → Prop
  | [], cs => cs = []
  | x :: xs, cs => ∃ c1 c2, cs = c1 ++ c2 ∧ R x c1 ∧ Ks R xs c2
def Ms {α : Type} (R : α → List Value → List Nat → Prop) : List α → List Value → List Nat → Prop
  | [], cs, B => cs = [] ∧ B = []
  | x :: xs, cs, B => ∃ c1 c2 B1 B2, cs = c1 ++ c2 ∧ B = B1 ++ B2 ∧ R x c1 B1 ∧ Ms R xs c2 B2

/-- What is a call's own: B are its blocks, in line. -/
def M (w : World) : (t : Ty) → Val t → List Value → List Nat → Prop
  | .int k, n, cs, B => cs = [.int k n] ∧ B = []
  | .bool, b, cs, B => cs = [.bool b] ∧ B = []
  | .str, s, cs, B => cs = [.string s] ∧ B = []
  | .slice e t, xs, cs, B => ∃ v inner Bs, cs = [v] ∧ B = v.ownBlock.toList ++ Bs ∧ w.ownsRow 0 e t.sz v xs.length inner ∧ Ms (M w t) xs inner Bs
  | .pair a b, v, cs, B => ∃ c1 c2 B1 B2, cs = c1 ++ c2 ∧ B = B1 ++ B2 ∧ M w a v.1 c1 B1 ∧ M w b v.2 c2 B2

theorem Ty.sz_pos : ∀ t : Ty, 0 < t.sz
  | .pair a b => by have := a.sz_pos; simp [Ty.sz]; omega
  | .int _ | .bool | .str | .slice _ _ => by simp [Ty.sz]

theorem addr_add_add (a : Addr) (i j : Nat) : (a.add i).add j = a.add (i + j) := by
  unfold Addr.add
  by_cases hi : i = 0
  · simp [hi]
  · by_cases hj : j = 0
    · simp [hi, hj]
    · simp [hi, hj, Nat.add_assoc]
theorem addr_add_block (a : Addr) (i : Nat) : (a.add i).block = a.block := by unfold Addr.add; split <;> rfl

theorem At.block_lt {w : World} {a : Addr} {cs : List Value} (h : At w a cs) (hl : 0 < cs.length) : a.block < w.heap.size := by
  have hc := h 0 cs[0] (by simp [List.getElem?_eq_getElem hl])
  have := World.block_lt_of_cell? w _ hc
  rwa [addr_add_block] at this
theorem At.move {w w' : World} {a : Addr} {cs : List Value} (h : At w a cs) (hb : w'.heap[a.block]? = w.heap[a.block]?) : At w' a cs := by
  intro j u hu
  rw [World.cell?_of_block (w := w) (by rw [addr_add_block]; exact hb)]
  exact h j u hu
theorem At.append {w : World} {a : Addr} {c1 c2 : List Value} (h : At w a (c1 ++ c2)) : At w a c1 ∧ At w (a.add c1.length) c2 := by
  constructor
  · intro j u hu
    have hj : j < c1.length := (List.getElem?_eq_some_iff.1 hu).1
    exact h j u (by rw [List.getElem?_append_left hj]; exact hu)
  · intro j u hu
    rw [addr_add_add]
    exact h _ u (by rw [List.getElem?_append_right (by omega)]; simpa using hu)
theorem At.sub {w : World} {a : Addr} {cs : List Value} (h : At w a cs) (f n : Nat) : At w (a.add f) ((cs.drop f).take n) := by
  intro j u hu
  rw [addr_add_add]
  apply h
  rw [List.getElem?_take] at hu
  split at hu
  · simpa using hu
  · cases hu

theorem K_len {w : World} {ok : Nat → Prop} : ∀ {t : Ty} {v : Val t} {cs : List Value}, K w ok t v cs → cs.length = t.sz
  | .int _, _, _, h => by rw [K] at h; rw [h]; rfl
  | .bool, _, _, h => by rw [K] at h; rw [h]; rfl
  | .str, _, _, h => by rw [K] at h; rw [h]; rfl
  | .slice _ _, _, _, h => by rw [K] at h; obtain ⟨A, c, rfl, _⟩ := h; rfl
  | .pair a b, _, _, h => by
    rw [K] at h
    obtain ⟨c1, c2, rfl, h1, h2⟩ := h
    rw [List.length_append, K_len h1, K_len h2]; rfl
theorem K_one {w : World} {ok : Nat → Prop} : ∀ {t : Ty} {v : Val t} {cs : List Value}, K w ok t v cs → ∀ u ∈ cs, u.oneCell' = true
  | .int _, _, _, h => by rw [K] at h; rw [h]; simp [Value.oneCell']
  | .bool, _, _, h => by rw [K] at h; rw [h]; simp [Value.oneCell']
  | .str, _, _, h => by rw [K] at h; rw [h]; simp [Value.oneCell']
  | .slice _ _, _, _, h => by rw [K] at h; obtain ⟨A, c, rfl, _⟩ := h; simp [Value.oneCell']
  | .pair a b, _, _, h => by
    rw [K] at h
    obtain ⟨c1, c2, rfl, h1, h2⟩ := h
    intro u hu
    rcases List.mem_append.1 hu with hu | hu
    · exact K_one h1 u hu
    · exact K_one h2 u hu
/-- What is read stays, where the blocks stay. -/
theorem K_step {w w' : World} {ok ok' : Nat → Prop} (hm : ∀ b, ok b → b < w.heap.size → w'.heap[b]? = w.heap[b]?) (hok : ∀ b, ok b → b < w.heap.size → ok' b) :
    ∀ {t : Ty} {v : Val t} {cs : List Value}, K w ok t v cs → K w' ok' t v cs
  | .int _, _, _, h => by rw [K] at h ⊢; exact h
  | .bool, _, _, h => by rw [K] at h ⊢; exact h
  | .str, _, _, h => by rw [K] at h ⊢; exact h
  | .slice _ t, xs, _, h => by
    rw [K] at h ⊢
    obtain ⟨A, c, rfl, hl, hr⟩ := h
    refine ⟨A, c, rfl, hl, fun i x hx => ?_⟩
    obtain ⟨a, cs, hA, ha, hK, hat⟩ := hr i x hx
    have hlt : a.block < w.heap.size := by
      have := hat.block_lt (by rw [K_len hK]; exact t.sz_pos)
      rwa [addr_add_block] at this
    exact ⟨a, cs, hA, hok _ ha hlt, K_step hm hok hK, hat.move (by rw [addr_add_block]; exact hm _ ha hlt)⟩
  | .pair a b, _, _, h => by
    rw [K] at h ⊢
    obtain ⟨c1, c2, rfl, h1, h2⟩ := h
    exact ⟨c1, c2, rfl, K_step hm hok h1, K_step hm hok h2⟩
theorem Rd_step {w w' : World} {ok ok' : Nat → Prop} (hm : ∀ b, ok b → b < w.heap.size → w'.heap[b]? = w.heap[b]?) (hok : ∀ b, ok b → b < w.heap.size → ok' b)
    {t : Ty} {A : Option Addr} {xs : List (Val t)} (h : Rd w ok t.sz (K w ok t) A xs) : Rd w' ok' t.sz (K w' ok' t) A xs := by
  intro i x hx
  obtain ⟨a, cs, hA, ha, hK, hat⟩ := h i x hx
  have hlt : a.block < w.heap.size := by
    have := hat.block_lt (by rw [K_len hK]; exact t.sz_pos)
    rwa [addr_add_block] at this
  exact ⟨a, cs, hA, hok _ ha hlt, K_step hm hok hK, hat.move (by rw [addr_add_block]; exact hm _ ha hlt)⟩

/-! ### rows of parts -/
section
variable {α : Type} {R S : α → List Value → Prop}
theorem Ks.imp {xs : List α} {cs : List Value} (h : Ks R xs cs) (f : ∀ x c, R x c → S x c) : Ks S xs cs := by
  induction xs generalizing cs with
  | nil => exact h
  | cons x xs ih => obtain ⟨c1, c2, rfl, h1, h2⟩ := h; exact ⟨c1, c2, rfl, f _ _ h1, ih h2⟩
theorem Ks.len {xs : List α} {cs : List Value} {sz : Nat} (hs : ∀ x c, R x c → c.length = sz) (h : Ks R xs cs) : cs.length = xs.length * sz := by
  induction xs generalizing cs with
  | nil => rw [Ks] at h; rw [h]; simp
  | cons x xs ih =>
    obtain ⟨c1, c2, rfl, h1, h2⟩ := h
    rw [List.length_append, hs _ _ h1, ih h2, List.length_cons, Nat.succ_mul, Nat.add_comm]
theorem Ks.append {xs ys : List α} {cs ds : List Value} (h : Ks R xs cs) (h' : Ks R ys ds) : Ks R (xs ++ ys) (cs ++ ds) := by
  induction xs generalizing cs with
  | nil => rw [Ks] at h; subst h; exact h'
  | cons x xs ih =>
    obtain ⟨c1, c2, rfl, h1, h2⟩ := h
    exact ⟨c1, c2 ++ ds, by simp, h1, ih h2⟩
theorem Ks.get {xs : List α} {cs : List Value} {sz : Nat} (hs : ∀ x c, R x c → c.length = sz) (h : Ks R xs cs) {i : Nat} {x : α} (hx : xs[i]? = some x) :
    R x ((cs.drop (i * sz)).take sz) := by
  induction xs generalizing cs i with
  | nil => simp at hx
  | cons y xs ih =>
    obtain ⟨c1, c2, rfl, h1, h2⟩ := h
    cases i with
    | zero =>
      simp at hx
      subst hx
      have := hs _ _ h1
      simp [← this]
      exact h1
    | succ i =>
      have hl := hs _ _ h1
      have := ih h2 (i := i) (by simpa using hx)
      rw [show (i + 1) * sz = c1.length + i * sz by rw [hl, Nat.succ_mul, Nat.add_comm], List.drop_append, List.drop_eq_nil_of_le (by omega)]
      simpa using this
theorem Ks.set {xs : List α} {cs : List Value} {sz : Nat} (hs : ∀ x c, R x c → c.length = sz) (h : Ks R xs cs) (i : Nat) {x : α} {c : List Value} (hi : i < xs.length) (hx : R x c) :
    Ks R (xs.set i x) (cs.take (i * sz) ++ c ++ cs.drop (i * sz + sz)) := by
  induction xs generalizing cs i with
  | nil => simp at hi
  | cons y xs ih =>
    obtain ⟨c1, c2, rfl, h1, h2⟩ := h
    have hl := hs _ _ h1
    cases i with
    | zero =>
      simp only [Nat.zero_mul, List.take_zero, List.nil_append, Nat.zero_add, List.set_cons_zero]
      exact ⟨c, c2, by rw [← hl]; simp, hx, h2⟩
    | succ i =>
      have := ih h2 i (by simpa using hi)
      refine ⟨c1, c2.take (i * sz) ++ c ++ c2.drop (i * sz + sz), ?_, h1, this⟩
      have e : (i + 1) * sz = c1.length + i * sz := by rw [hl, Nat.succ_mul, Nat.add_comm]
      rw [e, show c1.length + i * sz + sz = c1.length + (i * sz + sz) by omega, List.drop_append, List.take_append, List.drop_eq_nil_of_le (by omega), List.take_of_length_le (by omega)]
      simp
end
section
variable {α : Type} {R S : α → List Value → List Nat → Prop}
theorem Ms.imp {xs : List α} {cs : List Value} {B : List Nat} (h : Ms R xs cs B) (f : ∀ x c b, (∀ k ∈ b, k ∈ B) → R x c b → S x c b) : Ms S xs cs B := by
  induction xs generalizing cs B with
  | nil => exact h
  | cons x xs ih =>
    obtain ⟨c1, c2, B1, B2, rfl, rfl, h1, h2⟩ := h
    exact ⟨c1, c2, B1, B2, rfl, rfl, f _ _ _ (fun k hk => List.mem_append_left _ hk) h1, ih h2 fun x c b hb => f x c b fun k hk => List.mem_append_right _ (hb k hk)⟩
theorem Ms.toKs {T : α → List Value → Prop} {xs : List α} {cs : List Value} {B : List Nat} (h : Ms R xs cs B) (f : ∀ x c b, (∀ k ∈ b, k ∈ B) → R x c b → T x c) : Ks T xs cs := by
  induction xs generalizing cs B with
  | nil => exact h.1
  | cons x xs ih =>
    obtain ⟨c1, c2, B1, B2, rfl, rfl, h1, h2⟩ := h
    exact ⟨c1, c2, rfl, f _ _ _ (fun k hk => List.mem_append_left _ hk) h1, ih h2 fun x c b hb => f x c b fun k hk => List.mem_append_right _ (hb k hk)⟩
theorem Ms.append {xs ys : List α} {cs ds : List Value} {B D : List Nat} (h : Ms R xs cs B) (h' : Ms R ys ds D) : Ms R (xs ++ ys) (cs ++ ds) (B ++ D) := by
  induction xs generalizing cs B with
  | nil => obtain ⟨rfl, rfl⟩ := h; exact h'
  | cons x xs ih =>
    obtain ⟨c1, c2, B1, B2, rfl, rfl, h1, h2⟩ := h
    exact ⟨c1, c2 ++ ds, B1, B2 ++ D, by simp, by simp, h1, ih h2⟩
end

/-- A row of parts at an address is read as a row. -/
theorem Rd.of_Ks {α : Type} {w : World} {ok : Nat → Prop} {sz : Nat} {R : α → List Value → Prop} {a : Addr} {xs : List α} {cs : List Value}
    (hs : ∀ x c, R x c → c.length = sz) (h : Ks R xs cs) (hat : At w a cs) (ha : ok a.block) : Rd w ok sz R (some a) xs := by
  intro i x hx
  exact ⟨a, _, rfl, ha, h.get hs hx, hat.sub (i * sz) sz⟩

theorem ownsRow_At {w : World} {base : Nat} {e : TypeId} {size : Nat} {v : Value} {n : Nat} {xs : List Value} (h : w.ownsRow base e size v n xs) {g : Nat} (hg : v.ownBlock = some g) : At w ⟨g, 0, none⟩ xs :=
  h.cells hg
theorem ownsRow_slice {w : World} {base : Nat} {e : TypeId} {size : Nat} {v : Value} {n : Nat} {xs : List Value} (h : w.ownsRow base e size v n xs) :
    ∃ A c, v = .slice A n c ∧ n ≤ c ∧ (∀ a, A = some a → v.ownBlock = some a.block ∧ a = ⟨a.block, 0, none⟩) ∧ (A = none → n = 0) := by
  rcases h.2 with ⟨rfl, rfl⟩ | ⟨g, cap, cur, rfl, _, _, hc, _⟩
  · exact ⟨none, 0, rfl, Nat.le_refl _, fun a ha => by simp at ha, fun _ => rfl⟩
  · exact ⟨some ⟨g, 0, none⟩, cap, rfl, hc, fun a ha => by injection ha with ha; subst ha; exact ⟨rfl, rfl⟩, fun ha => by simp at ha⟩

/-- An own row, read. -/
theorem ownsRow_Rd {α : Type} {w : World} {base : Nat} {e : TypeId} {sz : Nat} {v : Value} {xs : List α} {inner : List Value} {R : α → List Value → Prop} {ok : Nat → Prop}
    (h : w.ownsRow base e sz v xs.length inner) (hs : ∀ x c, R x c → c.length = sz) (hk : Ks R xs inner) (hok : ∀ b, v.ownBlock = some b → ok b) :
    ∃ A c, v = .slice A xs.length c ∧ xs.length ≤ c ∧ Rd w ok sz R A xs := by
  obtain ⟨A, c, rfl, hc, hA, hn⟩ := ownsRow_slice h
  refine ⟨A, c, rfl, hc, ?_⟩
  cases A with
  | none =>
    have := hn rfl
    intro i x hx
    have := (List.getElem?_eq_some_iff.1 hx).1
    omega
  | some a =>
    obtain ⟨hb, ha⟩ := hA a rfl
    have hat := ownsRow_At h hb
    rw [← ha] at hat
    exact Rd.of_Ks hs hk hat (hok _ hb)

theorem M_K {w : World} {ok : Nat → Prop} : ∀ {t : Ty} {v : Val t} {cs : List Value} {B : List Nat}, M w t v cs B → (∀ b ∈ B, ok b) → K w ok t v cs
  | .int _, _, _, _, h, _ => by rw [M] at h; rw [K]; exact h.1
  | .bool, _, _, _, h, _ => by rw [M] at h; rw [K]; exact h.1
  | .str, _, _, _, h, _ => by rw [M] at h; rw [K]; exact h.1
  | .slice e t, xs, _, _, h, hok => by
    rw [M] at h; rw [K]
    obtain ⟨v, inner, Bs, rfl, rfl, ho, hm⟩ := h
    have hk : Ks (K w ok t) xs inner := hm.toKs fun x c b hb hx => M_K hx fun k hk => hok k (List.mem_append_right _ (hb k hk))
    obtain ⟨A, c, he, hc, hr⟩ := ownsRow_Rd (ok := ok) ho (fun x c hx => K_len hx) hk fun b hb => hok b (List.mem_append_left _ (by simp [hb]))
    exact ⟨A, c, by rw [he], hc, hr⟩
  | .pair a b, _, _, _, h, hok => by
    rw [M] at h; rw [K]
    obtain ⟨c1, c2, B1, B2, rfl, rfl, h1, h2⟩ := h
    exact ⟨c1, c2, rfl, M_K h1 fun k hk => hok k (List.mem_append_left _ hk), M_K h2 fun k hk => hok k (List.mem_append_right _ hk)⟩

theorem M_len {w : World} {t : Ty} {v : Val t} {cs : List Value} {B : List Nat} (h : M w t v cs B) : cs.length = t.sz := K_len (M_K (ok := fun _ => True) h fun _ _ => trivial)
theorem M_one {w : World} {t : Ty} {v : Val t} {cs : List Value} {B : List Nat} (h : M w t v cs B) : ∀ u ∈ cs, u.oneCell' = true := K_one (M_K (ok := fun _ => True) h fun _ _ => trivial)

theorem ownsRow_move {w w' : World} {base : Nat} {e : TypeId} {size : Nat} {v : Value} {n : Nat} {xs : List Value} (h : w.ownsRow base e size v n xs) (hb : ∀ b, v.ownBlock = some b → w'.heap[b]? = w.heap[b]?) : w'.ownsRow base e size v n xs := by
  refine ⟨h.1, ?_⟩
  rcases h.2 with h | ⟨g, cap, cur, rfl, hg, hh, r⟩
  · exact .inl h
  · exact .inr ⟨g, cap, cur, rfl, hg, (hb g rfl).trans hh, r⟩
theorem M_step {w w' : World} : ∀ {t : Ty} {v : Val t} {cs : List Value} {B : List Nat}, M w t v cs B → (∀ b ∈ B, w'.heap[b]? = w.heap[b]?) → M w' t v cs B
  | .int _, _, _, _, h, _ => by rw [M] at h ⊢; exact h
  | .bool, _, _, _, h, _ => by rw [M] at h ⊢; exact h
  | .str, _, _, _, h, _ => by rw [M] at h ⊢; exact h
  | .slice e t, xs, _, _, h, hb => by
    rw [M] at h ⊢
    obtain ⟨v, inner, Bs, rfl, rfl, ho, hm⟩ := h
    exact ⟨v, inner, Bs, rfl, rfl, ownsRow_move ho fun b hv => hb b (List.mem_append_left _ (by simp [hv])), hm.imp fun x c b hk hx => M_step hx fun k hk' => hb k (List.mem_append_right _ (hk k hk'))⟩
  | .pair a b, _, _, _, h, hb => by
    rw [M] at h ⊢
    obtain ⟨c1, c2, B1, B2, rfl, rfl, h1, h2⟩ := h
    exact ⟨c1, c2, B1, B2, rfl, rfl, M_step h1 fun k hk => hb k (List.mem_append_left _ hk), M_step h2 fun k hk => hb k (List.mem_append_right _ hk)⟩
theorem Ms_lt {α : Type} {w : World} {R : α → List Value → List Nat → Prop} (hR : ∀ x c b, R x c b → ∀ k ∈ b, k < w.heap.size) {xs : List α} {cs : List Value} {B : List Nat} (h : Ms R xs cs B) : ∀ k ∈ B, k < w.heap.size := by
  induction xs generalizing cs B with
  | nil => obtain ⟨_, rfl⟩ := h; simp
  | cons x xs ih =>
    obtain ⟨c1, c2, B1, B2, rfl, rfl, h1, h2⟩ := h
    intro k hk
    rcases List.mem_append.1 hk with hk | hk
    · exact hR _ _ _ h1 k hk
    · exact ih h2 k hk
theorem M_lt {w : World} : ∀ {t : Ty} {v : Val t} {cs : List Value} {B : List Nat}, M w t v cs B → ∀ k ∈ B, k < w.heap.size
  | .int _, _, _, _, h => by rw [M] at h; simp [h.2]
  | .bool, _, _, _, h => by rw [M] at h; simp [h.2]
  | .str, _, _, _, h => by rw [M] at h; simp [h.2]
  | .slice e t, xs, _, _, h => by
    rw [M] at h
    obtain ⟨v, inner, Bs, rfl, rfl, ho, hm⟩ := h
    intro k hk
    rcases List.mem_append.1 hk with hk | hk
    · exact (ho.lt k (by simpa using hk)).2
    · exact Ms_lt (fun x c b hx => M_lt hx) hm k hk
  | .pair a b, _, _, _, h => by
    rw [M] at h
    obtain ⟨c1, c2, B1, B2, rfl, rfl, h1, h2⟩ := h
    intro k hk
    rcases List.mem_append.1 hk with hk | hk
    · exact M_lt h1 k hk
    · exact M_lt h2 k hk
end Go.T
