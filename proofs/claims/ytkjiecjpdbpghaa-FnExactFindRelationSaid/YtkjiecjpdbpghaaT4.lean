/- T: states and memory. -/
import Derived.Test.YtkjiecjpdbpghaaT3
namespace Go.T
open Go

/-- Where T's rows and boxes lie: a row's slice value, a box's block, the blocks of what lies in a row. -/
structure Mp where
  val : Nat → Value
  blk : Nat → Nat
  nst : Nat → List Nat
  /-- where shared rows may lie at all -/
  ext : Nat → Prop
/-- A call's: the blocks that it may write; those that it may read. -/
structure Mine where
  own : Nat → Prop
  ext : Nat → Prop

def okB (m : Mp) (n b id : Nat) : Blk → Prop
  | .box _ => b ≠ m.blk id
  | .row _ _ _ dp mt k => ((mt = true ∨ n ≤ id) → (m.val id).ownBlock ≠ some b) ∧ (dp = true → n ≤ k → b ∉ m.nst id)
  | .dead => True
/-- May a shared row of number n lie in block b? -/
def okAt (m : Mp) (h : List Blk) (n b : Nat) : Prop := m.ext b ∧ ∀ id x, h[id]? = some x → okB m n b id x

def C (w : World) (m : Mp) (h : List Blk) : LC → Value → Prop
  | .int k n, v => v = .int k n
  | .bool b, v => v = .bool b
  | .str s, v => v = .string s
  | .sl _ t xs n, v => ∃ A c, v = .slice A xs.length c ∧ xs.length ≤ c ∧ Rd w (okAt m h n) t.sz (K w (okAt m h n) t) A xs
  | .nils, v => v = .slice none 0 0
  | .nilp, v => v = .pointer none
  | .own id, v => match h[id]? with
    | some (.row ..) => v = m.val id
    | some .dead => v.oneCell' = true
    | _ => False
  | .ptr id i f, v => match h[id]? with
    | some (.box _) => i = 0 ∧ v = .pointer (some ⟨m.blk id, f, none⟩)
    | some (.row _ t _ _ _ _) => ∃ g, (m.val id).ownBlock = some g ∧ v = .pointer (some ⟨g, i * t.sz + f, none⟩)
    | some .dead => v.oneCell' = true
    | none => False
  | .tptr t x f n, v => ∃ a cs, v = .pointer (some (a.add f)) ∧ K w (okAt m h n) t x cs ∧ At w a cs ∧ okAt m h n a.block
  | .fn f, v => v = .func (.func f) #[] #[]
  | .undef, _ => True

def V1 (w : World) (m : Mp) (h : List Blk) (l : LV1) (v : Value) : Prop :=
  match l.agg with
  | true => ∃ vs : Array Value, v = .agg vs ∧ F2 (C w m h) l.cs vs.toList
  | false => ∃ c, l.cs = [c] ∧ C w m h c v ∧ v.oneCell' = true
def V (w : World) (m : Mp) (h : List Blk) : LV → Value → Prop
  | .one c, v => C w m h c v
  | .agg cs, v => ∃ vs : Array Value, v = .agg vs ∧ F2 (C w m h) cs vs.toList
  | .tup ls, v => ∃ vs : Array Value, v = .tuple vs ∧ F2 (V1 w m h) ls vs.toList

def fpB (m : Mp) (id : Nat) : Blk → List Nat
  | .box _ => [m.blk id]
  | .row _ _ _ dp _ _ => (m.val id).ownBlock.toList ++ (match dp with | true => m.nst id | false => [])
  | .dead => []

def BR (w : World) (m : Mp) (h : List Blk) (id : Nat) : Blk → Prop
  | .box cs => ∃ arr ty, w.heap[m.blk id]? = some (.cells arr ty (0, 0)) ∧ F2 (C w m h) cs arr.toList ∧ ∀ u ∈ arr.toList, u.oneCell' = true
  | .row e t xs dp _ n => ∃ inner, w.ownsRow 0 e t.sz (m.val id) xs.length inner ∧ (match dp with
    | true => Ms (M w t) xs inner (m.nst id) ∧ n ≤ id
    | false => Ks (K w (okAt m h n) t) xs inner)
  | .dead => True

/-- Of what was there at w0 only blocks of 'mine' have been written. -/
structure Fr (mine : Nat → Prop) (w0 w : World) : Prop where
  os : w.os = w0.os
  tape : w.tape = w0.tape
  output : w.output = w0.output
  size : w0.heap.size ≤ w.heap.size
  block : ∀ k, k < w0.heap.size → ¬ mine k → w.heap[k]? = w0.heap[k]?
theorem Fr.refl (mine : Nat → Prop) (w : World) : Fr mine w w := ⟨rfl, rfl, rfl, Nat.le_refl _, fun _ _ _ => rfl⟩
theorem Fr.trans {A : Nat → Prop} {w0 w w' : World} (h : Fr A w0 w) {A' : Nat → Prop} (h' : Fr A' w w') (hA : ∀ k, A' k → w0.heap.size ≤ k ∨ A k) : Fr A w0 w' :=
  ⟨h'.os.trans h.os, h'.tape.trans h.tape, h'.output.trans h.output, Nat.le_trans h.size h'.size, fun k hk hn =>
    (h'.block k (Nat.lt_of_lt_of_le hk h.size) (fun ha => by rcases hA k ha with h1 | h1; omega; exact hn h1)).trans (h.block k hk hn)⟩

structure HR (w0 : World) (mine : Mine) (w : World) (m : Mp) (h : List Blk) : Prop where
  br : ∀ id x, h[id]? = some x → BR w m h id x
  nd : ∀ id x, h[id]? = some x → (fpB m id x).Nodup
  dj : ∀ id x id' x', id ≠ id' → h[id]? = some x → h[id']? = some x' → ∀ b ∈ fpB m id x, b ∉ fpB m id' x'
  lt : ∀ id x, h[id]? = some x → ∀ b ∈ fpB m id x, b < w.heap.size ∧ (w0.heap.size ≤ b ∨ mine.own b)
  fr : Fr mine.own w0 w
  mx : m.ext = mine.ext
  nx : ∀ b, (w0.heap.size ≤ b ∨ mine.own b) → mine.ext b

/-- T's state tells what the machine holds. -/
def R (w0 : World) (mine : Mine) (st : St) (a : Act) (w : World) : Prop :=
  a.defers = [] ∧ ∃ m, HR w0 mine w m st.heap ∧ F2 (V w m st.heap) st.env a.tmps.toList

/-! ### what stays -/
def Sim (m m' : Mp) (id : Nat) : Blk → Blk → Prop
  | .box _, .box _ => m'.blk id = m.blk id
  | .row _ t _ _ _ _, .row _ t' _ _ _ _ => t' = t ∧ m'.val id = m.val id
  | .row .., .dead => (m.val id).oneCell' = true
  | .box _, .dead => True
  | .dead, .dead => True
  | _, _ => False
def Sims (m m' : Mp) (h h' : List Blk) : Prop := ∀ id x, h[id]? = some x → ∃ x', h'[id]? = some x' ∧ Sim m m' id x x'
/-- What shared rows read stays. -/
def Oks (w w' : World) (m m' : Mp) (h h' : List Blk) : Prop := ∀ n b, okAt m h n b → b < w.heap.size → w'.heap[b]? = w.heap[b]? ∧ okAt m' h' n b

section
variable {w w' : World} {m m' : Mp} {h h' : List Blk}
theorem K_oks (ho : Oks w w' m m' h h') {n : Nat} {t : Ty} {v : Val t} {cs : List Value} (hk : K w (okAt m h n) t v cs) : K w' (okAt m' h' n) t v cs :=
  K_step (fun b hb hl => (ho n b hb hl).1) (fun b hb hl => (ho n b hb hl).2) hk
theorem Rd_oks (ho : Oks w w' m m' h h') {n : Nat} {t : Ty} {A : Option Addr} {xs : List (Val t)} (hk : Rd w (okAt m h n) t.sz (K w (okAt m h n) t) A xs) : Rd w' (okAt m' h' n) t.sz (K w' (okAt m' h' n) t) A xs :=
  Rd_step (fun b hb hl => (ho n b hb hl).1) (fun b hb hl => (ho n b hb hl).2) hk
theorem C_mono (ho : Oks w w' m m' h h') (hs : Sims m m' h h') : ∀ {c : LC} {v : Value}, C w m h c v → C w' m' h' c v
  | .int _ _, _, hc | .bool _, _, hc | .str _, _, hc | .nils, _, hc | .nilp, _, hc | .fn _, _, hc => by simpa [C] using hc
  | .undef, _, _ => trivial
  | .sl e t xs n, v, hc => by
    obtain ⟨A, c, he, hl, hr⟩ := hc
    exact ⟨A, c, he, hl, Rd_oks ho hr⟩
  | .tptr t x f n, v, hc => by
    obtain ⟨a, cs, he, hk, hat, hb⟩ := hc
    have hlt := hat.block_lt (by rw [K_len hk]; exact t.sz_pos)
    exact ⟨a, cs, he, K_oks ho hk, hat.move (ho n _ hb hlt).1, (ho n _ hb hlt).2⟩
  | .own id, v, hc => by
    simp only [C] at hc ⊢
    cases hx : h[id]? with
    | none => rw [hx] at hc; exact hc.elim
    | some x =>
      rw [hx] at hc
      obtain ⟨x', hx', hsim⟩ := hs id x hx
      rw [hx']
      cases x <;> cases x' <;> simp_all [Sim]
  | .ptr id i f, v, hc => by
    simp only [C] at hc ⊢
    cases hx : h[id]? with
    | none => rw [hx] at hc; exact hc.elim
    | some x =>
      rw [hx] at hc
      obtain ⟨x', hx', hsim⟩ := hs id x hx
      rw [hx']
      cases x <;> cases x' <;> simp_all [Sim]
      case box.dead => rfl
      case row.dead => obtain ⟨g, _, rfl⟩ := hc; rfl
theorem V1_mono (ho : Oks w w' m m' h h') (hs : Sims m m' h h') {l : LV1} {v : Value} (hv : V1 w m h l v) : V1 w' m' h' l v := by
  unfold V1 at hv ⊢
  split at hv
  · obtain ⟨vs, he, hf⟩ := hv
    exact ⟨vs, he, hf.imp fun _ _ _ hc => C_mono ho hs hc⟩
  · obtain ⟨c, he, hc, h1⟩ := hv
    exact ⟨c, he, C_mono ho hs hc, h1⟩
theorem V_mono (ho : Oks w w' m m' h h') (hs : Sims m m' h h') : ∀ {l : LV} {v : Value}, V w m h l v → V w' m' h' l v
  | .one c, v, hv => C_mono ho hs (c := c) hv
  | .agg cs, v, hv => by
    obtain ⟨vs, he, hf⟩ := hv
    exact ⟨vs, he, hf.imp fun _ _ _ hc => C_mono ho hs hc⟩
  | .tup ls, v, hv => by
    obtain ⟨vs, he, hf⟩ := hv
    exact ⟨vs, he, hf.imp fun _ _ _ hc => V1_mono ho hs hc⟩
theorem BR_mono (ho : Oks w w' m m' h h') (hs : Sims m m' h h') {id : Nat} {x : Blk} (hv : m'.val id = m.val id) (hbk : m'.blk id = m.blk id) (hn : m'.nst id = m.nst id)
    (hb : ∀ b ∈ fpB m id x, w'.heap[b]? = w.heap[b]?) (h0 : BR w m h id x) : BR w' m' h' id x := by
  cases x with
  | dead => trivial
  | box cs =>
    obtain ⟨arr, ty, hc, hf, h1⟩ := h0
    refine ⟨arr, ty, ?_, hf.imp fun _ _ _ hc => C_mono ho hs hc, h1⟩
    rw [hbk, hb _ (by simp [fpB])]; exact hc
  | row e t xs dp mt n =>
    obtain ⟨inner, hown, hin⟩ := h0
    refine ⟨inner, ?_, ?_⟩
    · rw [hv]
      exact ownsRow_move hown fun b hbb => hb b (by cases dp <;> simp [fpB, hbb])
    · cases dp with
      | true =>
        simp only at hin ⊢
        rw [hn]
        exact ⟨hin.1.imp fun x c b hk hx => M_step hx fun k hkb => hb k (by simp only [fpB]; exact List.mem_append_right _ (hk k hkb)), hin.2⟩
      | false =>
        simp only at hin ⊢
        exact hin.imp fun x c hx => K_oks ho hx
end
end Go.T
