/- T: how states and memory change together. -/
import Derived.Test.YtkjiecjpdbpghaaT4
namespace Go.T
open Go

section
variable {w0 w w' : World} {mine : Mine} {m m' : Mp} {h h' : List Blk}

theorem Fr.lift {A : Nat → Prop} (hf : Fr A w w') (H : HR w0 mine w m h) (hA : ∀ k, A k → ∃ id x, h[id]? = some x ∧ k ∈ fpB m id x) : Fr mine.own w0 w' :=
  H.fr.trans hf fun k hk => by
    obtain ⟨id, x, hx, hm⟩ := hA k hk
    exact (H.lt id x hx k hm).2

/-- A world that parts in nothing but its draws. -/
theorem HR.heap_eq (H : HR w0 mine w m h) (he : w'.heap = w.heap) (ho : w'.os = w.os) (ht : w'.tape = w.tape) (hout : w'.output = w.output) :
    HR w0 mine w' m h ∧ Oks w w' m m h h ∧ Sims m m h h := by
  have hok : Oks w w' m m h h := fun n b hb _ => ⟨by rw [he], hb⟩
  have hs : Sims m m h h := fun id x hx => ⟨x, hx, by cases x <;> simp [Sim]⟩
  refine ⟨⟨fun id x hx => BR_mono hok hs rfl rfl rfl (fun b _ => by rw [he]) (H.br id x hx), H.nd, H.dj, fun id x hx b hb => by rw [he]; exact H.lt id x hx b hb, ?_, H.mx, H.nx⟩, hok, hs⟩
  exact H.fr.trans (A' := fun _ => False) ⟨ho, ht, hout, by rw [he]; exact Nat.le_refl _, fun k _ _ => by rw [he]⟩ (fun k hk => hk.elim)

theorem BR.rowOne {id : Nat} {e : Nat} {t : Ty} {xs : List (Val t)} {dp mt : Bool} {n : Nat} (hb : BR w m h id (.row e t xs dp mt n)) : (m.val id).oneCell' = true := by
  obtain ⟨inner, ho, _⟩ := hb
  obtain ⟨A, c, he, _⟩ := ownsRow_slice ho
  rw [he]; rfl

/-- Some blocks are given up (dead), some frozen: the world stays. -/
def Weaker (x x' : Blk) : Prop := x' = .dead ∨ x' = x ∨ x' = x.froze

theorem okB_weaker {n b id : Nat} {x x' : Blk} (hw : Weaker x x') (hk : okB m n b id x) : okB m n b id x' := by
  rcases hw with rfl | rfl | rfl
  · trivial
  · exact hk
  · cases x with
    | row e t xs dp mt k => exact ⟨fun hh => hk.1 (hh.elim (fun h => by simp at h) .inr), hk.2⟩
    | _ => exact hk
theorem fpB_weaker {id : Nat} {x x' : Blk} (hw : Weaker x x') : (fpB m id x' = fpB m id x) ∨ x' = .dead := by
  rcases hw with rfl | rfl | rfl
  · exact .inr rfl
  · exact .inl rfl
  · left; cases x <;> rfl
theorem BR_weaker {id : Nat} {x x' : Blk} (hw : Weaker x x') (hb : BR w m h id x) : BR w m h id x' := by
  rcases hw with rfl | rfl | rfl
  · trivial
  · exact hb
  · cases x <;> exact hb
theorem Sim_weaker {id : Nat} {x x' : Blk} (hw : Weaker x x') (hb : BR w m h id x) : Sim m m id x x' := by
  rcases hw with rfl | rfl | rfl
  · cases x
    · trivial
    · exact hb.rowOne
    · trivial
  · cases x' <;> simp [Sim]
  · cases x <;> simp [Sim, Blk.froze]

def Weakers (h h' : List Blk) : Prop := h'.length = h.length ∧ ∀ (id : Nat) (x x' : Blk), h[id]? = some x → h'[id]? = some x' → Weaker x x'

theorem HR.weaker (H : HR w0 mine w m h) (hw : Weakers h h') : HR w0 mine w m h' ∧ Oks w w m m h h' ∧ Sims m m h h' := by
  have back : ∀ id x', h'[id]? = some x' → ∃ x, h[id]? = some x ∧ Weaker x x' := fun id x' hx' => by
    have hlt : id < h.length := by rw [← hw.1]; exact (List.getElem?_eq_some_iff.1 hx').1
    exact ⟨h[id], List.getElem?_eq_getElem hlt, hw.2 id _ _ (List.getElem?_eq_getElem hlt) hx'⟩
  have hok : Oks w w m m h h' := fun n b hb _ => ⟨rfl, hb.1, fun id x' hx' => by
    obtain ⟨x, hx, hwk⟩ := back id x' hx'
    exact okB_weaker hwk (hb.2 id x hx)⟩
  have hs : Sims m m h h' := fun id x hx => by
    have hlt : id < h'.length := by rw [hw.1]; exact (List.getElem?_eq_some_iff.1 hx).1
    exact ⟨h'[id], List.getElem?_eq_getElem hlt, Sim_weaker (hw.2 id _ _ hx (List.getElem?_eq_getElem hlt)) (H.br id x hx)⟩
  have fpsub : ∀ id x', h'[id]? = some x' → ∃ x, h[id]? = some x ∧ (fpB m id x' = fpB m id x ∨ fpB m id x' = []) := fun id x' hx' => by
    obtain ⟨x, hx, hwk⟩ := back id x' hx'
    rcases fpB_weaker (m := m) (id := id) hwk with he | rfl
    · exact ⟨x, hx, .inl he⟩
    · exact ⟨x, hx, .inr rfl⟩
  refine ⟨⟨fun id x' hx' => ?_, fun id x' hx' => ?_, fun id x1 id' x2 hne h1 h2 b hb hb' => ?_, fun id x' hx' b hb => ?_, H.fr, H.mx, H.nx⟩, hok, hs⟩
  · obtain ⟨x, hx, hwk⟩ := back id x' hx'
    exact BR_mono hok hs rfl rfl rfl (fun b _ => rfl) (BR_weaker hwk (H.br id x hx))
  · obtain ⟨x, hx, he | he⟩ := fpsub id x' hx' <;> rw [he]
    · exact H.nd id x hx
    · exact List.nodup_nil
  · obtain ⟨y1, hy1, he1 | he1⟩ := fpsub id x1 h1 <;> rw [he1] at hb
    · obtain ⟨y2, hy2, he2 | he2⟩ := fpsub id' x2 h2 <;> rw [he2] at hb'
      · exact H.dj id y1 id' y2 hne hy1 hy2 b hb hb'
      · cases hb'
    · cases hb
  · obtain ⟨x, hx, he | he⟩ := fpsub id x' hx' <;> rw [he] at hb
    · exact H.lt id x hx b hb
    · cases hb

theorem Weaker.refl (x : Blk) : Weaker x x := .inr (.inl rfl)
theorem Weaker.dead (x : Blk) : Weaker x .dead := .inl rfl
theorem Weaker.froze (x : Blk) : Weaker x x.froze := .inr (.inr rfl)
theorem Weaker.trans {x y z : Blk} (h1 : Weaker x y) (h2 : Weaker y z) : Weaker x z := by
  rcases h2 with rfl | rfl | rfl
  · exact .dead _
  · exact h1
  · rcases h1 with rfl | rfl | rfl
    · exact .dead _
    · exact .froze _
    · right; right; cases x <;> rfl
theorem Weakers.refl (h : List Blk) : Weakers h h := ⟨rfl, fun id x x' h1 h2 => by rw [h1] at h2; cases h2; exact .refl _⟩
theorem Weakers.trans {h1 h2 h3 : List Blk} (a : Weakers h1 h2) (b : Weakers h2 h3) : Weakers h1 h3 :=
  ⟨b.1.trans a.1, fun id x z hx hz => by
    have hlt : id < h2.length := by rw [a.1]; exact (List.getElem?_eq_some_iff.1 hx).1
    exact (a.2 id x _ hx (List.getElem?_eq_getElem hlt)).trans (b.2 id _ z (List.getElem?_eq_getElem hlt) hz)⟩
theorem Weakers.kill (h : List Blk) (ids : List Nat) : Weakers h (kill h ids) := by
  induction ids generalizing h with
  | nil => exact .refl h
  | cons i ids ih =>
    refine Weakers.trans ⟨by simp, fun id x x' h1 h2 => ?_⟩ (ih (h.set i .dead))
    by_cases e : i = id
    · subst e
      rw [List.getElem?_set_self (List.getElem?_eq_some_iff.1 h1).1] at h2
      cases h2; exact .dead _
    · rw [List.getElem?_set_ne e, h1] at h2
      cases h2; exact .refl _
theorem Weakers.freeze (h : List Blk) (ids : List Nat) : Weakers h (freeze h ids) := by
  induction ids generalizing h with
  | nil => exact .refl h
  | cons i ids ih =>
    refine Weakers.trans ⟨by simp, fun id x x' h1 h2 => ?_⟩ (ih (h.modify i Blk.froze))
    rw [List.getElem?_modify] at h2
    by_cases e : i = id
    · subst e; rw [h1] at h2; simp at h2; subst h2; exact .froze _
    · simp [e, h1] at h2; subst h2; exact .refl _

/-- A new block behind the others (of which some may be given up). Its blocks are new ones, or such as nobody else has. -/
theorem HR.new {h1 : List Blk} (H : HR w0 mine w m h) (hw : Weakers h h1) (x : Blk) (hfr : Fr (fun _ => False) w w')
    (hval : ∀ i, i < h.length → m'.val i = m.val i) (hblk : ∀ i, i < h.length → m'.blk i = m.blk i) (hnst : ∀ i, i < h.length → m'.nst i = m.nst i) (hext : m'.ext = m.ext)
    (hokx : ∀ n b, okAt m h n b → b < w.heap.size → okB m' n b h.length x)
    (hbr : Oks w w' m m' h (h1 ++ [x]) → Sims m m' h (h1 ++ [x]) → BR w' m' (h1 ++ [x]) h.length x)
    (hnd : (fpB m' h.length x).Nodup)
    (hlt : ∀ b ∈ fpB m' h.length x, b < w'.heap.size ∧ (w0.heap.size ≤ b ∨ mine.own b) ∧ ∀ id y, h1[id]? = some y → b ∉ fpB m id y) :
    HR w0 mine w' m' (h1 ++ [x]) ∧ Oks w w' m m' h (h1 ++ [x]) ∧ Sims m m' h (h1 ++ [x]) := by
  obtain ⟨H1, hok1, hs1⟩ := H.weaker hw
  have hl1 := hw.1
  have get : ∀ id y, (h1 ++ [x])[id]? = some y → (id < h.length ∧ h1[id]? = some y) ∨ (id = h.length ∧ y = x) := fun id y hy => by
    by_cases hl : id < h1.length
    · rw [List.getElem?_append_left hl] at hy; exact .inl ⟨by omega, hy⟩
    · rw [List.getElem?_append_right (by omega)] at hy
      have : id - h1.length = 0 := by
        rcases Nat.eq_zero_or_pos (id - h1.length) with h0 | h0
        · exact h0
        · rw [List.getElem?_eq_none (by simp; omega)] at hy; cases hy
      rw [this] at hy
      simp at hy
      exact .inr ⟨by omega, hy.symm⟩
  have okB_eq : ∀ n b id y, id < h.length → (okB m' n b id y ↔ okB m n b id y) := fun n b id y hl => by
    cases y <;> simp [okB, hval id hl, hblk id hl, hnst id hl]
  have fpB_eq : ∀ id y, id < h.length → fpB m' id y = fpB m id y := fun id y hl => by
    cases y <;> simp [fpB, hval id hl, hblk id hl, hnst id hl]
  have hok : Oks w w' m m' h (h1 ++ [x]) := fun n b hb hl => ⟨hfr.block b hl (fun h => h), by rw [hext]; exact hb.1, fun id y hy => by
    rcases get id y hy with ⟨hl', hy'⟩ | ⟨rfl, rfl⟩
    · exact (okB_eq n b id y hl').2 ((hok1 n b hb hl).2.2 id y hy')
    · exact hokx n b hb hl⟩
  have hs : Sims m m' h (h1 ++ [x]) := fun id y hy => by
    have hl := (List.getElem?_eq_some_iff.1 hy).1
    obtain ⟨y1, hy1, hsm⟩ := hs1 id y hy
    refine ⟨y1, by rw [List.getElem?_append_left (by omega)]; exact hy1, ?_⟩
    cases y <;> cases y1 <;> simp_all [Sim]
  refine ⟨⟨fun id y hy => ?_, fun id y hy => ?_, fun id y1 id' y2 hne h1' h2' b hb hb' => ?_, fun id y hy b hb => ?_, ?_, hext.trans H.mx, H.nx⟩, hok, hs⟩
  · rcases get id y hy with ⟨hl, hy'⟩ | ⟨rfl, rfl⟩
    · obtain ⟨y0, hy0, hwk⟩ : ∃ y0, h[id]? = some y0 ∧ Weaker y0 y := ⟨h[id], List.getElem?_eq_getElem hl, hw.2 id _ _ (List.getElem?_eq_getElem hl) hy'⟩
      exact BR_mono hok hs (hval id hl) (hblk id hl) (hnst id hl) (fun b hb => hfr.block b (H1.lt id y hy' b hb).1 (fun h => h)) (BR_weaker hwk (H.br id y0 hy0))
    · exact hbr hok hs
  · rcases get id y hy with ⟨hl, hy'⟩ | ⟨rfl, rfl⟩
    · rw [fpB_eq id y hl]; exact H1.nd id y hy'
    · exact hnd
  · rcases get id y1 h1' with ⟨hl1, hy1⟩ | ⟨rfl, rfl⟩ <;> rcases get id' y2 h2' with ⟨hl2, hy2⟩ | ⟨rfl, rfl⟩
    · rw [fpB_eq id y1 hl1] at hb; rw [fpB_eq id' y2 hl2] at hb'
      exact H1.dj id y1 id' y2 hne hy1 hy2 b hb hb'
    · rw [fpB_eq id y1 hl1] at hb
      exact (hlt b hb').2.2 id y1 hy1 hb
    · rw [fpB_eq id' y2 hl2] at hb'
      exact (hlt b hb).2.2 id' y2 hy2 hb'
    · exact hne rfl
  · rcases get id y hy with ⟨hl, hy'⟩ | ⟨rfl, rfl⟩
    · rw [fpB_eq id y hl] at hb
      have := H1.lt id y hy' b hb
      exact ⟨Nat.lt_of_lt_of_le this.1 hfr.size, this.2⟩
    · exact ⟨(hlt b hb).1, (hlt b hb).2.1⟩
  · exact hfr.lift H (fun k hk => hk.elim)

end

/-! ### the slots -/
section
variable {w w' : World} {m m' : Mp} {h h' : List Blk} {env : List LV} {a : Act}
theorem env_mono (ho : Oks w w' m m' h h') (hs : Sims m m' h h') (he : F2 (V w m h) env a.tmps.toList) : F2 (V w' m' h') env a.tmps.toList :=
  he.imp fun _ _ _ hv => V_mono ho hs hv
theorem env_put (he : F2 (V w m h) env a.tmps.toList) (d : Option Tmp) {l : LV} {v : Value} (hv : V w m h l v) :
    F2 (V w m h) (match d with | some t => env.set t l | none => env) (a.put d v).tmps.toList := by
  cases d with
  | none => exact he
  | some t => simp only [Act.put, Array.toList_setIfInBounds]; exact he.set t hv
end
theorem put_defers (a : Act) (d : Option Tmp) (v : Value) : (a.put d v).defers = a.defers := by cases d <;> rfl
theorem St.put_heap (st : St) (d : Option Tmp) (v : LV) : (st.put d v).heap = st.heap := by cases d <;> rfl
theorem St.put_env (st : St) (d : Option Tmp) (v : LV) : (st.put d v).env = (match d with | some t => st.env.set t v | none => st.env) := by cases d <;> rfl

theorem R.put {w0 w : World} {mine : Mine} {st : St} {a : Act} (hr : R w0 mine st a w) (d : Option Tmp) {l : LV} {v : Value} (hv : ∀ m, HR w0 mine w m st.heap → F2 (V w m st.heap) st.env a.tmps.toList → V w m st.heap l v) :
    R w0 mine (st.put d l) (a.put d v) w := by
  obtain ⟨hd, m, H, he⟩ := hr
  refine ⟨by rw [put_defers]; exact hd, m, by rw [St.put_heap]; exact H, ?_⟩
  rw [St.put_heap, St.put_env]
  exact env_put he d (hv m H he)

theorem R.ev {w0 w : World} {mine : Mine} {st : St} {a : Act} {m : Mp} (_H : HR w0 mine w m st.heap) (he : F2 (V w m st.heap) st.env a.tmps.toList) (x : Operand) : V w m st.heap (st.ev x) (a.eval x) := by
  cases x with
  | tmp t =>
    show V w m st.heap (st.env.getD t (.one .undef)) (a.tmps.getD t undef)
    rw [List.getD_eq_getElem?_getD, Array.getD_eq_getD_getElem?]
    cases hx : st.env[t]? with
    | none =>
      trivial
    | some l =>
      obtain ⟨v, hv, hV⟩ := he.get hx
      simp only [Array.getElem?_toList] at hv
      rw [hv]
      exact hV
  | const v =>
    show V w m st.heap (valOf v) v
    unfold valOf
    split <;> first | rfl | trivial
  | func f => rfl
  | global g => trivial
end Go.T
