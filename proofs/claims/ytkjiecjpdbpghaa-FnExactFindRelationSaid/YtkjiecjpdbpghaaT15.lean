/- T: rows that take over a block; literals of slices. -/
import Derived.Test.YtkjiecjpdbpghaaT14
import Derived.Maps.AppendAt
namespace Go.T
open Go

section
variable {w0 w w' : World} {mine : Mine} {m m' : Mp} {h : List Blk}
theorem HR.newA {h1 : List Blk} {A : Nat → Prop} (H : HR w0 mine w m h) (hw : Weakers h h1) (x : Blk) (hfr : Fr A w w') (hA1 : ∀ k, A k → ∃ id x, h[id]? = some x ∧ k ∈ fpB m id x) (hA2 : ∀ k, A k → ∀ id y, h1[id]? = some y → k ∉ fpB m id y) (hA3 : ∀ k, A k → ∀ n b, okAt m h n b → b ≠ k)
    (hval : ∀ i, i < h.length → m'.val i = m.val i) (hblk : ∀ i, i < h.length → m'.blk i = m.blk i) (hnst : ∀ i, i < h.length → m'.nst i = m.nst i) (hext : m'.ext = m.ext)
    (hokx : ∀ n b, okAt m h n b → b < w.heap.size → okB m' n b h.length x)
    (hbr : Oks w w' m m' h (h1 ++ [x]) → Sims m m' h (h1 ++ [x]) → BR w' m' (h1 ++ [x]) h.length x)
    (hnd : (fpB m' h.length x).Nodup)
    (hlt : ∀ b ∈ fpB m' h.length x, b < w'.heap.size ∧ (w0.heap.size ≤ b ∨ mine.own b) ∧ ∀ id y, h1[id]? = some y → b ∉ fpB m id y) :
    HR w0 mine w' m' (h1 ++ [x]) ∧ Oks w w' m m' h (h1 ++ [x]) ∧ Sims m m' h (h1 ++ [x]) := by
  obtain ⟨H1, hok1, hs1⟩ := H.weaker hw
  have hl1 := hw.1
  have get : ∀ id y, (h1 ++ [x])[id]? = some y → (id < h.length ∧ h1[id]? = some y) ∨ (id = h.length ∧ y = x) := fun id y hy => by
    by_cases hl : id < h1.length
    · rw [List.getElem?_append_left hl] at hy; exact .inl ⟨by omega, hy⟩
    · rw [List.getElem?_append_right (by omega)] at hy
      have : id - h1.length = 0 := by
        rcases Nat.eq_zero_or_pos (id - h1.length) with h0 | h0
        · exact h0
        · rw [List.getElem?_eq_none (by simp; omega)] at hy; cases hy
      rw [this] at hy
      simp at hy
      exact .inr ⟨by omega, hy.symm⟩
  have okB_eq : ∀ n b id y, id < h.length → (okB m' n b id y ↔ okB m n b id y) := fun n b id y hl => by
    cases y <;> simp [okB, hval id hl, hblk id hl, hnst id hl]
  have fpB_eq : ∀ id y, id < h.length → fpB m' id y = fpB m id y := fun id y hl => by
    cases y <;> simp [fpB, hval id hl, hblk id hl, hnst id hl]
  have hok : Oks w w' m m' h (h1 ++ [x]) := fun n b hb hl => ⟨hfr.block b hl (fun hA => hA3 b hA n b hb rfl), by rw [hext]; exact hb.1, fun id y hy => by
    rcases get id y hy with ⟨hl', hy'⟩ | ⟨rfl, rfl⟩
    · exact (okB_eq n b id y hl').2 ((hok1 n b hb hl).2.2 id y hy')
    · exact hokx n b hb hl⟩
  have hs : Sims m m' h (h1 ++ [x]) := fun id y hy => by
    have hl := (List.getElem?_eq_some_iff.1 hy).1
    obtain ⟨y1, hy1, hsm⟩ := hs1 id y hy
    refine ⟨y1, by rw [List.getElem?_append_left (by omega)]; exact hy1, ?_⟩
    cases y <;> cases y1 <;> simp_all [Sim]
  refine ⟨⟨fun id y hy => ?_, fun id y hy => ?_, fun id y1 id' y2 hne h1' h2' b hb hb' => ?_, fun id y hy b hb => ?_, ?_, hext.trans H.mx, H.nx⟩, hok, hs⟩
  · rcases get id y hy with ⟨hl, hy'⟩ | ⟨rfl, rfl⟩
    · obtain ⟨y0, hy0, hwk⟩ : ∃ y0, h[id]? = some y0 ∧ Weaker y0 y := ⟨h[id], List.getElem?_eq_getElem hl, hw.2 id _ _ (List.getElem?_eq_getElem hl) hy'⟩
      exact BR_mono hok hs (hval id hl) (hblk id hl) (hnst id hl) (fun b hb => hfr.block b (H1.lt id y hy' b hb).1 (fun hA => hA2 b hA id y hy' hb)) (BR_weaker hwk (H.br id y0 hy0))
    · exact hbr hok hs
  · rcases get id y hy with ⟨hl, hy'⟩ | ⟨rfl, rfl⟩
    · rw [fpB_eq id y hl]; exact H1.nd id y hy'
    · exact hnd
  · rcases get id y1 h1' with ⟨hl1, hy1⟩ | ⟨rfl, rfl⟩ <;> rcases get id' y2 h2' with ⟨hl2, hy2⟩ | ⟨rfl, rfl⟩
    · rw [fpB_eq id y1 hl1] at hb; rw [fpB_eq id' y2 hl2] at hb'
      exact H1.dj id y1 id' y2 hne hy1 hy2 b hb hb'
    · rw [fpB_eq id y1 hl1] at hb
      exact (hlt b hb').2.2 id y1 hy1 hb
    · rw [fpB_eq id' y2 hl2] at hb'
      exact (hlt b hb).2.2 id' y2 hy2 hb'
    · exact hne rfl
  · rcases get id y hy with ⟨hl, hy'⟩ | ⟨rfl, rfl⟩
    · rw [fpB_eq id y hl] at hb
      have := H1.lt id y hy' b hb
      exact ⟨Nat.lt_of_lt_of_le this.1 hfr.size, this.2⟩
    · exact ⟨(hlt b hb).1, (hlt b hb).2.1⟩
  · exact hfr.lift H hA1


theorem HR.newRowA {m : Mp} {A : Nat → Prop} {h h1 : List Blk} {w' : World} (H : HR w0 mine w m h) (hw : Weakers h h1) {e : Nat} {t : Ty} {xs : List (Val t)} {dp mt : Bool} {n : Nat} {v : Value} {inner : List Value} {B : List Nat}
    (hfr : Fr A w w') (hA1 : ∀ k, A k → ∃ id x, h[id]? = some x ∧ k ∈ fpB m id x) (hA2 : ∀ k, A k → ∀ id y, h1[id]? = some y → k ∉ fpB m id y) (hA3 : ∀ k, A k → ∀ n b, okAt m h n b → b ≠ k) (hAB : ∀ k, A k → k ∉ B) (hown : w'.ownsRow 0 e t.sz v xs.length inner) (hfresh : ∀ b, v.ownBlock = some b → w.heap.size ≤ b ∨ A b)
    (hB : ∀ b ∈ B, b < w.heap.size ∧ (w0.heap.size ≤ b ∨ mine.own b) ∧ ∀ i y, h1[i]? = some y → b ∉ fpB m i y) (hnd : B.Nodup)
    (hokB : dp = true → ∀ k b, okAt m h k b → k ≤ n → b ∉ B) (hn : dp = true → n ≤ h.length) (hnB : dp = false → B = [])
    (hin : Oks w w' m (m.row h.length v B) h (h1 ++ [.row e t xs dp mt n]) → match dp with
      | true => Ms (M w' t) xs inner B
      | false => Ks (K w' (okAt (m.row h.length v B) (h1 ++ [.row e t xs dp mt n]) n) t) xs inner) :
    HR w0 mine w' (m.row h.length v B) (h1 ++ [.row e t xs dp mt n]) ∧ Oks w w' m (m.row h.length v B) h (h1 ++ [.row e t xs dp mt n]) ∧ Sims m (m.row h.length v B) h (h1 ++ [.row e t xs dp mt n]) := by
  have hh := H.newA hw (w' := w') (m' := m.row h.length v B) (.row e t xs dp mt n) hfr hA1 hA2 hA3 (fun i hi => by simp [Mp.row]; intro e; omega) (fun i _ => rfl) (fun i hi => by simp [Mp.row]; intro e; omega) rfl
    (fun k b hk hlt => by
      refine ⟨fun _ hob => ?_, fun hdp hle => ?_⟩
      · simp only [Mp.row, if_true] at hob
        rcases hfresh b hob with h1 | h1
        · omega
        · exact hA3 b h1 k b hk rfl
      · simp only [Mp.row, if_true]
        exact hokB hdp k b hk hle)
    (fun ho hs => by
      refine ⟨inner, by simp only [Mp.row, if_true]; exact hown, ?_⟩
      have := hin ho
      cases dp with
      | true => simp only [Mp.row, if_true]; exact ⟨this, hn rfl⟩
      | false => exact this)
    (by
      simp only [fpB, Mp.row, if_true]
      rw [List.nodup_append]
      refine ⟨by cases v.ownBlock <;> simp, by cases dp <;> simp [hnd], fun x hx y hy e => ?_⟩
      cases dp with
      | false => simp at hy
      | true =>
        have := (hB y hy).1
        rcases hfresh x (by simpa using hx) with h1 | h1
        · omega
        · subst e; exact hAB x h1 hy)
    (fun b hb => by
      simp only [fpB, Mp.row, if_true] at hb
      rcases List.mem_append.1 hb with hb | hb
      · have hob : v.ownBlock = some b := by simpa using hb
        rcases hfresh b hob with h1 | h1
        · refine ⟨(hown.lt b hob).2, .inl (Nat.le_trans H.fr.size h1), fun i y hy hm => ?_⟩
          have := ((H.weaker hw).1.lt i y hy b hm).1
          omega
        · obtain ⟨id, x, hx, hm⟩ := hA1 b h1
          exact ⟨(hown.lt b hob).2, (H.lt id x hx b hm).2, hA2 b h1⟩
      · cases dp with
        | false => simp at hb
        | true =>
          obtain ⟨h1, h2, h3⟩ := hB b hb
          exact ⟨Nat.lt_of_lt_of_le h1 hfr.size, h2, h3⟩)
  exact hh

/-- What was ok, is ok to the new row, with its number. -/
theorem ok_top {h : List Blk} {ids : List Nat} {x : Blk} (H : HR w0 mine w m h) (hxd : ∀ (e : Nat) (t : Ty) (xs : List (Val t)) (mt : Bool) (k : Nat), x = Blk.row e t xs true mt k → k ≤ h.length)
    (hok : Oks w w' m m' h (kill h ids ++ [x])) {n b : Nat} (hb : okAt m h n b) (hlt : b < w.heap.size) : okAt m' (kill h ids ++ [x]) (h.length + 1) b := by
  have hlen : (kill h ids ++ [x]).length = h.length + 1 := by simp [kill_len]
  have hlo : ∀ (id e : Nat) (t : Ty) (xs : List (Val t)) (mt : Bool) (k : Nat), (kill h ids ++ [x])[id]? = some (Blk.row e t xs true mt k) → k ≤ id := by
    intro id e t xs mt k hy
    by_cases hl : id < (kill h ids).length
    · rw [List.getElem?_append_left hl] at hy
      rcases kill_get ids h id _ hy with ⟨_, h0⟩ | ⟨_, h0⟩
      · simp at h0
      · exact H.lo_le id e t xs mt k h0
    · rw [List.getElem?_append_right (by omega)] at hy
      have : id - (kill h ids).length = 0 := by
        rcases Nat.eq_zero_or_pos (id - (kill h ids).length) with h0 | h0
        · exact h0
        · rw [List.getElem?_eq_none (by simp; omega)] at hy; cases hy
      rw [this] at hy
      simp at hy
      have := hxd e t xs mt k hy
      rw [kill_len] at hl
      omega
  have := okAt_top hlo (hok n b hb hlt).2
  rwa [hlen] at this
/-- What was a given-up row's, is ok to the new one. -/
theorem ok_killed {h : List Blk} {ids : List Nat} {x : Blk} (H : HR w0 mine w m h) (hm : ∀ i, i < h.length → m'.val i = m.val i ∧ m'.blk i = m.blk i ∧ m'.nst i = m.nst i) (hext : m'.ext = m.ext) {n b : Nat} (hb : b ∈ fpIds m h ids) (hx : okB m' n b h.length x) :
    okAt m' (kill h ids ++ [x]) n b := by
  refine ⟨by rw [hext]; exact (killed_ok H hb 0).1, ?_⟩
  intro i z hz
  by_cases hl : i < (kill h ids).length
  · rw [List.getElem?_append_left hl] at hz
    obtain ⟨e1, e2, e3⟩ := hm i (by rw [kill_len] at hl; exact hl)
    have := (killed_ok H hb n).2 i z hz
    cases z <;> simp_all [okB]
  · rw [List.getElem?_append_right (by omega)] at hz
    have h0 : i - (kill h ids).length = 0 := by
      rcases Nat.eq_zero_or_pos (i - (kill h ids).length) with h0 | h0
      · exact h0
      · rw [List.getElem?_eq_none (by simp; omega)] at hz; cases hz
    rw [h0] at hz
    simp at hz
    subst hz
    have : i = h.length := by rw [kill_len] at hl h0; omega
    subst this
    exact hx

theorem row_get {m : Mp} {h : List Blk} {v : Value} {B : List Nat} : ∀ i, i < h.length → (m.row h.length v B).val i = m.val i ∧ (m.row h.length v B).blk i = m.blk i ∧ (m.row h.length v B).nst i = m.nst i := fun i hi => by
  have : i ≠ h.length := by omega
  simp [Mp.row, this]

/-- Cells to the new row's use. -/
theorem okC_row {ids : List Nat} {e : Nat} {t : Ty} {xs : List (Val t)} {mt : Bool} {n : Nat} {v : Value} (H : HR w0 mine w m h) (hfresh : ∀ b, v.ownBlock = some b → w.heap.size ≤ b)
    (hok : Oks w w' m (m.row h.length v []) h (kill h ids ++ [.row e t xs false mt n])) {c : LC} (hc : ∀ id, c = .own id → id ∈ ids) : okC w m h (okAt (m.row h.length v []) (kill h ids ++ [.row e t xs false mt n]) (h.length + 1)) c := by
  have hx : ∀ n' b, b < w.heap.size → okB (m.row h.length v []) n' b h.length (.row e t xs false mt n) := fun k b hlt => by
    refine ⟨fun _ hob => ?_, fun hh => by simp at hh⟩
    simp only [Mp.row, if_true] at hob
    have := hfresh b hob
    omega
  exact okC_new (m' := m.row h.length v []) (x := .row e t xs false mt n) H row_get rfl hx (by simp) hok hc
theorem mem_moved {cs : List LC} {id : Nat} (h : LC.own id ∈ cs) : id ∈ moved cs := by
  simp only [moved, List.mem_filterMap]
  exact ⟨_, h, rfl⟩
end
end Go.T
