/- T: stores. -/
import Derived.Test.YtkjiecjpdbpghaaT9
namespace Go.T
open Go

section
variable {w0 w w' : World} {mine : Mine} {m m' : Mp} {h h1 : List Blk}

theorem fpB_same {id : Nat} {x : Blk} (hv : m'.val id = m.val id) (hb : m'.blk id = m.blk id) (hn : m'.nst id = m.nst id) : fpB m' id x = fpB m id x := by
  cases x <;> simp [fpB, hv, hb, hn]
theorem okB_same {n b id : Nat} {x : Blk} (hv : m'.val id = m.val id) (hb : m'.blk id = m.blk id) (hn : m'.nst id = m.nst id) : okB m' n b id x ↔ okB m n b id x := by
  cases x <;> simp [okB, hv, hb, hn]

/-- A block is written; rows may be given up for it. -/
theorem HR.write (H : HR w0 mine w m h) (hw : Weakers h h1) {id : Nat} {x x' : Blk} (hx : h1[id]? = some x)
    (hv : m'.val = m.val) (hb : m'.blk = m.blk) (hns : ∀ i, i ≠ id → m'.nst i = m.nst i) (hext : m'.ext = m.ext) (hsim : Sim m m' id x x')
    (hfp : ∀ b ∈ fpB m' id x', b ∈ fpB m id x ∨ (b < w.heap.size ∧ (w0.heap.size ≤ b ∨ mine.own b) ∧ ∀ i y, h1[i]? = some y → i ≠ id → b ∉ fpB m i y))
    (hnd : (fpB m' id x').Nodup) (hokx : ∀ n b, okAt m h n b → b < w.heap.size → okB m' n b id x') {g : Nat} (hg : g ∈ fpB m id x)
    (hfr : Fr (fun k => k = g) w w') (htop : ∀ n b, okAt m h n b → b ≠ g)
    (hbr : Oks w w' m m' h (h1.set id x') → Sims m m' h (h1.set id x') → BR w' m' (h1.set id x') id x') :
    HR w0 mine w' m' (h1.set id x') ∧ Oks w w' m m' h (h1.set id x') ∧ Sims m m' h (h1.set id x') := by
  obtain ⟨H1, hok1, hs1⟩ := H.weaker hw
  have hl := (List.getElem?_eq_some_iff.1 hx).1
  have get : ∀ i y, (h1.set id x')[i]? = some y → (i ≠ id ∧ h1[i]? = some y) ∨ (i = id ∧ y = x') := fun i y hy => by
    by_cases e : id = i
    · subst e
      rw [List.getElem?_set_self hl] at hy
      cases hy; exact .inr ⟨rfl, rfl⟩
    · rw [List.getElem?_set_ne e] at hy
      exact .inl ⟨fun h => e h.symm, hy⟩
  have fpe : ∀ i y, i ≠ id → fpB m' i y = fpB m i y := fun i y hne => fpB_same (by rw [hv]) (by rw [hb]) (hns i hne)
  have hok : Oks w w' m m' h (h1.set id x') := fun n b hbk hlt => ⟨hfr.block b hlt (htop n b hbk), by rw [hext]; exact hbk.1, fun i y hy => by
    rcases get i y hy with ⟨hne, hy'⟩ | ⟨rfl, rfl⟩
    · exact (okB_same (by rw [hv]) (by rw [hb]) (hns i hne)).2 ((hok1 n b hbk hlt).2.2 i y hy')
    · exact hokx n b hbk hlt⟩
  have hs : Sims m m' h (h1.set id x') := fun i y hy => by
    obtain ⟨y1, hy1, hsm⟩ := hs1 i y hy
    by_cases e : id = i
    · subst e
      rw [hx] at hy1; cases hy1
      refine ⟨x', List.getElem?_set_self hl, ?_⟩
      cases y <;> cases x <;> cases x' <;> simp_all [Sim]
    · refine ⟨y1, by rw [List.getElem?_set_ne e]; exact hy1, ?_⟩
      cases y <;> cases y1 <;> simp_all [Sim]
  refine ⟨⟨fun i y hy => ?_, fun i y hy => ?_, fun i y1 i' y2 hne h1' h2' b hb1 hb2 => ?_, fun i y hy b hb1 => ?_, hfr.lift H1 fun k hk => ⟨id, x, hx, hk ▸ hg⟩, hext.trans H.mx, H.nx⟩, hok, hs⟩
  · rcases get i y hy with ⟨hne, hy'⟩ | ⟨rfl, rfl⟩
    · have hbr1 : BR w m h i y ∨ True := .inr trivial
      -- from the weaker heap to the written one
      have hok2 : Oks w w' m m' h1 (h1.set id x') ∨ True := .inr trivial
      have hB := H1.br i y hy'
      -- relate h1 to h by the original's relation
      obtain ⟨y0, hy0, hwk⟩ : ∃ y0, h[i]? = some y0 ∧ Weaker y0 y := by
        have hlt : i < h.length := by rw [← hw.1]; exact (List.getElem?_eq_some_iff.1 hy').1
        exact ⟨h[i], List.getElem?_eq_getElem hlt, hw.2 i _ _ (List.getElem?_eq_getElem hlt) hy'⟩
      refine BR_mono hok hs (by rw [hv]) (by rw [hb]) (hns i hne) (fun b hb1 => hfr.block b (H1.lt i y hy' b hb1).1 fun e => ?_) (BR_weaker hwk (H.br i y0 hy0))
      exact H1.dj i y id x hne hy' hx b hb1 (e ▸ hg)
    · exact hbr hok hs
  · rcases get i y hy with ⟨hne, hy'⟩ | ⟨rfl, rfl⟩
    · rw [fpe i y hne]; exact H1.nd i y hy'
    · exact hnd
  · rcases get i y1 h1' with ⟨hne1, hy1⟩ | ⟨rfl, rfl⟩ <;> rcases get i' y2 h2' with ⟨hne2, hy2⟩ | ⟨rfl, rfl⟩
    · rw [fpe i y1 hne1] at hb1; rw [fpe i' y2 hne2] at hb2
      exact H1.dj i y1 i' y2 hne hy1 hy2 b hb1 hb2
    · rw [fpe i y1 hne1] at hb1
      rcases hfp b hb2 with hh | ⟨_, _, hh⟩
      · exact H1.dj i y1 _ x hne hy1 hx b hb1 hh
      · exact hh i y1 hy1 hne1 hb1
    · rw [fpe i' y2 hne2] at hb2
      rcases hfp b hb1 with hh | ⟨_, _, hh⟩
      · exact H1.dj i' y2 _ x hne2 hy2 hx b hb2 hh
      · exact hh i' y2 hy2 hne2 hb2
    · exact hne rfl
  · rcases get i y hy with ⟨hne, hy'⟩ | ⟨rfl, rfl⟩
    · rw [fpe i y hne] at hb1
      have := H1.lt i y hy' b hb1
      exact ⟨Nat.lt_of_lt_of_le this.1 hfr.size, this.2⟩
    · rcases hfp b hb1 with hh | ⟨h1', h2', _⟩
      · have := H1.lt _ x hx b hh
        exact ⟨Nat.lt_of_lt_of_le this.1 hfr.size, this.2⟩
      · exact ⟨Nat.lt_of_lt_of_le h1' hfr.size, h2'⟩
end

/-! ### the machine's store -/
section
variable {P : Program} {tt : TT} {o : Oper} {a : Act} {w0 w : World} {mine : Mine} {st : St} {next : Act → World → Prop} {Q : Exit → Act → World → Prop}

theorem run_storeVar {t : Nat} {ti : TI} (hti : TIok P tt t ti) {g f : Nat} {ty : TypeId} {cur : Array Value} (hg : w.heap[g]? = some (.cells cur ty (0, 0))) {v : Value} (hl : v.cells.toList.length = ti.ty.sz) (hfit : f + ti.ty.sz ≤ cur.size)
    (h1 : ∀ u ∈ v.cells.toList, u.oneCell' = true) :
    (storeVar t ⟨g, f, none⟩ v).run P w = .ok () (w.setRow g (cur.toList.take f ++ v.cells.toList ++ cur.toList.drop (f + ti.ty.sz)).toArray) := by
  have hst := run_storeCells_at P g f ty v.cells.toList 0 cur w hg (by omega) h1
  have hsz : v.cells.size = ti.ty.sz := by simpa using hl
  simp only [Nat.add_zero] at hst
  rw [hl] at hst
  simp [storeVar, hti.sizeOf, hsz, hst]

theorem snd_storeBox (hT : TTok P tt) {t : Nat} {ti : TI} (ht : tt.get t = some ti) {x y : Operand} (ho : o.op = .store t x y) (hdst : o.dst = none) {id i f : Nat} (ex : st.ev x = .one (.ptr id i f)) {old : List LC} (hb : st.heap[id]? = some (.box old))
    (hl : (st.ev y).cells.length = ti.ty.sz) (hdef : (st.ev y).cells.all LC.isDef = true) (hfit : f + ti.ty.sz ≤ old.length) (hr : R w0 mine st a w)
    (hn : ∀ a' w', R w0 mine { st with heap := st.heap.set id (.box (old.take f ++ (st.ev y).cells ++ old.drop (f + (st.ev y).cells.length))) } a' w' → next a' w') : o.wp P a w next Q := by
  obtain ⟨hd, m, H, he⟩ := hr
  have hti := hT t ti ht
  have hx := R.ev H he x
  rw [ex] at hx
  simp only [V, C, hb] at hx
  obtain ⟨rfl, hxv⟩ := hx
  obtain ⟨hc, h1⟩ := V_cells H.br (R.ev H he y) hdef (by rw [hl]; exact ti.ty.sz_pos)
  obtain ⟨arr, ty, hblk, hf, h1'⟩ := H.br id _ hb
  have hasz : arr.size = old.length := by simpa using hf.len.symm
  have hvl : (a.eval y).cells.toList.length = ti.ty.sz := by rw [← hc.len, hl]
  have hrun := run_storeVar (P := P) (w := w) hti hblk hvl (by rw [hasz]; exact hfit) h1
  refine wp_skp (w' := w.setRow (m.blk id) (arr.toList.take f ++ (a.eval y).cells.toList ++ arr.toList.drop (f + ti.ty.sz)).toArray) (by simp [execOp, ho, hxv, Instr.storeAt, Instr.sureAddr, hrun]) (hn _ _ ?_)
  have hh := H.write (w' := w.setRow (m.blk id) (arr.toList.take f ++ (a.eval y).cells.toList ++ arr.toList.drop (f + ti.ty.sz)).toArray) (m' := m) (Weakers.refl st.heap) hb (x' := .box (old.take f ++ (st.ev y).cells ++ old.drop (f + (st.ev y).cells.length))) rfl rfl (fun _ _ => rfl) rfl (by simp [Sim]) (fun b hb' => .inl hb') (by simp [fpB])
    (fun n b hk hlt => (hk.2 id _ hb : okB m n b id (.box old))) (g := m.blk id) (by simp [fpB]) (Fr_setRow w _ _ _ rfl) (fun n b hk => (hk.2 id _ hb : okB m n b id (.box old))) (fun ho hs => by
      refine ⟨_, ty, setRow_heap w _ arr _ ty _ hblk, ?_, ?_⟩
      · have : F2 (C w m st.heap) (old.take f ++ (st.ev y).cells ++ old.drop (f + (st.ev y).cells.length)) (arr.toList.take f ++ (a.eval y).cells.toList ++ arr.toList.drop (f + ti.ty.sz)) := by
          rw [hl]
          exact ((hf.take f).append hc).append (hf.drop _)
        have h2 := this.imp fun _ _ _ h => C_mono ho hs h
        rw [List.toList_toArray]
        exact h2
      · intro u hu
        rw [List.toList_toArray] at hu
        simp only [List.mem_append] at hu
        rcases hu with (hu | hu) | hu
        · exact h1' u (List.mem_of_mem_take hu)
        · exact h1 u hu
        · exact h1' u (List.mem_of_mem_drop hu))
  refine ⟨by rw [put_defers]; exact hd, m, hh.1, ?_⟩
  rw [hdst]
  exact env_mono hh.2.1 hh.2.2 he

/-- A row's cells after a store. -/
theorem ownsRow_setRow {base : Nat} {e : TypeId} {size : Nat} {g n cap : Nat} {xs : List Value} (h : w.ownsRow base e size (.slice (some ⟨g, 0, none⟩) n cap) n xs) {cur : Array Value} {ty : TypeId} (hg : w.heap[g]? = some (.cells cur ty (0, 0))) (f : Nat) (vs : List Value) (hfit : f + vs.length ≤ n * size) :
    (w.setRow g (cur.toList.take f ++ vs ++ cur.toList.drop (f + vs.length)).toArray).ownsRow base e size (.slice (some ⟨g, 0, none⟩) n cap) n (xs.take f ++ vs ++ xs.drop (f + vs.length)) := by
  obtain ⟨hl, hh⟩ := h
  rcases hh with ⟨hh, _⟩ | ⟨g', cap', cur', hh, hb, hgg, hnc, hcm, hcs, htake⟩
  · simp at hh
  · simp only [Value.slice.injEq, Option.some.injEq, Addr.mk.injEq, and_true, true_and] at hh
    obtain ⟨rfl, rfl⟩ := hh
    rw [hg] at hgg
    cases hgg
    have hnm : n * size ≤ cap * size := Nat.mul_le_mul_right _ hnc
    refine ⟨by simp [hl]; omega, .inr ⟨g, cap, _, rfl, hb, setRow_heap w g cur _ e _ hg, hnc, hcm, ?_, ?_⟩⟩
    · simp; omega
    · rw [← htake]
      apply List.ext_getElem?
      intro j
      simp only [List.getElem?_take, List.getElem?_append, List.length_take, List.length_append, List.getElem?_drop, Array.length_toList]
      by_cases hj : j < n * size
      · simp only [hj, if_true]
        split <;> rename_i h1
        · split <;> rename_i h2
          · rw [if_pos (by omega), if_pos (by omega)]
            rw [if_pos (by omega)]
          · rw [if_pos (by omega), if_neg (by omega)]
            congr 1; omega
        · rw [if_neg (by omega), if_pos (by omega)]
          congr 1; omega
      · simp only [hj, if_false]
        rw [if_neg (by omega)]
        rw [if_neg (by omega)]
end
end Go.T
