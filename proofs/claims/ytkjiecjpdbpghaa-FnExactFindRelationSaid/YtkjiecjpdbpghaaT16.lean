/- T: literals of slices. -/
import Derived.Test.YtkjiecjpdbpghaaT15
namespace Go.T
open Go

theorem implode_nil (h : List Blk) : ∀ t : Ty, implode h t [] = none
  | .int _ | .bool | .str | .slice _ _ => by simp [implode]
  | .pair a b => by simp [implode, implode_nil h a]
theorem implodes_pos {h : List Blk} {t : Ty} : ∀ {css : List (List LC)} {xs : List (Val t)}, implodes h t css = some xs → ∀ cs ∈ css, 0 < cs.length
  | [], _, _ => by simp
  | cs :: css, xs, hi => by
    simp only [implodes] at hi
    split at hi
    · rename_i v hv
      split at hi
      · rename_i vs hvs
        intro c hc
        rcases List.mem_cons.1 hc with rfl | hc
        · cases c with
          | nil => rw [implode_nil] at hv; simp at hv
          | cons => simp
        · exact implodes_pos hvs c hc
      · simp at hi
    · simp at hi

section
variable {P : Program} {tt : TT} {o : Oper} {a : Act} {w0 w : World} {mine : Mine} {st : St} {next : Act → World → Prop} {Q : Exit → Act → World → Prop}

theorem parts_F2 {m : Mp} (H : HR w0 mine w m st.heap) (he : F2 (V w m st.heap) st.env a.tmps.toList) : ∀ ps : List (Nat × Operand), (∀ p ∈ ps, (st.ev p.2).cells.all LC.isDef = true ∧ 0 < (st.ev p.2).cells.length) →
    F2 (F2 (C w m st.heap)) (ps.map fun p => (st.ev p.2).cells) (ps.map fun p => (a.eval p.2).cells.toList) ∧ ∀ p ∈ ps, ∀ u ∈ (a.eval p.2).cells.toList, u.oneCell' = true
  | [], _ => ⟨.nil, by simp⟩
  | p :: ps, hp => by
    obtain ⟨h1, h2⟩ := hp p (by simp)
    obtain ⟨h3, h4⟩ := V_cells H.br (R.ev H he p.2) h1 h2
    obtain ⟨h5, h6⟩ := parts_F2 H he ps fun q hq => hp q (by simp [hq])
    refine ⟨.cons h3 h5, fun q hq => ?_⟩
    rcases List.mem_cons.1 hq with rfl | hq
    · exact h4
    · exact h6 q hq

theorem snd_buildSlice (hT : TTok P tt) {t n : Nat} {ti : TI} (ht : tt.get t = some ti) {ps : Array (Nat × Operand)} (ho : o.op = .buildSlice t n ps) {e : Nat} {te : Ty} (hag : ti.agg = false) (hty : ti.ty = .slice e te)
    (hix : ps.toList.map (·.1) = List.range n) (hsm : n * te.sz ≤ 65536) (hnd : nodupB (moved (ps.toList.map fun p => (st.ev p.2).cells).flatten) = true) (hdef : (ps.toList.map fun p => (st.ev p.2).cells).flatten.all LC.isDef = true)
    {xs : List (Val te)} (hxs : implodes st.heap te (ps.toList.map fun p => (st.ev p.2).cells) = some xs) (hr : R w0 mine st a w)
    (hn : ∀ a' w', R w0 mine { (st.put o.dst (.one (.own st.heap.length))) with heap := newRow st.heap e te xs (te.flat || deepOf st.heap (ps.toList.map fun p => (st.ev p.2).cells).flatten) (moved (ps.toList.map fun p => (st.ev p.2).cells).flatten) } a' w' → next a' w') : o.wp P a w next Q := by
  obtain ⟨hd, m, H, he⟩ := hr
  have hti := hT t ti ht
  obtain ⟨hu, tie, hte, htt⟩ := hti.slc hag e te hty
  obtain ⟨i, z, hi, hs, hz, hzc, hby⟩ := (hT e tie hte).info
  rw [htt] at hs hzc
  have hpos := implodes_pos hxs
  obtain ⟨hff, h1⟩ := parts_F2 H he ps.toList fun p hp => ⟨List.all_eq_true.2 fun c hc => List.all_eq_true.1 hdef c (List.mem_flatten.2 ⟨_, List.mem_map.2 ⟨p, hp, rfl⟩, hc⟩), hpos _ (List.mem_map.2 ⟨p, hp, rfl⟩)⟩
  obtain ⟨hk, hxl, hvl⟩ := implodes_K (ok := fun _ => True) H.br hff hxs (fun c _ => by
    cases c <;> simp only [okC]
    · exact fun _ _ _ => trivial
    · intro x _
      exact ⟨fun _ _ => trivial, by split <;> simp⟩)
  have hlen : ps.toList.length = n := by
    have := congrArg List.length hix
    simpa using this
  have hxn : xs.length = n := by rw [hxl, List.length_map, hlen]
  -- the machine's
  let vs : List (Nat × Value) := ps.toList.map fun p => (p.1, a.eval p.2)
  have hvs1 : vs.map (·.1) = (List.range vs.length).map (0 + ·) := by
    simp only [vs, List.map_map, List.length_map, hlen, Nat.zero_add, List.map_id']
    rw [← hix]; rfl
  have hvs2 : ∀ p ∈ vs, p.2.cells.size = te.sz := by
    intro p hp
    obtain ⟨q, hq, rfl⟩ := List.mem_map.1 hp
    have := hvl _ (List.mem_map.2 ⟨q, hq, rfl⟩)
    simpa using this
  have hvl' : vs.length = n := by simp [vs, hlen]
  obtain ⟨res, hfill, hres⟩ := fill_range te.sz vs 0 ((Array.range (n * te.sz)).map ((if n * te.sz = 0 then (#[] : Array Value) else z.cells)[· % (if n * te.sz = 0 then (#[] : Array Value) else z.cells).size]!)) hvs1 hvs2 (by simp [hvl'])
  have hres' : res.toList = (ps.toList.map fun p => (a.eval p.2).cells.toList).flatten := by
    rw [hres]
    simp only [Nat.zero_mul, List.take_zero, List.nil_append, Nat.zero_add, hvl']
    rw [List.drop_eq_nil_of_le (by simp), List.append_nil]
    simp only [vs, List.map_map]
    rfl
  have hrs : res.size = n * te.sz := by
    have h2 := hk.len fun x c hk => K_len hk
    rw [← hres', hxn] at h2
    simpa using h2
  have hrun : (execOp a.eval o).run P w = .ok (.value (.slice (some ⟨w.heap.size, 0, none⟩) n n)) (w.alloc (.cells res e)) := by
    have hsz : (sizeOf e).run P w = .ok te.sz w := by simp [Go.sizeOf, typeInfo, hi, hs]
    by_cases h0 : n * te.sz = 0
    · simp only [h0, if_true, vs] at hfill
      simp at hfill
      simp [execOp, ho, Instr.buildSlice, run_underlying hu, hsz, h0, hfill, Go.newRow]
      try rfl
    · simp only [h0, if_false, vs] at hfill
      have hz' : (zeroValue e).run P w = .ok z w := by simp [zeroValue, typeInfo, hi, hz]
      have h24 : ¬ (2 ^ 24 < n * te.sz) := by omega
      simp [execOp, ho, Instr.buildSlice, run_underlying hu, hsz, h0, hz', h24, hfill, Go.newRow]
      try rfl
  refine wp_val hrun (hn _ _ ?_)
  have hown : (w.alloc (.cells res e)).ownsRow 0 e te.sz (.slice (some ⟨w.heap.size, 0, none⟩) n n) xs.length (ps.toList.map fun p => (a.eval p.2).cells.toList).flatten := by
    rw [hxn, ← hres']
    exact World.ownsRow_lit w res n (Nat.zero_le _) (by
      have := te.sz_pos
      have : n ≤ n * te.sz := Nat.le_mul_of_pos_right _ this
      simp only [maxLen]; omega) hrs
  have hold : ∀ b, b < w.heap.size → (w.alloc (.cells res e)).heap[b]? = w.heap[b]? := fun b hb => heap_alloc_old w _ b hb
  have hfresh : ∀ b, Value.ownBlock (.slice (some ⟨w.heap.size, 0, none⟩) n n) = some b → w.heap.size ≤ b := fun b hb => by simp [Value.ownBlock] at hb; omega
  unfold newRow
  cases hdp : (te.flat || deepOf st.heap (ps.toList.map fun p => (st.ev p.2).cells).flatten) with
  | true =>
    simp only [cond_true]
    by_cases hf : te.flat = true
    · refine R.newedW hd he (HR.newRow H (Weakers.kill _ _) (dp := true) (mt := true) (B := []) (Fr_alloc w _ _) hown hfresh (by simp) List.nodup_nil (by simp) (fun _ => los_le _ _ _) (fun h => by simp at h) (fun _ => ?_)) _ (own_new (kill_len _ _))
      exact flat_Ms hf (hk.imp fun x c hx => K_step (ok' := fun _ => True) (fun b _ hb => hold b hb) (fun _ _ _ => trivial) hx)
    · have hdeep : deepOf st.heap (ps.toList.map fun p => (st.ev p.2).cells).flatten = true := by simpa [hf] using hdp
      have hM := implodes_M H.br hff hxs hdeep
      refine R.newedW hd he (HR.newRow H (Weakers.kill _ _) (dp := true) (mt := true) (B := fpIds m st.heap (moved (ps.toList.map fun p => (st.ev p.2).cells).flatten)) (Fr_alloc w _ _) hown hfresh (fun b hb => fpIds_lt H hb) (fpIds_nodup H (nodupB_iff hnd)) (fun _ k b hk hle => fpIds_ok hk hle) (fun _ => los_le _ _ _) (fun h => by simp at h) (fun _ => ?_)) _ (own_new (kill_len _ _))
      exact hM.imp fun x c b hb hx => M_step hx fun k hk => hold k (fpIds_lt H (hb k hk)).1
  | false =>
    simp only [cond_false]
    refine R.newedW hd he (HR.newRow H (Weakers.kill _ _) (dp := false) (mt := true) (B := []) (Fr_alloc w _ _) hown hfresh (by simp) List.nodup_nil (by simp) (by simp) (fun h => rfl) (fun hok => ?_)) _ (own_new (kill_len _ _))
    obtain ⟨hk', _, _⟩ := implodes_K (ok := okAt (m.row st.heap.length (.slice (some ⟨w.heap.size, 0, none⟩) n n) []) (kill st.heap (moved (ps.toList.map fun p => (st.ev p.2).cells).flatten) ++ [.row e te xs false true (st.heap.length + 1)]) (st.heap.length + 1)) H.br hff hxs
      (fun c hc => okC_row H hfresh hok fun id hid => mem_moved (hid ▸ hc))
    exact hk'.imp fun x c hx => K_step (fun b _ hb => hold b hb) (fun b h _ => h) hx
end
end Go.T
