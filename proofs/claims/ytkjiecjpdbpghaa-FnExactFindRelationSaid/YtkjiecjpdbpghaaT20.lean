/- T: structs; every operation. -/
import Derived.Test.YtkjiecjpdbpghaaT19
namespace Go.T
open Go
section
variable {P : Program} {tt : TT} {o : Oper} {a : Act} {w0 w : World} {mine : Mine} {st : St} {next : Act → World → Prop} {Q : Exit → Act → World → Prop}

theorem fill_T {m : Mp} (H : HR w0 mine w m st.heap) (he : F2 (V w m st.heap) st.env a.tmps.toList) {offs : List (Nat × Nat)} {sz : Nat} (hoff : ∀ (f n i : Nat), offs[i]? = some (f, n) → 0 < n ∧ f + n ≤ sz) :
    ∀ (ps : List (Nat × Operand)) (cs cs' : List LC) (cur : Array Value), F2 (C w m st.heap) cs cur.toList → cur.size = sz → fillT offs cs (ps.map fun p => (p.1, (st.ev p.2).cells)) = some cs' →
      ∃ res, Instr.fill (offs.toArray[·]?) cur (ps.map fun p => (p.1, a.eval p.2)) = some res ∧ F2 (C w m st.heap) cs' res.toList
  | [], cs, cs', cur, hf, _, h => by simp [fillT] at h; subst h; exact ⟨cur, rfl, hf⟩
  | (i, x) :: ps, cs, cs', cur, hf, hsz, h => by
    simp only [List.map_cons, fillT] at h
    split at h
    · rename_i f n ho
      split at h
      · rename_i hc
        obtain ⟨hn, hfn⟩ := hoff f n i ho
        obtain ⟨hcc, _⟩ := V_cells H.br (R.ev H he x) hc.2 (by omega)
        have hl : (a.eval x).cells.size = n := by have := hcc.len; simp at this; omega
        have hput := foldl_put (a.eval x).cells.toList 0 f cur (by simp; omega)
        simp only [Nat.add_zero, Array.length_toList, hl] at hput
        have hput2 : ((a.eval x).cells.zipIdx.foldl (fun (cs : Array Value) (p : Value × Nat) => cs.setIfInBounds (f + p.2) p.1) cur).toList = cur.toList.take f ++ (a.eval x).cells.toList ++ cur.toList.drop (f + n) := by
          rw [← hput, ← Array.foldl_toList, Array.toList_zipIdx]
        generalize hc2 : (a.eval x).cells.zipIdx.foldl (fun (cs : Array Value) (p : Value × Nat) => cs.setIfInBounds (f + p.2) p.1) cur = c2 at hput2
        have hsz2 : c2.size = sz := by
          have := congrArg List.length hput2
          simp at this
          omega
        obtain ⟨res, h1, h2⟩ := fill_T H he hoff ps _ cs' c2 (by rw [hput2]; exact ((hf.take f).append hcc).append (hf.drop _)) hsz2 h
        refine ⟨res, ?_, h2⟩
        have hc2' : (a.eval x).cells.zipIdx.foldl (fun (cs : Array Value) (x : Value × Nat) => match x with | (c, j) => cs.setIfInBounds (f + j) c) cur = c2 := hc2
        simp only [List.map_cons, Instr.fill, List.getElem?_toArray, ho]
        rw [if_neg (by simp [hl]; omega), hc2']
        simpa using h1
      · simp at h
    · simp at h

theorem snd_build (hT : TTok P tt) {t : Nat} {ti : TI} (ht : tt.get t = some ti) {ps : Array (Nat × Operand)} (ho : o.op = .build t ps) (hne : ti.offs.isEmpty ≠ true) {cs : List LC} (hf : fillT ti.offs (zeros ti.ty) (ps.toList.map fun p => (p.1, (st.ev p.2).cells)) = some cs) (hr : R w0 mine st a w)
    (hn : ∀ a' w', R w0 mine (st.put o.dst (.agg cs)) a' w' → next a' w') : o.wp P a w next Q := by
  obtain ⟨hd, m, H, he⟩ := hr
  have hti := hT t ti ht
  obtain ⟨i, z, hi, hs, hz, hzc, _⟩ := hti.info
  have hoff : ∀ (f n i : Nat), ti.offs[i]? = some (f, n) → 0 < n ∧ f + n ≤ ti.ty.sz := fun f n i h => by
    obtain ⟨fs, fl, _, _, _, j, _, _, h1, h2⟩ := hti.offsStruct f n i h
    exact ⟨h1, h2⟩
  obtain ⟨res, h1, h2⟩ := fill_T H he hoff ps.toList (zeros ti.ty) cs z.cells (by rw [hzc]; exact zeros_C _ _ _ _) (by
    have := congrArg List.length hzc
    simpa [zvals_len] using this) hf
  obtain ⟨d, hu, hdd⟩ := hti.desc
  have hst : ∃ fs, d = .struct fs := by
    cases hof : ti.offs with
    | nil => simp [hof] at hne
    | cons p r =>
      obtain ⟨fs, _, hu', _⟩ := hti.offsStruct p.1 p.2 0 (by rw [hof]; rfl)
      rw [hu] at hu'; cases hu'; exact ⟨fs, rfl⟩
  obtain ⟨fs, rfl⟩ := hst
  obtain ⟨_, hmap⟩ := hdd
  have hb : P.built t (ps.map fun p => (p.1, a.eval p.2)).toList = some res := by
    unfold Program.built
    simp only [hi, hu, hz, hmap]
    simpa using h1
  have hrun := run_build (P := P) w t _ res hb
  refine wp_val (v := .agg res) (w' := w) ?_ (hn _ _ (R.put ⟨hd, m, H, he⟩ _ fun m' H' he' => ?_))
  · simp only [execOp, ho]; rw [Sem.run_bind, hrun]; rfl
  · obtain ⟨res', h1', h2'⟩ := fill_T H' he' hoff ps.toList (zeros ti.ty) cs z.cells (by rw [hzc]; exact zeros_C _ _ _ _) (by
      have := congrArg List.length hzc
      simpa [zvals_len] using this) hf
    rw [h1] at h1'
    cases h1'
    exact ⟨res, rfl, h2'⟩

theorem snd_store (hT : TTok P tt) {t : Nat} {x y : Operand} (ho : o.op = .store t x y) (hdst : o.dst = none) {p : Prop} {st' : St} (hs : stepStore tt t (st.ev x) (st.ev y) st = some (p, st')) (hp : p) (hr : R w0 mine st a w)
    (hn : ∀ a' w', R w0 mine st' a' w' → next a' w') : o.wp P a w next Q := by
  unfold stepStore at hs
  split at hs
  · simp at hs
  rename_i ti ht
  split at hs
  · rename_i id i f ex
    dsimp only at hs
    split at hs
    · rename_i old hb
      cases hs
      obtain ⟨h1, h2, h3⟩ := hp
      exact snd_storeBox hT ht ho hdst ex hb h1 h2 h3 hr hn
    · rename_i e te xs dp n hb
      split at hs
      · rename_i hc
        split at hs
        · rename_i c ey
          split at hs
          · rename_i v hv
            cases hs
            exact snd_storeCell hT ht ho hdst ex hb ey hc.1 hv hp hr hn
          · simp at hs
        · simp at hs
      · split at hs
        · rename_i hc
          obtain ⟨rfl, hty, hnd, hid, hdef⟩ := hc
          split at hs
          · rename_i v hv
            cases hdd : (dp && deepOf st.heap (st.ev y).cells) with
            | true =>
              simp only [hdd, cond_true] at hs
              cases hs
              exact snd_storeWhole hT ht ho hdst ex hb hty hnd hid hdef hv hp hr (by simpa [hdd] using hn)
            | false =>
              simp only [hdd, cond_false] at hs
              cases hs
              exact snd_storeWhole hT ht ho hdst ex hb hty hnd hid hdef hv hp hr (by simpa [hdd] using hn)
          · simp at hs
        · simp at hs
    · simp at hs
  · simp at hs

theorem stepOp_sound (hT : TTok P tt) {p : Prop} {st' : St} (hs : stepOp tt o st = some (p, st')) (hp : p) (hr : R w0 mine st a w) (hn : ∀ a' w', R w0 mine st' a' w' → next a' w') : o.wp P a w next Q := by
  unfold stepOp at hs
  split at hs
  · rename_i x ho; cases hs; exact snd_move (.inl ho) hr hn
  · rename_i x ho; cases hs; exact snd_move (.inr ho) hr hn
  · rename_i c x y ho
    split at hs
    · rename_i b ec
      split at hs
      · rename_i bx by' ex ey
        cases hs
        refine snd_pick ho ec hr (.one (.bool (bif b then bx else by'))) (fun m v1 v2 h1 h2 => ?_) hn
        rw [ex] at h1; rw [ey] at h2
        cases b
        · exact h2
        · exact h1
      · cases hs
        refine snd_pick ho ec hr _ (fun m v1 v2 h1 h2 => ?_) hn
        cases b
        · exact h2
        · exact h1
    · simp at hs
  · rename_i t ho
    split at hs
    · rename_i ti ht; cases hs; exact snd_alloc hT ho ht hr hn
    · simp at hs
  · rename_i t x ho
    split at hs
    · rename_i ti ht
      cases hs
      exact snd_box ho hr hp.2 (by rw [hp.1]; exact ti.ty.sz_pos) hn
    · simp at hs
  · rename_i t ps ho
    split at hs
    · rename_i ti ht
      split at hs
      · simp at hs
      · rename_i hne
        split at hs
        · rename_i cs hf; cases hs; exact snd_build hT ht ho hne hf hr hn
        · simp at hs
    · simp at hs
  · rename_i t x ho; exact snd_load hT ho hs hp hr hn
  · rename_i t x y ho
    split at hs
    · rename_i hd; exact snd_store hT ho hd hs hp hr hn
    · simp at hs
  · rename_i t x f ho; exact snd_field hT ho hs hr hn
  · rename_i t x y ho; exact snd_indexAddr hT ho hs hp hr hn
  · rename_i op t x y ty ho; exact snd_bin hT ho hs hp hr hn
  · rename_i op t x ho; exact snd_un ho hs hr hn
  · rename_i x i ho
    split at hs
    · rename_i vs ex
      split at hs
      · rename_i v hv; cases hs; exact snd_extract ho ex hv hr hn
      · simp at hs
    · simp at hs
  · rename_i x ho
    split at hs
    · rename_i id i f ex
      split at hs
      · simp at hs
      · rename_i hb; cases hs; exact snd_nilCheck ho ex hb hr hn
    · simp at hs
  · rename_i t l c ho
    split at hs
    · rename_i ti k n k' cp ht el ec
      split at hs
      · rename_i e te hag hty
        cases hs
        exact snd_makeSlice hT ht ho hag hty el ec hp.1 hp.2.1 hp.2.2 hr hn
      · simp at hs
    · simp at hs
  · rename_i t n ps ho
    split at hs
    · rename_i ti ht
      split at hs
      · rename_i e te hag hty
        dsimp only at hs
        split at hs
        · rename_i hc
          split at hs
          · rename_i xs hxs
            cases hs
            exact snd_buildSlice hT ht ho hag hty hc.1 hc.2.1 hc.2.2.1 hc.2.2.2 hxs hr hn
          · simp at hs
        · simp at hs
      · simp at hs
    · simp at hs
  · rename_i t x y ho; exact snd_index hT ho hs hp hr hn
  · rename_i c ho
    split at hs
    · rename_i hc
      split at hs
      · rename_i x t hx ht'
        split at hs
        · rename_i ti ht
          split at hs
          · rename_i n hl
            cases hs
            exact snd_len hT ho hc (by rw [← Array.toList_inj, hx]) (by rw [← Array.toList_inj, ht']) ht hl hr hn
          · simp at hs
        · simp at hs
      · simp at hs
    · rename_i hc
      split at hs
      · rename_i x y t t' hx ht'
        split at hs
        · rename_i e
          subst e
          exact snd_append hT ho hc (by rw [← Array.toList_inj, hx]) (by rw [← Array.toList_inj, ht']) hs hp hr hn
        · simp at hs
      · simp at hs
    · simp at hs
  · simp at hs
end
end Go.T
