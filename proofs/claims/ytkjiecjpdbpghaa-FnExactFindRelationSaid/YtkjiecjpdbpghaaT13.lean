/- T: makes and literals. -/
import Derived.Test.YtkjiecjpdbpghaaT12
namespace Go.T
open Go

/-- Parts one behind the other. -/
theorem fill_range (sz : Nat) : ∀ (ps : List (Nat × Value)) (k : Nat) (cur : Array Value), ps.map (·.1) = (List.range ps.length).map (k + ·) → (∀ p ∈ ps, p.2.cells.size = sz) → (k + ps.length) * sz ≤ cur.size →
    ∃ res, Instr.fill (fun i => some (i * sz, sz)) cur ps = some res ∧ res.toList = cur.toList.take (k * sz) ++ (ps.map fun p => p.2.cells.toList).flatten ++ cur.toList.drop ((k + ps.length) * sz)
  | [], k, cur, _, _, _ => ⟨cur, rfl, by simp⟩
  | (i, v) :: r, k, cur, hi, hs, hl => by
    simp only [List.length_cons, List.range_succ_eq_map, List.map_cons, List.map_map, List.cons.injEq] at hi
    obtain ⟨hik, hi⟩ := hi
    have hki : k = i := by rw [hik]; rfl
    subst hki
    clear hik
    have hv : v.cells.size = sz := hs (k, v) (by simp)
    have hksz : k * sz + sz ≤ cur.size := by
      have : (k + 1) * sz ≤ (k + (r.length + 1)) * sz := Nat.mul_le_mul_right _ (by omega)
      rw [Nat.succ_mul] at this
      simp only [List.length_cons] at hl
      omega
    have hvl : v.cells.toList.length = sz := by simpa using hv
    have hput := foldl_put v.cells.toList 0 (k * sz) cur (by omega)
    simp only [Nat.add_zero] at hput
    have hsz' : (v.cells.zipIdx.foldl (fun (cs : Array Value) (p : Value × Nat) => cs.setIfInBounds (k * sz + p.2) p.1) cur).toList = cur.toList.take (k * sz) ++ v.cells.toList ++ cur.toList.drop (k * sz + sz) := by
      rw [hvl] at hput
      rw [← hput, ← Array.foldl_toList, Array.toList_zipIdx]
    generalize hc2 : v.cells.zipIdx.foldl (fun (cs : Array Value) (p : Value × Nat) => cs.setIfInBounds (k * sz + p.2) p.1) cur = c2 at hsz'
    have hc2l : c2.size = cur.size := by
      have := congrArg List.length hsz'
      simp at this
      omega
    obtain ⟨res, hr, hres⟩ := fill_range sz r (k + 1) c2 (by
      rw [hi]; apply List.map_congr_left; intro a _; simp; omega) (fun p hp => hs p (List.mem_cons_of_mem _ hp)) (by rw [hc2l]; simp only [List.length_cons] at hl; rw [show k + 1 + r.length = k + (r.length + 1) by omega]; exact hl)
    refine ⟨res, ?_, ?_⟩
    · have h1 : ¬ (k * sz + v.cells.size > cur.size) := by omega
      have hc2' : v.cells.zipIdx.foldl (fun (cs : Array Value) (x : Value × Nat) => match x with | (c, j) => cs.setIfInBounds (k * sz + j) c) cur = c2 := hc2
      simp only [Instr.fill]
      rw [if_neg (by simp [hv]; omega), hc2']
      exact hr
    · rw [hres, hsz']
      simp only [List.length_cons, List.map_cons, List.flatten_cons]
      have e1 : (k + 1) * sz = k * sz + sz := Nat.succ_mul _ _
      have l1 : (cur.toList.take (k * sz) ++ v.cells.toList).length = k * sz + sz := by simp; omega
      have hge : (k + 1 + r.length) * sz = k * sz + sz + r.length * sz := by rw [Nat.add_mul, e1]
      rw [e1, hge, List.take_append_of_le_length (by omega), List.take_of_length_le (by omega), List.drop_append, List.drop_eq_nil_of_le (by omega), l1, List.nil_append, List.drop_drop]
      have : k * sz + sz + (k * sz + sz + r.length * sz - (k * sz + sz)) = (k + (r.length + 1)) * sz := by
        rw [show k + (r.length + 1) = k + 1 + r.length by omega, hge]; omega
      rw [this]
      simp

section
variable {P : Program} {tt : TT} {o : Oper} {a : Act} {w0 w : World} {mine : Mine} {st : St} {next : Act → World → Prop} {Q : Exit → Act → World → Prop}

theorem R.newedW {m m' : Mp} {w' : World} {h1 : List Blk} {x : Blk} (hd : a.defers = []) (he : F2 (V w m st.heap) st.env a.tmps.toList) (hh : HR w0 mine w' m' (h1 ++ [x]) ∧ Oks w w' m m' st.heap (h1 ++ [x]) ∧ Sims m m' st.heap (h1 ++ [x]))
    (d : Option Tmp) {c : LC} {v : Value} (hv : C w' m' (h1 ++ [x]) c v) : R w0 mine { (st.put d (.one c)) with heap := h1 ++ [x] } (a.put d v) w' := by
  refine ⟨by rw [put_defers]; exact hd, m', hh.1, ?_⟩
  show F2 (V w' m' (h1 ++ [x])) (st.put d (.one c)).env _
  rw [St.put_env]
  exact env_put (env_mono hh.2.1 hh.2.2 he) d (l := .one c) hv

theorem own_new {w' : World} {m : Mp} {h h1 : List Blk} (hl : h1.length = h.length) {e : Nat} {t : Ty} {xs : List (Val t)} {dp mt : Bool} {n : Nat} {v : Value} {B : List Nat} : C w' (m.row h.length v B) (h1 ++ [.row e t xs dp mt n]) (.own h.length) v := by
  have : (h1 ++ [.row e t xs dp mt n])[h.length]? = some (.row e t xs dp mt n) := by rw [← hl]; simp
  simp only [C, this, Mp.row, if_true]

theorem snd_makeSlice (hT : TTok P tt) {t : Nat} {ti : TI} (ht : tt.get t = some ti) {l c : Operand} (ho : o.op = .makeSlice t l c) {e : Nat} {te : Ty} (hag : ti.agg = false) (hty : ti.ty = .slice e te) {k k' : IntKind} {n cp : Int}
    (el : st.ev l = .one (.int k n)) (ec : st.ev c = .one (.int k' cp)) (h0 : 0 ≤ n) (hnc : n ≤ cp) (hc : cp ≤ 1048576) (hr : R w0 mine st a w)
    (hn : ∀ a' w', R w0 mine (st.new o.dst (.row e te (List.replicate n.toNat (dflt te)) true true st.heap.length) (.own st.heap.length)) a' w' → next a' w') : o.wp P a w next Q := by
  obtain ⟨hd, m, H, he⟩ := hr
  have hti := hT t ti ht
  have hl := R.ev H he l
  have hcv := R.ev H he c
  rw [el] at hl; rw [ec] at hcv
  have hlv : a.eval l = .int k n := hl
  have hcv : a.eval c = .int k' cp := hcv
  obtain ⟨hu, tie, hte, htt⟩ := hti.slc hag e te hty
  obtain ⟨i, z, hi, hs, hz, hzc, hby⟩ := (hT e tie hte).info
  rw [htt] at hs hzc
  have hrun := run_make (P := P) w t e i z hu hi hz k k' n cp h0 hnc (by
    have h1 : (i.bytes : Int) * cp ≤ 65536 * 1048576 := by
      have hb : (i.bytes : Int) ≤ 65536 := by omega
      exact Int.le_trans (Int.mul_le_mul_of_nonneg_right hb (by omega)) (Int.mul_le_mul_of_nonneg_left hc (by omega))
    omega) (by omega)
  refine wp_val (v := .slice (some ⟨w.heap.size, 0, none⟩) n.toNat cp.toNat) (w' := w.alloc (.cells (madeCells z.cells (cp.toNat * i.size)) e)) (by simp only [execOp, ho, hlv, hcv]; rw [Sem.run_bind, hrun]; rfl) (hn _ _ ?_)
  have hzl : (madeCells z.cells (cp.toNat * i.size)).toList = (List.replicate cp.toNat (zvals te)).flatten := by rw [hs]; exact madeCells_zeros hzc _
  have hown : (w.alloc (.cells (madeCells z.cells (cp.toNat * i.size)) e)).ownsRow 0 e te.sz (.slice (some ⟨w.heap.size, 0, none⟩) n.toNat cp.toNat) (List.replicate n.toNat (dflt te)).length (List.replicate n.toNat (zvals te)).flatten := by
    rw [List.length_replicate]
    refine ⟨by simp [zvals_len], .inr ⟨w.heap.size, cp.toNat, _, rfl, Nat.zero_le _, heap_alloc_new w _, by omega, by simp only [maxLen]; omega, by rw [size_madeCells, hs], ?_⟩⟩
    rw [hzl, show cp.toNat = n.toNat + (cp.toNat - n.toNat) by omega, ← List.replicate_append_replicate, List.flatten_append, List.take_left' (by simp [zvals_len])]
  exact R.newedW hd he (HR.newRow H (Weakers.refl _) (dp := true) (mt := true) (n := st.heap.length) (B := []) (Fr_alloc w _ _) hown (fun b hb => by simp [Value.ownBlock] at hb; omega) (by simp) List.nodup_nil (by simp) (fun _ => Nat.le_refl _) (fun h => by simp at h) (fun _ => Ms_replicate (zeros_M _) _)) _ (own_new rfl)
end
end Go.T
