/- T: what is handed on; makes, literals, appends. -/
import Derived.Test.YtkjiecjpdbpghaaT11
namespace Go.T
open Go

theorem nodupB_iff : ∀ {l : List Nat}, nodupB l = true → l.Nodup
  | [], _ => List.nodup_nil
  | x :: r, h => by
    simp only [nodupB, Bool.and_eq_true, Bool.not_eq_true'] at h
    refine List.nodup_cons.2 ⟨fun hm => ?_, nodupB_iff h.2⟩
    have := h.1
    simp at this
    exact this hm

theorem kill_len (h : List Blk) (ids : List Nat) : (kill h ids).length = h.length := (Weakers.kill h ids).1
theorem kill_get : ∀ (ids : List Nat) (h : List Blk) (i : Nat) (y : Blk), (kill h ids)[i]? = some y → (i ∈ ids ∧ y = .dead) ∨ (i ∉ ids ∧ h[i]? = some y)
  | [], h, i, y, hy => .inr ⟨by simp, hy⟩
  | j :: r, h, i, y, hy => by
    have hy' : (kill (h.set j .dead) r)[i]? = some y := hy
    rcases kill_get r (h.set j .dead) i y hy' with ⟨hm, rfl⟩ | ⟨hm, hg⟩
    · exact .inl ⟨List.mem_cons_of_mem _ hm, rfl⟩
    · by_cases e : j = i
      · subst e
        have hl : j < h.length := by
          have := (List.getElem?_eq_some_iff.1 hg).1
          simpa using this
        rw [List.getElem?_set_self hl] at hg
        cases hg
        exact .inl ⟨List.mem_cons_self, rfl⟩
      · rw [List.getElem?_set_ne e] at hg
        exact .inr ⟨fun hm' => by rcases List.mem_cons.1 hm' with rfl | hm'; exact e rfl; exact hm hm', hg⟩

section
variable {w0 w : World} {mine : Mine} {m : Mp} {h : List Blk}

theorem fpIds_mem {ids : List Nat} {b : Nat} (hb : b ∈ fpIds m h ids) : ∃ id x, id ∈ ids ∧ h[id]? = some x ∧ b ∈ fpB m id x := by
  simp only [fpIds, List.mem_flatMap] at hb
  obtain ⟨id, hid, hb⟩ := hb
  cases hx : h[id]? with
  | none => simp [hx] at hb
  | some x => rw [hx] at hb; exact ⟨id, x, hid, hx, hb⟩
theorem fpIds_nodup (H : HR w0 mine w m h) : ∀ {ids : List Nat}, ids.Nodup → (fpIds m h ids).Nodup
  | [], _ => List.nodup_nil
  | i :: r, hn => by
    obtain ⟨h1, h2⟩ := List.nodup_cons.1 hn
    have e : fpIds m h (i :: r) = fpIds m h [i] ++ fpIds m h r := by rw [← fpIds_append]; rfl
    rw [e, List.nodup_append]
    refine ⟨?_, fpIds_nodup H h2, fun x hx y hy e => ?_⟩
    · simp only [fpIds, List.flatMap_cons, List.flatMap_nil, List.append_nil]
      cases hx : h[i]? with
      | none => exact List.nodup_nil
      | some x => exact H.nd i x hx
    · subst e
      obtain ⟨id1, x1, hi1, hx1, hb1⟩ := fpIds_mem hx
      obtain ⟨id2, x2, hi2, hx2, hb2⟩ := fpIds_mem hy
      simp at hi1
      subst hi1
      exact H.dj id1 x1 id2 x2 (fun e => h1 (e ▸ hi2)) hx1 hx2 x hb1 hb2
theorem fpIds_lt (H : HR w0 mine w m h) {ids : List Nat} {b : Nat} (hb : b ∈ fpIds m h ids) : b < w.heap.size ∧ (w0.heap.size ≤ b ∨ mine.own b) ∧ ∀ i y, (kill h ids)[i]? = some y → b ∉ fpB m i y := by
  obtain ⟨id, x, hid, hx, hb⟩ := fpIds_mem hb
  refine ⟨(H.lt id x hx b hb).1, (H.lt id x hx b hb).2, fun i y hy hm => ?_⟩
  rcases kill_get ids h i y hy with ⟨_, rfl⟩ | ⟨hni, hy'⟩
  · simp [fpB] at hm
  · exact H.dj id x i y (fun e => hni (e ▸ hid)) hx hy' b hb hm
theorem fpIds_ok {ids : List Nat} {n k b : Nat} (hk : okAt m h k b) (hle : k ≤ los h n ids) : b ∉ fpIds m h ids := by
  intro hb
  obtain ⟨id, x, hid, hx, hb⟩ := fpIds_mem hb
  have h1 := Nat.le_trans hle (los_mem h ids n id hid)
  have hko := hk.2 id x hx
  cases x with
  | dead => simp [fpB] at hb
  | box cs => simp [fpB] at hb; exact hko hb
  | row e t xs dp mt k' =>
    simp only [fpB] at hb
    have hlid : lo h id ≤ id := by
      simp only [lo, hx]
      cases dp with
      | true => exact Nat.min_le_left _ _
      | false => exact Nat.le_refl _
    rcases List.mem_append.1 hb with hb | hb
    · exact hko.1 (.inr (by omega)) (by simpa using hb)
    · cases dp with
      | false => simp at hb
      | true =>
        have hl2 : lo h id ≤ k' := by simp only [lo, hx]; exact Nat.min_le_right _ _
        exact hko.2 rfl (by omega) hb
theorem los_lt {ids : List Nat} : los h h.length ids ≤ h.length := los_le h ids _
end

/-! ### the machine's literals -/
theorem foldl_put : ∀ (vs : List Value) (j off : Nat) (cur : Array Value), off + j + vs.length ≤ cur.size →
    ((vs.zipIdx j).foldl (fun (cs : Array Value) p => cs.setIfInBounds (off + p.2) p.1) cur).toList = cur.toList.take (off + j) ++ vs ++ cur.toList.drop (off + j + vs.length)
  | [], j, off, cur, _ => by simp
  | v :: r, j, off, cur, hl => by
    simp only [List.length_cons] at hl
    rw [List.zipIdx_cons, List.foldl_cons, foldl_put r (j + 1) off _ (by simp; omega)]
    have e := list_seg_step cur.toList (off + j) v r (by simp; omega)
    simp only [Array.toList_setIfInBounds]
    rw [show off + (j + 1) = off + j + 1 by omega]
    simpa [Nat.add_assoc, Nat.add_comm, Nat.add_left_comm] using e
end Go.T
