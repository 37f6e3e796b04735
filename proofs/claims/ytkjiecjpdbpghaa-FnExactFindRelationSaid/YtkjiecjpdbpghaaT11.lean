/- T: stores into rows; new rows. -/
import Derived.Test.YtkjiecjpdbpghaaT10
namespace Go.T
open Go

section
variable {P : Program} {tt : TT} {o : Oper} {a : Act} {w0 w : World} {mine : Mine} {st : St} {next : Act → World → Prop} {Q : Exit → Act → World → Prop}

/-- A row that has an element lies somewhere. -/
theorem row_at {m : Mp} {id e : Nat} {t : Ty} {xs : List (Val t)} {inner : List Value} (hown : w.ownsRow 0 e t.sz (m.val id) xs.length inner) {i : Nat} (hi : i < xs.length) :
    ∃ g cap cur, m.val id = .slice (some ⟨g, 0, none⟩) xs.length cap ∧ (m.val id).ownBlock = some g ∧ w.heap[g]? = some (.cells cur e (0, 0)) ∧ xs.length * t.sz ≤ cur.size ∧ cur.toList.take (xs.length * t.sz) = inner := by
  rcases hown.2 with ⟨_, h0⟩ | ⟨g, cap, cur, hv, _, hg, hnc, _, hcs, htk⟩
  · omega
  · exact ⟨g, cap, cur, hv, by rw [hv]; rfl, hg, by rw [hcs]; exact Nat.mul_le_mul_right _ hnc, htk⟩

theorem idx_fit {i n sz : Nat} (hi : i < n) : i * sz + sz ≤ n * sz := by
  have : (i + 1) * sz ≤ n * sz := Nat.mul_le_mul_right _ hi
  rwa [Nat.succ_mul] at this

theorem nst_top {m : Mp} {h : List Blk} (H : HR w0 mine w m h) {id e : Nat} {t : Ty} {xs : List (Val t)} {mt : Bool} {n : Nat} (hx : h[id]? = some (.row e t xs true mt n)) {g : Nat} (hg : (m.val id).ownBlock = some g) : g ∉ m.nst id := by
  have hnd := H.nd _ _ hx
  simp only [fpB, hg] at hnd
  simp at hnd
  exact hnd.1

theorem setCell_list {l : List Value} {k : Nat} {u : Value} (hk : k < l.length) : l.take k ++ [u] ++ l.drop (k + 1) = l.set k u := by
  rw [List.set_eq_take_append_cons_drop, if_pos hk]; simp

theorem set_elem {inner : List Value} {i sz f n : Nat} {u : Value} (hi : i < n) (hl : inner.length = n * sz) (hf : f < sz) :
    inner.set (i * sz + f) u = inner.take (i * sz) ++ ((inner.drop (i * sz)).take sz).set f u ++ inner.drop (i * sz + sz) := by
  have hfit := idx_fit (sz := sz) hi
  have e : inner = inner.take (i * sz) ++ ((inner.drop (i * sz)).take sz ++ inner.drop (i * sz + sz)) := by
    rw [← List.drop_drop, List.take_append_drop, List.take_append_drop]
  conv => lhs; rw [e]
  have h1 : (inner.take (i * sz)).length = i * sz := by simp; omega
  have h2 : ((inner.drop (i * sz)).take sz).length = sz := by simp; omega
  rw [List.set_append_right _ _ (by omega), h1, List.set_append_left _ _ (by omega), show i * sz + f - i * sz = f by omega, List.append_assoc]

theorem setV_def : ∀ {t : Ty} {v v' : Val t} {f : Nat} {c : LC}, setV t v f c = some v' → c.isDef = true
  | .int _, _, _, f, c, h => by cases f <;> cases c <;> simp_all [setV, LC.isDef]
  | .bool, _, _, f, c, h => by cases f <;> cases c <;> simp_all [setV, LC.isDef]
  | .str, _, _, f, c, h => by cases f <;> cases c <;> simp_all [setV, LC.isDef]
  | .slice _ _, _, _, f, c, h => by cases f <;> cases c <;> simp_all [setV]
  | .pair a b, v, v', f, c, h => by
    simp only [setV] at h
    split at h
    · split at h
      · rename_i hx; exact setV_def hx
      · simp at h
    · split at h
      · rename_i hx; exact setV_def hx
      · simp at h

/-- One cell of an element. -/
theorem snd_storeCell (hT : TTok P tt) {t : Nat} {ti : TI} (ht : tt.get t = some ti) {x y : Operand} (ho : o.op = .store t x y) (hdst : o.dst = none) {id i f : Nat} (ex : st.ev x = .one (.ptr id i f)) {e : Nat} {te : Ty} {xs : List (Val te)} {dp : Bool} {n : Nat}
    (hb : st.heap[id]? = some (.row e te xs dp true n)) {c : LC} (ey : (st.ev y).cells = [c]) (hag : ti.agg = false) {v : Val te} (hs : setV te (xs.getD i (dflt te)) f c = some v) (hi : i < xs.length) (hr : R w0 mine st a w)
    (hn : ∀ a' w', R w0 mine { st with heap := st.heap.set id (.row e te (xs.set i v) dp true n) } a' w' → next a' w') : o.wp P a w next Q := by
  obtain ⟨hd, m, H, he⟩ := hr
  have hti := hT t ti ht
  have hx := R.ev H he x
  rw [ex] at hx
  simp only [V, C, hb] at hx
  obtain ⟨g0, hg0, hxv⟩ := hx
  obtain ⟨inner, hown, hin⟩ := H.br id _ hb
  obtain ⟨g, cap, cur, hval, hob, hg, hsz, htk⟩ := row_at hown hi
  obtain rfl : g = g0 := by rw [hob] at hg0; exact Option.some.inj hg0
  have hcd : c.isDef = true := setV_def hs
  obtain ⟨hcc, h1⟩ := V_cells H.br (R.ev H he y) (by rw [ey]; simp [hcd]) (by rw [ey]; simp)
  rw [ey] at hcc
  obtain ⟨u, hu, hcu⟩ : ∃ u, (a.eval y).cells.toList = [u] ∧ C w m st.heap c u := by
    generalize (a.eval y).cells.toList = l at hcc
    cases hcc with
    | cons h1 h2 => cases h2; exact ⟨_, rfl, h1⟩
  have hel : xs[i]? = some (xs.getD i (dflt te)) := by simp [List.getD, List.getElem?_eq_getElem hi]
  have hfit := idx_fit (sz := te.sz) hi
  -- the place is within the element
  have hflt : f < te.sz := by
    obtain ⟨g', cs, _, _, hk⟩ := row_elem H hb hi
    exact (setV_K hk hs hcu).1
  have hlen : (a.eval y).cells.toList.length = ti.ty.sz := by rw [hu, hti.one hag]; rfl
  have hrun := run_storeVar (P := P) (w := w) (f := i * te.sz + f) hti hg hlen (by rw [hti.one hag]; omega) h1
  rw [hu, hti.one hag] at hrun
  have hil := ownsRow_len hown
  refine wp_skp (w' := w.setRow g (cur.toList.take (i * te.sz + f) ++ [u] ++ cur.toList.drop (i * te.sz + f + 1)).toArray) (by simp only [execOp, ho, hxv, Instr.storeAt, Instr.sureAddr, Sem.run_bind, Sem.run_pure, Result.andThen_ok, hrun]) (hn _ _ ?_)
  rw [hval] at hown
  have hown' := ownsRow_setRow hown hg (i * te.sz + f) [u] (by simp; omega)
  rw [← hval] at hown'
  simp only [List.length_singleton] at hown'
  rw [setCell_list (l := inner) (by omega), set_elem hi hil hflt] at hown'
  have hh := H.write (w' := w.setRow g (cur.toList.take (i * te.sz + f) ++ [u] ++ cur.toList.drop (i * te.sz + f + 1)).toArray) (m' := m) (Weakers.refl st.heap) hb (x' := .row e te (xs.set i v) dp true n) rfl rfl (fun _ _ => rfl) rfl (by simp [Sim]) (fun b hb' => .inl hb') (H.nd id _ hb : (fpB m id (.row e te xs dp true n)).Nodup)
    (fun n' b hk hlt => (hk.2 id _ hb : okB m n' b id (.row e te xs dp true n))) (g := g) (by simp [fpB, hob]) (Fr_setRow w _ _ _ rfl) (fun n' b hk he => by
      have := (hk.2 id _ hb).1 (.inl rfl)
      rw [hob, he] at this
      exact this rfl) (fun hok hs' => by
      refine ⟨_, by rw [List.length_set]; exact hown', ?_⟩
      cases dp with
      | false =>
        simp only at hin ⊢
        have hk := hin.get (fun x c hk => K_len hk) hel
        have := hin.set (fun x c hk => K_len hk) i hi (setV_K hk hs hcu).2
        exact this.imp fun x c hk => K_oks hok hk
      | true =>
        simp only at hin ⊢
        refine ⟨?_, hin.2⟩
        obtain ⟨B1, b, B2, hB, hM, hset⟩ := Ms_set (fun x c b hm => M_len hm) hin.1 hel
        have := hset v _ b (setV_M hM hs hcu)
        rw [← hB] at this
        refine this.imp fun x c b hbs hm => M_step hm fun k hk => setRow_other w g k _ fun e => ?_
        exact nst_top H hb hob (e ▸ hbs k hk))
  refine ⟨by rw [put_defers]; exact hd, m, hh.1, ?_⟩
  rw [hdst]
  exact env_mono hh.2.1 hh.2.2 he

/-! ### a new row -/
theorem zeros_of_dflt : ∀ {t : Ty} (w : World) (ok : Nat → Prop), K w ok t (dflt t) (zvals t)
  | .int _, w, ok => by rw [K]; rfl
  | .bool, w, ok => by rw [K]; rfl
  | .str, w, ok => by rw [K]; rfl
  | .slice _ _, w, ok => by rw [K]; exact ⟨none, 0, rfl, Nat.le_refl _, fun i x hx => by simp [dflt] at hx⟩
  | .pair a b, w, ok => by rw [K]; exact ⟨_, _, rfl, zeros_of_dflt w ok, zeros_of_dflt w ok⟩
theorem zeros_M : ∀ {t : Ty} (w : World), M w t (dflt t) (zvals t) []
  | .int _, w => by rw [M]; exact ⟨rfl, rfl⟩
  | .bool, w => by rw [M]; exact ⟨rfl, rfl⟩
  | .str, w => by rw [M]; exact ⟨rfl, rfl⟩
  | .slice e t, w => by rw [M]; exact ⟨.slice none 0 0, [], [], rfl, by simp [Value.ownBlock], World.ownsRow_nil w 0 e t.sz, rfl, rfl⟩
  | .pair a b, w => by rw [M]; exact ⟨_, _, [], [], rfl, rfl, zeros_M w, zeros_M w⟩

theorem zvals_len : ∀ t : Ty, (zvals t).length = t.sz
  | .int _ | .bool | .str | .slice _ _ => by simp [zvals, Ty.sz]
  | .pair a b => by simp [zvals, Ty.sz, zvals_len a, zvals_len b]

theorem madeCells_zeros {z : Array Value} {t : Ty} (hz : z.toList = zvals t) : ∀ n : Nat, (madeCells z (n * t.sz)).toList = (List.replicate n (zvals t)).flatten := by
  intro n
  have hzs : z.size = t.sz := by have := congrArg List.length hz; simpa [zvals_len] using this
  have hp := t.sz_pos
  apply List.ext_getElem?
  intro j
  have hl : ((List.replicate n (zvals t)).flatten).length = n * t.sz := by simp [zvals_len]
  by_cases hj : j < n * t.sz
  · have h1 : (madeCells z (n * t.sz)).toList[j]? = some (z[j % z.size]!) := by simp [madeCells, hj]
    rw [h1]
    have hm : j % t.sz < t.sz := Nat.mod_lt _ hp
    have h2 : ((List.replicate n (zvals t)).flatten)[j]? = (zvals t)[j % t.sz]? := by
      clear h1 hl
      induction n generalizing j with
      | zero => simp at hj
      | succ n ih =>
        rw [List.replicate_succ, List.flatten_cons]
        by_cases hlt : j < t.sz
        · rw [List.getElem?_append_left (by rw [zvals_len]; exact hlt), Nat.mod_eq_of_lt hlt]
        · rw [List.getElem?_append_right (by rw [zvals_len]; omega), zvals_len, ih (j - t.sz) (by rw [Nat.succ_mul] at hj; omega) (Nat.mod_lt _ hp)]
          rw [← Nat.mod_eq_sub_mod (by omega)]
    rw [h2, hzs, ← hz]
    have : j % t.sz < z.size := by omega
    simp [this]
  · have hl2 : (madeCells z (n * t.sz)).toList.length = n * t.sz := by simp [size_madeCells]
    rw [List.getElem?_eq_none (by rw [hl2]; omega), List.getElem?_eq_none (by rw [hl]; omega)]

theorem Ms_replicate {α : Type} {T : α → List Value → List Nat → Prop} {x : α} {c : List Value} (h : T x c []) : ∀ n : Nat, Ms T (List.replicate n x) ((List.replicate n c).flatten) []
  | 0 => ⟨rfl, rfl⟩
  | n + 1 => ⟨c, _, [], [], by simp [List.replicate_succ], rfl, h, Ms_replicate h n⟩

theorem los_le (h : List Blk) : ∀ (ids : List Nat) (n : Nat), los h n ids ≤ n
  | [], n => Nat.le_refl _
  | i :: r, n => by
    simp only [los, List.foldl_cons]
    exact Nat.le_trans (los_le h r _) (Nat.min_le_left _ _)
theorem los_mem (h : List Blk) : ∀ (ids : List Nat) (n i : Nat), i ∈ ids → los h n ids ≤ lo h i
  | j :: r, n, i, hi => by
    simp only [los, List.foldl_cons]
    rcases List.mem_cons.1 hi with rfl | hi
    · exact Nat.le_trans (los_le h r _) (Nat.min_le_right _ _)
    · exact los_mem h r _ i hi

/-- A new row, its cells already there. -/
theorem HR.newRow {m : Mp} {h h1 : List Blk} {w' : World} (H : HR w0 mine w m h) (hw : Weakers h h1) {e : Nat} {t : Ty} {xs : List (Val t)} {dp mt : Bool} {n : Nat} {v : Value} {inner : List Value} {B : List Nat}
    (hfr : Fr (fun _ => False) w w') (hown : w'.ownsRow 0 e t.sz v xs.length inner) (hfresh : ∀ b, v.ownBlock = some b → w.heap.size ≤ b)
    (hB : ∀ b ∈ B, b < w.heap.size ∧ (w0.heap.size ≤ b ∨ mine.own b) ∧ ∀ i y, h1[i]? = some y → b ∉ fpB m i y) (hnd : B.Nodup)
    (hokB : dp = true → ∀ k b, okAt m h k b → k ≤ n → b ∉ B) (hn : dp = true → n ≤ h.length) (hnB : dp = false → B = [])
    (hin : Oks w w' m (m.row h.length v B) h (h1 ++ [.row e t xs dp mt n]) → match dp with
      | true => Ms (M w' t) xs inner B
      | false => Ks (K w' (okAt (m.row h.length v B) (h1 ++ [.row e t xs dp mt n]) n) t) xs inner) :
    HR w0 mine w' (m.row h.length v B) (h1 ++ [.row e t xs dp mt n]) ∧ Oks w w' m (m.row h.length v B) h (h1 ++ [.row e t xs dp mt n]) ∧ Sims m (m.row h.length v B) h (h1 ++ [.row e t xs dp mt n]) := by
  have hh := H.new hw (w' := w') (m' := m.row h.length v B) (.row e t xs dp mt n) hfr (fun i hi => by simp [Mp.row]; intro e; omega) (fun i _ => rfl) (fun i hi => by simp [Mp.row]; intro e; omega) rfl
    (fun k b hk hlt => by
      refine ⟨fun _ hob => ?_, fun hdp hle => ?_⟩
      · simp only [Mp.row, if_true] at hob
        have := hfresh b hob
        omega
      · simp only [Mp.row, if_true]
        exact hokB hdp k b hk hle)
    (fun ho hs => by
      refine ⟨inner, by simp only [Mp.row, if_true]; exact hown, ?_⟩
      have := hin ho
      cases dp with
      | true => simp only [Mp.row, if_true]; exact ⟨this, hn rfl⟩
      | false => exact this)
    (by
      simp only [fpB, Mp.row, if_true]
      rw [List.nodup_append]
      refine ⟨by cases v.ownBlock <;> simp, by cases dp <;> simp [hnd], fun x hx y hy e => ?_⟩
      have h1 := hfresh x (by simpa using hx)
      cases dp with
      | false => simp at hy
      | true => have := (hB y hy).1; omega)
    (fun b hb => by
      simp only [fpB, Mp.row, if_true] at hb
      rcases List.mem_append.1 hb with hb | hb
      · have hob : v.ownBlock = some b := by simpa using hb
        have h1 := hfresh b hob
        refine ⟨(hown.lt b hob).2, .inl (Nat.le_trans H.fr.size h1), fun i y hy hm => ?_⟩
        have := ((H.weaker hw).1.lt i y hy b hm).1
        omega
      · cases dp with
        | false => simp at hb
        | true =>
          obtain ⟨h1, h2, h3⟩ := hB b hb
          exact ⟨Nat.lt_of_lt_of_le h1 hfr.size, h2, h3⟩)
  exact hh
end
end Go.T
