/- T: appends. -/
import Derived.Test.YtkjiecjpdbpghaaT16
namespace Go.T
open Go

/-- A row that is read: its cells in one line. -/
theorem Rd.list {α : Type} {w : World} {ok : Nat → Prop} {sz : Nat} {R : α → List Value → Prop} {a : Addr} (hs : ∀ x c, R x c → c.length = sz) :
    ∀ (xs : List α) (k : Nat), (∀ i x, xs[i]? = some x → ∃ cs, R x cs ∧ At w (a.add ((k + i) * sz)) cs) → ∃ news, Ks R xs news ∧ At w (a.add (k * sz)) news
  | [], k, _ => ⟨[], rfl, fun j u hu => by simp at hu⟩
  | x :: xs, k, h => by
    obtain ⟨c, hc, hat⟩ := h 0 x (by simp)
    obtain ⟨news, hn, hnat⟩ := Rd.list (ok := ok) hs xs (k + 1) fun i y hy => by
      obtain ⟨cs, h1, h2⟩ := h (i + 1) y (by simpa using hy)
      exact ⟨cs, h1, by rw [show k + 1 + i = k + (i + 1) by omega]; exact h2⟩
    refine ⟨c ++ news, ⟨c, news, rfl, hc, hn⟩, fun j u hu => ?_⟩
    rw [List.getElem?_append] at hu
    split at hu
    · have := hat j u hu
      simpa using this
    · rename_i hj
      have hl := hs x c hc
      have := hnat _ u hu
      rw [addr_add_add] at this ⊢
      rw [show k * sz + j = (k + 1) * sz + (j - c.length) by rw [Nat.succ_mul]; omega]
      exact this

section
variable {P : Program} {tt : TT} {o : Oper} {a : Act} {w0 w : World} {mine : Mine} {st : St} {next : Act → World → Prop} {Q : Exit → Act → World → Prop}

theorem run_append_none (base : Nat) (t ty e : TypeId) (i : TypeInfo) (size : Nat) (ht : P.underlying t = some (.slice e)) (hi : P.info? e = some i)
    (v : Value) (n c : Nat) (xs : List Value) (hown : w.ownsRow base e size v n xs) :
    (Builtin.append_ #[t, t] ty #[v, .slice none 0 c]).run P w = .ok v w := by
  rcases hown.2 with ⟨rfl, rfl⟩ | ⟨g, cap, cur, rfl, _, _, hnc, _⟩
  · simp [Builtin.append_, run_underlying ht, sizeOf, typeInfo, hi, Builtin.lenOf, Builtin.firstCells]
  · simp [Builtin.append_, run_underlying ht, sizeOf, typeInfo, hi, Builtin.lenOf, Builtin.firstCells, hnc, storeCells]

theorem append_core (hT : TTok P tt) {t ty e : Nat} {ti : TI} (ht : tt.get t = some ti) {te : Ty} (hag : ti.agg = false) (hty : ti.ty = .slice e te)
    {v : Value} {n k c : Nat} {inner news : List Value} (hown : w.ownsRow 0 e te.sz v n inner) {A : Option Addr} (hA : A = none → k = 0) (hl : news.length = k * te.sz) (hnews : ∀ ad, A = some ad → At w ad news) (h1 : ∀ u ∈ news, u.oneCell' = true) (hlim : n + k ≤ 1048576) :
    ∃ v' w', (Builtin.append_ #[t, t] ty #[v, .slice A k c]).run P w = .ok v' w' ∧ w'.ownsRow 0 e te.sz v' (n + k) (inner ++ news) ∧ w.grownBy w' v.ownBlock ∧ (v'.ownBlock = v.ownBlock ∨ v'.ownBlock = some w.heap.size) := by
  have hti := hT t ti ht
  obtain ⟨hu, tie, hte, htt⟩ := hti.slc hag e te hty
  obtain ⟨i, z, hi, hs, hz, hzc, hby⟩ := (hT e tie hte).info
  rw [htt] at hs hzc
  cases A with
  | none =>
    have hk := hA rfl
    subst hk
    have : news = [] := List.eq_nil_of_length_eq_zero (by simpa using hl)
    subst this
    exact ⟨v, w, run_append_none 0 t ty e i te.sz hu hi v n c inner hown, by simpa using hown, ⟨rfl, rfl, rfl, Nat.le_refl _, fun _ _ _ => rfl⟩, .inl rfl⟩
  | some ad =>
    have hb : (n + k) * i.bytes ≤ 1048576 * 65536 := Nat.mul_le_mul hlim hby
    obtain ⟨v', w', h2, h3, h4, _, h5⟩ := run_append_own_at (P := P) w 0 t ty e i z te.sz i.bytes hu hi hz hs rfl (by
      have := congrArg List.length hzc
      simpa [zvals_len] using this) te.sz_pos v n inner hown ad k c news hl (hnews ad rfl) h1 (by simp only [maxLen]; omega) (by omega) (Nat.zero_le _)
    exact ⟨v', w', h2, h3, h4, h5⟩

/-- The elements' cells: what they lead to. -/
structure Part (w : World) (m : Mp) (h : List Blk) (te : Ty) (xs : List (Val te)) (d : Bool) (cs : List Value) (B : List Nat) : Prop where
  deep : d = true → Ms (M w te) xs cs B
  read : ∀ ok : Nat → Prop, (∀ n b, okAt m h n b → b < w.heap.size → ok b) → (∀ b ∈ B, ok b) → Ks (K w ok te) xs cs

theorem Part.flat {m : Mp} {h : List Blk} {te : Ty} {xs : List (Val te)} {d : Bool} {cs : List Value} {B : List Nat} (hp : Part w m h te xs d cs B) (hf : te.flat = true) : Ms (M w te) xs cs [] :=
  flat_Ms hf (hp.read (fun _ => True) (fun _ _ _ _ => trivial) fun _ _ => trivial)

theorem Part.row {m : Mp} (H : HR w0 mine w m st.heap) {id e : Nat} {te : Ty} {xs : List (Val te)} {dp mt : Bool} {n : Nat} (hb : st.heap[id]? = some (.row e te xs dp mt n)) :
    ∃ inner, w.ownsRow 0 e te.sz (m.val id) xs.length inner ∧ Part w m st.heap te xs dp inner (match dp with | true => m.nst id | false => []) := by
  obtain ⟨inner, hown, hin⟩ := H.br id _ hb
  refine ⟨inner, hown, ?_⟩
  cases dp with
  | true => exact ⟨fun _ => hin.1, fun ok h1 h2 => hin.1.toKs fun x c b hbs hm => M_K hm fun k hk => h2 k (hbs k hk)⟩
  | false => exact ⟨fun h => by simp at h, fun ok h1 h2 => hin.imp fun x c hk => K_step (fun _ _ _ => rfl) (fun b hb hl => h1 _ b hb hl) hk⟩

theorem append_join {m : Mp} (hd : a.defers = []) (H : HR w0 mine w m st.heap) (he : F2 (V w m st.heap) st.env a.tmps.toList) {e : Nat} {te : Ty} {xs ys : List (Val te)} {d1 d2 : Bool} {i1 i2 : List Nat} {v v' : Value} {w' : World} {inner news : List Value} {B1 B2 : List Nat}
    (p1 : Part w m st.heap te xs d1 inner B1) (p2 : Part w m st.heap te ys d2 news B2) (hs1 : List.Sublist (v.ownBlock.toList ++ B1) (fpIds m st.heap i1)) (hs2 : te.flat = false → List.Sublist B2 (fpIds m st.heap i2)) (hi2 : te.flat = true → i2 = []) (hnd : (i1 ++ i2).Nodup)
    (htop : ∀ k, v.ownBlock = some k → ∀ n b, okAt m st.heap n b → b ≠ k) (hown : w'.ownsRow 0 e te.sz v' (xs.length + ys.length) (inner ++ news)) (hg : w.grownBy w' v.ownBlock) (hv' : v'.ownBlock = v.ownBlock ∨ v'.ownBlock = some w.heap.size)
    (hn : ∀ a' w', R w0 mine { (st.put o.dst (.one (.own st.heap.length))) with heap := newRow st.heap e te (xs ++ ys) (te.flat || (d1 && d2)) (i1 ++ i2) } a' w' → next a' w') : next (a.put o.dst v') w' := by
  refine hn _ _ ?_
  have hnd' : (fpIds m st.heap (i1 ++ i2)).Nodup := fpIds_nodup H hnd
  rw [fpIds_append] at hnd'
  have hmem1 : ∀ k, v.ownBlock = some k → k ∈ fpIds m st.heap (i1 ++ i2) := fun k hk => by
    rw [fpIds_append]
    exact List.mem_append_left _ (hs1.subset (by simp [hk]))
  have hB1 : ∀ b ∈ B1, b ∈ fpIds m st.heap (i1 ++ i2) := fun b hb => by
    rw [fpIds_append]
    exact List.mem_append_left _ (hs1.subset (List.mem_append_right _ hb))
  have hfr : Fr (fun k => v.ownBlock = some k) w w' := ⟨hg.os, hg.tape, hg.output, hg.size, fun k hk hn => hg.block k hk fun e => hn e.symm⟩
  have hA1 : ∀ k, v.ownBlock = some k → ∃ id x, st.heap[id]? = some x ∧ k ∈ fpB m id x := fun k hk => by
    obtain ⟨id, x, _, h2, h3⟩ := fpIds_mem (hmem1 k hk)
    exact ⟨id, x, h2, h3⟩
  have hA2 : ∀ k, v.ownBlock = some k → ∀ id y, (kill st.heap (i1 ++ i2))[id]? = some y → k ∉ fpB m id y := fun k hk => (fpIds_lt H (hmem1 k hk)).2.2
  have hfresh : ∀ b, v'.ownBlock = some b → w.heap.size ≤ b ∨ v.ownBlock = some b := fun b hb => by
    rcases hv' with h | h
    · right; rw [← h]; exact hb
    · left; rw [h] at hb; cases hb; exact Nat.le_refl _
  have hlen : (xs ++ ys).length = xs.length + ys.length := by simp
  unfold newRow
  cases hf : te.flat with
  | true =>
    simp only [Bool.true_or, cond_true]
    refine R.newedW hd he (HR.newRowA H (Weakers.kill _ _) (dp := true) (mt := true) (B := []) hfr hA1 hA2 htop (by simp) (by rw [hlen]; exact hown) hfresh (by simp) List.nodup_nil (by simp) (fun _ => los_le _ _ _) (fun h => by simp at h) (fun _ => ?_)) _ (own_new (kill_len _ _))
    exact ((p1.flat hf).append (p2.flat hf)).imp fun x c b hb hx => M_step hx fun k hk => by have := hb k hk; simp at this
  | false =>
    simp only [Bool.false_or]
    have hs2 := hs2 hf
    have hB2 : ∀ b ∈ B2, b ∈ fpIds m st.heap (i1 ++ i2) := fun b hb => by
      rw [fpIds_append]
      exact List.mem_append_right _ (hs2.subset hb)
    have hsub : List.Sublist ((v.ownBlock.toList ++ B1) ++ B2) (fpIds m st.heap i1 ++ fpIds m st.heap i2) := hs1.append hs2
    have hnd2 := hnd'.sublist hsub
    rw [List.append_assoc] at hnd2
    obtain ⟨_, hndB, hdj⟩ := List.nodup_append.1 hnd2
    have hBm : ∀ b ∈ B1 ++ B2, b ∈ fpIds m st.heap (i1 ++ i2) := fun b hb => by
      rcases List.mem_append.1 hb with hb | hb
      · exact hB1 b hb
      · exact hB2 b hb
    have hAB : ∀ k, v.ownBlock = some k → k ∉ B1 ++ B2 := fun k hk hm => hdj k (by simp [hk]) k hm rfl
    cases hdd : (d1 && d2) with
    | true =>
      simp only [cond_true]
      simp only [Bool.and_eq_true] at hdd
      refine R.newedW hd he (HR.newRowA H (Weakers.kill _ _) (dp := true) (mt := true) (B := B1 ++ B2) hfr hA1 hA2 htop hAB (by rw [hlen]; exact hown) hfresh (fun b hb => fpIds_lt H (hBm b hb)) hndB (fun _ k b hk hle hm => fpIds_ok hk hle (hBm b hm)) (fun _ => los_le _ _ _) (fun h => by simp at h) (fun _ => ?_)) _ (own_new (kill_len _ _))
      exact ((p1.deep hdd.1).append (p2.deep hdd.2)).imp fun x c b hb hx => M_step hx fun k hk => hg.block k (fpIds_lt H (hBm k (hb k hk))).1 fun e => hAB k e.symm (hb k hk)
    | false =>
      simp only [cond_false]
      refine R.newedW hd he (HR.newRowA H (Weakers.kill _ _) (dp := false) (mt := true) (B := []) hfr hA1 hA2 htop (by simp) (by rw [hlen]; exact hown) hfresh (by simp) List.nodup_nil (by simp) (by simp) (fun h => rfl) (fun hok => ?_)) _ (own_new (kill_len _ _))
      have c1 : ∀ n b, okAt m st.heap n b → b < w.heap.size → ¬ v.ownBlock = some b ∧ okAt (m.row st.heap.length v' []) (kill st.heap (i1 ++ i2) ++ [.row e te (xs ++ ys) false true (st.heap.length + 1)]) (st.heap.length + 1) b :=
        fun n b hb hl => ⟨fun e => htop b e n b hb rfl, ok_top H (by simp) hok hb hl⟩
      have c2 : ∀ b ∈ B1 ++ B2, ¬ v.ownBlock = some b ∧ okAt (m.row st.heap.length v' []) (kill st.heap (i1 ++ i2) ++ [.row e te (xs ++ ys) false true (st.heap.length + 1)]) (st.heap.length + 1) b := fun b hb => by
        refine ⟨fun e => hAB b e hb, ok_killed H row_get rfl (hBm b hb) ⟨fun _ hob => ?_, fun h => by simp at h⟩⟩
        simp only [Mp.row, if_true] at hob
        rcases hfresh b hob with h | h
        · have := (fpIds_lt H (hBm b hb)).1; omega
        · exact hAB b h hb
      have := (p1.read _ c1 fun b hb => c2 b (List.mem_append_left _ hb)).append (p2.read _ c1 fun b hb => c2 b (List.mem_append_right _ hb))
      exact this.imp fun x c hx => K_step (fun b hb hl => hg.block b hl fun e => hb.1 e.symm) (fun b h _ => h.2) hx
end
end Go.T
