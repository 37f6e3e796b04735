/- T: whole elements stored. -/
import Derived.Test.YtkjiecjpdbpghaaT18
namespace Go.T
open Go

theorem kill_of : ∀ (ids : List Nat) (h : List Blk) (i : Nat), i ∉ ids → (kill h ids)[i]? = h[i]?
  | [], h, i, _ => rfl
  | j :: r, h, i, hn => by
    have : (kill h (j :: r)) = kill (h.set j .dead) r := rfl
    rw [this, kill_of r _ i (fun hm => hn (List.mem_cons_of_mem _ hm)), List.getElem?_set_ne (fun e => hn (by simp [e]))]

def Mp.nest (m : Mp) (id : Nat) (B : List Nat) : Mp := { m with nst := fun j => if j = id then B else m.nst j }

section
variable {P : Program} {tt : TT} {o : Oper} {a : Act} {w0 w : World} {mine : Mine} {st : St} {next : Act → World → Prop} {Q : Exit → Act → World → Prop}

theorem setElem_list {α : Type} {l us : List α} {i sz n : Nat} (hl : l.length = n * sz) (hi : i < n) : l.take (i * sz) ++ us ++ l.drop (i * sz + sz) = l.take (i * sz) ++ us ++ l.drop (i * sz + sz) := rfl

theorem snd_storeWhole (hT : TTok P tt) {t : Nat} {ti : TI} (ht : tt.get t = some ti) {x y : Operand} (ho : o.op = .store t x y) (hdst : o.dst = none) {id i : Nat} (ex : st.ev x = .one (.ptr id i 0)) {e : Nat} {te : Ty} {xs : List (Val te)} {dp : Bool} {n : Nat}
    (hb : st.heap[id]? = some (.row e te xs dp true n)) (hty : ti.ty = te) (hnd : nodupB (moved (st.ev y).cells) = true) (hid : (moved (st.ev y).cells).contains id = false) (hdef : (st.ev y).cells.all LC.isDef = true)
    {v : Val te} (hv : implode st.heap te (st.ev y).cells = some (v, [])) (hi : i < xs.length) (hr : R w0 mine st a w)
    (hn : ∀ a' w', R w0 mine (bif dp && deepOf st.heap (st.ev y).cells then { st with heap := (kill st.heap (moved (st.ev y).cells)).set id (.row e te (xs.set i v) true true (los st.heap n (moved (st.ev y).cells))) }
      else { st with heap := (kill st.heap (moved (st.ev y).cells)).set id (.row e te (xs.set i v) false true st.heap.length) }) a' w' → next a' w') : o.wp P a w next Q := by
  obtain ⟨hd, m, H, he⟩ := hr
  have hti := hT t ti ht
  have hx := R.ev H he x
  rw [ex] at hx
  simp only [V, C, hb] at hx
  obtain ⟨g0, hg0, hxv⟩ := hx
  obtain ⟨inner, hown, hin⟩ := H.br id _ hb
  obtain ⟨g, cap, cur, hval, hob, hg, hsz, htk⟩ := row_at hown hi
  obtain rfl : g = g0 := by rw [hob] at hg0; exact Option.some.inj hg0
  have hpos : 0 < (st.ev y).cells.length := by
    cases hc : (st.ev y).cells with
    | nil => rw [hc, implode_nil] at hv; simp at hv
    | cons => simp
  obtain ⟨hcc, h1⟩ := V_cells H.br (R.ev H he y) hdef hpos
  generalize hcs : (st.ev y).cells = cs at *
  generalize hus : (a.eval y).cells.toList = us at *
  have hnid : id ∉ moved cs := by simpa using hid
  have hnd' := nodupB_iff hnd
  have hel : xs[i]? = some (xs.getD i (dflt te)) := by simp [List.getD, List.getElem?_eq_getElem hi]
  have hfit := idx_fit (sz := te.sz) hi
  have kAny : ∀ ok : Nat → Prop, (∀ c ∈ cs, okC w m st.heap ok c) → K w ok te v us := fun ok hok => by
    obtain ⟨v1, v2, hvs, hk, hrest, _⟩ := implode_K H.br hcc hv hok
    cases hrest
    rw [hvs, List.append_nil]; exact hk
  have husl : us.length = te.sz := K_len (kAny (fun _ => True) fun c _ => by
    cases c <;> simp only [okC]
    · exact fun _ _ _ => trivial
    · intro x _
      exact ⟨fun _ _ => trivial, by split <;> simp⟩)
  have hrun := run_storeVar (P := P) (w := w) (f := i * te.sz) (v := a.eval y) hti hg (by rw [hus, hty]; exact husl) (by rw [hty]; omega) (by rw [hus]; exact h1)
  rw [hus, hty] at hrun
  have hil := ownsRow_len hown
  generalize hw' : w.setRow g (cur.toList.take (i * te.sz) ++ us ++ cur.toList.drop (i * te.sz + te.sz)).toArray = w' at hrun
  refine wp_skp (w' := w') (by simp only [execOp, ho, hxv, Instr.storeAt, Instr.sureAddr, Sem.run_bind, Sem.run_pure, Result.andThen_ok, Nat.add_zero, hrun]) (hn _ _ ?_)
  have hown' : w'.ownsRow 0 e te.sz (m.val id) (xs.set i v).length (inner.take (i * te.sz) ++ us ++ inner.drop (i * te.sz + te.sz)) := by
    rw [hval] at hown
    have := ownsRow_setRow hown hg (i * te.sz) us (by omega)
    rw [← hval, husl, hw'] at this
    rw [List.length_set]; exact this
  have hold : ∀ b, b ≠ g → w'.heap[b]? = w.heap[b]? := fun b hb => by rw [← hw']; exact setRow_other w g b _ hb
  have hfr : Fr (fun k => k = g) w w' := by rw [← hw']; exact Fr_setRow w _ _ _ rfl
  have htop : ∀ n' b, okAt m st.heap n' b → b ≠ g := fun n' b hk he => by
    have := (hk.2 id _ hb).1 (.inl rfl)
    rw [hob, he] at this
    exact this rfl
  have hkx : (kill st.heap (moved cs))[id]? = some (.row e te xs dp true n) := by rw [kill_of _ _ _ hnid]; exact hb
  have hN : ∀ b ∈ fpIds m st.heap (moved cs), b < w.heap.size ∧ (w0.heap.size ≤ b ∨ mine.own b) ∧ ∀ i y, (kill st.heap (moved cs))[i]? = some y → b ∉ fpB m i y := fun b hb => fpIds_lt H hb
  have hNg : ∀ b ∈ fpIds m st.heap (moved cs), b ≠ g := fun b hbm e => (hN b hbm).2.2 id _ hkx (by subst e; simp [fpB, hob])
  have fin : ∀ (x' : Blk) (m' : Mp), HR w0 mine w' m' ((kill st.heap (moved cs)).set id x') ∧ Oks w w' m m' st.heap ((kill st.heap (moved cs)).set id x') ∧ Sims m m' st.heap ((kill st.heap (moved cs)).set id x') →
      R w0 mine { st with heap := (kill st.heap (moved cs)).set id x' } (a.put o.dst undef) w' := fun x' m' hh => by
    refine ⟨by rw [put_defers]; exact hd, m', hh.1, ?_⟩
    rw [hdst]
    exact env_mono hh.2.1 hh.2.2 he
  cases hdd : (dp && deepOf st.heap cs) with
  | true =>
    simp only [cond_true]
    simp only [Bool.and_eq_true] at hdd
    obtain ⟨rfl, hdeep⟩ := hdd
    simp only at hin
    obtain ⟨B1, b0, B2, hB, hM, hset⟩ := Ms_set (fun x c b hm => M_len hm) hin.1 hel
    obtain ⟨v1, v2, pre, hvs, hpre, hMv, hrest⟩ := implode_M H.br hcc hv hdeep
    cases hrest
    rw [List.append_nil] at hvs hpre
    subst hvs; subst hpre
    have hsub1 : ∀ b ∈ B1 ++ B2, b ∈ m.nst id := fun b hb => by
      rw [hB]; simp only [List.mem_append] at hb ⊢
      rcases hb with hb | hb
      · exact .inl (.inl hb)
      · exact .inr hb
    have hrow : (fpB m id (.row e te xs true true n)).Nodup := H.nd id _ hb
    simp only [fpB] at hrow
    have gB : ∀ b ∈ m.nst id, b ≠ g := fun b hbm e => nst_top H hb hob (e ▸ hbm)
    have hm'v : (m.nest id (B1 ++ fpIds m st.heap (moved cs) ++ B2)).nst id = B1 ++ fpIds m st.heap (moved cs) ++ B2 := by simp [Mp.nest]
    have hndB : (B1 ++ fpIds m st.heap (moved cs) ++ B2).Nodup := by
      have h2 : (B1 ++ b0 ++ B2).Nodup := by rw [← hB]; exact (List.nodup_append.1 hrow).2.1
      have h3 : (B1 ++ B2).Nodup := h2.sublist (by
        rw [List.append_assoc]
        exact (List.Sublist.refl _).append (List.sublist_append_right _ _))
      have h4 := fpIds_nodup H hnd'
      have h5 : ∀ b ∈ fpIds m st.heap (moved cs), b ∉ B1 ++ B2 := fun b hbm hb2 => (hN b hbm).2.2 id _ hkx (by simp only [fpB]; exact List.mem_append_right _ (hsub1 b hb2))
      rw [List.nodup_append] at h3 ⊢
      rw [List.nodup_append]
      refine ⟨⟨h3.1, h4, fun x hx y hy e => h5 y hy (by subst e; exact List.mem_append_left _ hx)⟩, h3.2.1, fun x hx y hy e => ?_⟩
      rcases List.mem_append.1 hx with hx | hx
      · exact h3.2.2 x hx y hy e
      · exact h5 x hx (by subst e; exact List.mem_append_right _ hy)
    refine fin _ (m.nest id (B1 ++ fpIds m st.heap (moved cs) ++ B2)) (H.write (Weakers.kill _ _) hkx rfl rfl (fun j hj => by simp [Mp.nest, hj]) rfl (by simp [Sim, Mp.nest]) (fun b hbm => ?_) ?_ (fun n' b hk hlt => ?_) (g := g) (by simp [fpB, hob]) hfr htop (fun hok hs' => ?_))
    · simp only [fpB, hm'v] at hbm ⊢
      rcases List.mem_append.1 hbm with hbm | hbm
      · exact .inl (List.mem_append_left _ hbm)
      · by_cases hbn : b ∈ fpIds m st.heap (moved cs)
        · exact .inr ⟨(hN b hbn).1, (hN b hbn).2.1, fun i' y hy _ => (hN b hbn).2.2 i' y hy⟩
        · left
          refine List.mem_append_right _ (hsub1 b ?_)
          simp only [List.mem_append] at hbm ⊢
          rcases hbm with (h | h) | h
          · exact .inl h
          · exact absurd h hbn
          · exact .inr h
    · simp only [fpB, hm'v]
      have : (m.nest id (B1 ++ fpIds m st.heap (moved cs) ++ B2)).val id = m.val id := rfl
      rw [this, hob]
      simp only [Option.toList_some, List.singleton_append, List.nodup_cons]
      refine ⟨fun hm => ?_, hndB⟩
      by_cases hbn : g ∈ fpIds m st.heap (moved cs)
      · exact hNg g hbn rfl
      · simp only [List.mem_append] at hm
        rcases hm with (h | h) | h
        · exact gB g (hsub1 g (List.mem_append_left _ h)) rfl
        · exact hbn h
        · exact gB g (hsub1 g (List.mem_append_right _ h)) rfl
    · have hk0 := hk.2 id _ hb
      refine ⟨fun _ => hk0.1 (.inl rfl), fun _ hle hm => ?_⟩
      rw [hm'v] at hm
      by_cases hbn : b ∈ fpIds m st.heap (moved cs)
      · exact fpIds_ok hk hle hbn
      · simp only [List.mem_append] at hm
        have hle2 : n' ≤ n := Nat.le_trans hle (los_le _ _ _)
        rcases hm with (h | h) | h
        · exact hk0.2 rfl hle2 (hsub1 b (List.mem_append_left _ h))
        · exact hbn h
        · exact hk0.2 rfl hle2 (hsub1 b (List.mem_append_right _ h))
    · refine ⟨_, hown', ?_⟩
      simp only [hm'v]
      refine ⟨?_, Nat.le_trans (los_le _ _ _) hin.2⟩
      have := hset v us _ hMv
      refine this.imp fun x c b hbs hm => M_step hm fun k hk => hold k fun e => ?_
      have hm := hbs k hk
      subst e
      by_cases hbn : k ∈ fpIds m st.heap (moved cs)
      · exact hNg k hbn rfl
      · simp only [List.mem_append] at hm
        rcases hm with (h | h) | h
        · exact gB k (hsub1 k (List.mem_append_left _ h)) rfl
        · exact hbn h
        · exact gB k (hsub1 k (List.mem_append_right _ h)) rfl
  | false =>
    simp only [cond_false]
    refine fin _ m (H.write (Weakers.kill _ _) hkx rfl rfl (fun _ _ => rfl) rfl (by simp [Sim]) (fun b hbm => .inl ?_) ?_ (fun n' b hk hlt => ⟨fun _ => (hk.2 id _ hb).1 (.inl rfl), fun h => by simp at h⟩) (g := g) (by simp [fpB, hob]) hfr htop (fun hok hs' => ?_))
    · simp only [fpB, List.append_nil] at hbm ⊢
      exact List.mem_append_left _ hbm
    · simp only [fpB, hob]; simp
    · refine ⟨_, hown', ?_⟩
      simp only
      generalize hh' : (kill st.heap (moved cs)).set id (.row e te (xs.set i v) false true st.heap.length) = h' at hok hs' ⊢
      have hl' : h'.length = st.heap.length := by rw [← hh']; simp [kill_len]
      have get' : ∀ j y, h'[j]? = some y → (j ≠ id ∧ (kill st.heap (moved cs))[j]? = some y) ∨ (j = id ∧ y = .row e te (xs.set i v) false true st.heap.length) := fun j y hy => by
        rw [← hh'] at hy
        by_cases e : id = j
        · subst e
          rw [List.getElem?_set_self (List.getElem?_eq_some_iff.1 hkx).1] at hy
          cases hy; exact .inr ⟨rfl, rfl⟩
        · rw [List.getElem?_set_ne e] at hy
          exact .inl ⟨fun h => e h.symm, hy⟩
      have hlo : ∀ (j e : Nat) (t : Ty) (xs : List (Val t)) (mt : Bool) (k : Nat), h'[j]? = some (Blk.row e t xs true mt k) → k ≤ j := by
        intro j e t xs mt k hy
        rcases get' j _ hy with ⟨_, hy'⟩ | ⟨_, hy'⟩
        · rcases kill_get _ _ _ _ hy' with ⟨_, h0⟩ | ⟨_, h0⟩
          · simp at h0
          · exact H.lo_le j e t xs mt k h0
        · simp at hy'
      have c1 : ∀ n' b, okAt m st.heap n' b → b < w.heap.size → b ≠ g ∧ okAt m h' st.heap.length b := fun n' b hb hlt => by
        refine ⟨htop n' b hb, ?_⟩
        have := okAt_top hlo (hok n' b hb hlt).2
        rwa [hl'] at this
      have c2 : ∀ b, m.ext b → b ≠ g → (∀ j y, j ≠ id → (kill st.heap (moved cs))[j]? = some y → b ∉ fpB m j y) → b ≠ g ∧ okAt m h' st.heap.length b := fun b hbe hbg hbf => by
        refine ⟨hbg, hbe, fun j y hy => ?_⟩
        rcases get' j y hy with ⟨hne, hy'⟩ | ⟨rfl, rfl⟩
        · have hf := hbf j y hne hy'
          cases y with
          | dead => trivial
          | box cs => show b ≠ m.blk j; simpa [fpB] using hf
          | row e t xs dp mt k =>
            simp only [fpB, List.mem_append, not_or] at hf
            refine ⟨fun _ hob => hf.1 (by simp [hob]), fun hd _ hm => ?_⟩
            subst hd
            exact hf.2 hm
        · exact ⟨fun _ hob' => hbg (by rw [hob] at hob'; exact (Option.some.inj hob').symm), fun h => by simp at h⟩
      have hxs : Ks (K w (fun b => b ≠ g ∧ okAt m h' st.heap.length b) te) xs inner := by
        cases dp with
        | true =>
          simp only at hin
          refine hin.1.toKs fun x c b hbs hm => M_K hm fun k hk => c2 k (by rw [H.mx]; exact H.nx k (H.lt id _ hb k (by simp only [fpB]; exact List.mem_append_right _ (hbs k hk))).2) (fun e => nst_top H hb hob (e ▸ hbs k hk)) fun j y hne hy hmj => ?_
          rcases kill_get _ _ _ _ hy with ⟨_, rfl⟩ | ⟨_, hy'⟩
          · simp [fpB] at hmj
          · exact H.dj id _ j y (fun e => hne e.symm) hb hy' k (by simp only [fpB]; exact List.mem_append_right _ (hbs k hk)) hmj
        | false =>
          simp only at hin
          exact hin.imp fun x c hk => K_step (fun _ _ _ => rfl) (fun b hb hl => c1 _ b hb hl) hk
      have hkv : K w (fun b => b ≠ g ∧ okAt m h' st.heap.length b) te v us := kAny _ fun c hc => by
        cases c with
        | sl e t xs k => exact fun b hb hlt => c1 k b hb hlt
        | own j =>
          intro y hy
          have hj := mem_moved hc
          refine ⟨fun b hbm => ?_, ?_⟩
          · have hbN : b ∈ fpIds m st.heap (moved cs) := by
              simp only [fpIds, List.mem_flatMap]
              exact ⟨j, hj, by rw [hy]; exact hbm⟩
            exact c2 b (by rw [H.mx]; exact H.nx b (hN b hbN).2.1) (hNg b hbN) fun i' y' _ hy' => (hN b hbN).2.2 i' y' hy'
          · cases y with
            | row e t xs dp mt k =>
              cases dp with
              | true => trivial
              | false => exact fun b hb hlt => c1 k b hb hlt
            | _ => trivial
        | _ => trivial
      have := hxs.set (fun x c hk => K_len hk) i hi hkv
      exact this.imp fun x c hk => K_step (fun b hb _ => hold b hb.1) (fun b hb _ => hb.2) hk
end
end Go.T
