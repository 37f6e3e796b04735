/- T: loads, addresses, numbers. -/
import Derived.Test.YtkjiecjpdbpghaaT6
namespace Go.T
open Go

theorem addr0_add (b f : Nat) : (⟨b, 0, none⟩ : Addr).add f = ⟨b, f, none⟩ := by unfold Addr.add; split <;> simp_all
theorem addr_add_lit (b f k : Nat) : (⟨b, f, none⟩ : Addr).add k = ⟨b, f + k, none⟩ := by unfold Addr.add; split <;> simp_all

theorem At_block {w : World} {b : Nat} {arr : Array Value} {ty : TypeId} {fz : Nat × Nat} (h : w.heap[b]? = some (.cells arr ty fz)) : At w ⟨b, 0, none⟩ arr.toList := by
  intro j u hu
  rw [addr0_add, cell_of_row w b j arr ty fz h]
  simpa using hu

/-- What is loaded from cells. -/
theorem load_At {P : Program} {tt : TT} {t : Nat} {ti : TI} (hT : TIok P tt t ti) {w : World} {m : Mp} {h : List Blk} {ad : Addr} {lcs : List LC} {cs : List Value}
    (hat : At w ad cs) (hf : F2 (C w m h) lcs cs) (hl : lcs.length = ti.ty.sz) (h1 : ti.agg = false → ti.ty.sz = 1) :
    ∃ v, (loadVar t ad).run P w = .ok v w ∧ V w m h (toLV ti.agg lcs) v := by
  have hlen : cs.length = ti.ty.sz := by rw [← hf.len, hl]
  cases ha : ti.agg with
  | true =>
    refine ⟨.agg cs.toArray, ?_, ⟨cs.toArray, rfl, by simpa using hf⟩⟩
    have := run_loadCells_list (P := P) w ad cs hat
    rw [hlen] at this
    simp [loadVar, hT.isAgg, ha, hT.sizeOf, this]
  | false =>
    have := h1 ha
    rw [this] at hlen hl
    obtain ⟨c, rfl⟩ : ∃ c, lcs = [c] := by
      match lcs, hl with
      | [c], _ => exact ⟨c, rfl⟩
    obtain ⟨u, rfl⟩ : ∃ u, cs = [u] := by
      match cs, hlen with
      | [u], _ => exact ⟨u, rfl⟩
    cases hf with
    | cons hc _ =>
      have hu := hat 0 u (by simp)
      have e : ad.add 0 = ad := by simp [Addr.add]
      rw [e] at hu
      refine ⟨u, ?_, hc⟩
      simp [loadVar, hT.isAgg, ha, run_load, hu]

theorem Ms_get {α : Type} {T : α → List Value → List Nat → Prop} {xs : List α} {cs : List Value} {B : List Nat} {sz : Nat} (hs : ∀ x c b, T x c b → c.length = sz) (h : Ms T xs cs B) {i : Nat} {x : α} (hx : xs[i]? = some x) :
    ∃ b, (∀ k ∈ b, k ∈ B) ∧ T x ((cs.drop (i * sz)).take sz) b := by
  have hk : Ks (fun x c => ∃ b, (∀ k ∈ b, k ∈ B) ∧ T x c b) xs cs := h.toKs fun x c b hb ht => ⟨b, hb, ht⟩
  exact hk.get (fun x c ⟨b, _, ht⟩ => hs x c b ht) hx

/-- An element of an own row, read. -/
theorem row_elem {w0 w : World} {mine : Mine} {m : Mp} {h : List Blk} (H : HR w0 mine w m h) {id : Nat} {e : Nat} {t : Ty} {xs : List (Val t)} {dp mt : Bool} {n : Nat} (hx : h[id]? = some (.row e t xs dp mt n))
    {i : Nat} (hi : i < xs.length) : ∃ g cs, (m.val id).ownBlock = some g ∧ At w ⟨g, i * t.sz, none⟩ cs ∧ K w (okAt m h (bif dp then n + 1 else n)) t (xs.getD i (dflt t)) cs := by
  obtain ⟨inner, ho, hin⟩ := H.br id _ hx
  have hg : xs[i]? = some (xs.getD i (dflt t)) := by simp [List.getD, List.getElem?_eq_getElem hi]
  obtain ⟨A, c, hv, hc, hA, hn⟩ := ownsRow_slice ho
  cases A with
  | none => have := hn rfl; omega
  | some a =>
    obtain ⟨hb, ha⟩ := hA a rfl
    have hat := (ownsRow_At ho hb).sub (i * t.sz) t.sz
    rw [addr0_add] at hat
    refine ⟨a.block, _, hb, hat, ?_⟩
    cases dp with
    | false =>
      simp only [cond_false] at hin ⊢
      exact hin.get (fun x c hk => K_len hk) hg
    | true =>
      simp only [cond_true] at hin ⊢
      obtain ⟨b, hbs, hM⟩ := Ms_get (fun x c b hm => M_len hm) hin.1 hg
      refine M_K hM fun k hk => ?_
      have hkn : k ∈ fpB m id (.row e t xs true mt n) := by simp only [fpB]; exact List.mem_append_right _ (hbs k hk)
      refine ⟨by rw [H.mx]; exact H.nx k (H.lt id _ hx k hkn).2, ?_⟩
      intro id' x' hx'
      have hlt' := (List.getElem?_eq_some_iff.1 hx').1
      by_cases he : id' = id
      · subst he
        rw [hx] at hx'; cases hx'
        refine ⟨fun _ hown => ?_, fun _ hle => ?_⟩
        · have hnd := H.nd _ _ hx
          simp only [fpB, hown] at hnd
          simp at hnd
          exact hnd.1 (hbs k hk)
        · exfalso
          have := hin.2
          omega
      · have hne := H.dj id _ id' x' (fun e => he e.symm) hx hx' k hkn
        cases x' with
        | box cs => simp only [fpB, List.mem_singleton] at hne; exact hne
        | dead => trivial
        | row e' t' xs' dp' mt' k' =>
          refine ⟨fun _ hown => hne ?_, fun hd' _ hm => hne ?_⟩
          · simp [fpB, hown]
          · subst hd'; simp only [fpB]; exact List.mem_append_right _ hm

theorem F2_sub {w : World} {m : Mp} {h : List Blk} {lcs : List LC} {cs : List Value} (hf : F2 (C w m h) lcs cs) (f n : Nat) : F2 (C w m h) ((lcs.drop f).take n) ((cs.drop f).take n) := (hf.drop f).take n

section
variable {P : Program} {tt : TT} {o : Oper} {a : Act} {w0 w : World} {mine : Mine} {st : St} {next : Act → World → Prop} {Q : Exit → Act → World → Prop}

theorem snd_load (hT : TTok P tt) {t : Nat} {x : Operand} (ho : o.op = .load t x) {p : Prop} {st' : St} (hs : stepLoad tt t (st.ev x) o.dst st = some (p, st')) (hp : p) (hr : R w0 mine st a w)
    (hn : ∀ a' w', R w0 mine st' a' w' → next a' w') : o.wp P a w next Q := by
  unfold stepLoad at hs
  cases ht : tt.get t with
  | none => simp [ht] at hs
  | some ti =>
    have hti := hT t ti ht
    obtain ⟨hd, m, H, he⟩ := hr
    have hev := R.ev H he x
    have done : ∀ {ad : Addr} {lcs : List LC} {cs : List Value}, a.eval x = .pointer (some ad) → At w ad cs → F2 (C w m st.heap) lcs cs → lcs.length = ti.ty.sz → st' = st.put o.dst (toLV ti.agg lcs) → o.wp P a w next Q := by
      intro ad lcs cs hax hat hf hl hst
      obtain ⟨v, hrun, hv⟩ := load_At hti hat hf hl hti.one
      refine wp_val (v := v) (w' := w) (by simp [execOp, ho, hax, Instr.loadAt, Instr.sureAddr, hrun]) (hn _ _ ?_)
      rw [hst]
      refine ⟨by rw [put_defers]; exact hd, m, by rw [St.put_heap]; exact H, ?_⟩
      rw [St.put_heap, St.put_env]
      exact env_put he _ hv
    simp only [ht] at hs
    split at hs
    · rename_i id i f hx
      rw [hx] at hev
      simp only [V, C] at hev
      split at hs
      · rename_i cs hb
        rw [hb] at hev
        obtain ⟨rfl, hax⟩ := hev
        cases hs
        obtain ⟨arr, ty, hblk, hf, h1⟩ := H.br id _ hb
        have hat := (At_block hblk).sub f ti.ty.sz
        rw [addr0_add] at hat
        exact done hax hat (F2_sub hf f ti.ty.sz) (by simp; omega) rfl
      · rename_i e t' xs dp mt n hb
        rw [hb] at hev
        obtain ⟨g, hg, hax⟩ := hev
        cases hs
        obtain ⟨g', cs, hg', hat, hk⟩ := row_elem H hb hp.1
        rw [hg] at hg'
        cases hg'
        have hat' := hat.sub f ti.ty.sz
        rw [addr_add_lit] at hat'
        have hel := explode_len (bif dp then n + 1 else n) t' (xs.getD i (dflt t'))
        have h2 := hp.2
        exact done hax hat' (F2_sub (explode_C hk) f ti.ty.sz) (by rw [List.length_take, List.length_drop, hel]; omega) rfl
      · simp at hs
    · rename_i t' v f n hx
      rw [hx] at hev
      obtain ⟨ad, cs, hax, hk, hat, hb⟩ := hev
      cases hs
      have hel := explode_len n t' v
      exact done hax (hat.sub f ti.ty.sz) (F2_sub (explode_C hk) f ti.ty.sz) (by rw [List.length_take, List.length_drop, hel]; omega) rfl
    · simp at hs

theorem snd_field (hT : TTok P tt) {t f : Nat} {x : Operand} (ho : o.op = .fieldAddr t x f) {p : Prop} {st' : St} (hs : stepField tt t f (st.ev x) o.dst st = some (p, st')) (hr : R w0 mine st a w)
    (hn : ∀ a' w', R w0 mine st' a' w' → next a' w') : o.wp P a w next Q := by
  unfold stepField at hs
  cases ht : tt.get t with
  | none => simp [ht] at hs
  | some ti =>
    have hti := hT t ti ht
    obtain ⟨hd, m, H, he⟩ := hr
    have hev := R.ev H he x
    simp only [ht] at hs
    obtain ⟨d, hu, hdk⟩ := hti.desc
    have fld : ∀ {g : Nat × Nat}, ti.offs[f]? = some g → ∃ fs : Array Field, ∃ fl : Field, P.underlying t = some (.struct fs) ∧ fs[f]? = some fl ∧ fl.offset = g.1 ∧ ∃ j, P.info? fl.type = some j ∧ 0 < j.size := by
      intro g hg
      have := hti.offsStruct g.1 g.2 f (by simpa using hg)
      obtain ⟨fs, fl, h1, h2, h3, j, h4, h5, h6, _⟩ := this
      exact ⟨fs, fl, h1, h2, h3, j, h4, by omega⟩
    have done : ∀ {ad : Addr} {g : Nat × Nat} {c : LC}, ti.offs[f]? = some g → a.eval x = .pointer (some ad) → C w m st.heap c (.pointer (some (ad.add g.1))) → st' = st.put o.dst (.one c) → o.wp P a w next Q := by
      intro ad g c hg hax hc hst
      obtain ⟨fs, fl, h1, h2, h3, j, h4, h5⟩ := fld hg
      refine wp_val (v := .pointer (some (ad.add g.1))) (w' := w) ?_ (hn _ _ ?_)
      · have : ¬ j.size = 0 := by omega
        simp [execOp, ho, hax, Instr.fieldAt, run_underlying h1, h2, Instr.sureAddr, fieldPlace, Go.sizeOf, typeInfo, h4, this, h3]
      · rw [hst]
        refine ⟨by rw [put_defers]; exact hd, m, by rw [St.put_heap]; exact H, ?_⟩
        rw [St.put_heap, St.put_env]
        exact env_put he _ (l := .one c) hc
    split at hs
    · rename_i id i g o' hx hg
      rw [hx] at hev
      simp only [V, C] at hev
      cases hb : st.heap[id]? with
      | none => rw [hb] at hev; exact hev.elim
      | some b =>
        rw [hb] at hev
        cases b with
        | box cs =>
          simp only [hb, St.go] at hs
          cases hs
          obtain ⟨rfl, hax⟩ := hev
          exact done hg hax (by simp [C, hb, addr_add_lit]) rfl
        | row e t' xs dp mt n =>
          simp only [hb, St.go] at hs
          cases hs
          obtain ⟨b, hbk, hax⟩ := hev
          exact done hg hax (by simp [C, hb, addr_add_lit, hbk, Nat.add_assoc]) rfl
        | dead => simp [hb] at hs
    · rename_i t' v g n o' hx hg
      rw [hx] at hev
      simp only [St.go] at hs
      cases hs
      obtain ⟨ad, cs, hax, hk, hat, hb⟩ := hev
      refine done hg hax ?_ rfl
      simp only [C]
      exact ⟨ad, cs, by rw [addr_add_add], hk, hat, hb⟩
    · simp at hs
end
end Go.T
