/- T: appends. -/
import Derived.Test.YtkjiecjpdbpghaaT17
namespace Go.T
open Go
section
variable {P : Program} {tt : TT} {o : Oper} {a : Act} {w0 w : World} {mine : Mine} {st : St} {next : Act → World → Prop} {Q : Exit → Act → World → Prop}

theorem Part.nil (w : World) (m : Mp) (h : List Blk) (te : Ty) (d : Bool) : Part w m h te [] d [] [] := ⟨fun _ => ⟨rfl, rfl⟩, fun _ _ _ => rfl⟩

theorem dst_ok {m : Mp} (H : HR w0 mine w m st.heap) {x : LV} {v : Value} (hv : V w m st.heap x v) {e : Nat} {te : Ty} {xs : List (Val te)} {d : Bool} {i1 : List Nat} (hs : dstOf st.heap e te x = some (xs, d, i1)) :
    ∃ inner B, w.ownsRow 0 e te.sz v xs.length inner ∧ Part w m st.heap te xs d inner B ∧ List.Sublist (v.ownBlock.toList ++ B) (fpIds m st.heap i1) ∧ (∀ k, v.ownBlock = some k → ∀ n b, okAt m st.heap n b → b ≠ k) := by
  unfold dstOf at hs
  split at hs
  · cases hs
    have hv' : v = .slice none 0 0 := hv
    subst hv'
    exact ⟨[], [], World.ownsRow_nil w 0 e te.sz, Part.nil _ _ _ _ _, by simp [Value.ownBlock], fun k hk => by simp [Value.ownBlock] at hk⟩
  · rename_i id
    split at hs
    · rename_i e' t' xs' dp n hb
      split at hs
      · rename_i hh
        obtain ⟨rfl, rfl⟩ := hh
        cases hs
        simp only [V, C, hb] at hv
        subst hv
        obtain ⟨inner, hown, hp⟩ := Part.row H hb
        refine ⟨inner, _, hown, hp, ?_, fun k hk n' b hok e => ?_⟩
        · cases d <;> simp [fpIds, hb, fpB]
        · subst e
          exact (hok.2 id _ hb).1 (.inl rfl) hk
      · simp at hs
    · simp at hs
  · simp at hs

theorem src_ok {m : Mp} (H : HR w0 mine w m st.heap) {y : LV} {v : Value} (hv : V w m st.heap y v) {e : Nat} {te : Ty} {ys : List (Val te)} {d : Bool} {i2 : List Nat} (hs : srcOf st.heap e te y = some (ys, d, i2)) :
    ∃ A c news B, v = .slice A ys.length c ∧ (A = none → ys.length = 0) ∧ (∀ ad, A = some ad → At w ad news) ∧ Part w m st.heap te ys d news B ∧ (te.flat = false → List.Sublist B (fpIds m st.heap i2)) ∧ (te.flat = true → i2 = []) := by
  unfold srcOf at hs
  split at hs
  · cases hs
    have hv' : v = .slice none 0 0 := hv
    subst hv'
    exact ⟨none, 0, [], [], rfl, fun _ => rfl, fun ad h => by simp at h, Part.nil _ _ _ _ _, fun _ => List.nil_sublist _, fun _ => rfl⟩
  · rename_i id
    split at hs
    · rename_i e' t' xs' dp mt n hb
      split at hs
      · rename_i hh
        obtain ⟨rfl, rfl⟩ := hh
        cases hs
        simp only [V, C, hb] at hv
        subst hv
        obtain ⟨inner, hown, hp⟩ := Part.row H hb
        obtain ⟨A, c, hvA, _, hA, hA0⟩ := ownsRow_slice hown
        refine ⟨A, c, inner, _, hvA, hA0, fun ad had => ?_, hp, fun hf => ?_, fun hf => by simp [hf]⟩
        · obtain ⟨h1, h2⟩ := hA ad had
          have := ownsRow_At hown h1
          rwa [← h2] at this
        · cases d <;> simp [hf, fpIds, hb, fpB]
      · simp at hs
    · simp at hs
  · rename_i e' t' xs' n
    split at hs
    · rename_i hh
      obtain ⟨rfl, rfl⟩ := hh
      cases hs
      obtain ⟨A, c, rfl, hl, hr⟩ := hv
      cases A with
      | none =>
        cases xs' with
        | nil => exact ⟨none, c, [], [], rfl, fun _ => rfl, fun ad h => by simp at h, Part.nil _ _ _ _ _, fun _ => List.nil_sublist _, fun _ => rfl⟩
        | cons z zs => obtain ⟨a, cs, h, _⟩ := hr 0 z (by simp); simp at h
      | some ad =>
        obtain ⟨news, hk, hat⟩ := Rd.list (ok := fun _ => True) (R := K w (okAt m st.heap n) t') (w := w) (a := ad) (sz := t'.sz) (fun x c h => K_len h) xs' 0 (fun i x hx => by
          obtain ⟨a, cs, ha, _, hk, hat⟩ := hr i x hx
          cases ha
          exact ⟨cs, hk, by simpa using hat⟩)
        refine ⟨some ad, c, news, [], rfl, fun h => by simp at h, fun a' h => by cases h; simpa [Addr.add] using hat, ⟨fun hf => flat_Ms hf hk, fun ok h1 _ => hk.imp fun x c hx => K_step (fun _ _ _ => rfl) (fun b hb hl => h1 n b hb hl) hx⟩, fun _ => List.nil_sublist _, fun _ => rfl⟩
    · simp at hs
  · simp at hs

theorem Part.one {m : Mp} {h : List Blk} {te : Ty} {xs : List (Val te)} {d : Bool} {cs : List Value} {B : List Nat} (hp : Part w m h te xs d cs B) : cs.length = xs.length * te.sz ∧ ∀ u ∈ cs, u.oneCell' = true := by
  have hk := hp.read (fun _ => True) (fun _ _ _ _ => trivial) fun _ _ => trivial
  refine ⟨hk.len fun x c h => K_len h, ?_⟩
  clear hp
  induction xs generalizing cs with
  | nil => rw [Ks] at hk; subst hk; simp
  | cons x xs ih =>
    obtain ⟨c1, c2, rfl, h1, h2⟩ := hk
    intro u hu
    rcases List.mem_append.1 hu with hu | hu
    · exact K_one h1 u hu
    · exact ih h2 u hu

theorem snd_append (hT : TTok P tt) {c : Call} {t : Nat} {x y : Operand} (ho : o.op = .call c) (hc : c.callee = .builtin .append) (ha : c.args = #[x, y]) (hat : c.argTypes = #[t, t]) {p : Prop} {st' : St} (hs : stepAppend tt t (st.ev x) (st.ev y) o.dst st = some (p, st')) (hp : p) (hr : R w0 mine st a w)
    (hn : ∀ a' w', R w0 mine st' a' w' → next a' w') : o.wp P a w next Q := by
  obtain ⟨hd, m, H, he⟩ := hr
  unfold stepAppend at hs
  split at hs
  · simp at hs
  rename_i ti ht
  split at hs
  · rename_i e te hag hty
    split at hs
    · rename_i xs d1 i1 hdst
      split at hs
      · rename_i ys d2 i2 hsrc
        split at hs
        · rename_i hnd
          cases hs
          obtain ⟨inner, B1, hown, p1, hs1, htop⟩ := dst_ok H (R.ev H he x) hdst
          obtain ⟨A, cp, news, B2, hyv, hA, hat', p2, hs2, hi2⟩ := src_ok H (R.ev H he y) hsrc
          obtain ⟨v', w', hrun, hown', hg, hv'⟩ := append_core (ty := o.type) hT ht hag hty hown hA p2.one.1 hat' p2.one.2 hp (c := cp)
          refine wp_val (v := v') (w' := w') ?_ (append_join hd H he p1 p2 hs1 hs2 hi2 (nodupB_iff hnd) htop hown' hg hv' hn)
          simp only [execOp, ho, resolve, hc, ha, hat, invoke, builtin, Sem.run_bind, Sem.run_pure, Result.andThen_ok, List.map_toArray, List.map_cons, List.map_nil, hyv, hrun]
        · simp at hs
      · simp at hs
    · simp at hs
  · simp at hs
end
end Go.T
