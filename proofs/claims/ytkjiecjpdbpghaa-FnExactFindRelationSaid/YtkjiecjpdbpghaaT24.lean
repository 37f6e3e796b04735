/- T: calls. -/
import Derived.Test.YtkjiecjpdbpghaaT23
namespace Go.T
open Go

section
variable {P : Program} {tt : TT} {o : Oper} {a : Act} {w0 w w' : World} {mine : Mine} {m m' : Mp} {h h1 : List Blk} {st : St} {next : Act → World → Prop} {Q : Exit → Act → World → Prop}

theorem V_def {l : LV} {v : Value} (hv : V w m h l v) : ∀ c ∈ l.cells, ∃ u, C w m h c u := by
  intro c hc
  cases l with
  | one c' => simp [LV.cells] at hc; subst hc; exact ⟨v, hv⟩
  | agg cs =>
    obtain ⟨vs, rfl, hf⟩ := hv
    obtain ⟨i, hi⟩ := List.getElem?_of_mem hc
    obtain ⟨u, _, hC⟩ := hf.get hi
    exact ⟨u, hC⟩
  | tup => simp [LV.cells] at hc

theorem implodeArgs_K {ok : Nat → Prop} (H : ∀ id x, h[id]? = some x → BR w m h id x) : ∀ {tis : List TI} {ls : List LV} {vs : List Value} {x : Vals tis}, F2 (V w m h) ls vs → implodeArgs h tis ls = some x →
    (∀ l ∈ ls, ∀ c ∈ l.cells, okC w m h ok c) → VKs w ok tis x vs
  | [], _, _, _, .nil, _, _ => rfl
  | [], _, _, _, .cons _ _, hi, _ => by simp [implodeArgs] at hi
  | ti :: r, _, _, _, .nil, hi, _ => by simp [implodeArgs] at hi
  | ti :: r, _, _, x, .cons (a := l) (b := v) hv hvs, hi, hok => by
    simp only [implodeArgs] at hi
    split at hi
    · rename_i hag
      split at hi
      · rename_i y hy
        split at hi
        · rename_i ys hys
          cases hi
          have h2 := implodeArgs_K H hvs hys fun l hl => hok l (List.mem_cons_of_mem _ hl)
          cases l with
          | tup => simp [LV.isAgg] at hag
          | one c =>
            simp only [LV.isAgg, Option.some.injEq] at hag
            obtain ⟨v1, v2, hvs', hk, hr, _⟩ := implode_K (ok := ok) H (F2.cons hv .nil) hy (fun c hc => hok _ List.mem_cons_self c hc)
            cases hr
            rw [List.append_nil] at hvs'
            refine ⟨v, _, [v], rfl, by rw [hvs']; exact hk, ?_, h2⟩
            rw [← hag]; rfl
          | agg cs =>
            simp only [LV.isAgg, Option.some.injEq] at hag
            obtain ⟨us, rfl, hf⟩ := hv
            obtain ⟨v1, v2, hvs', hk, hr, _⟩ := implode_K (ok := ok) H hf hy (fun c hc => hok _ List.mem_cons_self c hc)
            cases hr
            rw [List.append_nil] at hvs'
            refine ⟨.agg us, _, us.toList, rfl, by rw [hvs']; exact hk, ?_, h2⟩
            rw [← hag]; simp [wrapped]
        · simp at hi
      · simp at hi
    · simp at hi

theorem args_F2 (H : HR w0 mine w m st.heap) (he : F2 (V w m st.heap) st.env a.tmps.toList) : ∀ xs : List Operand, F2 (V w m st.heap) (xs.map st.ev) (xs.map a.eval)
  | [] => .nil
  | x :: xs => .cons (R.ev H he x) (args_F2 H he xs)

theorem freeze_get : ∀ (ids : List Nat) (h : List Blk) (i : Nat), (freeze h ids)[i]? = (h[i]?).map fun b => if i ∈ ids then b.froze else b
  | [], h, i => by simp [freeze]
  | j :: r, h, i => by
    have : freeze h (j :: r) = freeze (h.modify j Blk.froze) r := rfl
    rw [this, freeze_get r, List.getElem?_modify]
    cases h[i]? with
    | none => simp
    | some b =>
      by_cases e : j = i
      · subst e
        by_cases hm : j ∈ r
        · simp [hm]; cases b <;> rfl
        · simp [hm]
      · have e' : ¬ i = j := fun h => e h.symm
        simp [e, e']

theorem V1_explode {n : Nat} {agg : Bool} {t : Ty} {y : Val t} {cs : List Value} {u : Value} (hk : K w (okAt m h n) t y cs) (hw : wrapped agg cs u) : V1 w m h ⟨agg, explode n t y⟩ u := by
  have hc := explode_C hk
  cases agg with
  | true =>
    simp only [wrapped] at hw
    subst hw
    exact ⟨cs.toArray, rfl, by simpa using hc⟩
  | false =>
    simp only [wrapped] at hw
    subst hw
    generalize explode n t y = es at hc
    cases hc with
    | cons h1 h2 => cases h2; exact ⟨_, rfl, h1, K_one hk u (by simp)⟩
theorem VKs_explodes {n : Nat} : ∀ {tis : List TI} {x : Vals tis} {us : List Value}, VKs w (okAt m h n) tis x us → F2 (V1 w m h) (explodes n tis x) us
  | [], _, _, hv => by rw [VKs] at hv; subst hv; exact .nil
  | ti :: r, x, _, hv => by
    obtain ⟨u, rest, cs, rfl, hk, hw, h2⟩ := hv
    exact .cons (V1_explode hk hw) (VKs_explodes h2)
theorem VKs_step {ok ok' : Nat → Prop} (hm : ∀ b, ok b → b < w.heap.size → w'.heap[b]? = w.heap[b]?) (hok : ∀ b, ok b → b < w.heap.size → ok' b) : ∀ {tis : List TI} {x : Vals tis} {us : List Value}, VKs w ok tis x us → VKs w' ok' tis x us
  | [], _, _, hv => hv
  | ti :: r, x, _, hv => by
    obtain ⟨u, rest, cs, rfl, hk, hw, h2⟩ := hv
    exact ⟨u, rest, cs, rfl, K_step hm hok hk, hw, VKs_step hm hok h2⟩

theorem run_enter {c : Call} {f : FuncId} (ho : o.op = .call c) (hc : c.callee = .value (.func f)) (hen : Enters P f) : (execOp a.eval o).run P w = .ok (.enter f (c.args.map a.eval)) w := by
  obtain ⟨fn, h1, h2, h3⟩ := hen
  simp only [execOp, ho, resolve, hc, Act.eval, Deferred.ofValue, Sem.run_bind]
  have h2' : fn.body ≠ none := by intro e; rw [e] at h2; simp at h2
  have h3' : fn.name ≠ "runtime.NumGoroutine" := by intro e; rw [e] at h3; simp at h3
  simp [invoke, callFunc, h1, h2', h3']

theorem snd_call {Γ : Gam} (hΓ : ∀ f g, Γ.get f = some g → Sound P f g) {c : Call} {f : Nat} (ho : o.op = .call c) (hc : c.callee = .value (.func f)) {p : Prop} {st' : St} (hs : stepCall Γ f (c.args.toList.map st.ev) o.dst st = some (p, st')) (hp : p)
    (hr : R w0 mine st a w) (hn : ∀ a' w', R w0 mine st' a' w' → next a' w') : o.wp P a w next Q := by
  obtain ⟨hd, m, H, he⟩ := hr
  unfold stepCall at hs
  split at hs
  · simp at hs
  rename_i g hg
  have S := hΓ f g hg
  split at hs
  · simp at hs
  rename_i x hx
  have hargs := args_F2 H he c.args.toList
  have hvs : (c.args.map a.eval).toList = c.args.toList.map a.eval := by simp
  rw [← hvs] at hargs
  unfold Oper.wp
  rw [run_enter ho hc S.enters, Oper.upon_enter]
  split at hs
  · rename_i hdp
    cases hs
    have hk := implodeArgs_K (ok := fun _ => True) H.br hargs hx (fun l _ c _ => by
      cases c <;> simp only [okC]
      · exact fun _ _ _ => trivial
      · intro x _
        exact ⟨fun _ _ => trivial, by split <;> simp⟩)
    refine Calls.mono (S.runs x hp w _ _ hk fun _ _ => trivial) fun e w' he' => ?_
    obtain ⟨us, rfl, hfr, hres⟩ := he'
    rw [hdp] at hres
    obtain ⟨B, hM, hnd, hlo⟩ := hres
    obtain ⟨rl, hf, rfl, hcs⟩ := VMs_rows st.heap.length hM
    obtain ⟨H', hok, hsm⟩ := HR.results H hfr hf hnd hlo
    refine hn _ _ ⟨by rw [put_defers]; exact hd, _, H', ?_⟩
    show F2 (V w' _ _) (st.put o.dst _).env _
    rw [St.put_env]
    exact env_put (env_mono hok hsm he) o.dst (ret_V (hcs.imp fun _ _ _ h => V1R_V1 hf h))
  · rename_i hdp
    cases hs
    obtain ⟨H1, hok1, hs1⟩ := H.weaker (Weakers.freeze st.heap (moved ((c.args.toList.map st.ev).flatMap LV.cells)))
    generalize hids : moved ((c.args.toList.map st.ev).flatMap LV.cells) = ids at *
    have hlen : (freeze st.heap ids).length = st.heap.length := (Weakers.freeze st.heap ids).1
    have top : ∀ n b, okAt m st.heap n b → b < w.heap.size → okAt m (freeze st.heap ids) st.heap.length b := fun n b hb hl => by
      have := okAt_top H1.lo_le (hok1 n b hb hl).2
      rwa [hlen] at this
    have hk := implodeArgs_K (ok := okAt m (freeze st.heap ids) st.heap.length) H.br hargs hx (fun l hl c' hc' => by
      cases c' with
      | sl e t xs n => exact fun b hb hlt => top n b hb hlt
      | own id =>
        intro y hy
        have hid : id ∈ ids := by rw [← hids]; exact mem_moved (List.mem_flatMap.2 ⟨l, hl, hc'⟩)
        obtain ⟨i, hi⟩ := List.getElem?_of_mem hl
        obtain ⟨v, _, hV⟩ := hargs.get hi
        obtain ⟨u, hu⟩ := V_def hV _ hc'
        simp only [C, hy] at hu
        have hz : (freeze st.heap ids)[id]? = some y.froze := by rw [freeze_get, hy]; simp [hid]
        refine ⟨fun b hb => ⟨by rw [H.mx]; exact H.nx b (H.lt id y hy b hb).2, fun j z hj => ?_⟩, ?_⟩
        · by_cases e : j = id
          · subst e
            rw [hz] at hj
            cases hj
            cases y with
            | box => exact hu.elim
            | dead => trivial
            | row e t xs dp mt k =>
              have hjl := (List.getElem?_eq_some_iff.1 hy).1
              refine ⟨fun h _ => ?_, fun hdp' hle _ => ?_⟩
              · simp at h; omega
              · subst hdp'
                have := H.lo_le j e t xs mt k hy
                omega
          · have hzl : z ∈ (freeze st.heap ids)[j]? := hj
            have hdj := H1.dj id _ j z (fun e' => e e'.symm) hz hj b (by cases y <;> exact hb)
            cases z with
            | dead => trivial
            | box cs => show b ≠ m.blk j; simpa [fpB] using hdj
            | row e t xs dp mt k =>
              simp only [fpB, List.mem_append, not_or] at hdj
              refine ⟨fun _ hob => hdj.1 (by simp [hob]), fun hd _ hm => ?_⟩
              subst hd
              exact hdj.2 hm
        · cases y with
          | row e t xs dp mt k =>
            cases dp with
            | true => trivial
            | false => exact fun b hb hlt => top k b hb hlt
          | _ => trivial
      | _ => trivial)
    have hext : ∀ b, w.heap.size ≤ b → okAt m (freeze st.heap ids) st.heap.length b := fun b hb => by
      refine ⟨by rw [H.mx]; exact H.nx b (.inl (Nat.le_trans H.fr.size hb)), fun j z hj => ?_⟩
      have hdj : b ∉ fpB m j z := fun hm => by have := (H1.lt j z hj b hm).1; omega
      cases z with
      | dead => trivial
      | box cs => show b ≠ m.blk j; simpa [fpB] using hdj
      | row e t xs dp mt k =>
        simp only [fpB, List.mem_append, not_or] at hdj
        refine ⟨fun _ hob => hdj.1 (by simp [hob]), fun hd _ hm => ?_⟩
        subst hd
        exact hdj.2 hm
    refine Calls.mono (S.runs x hp w _ _ hk hext) fun e w' he' => ?_
    obtain ⟨us, rfl, hfr, hres⟩ := he'
    rw [hdp] at hres
    obtain ⟨H', hok, hsm⟩ := HR.results (bl := []) (rl := []) H1 hfr .nil (by simp) (by simp)
    rw [hlen, List.append_nil] at H' hok hsm
    refine hn _ _ ⟨by rw [put_defers]; exact hd, _, H', ?_⟩
    show F2 (V w' _ _) (st.put o.dst _).env _
    rw [St.put_env]
    refine env_put (env_mono hok hsm (env_mono hok1 hs1 he)) o.dst (ret_V (VKs_explodes ?_))
    have hsame : ∀ b, okAt m (freeze st.heap ids) st.heap.length b → okAt (m.rows st.heap.length []) (freeze st.heap ids) st.heap.length b := fun b hb => ⟨hb.1, fun j z hj => by
      have hjl : j < st.heap.length := by rw [← hlen]; exact (List.getElem?_eq_some_iff.1 hj).1
      have := hb.2 j z hj
      cases z with
      | dead => trivial
      | box cs => exact this
      | row e t xs dp mt k => simpa [okB, Mp.rows, hjl] using this⟩
    exact VKs_step (fun _ _ _ => rfl) (fun b hb _ => hsame b hb) hres
end
end Go.T
