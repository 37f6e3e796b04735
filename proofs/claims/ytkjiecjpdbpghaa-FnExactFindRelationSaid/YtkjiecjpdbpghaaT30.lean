/- T: functions. -/
import Derived.Test.YtkjiecjpdbpghaaT29
namespace Go.T
open Go

def resLV (tt : TT) (st : St) : ResultVar → Option LV
  | .tmp t => some (st.env.getD t (.one .undef))
  | .cell a t => match tt.get t with
    | none => none
    | some ti => match st.env.getD a (.one .undef) with
      | .one (.ptr id _ f) => match st.heap[id]? with
        | some (.box cs) => if f + ti.ty.sz ≤ cs.length then some (toLV ti.agg ((cs.drop f).take ti.ty.sz)) else none
        | _ => none
      | _ => none
def resLVs (tt : TT) (st : St) : List ResultVar → Option (List LV)
  | [] => some []
  | r :: rs => match resLV tt st r with
    | none => none
    | some l => match resLVs tt st rs with
      | none => none
      | some ls => some (l :: ls)
def ResOk (tt : TT) (dp : Bool) (rs : List TI) (rvs : List ResultVar) (y : Vals rs) (st : St) : Prop := match resLVs tt st rvs with
  | none => False
  | some ls => implodeArgs st.heap rs ls = some y ∧ (dp = true → deepOf st.heap (ls.flatMap LV.cells) = true ∧ nodupB (moved (ls.flatMap LV.cells)) = true)
def retQ (tt : TT) (g : G) (rvs : List ResultVar) (x : Vals g.ps) : X → St → Prop
  | .normal, st => ResOk tt g.dp g.rs rvs (g.fn x) st
  | .ret, st => ResOk tt g.dp g.rs rvs (g.fn x) st
  | .exit _, _ => False
def entry (g : G) (ntmps : Nat) (x : Vals g.ps) : St := { env := (explodes 0 g.ps x).map LV1.lv ++ List.replicate (ntmps - g.ps.length) (.tup []), heap := [] }

section
variable {P : Program} {tt : TT} {Γ : Gam} {tr : Nat → Tree} {w0 w : World} {mine : Mine} {m : Mp} {h : List Blk} {st : St} {a : Act}

def resRun : ResultVar → Array Value → Sem Value
  | .tmp t, tmps => pure (tmps.getD t undef)
  | .cell a t, tmps => do loadVar t (← asAddr (tmps.getD a undef))

theorem resLV_run (hT : TTok P tt) (H : HR w0 mine w m st.heap) (he : F2 (V w m st.heap) st.env a.tmps.toList) {r : ResultVar} {l : LV} (h : resLV tt st r = some l) : ∃ v, (resRun r a.tmps).run P w = .ok v w ∧ V w m st.heap l v := by
  cases r with
  | tmp t =>
    simp only [resLV, Option.some.injEq] at h
    subst h
    exact ⟨a.tmps.getD t undef, rfl, R.ev H he (.tmp t)⟩
  | cell ad t =>
    simp only [resLV] at h
    split at h
    · simp at h
    · rename_i ti ht
      split at h
      · rename_i id i f hx
        have hev : V w m st.heap (st.ev (.tmp ad)) (a.eval (.tmp ad)) := R.ev H he (.tmp ad)
        have hx' : st.ev (.tmp ad) = .one (.ptr id i f) := hx
        rw [hx'] at hev
        split at h
        · rename_i cs hb
          split at h
          · rename_i hfit
            cases h
            simp only [V, C, hb] at hev
            obtain ⟨rfl, hax⟩ := hev
            obtain ⟨arr, ty, hblk, hf, h1⟩ := H.br id _ hb
            have hat := (At_block hblk).sub f ti.ty.sz
            rw [addr0_add] at hat
            obtain ⟨v, hrun, hv⟩ := load_At (hT t ti ht) hat (F2_sub hf f ti.ty.sz) (by simp; omega) (hT t ti ht).one
            refine ⟨v, ?_, hv⟩
            have hax' : a.tmps.getD ad undef = .pointer (some ⟨m.blk id, f, none⟩) := hax
            simp only [resRun, hax', asAddr, Sem.run_bind, Sem.run_pure, Result.andThen_ok, hrun]
          · simp at h
        · simp at h
      · simp at h

theorem resLVs_run (hT : TTok P tt) (H : HR w0 mine w m st.heap) (he : F2 (V w m st.heap) st.env a.tmps.toList) : ∀ {rs : List ResultVar} {ls : List LV}, resLVs tt st rs = some ls → ∃ vs : List Value, (rs.mapM fun r => resRun r a.tmps).run P w = .ok vs w ∧ F2 (V w m st.heap) ls vs
  | [], ls, h => by simp [resLVs] at h; subst h; exact ⟨[], rfl, .nil⟩
  | r :: rs, ls, h => by
    simp only [resLVs] at h
    split at h
    · simp at h
    · rename_i l hl
      split at h
      · simp at h
      · rename_i ls' hls
        cases h
        obtain ⟨v, h1, h2⟩ := resLV_run hT H he hl
        obtain ⟨vs, h3, h4⟩ := resLVs_run hT H he hls
        refine ⟨v :: vs, ?_, .cons h2 h4⟩
        simp only [List.mapM_cons, Sem.run_bind, h1, Result.andThen_ok, h3, Sem.run_pure]

theorem results_eq (fn : Func) (tmps : Array Value) : results fn tmps = (fn.results.mapM fun r => resRun r tmps) >>= fun vs => pure (if h : vs.size = 1 then vs[0] else .tuple vs) := by
  unfold results
  have : (fun r : ResultVar => resRun r tmps) = fun r : ResultVar => (match r with
      | .tmp t => (pure (tmps.getD t undef) : Sem Value)
      | .cell a' t => (do loadVar t (← asAddr (tmps.getD a' undef)) : Sem Value)) := by
    funext r
    cases r <;> rfl
  rw [this]
  rfl
theorem results_run (fn : Func) {vs : List Value} (h : (fn.results.toList.mapM fun r => resRun r a.tmps).run P w = .ok vs w) : (results fn a.tmps).run P w = .ok (retV vs) w := by
  have hm : (fn.results.mapM fun r => resRun r a.tmps).run P w = .ok vs.toArray w := by
    rw [Array.mapM_eq_mapM_toList]
    simp [h]
  rw [results_eq, Sem.run_bind, hm]
  simp only [Result.andThen_ok, Sem.run_pure]
  congr 1
  match vs with
  | [] => rfl
  | [v] => rfl
  | v :: v' :: r => simp [retV]

theorem implodeArgs_M (H : ∀ id x, h[id]? = some x → BR w m h id x) : ∀ {tis : List TI} {ls : List LV} {vs : List Value} {x : Vals tis}, F2 (V w m h) ls vs → implodeArgs h tis ls = some x → deepOf h (ls.flatMap LV.cells) = true →
    VMs w tis x vs (fpIds m h (moved (ls.flatMap LV.cells)))
  | [], _, _, _, .nil, _, _ => ⟨rfl, rfl⟩
  | [], _, _, _, .cons _ _, hi, _ => by simp [implodeArgs] at hi
  | ti :: r, _, _, _, .nil, hi, _ => by simp [implodeArgs] at hi
  | ti :: r, _, _, x, .cons (a := l) (b := v) hv hvs, hi, hd => by
    simp only [implodeArgs] at hi
    simp only [List.flatMap_cons, deepOf, List.all_append, Bool.and_eq_true] at hd
    split at hi
    · rename_i hag
      split at hi
      · rename_i y hy
        split at hi
        · rename_i ys hys
          cases hi
          have h2 := implodeArgs_M H hvs hys hd.2
          rw [List.flatMap_cons, moved_append, fpIds_append]
          cases l with
          | tup => simp [LV.isAgg] at hag
          | one c =>
            simp only [LV.isAgg, Option.some.injEq] at hag
            obtain ⟨v1, v2, pre, hvs', hpre, hM, hr⟩ := implode_M H (F2.cons hv .nil) hy hd.1
            cases hr
            rw [List.append_nil] at hvs' hpre
            refine ⟨v, _, [v], _, _, rfl, rfl, ?_, ?_, h2⟩
            · rw [hvs', show (LV.one c).cells = pre from hpre]; exact hM
            · rw [← hag]; rfl
          | agg cs =>
            simp only [LV.isAgg, Option.some.injEq] at hag
            obtain ⟨us, rfl, hf⟩ := hv
            obtain ⟨v1, v2, pre, hvs', hpre, hM, hr⟩ := implode_M H hf hy hd.1
            cases hr
            rw [List.append_nil] at hvs' hpre
            refine ⟨.agg us, _, us.toList, _, _, rfl, rfl, ?_, ?_, h2⟩
            · rw [hvs', show (LV.agg cs).cells = pre from hpre]; exact hM
            · rw [← hag]; simp [wrapped]
        · simp at hi
      · simp at hi
    · simp at hi

theorem V1s_V {ls : List LV1} {us : List Value} (hf : F2 (V1 w m h) ls us) : F2 (V w m h) (ls.map LV1.lv) us := by
  induction hf with
  | nil => exact .nil
  | cons h1 _ ih => exact .cons (V1_V h1) ih
theorem explodes_len (n : Nat) : ∀ (tis : List TI) (x : Vals tis), (explodes n tis x).length = tis.length
  | [], _ => rfl
  | ti :: r, x => by simp [explodes, explodes_len n r x.2]
theorem VKs_len {ok : Nat → Prop} : ∀ {tis : List TI} {x : Vals tis} {us : List Value}, VKs w ok tis x us → us.length = tis.length
  | [], _, _, h => by rw [VKs] at h; rw [h]; rfl
  | ti :: r, x, _, h => by obtain ⟨u, rest, cs, rfl, _, _, h2⟩ := h; simp [VKs_len h2]

/-- A function is what T makes of its code. -/
theorem sound_of (hT : TTok P tt) (hΓ : ∀ f g, Γ.get f = some g → Sound P f g) (hm : P.follows .mixedOrders = true) {f : FuncId} {fn : Func} {c : Code} {g : G} (hf : P.funcs[f]? = some fn) (hb : fn.body = some c) (hname : (fn.name == "runtime.NumGoroutine") = false) (hp : plansOk tr c = true)
    (hrun : ∀ x : Vals g.ps, g.pre x → wpT P tt Γ tr c (retQ tt g fn.results.toList x) (entry g fn.ntmps x)) : Sound P f g := by
  refine ⟨⟨fn, hf, by rw [hb]; rfl, hname⟩, fun x hx w ext vs hvs hext => ?_⟩
  refine calls_of_wp hf hb ?_
  let mine : Mine := ⟨fun _ => False, ext⟩
  let m0 : Mp := ⟨fun _ => undef, fun _ => 0, fun _ => [], ext⟩
  have H : HR w mine w m0 [] := ⟨by simp, by simp, by simp, by simp, Fr.refl _ w, rfl, fun b hb => hext b (by rcases hb with h | h; exact h; exact h.elim)⟩
  have henv : F2 (V w m0 []) (entry g fn.ntmps x).env (vs ++ Array.replicate (fn.ntmps - vs.size) undef).toList := by
    have hl : vs.size = g.ps.length := by have := VKs_len hvs; simpa using this
    rw [Array.toList_append, Array.toList_replicate, hl]
    refine (V1s_V (VKs_explodes (VKs_step (fun _ _ _ => rfl) (fun b hb _ => (⟨hb, by simp⟩ : okAt m0 [] 0 b)) hvs))).append ?_
    generalize fn.ntmps - g.ps.length = k
    induction k with
    | zero => exact .nil
    | succ k ih => rw [List.replicate_succ, List.replicate_succ]; exact .cons ⟨#[], rfl, .nil⟩ ih
  have hR : R w mine (entry g fn.ntmps x) { tmps := vs ++ Array.replicate (fn.ntmps - vs.size) undef, defers := [] } w := ⟨rfl, m0, H, henv⟩
  have fin : ∀ (st : St) (a : Act) (w' : World), R w mine st a w' → ResOk tt g.dp g.rs fn.results.toList (g.fn x) st → a.defers = [] ∧ ∃ v, (results fn a.tmps).run P w' = .ok v w' ∧ (∃ us, (Ending.returned v) = .returned (retV us) ∧ Fr (fun _ => False) w w' ∧ (match g.dp with
      | true => ∃ B, VMs w' g.rs (g.fn x) us B ∧ B.Nodup ∧ ∀ b ∈ B, w.heap.size ≤ b
      | false => VKs w' ext g.rs (g.fn x) us)) := by
    intro st a w' hr h
    obtain ⟨hd, m, H', he⟩ := hr
    refine ⟨hd, ?_⟩
    unfold ResOk at h
    split at h
    · exact h.elim
    · rename_i ls hls
      obtain ⟨vs', hrun, hV⟩ := resLVs_run hT H' he hls
      refine ⟨retV vs', results_run fn hrun, vs', rfl, H'.fr, ?_⟩
      cases hdp : g.dp with
      | true =>
        obtain ⟨h1, h2⟩ := h.2 hdp
        refine ⟨_, implodeArgs_M H'.br hV h.1 h1, fpIds_nodup H' (nodupB_iff h2), fun b hb => ?_⟩
        obtain ⟨id, y, _, hy, hb'⟩ := fpIds_mem hb
        rcases (H'.lt id y hy b hb').2 with h | h
        · exact h
        · exact h.elim
      | false =>
        have hmx : m.ext = ext := H'.mx
        refine implodeArgs_K H'.br hV h.1 fun l hl c hc => ?_
        cases c with
        | sl e t xs n => exact fun b hb _ => by rw [← hmx]; exact hb.1
        | own id =>
          intro y hy
          refine ⟨fun b hb => H'.nx b (H'.lt id y hy b hb).2, ?_⟩
          cases y with
          | row e t xs dp mt k =>
            cases dp with
            | true => trivial
            | false => exact fun b hb _ => by rw [← hmx]; exact hb.1
          | _ => trivial
        | _ => trivial
  refine wp_mono (wpT_sound hT hΓ hm c hp _ _ _ _ (hrun x hx) hR) fun e a w' he => ?_
  cases e with
  | normal => obtain ⟨st, hr, h⟩ := he; exact fin st a w' hr h
  | ret => obtain ⟨st, hr, h⟩ := he; exact fin st a w' hr h
  | exit id => obtain ⟨st, _, h⟩ := he; exact h.elim
  | _ => exact he.elim
end
end Go.T
