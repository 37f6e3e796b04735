/- T: regions in any order. -/
import Derived.Test.YtkjiecjpdbpghaaT26
namespace Go.T
open Go

inductive Tree
  | done
  | first (i : Nat) (t : Tree)
  | quiet (i : Nat) (t : Tree)
  | alt (i : Nat) (t r : Tree)
  | stop

def actT (tt : TT) (Γ : Gam) (o : Oper) (st : St) (K : St → Prop) : Prop := match stepAll tt Γ o st with
  | some (p, st') => p ∧ K st'
  | none => False
def stepL (tt : TT) (Γ : Gam) (ops : Array Oper) (i : Nat) (st : St) (K : St → Prop) : Prop := match ops[i]? with
  | none => False
  | some o => guardW ops o st (fun st => actT tt Γ o st K) (fun st => K (st.put o.dst (.tup [])))
def stepI (tt : TT) (Γ : Gam) (ops : Array Oper) (i : Nat) (st : St) (K : St → Prop) : Prop := match ops[i]? with
  | none => False
  | some o => guardW ops o st (fun _ => actT tt Γ o st K) (fun _ => K (st.put o.dst (.tup [])))

def allT (tt : TT) (Γ : Gam) (ops : Array Oper) : Nat → Array Bool → St → (St → Prop) → Prop
  | 0, listed, st, k => Region.ready .any ops listed = [] ∧ k st
  | fuel + 1, listed, st, k => (Region.ready .any ops listed = [] → k st) ∧ ∀ i ∈ Region.ready .any ops listed, stepI tt Γ ops i st fun st' => allT tt Γ ops fuel (listed.setIfInBounds i true) st' k

section
variable {P : Program} {tt : TT} {Γ : Gam} {o : Oper} {ops : Array Oper} {a : Act} {w0 w w' : World} {mine : Mine} {st : St} {next : Act → World → Prop} {Q : Exit → Act → World → Prop}

theorem guardW_mono {yes no yes' no' : St → Prop} (hy : ∀ s, yes s → yes' s) (hn : ∀ s, no s → no' s) (h : guardW ops o st yes no) : guardW ops o st yes' no' := by
  unfold guardW at h ⊢
  split
  · rename_i hg; simp only [hg] at h; exact hy _ h
  · rename_i j want hg
    simp only [hg] at h
    split
    · rename_i hb; simp only [hb] at h; exact hn _ h
    · rename_i t hb
      simp only [hb] at h
      split
      · rename_i b hs; simp only [hs] at h; exact ⟨fun e => hy _ (h.1 e), fun e => hn _ (h.2 e)⟩
      · rename_i ls hs; simp only [hs] at h; exact hn _ h
      · rename_i hs; simp only [hs] at h; exact hn _ h
      · rename_i h1 h2 h3
        split at h
        · rename_i b hs; exact absurd hs (h1 b)
        · rename_i ls hs; exact absurd hs (h2 ls)
        · rename_i hs; exact absurd hs h3
        · exact h

/-- With literals or without. -/
theorem guardW_lit {yes no : St → Prop} (h : guardW ops o st yes no) : guardW ops o st (fun _ => yes st) (fun _ => no st) := by
  unfold guardW at h ⊢
  split
  · rename_i hg; simp only [hg] at h; exact h
  · rename_i j want hg
    simp only [hg] at h
    split
    · rename_i hb; simp only [hb] at h; exact h
    · rename_i t hb
      simp only [hb] at h
      split
      · rename_i b hs
        simp only [hs] at h
        refine ⟨fun e => ?_, fun e => ?_⟩
        · have := h.1 e
          rw [← e, St.lit_self hs] at this
          exact this
        · have := h.2 e
          rw [← e, St.lit_self hs] at this
          exact this
      · rename_i ls hs; simp only [hs] at h; exact h
      · rename_i hs; simp only [hs] at h; exact h
      · rename_i h1 h2 h3
        split at h
        · rename_i b hs; exact absurd hs (h1 b)
        · rename_i ls hs; exact absurd hs (h2 ls)
        · rename_i hs; exact absurd hs h3
        · exact h
theorem stepL_I {i : Nat} {K : St → Prop} (h : stepL tt Γ ops i st K) : stepI tt Γ ops i st K := by
  unfold stepL at h
  unfold stepI
  cases ho : ops[i]? with
  | none => rw [ho] at h; exact h.elim
  | some o => rw [ho] at h; exact guardW_lit h

theorem stepI_mono {i : Nat} {K K' : St → Prop} (hK : ∀ s, K s → K' s) (h : stepI tt Γ ops i st K) : stepI tt Γ ops i st K' := by
  unfold stepI at h ⊢
  cases ho : ops[i]? with
  | none => rw [ho] at h; exact h.elim
  | some o =>
    rw [ho] at h
    refine guardW_mono (fun s h => ?_) (fun s h => hK _ h) h
    unfold actT at h ⊢
    cases hs : stepAll tt Γ o st with
    | none => rw [hs] at h; exact h.elim
    | some r => rw [hs] at h; exact ⟨h.1, hK _ h.2⟩

theorem allT_sound (hT : TTok P tt) (hΓ : ∀ f g, Γ.get f = some g → Sound P f g) {k : St → Prop} (hQ : ∀ a w st, R w0 mine st a w → k st → Q .normal a w) :
    ∀ (fuel : Nat) (listed : Array Bool) (st : St) (a : Act) (w : World), allT tt Γ ops fuel listed st k → R w0 mine st a w → wpAny P .any ops Q fuel listed a w
  | 0, listed, st, a, w, h, hr => ⟨h.1, hQ a w st hr h.2⟩
  | fuel + 1, listed, st, a, w, h, hr => by
    refine ⟨fun h0 => hQ a w st hr (h.1 h0), fun i hi => ?_⟩
    have h1 := h.2 i hi
    unfold stepI at h1
    unfold wpOp
    split at h1
    · exact h1.elim
    · rename_i o ho
      simp only [ho]
      rcases guardW_sound h1 hr with ⟨hw, h'⟩ | ⟨hw, h'⟩
      · rw [if_pos hw]
        unfold actT at h'
        split at h'
        · rename_i p st' hs
          exact .inl (stepAll_sound hT hΓ hs h'.1 hr fun a' w' hr' => allT_sound hT hΓ hQ fuel _ st' a' w' h'.2 hr')
        · exact h'.elim
      · rw [if_neg (by rw [hw]; simp)]
        exact allT_sound hT hΓ hQ fuel _ _ _ _ h' (hr.skip o.dst)

/-! ### a quiet one may come first -/
theorem ev_put {d : Option Tmp} {l : LV} {x : Operand} (h : ∀ t, d = some t → x ≠ .tmp t) : (st.put d l).ev x = st.ev x := by
  cases d with
  | none => rfl
  | some t =>
    cases x with
    | tmp u =>
      have : t ≠ u := fun e => h t rfl (e ▸ rfl)
      simp only [St.put, St.ev, List.getD_eq_getElem?_getD]
      rw [List.getElem?_set_ne this]
    | _ => rfl
theorem env_put_ne {d : Option Tmp} {l : LV} {t : Nat} (h : d ≠ some t) : (st.put d l).env[t]? = st.env[t]? := by
  cases d with
  | none => rfl
  | some u =>
    have : u ≠ t := fun e => h (e ▸ rfl)
    simp only [St.put]
    rw [List.getElem?_set_ne this]
theorem ev_res {d : Option Tmp} {l : LV} {h' : List Blk} {x : Operand} (h : ∀ t, d = some t → x ≠ .tmp t) : (st.res d l h').ev x = st.ev x := by
  have : (st.res d l h').ev x = (st.put d l).ev x := by cases x <;> rfl
  rw [this, ev_put h]
theorem put_res_comm {d d' : Option Tmp} {l l' : LV} {h' : List Blk} (h : ∀ t, d = some t → d' ≠ some t) : (st.put d l).res d' l' h' = (st.res d' l' h').put d l := by
  cases d with
  | none => rfl
  | some t =>
    cases d' with
    | none => rfl
    | some u =>
      have : t ≠ u := fun e => h t rfl (e ▸ rfl)
      simp only [St.res, St.put, St.mk.injEq, and_true]
      exact List.set_comm _ _ this

/-- What an operation looks at is alike. -/
structure Agree (ops : Array Oper) (o : Oper) (free : Bool) (st st2 : St) : Prop where
  ev : ∀ x ∈ o.op.operands, st2.ev x = st.ev x
  gd : ∀ j want t, o.guard = some (j, want) → (ops[j]?).bind (·.dst) = some t → st2.env[t]? = st.env[t]?
  heap : free = true ∨ st2.heap = st.heap
theorem Agree.trans {free : Bool} {s1 s2 s3 : St} (h : Agree ops o free s1 s2) (h' : Agree ops o free s2 s3) : Agree ops o free s1 s3 :=
  ⟨fun x hx => (h'.ev x hx).trans (h.ev x hx), fun j wt t h1 h2 => (h'.gd j wt t h1 h2).trans (h.gd j wt t h1 h2), by
    rcases h.heap with e | e
    · exact .inl e
    · rcases h'.heap with e' | e'
      · exact .inl e'
      · exact .inr (e'.trans e)⟩

theorem guardW_agree {free : Bool} {st2 : St} (ha : Agree ops o free st st2) (yes no : Prop) : guardW ops o st2 (fun _ => yes) (fun _ => no) ↔ guardW ops o st (fun _ => yes) (fun _ => no) := by
  unfold guardW
  split
  · exact Iff.rfl
  · rename_i j want hg
    split
    · exact Iff.rfl
    · rename_i t hb
      rw [ha.gd j want t hg hb]

/-- It gives l, wherever what it looks at is alike. -/
def Yl (tt : TT) (Γ : Gam) (ops : Array Oper) (i : Nat) (o : Oper) (free : Bool) (st : St) (l : LV) : Prop := ∀ st2, Agree ops o free st st2 → ∀ K : St → Prop, K (st2.put o.dst l) → stepI tt Γ ops i st2 K
theorem Yl.mono {i : Nat} {free : Bool} {st2 : St} {l : LV} (h : Yl tt Γ ops i o free st l) (ha : Agree ops o free st st2) : Yl tt Γ ops i o free st2 l := fun st3 ha' => h st3 (ha.trans ha')

theorem guardW_split {yes no : Prop} (h : guardW ops o st (fun _ => yes) (fun _ => no)) : (yes ∧ ∀ yes' no' : Prop, yes' → guardW ops o st (fun _ => yes') (fun _ => no')) ∨ (no ∧ ∀ yes' no' : Prop, no' → guardW ops o st (fun _ => yes') (fun _ => no')) := by
  unfold guardW at h
  split at h
  · rename_i hg
    exact .inl ⟨h, fun y n hy => by unfold guardW; simp only [hg]; exact hy⟩
  · rename_i j want hg
    split at h
    · rename_i hb
      exact .inr ⟨h, fun y n hn => by unfold guardW; simp only [hg, hb]; exact hn⟩
    · rename_i t hb
      split at h
      · rename_i b hs
        by_cases e : b = want
        · refine .inl ⟨h.1 e, fun y n hy => ?_⟩
          unfold guardW; simp only [hg, hb, hs]
          exact ⟨fun _ => hy, fun e' => by subst e; cases b <;> simp at e'⟩
        · have e' : b = !want := by cases b <;> cases want <;> simp_all
          refine .inr ⟨h.2 e', fun y n hn => ?_⟩
          unfold guardW; simp only [hg, hb, hs]
          exact ⟨fun e'' => absurd e'' e, fun _ => hn⟩
      · rename_i ls hs
        exact .inr ⟨h, fun y n hn => by unfold guardW; simp only [hg, hb, hs]; exact hn⟩
      · rename_i hs
        exact .inr ⟨h, fun y n hn => by unfold guardW; simp only [hg, hb, hs]; exact hn⟩
      · exact h.elim

theorem yields {i : Nat} {free : Bool} (hi : ops[i]? = some o) (hq : quietB o = true) (hf : free = true → opRd o st = none) {K : St → Prop} (h : stepI tt Γ ops i st K) : ∃ l, K (st.put o.dst l) ∧ Yl tt Γ ops i o free st l := by
  unfold stepI at h
  simp only [hi] at h
  rcases guardW_split h with ⟨h1, h2⟩ | ⟨h1, h2⟩
  · unfold actT at h1
    split at h1
    · rename_i p s hs
      obtain ⟨hp, hk⟩ := h1
      rw [stepAll_quiet hq] at hs
      obtain ⟨l, rfl, hc⟩ := quiet_op hq hs
      refine ⟨l, hk, fun st2 ha K' hK' => ?_⟩
      unfold stepI
      simp only [hi]
      rw [guardW_agree ha]
      refine h2 _ _ ?_
      unfold actT
      rw [stepAll_quiet hq, hc st2 ha.ev fun id hid => ?_]
      · exact ⟨hp, hK'⟩
      · rcases ha.heap with e | e
        · rw [hf e] at hid; simp at hid
        · rw [e]
    · exact h1.elim
  · refine ⟨.tup [], h1, fun st2 ha K' hK' => ?_⟩
    unfold stepI
    simp only [hi]
    rw [guardW_agree ha]
    exact h2 _ _ hK'

theorem looks_op {x : Operand} {t : Tmp} (hx : x ∈ o.op.operands) (e : x = .tmp t) : t ∈ o.looksAt ops := by
  subst e
  exact List.mem_append_left _ (List.mem_filterMap.2 ⟨.tmp t, by simpa using hx, rfl⟩)
theorem looks_guard {j : Nat} {want : Bool} {t : Tmp} (hg : o.guard = some (j, want)) (hb : (ops[j]?).bind (·.dst) = some t) : t ∈ o.looksAt ops := by
  simp [Oper.looksAt, hg, hb]

theorem commute {j : Nat} {oi oj : Oper} {l : LV} {free : Bool} (hj : ops[j]? = some oj) (hap : oi.apart ops oj = true) (hqj : free = false → quietB oj = true) {K : St → Prop} (h : stepI tt Γ ops j (st.put oi.dst l) K) :
    stepI tt Γ ops j st fun st' => K (st'.put oi.dst l) ∧ Agree ops oi free st st' := by
  obtain ⟨h1, h2, h3⟩ := Oper.apart_spec hap
  have ag : Agree ops oj false st (st.put oi.dst l) := ⟨fun x hx => ev_put fun t ht e => h1 t ht (looks_op hx e), fun g want t hg hb => env_put_ne fun e => h1 t e (looks_guard hg hb), .inr (St.put_heap _ _ _)⟩
  have agi : ∀ (l' : LV) (h' : List Blk), (free = false → h' = st.heap) → Agree ops oi free st (st.res oj.dst l' h') := fun l' h' hh => ⟨fun x hx => ev_res fun t ht e => h3 t ht (looks_op hx e), fun g want t hg hb => by
      have : (st.res oj.dst l' h').env = (st.put oj.dst l').env := rfl
      rw [this]
      exact env_put_ne fun e => h3 t e (looks_guard hg hb), by
      cases free with
      | true => exact .inl rfl
      | false => exact .inr (hh rfl)⟩
  unfold stepI at h ⊢
  simp only [hj] at h ⊢
  rw [guardW_agree ag] at h
  refine guardW_mono (fun _ h => ?_) (fun _ h => ?_) h
  · unfold actT at h ⊢
    split at h
    · rename_i p s hs
      obtain ⟨l', h', rfl, hc⟩ := does_op hs
      have hs' := hc st (fun x hx => (ag.ev x hx).symm) (St.put_heap _ _ _).symm
      rw [hs']
      refine ⟨h.1, ?_, agi l' h' fun hf => ?_⟩
      · rw [← put_res_comm h2]; exact h.2
      · have hq := hqj hf
        rw [stepAll_quiet hq] at hs'
        obtain ⟨l2, h4, _⟩ := quiet_op hq hs'
        have := congrArg St.heap h4
        rw [St.put_heap] at this
        exact this
    · exact h.elim
  · have e : (st.put oi.dst l).put oj.dst (.tup []) = (st.put oj.dst (.tup [])).put oi.dst l := by
      have := put_res_comm (st := st) (l := l) (l' := .tup []) (h' := st.heap) h2
      rw [St.res_self] at this
      have e2 : (st.put oi.dst l).res oj.dst (.tup []) st.heap = (st.put oi.dst l).put oj.dst (.tup []) := by
        have := St.res_self (st.put oi.dst l) oj.dst (.tup [])
        rw [St.put_heap] at this
        exact this
      rw [← e2]; exact this
    rw [e] at h
    refine ⟨h, ?_⟩
    have := agi (.tup []) st.heap fun _ => rfl
    rwa [St.res_self] at this

/-- The successors of one that comes first. -/
def OkS (ops : Array Oper) (i : Nat) (S : List Nat) : Prop := ∀ j ∈ S, j ≠ i → ∃ oj e, ops[j]? = some oj ∧ e ∈ oj.after ∧ Region.binds .any e = true ∧ e.on ∈ S

theorem allT_first {i : Nat} {oi : Oper} {l : LV} {free : Bool} {S : List Nat} (hi : ops[i]? = some oi) (hS : OkS ops i S) (hiS : i ∈ S) {k : St → Prop} :
    ∀ (fuel : Nat) (listed : Array Bool) (st : St),
      (∀ j oj, ops[j]? = some oj → j ≠ i → listed.getD j true = false → (∀ e ∈ oj.after, Region.binds .any e = true → e.on ≠ i) → oi.apart ops oj = true) →
      (∀ s ∈ S, listed.getD s true = false) →
      (∀ j oj, ops[j]? = some oj → listed.getD j true = false → j ∉ S → free = false → quietB oj = true) →
      i ∈ Region.ready .any ops listed → Yl tt Γ ops i oi free st l →
      allT tt Γ ops fuel (listed.setIfInBounds i true) (st.put oi.dst l) k → allT tt Γ ops (fuel + 1) listed st k := by
  have self : ∀ s, Agree ops oi free s s := fun s => ⟨fun _ _ => rfl, fun _ _ _ _ _ => rfl, .inr rfl⟩
  intro fuel
  induction fuel with
  | zero =>
    intro listed st _ _ _ hr hy H
    refine ⟨fun h => (by rw [h] at hr; cases hr), fun j hj => ?_⟩
    by_cases hji : j = i
    · subst hji; exact hy st (self st) _ H
    · have := ready_mono hj hji
      rw [H.1] at this
      cases this
  | succ fuel ih =>
    intro listed st hfree hSu hqu hr hy H
    refine ⟨fun h => (by rw [h] at hr; cases hr), fun j hj => ?_⟩
    by_cases hji : j = i
    · subst hji; exact hy st (self st) _ H
    · have h1 := H.2 j (ready_mono hj hji)
      obtain ⟨hjun, oj, hoj, hall⟩ := mem_ready.1 hj
      have unl : ∀ x : Nat, listed.getD x true = false → listed.getD x false ≠ true := fun x h0 h1 => by
        rcases Nat.lt_or_ge x listed.size with h' | h'
        · simp [h'] at h0 h1; rw [h0] at h1; cases h1
        · simp [Array.getElem?_eq_none h'] at h1
      have hnot : ∀ e ∈ oj.after, Region.binds .any e = true → e.on ≠ i := fun e he hb heq => by
        have h1 := hall e he hb
        rw [heq] at h1
        exact unl i (hSu i hiS) h1
      have hjS : j ∉ S := fun hm => by
        obtain ⟨oj', e, ho', he, hb, hon⟩ := hS j hm hji
        rw [hoj] at ho'; cases ho'
        exact unl _ (hSu _ hon) (hall e he hb)
      have h2 := commute (free := free) hoj (hfree j oj hoj hji hjun hnot) (hqu j oj hoj hjun hjS) h1
      have keep : ∀ s, (listed.setIfInBounds j true).getD s true = false → listed.getD s true = false := fun s hs => by
        by_cases e : j = s
        · subst e; exact hjun
        · rw [getD_set_ne true e] at hs; exact hs
      refine stepI_mono (fun st' h3 => ih (listed.setIfInBounds j true) st' (fun k' ok' hk' hki' hun hno => hfree k' ok' hk' hki' (keep k' hun) hno) (fun s hs => ?_) (fun k' ok' hk' hun hns => hqu k' ok' hk' (keep k' hun) hns) (ready_mono hr (Ne.symm hji)) (hy.mono h3.2) ?_) h2
      · rw [getD_set_ne true (fun e : j = s => hjS (by subst e; exact hs))]; exact hSu s hs
      · rw [Array.setIfInBounds_comm _ _ hji]
        exact h3.1
end
end Go.T
