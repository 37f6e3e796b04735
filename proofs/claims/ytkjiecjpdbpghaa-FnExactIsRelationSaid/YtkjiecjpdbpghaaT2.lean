/- T: regions in their order. -/
import Derived.Test.YtkjiecjpdbpghaaT1
namespace Go.T
open Go

def St.lit (st : St) (t : Nat) (b : Bool) : St := { st with env := st.env.set t (.one (.bool b)) }
theorem St.lit_self {st : St} {t : Nat} {b : Bool} (h : st.env[t]? = some (.one (.bool b))) : st.lit t b = st := by
  obtain ⟨env, heap⟩ := st
  simp only [St.lit, St.mk.injEq, and_true]
  apply List.ext_getElem?
  intro j
  by_cases e : t = j
  · subst e
    rw [List.getElem?_set_self (List.getElem?_eq_some_iff.1 h).1]
    exact h.symm
  · rw [List.getElem?_set_ne e]

/-- Is an operation wanted? -/
def guardW (ops : Array Oper) (o : Oper) (st : St) (yes no : St → Prop) : Prop := match o.guard with
  | none => yes st
  | some (j, want) => match (ops[j]?).bind (·.dst) with
    | none => no st
    | some t => match st.env[t]? with
      | some (.one (.bool b)) => (b = want → yes (st.lit t want)) ∧ (b = !want → no (st.lit t (!want)))
      | some (.tup _) => no st
      | none => no st
      | _ => False

/-- An operation that T doesn't know: by what is known of it. -/
def callW (P : Program) (o : Oper) (st : St) (k : St → Prop) : Prop :=
  ∀ (w0 : World) (mine : Mine) (a : Act) (w : World) (next : Act → World → Prop) (Q : Exit → Act → World → Prop), R w0 mine st a w → (∀ a' w' st', R w0 mine st' a' w' → k st' → next a' w') → o.wp P a w next Q

def opW (P : Program) (tt : TT) (Γ : Gam) (o : Oper) (st : St) (k : St → Prop) : Prop := match stepAll tt Γ o st with
  | some (p, st') => p ∧ k st'
  | none => callW P o st k

def regionW (P : Program) (tt : TT) (Γ : Gam) (ops : Array Oper) : List Oper → St → (St → Prop) → Prop
  | [], st, k => k st
  | o :: os, st, k => guardW ops o st (fun st => opW P tt Γ o st fun st => regionW P tt Γ ops os st k) (fun st => regionW P tt Γ ops os (st.put o.dst (.tup [])) k)

section
variable {P : Program} {tt : TT} {Γ : Gam} {o : Oper} {ops : Array Oper} {a : Act} {w0 w w' : World} {mine : Mine} {st : St} {next : Act → World → Prop} {Q : Exit → Act → World → Prop}

theorem stepAll_sound (hT : TTok P tt) (hΓ : ∀ f g, Γ.get f = some g → Sound P f g) {p : Prop} {st' : St} (hs : stepAll tt Γ o st = some (p, st')) (hp : p) (hr : R w0 mine st a w) (hn : ∀ a' w', R w0 mine st' a' w' → next a' w') : o.wp P a w next Q := by
  unfold stepAll at hs
  split at hs
  · rename_i c ho
    split at hs
    · rename_i f hc
      exact snd_call hΓ ho hc hs hp hr hn
    · exact stepOp_sound hT hs hp hr hn
  · exact stepOp_sound hT hs hp hr hn

theorem opW_sound (hT : TTok P tt) (hΓ : ∀ f g, Γ.get f = some g → Sound P f g) {k : St → Prop} (h : opW P tt Γ o st k) (hr : R w0 mine st a w) (hn : ∀ a' w' st', R w0 mine st' a' w' → k st' → next a' w') : o.wp P a w next Q := by
  unfold opW at h
  split at h
  · rename_i p st' hs
    exact stepAll_sound hT hΓ hs h.1 hr fun a' w' hr' => hn a' w' st' hr' h.2
  · exact h w0 mine a w next Q hr hn

theorem R.slot (hr : R w0 mine st a w) {t : Nat} {l : LV} (h : st.env[t]? = some l) : ∃ m h v, a.tmps[t]? = some v ∧ V w m h l v := by
  obtain ⟨_, m, H, he⟩ := hr
  obtain ⟨v, hv, hV⟩ := he.get h
  exact ⟨m, _, v, by simpa using hv, hV⟩
theorem R.noslot (hr : R w0 mine st a w) {t : Nat} (h : st.env[t]? = none) : a.tmps[t]? = none := by
  obtain ⟨_, m, H, he⟩ := hr
  have := he.len
  simp at h
  simp
  simp at this
  omega

theorem yielded_some {j t : Nat} (h : (ops[j]?).bind (·.dst) = some t) (tmps : Array Value) : yielded ops tmps j = match tmps[t]? with | some (.bool b) => some b | _ => none := by
  unfold yielded
  rw [h]
  simp only [Option.bind_some]
  cases tmps[t]? with
  | none => rfl
  | some v => cases v <;> rfl
theorem yielded_none {j : Nat} (h : (ops[j]?).bind (·.dst) = none) (tmps : Array Value) : yielded ops tmps j = none := by
  simp [yielded, h]

theorem guardW_sound {yes no : St → Prop} (h : guardW ops o st yes no) (hr : R w0 mine st a w) : (Region.wanted o (yielded ops a.tmps) = true ∧ yes st) ∨ (Region.wanted o (yielded ops a.tmps) = false ∧ no st) := by
  unfold guardW at h
  unfold Region.wanted
  split at h
  · rename_i hg
    rw [hg]; exact .inl ⟨rfl, h⟩
  · rename_i j want hg
    rw [hg]
    simp only
    split at h
    · rename_i hb
      rw [yielded_none hb]
      exact .inr ⟨rfl, h⟩
    · rename_i t hb
      rw [yielded_some hb]
      split at h
      · rename_i b hs
        obtain ⟨m, hh, v, hv, hV⟩ := hr.slot hs
        have hv' : v = .bool b := hV
        subst hv'
        rw [hv]
        simp only
        by_cases e : b = want
        · subst e
          have := h.1 rfl
          rw [St.lit_self hs] at this
          exact .inl ⟨by simp, this⟩
        · have e' : b = !want := by cases b <;> cases want <;> simp_all
          have := h.2 e'
          rw [← e', St.lit_self hs] at this
          exact .inr ⟨by simpa using e, this⟩
      · rename_i ls hs
        obtain ⟨m, hh, v, hv, hV⟩ := hr.slot hs
        obtain ⟨vs, rfl, _⟩ := hV
        rw [hv]
        exact .inr ⟨rfl, h⟩
      · rename_i hs
        rw [hr.noslot hs]
        exact .inr ⟨rfl, h⟩
      · exact h.elim

theorem R.skip (hr : R w0 mine st a w) (d : Option Tmp) : R w0 mine (st.put d (.tup [])) (a.put d undef) w :=
  hr.put d fun m H he => ⟨#[], rfl, .nil⟩

theorem regionW_sound (hT : TTok P tt) (hΓ : ∀ f g, Γ.get f = some g → Sound P f g) {k : St → Prop} (hQ : ∀ a w st, R w0 mine st a w → k st → Q .normal a w) :
    ∀ (os pre : List Oper), ops.toList = pre ++ os → ∀ (st : St) (a : Act) (w : World), regionW P tt Γ ops os st k → R w0 mine st a w → wpOps P ops Q (List.range' pre.length os.length) a w
  | [], pre, _, st, a, w, h, hr => hQ a w st hr h
  | o :: os, pre, he, st, a, w, h, hr => by
    have hi : ops[pre.length]? = some o := by rw [← Array.getElem?_toList, he]; simp
    have hrest : ∀ st' a' w', regionW P tt Γ ops os st' k → R w0 mine st' a' w' → wpOps P ops Q (List.range' (pre.length + 1) os.length) a' w' := fun st' a' w' h' hr' => by
      have := regionW_sound hT hΓ hQ os (pre ++ [o]) (by rw [he]; simp) st' a' w' h' hr'
      simpa using this
    rw [List.length_cons, List.range'_succ, wpOps_cons]
    unfold wpOp
    simp only [hi]
    rcases guardW_sound h hr with ⟨hw, h'⟩ | ⟨hw, h'⟩
    · rw [if_pos hw]
      exact .inl (opW_sound hT hΓ h' hr fun a' w' st' hr' hk => hrest st' a' w' hk hr')
    · rw [if_neg (by rw [hw]; simp)]
      exact hrest _ _ _ h' (hr.skip o.dst)
end
end Go.T
/- T: regions in any order. -/
namespace Go.T
open Go

inductive Tree
  | done
  | first (i : Nat) (t : Tree)
  | quiet (i : Nat) (t : Tree)
  | grow (i : Nat) (t : Tree)
  | alt (i : Nat) (t r : Tree)
  | stop

def actT (tt : TT) (Γ : Gam) (o : Oper) (st : St) (K : St → Prop) : Prop := match stepAll tt Γ o st with
  | some (p, st') => p ∧ K st'
  | none => False
def stepL (tt : TT) (Γ : Gam) (ops : Array Oper) (i : Nat) (st : St) (K : St → Prop) : Prop := match ops[i]? with
  | none => False
  | some o => guardW ops o st (fun st => actT tt Γ o st K) (fun st => K (st.put o.dst (.tup [])))
def stepI (tt : TT) (Γ : Gam) (ops : Array Oper) (i : Nat) (st : St) (K : St → Prop) : Prop := match ops[i]? with
  | none => False
  | some o => guardW ops o st (fun _ => actT tt Γ o st K) (fun _ => K (st.put o.dst (.tup [])))

def allT (tt : TT) (Γ : Gam) (ops : Array Oper) : Nat → Array Bool → St → (St → Prop) → Prop
  | 0, listed, st, k => Region.ready .any ops listed = [] ∧ k st
  | fuel + 1, listed, st, k => (Region.ready .any ops listed = [] → k st) ∧ ∀ i ∈ Region.ready .any ops listed, stepI tt Γ ops i st fun st' => allT tt Γ ops fuel (listed.setIfInBounds i true) st' k

section
variable {P : Program} {tt : TT} {Γ : Gam} {o : Oper} {ops : Array Oper} {a : Act} {w0 w w' : World} {mine : Mine} {st : St} {next : Act → World → Prop} {Q : Exit → Act → World → Prop}

theorem guardW_mono {yes no yes' no' : St → Prop} (hy : ∀ s, yes s → yes' s) (hn : ∀ s, no s → no' s) (h : guardW ops o st yes no) : guardW ops o st yes' no' := by
  unfold guardW at h ⊢
  split
  · rename_i hg; simp only [hg] at h; exact hy _ h
  · rename_i j want hg
    simp only [hg] at h
    split
    · rename_i hb; simp only [hb] at h; exact hn _ h
    · rename_i t hb
      simp only [hb] at h
      split
      · rename_i b hs; simp only [hs] at h; exact ⟨fun e => hy _ (h.1 e), fun e => hn _ (h.2 e)⟩
      · rename_i ls hs; simp only [hs] at h; exact hn _ h
      · rename_i hs; simp only [hs] at h; exact hn _ h
      · rename_i h1 h2 h3
        split at h
        · rename_i b hs; exact absurd hs (h1 b)
        · rename_i ls hs; exact absurd hs (h2 ls)
        · rename_i hs; exact absurd hs h3
        · exact h

/-- With literals or without. -/
theorem guardW_lit {yes no : St → Prop} (h : guardW ops o st yes no) : guardW ops o st (fun _ => yes st) (fun _ => no st) := by
  unfold guardW at h ⊢
  split
  · rename_i hg; simp only [hg] at h; exact h
  · rename_i j want hg
    simp only [hg] at h
    split
    · rename_i hb; simp only [hb] at h; exact h
    · rename_i t hb
      simp only [hb] at h
      split
      · rename_i b hs
        simp only [hs] at h
        refine ⟨fun e => ?_, fun e => ?_⟩
        · have := h.1 e
          rw [← e, St.lit_self hs] at this
          exact this
        · have := h.2 e
          rw [← e, St.lit_self hs] at this
          exact this
      · rename_i ls hs; simp only [hs] at h; exact h
      · rename_i hs; simp only [hs] at h; exact h
      · rename_i h1 h2 h3
        split at h
        · rename_i b hs; exact absurd hs (h1 b)
        · rename_i ls hs; exact absurd hs (h2 ls)
        · rename_i hs; exact absurd hs h3
        · exact h
theorem stepL_I {i : Nat} {K : St → Prop} (h : stepL tt Γ ops i st K) : stepI tt Γ ops i st K := by
  unfold stepL at h
  unfold stepI
  cases ho : ops[i]? with
  | none => rw [ho] at h; exact h.elim
  | some o => rw [ho] at h; exact guardW_lit h

theorem stepI_mono {i : Nat} {K K' : St → Prop} (hK : ∀ s, K s → K' s) (h : stepI tt Γ ops i st K) : stepI tt Γ ops i st K' := by
  unfold stepI at h ⊢
  cases ho : ops[i]? with
  | none => rw [ho] at h; exact h.elim
  | some o =>
    rw [ho] at h
    refine guardW_mono (fun s h => ?_) (fun s h => hK _ h) h
    unfold actT at h ⊢
    cases hs : stepAll tt Γ o st with
    | none => rw [hs] at h; exact h.elim
    | some r => rw [hs] at h; exact ⟨h.1, hK _ h.2⟩

theorem allT_sound (hT : TTok P tt) (hΓ : ∀ f g, Γ.get f = some g → Sound P f g) {k : St → Prop} (hQ : ∀ a w st, R w0 mine st a w → k st → Q .normal a w) :
    ∀ (fuel : Nat) (listed : Array Bool) (st : St) (a : Act) (w : World), allT tt Γ ops fuel listed st k → R w0 mine st a w → wpAny P .any ops Q fuel listed a w
  | 0, listed, st, a, w, h, hr => ⟨h.1, hQ a w st hr h.2⟩
  | fuel + 1, listed, st, a, w, h, hr => by
    refine ⟨fun h0 => hQ a w st hr (h.1 h0), fun i hi => ?_⟩
    have h1 := h.2 i hi
    unfold stepI at h1
    unfold wpOp
    split at h1
    · exact h1.elim
    · rename_i o ho
      simp only [ho]
      rcases guardW_sound h1 hr with ⟨hw, h'⟩ | ⟨hw, h'⟩
      · rw [if_pos hw]
        unfold actT at h'
        split at h'
        · rename_i p st' hs
          exact .inl (stepAll_sound hT hΓ hs h'.1 hr fun a' w' hr' => allT_sound hT hΓ hQ fuel _ st' a' w' h'.2 hr')
        · exact h'.elim
      · rw [if_neg (by rw [hw]; simp)]
        exact allT_sound hT hΓ hQ fuel _ _ _ _ h' (hr.skip o.dst)

/-! ### a quiet one may come first -/
theorem ev_put {d : Option Tmp} {l : LV} {x : Operand} (h : ∀ t, d = some t → x ≠ .tmp t) : (st.put d l).ev x = st.ev x := by
  cases d with
  | none => rfl
  | some t =>
    cases x with
    | tmp u =>
      have : t ≠ u := fun e => h t rfl (e ▸ rfl)
      simp only [St.put, St.ev, List.getD_eq_getElem?_getD]
      rw [List.getElem?_set_ne this]
    | _ => rfl
theorem env_put_ne {d : Option Tmp} {l : LV} {t : Nat} (h : d ≠ some t) : (st.put d l).env[t]? = st.env[t]? := by
  cases d with
  | none => rfl
  | some u =>
    have : u ≠ t := fun e => h (e ▸ rfl)
    simp only [St.put]
    rw [List.getElem?_set_ne this]
theorem ev_res {d : Option Tmp} {l : LV} {h' : List Blk} {x : Operand} (h : ∀ t, d = some t → x ≠ .tmp t) : (st.res d l h').ev x = st.ev x := by
  have : (st.res d l h').ev x = (st.put d l).ev x := by cases x <;> rfl
  rw [this, ev_put h]
theorem put_res_comm {d d' : Option Tmp} {l l' : LV} {h' : List Blk} (h : ∀ t, d = some t → d' ≠ some t) : (st.put d l).res d' l' h' = (st.res d' l' h').put d l := by
  cases d with
  | none => rfl
  | some t =>
    cases d' with
    | none => rfl
    | some u =>
      have : t ≠ u := fun e => h t rfl (e ▸ rfl)
      simp only [St.res, St.put, St.mk.injEq, and_true]
      exact List.set_comm _ _ this

/-- What others may have done to the rows and boxes: anything; nothing; new ones. -/
inductive Md
  | any
  | eq
  | grow
def HpM : Md → List Blk → List Blk → Prop
  | .any, _, _ => True
  | .eq, h, h2 => h2 = h
  | .grow, h, h2 => ∃ l, h2 = h ++ l
theorem HpM.refl (md : Md) (h : List Blk) : HpM md h h := by
  cases md
  · trivial
  · rfl
  · exact ⟨[], by simp⟩
theorem HpM.trans {md : Md} {h1 h2 h3 : List Blk} (a : HpM md h1 h2) (b : HpM md h2 h3) : HpM md h1 h3 := by
  cases md with
  | any => trivial
  | eq => exact Eq.trans b a
  | grow => obtain ⟨l, rfl⟩ := a; obtain ⟨l', rfl⟩ := b; exact ⟨l ++ l', by simp⟩
def rdM : Md → Oper → St → Prop
  | .any, o, st => opRd o st = none
  | .eq, _, _ => True
  | .grow, o, st => ∀ id, opRd o st = some id → id < st.heap.length
def growB (o : Oper) : Bool := quietB o || match o.op with
  | .alloc _ | .box .. | .makeSlice .. => true
  | _ => false
def mdB : Md → Oper → Bool
  | .any, _ => true
  | .eq, o => quietB o
  | .grow, o => growB o
theorem mdB_op {md : Md} (hb : mdB md o = true) {p : Prop} {s : St} (hs : stepAll tt Γ o st = some (p, s)) : HpM md st.heap s.heap := by
  have quiet : quietB o = true → s.heap = st.heap := fun hq => by
    rw [stepAll_quiet hq] at hs
    obtain ⟨l2, h4, _⟩ := quiet_op hq hs
    rw [h4]; cases o.dst <;> rfl
  cases md with
  | any => trivial
  | eq => exact quiet hb
  | grow =>
    simp only [mdB, growB, Bool.or_eq_true] at hb
    rcases hb with hq | hb
    · exact ⟨[], by rw [quiet hq]; simp⟩
    · obtain ⟨dst, op, type, pos, after, guard⟩ := o
      cases op <;> simp only [Bool.false_eq_true] at hb
      case alloc t =>
        simp only [stepAll, stepOp] at hs
        split at hs
        · cases hs; exact ⟨_, rfl⟩
        · simp at hs
      case box t x =>
        simp only [stepAll, stepOp] at hs
        split at hs
        · cases hs; exact ⟨_, rfl⟩
        · simp at hs
      case makeSlice t l c =>
        simp only [stepAll, stepOp] at hs
        split at hs
        · split at hs
          · cases hs; exact ⟨_, rfl⟩
          · simp at hs
        · simp at hs

/-- What an operation looks at is alike. -/
structure Agree (ops : Array Oper) (o : Oper) (free : Md) (st st2 : St) : Prop where
  ev : ∀ x ∈ o.op.operands, st2.ev x = st.ev x
  gd : ∀ j want t, o.guard = some (j, want) → (ops[j]?).bind (·.dst) = some t → st2.env[t]? = st.env[t]?
  heap : HpM free st.heap st2.heap
theorem Agree.trans {free : Md} {s1 s2 s3 : St} (h : Agree ops o free s1 s2) (h' : Agree ops o free s2 s3) : Agree ops o free s1 s3 :=
  ⟨fun x hx => (h'.ev x hx).trans (h.ev x hx), fun j wt t h1 h2 => (h'.gd j wt t h1 h2).trans (h.gd j wt t h1 h2), h.heap.trans h'.heap⟩

theorem guardW_agree {free : Md} {st2 : St} (ha : Agree ops o free st st2) (yes no : Prop) : guardW ops o st2 (fun _ => yes) (fun _ => no) ↔ guardW ops o st (fun _ => yes) (fun _ => no) := by
  unfold guardW
  split
  · exact Iff.rfl
  · rename_i j want hg
    split
    · exact Iff.rfl
    · rename_i t hb
      rw [ha.gd j want t hg hb]

/-- It gives l, wherever what it looks at is alike. -/
def Yl (tt : TT) (Γ : Gam) (ops : Array Oper) (i : Nat) (o : Oper) (free : Md) (st : St) (l : LV) : Prop := ∀ st2, Agree ops o free st st2 → ∀ K : St → Prop, K (st2.put o.dst l) → stepI tt Γ ops i st2 K
theorem Yl.mono {i : Nat} {free : Md} {st2 : St} {l : LV} (h : Yl tt Γ ops i o free st l) (ha : Agree ops o free st st2) : Yl tt Γ ops i o free st2 l := fun st3 ha' => h st3 (ha.trans ha')

theorem guardW_split {yes no : Prop} (h : guardW ops o st (fun _ => yes) (fun _ => no)) : (yes ∧ ∀ yes' no' : Prop, yes' → guardW ops o st (fun _ => yes') (fun _ => no')) ∨ (no ∧ ∀ yes' no' : Prop, no' → guardW ops o st (fun _ => yes') (fun _ => no')) := by
  unfold guardW at h
  split at h
  · rename_i hg
    exact .inl ⟨h, fun y n hy => by unfold guardW; simp only [hg]; exact hy⟩
  · rename_i j want hg
    split at h
    · rename_i hb
      exact .inr ⟨h, fun y n hn => by unfold guardW; simp only [hg, hb]; exact hn⟩
    · rename_i t hb
      split at h
      · rename_i b hs
        by_cases e : b = want
        · refine .inl ⟨h.1 e, fun y n hy => ?_⟩
          unfold guardW; simp only [hg, hb, hs]
          exact ⟨fun _ => hy, fun e' => by subst e; cases b <;> simp at e'⟩
        · have e' : b = !want := by cases b <;> cases want <;> simp_all
          refine .inr ⟨h.2 e', fun y n hn => ?_⟩
          unfold guardW; simp only [hg, hb, hs]
          exact ⟨fun e'' => absurd e'' e, fun _ => hn⟩
      · rename_i ls hs
        exact .inr ⟨h, fun y n hn => by unfold guardW; simp only [hg, hb, hs]; exact hn⟩
      · rename_i hs
        exact .inr ⟨h, fun y n hn => by unfold guardW; simp only [hg, hb, hs]; exact hn⟩
      · exact h.elim

theorem yields {i : Nat} {free : Md} (hi : ops[i]? = some o) (hq : quietB o = true) (hf : rdM free o st) {K : St → Prop} (h : stepI tt Γ ops i st K) : ∃ l, K (st.put o.dst l) ∧ Yl tt Γ ops i o free st l := by
  unfold stepI at h
  simp only [hi] at h
  rcases guardW_split h with ⟨h1, h2⟩ | ⟨h1, h2⟩
  · unfold actT at h1
    split at h1
    · rename_i p s hs
      obtain ⟨hp, hk⟩ := h1
      rw [stepAll_quiet hq] at hs
      obtain ⟨l, rfl, hc⟩ := quiet_op hq hs
      refine ⟨l, hk, fun st2 ha K' hK' => ?_⟩
      unfold stepI
      simp only [hi]
      rw [guardW_agree ha]
      refine h2 _ _ ?_
      unfold actT
      rw [stepAll_quiet hq, hc st2 ha.ev fun id hid => ?_]
      · exact ⟨hp, hK'⟩
      · have e := ha.heap
        cases free with
        | any => simp only [rdM] at hf; rw [hf] at hid; simp at hid
        | eq => have e : st2.heap = st.heap := e; rw [e]
        | grow =>
          obtain ⟨l2, e⟩ := e
          rw [e, List.getElem?_append_left (hf id hid)]
    · exact h1.elim
  · refine ⟨.tup [], h1, fun st2 ha K' hK' => ?_⟩
    unfold stepI
    simp only [hi]
    rw [guardW_agree ha]
    exact h2 _ _ hK'

theorem looks_op {x : Operand} {t : Tmp} (hx : x ∈ o.op.operands) (e : x = .tmp t) : t ∈ o.looksAt ops := by
  subst e
  exact List.mem_append_left _ (List.mem_filterMap.2 ⟨.tmp t, by simpa using hx, rfl⟩)
theorem looks_guard {j : Nat} {want : Bool} {t : Tmp} (hg : o.guard = some (j, want)) (hb : (ops[j]?).bind (·.dst) = some t) : t ∈ o.looksAt ops := by
  simp [Oper.looksAt, hg, hb]

theorem commute {j : Nat} {oi oj : Oper} {l : LV} {free : Md} (hj : ops[j]? = some oj) (hap : oi.apart ops oj = true) (hqj : mdB free oj = true) {K : St → Prop} (h : stepI tt Γ ops j (st.put oi.dst l) K) :
    stepI tt Γ ops j st fun st' => K (st'.put oi.dst l) ∧ Agree ops oi free st st' := by
  obtain ⟨h1, h2, h3⟩ := Oper.apart_spec hap
  have ag : Agree ops oj .eq st (st.put oi.dst l) := ⟨fun x hx => ev_put fun t ht e => h1 t ht (looks_op hx e), fun g want t hg hb => env_put_ne fun e => h1 t e (looks_guard hg hb), St.put_heap _ _ _⟩
  have agi : ∀ (l' : LV) (h' : List Blk), HpM free st.heap h' → Agree ops oi free st (st.res oj.dst l' h') := fun l' h' hh => ⟨fun x hx => ev_res fun t ht e => h3 t ht (looks_op hx e), fun g want t hg hb => by
      have : (st.res oj.dst l' h').env = (st.put oj.dst l').env := rfl
      rw [this]
      exact env_put_ne fun e => h3 t e (looks_guard hg hb), hh⟩
  unfold stepI at h ⊢
  simp only [hj] at h ⊢
  rw [guardW_agree ag] at h
  refine guardW_mono (fun _ h => ?_) (fun _ h => ?_) h
  · unfold actT at h ⊢
    split at h
    · rename_i p s hs
      obtain ⟨l', h', rfl, hc⟩ := does_op hs
      have hs' := hc st (fun x hx => (ag.ev x hx).symm) (St.put_heap _ _ _).symm
      rw [hs']
      refine ⟨h.1, ?_, agi l' h' (mdB_op hqj hs')⟩
      rw [← put_res_comm h2]; exact h.2
    · exact h.elim
  · have e : (st.put oi.dst l).put oj.dst (.tup []) = (st.put oj.dst (.tup [])).put oi.dst l := by
      have := put_res_comm (st := st) (l := l) (l' := .tup []) (h' := st.heap) h2
      rw [St.res_self] at this
      have e2 : (st.put oi.dst l).res oj.dst (.tup []) st.heap = (st.put oi.dst l).put oj.dst (.tup []) := by
        have := St.res_self (st.put oi.dst l) oj.dst (.tup [])
        rw [St.put_heap] at this
        exact this
      rw [← e2]; exact this
    rw [e] at h
    refine ⟨h, ?_⟩
    have := agi (.tup []) st.heap (HpM.refl _ _)
    rwa [St.res_self] at this

/-- The successors of one that comes first. -/
def OkS (ops : Array Oper) (i : Nat) (S : List Nat) : Prop := ∀ j ∈ S, j ≠ i → ∃ oj e, ops[j]? = some oj ∧ e ∈ oj.after ∧ Region.binds .any e = true ∧ e.on ∈ S

theorem allT_first {i : Nat} {oi : Oper} {l : LV} {free : Md} {S : List Nat} (hi : ops[i]? = some oi) (hS : OkS ops i S) (hiS : i ∈ S) {k : St → Prop} :
    ∀ (fuel : Nat) (listed : Array Bool) (st : St),
      (∀ j oj, ops[j]? = some oj → j ≠ i → listed.getD j true = false → (∀ e ∈ oj.after, Region.binds .any e = true → e.on ≠ i) → oi.apart ops oj = true) →
      (∀ s ∈ S, listed.getD s true = false) →
      (∀ j oj, ops[j]? = some oj → listed.getD j true = false → j ∉ S → mdB free oj = true) →
      i ∈ Region.ready .any ops listed → Yl tt Γ ops i oi free st l →
      allT tt Γ ops fuel (listed.setIfInBounds i true) (st.put oi.dst l) k → allT tt Γ ops (fuel + 1) listed st k := by
  have self : ∀ s, Agree ops oi free s s := fun s => ⟨fun _ _ => rfl, fun _ _ _ _ _ => rfl, HpM.refl _ _⟩
  intro fuel
  induction fuel with
  | zero =>
    intro listed st _ _ _ hr hy H
    refine ⟨fun h => (by rw [h] at hr; cases hr), fun j hj => ?_⟩
    by_cases hji : j = i
    · subst hji; exact hy st (self st) _ H
    · have := ready_mono hj hji
      rw [H.1] at this
      cases this
  | succ fuel ih =>
    intro listed st hfree hSu hqu hr hy H
    refine ⟨fun h => (by rw [h] at hr; cases hr), fun j hj => ?_⟩
    by_cases hji : j = i
    · subst hji; exact hy st (self st) _ H
    · have h1 := H.2 j (ready_mono hj hji)
      obtain ⟨hjun, oj, hoj, hall⟩ := mem_ready.1 hj
      have unl : ∀ x : Nat, listed.getD x true = false → listed.getD x false ≠ true := fun x h0 h1 => by
        rcases Nat.lt_or_ge x listed.size with h' | h'
        · simp [h'] at h0 h1; rw [h0] at h1; cases h1
        · simp [Array.getElem?_eq_none h'] at h1
      have hnot : ∀ e ∈ oj.after, Region.binds .any e = true → e.on ≠ i := fun e he hb heq => by
        have h1 := hall e he hb
        rw [heq] at h1
        exact unl i (hSu i hiS) h1
      have hjS : j ∉ S := fun hm => by
        obtain ⟨oj', e, ho', he, hb, hon⟩ := hS j hm hji
        rw [hoj] at ho'; cases ho'
        exact unl _ (hSu _ hon) (hall e he hb)
      have h2 := commute (free := free) hoj (hfree j oj hoj hji hjun hnot) (hqu j oj hoj hjun hjS) h1
      have keep : ∀ s, (listed.setIfInBounds j true).getD s true = false → listed.getD s true = false := fun s hs => by
        by_cases e : j = s
        · subst e; exact hjun
        · rw [getD_set_ne true e] at hs; exact hs
      refine stepI_mono (fun st' h3 => ih (listed.setIfInBounds j true) st' (fun k' ok' hk' hki' hun hno => hfree k' ok' hk' hki' (keep k' hun) hno) (fun s hs => ?_) (fun k' ok' hk' hun hns => hqu k' ok' hk' (keep k' hun) hns) (ready_mono hr (Ne.symm hji)) (hy.mono h3.2) ?_) h2
      · rw [getD_set_ne true (fun e : j = s => hjS (by subst e; exact hs))]; exact hSu s hs
      · rw [Array.setIfInBounds_comm _ _ hji]
        exact h3.1
end
end Go.T
/- T: the order of a region's branches, planned. -/
namespace Go.T
open Go

def quietAt (ops : Array Oper) (i : Nat) : Bool := match ops[i]? with
  | some o => quietB o
  | none => false
def growAt (ops : Array Oper) (i : Nat) : Bool := match ops[i]? with
  | some o => growB o
  | none => false
def hangs (ops : Array Oper) (S : List Nat) (j : Nat) : Bool := match ops[j]? with
  | some o => o.after.any fun e => Region.binds .any e && S.contains e.on
  | none => false
def succs (ops : Array Oper) (i : Nat) : List Nat := (List.range ops.size).foldl (fun S j => if j != i && hangs ops S j then j :: S else S) [i]

def planOk (ops : Array Oper) : Tree → Nat → Array Bool → List Nat → Bool
  | .done, _, listed, _ => (Region.ready .any ops listed).isEmpty
  | .first i t, fuel + 1, listed, _ => (Region.ready .any ops listed).contains i && Region.free .any ops listed i && quietAt ops i && planOk ops t fuel (listed.setIfInBounds i true) []
  | .quiet i t, fuel + 1, listed, _ => (Region.ready .any ops listed).contains i && Region.free .any ops listed i && quietAt ops i &&
      ((succs ops i).contains i && (succs ops i).all (fun j => j == i || hangs ops (succs ops i) j) && (succs ops i).all (fun j => listed.getD j true == false) &&
        (List.range ops.size).all fun j => listed.getD j true || (succs ops i).contains j || quietAt ops j) &&
      planOk ops t fuel (listed.setIfInBounds i true) []
  | .grow i t, fuel + 1, listed, _ => (Region.ready .any ops listed).contains i && Region.free .any ops listed i && quietAt ops i &&
      ((succs ops i).contains i && (succs ops i).all (fun j => j == i || hangs ops (succs ops i) j) && (succs ops i).all (fun j => listed.getD j true == false) &&
        (List.range ops.size).all fun j => listed.getD j true || (succs ops i).contains j || growAt ops j) &&
      planOk ops t fuel (listed.setIfInBounds i true) []
  | .alt i t r, fuel + 1, listed, acc => planOk ops t fuel (listed.setIfInBounds i true) [] && planOk ops r (fuel + 1) listed (i :: acc)
  | .stop, _ + 1, listed, acc => !acc.isEmpty && (!(Region.ready .any ops listed).isEmpty) && (Region.ready .any ops listed).all fun i => acc.contains i
  | _, 0, _, _ => false

def rdFree (ops : Array Oper) (i : Nat) (st : St) : Prop := match ops[i]? with
  | some o => opRd o st = none
  | none => False

def rdLt (ops : Array Oper) (i : Nat) (st : St) : Prop := match ops[i]? with
  | some o => match opRd o st with
    | some id => id < st.heap.length
    | none => True
  | none => False

def treeW (tt : TT) (Γ : Gam) (ops : Array Oper) : Tree → St → (St → Prop) → Prop
  | .done, st, k => k st
  | .first i t, st, k => rdFree ops i st ∧ stepL tt Γ ops i st fun st => treeW tt Γ ops t st k
  | .quiet i t, st, k => stepL tt Γ ops i st fun st => treeW tt Γ ops t st k
  | .grow i t, st, k => rdLt ops i st ∧ stepL tt Γ ops i st fun st => treeW tt Γ ops t st k
  | .alt i t r, st, k => (stepL tt Γ ops i st fun st => treeW tt Γ ops t st k) ∧ treeW tt Γ ops r st k
  | .stop, _, _ => True

section
variable {tt : TT} {Γ : Gam} {ops : Array Oper}

theorem quietAt_spec {i : Nat} (h : quietAt ops i = true) : ∃ o, ops[i]? = some o ∧ quietB o = true := by
  unfold quietAt at h
  split at h
  · rename_i o ho; exact ⟨o, ho, h⟩
  · simp at h
theorem growAt_spec {i : Nat} (h : growAt ops i = true) : ∃ o, ops[i]? = some o ∧ growB o = true := by
  unfold growAt at h
  split at h
  · rename_i o ho; exact ⟨o, ho, h⟩
  · simp at h
theorem hangs_spec {S : List Nat} {j : Nat} (h : hangs ops S j = true) : ∃ oj e, ops[j]? = some oj ∧ e ∈ oj.after ∧ Region.binds .any e = true ∧ e.on ∈ S := by
  unfold hangs at h
  split at h
  · rename_i o ho
    obtain ⟨e, he, hb⟩ := Array.any_eq_true'.1 h
    simp only [Bool.and_eq_true] at hb
    exact ⟨o, e, ho, he, hb.1, by simpa using hb.2⟩
  · simp at h

theorem treeW_all {k : St → Prop} : ∀ (t : Tree) (fuel : Nat) (listed : Array Bool) (acc : List Nat) (st : St), planOk ops t fuel listed acc = true → treeW tt Γ ops t st k →
    (∀ f, fuel = f + 1 → ∀ i ∈ acc, stepI tt Γ ops i st fun s => allT tt Γ ops f (listed.setIfInBounds i true) s k) → allT tt Γ ops fuel listed st k
  | .done, fuel, listed, acc, st, hp, h, _ => by
    have hr : Region.ready .any ops listed = [] := by
      cases fuel <;> simpa [planOk] using hp
    cases fuel with
    | zero => exact ⟨hr, h⟩
    | succ f => exact ⟨fun _ => h, by rw [hr]; simp⟩
  | .first i t, 0, listed, acc, st, hp, h, _ => by simp [planOk] at hp
  | .first i t, fuel + 1, listed, acc, st, hp, h, _ => by
    simp only [planOk, Bool.and_eq_true] at hp
    obtain ⟨⟨⟨hr, hfr⟩, hq⟩, hp⟩ := hp
    obtain ⟨o, ho, hq⟩ := quietAt_spec hq
    obtain ⟨hrd, hs⟩ := h
    unfold rdFree at hrd
    simp only [ho] at hrd
    obtain ⟨l, hk, hy⟩ := yields (free := .any) ho hq hrd (stepL_I hs)
    have hri : i ∈ Region.ready .any ops listed := by simpa using hr
    refine allT_first (S := [i]) ho (fun j hj hne => by simp at hj; exact absurd hj hne) (by simp) fuel listed st (Region.free_spec ho hfr) (fun s hs => ?_) (fun _ _ _ _ _ => rfl) hri hy ?_
    · simp at hs; subst hs; exact (mem_ready.1 hri).1
    · exact treeW_all t fuel _ [] _ hp hk (fun _ _ _ h => by simp at h)
  | .quiet i t, 0, listed, acc, st, hp, h, _ => by simp [planOk] at hp
  | .quiet i t, fuel + 1, listed, acc, st, hp, h, _ => by
    simp only [planOk, Bool.and_eq_true] at hp
    obtain ⟨⟨⟨⟨hr, hfr⟩, hq⟩, ⟨⟨hc, hS⟩, hU⟩, hQ⟩, hp⟩ := hp
    obtain ⟨o, ho, hq⟩ := quietAt_spec hq
    obtain ⟨l, hk, hy⟩ := yields (free := .eq) ho hq trivial (stepL_I h)
    have hri : i ∈ Region.ready .any ops listed := by simpa using hr
    refine allT_first (S := succs ops i) ho (fun j hj hne => ?_) (by simpa using hc) fuel listed st (Region.free_spec ho hfr) (fun s hs => ?_) (fun j oj hoj hun hns => ?_) hri hy ?_
    · have := List.all_eq_true.1 hS j hj
      simp only [Bool.or_eq_true, beq_iff_eq] at this
      rcases this with e | e
      · exact absurd e hne
      · exact hangs_spec e
    · have := List.all_eq_true.1 hU s hs
      simpa using this
    · have hjl : j < ops.size := (Array.getElem?_eq_some_iff.1 hoj).1
      have := List.all_eq_true.1 hQ j (by simpa using hjl)
      simp only [Bool.or_eq_true] at this
      rcases this with (e | e) | e
      · rw [hun] at e; simp at e
      · exact absurd (by simpa using e) hns
      · obtain ⟨o', ho', hq'⟩ := quietAt_spec e
        rw [hoj] at ho'; cases ho'; exact hq'
    · exact treeW_all t fuel _ [] _ hp hk (fun _ _ _ h => by simp at h)
  | .grow i t, 0, listed, acc, st, hp, h, _ => by simp [planOk] at hp
  | .grow i t, fuel + 1, listed, acc, st, hp, h, _ => by
    simp only [planOk, Bool.and_eq_true] at hp
    obtain ⟨⟨⟨⟨hr, hfr⟩, hq⟩, ⟨⟨hc, hS⟩, hU⟩, hQ⟩, hp⟩ := hp
    obtain ⟨o, ho, hq⟩ := quietAt_spec hq
    obtain ⟨hrd, h⟩ := h
    have hrd' : rdM .grow o st := fun id hid => by
      unfold rdLt at hrd
      simp only [ho, hid] at hrd
      exact hrd
    obtain ⟨l, hk, hy⟩ := yields (free := .grow) ho hq hrd' (stepL_I h)
    have hri : i ∈ Region.ready .any ops listed := by simpa using hr
    refine allT_first (S := succs ops i) ho (fun j hj hne => ?_) (by simpa using hc) fuel listed st (Region.free_spec ho hfr) (fun s hs => ?_) (fun j oj hoj hun hns => ?_) hri hy ?_
    · have := List.all_eq_true.1 hS j hj
      simp only [Bool.or_eq_true, beq_iff_eq] at this
      rcases this with e | e
      · exact absurd e hne
      · exact hangs_spec e
    · have := List.all_eq_true.1 hU s hs
      simpa using this
    · have hjl : j < ops.size := (Array.getElem?_eq_some_iff.1 hoj).1
      have := List.all_eq_true.1 hQ j (by simpa using hjl)
      simp only [Bool.or_eq_true] at this
      rcases this with (e | e) | e
      · rw [hun] at e; simp at e
      · exact absurd (by simpa using e) hns
      · obtain ⟨o', ho', hq'⟩ := growAt_spec e
        rw [hoj] at ho'; cases ho'; exact hq'
    · exact treeW_all t fuel _ [] _ hp hk (fun _ _ _ h => by simp at h)
  | .alt i t r, 0, listed, acc, st, hp, h, _ => by simp [planOk] at hp
  | .alt i t r, fuel + 1, listed, acc, st, hp, h, ha => by
    simp only [planOk, Bool.and_eq_true] at hp
    refine treeW_all r (fuel + 1) listed (i :: acc) st hp.2 h.2 fun f hf j hj => ?_
    rcases List.mem_cons.1 hj with rfl | hj
    · have : f = fuel := by omega
      subst this
      exact stepI_mono (fun s hs => treeW_all t f _ [] s hp.1 hs (fun _ _ _ h => by simp at h)) (stepL_I h.1)
    · exact ha f hf j hj
  | .stop, 0, listed, acc, st, hp, h, _ => by simp [planOk] at hp
  | .stop, fuel + 1, listed, acc, st, hp, h, ha => by
    simp only [planOk, Bool.and_eq_true] at hp
    obtain ⟨⟨_, hne⟩, hall⟩ := hp
    refine ⟨fun h0 => (by rw [h0] at hne; simp at hne), fun i hi => ?_⟩
    have := List.all_eq_true.1 hall i hi
    exact ha fuel rfl i (by simpa using this)
end
end Go.T
/- T: code. -/
namespace Go.T
open Go

inductive X
  | normal
  | ret
  | exit (id : Nat)

/-- Whatever T's one state tells of the machine, the other tells too. -/
def Le (s s' : St) : Prop := ∀ (w0 : World) (mine : Mine) (a : Act) (w : World), (∀ id, mine.pin id = none) → R w0 mine s a w → R w0 mine s' a w
/-- The same where rows are pinned. -/
def LeP (s s' : St) : Prop := ∀ (w0 : World) (mine : Mine) (a : Act) (w : World), R w0 mine s a w → R w0 mine s' a w
theorem Le.refl (s : St) : Le s s := fun _ _ _ _ _ h => h
theorem Le.trans {s1 s2 s3 : St} (h : Le s1 s2) (h' : Le s2 s3) : Le s1 s3 := fun w0 mine a w hp hr => h' w0 mine a w hp (h w0 mine a w hp hr)

def seqQ (k : St → Prop) (Q : X → St → Prop) : X → St → Prop
  | .normal, st => k st
  | .ret, st => Q .ret st
  | .exit id, st => Q (.exit id) st
def blockQ (id : Nat) (Q : X → St → Prop) : X → St → Prop
  | .normal, st => Q .normal st
  | .ret, st => Q .ret st
  | .exit id', st => if id' = id then Q .normal st else Q (.exit id') st
def St.litO (st : St) (c : Operand) (b : Bool) : St := match c with
  | .tmp t => st.lit t b
  | _ => st
def condW (c : Operand) (st : St) (x y : St → Prop) : Prop := match st.ev c with
  | .one (.bool b) => (b = true → x (st.litO c true)) ∧ (b = false → y (st.litO c false))
  | _ => False
/-- A loop: what it is at each round's head, up to what is forgotten; what falls. -/
def loopW (L : St → St → Prop) (round : (X → St → Prop) → St → Prop) (Q : X → St → Prop) (st : St) : Prop :=
  ∃ (α : Type) (mk : α → St) (I : α → Prop) (μ : α → Nat), (∃ x, L st (mk x) ∧ I x) ∧ ∀ x, I x → round (seqQ (fun s' => ∃ x', L s' (mk x') ∧ I x' ∧ μ x' < μ x) Q) (mk x)

def wpT (P : Program) (tt : TT) (Γ : Gam) (tr : Nat → Tree) (L : St → St → Prop) : Code → (X → St → Prop) → St → Prop
  | .skip, Q, st => Q .normal st
  | .region _ ops false, Q, st => regionW P tt Γ ops ops.toList st (Q .normal)
  | .region id ops true, Q, st => treeW tt Γ ops (tr id) st (Q .normal)
  | .seq a b, Q, st => wpT P tt Γ tr L a (seqQ (wpT P tt Γ tr L b Q) Q) st
  | .cond c x y, Q, st => condW c st (wpT P tt Γ tr L x Q) (wpT P tt Γ tr L y Q)
  | .block id c, Q, st => wpT P tt Γ tr L c (blockQ id Q) st
  | .loop c, Q, st => loopW L (wpT P tt Γ tr L c) Q st
  | .exit id, Q, st => Q (.exit id) st
  | .ret, Q, st => Q .ret st
  | _, _, _ => False

def plansOk (tr : Nat → Tree) : Code → Bool
  | .region id ops true => planOk ops (tr id) ops.size (Array.replicate ops.size false) []
  | .seq a b => plansOk tr a && plansOk tr b
  | .cond _ a b => plansOk tr a && plansOk tr b
  | .block _ a => plansOk tr a
  | .loop a => plansOk tr a
  | _ => true

def liftQ (w0 : World) (mine : Mine) (Q : X → St → Prop) : Exit → Act → World → Prop
  | .normal, a, w => ∃ st, R w0 mine st a w ∧ Q .normal st
  | .ret, a, w => ∃ st, R w0 mine st a w ∧ Q .ret st
  | .exit id, a, w => ∃ st, R w0 mine st a w ∧ Q (.exit id) st
  | _, _, _ => False

section
variable {P : Program} {tt : TT} {Γ : Gam} {tr : Nat → Tree} {L : St → St → Prop} {w0 : World} {mine : Mine}

theorem R.litO {st : St} {a : Act} {w : World} {c : Operand} {b : Bool} (h : st.ev c = .one (.bool b)) : st.litO c b = st := by
  cases c with
  | tmp t =>
    refine St.lit_self ?_
    simp only [St.ev, List.getD_eq_getElem?_getD] at h
    cases hx : st.env[t]? with
    | none => rw [hx] at h; simp at h
    | some l => rw [hx] at h; simp at h; rw [h]
  | _ => rfl

theorem exists_min {J : Nat → Prop} : ∀ {n : Nat}, J n → ∃ m, J m ∧ ∀ k, J k → m ≤ k := by
  intro n
  induction n using Nat.strongRecOn with
  | _ n ih =>
    intro hn
    by_cases h : ∃ k, k < n ∧ J k
    · obtain ⟨k, hk, hJ⟩ := h
      exact ih k hk hJ
    · exact ⟨n, hn, fun k hk => by
        rcases Nat.lt_or_ge k n with h' | h'
        · exact absurd ⟨k, h', hk⟩ h
        · exact h'⟩

open Classical in
theorem loop_sound (hL : ∀ s s', L s s' → ∀ a w, R w0 mine s a w → R w0 mine s' a w) {c : Code} {Q : X → St → Prop} (hc : ∀ (Q : X → St → Prop) (st : St) (a : Act) (w : World), wpT P tt Γ tr L c Q st → R w0 mine st a w → c.wp P (liftQ w0 mine Q) a w) {st : St} {a : Act} {w : World}
    (h : loopW L (wpT P tt Γ tr L c) Q st) (hr : R w0 mine st a w) : (Code.loop c).wp P (liftQ w0 mine Q) a w := by
  obtain ⟨α, mk, I, μ, ⟨x0, hle, hI⟩, hround⟩ := h
  let J : Act → World → Nat → Prop := fun a w n => ∃ x, R w0 mine (mk x) a w ∧ I x ∧ μ x = n
  have hmin : ∀ a w, (∃ n, J a w n) → ∃ m, J a w m ∧ ∀ k, J a w k → m ≤ k := fun a w ⟨n, hn⟩ => exists_min hn
  let M : Act → World → Nat := fun a w => if h : ∃ n, J a w n then Classical.choose (hmin a w h) else 0
  have hM : ∀ a w n, J a w n → J a w (M a w) ∧ M a w ≤ n := fun a w n hn => by
    have hex : ∃ n, J a w n := ⟨n, hn⟩
    simp only [M, dif_pos hex]
    exact ⟨(Classical.choose_spec (hmin a w hex)).1, (Classical.choose_spec (hmin a w hex)).2 n hn⟩
  refine wp_loop (I := fun a w => ∃ n, J a w n) (μ := M) ⟨μ x0, x0, hL _ _ hle _ _ hr, hI, rfl⟩ fun a w hex => ?_
  obtain ⟨n, hn⟩ := hex
  obtain ⟨⟨x, hs, hIs, hμ⟩, _⟩ := hM a w n hn
  refine wp_mono (hc _ (mk x) a w (hround x hIs) hs) fun e a' w' he => ?_
  cases e with
  | normal =>
    obtain ⟨s', hs', x', hle', hI', hlt⟩ := he
    have hJ : J a' w' (μ x') := ⟨x', hL _ _ hle' _ _ hs', hI', rfl⟩
    refine ⟨⟨_, hJ⟩, ?_⟩
    have := (hM a' w' _ hJ).2
    rw [← hμ]
    omega
  | ret => exact he
  | exit id => exact he
  | _ => exact he

theorem wpT_sound (hT : TTok P tt) (hΓ : ∀ f g, Γ.get f = some g → Sound P f g) (hm : P.follows .mixedOrders = true) (hL : ∀ s s', L s s' → ∀ a w, R w0 mine s a w → R w0 mine s' a w) : ∀ (c : Code), plansOk tr c = true → ∀ (Q : X → St → Prop) (st : St) (a : Act) (w : World), wpT P tt Γ tr L c Q st → R w0 mine st a w → c.wp P (liftQ w0 mine Q) a w
  | .skip, _, Q, st, a, w, h, hr => wp_skip ⟨st, hr, h⟩
  | .region id ops false, _, Q, st, a, w, h, hr => by
    refine wp_region ?_
    have := regionW_sound (ops := ops) (Q := liftQ w0 mine Q) hT hΓ (k := Q .normal) (fun a w st hr hk => ⟨st, hr, hk⟩) ops.toList [] rfl st a w h hr
    rw [List.range_eq_range']
    simpa using this
  | .region id ops true, hp, Q, st, a, w, h, hr => by
    refine wp_region_any hm ?_
    have h1 := treeW_all (tr id) ops.size _ [] st hp h (fun _ _ _ h => by simp at h)
    have hr' : R w0 mine st a { w with drawn := w.drawn + 1 } := by
      obtain ⟨hd, m, H, he⟩ := hr
      obtain ⟨H', hok, hs⟩ := H.heap_eq (w' := { w with drawn := w.drawn + 1 }) rfl rfl rfl rfl
      exact ⟨hd, m, H', env_mono hok hs he⟩
    exact allT_sound hT hΓ (k := Q .normal) (fun a w st hr hk => ⟨st, hr, hk⟩) _ _ st a _ h1 hr'
  | .seq x y, hp, Q, st, a, w, h, hr => by
    simp only [plansOk, Bool.and_eq_true] at hp
    refine wp_seq (wp_mono (wpT_sound hT hΓ hm hL x hp.1 _ st a w h hr) fun e a' w' he => ?_)
    cases e with
    | normal => obtain ⟨s, hs, hk⟩ := he; exact wpT_sound hT hΓ hm hL y hp.2 Q s a' w' hk hs
    | ret => exact he
    | exit id => exact he
    | _ => exact he
  | .cond c x y, hp, Q, st, a, w, h, hr => by
    simp only [plansOk, Bool.and_eq_true] at hp
    simp only [wpT, condW] at h
    split at h
    · rename_i b hb
      have hv : a.eval c = .bool b := by
        obtain ⟨hd, m, H, he⟩ := hr
        have := R.ev H he c
        rw [hb] at this
        exact this
      refine wp_cond hv ?_
      cases b with
      | true =>
        have := h.1 rfl
        rw [R.litO (a := a) (w := w) hb] at this
        exact wpT_sound hT hΓ hm hL x hp.1 Q st a w this hr
      | false =>
        have := h.2 rfl
        rw [R.litO (a := a) (w := w) hb] at this
        exact wpT_sound hT hΓ hm hL y hp.2 Q st a w this hr
    · exact h.elim
  | .block id c, hp, Q, st, a, w, h, hr => by
    refine wp_block (wp_mono (wpT_sound hT hΓ hm hL c hp _ st a w h hr) fun e a' w' he => ?_)
    cases e with
    | normal => exact he
    | ret => exact he
    | exit id' =>
      obtain ⟨s, hs, hk⟩ := he
      simp only [blockQ] at hk
      simp only [Exit.inBlock]
      split
      · rename_i e; rw [if_pos e] at hk; exact ⟨s, hs, hk⟩
      · rename_i e; rw [if_neg e] at hk; exact ⟨s, hs, hk⟩
    | _ => exact he
  | .loop c, hp, Q, st, a, w, h, hr => loop_sound hL (fun Q st a w h hr => wpT_sound hT hΓ hm hL c hp Q st a w h hr) h hr
  | .exit id, _, Q, st, a, w, h, hr => wp_exit ⟨st, hr, h⟩
  | .ret, _, Q, st, a, w, h, hr => wp_ret ⟨st, hr, h⟩
  | .rangeFunc .., _, _, _, _, _, h, _ => h.elim
  | .scope _, _, _, _, _, _, h, _ => h.elim
  | .label _, _, _, _, _, _, h, _ => h.elim
  | .goto _, _, _, _, _, _, h, _ => h.elim
  | .refuse _, _, _, _, _, _, h, _ => h.elim
end
end Go.T
/- T: functions. -/
namespace Go.T
open Go

def resLV (tt : TT) (st : St) : ResultVar → Option LV
  | .tmp t => some (st.env.getD t (.one .undef))
  | .cell a t => match tt.get t with
    | none => none
    | some ti => match st.env.getD a (.one .undef) with
      | .one (.ptr id _ f) => match st.heap[id]? with
        | some (.box cs) => if f + ti.ty.sz ≤ cs.length then some (toLV ti.agg ((cs.drop f).take ti.ty.sz)) else none
        | _ => none
      | _ => none
def resLVs (tt : TT) (st : St) : List ResultVar → Option (List LV)
  | [] => some []
  | r :: rs => match resLV tt st r with
    | none => none
    | some l => match resLVs tt st rs with
      | none => none
      | some ls => some (l :: ls)
def ResOk (tt : TT) (dp : Bool) (rs : List TI) (rvs : List ResultVar) (y : Vals rs) (st : St) : Prop := match resLVs tt st rvs with
  | none => False
  | some ls => implodeArgs st.heap rs ls = some y ∧ (dp = true → deepOf st.heap (ls.flatMap LV.cells) = true ∧ nodupB (moved (ls.flatMap LV.cells)) = true)
def retQ (tt : TT) (g : G) (rvs : List ResultVar) (x : Vals g.ps) : X → St → Prop
  | .normal, st => ResOk tt g.dp g.rs rvs (g.fn x) st
  | .ret, st => ResOk tt g.dp g.rs rvs (g.fn x) st
  | .exit _, _ => False
def entry (g : G) (ntmps : Nat) (x : Vals g.ps) : St := { env := (explodes 0 g.ps x).map LV1.lv ++ List.replicate (ntmps - g.ps.length) (.tup []), heap := [] }

section
variable {P : Program} {tt : TT} {Γ : Gam} {tr : Nat → Tree} {w0 w : World} {mine : Mine} {m : Mp} {h : List Blk} {st : St} {a : Act}

def resRun : ResultVar → Array Value → Sem Value
  | .tmp t, tmps => pure (tmps.getD t undef)
  | .cell a t, tmps => do loadVar t (← asAddr (tmps.getD a undef))

theorem resLV_run (hT : TTok P tt) (H : HR w0 mine w m st.heap) (he : F2 (V w m st.heap) st.env a.tmps.toList) {r : ResultVar} {l : LV} (h : resLV tt st r = some l) : ∃ v, (resRun r a.tmps).run P w = .ok v w ∧ V w m st.heap l v := by
  cases r with
  | tmp t =>
    simp only [resLV, Option.some.injEq] at h
    subst h
    exact ⟨a.tmps.getD t undef, rfl, R.ev H he (.tmp t)⟩
  | cell ad t =>
    simp only [resLV] at h
    split at h
    · simp at h
    · rename_i ti ht
      split at h
      · rename_i id i f hx
        have hev : V w m st.heap (st.ev (.tmp ad)) (a.eval (.tmp ad)) := R.ev H he (.tmp ad)
        have hx' : st.ev (.tmp ad) = .one (.ptr id i f) := hx
        rw [hx'] at hev
        split at h
        · rename_i cs hb
          split at h
          · rename_i hfit
            cases h
            simp only [V, C, hb] at hev
            obtain ⟨rfl, hax⟩ := hev
            obtain ⟨arr, ty, hblk, hf, h1⟩ := H.br id _ hb
            have hat := (At_block hblk).sub f ti.ty.sz
            rw [addr0_add] at hat
            obtain ⟨v, hrun, hv⟩ := load_At (hT t ti ht) hat (F2_sub hf f ti.ty.sz) (by simp; omega) (hT t ti ht).one
            refine ⟨v, ?_, hv⟩
            have hax' : a.tmps.getD ad undef = .pointer (some ⟨m.blk id, f, none⟩) := hax
            simp only [resRun, hax', asAddr, Sem.run_bind, Sem.run_pure, Result.andThen_ok, hrun]
          · simp at h
        · simp at h
      · simp at h

theorem resLVs_run (hT : TTok P tt) (H : HR w0 mine w m st.heap) (he : F2 (V w m st.heap) st.env a.tmps.toList) : ∀ {rs : List ResultVar} {ls : List LV}, resLVs tt st rs = some ls → ∃ vs : List Value, (rs.mapM fun r => resRun r a.tmps).run P w = .ok vs w ∧ F2 (V w m st.heap) ls vs
  | [], ls, h => by simp [resLVs] at h; subst h; exact ⟨[], rfl, .nil⟩
  | r :: rs, ls, h => by
    simp only [resLVs] at h
    split at h
    · simp at h
    · rename_i l hl
      split at h
      · simp at h
      · rename_i ls' hls
        cases h
        obtain ⟨v, h1, h2⟩ := resLV_run hT H he hl
        obtain ⟨vs, h3, h4⟩ := resLVs_run hT H he hls
        refine ⟨v :: vs, ?_, .cons h2 h4⟩
        simp only [List.mapM_cons, Sem.run_bind, h1, Result.andThen_ok, h3, Sem.run_pure]

theorem results_eq (fn : Func) (tmps : Array Value) : results fn tmps = (fn.results.mapM fun r => resRun r tmps) >>= fun vs => pure (if h : vs.size = 1 then vs[0] else .tuple vs) := by
  unfold results
  have : (fun r : ResultVar => resRun r tmps) = fun r : ResultVar => (match r with
      | .tmp t => (pure (tmps.getD t undef) : Sem Value)
      | .cell a' t => (do loadVar t (← asAddr (tmps.getD a' undef)) : Sem Value)) := by
    funext r
    cases r <;> rfl
  rw [this]
  rfl
theorem results_run (fn : Func) {vs : List Value} (h : (fn.results.toList.mapM fun r => resRun r a.tmps).run P w = .ok vs w) : (results fn a.tmps).run P w = .ok (retV vs) w := by
  have hm : (fn.results.mapM fun r => resRun r a.tmps).run P w = .ok vs.toArray w := by
    rw [Array.mapM_eq_mapM_toList]
    simp [h]
  rw [results_eq, Sem.run_bind, hm]
  simp only [Result.andThen_ok, Sem.run_pure]
  congr 1
  match vs with
  | [] => rfl
  | [v] => rfl
  | v :: v' :: r => simp [retV]

theorem implodeArgs_M (H : ∀ id x, h[id]? = some x → BR w m h id x) : ∀ {tis : List TI} {ls : List LV} {vs : List Value} {x : Vals tis}, F2 (V w m h) ls vs → implodeArgs h tis ls = some x → deepOf h (ls.flatMap LV.cells) = true →
    VMs w tis x vs (fpIds m h (moved (ls.flatMap LV.cells)))
  | [], _, _, _, .nil, _, _ => ⟨rfl, rfl⟩
  | [], _, _, _, .cons _ _, hi, _ => by simp [implodeArgs] at hi
  | ti :: r, _, _, _, .nil, hi, _ => by simp [implodeArgs] at hi
  | ti :: r, _, _, x, .cons (a := l) (b := v) hv hvs, hi, hd => by
    simp only [implodeArgs] at hi
    simp only [List.flatMap_cons, deepOf, List.all_append, Bool.and_eq_true] at hd
    split at hi
    · rename_i hag
      split at hi
      · rename_i y hy
        split at hi
        · rename_i ys hys
          cases hi
          have h2 := implodeArgs_M H hvs hys hd.2
          rw [List.flatMap_cons, moved_append, fpIds_append]
          cases l with
          | tup => simp [LV.isAgg] at hag
          | one c =>
            simp only [LV.isAgg, Option.some.injEq] at hag
            obtain ⟨v1, v2, pre, hvs', hpre, hM, hr⟩ := implode_M H (F2.cons hv .nil) hy hd.1
            cases hr
            rw [List.append_nil] at hvs' hpre
            refine ⟨v, _, [v], _, _, rfl, rfl, ?_, ?_, h2⟩
            · rw [hvs', show (LV.one c).cells = pre from hpre]; exact hM
            · rw [← hag]; rfl
          | agg cs =>
            simp only [LV.isAgg, Option.some.injEq] at hag
            obtain ⟨us, rfl, hf⟩ := hv
            obtain ⟨v1, v2, pre, hvs', hpre, hM, hr⟩ := implode_M H hf hy hd.1
            cases hr
            rw [List.append_nil] at hvs' hpre
            refine ⟨.agg us, _, us.toList, _, _, rfl, rfl, ?_, ?_, h2⟩
            · rw [hvs', show (LV.agg cs).cells = pre from hpre]; exact hM
            · rw [← hag]; simp [wrapped]
        · simp at hi
      · simp at hi
    · simp at hi

theorem V1s_V {ls : List LV1} {us : List Value} (hf : F2 (V1 w m h) ls us) : F2 (V w m h) (ls.map LV1.lv) us := by
  induction hf with
  | nil => exact .nil
  | cons h1 _ ih => exact .cons (V1_V h1) ih
theorem explodes_len (n : Nat) : ∀ (tis : List TI) (x : Vals tis), (explodes n tis x).length = tis.length
  | [], _ => rfl
  | ti :: r, x => by simp [explodes, explodes_len n r x.2]
theorem VKs_len {ok : Nat → Prop} : ∀ {tis : List TI} {x : Vals tis} {us : List Value}, VKs w ok tis x us → us.length = tis.length
  | [], _, _, h => by rw [VKs] at h; rw [h]; rfl
  | ti :: r, x, _, h => by obtain ⟨u, rest, cs, rfl, _, _, h2⟩ := h; simp [VKs_len h2]

/-- A function is what its code makes of the machine. -/
theorem sound_of_wp (hT : TTok P tt) {f : FuncId} {fn : Func} {c : Code} {g : G} (hf : P.funcs[f]? = some fn) (hb : fn.body = some c) (hname : (fn.name == "runtime.NumGoroutine") = false)
    (hrun : ∀ x : Vals g.ps, g.pre x → ∀ (w0 : World) (mine : Mine) (a : Act) (w : World), (∀ id, mine.pin id = none) → R w0 mine (entry g fn.ntmps x) a w → c.wp P (liftQ w0 mine (retQ tt g fn.results.toList x)) a w) : Sound P f g := by
  refine ⟨⟨fn, hf, by rw [hb]; rfl, hname⟩, fun x hx w ext vs hvs hext => ?_⟩
  refine calls_of_wp hf hb ?_
  let mine : Mine := ⟨fun _ => False, ext, fun _ => none⟩
  let m0 : Mp := ⟨fun _ => undef, fun _ => 0, fun _ => [], ext⟩
  have H : HR w mine w m0 [] := ⟨by simp, by simp, by simp, by simp, Fr.refl _ w, rfl, fun b hb => hext b (by rcases hb with h | h; exact h; exact h.elim), fun id v h => by simp [mine] at h⟩
  have henv : F2 (V w m0 []) (entry g fn.ntmps x).env (vs ++ Array.replicate (fn.ntmps - vs.size) undef).toList := by
    have hl : vs.size = g.ps.length := by have := VKs_len hvs; simpa using this
    rw [Array.toList_append, Array.toList_replicate, hl]
    refine (V1s_V (VKs_explodes (VKs_step (fun _ _ _ => rfl) (fun b hb _ => (⟨hb, by simp⟩ : okAt m0 [] 0 b)) hvs))).append ?_
    generalize fn.ntmps - g.ps.length = k
    induction k with
    | zero => exact .nil
    | succ k ih => rw [List.replicate_succ, List.replicate_succ]; exact .cons ⟨#[], rfl, .nil⟩ ih
  have hR : R w mine (entry g fn.ntmps x) { tmps := vs ++ Array.replicate (fn.ntmps - vs.size) undef, defers := [] } w := ⟨rfl, m0, H, henv⟩
  have fin : ∀ (st : St) (a : Act) (w' : World), R w mine st a w' → ResOk tt g.dp g.rs fn.results.toList (g.fn x) st → a.defers = [] ∧ ∃ v, (results fn a.tmps).run P w' = .ok v w' ∧ (∃ us, (Ending.returned v) = .returned (retV us) ∧ Fr (fun _ => False) w w' ∧ (match g.dp with
      | true => ∃ B, VMs w' g.rs (g.fn x) us B ∧ B.Nodup ∧ ∀ b ∈ B, w.heap.size ≤ b
      | false => VKs w' ext g.rs (g.fn x) us)) := by
    intro st a w' hr h
    obtain ⟨hd, m, H', he⟩ := hr
    refine ⟨hd, ?_⟩
    unfold ResOk at h
    split at h
    · exact h.elim
    · rename_i ls hls
      obtain ⟨vs', hrun, hV⟩ := resLVs_run hT H' he hls
      refine ⟨retV vs', results_run fn hrun, vs', rfl, H'.fr, ?_⟩
      cases hdp : g.dp with
      | true =>
        obtain ⟨h1, h2⟩ := h.2 hdp
        refine ⟨_, implodeArgs_M H'.br hV h.1 h1, fpIds_nodup H' (nodupB_iff h2), fun b hb => ?_⟩
        obtain ⟨id, y, _, hy, hb'⟩ := fpIds_mem hb
        rcases (H'.lt id y hy b hb').2 with h | h
        · exact h
        · exact h.elim
      | false =>
        have hmx : m.ext = ext := H'.mx
        refine implodeArgs_K H'.br hV h.1 fun l hl c hc => ?_
        cases c with
        | sl e t xs n => exact fun b hb _ => by rw [← hmx]; exact hb.1
        | own id =>
          intro y hy
          refine ⟨fun b hb => H'.nx b (H'.lt id y hy b hb).2, ?_⟩
          cases y with
          | row e t xs dp mt k =>
            cases dp with
            | true => trivial
            | false => exact fun b hb _ => by rw [← hmx]; exact hb.1
          | _ => trivial
        | _ => trivial
  refine wp_mono (hrun x hx _ _ _ _ (fun _ => rfl) hR) fun e a w' he => ?_
  cases e with
  | normal => obtain ⟨st, hr, h⟩ := he; exact fin st a w' hr h
  | ret => obtain ⟨st, hr, h⟩ := he; exact fin st a w' hr h
  | exit id => obtain ⟨st, _, h⟩ := he; exact h.elim
  | _ => exact he.elim
/-- A function is what T makes of its code. -/
theorem sound_of (hT : TTok P tt) (hΓ : ∀ f g, Γ.get f = some g → Sound P f g) (hm : P.follows .mixedOrders = true) {f : FuncId} {fn : Func} {c : Code} {g : G} (hf : P.funcs[f]? = some fn) (hb : fn.body = some c) (hname : (fn.name == "runtime.NumGoroutine") = false) (hp : plansOk tr c = true)
    (hrun : ∀ x : Vals g.ps, g.pre x → wpT P tt Γ tr Le c (retQ tt g fn.results.toList x) (entry g fn.ntmps x)) : Sound P f g :=
  sound_of_wp hT hf hb hname fun x hx _ _ _ _ hpin hR => wpT_sound hT hΓ hm (fun s s' h a w hr => h _ _ a w hpin hr) c hp _ _ _ _ (hrun x hx) hR
end
end Go.T
/- T: the table of types, checked. -/
namespace Go.T
open Go

def cellsZ : Ty → List Value → Option (List Value)
  | .int k, .int k' n :: r => if k = k' ∧ n = 0 then some r else none
  | .bool, .bool b :: r => if b = false then some r else none
  | .str, .string s :: r => if s.data.toList.isEmpty then some r else none
  | .slice _ _, .slice none 0 0 :: r => some r
  | .pair a b, vs => match cellsZ a vs with
    | some r => cellsZ b r
    | none => none
  | _, _ => none
theorem cellsZ_spec : ∀ {t : Ty} {vs r : List Value}, cellsZ t vs = some r → vs = zvals t ++ r
  | .int k, vs, r, h => by
    unfold cellsZ at h
    split at h <;> try (simp at h; done)
    all_goals simp_all [zvals]
  | .bool, vs, r, h => by
    unfold cellsZ at h
    split at h <;> try (simp at h; done)
    all_goals simp_all [zvals]
  | .str, vs, r, h => by
    unfold cellsZ at h
    split at h <;> try (simp at h; done)
    all_goals try (rename_i heq _; cases heq; done)
    all_goals (simp_all [zvals])
    all_goals (rename_i s _; apply ByteArray.ext; simp_all)
  | .hdr, vs, r, h => by simp [cellsZ] at h
  | .slice e t, vs, r, h => by
    unfold cellsZ at h
    split at h <;> try (simp at h; done)
    all_goals simp_all [zvals]
  | .pair a b, vs, r, h => by
    simp only [cellsZ] at h
    split at h
    · rename_i r' hr
      rw [cellsZ_spec hr, cellsZ_spec h, zvals, List.append_assoc]
    · simp at h

def descCheck (P : Program) (tt : TT) (ti : TI) : TypeDesc → Bool
  | .struct fs => ti.agg && decide ((fs.toList.mapM fun (f : Field) => (P.info? f.type).map fun i => (f.offset, i.size)) = some ti.offs)
  | .array n e => ti.agg && match P.info? e, tt.get e with
    | some j, some te => j.size == te.ty.sz && ti.ty.sz == n * te.ty.sz
    | _, _ => false
  | .slice e => !ti.agg && match ti.ty with
    | .slice e' te => e' == e && match tt.get e with
      | some tie => decide (tie.ty = te)
      | none => false
    | _ => false
  | _ => !ti.agg
theorem descCheck_spec {P : Program} {tt : TT} {ti : TI} {d : TypeDesc} (h : descCheck P tt ti d = true) : DescOk P tt ti d := by
  unfold descCheck at h
  split at h
  · simp only [Bool.and_eq_true, decide_eq_true_eq] at h
    exact h
  · simp only [Bool.and_eq_true] at h
    obtain ⟨h1, h2⟩ := h
    split at h2
    · rename_i j te hj hte
      simp only [Bool.and_eq_true, beq_iff_eq] at h2
      exact ⟨h1, j, hj, te, hte, h2.1, h2.2⟩
    · simp at h2
  · simp only [Bool.and_eq_true, Bool.not_eq_true'] at h
    obtain ⟨h1, h2⟩ := h
    split at h2
    · rename_i e' te hty
      simp only [Bool.and_eq_true, beq_iff_eq] at h2
      obtain ⟨rfl, h2⟩ := h2
      split at h2
      · rename_i tie ht
        simp only [decide_eq_true_eq] at h2
        exact ⟨h1, te, tie, hty, ht, h2⟩
      · simp at h2
    · simp at h2
  · rename_i d h1 h2 h3
    simp only [Bool.not_eq_true'] at h
    cases d <;> first | (simp only [DescOk]; exact h) | exact (h1 _ rfl).elim | exact (h2 _ _ rfl).elim | exact (h3 _ rfl).elim

def infoCheck (P : Program) (t : Nat) (ti : TI) : Bool := match P.info? t with
  | some i => i.size == ti.ty.sz && decide (i.bytes ≤ 65536) && match i.zero with
    | some z => match cellsZ ti.ty z.cells.toList with
      | some [] => true
      | _ => false
    | none => false
  | none => false
def kindCheck (P : Program) (tt : TT) (t : Nat) (ti : TI) : Bool := ti.agg || (ti.ty.sz == 1 && match ti.ty with
  | .bool => match P.underlying t with
    | some .bool => true
    | _ => false
  | .str => match P.underlying t with
    | some .string => true
    | _ => false
  | .slice e te => match P.underlying t with
    | some (.slice e') => e' == e && match tt.get e with
      | some tie => decide (tie.ty = te)
      | none => false
    | _ => false
  | _ => true)
def intsCheck (P : Program) (t : Nat) (ti : TI) : Bool := !ti.ints || match P.underlying t with
  | some (.struct fs) => match fs.toList with
    | [f, g] => !P.stoodInHeld t && !P.eqGuardType P.depth t && f.offset == 0 && g.offset == 1 && !(f.name == "_") && !(g.name == "_") && match P.underlying f.type, P.underlying g.type with
      | some (.int _), some (.int _) => true
      | _, _ => false
    | _ => false
  | _ => false
def offsCheck (P : Program) (t : Nat) (ti : TI) : Bool := ti.offs.isEmpty || match P.underlying t with
  | some (.struct fs) => (List.range ti.offs.length).all fun i => match ti.offs[i]?, fs[i]? with
    | some p, some fl => fl.offset == p.1 && (match P.info? fl.type with
      | some j => j.size == p.2
      | none => false) && decide (0 < p.2) && decide (p.1 + p.2 ≤ ti.ty.sz)
    | _, _ => false
  | _ => false
def tiCheck (P : Program) (tt : TT) (t : Nat) (ti : TI) : Bool := infoCheck P t ti && (match P.underlying t with
  | some d => descCheck P tt ti d
  | none => false) && kindCheck P tt t ti && intsCheck P t ti && offsCheck P t ti
def ttCheck (P : Program) (tt : TT) : Bool := tt.all fun p => tiCheck P tt p.1 p.2

theorem TT.get_mem {tt : TT} {t : Nat} {ti : TI} (h : tt.get t = some ti) : (t, ti) ∈ tt := by
  induction tt with
  | nil => simp [TT.get] at h
  | cons p r ih =>
    obtain ⟨u, ti'⟩ := p
    simp only [TT.get] at h
    split at h
    · rename_i e; cases h; subst e; exact List.mem_cons_self
    · exact List.mem_cons_of_mem _ (ih h)

theorem tiCheck_spec {P : Program} {tt : TT} {t : Nat} {ti : TI} (h : tiCheck P tt t ti = true) : TIok P tt t ti := by
  simp only [tiCheck, Bool.and_eq_true] at h
  obtain ⟨⟨⟨⟨hinfo, hdesc⟩, hkind⟩, hints⟩, hoffs⟩ := h
  refine ⟨?_, ?_, ?_, ?_, ?_, ?_, ?_, ?_⟩
  · unfold infoCheck at hinfo
    split at hinfo
    · rename_i i hi
      simp only [Bool.and_eq_true, beq_iff_eq, decide_eq_true_eq] at hinfo
      obtain ⟨⟨h1, h2⟩, h3⟩ := hinfo
      split at h3
      · rename_i z hz
        split at h3
        · rename_i hc
          refine ⟨i, z, hi, h1, hz, ?_, h2⟩
          have := cellsZ_spec hc
          simpa using this
        · simp at h3
      · simp at h3
    · simp at hinfo
  · split at hdesc
    · rename_i d hd; exact ⟨d, hd, descCheck_spec hdesc⟩
    · simp at hdesc
  · intro ha
    simp only [kindCheck, ha, Bool.false_or, Bool.and_eq_true, beq_iff_eq] at hkind
    exact hkind.1
  · intro ha hty
    simp only [kindCheck, ha, Bool.false_or, Bool.and_eq_true, hty] at hkind
    have h2 := hkind.2
    split at h2
    · rename_i hu; exact hu
    · simp at h2
  · intro ha hty
    simp only [kindCheck, ha, Bool.false_or, Bool.and_eq_true, hty] at hkind
    have h2 := hkind.2
    split at h2
    · rename_i hu; exact hu
    · simp at h2
  · intro hi
    simp only [intsCheck, hi, Bool.not_true, Bool.false_or] at hints
    split at hints
    · rename_i fs hu
      split at hints
      · rename_i f g hfs
        simp only [Bool.and_eq_true, Bool.not_eq_true', beq_iff_eq, beq_eq_false_iff_ne] at hints
        obtain ⟨⟨⟨⟨⟨⟨h1, h2⟩, h3⟩, h4⟩, h5⟩, h6⟩, h7⟩ := hints
        split at h7
        · rename_i k l hk hl
          refine ⟨f, g, k, l, ?_, h1, h2, h3, h4, h5, h6, hk, hl⟩
          rw [hu]
          congr 2
          rw [← Array.toList_inj, hfs]
        · simp at h7
      · simp at hints
    · simp at hints
  · intro ha e te hty
    simp only [kindCheck, ha, Bool.false_or, Bool.and_eq_true, hty] at hkind
    have h2 := hkind.2
    split at h2
    · rename_i e' hu
      simp only [Bool.and_eq_true, beq_iff_eq] at h2
      obtain ⟨rfl, h3⟩ := h2
      refine ⟨hu, ?_⟩
      split at h3
      · rename_i tie ht; exact ⟨tie, ht, by simpa using h3⟩
      · simp at h3
    · simp at h2
  · intro f n i ho
    unfold offsCheck at hoffs
    have hne : ti.offs.isEmpty = false := by
      cases hof : ti.offs with
      | nil => rw [hof] at ho; simp at ho
      | cons => rfl
    rw [hne, Bool.false_or] at hoffs
    split at hoffs
    · rename_i fs hu
      have hil : i < ti.offs.length := (List.getElem?_eq_some_iff.1 ho).1
      have := List.all_eq_true.1 hoffs i (by simpa using hil)
      rw [ho] at this
      split at this
      · rename_i p fl hp hfl
        cases hp
        simp only [Bool.and_eq_true, beq_iff_eq, decide_eq_true_eq] at this
        obtain ⟨⟨⟨h1, h2⟩, h3⟩, h4⟩ := this
        split at h2
        · rename_i j hj
          exact ⟨fs, fl, hu, hfl, h1, j, hj, by simpa using h2, h3, h4⟩
        · simp at h2
      · simp at this
    · simp at hoffs
theorem ttCheck_spec {P : Program} {tt : TT} (h : ttCheck P tt = true) : TTok P tt := fun _ _ ht => tiCheck_spec (List.all_eq_true.1 h _ (TT.get_mem ht))
end Go.T
/- T: what is forgotten, what is renumbered. -/
namespace Go.T
open Go

def LC.ren (π : Nat → Option Nat) (top : Nat) : LC → LC
  | .own id => match π id with
    | some j => .own j
    | none => .undef
  | .ptr id i f => match π id with
    | some j => .ptr j i f
    | none => .undef
  | .sl e t xs _ => .sl e t xs top
  | .tptr t v f _ => .tptr t v f top
  | .int k n => .int k n
  | .bool b => .bool b
  | .str s => .str s
  | .hdr v => .hdr v
  | .nils => .nils
  | .nilp => .nilp
  | .fn f => .fn f
  | .undef => .undef
def LV.ren (π : Nat → Option Nat) (top : Nat) : LV → LV
  | .one c => .one (c.ren π top)
  | .agg cs => .agg (cs.map (LC.ren π top))
  | .tup vs => .tup (vs.map fun v => ⟨v.agg, v.cs.map (LC.ren π top)⟩)
def Blk.ren (π : Nat → Option Nat) (top : Nat) : Blk → Blk
  | .box cs => .box (cs.map (LC.ren π top))
  | .row e t xs dp mt _ => .row e t xs dp mt (bif dp then 0 else top)
  | .fra F Φ => .fra F Φ
  | .dead => .dead

def posOf : List Nat → Nat → Nat → Option Nat
  | [], _, _ => none
  | x :: r, k, id => if x = id then some k else posOf r (k + 1) id
def keepEnv (π : Nat → Option Nat) (top : Nat) : List Bool → List LV → List LV
  | _, [] => []
  | [], _ :: r => .one .undef :: keepEnv π top [] r
  | true :: ks, l :: r => l.ren π top :: keepEnv π top ks r
  | false :: ks, _ :: r => .one .undef :: keepEnv π top ks r
def St.renum (order : List Nat) (keep : List Bool) (st : St) : St := { env := keepEnv (posOf order 0) order.length keep st.env, heap := order.map fun id => (st.heap.getD id .dead).ren (posOf order 0) order.length }

/-- The rows and boxes that cells name. -/
def LC.idOf : LC → Option Nat
  | .own id => some id
  | .ptr id _ _ => some id
  | _ => none
def addIds (acc : List Nat) : List LC → List Nat
  | [] => acc
  | c :: r => match c.idOf with
    | some id => if acc.contains id then addIds acc r else addIds (acc ++ [id]) r
    | none => addIds acc r
def keptCells : List Bool → List LV → List LC
  | true :: ks, l :: r => l.cells ++ keptCells ks r
  | false :: ks, _ :: r => keptCells ks r
  | _, _ => []
def boxCellsOf (h : List Blk) (id : Nat) : List LC := match h[id]? with
  | some (Blk.box cs) => cs
  | _ => []
def boxCells (h : List Blk) (ids : List Nat) : List LC := ids.flatMap (boxCellsOf h)
def St.order (st : St) (keep : List Bool) : List Nat :=
  let a := addIds [] (keptCells keep st.env)
  addIds a (boxCells st.heap a)
def St.gc (keep : List Bool) (st : St) : St := st.renum (st.order keep) keep

theorem addIds_nodup : ∀ {cs : List LC} {acc : List Nat}, acc.Nodup → (addIds acc cs).Nodup
  | [], _, h => h
  | c :: r, acc, h => by
    simp only [addIds]
    split
    · rename_i id _
      split
      · exact addIds_nodup h
      · rename_i hn
        refine addIds_nodup ?_
        rw [List.nodup_append]
        refine ⟨h, by simp, fun x hx y hy e => hn ?_⟩
        simp at hy
        subst hy; subst e
        simpa using hx
    · exact addIds_nodup h

theorem posOf_spec : ∀ {l : List Nat} {k id j : Nat}, posOf l k id = some j → k ≤ j ∧ l[j - k]? = some id
  | x :: r, k, id, j, h => by
    simp only [posOf] at h
    split at h
    · rename_i e; cases h; subst e; simp
    · obtain ⟨h1, h2⟩ := posOf_spec h
      refine ⟨by omega, ?_⟩
      rw [show j - k = (j - (k + 1)) + 1 by omega]
      simpa using h2

section
variable {w0 w : World} {mine : Mine} {m : Mp} {h : List Blk} {order : List Nat}

def Mp.ren (m : Mp) (order : List Nat) : Mp := { m with val := fun j => m.val (order.getD j 0), blk := fun j => m.blk (order.getD j 0), nst := fun j => m.nst (order.getD j 0) }
def renH (h : List Blk) (order : List Nat) : List Blk := order.map fun id => (h.getD id .dead).ren (posOf order 0) order.length

theorem renH_get {j : Nat} {y : Blk} (hy : (renH h order)[j]? = some y) : ∃ id, order[j]? = some id ∧ order.getD j 0 = id ∧ j < order.length ∧ y = (h.getD id .dead).ren (posOf order 0) order.length := by
  simp only [renH, List.getElem?_map] at hy
  cases ho : order[j]? with
  | none => rw [ho] at hy; simp at hy
  | some id =>
    rw [ho] at hy
    simp at hy
    exact ⟨id, rfl, by simp [ho], (List.getElem?_eq_some_iff.1 ho).1, by rw [← hy]; simp⟩
theorem renH_at {j id : Nat} {x : Blk} (hp : posOf order 0 id = some j) (hx : h[id]? = some x) : (renH h order)[j]? = some (x.ren (posOf order 0) order.length) ∧ order.getD j 0 = id := by
  obtain ⟨_, h2⟩ := posOf_spec hp
  simp only [Nat.sub_zero] at h2
  refine ⟨?_, by simp [h2]⟩
  simp only [renH, List.getElem?_map, h2, Option.map_some, List.getD, hx, Option.getD_some]

theorem ren_ok {n b : Nat} (hb : okAt m h n b) : okAt (m.ren order) (renH h order) order.length b := by
  refine ⟨hb.1, fun j y hy => ?_⟩
  obtain ⟨id, ho, hg, hj, rfl⟩ := renH_get hy
  cases hx : h[id]? with
  | none => simp only [List.getD, hx, Option.getD_none, Blk.ren]; trivial
  | some x =>
    have := hb.2 id x hx
    simp only [List.getD, hx, Option.getD_some]
    cases x with
    | dead => trivial
    | fra F Φ => exact this
    | box cs => simp only [Blk.ren, okB, Mp.ren, hg]; exact this
    | row e t xs dp mt k =>
      refine ⟨fun hm => ?_, fun hd hle => ?_⟩
      · have h1 := this.1 (.inl (hm.resolve_right (by omega)))
        simp only [Mp.ren, hg]; exact h1
      · subst hd
        simp at hle
        rw [hle] at hj
        simp at hj

theorem ren_C : ∀ {c : LC} {v : Value}, C w m h c v → C w (m.ren order) (renH h order) (c.ren (posOf order 0) order.length) v
  | .int _ _, _, hc | .bool _, _, hc | .str _, _, hc | .hdr _, _, hc | .nils, _, hc | .nilp, _, hc | .fn _, _, hc => hc
  | .undef, _, _ => trivial
  | .sl e t xs n, v, hc => by
    obtain ⟨A, c, he, hl, hr⟩ := hc
    exact ⟨A, c, he, hl, Rd_step (fun _ _ _ => rfl) (fun b hb _ => ren_ok hb) hr⟩
  | .tptr t x f n, v, hc => by
    obtain ⟨a, cs, he, hk, hat, hb⟩ := hc
    exact ⟨a, cs, he, K_step (fun _ _ _ => rfl) (fun b hb _ => ren_ok hb) hk, hat, ren_ok hb⟩
  | .own id, v, hc => by
    simp only [LC.ren]
    cases hp : posOf order 0 id with
    | none => trivial
    | some j =>
      simp only [C] at hc ⊢
      cases hx : h[id]? with
      | none => rw [hx] at hc; exact hc.elim
      | some x =>
        obtain ⟨h1, h2⟩ := renH_at hp hx
        rw [hx] at hc
        rw [h1]
        cases x with
        | box => exact hc.elim
        | fra => exact hc.elim
        | dead => exact hc
        | row e t xs dp mt k => simp only [Blk.ren, Mp.ren, h2]; exact hc
  | .ptr id i f, v, hc => by
    simp only [LC.ren]
    cases hp : posOf order 0 id with
    | none => trivial
    | some j =>
      simp only [C] at hc ⊢
      cases hx : h[id]? with
      | none => rw [hx] at hc; exact hc.elim
      | some x =>
        obtain ⟨h1, h2⟩ := renH_at hp hx
        rw [hx] at hc
        rw [h1]
        cases x with
        | box => simp only [Blk.ren, Mp.ren, h2]; exact hc
        | fra => exact hc.elim
        | dead => exact hc
        | row e t xs dp mt k => simp only [Blk.ren, Mp.ren, h2]; exact hc

theorem ren_F2 {cs : List LC} {vs : List Value} (hf : F2 (C w m h) cs vs) : F2 (C w (m.ren order) (renH h order)) (cs.map (LC.ren (posOf order 0) order.length)) vs := by
  induction hf with
  | nil => exact .nil
  | cons h1 _ ih => exact .cons (ren_C h1) ih
theorem ren_V : ∀ {l : LV} {v : Value}, V w m h l v → V w (m.ren order) (renH h order) (l.ren (posOf order 0) order.length) v
  | .one c, v, hv => ren_C (c := c) hv
  | .agg cs, v, hv => by obtain ⟨vs, he, hf⟩ := hv; exact ⟨vs, he, ren_F2 hf⟩
  | .tup ls, v, hv => by
    obtain ⟨vs, he, hf⟩ := hv
    refine ⟨vs, he, ?_⟩
    clear he
    generalize vs.toList = us at hf
    induction hf with
    | nil => exact .nil
    | cons h1 _ ih =>
      refine .cons ?_ ih
      unfold V1 at h1 ⊢
      split at h1
      · rename_i e; simp only [e]; obtain ⟨vs, he, hf⟩ := h1; exact ⟨vs, he, ren_F2 hf⟩
      · rename_i e; simp only [e]; obtain ⟨c, he, hc, h2⟩ := h1; exact ⟨_, by rw [he]; rfl, ren_C hc, h2⟩

theorem ren_HR (hn : order.Nodup) (hpin : ∀ id, mine.pin id = none) (H : HR w0 mine w m h) : HR w0 mine w (m.ren order) (renH h order) := by
  have back : ∀ j y, (renH h order)[j]? = some y → (∃ id x, order[j]? = some id ∧ order.getD j 0 = id ∧ h[id]? = some x ∧ y = x.ren (posOf order 0) order.length) ∨ y = .dead := fun j y hy => by
    obtain ⟨id, ho, hg, hj, rfl⟩ := renH_get hy
    cases hx : h[id]? with
    | none => right; simp only [List.getD, hx, Option.getD_none, Blk.ren]
    | some x => left; exact ⟨id, x, ho, hg, hx, by simp only [List.getD, hx, Option.getD_some]⟩
  have fp : ∀ j id x, order.getD j 0 = id → fpB (m.ren order) j (x.ren (posOf order 0) order.length) = fpB m id x := fun j id x hg => by
    cases x <;> simp only [Blk.ren, fpB, Mp.ren, hg]
  refine ⟨fun j y hy => ?_, fun j y hy => ?_, fun j y j' y' hne hy hy' b hb hb' => ?_, fun j y hy b hb => ?_, H.fr, H.mx, H.nx, fun id v hp => by rw [hpin id] at hp; simp at hp⟩
  · rcases back j y hy with ⟨id, x, ho, hg, hx, rfl⟩ | rfl
    · have := H.br id x hx
      cases x with
      | dead => trivial
      | fra F Φ => exact this
      | box cs =>
        obtain ⟨arr, ty, h1, h2, h3⟩ := this
        exact ⟨arr, ty, by simp only [Mp.ren, hg]; exact h1, ren_F2 h2, h3⟩
      | row e t xs dp mt k =>
        obtain ⟨inner, h1, h2⟩ := this
        refine ⟨inner, by simp only [Mp.ren, hg]; exact h1, ?_⟩
        cases dp with
        | true => simp only [Mp.ren, hg] at h2 ⊢; exact ⟨h2.1, Nat.zero_le _⟩
        | false => exact h2.imp fun x c hk => K_step (fun _ _ _ => rfl) (fun b hb _ => ren_ok hb) hk
    · trivial
  · rcases back j y hy with ⟨id, x, ho, hg, hx, rfl⟩ | rfl
    · rw [fp j id x hg]; exact H.nd id x hx
    · exact List.nodup_nil
  · rcases back j y hy with ⟨id, x, ho, hg, hx, rfl⟩ | rfl
    · rcases back j' y' hy' with ⟨id', x', ho', hg', hx', rfl⟩ | rfl
      · rw [fp j id x hg] at hb
        rw [fp j' id' x' hg'] at hb'
        refine H.dj id x id' x' (fun e => hne ?_) hx hx' b hb hb'
        subst e
        have h1 := (List.getElem?_eq_some_iff.1 ho)
        have h2 := (List.getElem?_eq_some_iff.1 ho')
        exact (List.getElem_inj hn).1 (h1.2.trans h2.2.symm)
      · simp [fpB] at hb'
    · simp [fpB] at hb
  · rcases back j y hy with ⟨id, x, ho, hg, hx, rfl⟩ | rfl
    · rw [fp j id x hg] at hb; exact H.lt id x hx b hb
    · simp [fpB] at hb

theorem keep_F2 {ks : List Bool} : ∀ {env : List LV} {vs : List Value}, F2 (V w m h) env vs → F2 (V w (m.ren order) (renH h order)) (keepEnv (posOf order 0) order.length ks env) vs := by
  intro env vs hf
  induction hf generalizing ks with
  | nil => cases ks with
    | nil => exact .nil
    | cons k ks => cases k <;> exact .nil
  | cons h1 _ ih => cases ks with
    | nil => exact .cons trivial ih
    | cons k ks => cases k with
      | true => exact .cons (ren_V h1) ih
      | false => exact .cons trivial ih

theorem Le.renum {st : St} (keep : List Bool) (hn : order.Nodup) : Le st (st.renum order keep) := fun w0 mine a w hp hr => by
  obtain ⟨hd, m, H, he⟩ := hr
  exact ⟨hd, m.ren order, ren_HR hn hp H, keep_F2 he⟩
theorem Le.gc (st : St) (keep : List Bool) : Le st (st.gc keep) := Le.renum keep (addIds_nodup (addIds_nodup List.nodup_nil))
def forgetEnv : List Bool → List LV → List LV
  | _, [] => []
  | [], _ :: r => .one .undef :: forgetEnv [] r
  | true :: ks, l :: r => l :: forgetEnv ks r
  | false :: ks, _ :: r => .one .undef :: forgetEnv ks r
def St.forget (keep : List Bool) (st : St) : St := { env := forgetEnv keep st.env, heap := st.heap }
theorem forget_F2 {ks : List Bool} : ∀ {env : List LV} {vs : List Value}, F2 (V w m h) env vs → F2 (V w m h) (forgetEnv ks env) vs := by
  intro env vs hf
  induction hf generalizing ks with
  | nil => cases ks with
    | nil => exact .nil
    | cons k ks => cases k <;> exact .nil
  | cons h1 _ ih => cases ks with
    | nil => exact .cons trivial ih
    | cons k ks => cases k with
      | true => exact .cons h1 ih
      | false => exact .cons trivial ih
theorem LeP.of_forget {st st' : St} (keep : List Bool) (h : st.forget keep = st') : LeP st st' := h ▸ fun w0 mine a w hr => by
  obtain ⟨hd, m, H, he⟩ := hr
  exact ⟨hd, m, H, forget_F2 he⟩
theorem Le.of_gc {st st' : St} (keep : List Bool) (h : st.gc keep = st') : Le st st' := h ▸ Le.gc st keep
end
end Go.T
/- T: running by rewriting: lemmas at states that are written out. -/
namespace Go.T
open Go

section
variable {P : Program} {tt : TT} {Γ : Gam} {tr : Nat → Tree} {L : St → St → Prop} {Q : X → St → Prop} {e : List LV} {h : List Blk}
@[simp] theorem wp_skip' : wpT P tt Γ tr L .skip Q ⟨e, h⟩ = Q .normal ⟨e, h⟩ := rfl
@[simp] theorem wp_region' {id : Nat} {ops : List Oper} : wpT P tt Γ tr L (.region id ⟨ops⟩ false) Q ⟨e, h⟩ = regionW P tt Γ ⟨ops⟩ ops ⟨e, h⟩ (Q .normal) := rfl
@[simp] theorem wp_regionD' {id : Nat} {ops : Array Oper} : wpT P tt Γ tr L (.region id ops true) Q ⟨e, h⟩ = treeW tt Γ ops (tr id) ⟨e, h⟩ (Q .normal) := rfl
@[simp] theorem wp_seq' {a b : Code} : wpT P tt Γ tr L (.seq a b) Q ⟨e, h⟩ = wpT P tt Γ tr L a (seqQ (wpT P tt Γ tr L b Q) Q) ⟨e, h⟩ := rfl
@[simp] theorem wp_cond' {c : Operand} {x y : Code} : wpT P tt Γ tr L (.cond c x y) Q ⟨e, h⟩ = condW c ⟨e, h⟩ (wpT P tt Γ tr L x Q) (wpT P tt Γ tr L y Q) := rfl
@[simp] theorem wp_block' {id : Nat} {c : Code} : wpT P tt Γ tr L (.block id c) Q ⟨e, h⟩ = wpT P tt Γ tr L c (blockQ id Q) ⟨e, h⟩ := rfl
@[simp] theorem wp_loop' {c : Code} : wpT P tt Γ tr L (.loop c) Q ⟨e, h⟩ = loopW L (wpT P tt Γ tr L c) Q ⟨e, h⟩ := rfl
@[simp] theorem wp_exit' {id : Nat} : wpT P tt Γ tr L (.exit id) Q ⟨e, h⟩ = Q (.exit id) ⟨e, h⟩ := rfl
@[simp] theorem wp_ret' : wpT P tt Γ tr L .ret Q ⟨e, h⟩ = Q .ret ⟨e, h⟩ := rfl

variable {ops : Array Oper} {k : St → Prop}
@[simp] theorem region_nil' : regionW P tt Γ ops [] ⟨e, h⟩ k = k ⟨e, h⟩ := rfl
@[simp] theorem region_cons' {d : Option Tmp} {op : Op} {ty : TypeId} {pos : String} {aft : Array Edge} {os : List Oper} : regionW P tt Γ ops (⟨d, op, ty, pos, aft, none⟩ :: os) ⟨e, h⟩ k = opW P tt Γ ⟨d, op, ty, pos, aft, none⟩ ⟨e, h⟩ fun st => regionW P tt Γ ops os st k := rfl
@[simp] theorem region_guard' {d : Option Tmp} {op : Op} {ty : TypeId} {pos : String} {aft : Array Edge} {g : Nat × Bool} {os : List Oper} : regionW P tt Γ ops (⟨d, op, ty, pos, aft, some g⟩ :: os) ⟨e, h⟩ k = guardW ops ⟨d, op, ty, pos, aft, some g⟩ ⟨e, h⟩ (fun st => opW P tt Γ ⟨d, op, ty, pos, aft, some g⟩ st fun st => regionW P tt Γ ops os st k) (fun st => regionW P tt Γ ops os (st.put d (.tup [])) k) := rfl
@[simp] theorem seqQ_normal {k : St → Prop} {st : St} : seqQ k Q .normal st = k st := rfl
@[simp] theorem seqQ_ret {k : St → Prop} {st : St} : seqQ k Q .ret st = Q .ret st := rfl
@[simp] theorem seqQ_exit {k : St → Prop} {st : St} {id : Nat} : seqQ k Q (.exit id) st = Q (.exit id) st := rfl
@[simp] theorem blockQ_normal {id : Nat} {st : St} : blockQ id Q .normal st = Q .normal st := rfl
@[simp] theorem blockQ_ret {id : Nat} {st : St} : blockQ id Q .ret st = Q .ret st := rfl
@[simp] theorem blockQ_exit {id j : Nat} {st : St} : blockQ id Q (.exit j) st = if j = id then Q .normal st else Q (.exit j) st := rfl
/-- The continuation behind a normal end, as it stands applied to nothing yet. -/
@[simp] theorem seqQ_eta {k : St → Prop} : seqQ k Q .normal = k := rfl
@[simp] theorem blockQ_eta {id : Nat} : blockQ id Q .normal = Q .normal := rfl

@[simp] theorem opW' {P : Program} {tt : TT} {Γ : Gam} {e : List LV} {h : List Blk} {o : Oper} {k : St → Prop} : opW P tt Γ o ⟨e, h⟩ k = (match stepAll tt Γ o ⟨e, h⟩ with
  | some (p, st') => p ∧ k st'
  | none => callW P o ⟨e, h⟩ k) := rfl
@[simp] theorem condW' {c : Operand} {e : List LV} {h : List Blk} {x y : St → Prop} : condW c ⟨e, h⟩ x y = (match (St.mk e h).ev c with
  | .one (.bool b) => (b = true → x ((St.mk e h).litO c true)) ∧ (b = false → y ((St.mk e h).litO c false))
  | _ => False) := rfl
@[simp] theorem val_eta {a b : Ty} (p : Val (.pair a b)) : (Prod.mk (α := Val a) (β := Val b) (Prod.fst (α := Val a) (β := Val b) p) (Prod.snd (α := Val a) (β := Val b) p)) = p := by cases p; rfl
@[simp] theorem ev_tmp {e : List LV} {h : List Blk} {t : Nat} : (St.mk e h).ev (.tmp t) = e.getD t (.one .undef) := rfl
@[simp] theorem ev_const {e : List LV} {h : List Blk} {v : Value} : (St.mk e h).ev (.const v) = valOf v := rfl
@[simp] theorem ev_func {e : List LV} {h : List Blk} {f : Nat} : (St.mk e h).ev (.func f) = .one (.fn f) := rfl
@[simp] theorem put_some {e : List LV} {h : List Blk} {t : Nat} {v : LV} : (St.mk e h).put (some t) v = ⟨e.set t v, h⟩ := rfl
@[simp] theorem put_none {e : List LV} {h : List Blk} {v : LV} : (St.mk e h).put none v = ⟨e, h⟩ := rfl
@[simp] theorem go_lit {e : List LV} {h : List Blk} {d : Option Tmp} {c : LC} : (St.mk e h).go d c = some (True, (St.mk e h).put d (.one c)) := rfl
@[simp] theorem new_some {e : List LV} {h : List Blk} {t : Nat} {b : Blk} {c : LC} : (St.mk e h).new (some t) b c = ⟨e.set t (.one c), h ++ [b]⟩ := rfl
@[simp] theorem new_none {e : List LV} {h : List Blk} {b : Blk} {c : LC} : (St.mk e h).new none b c = ⟨e, h ++ [b]⟩ := rfl
@[simp] theorem res_some {e : List LV} {h h' : List Blk} {t : Nat} {l : LV} : (St.mk e h).res (some t) l h' = ⟨e.set t l, h'⟩ := rfl
@[simp] theorem res_none {e : List LV} {h h' : List Blk} {l : LV} : (St.mk e h).res none l h' = ⟨e, h'⟩ := rfl
@[simp] theorem lit_lit {e : List LV} {h : List Blk} {t : Nat} {b : Bool} : (St.mk e h).lit t b = ⟨e.set t (.one (.bool b)), h⟩ := rfl
@[simp] theorem litO_tmp {e : List LV} {h : List Blk} {t : Nat} {b : Bool} : (St.mk e h).litO (.tmp t) b = ⟨e.set t (.one (.bool b)), h⟩ := rfl
@[simp] theorem litO_const {e : List LV} {h : List Blk} {v : Value} {b : Bool} : (St.mk e h).litO (.const v) b = ⟨e, h⟩ := rfl
attribute [simp] TI.row stepMM bndOf stepSlice stepAll stepOp valOf toLV LV.cells LV1.lv stepBin stepUn stepLoad stepStore stepField stepIndexAddr stepIndex stepAppend lenOf binI binS dstOf srcOf newRow fillT
  explode explodes zeros implode implodes implodeArgs setV LC.movedId deepOf LC.deep kill freeze Blk.froze los lo nodupB Ty.flat Ty.sz LC.isDef LV.isAgg guardW entry retQ ResOk resLVs resLV stepCall Gam.get explodeOwn explodeOwns retLV
  St.gc St.order St.renum keptCells addIds boxCells boxCellsOf keepEnv LV.ren LC.ren LC.idOf Blk.ren posOf treeW stepL actT rdFree opRd LV.rd List.replicate
end
end Go.T
/- T: what comes in as an argument. -/
namespace Go.T
open Go Go.WideShapes

/-- What holds of every value that comes in: lengths, ranges. -/
def Sm : (t : Ty) → Val t → Prop
  | .int k, n => (Lit.int k n).wf = true
  | .bool, _ => True
  | .str, s => s.size ≤ maxLen
  | .hdr, _ => True
  | .slice _ t, xs => xs.length ≤ maxLen ∧ ∀ x ∈ xs, Sm t x
  | .pair a b, v => Sm a v.1 ∧ Sm b v.2

mutual
/-- How a type's values are told, out of the program's types. -/
def tyOf (P : Program) : Nat → TypeId → Option Ty
  | 0, _ => none
  | n + 1, t => match P.underlying t with
    | some (.int k) => some (.int k)
    | some .bool => some .bool
    | some .string => some .str
    | some (.slice e) => match tyOf P n e with
      | some te => if P.cellsOf e = te.sz then some (.slice e te) else none
      | none => none
    | some (.struct fs) => match fieldsTy P n 0 fs.toList with
      | some ty => if P.cellsOf t = ty.sz then some ty else none
      | none => none
    | _ => none
def fieldsTy (P : Program) : Nat → Nat → List Field → Option Ty
  | 0, _, _ => none
  | n + 1, off, fs => match fs with
    | [] => none
    | [f] => match tyOf P n f.type with
      | some a => if f.offset = off ∧ P.cellsOf f.type = a.sz then some a else none
      | none => none
    | f :: g :: r => match tyOf P n f.type with
      | some a => if f.offset = off ∧ P.cellsOf f.type = a.sz then match fieldsTy P n (off + a.sz) (g :: r) with
        | some b => some (.pair a b)
        | none => none
        else none
      | none => none
end

theorem cells_At {w : World} {a : Addr} {n : Nat} {cs : List Value} (h : w.cells? 0 a n = some cs) : cs.length = n ∧ At w a cs := by
  unfold World.cells? at h
  simp only [Nat.zero_le, if_true] at h
  have hl := mapM_some_length h
  refine ⟨by simpa using hl, fun j u hu => ?_⟩
  have hj : j < n := by
    have := (List.getElem?_eq_some_iff.1 hu).1
    simp at hl; omega
  have := mapM_some_get h j j (by simp [hj])
  rw [this, hu]

theorem list_of {α : Type} {Q : Nat → α → Prop} : ∀ n : Nat, (∀ i, i < n → ∃ x, Q i x) → ∃ xs : List α, xs.length = n ∧ ∀ i x, xs[i]? = some x → Q i x
  | 0, _ => ⟨[], rfl, fun i x h => by simp at h⟩
  | n + 1, h => by
    obtain ⟨xs, hl, hx⟩ := list_of n fun i hi => h i (by omega)
    obtain ⟨y, hy⟩ := h n (by omega)
    refine ⟨xs ++ [y], by simp [hl], fun i x hi => ?_⟩
    by_cases e : i < n
    · rw [List.getElem?_append_left (by omega)] at hi; exact hx i x hi
    · rw [List.getElem?_append_right (by omega)] at hi
      have : i = n := by
        rcases Nat.lt_or_ge n i with h' | h'
        · rw [List.getElem?_eq_none (by simp; omega)] at hi; cases hi
        · omega
      subst this
      simp [hl] at hi
      subst hi; exact hy

section
variable {H : Type} {enc : TypeId × Value → H} {P : Program} {w : World} {spare : Nat → Bool} {held : Bool}

mutual
theorem trod_K : ∀ (n : Nat) {fuel : Nat} {t : TypeId} {ty : Ty} {cs : List Value} {x : DataW H × List MemPlace}, tyOf P n t = some ty → DataW.trod enc P w 0 spare held fuel t cs = some x → ∃ v : Val ty, K w (fun _ => True) ty v cs ∧ Sm ty v
  | 0, _, _, _, _, _, h, _ => by simp [tyOf] at h
  | n + 1, fuel, t, ty, cs, x, h, hx => by
    unfold tyOf at h
    split at h
    · rename_i k hu
      cases h
      obtain ⟨m, rfl, _, hw⟩ := DataW.trod_int hu hx
      exact ⟨m, by rw [K], hw⟩
    · rename_i hu
      cases h
      obtain ⟨b, rfl, _⟩ := DataW.trod_bool hu hx
      exact ⟨(b : Bool), by rw [K], trivial⟩
    · rename_i hu
      cases h
      obtain ⟨s, rfl, _, hs⟩ := DataW.trod_string hu hx
      exact ⟨(s : ByteArray), by rw [K], hs⟩
    · rename_i e hu
      split at h
      · rename_i te hte
        split at h
        · rename_i hsz
          cases h
          rcases DataW.trod_slice hu hx with ⟨rfl, _⟩ | ⟨a, len, cap, elems, rest, m, _, rfl, _, _, h1, h2, h3, h4, _⟩
          · refine ⟨([] : List (Val te)), ?_, ?_⟩
            · rw [K]; exact ⟨none, 0, rfl, Nat.le_refl _, fun i x h => by simp at h⟩
            · exact ⟨by simp, by simp⟩
          · obtain ⟨xs, hxl, hxs⟩ := list_of (Q := fun i (v : Val te) => (∃ cs, K w (fun _ => True) te v cs ∧ At w (a.add (i * te.sz)) cs) ∧ Sm te v) len fun i hi => by
              have hg := h4 i hi
              have : i < elems.length := by omega
              rw [List.getElem?_eq_getElem this, hsz] at hg
              simp only [Option.bind_eq_some_iff] at hg
              obtain ⟨cs', hc, ht⟩ := hg
              obtain ⟨_, hat⟩ := cells_At hc
              obtain ⟨v, hv, hs⟩ := trod_K n hte ht
              exact ⟨v, ⟨cs', hv, hat⟩, hs⟩
            refine ⟨xs, ?_, ?_⟩
            · rw [K]
              exact ⟨some a, cap, by rw [hxl], by omega, fun i x hi => by
                obtain ⟨⟨cs', hv, hat⟩, _⟩ := hxs i x hi
                exact ⟨a, cs', rfl, trivial, hv, hat⟩⟩
            · refine ⟨by omega, fun y hy => ?_⟩
              obtain ⟨i, hi⟩ := List.getElem?_of_mem hy
              exact (hxs i y hi).2
        · simp at h
      · simp at h
    · rename_i fs hu
      split at h
      · rename_i ty' hty
        split at h
        · rename_i hsz
          cases h
          obtain ⟨ys, m, _, _, hl, hyl, hf⟩ := DataW.trod_struct hu hx
          obtain ⟨v, hk, hs⟩ := fields_K (cs := cs) n hty (fun f hm => by
            obtain ⟨i, hi⟩ := List.getElem?_of_mem hm
            have hi' : fs[i]? = some f := by rw [← Array.getElem?_toList]; exact hi
            have := hf i f hi'
            have hil : i < ys.length := by rw [hyl]; exact (Array.getElem?_eq_some_iff.1 hi').1
            rw [List.getElem?_eq_getElem hil] at this
            exact ⟨_, this⟩)
          refine ⟨v, ?_, hs⟩
          have : (cs.drop 0).take ty.sz = cs := by rw [List.drop_zero, List.take_of_length_le (by omega)]
          rw [← this]; exact hk
        · simp at h
      · simp at h
    · simp at h
theorem fields_K : ∀ (n : Nat) {fuel off : Nat} {fs : List Field} {ty : Ty} {cs : List Value}, fieldsTy P n off fs = some ty → (∀ f ∈ fs, ∃ y, DataW.trod enc P w 0 spare held fuel f.type ((cs.drop f.offset).take (P.cellsOf f.type)) = some y) →
    ∃ v : Val ty, K w (fun _ => True) ty v ((cs.drop off).take ty.sz) ∧ Sm ty v
  | 0, _, _, _, _, _, h, _ => by simp [fieldsTy] at h
  | n + 1, fuel, off, [], ty, cs, h, _ => by simp [fieldsTy] at h
  | n + 1, fuel, off, [f], ty, cs, h, hm => by
    simp only [fieldsTy] at h
    split at h
    · rename_i a ha
      split at h
      · rename_i hc
        cases h
        obtain ⟨y, hy⟩ := hm f (by simp)
        rw [hc.1, hc.2] at hy
        exact trod_K n ha hy
      · simp at h
    · simp at h
  | n + 1, fuel, off, f :: g :: r, ty, cs, h, hm => by
    simp only [fieldsTy] at h
    split at h
    · rename_i a ha
      split at h
      · rename_i hc
        split at h
        · rename_i b hb
          cases h
          obtain ⟨y, hy⟩ := hm f (by simp)
          rw [hc.1, hc.2] at hy
          obtain ⟨v1, hk1, hs1⟩ := trod_K n ha hy
          obtain ⟨v2, hk2, hs2⟩ := fields_K (cs := cs) n hb fun f hf => hm f (List.mem_cons_of_mem _ hf)
          refine ⟨((v1, v2) : Val a × Val b), ?_, hs1, hs2⟩
          rw [K]
          refine ⟨_, _, ?_, hk1, hk2⟩
          rw [Ty.sz, ← List.drop_drop, List.take_add]
        · simp at h
      · simp at h
    · simp at h
end

/-- An argument's whole. -/
def Sms : (tis : List TI) → Vals tis → Prop
  | [], _ => True
  | ti :: r, x => Sm ti.ty x.1 ∧ Sms r x.2

def aggOf (P : Program) (t : TypeId) : Bool := match P.underlying t with
  | some (.struct _) => true
  | _ => false

theorem arg_K {base n : Nat} {r : Reach} {t : TypeId} {ti : TI} {v : Value} {d : DataW H} {p : List MemPlace} (hty : tyOf P n t = some ti.ty) (hag : aggOf P t = ti.agg) (hv : Value.okWide P w r base t v) (h : DataW.Trod enc P w 0 spare held t v d p) :
    ∃ x : Val ti.ty, ∃ cs, K w (fun _ => True) ti.ty x cs ∧ wrapped ti.agg cs v ∧ Sm ti.ty x := by
  obtain ⟨fuel, hf⟩ := h
  obtain ⟨x, hk, hs⟩ := trod_K n hty hf
  refine ⟨x, _, hk, ?_, hs⟩
  rw [← hag]
  unfold aggOf
  cases n with
  | zero => simp [tyOf] at hty
  | succ n =>
    unfold tyOf at hty
    split at hty
    · rename_i k hu
      rw [hu]
      simp only [wrapped]
      obtain ⟨m, hc, _⟩ := DataW.trod_int hu hf
      simp only [Value.okWide, hu, Cell.okWide] at hv
      cases v <;> simp_all [Cell.ok, Value.cells]
    · rename_i hu
      rw [hu]
      simp only [wrapped]
      simp only [Value.okWide, hu, Cell.okWide] at hv
      cases v <;> simp_all [Cell.ok, Value.cells]
    · rename_i hu
      rw [hu]
      simp only [wrapped]
      obtain ⟨s, rfl⟩ := okWide_string hu hv
      simp [Value.cells]
    · rename_i e hu
      rw [hu]
      simp only [wrapped]
      obtain ⟨a, l, c, rfl⟩ := okWide_slice hu hv
      simp [Value.cells]
    · rename_i fs hu
      rw [hu]
      simp only [wrapped]
      obtain ⟨cs, rfl, _⟩ := okWide_struct hu hv
      simp [Value.cells]
    · simp at hty
end
end Go.T
/- T: sizes, equality, bounds of values. -/
namespace Go.T
open Go

def szL {α : Type} (f : α → Int → Int) : List α → Int → Int
  | [], n => n
  | x :: r, n => if f x n < 0 then -1 else szL f r (f x n)
/-- What is left of n behind a value's parts. -/
def szV : (t : Ty) → Val t → Int → Int
  | .int _, _, n => n
  | .bool, _, n => n
  | .str, s, n => if n - s.size < 0 then -1 else n - s.size
  | .hdr, _, n => n
  | .slice _ t, xs, n => if n - xs.length < 0 then -1 else szL (szV t) xs (n - xs.length)
  | .pair a b, v, n => if szV a v.1 n < 0 then -1 else szV b v.2 (szV a v.1 n)
def Bd : (t : Ty) → Val t → Prop
  | .int _, _ => True
  | .bool, _ => True
  | .str, s => s.size ≤ 1048576
  | .hdr, _ => True
  | .slice _ t, xs => xs.length ≤ 1048576 ∧ ∀ x ∈ xs, Bd t x
  | .pair a b, v => Bd a v.1 ∧ Bd b v.2

theorem szL_le {α : Type} {f : α → Int → Int} (hf : ∀ x n, 0 ≤ n → f x n ≤ n ∧ (f x n < 0 → f x n = -1)) : ∀ (xs : List α) (n : Int), 0 ≤ n → szL f xs n ≤ n ∧ (szL f xs n < 0 → szL f xs n = -1)
  | [], n, h => ⟨Int.le_refl _, fun h' => by simp only [szL] at h' ⊢; omega⟩
  | x :: r, n, h => by
    have h1 := hf x n h
    simp only [szL]
    split
    · exact ⟨by omega, fun _ => rfl⟩
    · have := szL_le hf r (f x n) (by omega)
      exact ⟨by omega, this.2⟩
theorem szV_le : ∀ (t : Ty) (x : Val t) (n : Int), 0 ≤ n → szV t x n ≤ n ∧ (szV t x n < 0 → szV t x n = -1)
  | .int _, _, n, h => ⟨Int.le_refl _, fun h' => by simp only [szV] at h' ⊢; omega⟩
  | .bool, _, n, h => ⟨Int.le_refl _, fun h' => by simp only [szV] at h' ⊢; omega⟩
  | .str, s, n, h => by simp only [szV]; split <;> omega
  | .hdr, _, n, h => ⟨Int.le_refl _, fun h' => by simp only [szV] at h' ⊢; omega⟩
  | .slice _ t, xs, n, h => by
    simp only [szV]
    split
    · exact ⟨by omega, fun _ => rfl⟩
    · have := szL_le (f := szV t) (fun x n h => szV_le t x n h) xs (n - xs.length) (by omega)
      exact ⟨by omega, this.2⟩
  | .pair a b, v, n, h => by
    simp only [szV]
    have h1 := szV_le a v.1 n h
    split
    · exact ⟨by omega, fun _ => rfl⟩
    · have := szV_le b v.2 (szV a v.1 n) (by omega)
      exact ⟨by omega, this.2⟩

theorem szL_mem {α : Type} {f : α → Int → Int} {B : α → Prop} (hf : ∀ x n, 0 ≤ n → n ≤ 1048576 → 0 ≤ f x n → f x n ≤ n ∧ B x) : ∀ (xs : List α) (n : Int), 0 ≤ n → n ≤ 1048576 → 0 ≤ szL f xs n → ∀ x ∈ xs, B x
  | [], _, _, _, _ => by simp
  | x :: r, n, h0, h1, h => by
    simp only [szL] at h
    split at h
    · omega
    · rename_i hx
      have := hf x n h0 h1 (by omega)
      intro y hy
      rcases List.mem_cons.1 hy with rfl | hy
      · exact this.2
      · exact szL_mem hf r (f x n) (by omega) (by omega) h y hy
theorem szV_Bd : ∀ (t : Ty) (x : Val t) (n : Int), 0 ≤ n → n ≤ 1048576 → 0 ≤ szV t x n → Bd t x
  | .int _, _, _, _, _, _ => trivial
  | .bool, _, _, _, _, _ => trivial
  | .hdr, _, _, _, _, _ => trivial
  | .str, s, n, h0, h1, h => by
    simp only [szV] at h
    split at h
    · omega
    · simp only [Bd]; omega
  | .slice _ t, xs, n, h0, h1, h => by
    simp only [szV] at h
    split at h
    · omega
    · refine ⟨by omega, ?_⟩
      exact szL_mem (f := szV t) (fun x n h0 h1 h => ⟨(szV_le t x n h0).1, szV_Bd t x n h0 h1 h⟩) xs _ (by omega) (by omega) h
  | .pair a b, v, n, h0, h1, h => by
    simp only [szV] at h
    split at h
    · omega
    · have := szV_le a v.1 n h0
      exact ⟨szV_Bd a v.1 n h0 h1 (by omega), szV_Bd b v.2 _ (by omega) (by omega) h⟩

theorem szL_flat {α : Type} {f : α → Int → Int} (hf : ∀ x n, f x n = n) : ∀ (xs : List α) (n : Int), 0 ≤ n → szL f xs n = n
  | [], _, _ => rfl
  | x :: r, n, h => by simp only [szL, hf]; rw [if_neg (by omega), szL_flat hf r n h]

def eqL {α : Type} (f : α → α → Bool) : List α → List α → Bool
  | [], [] => true
  | x :: xs, y :: ys => f x y && eqL f xs ys
  | _, _ => false
def eqV : (t : Ty) → Val t → Val t → Bool
  | .int _, a, b => decide ((a : Int) = b)
  | .bool, a, b => (a : Bool) == b
  | .str, a, b => ByteArray.toList a == ByteArray.toList b
  | .hdr, _, _ => true
  | .slice _ t, xs, ys => eqL (eqV t) xs ys
  | .pair a b, v, u => eqV a v.1 u.1 && eqV b v.2 u.2
theorem eqL_refl {α : Type} {f : α → α → Bool} (hf : ∀ x, f x x = true) : ∀ xs : List α, eqL f xs xs = true
  | [] => rfl
  | x :: xs => by simp [eqL, hf, eqL_refl hf xs]
theorem eqV_refl : ∀ (t : Ty) (x : Val t), eqV t x x = true
  | .int _, x => by simp [eqV]
  | .bool, x => by simp [eqV]
  | .str, x => by simp [eqV]
  | .hdr, x => by simp [eqV]
  | .slice _ t, xs => by simp only [eqV]; exact eqL_refl (eqV_refl t) xs
  | .pair a b, v => by simp [eqV, eqV_refl a v.1, eqV_refl b v.2]
theorem eqL_len {α : Type} {f : α → α → Bool} : ∀ (xs ys : List α), xs.length ≠ ys.length → eqL f xs ys = false
  | [], [], h => absurd rfl h
  | [], _ :: _, _ => rfl
  | _ :: _, [], _ => rfl
  | x :: xs, y :: ys, h => by simp [eqL, eqL_len xs ys (by simpa using h)]

theorem szV_pair {a b : Ty} {v : Val a × Val b} {n : Int} : szV (.pair a b) v n = if szV a v.1 n < 0 then -1 else szV b v.2 (szV a v.1 n) := rfl
theorem szV_int {k : IntKind} {v : Int} {n : Int} : szV (.int k) v n = n := rfl
theorem szV_bool {v : Bool} {n : Int} : szV .bool v n = n := rfl
theorem szV_str {s : ByteArray} {n : Int} : szV .str s n = if n - s.size < 0 then -1 else n - s.size := rfl
theorem szV_slice {e : Nat} {t : Ty} {xs : List (Val t)} {n : Int} : szV (.slice e t) xs n = if n - xs.length < 0 then -1 else szL (szV t) xs (n - xs.length) := rfl
theorem szV_pair_neg {a b : Ty} {v : Val a × Val b} {n : Int} (h : szV a v.1 n < 0) : szV (.pair a b) v n = -1 := by rw [szV_pair, if_pos h]
theorem szV_pair_pos {a b : Ty} {v : Val a × Val b} {n : Int} (h : 0 ≤ szV a v.1 n) : szV (.pair a b) v n = szV b v.2 (szV a v.1 n) := by rw [szV_pair, if_neg (by omega)]
theorem szV_pair_int {k : IntKind} {b : Ty} {v : Int × Val b} {n : Int} (h : 0 ≤ n) : szV (.pair (.int k) b) v n = szV b v.2 n := by rw [szV_pair, szV_int, if_neg (by omega)]
theorem szV_slice_neg {e : Nat} {t : Ty} {xs : List (Val t)} {n : Int} (h : n - xs.length < 0) : szV (.slice e t) xs n = -1 := by rw [szV_slice, if_pos h]
theorem szV_str_neg {s : ByteArray} {n : Int} (h : n - s.size < 0) : szV .str s n = -1 := by rw [szV_str, if_pos h]
theorem szV_str_pos {s : ByteArray} {n : Int} (h : 0 ≤ n - s.size) : szV .str s n = n - s.size := by rw [szV_str, if_neg (by omega)]
theorem szL_flatV {t : Ty} (h : ∀ (x : Val t) n, szV t x n = n) (xs : List (Val t)) (n : Int) (hn : 0 ≤ n) : szL (szV t) xs n = n := szL_flat h xs n hn
theorem szL_end {α : Type} {f : α → Int → Int} {xs : List α} {i : Nat} {m R : Int} (hi : xs.length ≤ i) (hI : szL f (xs.drop i) m = R) : m = R := by
  rw [List.drop_eq_nil_of_le hi] at hI; exact hI
theorem szL_step {α : Type} {f : α → Int → Int} {xs : List α} {i : Nat} {m R : Int} {d : α} (hi : i < xs.length) (hI : szL f (xs.drop i) m = R) :
    (f (xs[i]?.getD d) m < 0 → -1 = R) ∧ (0 ≤ f (xs[i]?.getD d) m → szL f (xs.drop (i + 1)) (f (xs[i]?.getD d) m) = R) := by
  rw [List.drop_eq_getElem_cons hi] at hI
  rw [List.getElem?_eq_getElem hi, Option.getD_some]
  simp only [szL] at hI
  refine ⟨fun h => ?_, fun h => ?_⟩
  · rw [if_pos h] at hI; exact hI
  · rw [if_neg (by omega)] at hI; exact hI
theorem mem_at {α : Type} {xs : List α} {i : Nat} {d : α} (hi : i < xs.length) : xs[i]?.getD d ∈ xs := by
  rw [List.getElem?_eq_getElem hi, Option.getD_some]; exact List.getElem_mem hi
theorem wrap_succ {i n : Nat} (h : i < n) (hn : n ≤ 1048576) : IntKind.i64.wrap ((i : Int) + 1) = ((i + 1 : Nat) : Int) := by
  rw [IntKind.wrap_i64]; omega
def szPre (t : Ty) (x : Val t) (n : Int) : Prop := Sm t x ∧ 0 ≤ n ∧ n ≤ 1048576
/-- A new row, filled up to i. -/
def fillP {α : Type} (xs : List α) (d : α) (i : Nat) : List α := xs.take i ++ List.replicate (xs.length - i) d
theorem fillP_len {α : Type} {xs : List α} {d : α} {i : Nat} (h : i ≤ xs.length) : (fillP xs d i).length = xs.length := by
  simp [fillP]; omega
theorem fillP_zero {α : Type} (xs : List α) (d : α) : List.replicate xs.length d = fillP xs d 0 := by simp [fillP]
theorem fillP_end {α : Type} {xs : List α} {d : α} {i : Nat} (h : xs.length ≤ i) : fillP xs d i = xs := by
  simp [fillP, List.take_of_length_le h, Nat.sub_eq_zero_of_le h]
theorem fillP_set {α : Type} {xs : List α} {d d' : α} {i : Nat} (h : i < xs.length) : (fillP xs d i).set i (xs[i]?.getD d') = fillP xs d (i + 1) := by
  have e1 : xs.length - i = (xs.length - (i + 1)) + 1 := by omega
  have e2 : i - (xs.take i).length = 0 := by simp; omega
  unfold fillP
  rw [e1, List.replicate_succ, List.set_append_right _ _ (by simp; omega), e2, List.set_cons_zero, List.getElem?_eq_getElem h, Option.getD_some]
  have e3 : xs.take (i + 1) = xs.take i ++ [xs[i]] := by rw [List.take_add_one, List.getElem?_eq_getElem h]; rfl
  rw [e3, List.append_assoc]; rfl
theorem wrap64 {n : Int} (h1 : -9223372036854775808 ≤ n) (h2 : n ≤ 9223372036854775807) : IntKind.i64.wrap n = n := by
  rw [IntKind.wrap_i64]; omega
theorem eqL_step {α : Type} {f : α → α → Bool} {xs ys : List α} {i : Nat} {R : Bool} {d : α} (hl : xs.length = ys.length) (hi : i < xs.length) (hI : eqL f (xs.drop i) (ys.drop i) = R) :
    (f (xs[i]?.getD d) (ys[i]?.getD d) = false → R = false) ∧ (f (xs[i]?.getD d) (ys[i]?.getD d) = true → eqL f (xs.drop (i + 1)) (ys.drop (i + 1)) = R) := by
  rw [List.drop_eq_getElem_cons hi, List.drop_eq_getElem_cons (by omega : i < ys.length)] at hI
  rw [List.getElem?_eq_getElem hi, List.getElem?_eq_getElem (by omega : i < ys.length), Option.getD_some, Option.getD_some]
  simp only [eqL] at hI
  exact ⟨fun h => by rw [h] at hI; simpa using hI.symm, fun h => by rw [h] at hI; simpa using hI⟩
theorem eqL_end {α : Type} {f : α → α → Bool} {xs ys : List α} {i : Nat} {R : Bool} (hl : xs.length = ys.length) (hi : xs.length ≤ i) (hI : eqL f (xs.drop i) (ys.drop i) = R) : R = true := by
  rw [List.drop_eq_nil_of_le hi, List.drop_eq_nil_of_le (by omega)] at hI; exact hI.symm
theorem eqV_pair {a b : Ty} {v u : Val a × Val b} : eqV (.pair a b) v u = (eqV a v.1 u.1 && eqV b v.2 u.2) := rfl
theorem eqV_int {k : IntKind} {a b : Int} : eqV (.int k) a b = decide (a = b) := rfl
theorem eqV_bool {a b : Bool} : eqV .bool a b = (a == b) := rfl
theorem eqV_str {a b : ByteArray} : eqV .str a b = (a.toList == b.toList) := rfl
def chain : Nat → Nat → Tree → Tree
  | _, 0, t => t
  | i, n + 1, t => .quiet i (chain (i + 1) n t)
attribute [simp] chain
end Go.T
/- T: nil slices as rows of no elements. -/
namespace Go.T
open Go

/-- Where a nil slice becomes a row: a slot (its cell c), a box that a slot leads to (its cell c). -/
inductive Fix
  | env (j c e : Nat) (t : Ty)
  | box (j c e : Nat) (t : Ty)
structure Nm where
  keep : List Bool
  fix : List Fix := []

def St.fix1 (st : St) : Fix → St
  | .env j c e t => match st.env[j]? with
    | some (.one .nils) => { env := st.env.set j (.one (.own st.heap.length)), heap := st.heap ++ [.row e t [] true true 0] }
    | some (.agg cs) => match cs[c]? with
      | some .nils => { env := st.env.set j (.agg (cs.set c (.own st.heap.length))), heap := st.heap ++ [.row e t [] true true 0] }
      | _ => st
    | _ => st
  | .box j c e t => match st.env[j]? with
    | some (.one (.ptr id _ _)) => match st.heap[id]? with
      | some (.box cs) => match cs[c]? with
        | some .nils => { env := st.env, heap := st.heap.set id (.box (cs.set c (.own st.heap.length))) ++ [.row e t [] true true 0] }
        | _ => st
      | _ => st
    | _ => st
def St.fixes (st : St) : List Fix → St
  | [] => st
  | f :: r => (st.fix1 f).fixes r
def St.norm (nm : Nm) (st : St) : St := (st.fixes nm.fix).gc nm.keep

section
variable {w0 w : World} {mine : Mine} {m : Mp} {h : List Blk}

/-- A box read otherwise. -/
theorem HR.rebox (H : HR w0 mine w m h) {id : Nat} {cs cs' : List LC} (hb : h[id]? = some (.box cs)) (hc : ∀ vs : List Value, F2 (C w m h) cs vs → F2 (C w m h) cs' vs) :
    HR w0 mine w m (h.set id (.box cs')) ∧ Oks w w m m h (h.set id (.box cs')) ∧ Sims m m h (h.set id (.box cs')) := by
  have hid := (List.getElem?_eq_some_iff.1 hb).1
  have get : ∀ j y, (h.set id (.box cs'))[j]? = some y → (j = id ∧ y = .box cs') ∨ (j ≠ id ∧ h[j]? = some y) := fun j y hy => by
    rw [List.getElem?_set] at hy
    split at hy
    · rename_i e; subst e; simp [hid] at hy; exact .inl ⟨rfl, hy.symm⟩
    · rename_i e; exact .inr ⟨fun e' => e e'.symm, hy⟩
  have old : ∀ j y, (h.set id (.box cs'))[j]? = some y → ∃ y0, h[j]? = some y0 ∧ fpB m j y = fpB m j y0 ∧ ∀ n b, okB m n b j y ↔ okB m n b j y0 := fun j y hy => by
    rcases get j y hy with ⟨rfl, rfl⟩ | ⟨_, hy⟩
    · exact ⟨_, hb, rfl, fun _ _ => Iff.rfl⟩
    · exact ⟨y, hy, rfl, fun _ _ => Iff.rfl⟩
  have hok : Oks w w m m h (h.set id (.box cs')) := fun n b hb' _ => ⟨rfl, hb'.1, fun j y hy => by
    obtain ⟨y0, h0, _, h2⟩ := old j y hy
    exact (h2 n b).2 (hb'.2 j y0 h0)⟩
  have hs : Sims m m h (h.set id (.box cs')) := fun j x hx => by
    by_cases e : j = id
    · subst e
      rw [hb] at hx; cases hx
      exact ⟨.box cs', by simp [hid], rfl⟩
    · refine ⟨x, by rw [List.getElem?_set_ne (fun e' => e e'.symm)]; exact hx, ?_⟩
      cases x <;> simp [Sim]
  refine ⟨⟨fun j y hy => ?_, fun j y hy => ?_, fun j y j' y' hne hy hy' b hb1 hb2 => ?_, fun j y hy b hb1 => ?_, H.fr, H.mx, H.nx, fun j v hp => ?_⟩, hok, hs⟩
  · rcases get j y hy with ⟨rfl, rfl⟩ | ⟨_, hy'⟩
    · obtain ⟨arr, ty, h1, h2, h3⟩ := H.br j _ hb
      exact ⟨arr, ty, h1, (hc _ h2).imp fun _ _ _ hC => C_mono hok hs hC, h3⟩
    · exact BR_mono hok hs rfl rfl rfl (fun _ _ => rfl) (H.br j y hy')
  · obtain ⟨y0, h0, h1, _⟩ := old j y hy
    rw [h1]; exact H.nd j y0 h0
  · obtain ⟨y0, h0, h1, _⟩ := old j y hy
    obtain ⟨y0', h0', h1', _⟩ := old j' y' hy'
    rw [h1] at hb1; rw [h1'] at hb2
    exact H.dj j y0 j' y0' hne h0 h0' b hb1 hb2
  · obtain ⟨y0, h0, h1, _⟩ := old j y hy
    rw [h1] at hb1; exact H.lt j y0 h0 b hb1
  · obtain ⟨h1, h2⟩ := H.pn j v hp
    exact ⟨by simpa using h1, h2⟩

/-- A row of none. -/
theorem HR.newNil (H : HR w0 mine w m h) (e : Nat) (t : Ty) : ∃ m', HR w0 mine w m' (h ++ [.row e t [] true true 0]) ∧ Oks w w m m' h (h ++ [.row e t [] true true 0]) ∧ Sims m m' h (h ++ [.row e t [] true true 0]) ∧
    C w m' (h ++ [.row e t [] true true 0]) (.own h.length) (.slice none 0 0) := by
  have hf : F2 (RowOk w) [.row e t [] true true 0] [((.slice none 0 0 : Value), ([] : List Nat))] := .cons ⟨e, t, [], [], rfl, ⟨by simp, .inl ⟨rfl, rfl⟩⟩, rfl, rfl⟩ .nil
  obtain ⟨H', hok, hs⟩ := HR.results H (Fr.refl _ w) hf (by simp [RowR.fp, Value.ownBlock]) (by simp [RowR.fp, Value.ownBlock])
  exact ⟨_, H', hok, hs, (CellR_C hf (c := .own h.length) ⟨0, _, rfl, rfl, rfl⟩).1⟩

theorem C_nils {m : Mp} {v : Value} (h1 : C w m h .nils v) : v = .slice none 0 0 := h1

theorem F2_setC {α β : Type} {R : α → β → Prop} {cs : List α} {vs : List β} (hf : F2 R cs vs) {c : Nat} {x : α} (hx : ∀ v, vs[c]? = some v → R x v) : F2 R (cs.set c x) vs := by
  induction hf generalizing c with
  | nil => exact .nil
  | cons h1 h2 ih => cases c with
    | zero => exact .cons (hx _ rfl) h2
    | succ c => exact .cons h1 (ih fun v hv => hx v (by simpa using hv))

theorem Le.fix1 (st : St) (f : Fix) : Le st (st.fix1 f) := fun w0 mine a w hp hr => by
  obtain ⟨hd, m, H, he⟩ := hr
  cases f with
  | env j c e t =>
    simp only [St.fix1]
    split
    · rename_i hj
      obtain ⟨m', H', hok, hs, hc⟩ := H.newNil e t
      refine ⟨hd, m', H', F2_setC (env_mono hok hs he) fun v hv => ?_⟩
      obtain ⟨v', hv', hV⟩ := he.get hj
      rw [hv] at hv'; cases hv'
      have : v = .slice none 0 0 := hV
      subst this
      exact hc
    · rename_i cs hj
      split
      · rename_i hc'
        obtain ⟨m', H', hok, hs, hc⟩ := H.newNil e t
        refine ⟨hd, m', H', F2_setC (env_mono hok hs he) fun v hv => ?_⟩
        obtain ⟨v', hv', hV⟩ := he.get hj
        rw [hv] at hv'; cases hv'
        obtain ⟨vs, rfl, hf⟩ := hV
        refine ⟨vs, rfl, F2_setC (hf.imp fun _ _ _ h => C_mono hok hs h) fun u hu => ?_⟩
        obtain ⟨u', hu', hC⟩ := hf.get hc'
        rw [hu] at hu'; cases hu'
        have : u = .slice none 0 0 := hC
        subst this
        exact hc
      · exact ⟨hd, m, H, he⟩
    · exact ⟨hd, m, H, he⟩
  | box j c e t =>
    simp only [St.fix1]
    split
    · rename_i id i f hj
      split
      · rename_i cs hb
        split
        · rename_i hc'
          obtain ⟨m', H', hok, hs, hc⟩ := H.newNil e t
          have hid := (List.getElem?_eq_some_iff.1 hb).1
          have hb' : (st.heap ++ [Blk.row e t [] true true 0])[id]? = some (.box cs) := by rw [List.getElem?_append_left hid]; exact hb
          obtain ⟨H2, hok2, hs2⟩ := H'.rebox hb' (cs' := cs.set c (.own st.heap.length)) fun vs hf => F2_setC hf fun u hu => by
            obtain ⟨u', hu', hC⟩ := hf.get hc'
            rw [hu] at hu'; cases hu'
            have : u = .slice none 0 0 := hC
            subst this
            exact hc
          rw [List.set_append_left _ _ hid] at H2 hok2 hs2
          exact ⟨hd, m', H2, env_mono hok2 hs2 (env_mono hok hs he)⟩
        · exact ⟨hd, m, H, he⟩
      · exact ⟨hd, m, H, he⟩
    · exact ⟨hd, m, H, he⟩
theorem Le.fixes : ∀ (l : List Fix) (st : St), Le st (st.fixes l)
  | [], st => Le.refl st
  | f :: r, st => (Le.fix1 st f).trans (Le.fixes r _)
theorem Le.norm (nm : Nm) (st : St) : Le st (st.norm nm) := (Le.fixes nm.fix st).trans (Le.gc _ nm.keep)
end
end Go.T
/- T: code run to what it returns. -/
namespace Go.T
open Go

variable {ρ : Type}

open Classical in
/-- k, if p. -/
noncomputable def chk (p : Prop) (k : Option ρ) : Option ρ := if p then k else none
theorem chk_some {p : Prop} {k : Option ρ} {r : ρ} : chk p k = some r ↔ p ∧ k = some r := by
  unfold chk; split <;> simp [*]
theorem chk_pos {p : Prop} {k : Option ρ} (h : p) : chk p k = k := by simp [chk, h]

noncomputable def opR (tt : TT) (Γ : Gam) (o : Oper) (st : St) (k : St → Option ρ) : Option ρ := match stepAll tt Γ o st with
  | some (p, st') => chk p (k st')
  | none => none
def guardR (ops : Array Oper) (o : Oper) (st : St) (yes no : St → Option ρ) : Option ρ := match o.guard with
  | none => yes st
  | some (j, want) => match (ops[j]?).bind (·.dst) with
    | none => no st
    | some t => match st.env[t]? with
      | some (.one (.bool b)) => bif (b == want) then yes (st.lit t want) else no (st.lit t (!want))
      | some (.tup _) => no st
      | none => no st
      | _ => none
noncomputable def regionR (tt : TT) (Γ : Gam) (ops : Array Oper) : List Oper → St → (St → Option ρ) → Option ρ
  | [], st, k => k st
  | o :: os, st, k => guardR ops o st (fun st => opR tt Γ o st fun st => regionR tt Γ ops os st k) (fun st => regionR tt Γ ops os (st.put o.dst (.tup [])) k)
noncomputable def stepR (tt : TT) (Γ : Gam) (ops : Array Oper) (i : Nat) (st : St) (k : St → Option ρ) : Option ρ := match ops[i]? with
  | none => none
  | some o => guardR ops o st (fun st => opR tt Γ o st k) (fun st => k (st.put o.dst (.tup [])))
def Tree.isStop : Tree → Bool
  | .stop => true
  | _ => false
open Classical in
/-- Both are the same. -/
noncomputable def meet (a b : Option ρ) : Option ρ := if a = b then a else none
theorem meet_self {a : Option ρ} : meet a a = a := by simp [meet]
theorem meet_some {a b : Option ρ} {r : ρ} (h : meet a b = some r) : a = some r ∧ b = some r := by
  unfold meet at h
  split at h
  · rename_i e; exact ⟨h, e ▸ h⟩
  · simp at h
noncomputable def treeR (tt : TT) (Γ : Gam) (ops : Array Oper) : Tree → St → (St → Option ρ) → Option ρ
  | .done, st, k => k st
  | .first i t, st, k => chk (rdFree ops i st) (stepR tt Γ ops i st fun st => treeR tt Γ ops t st k)
  | .quiet i t, st, k => stepR tt Γ ops i st fun st => treeR tt Γ ops t st k
  | .grow i t, st, k => chk (rdLt ops i st) (stepR tt Γ ops i st fun st => treeR tt Γ ops t st k)
  | .alt i t r, st, k => bif r.isStop then stepR tt Γ ops i st (fun st => treeR tt Γ ops t st k) else meet (stepR tt Γ ops i st (fun st => treeR tt Γ ops t st k)) (treeR tt Γ ops r st k)
  | _, _, _ => none

def seqR (k : St → Option ρ) (Q : X → St → Option ρ) : X → St → Option ρ
  | .normal, st => k st
  | .ret, st => Q .ret st
  | .exit id, st => Q (.exit id) st
def blockR (id : Nat) (Q : X → St → Option ρ) : X → St → Option ρ
  | .normal, st => Q .normal st
  | .ret, st => Q .ret st
  | .exit id', st => bif id' == id then Q .normal st else Q (.exit id') st
def condR (c : Operand) (st : St) (x y : St → Option ρ) : Option ρ := match st.ev c with
  | .one (.bool b) => bif b then x (st.litO c true) else y (st.litO c false)
  | _ => none
def loopR (F : (X → St → Option ρ) → St → Option ρ) (nm : Nm) (Q : X → St → Option ρ) : Nat → St → Option ρ
  | 0, _ => none
  | n + 1, st => F (seqR (fun st' => loopR F nm Q n (st'.norm nm)) Q) st

/-- A code's first region. -/
def rid : Code → Nat
  | .region id _ _ => id
  | .seq a _ => rid a
  | .cond _ a _ => rid a
  | .block _ a => rid a
  | .loop a => rid a
  | _ => 0
/-- At the head of a loop (told by its first region): what is kept; behind an exit. -/
structure Tab where
  tr : Nat → Tree
  lp : Nat → Nm
  ex : Nat → Option Nm
  rg : Nat → Option Nm
  fuel : Nat

def nxt (o : Option Nm) (k : St → Option ρ) : St → Option ρ := match o with
  | none => k
  | some nm => fun st => k (st.norm nm)

noncomputable def runT (tt : TT) (Γ : Gam) (T : Tab) : Code → (X → St → Option ρ) → St → Option ρ
  | .skip, Q, st => Q .normal st
  | .region id ops false, Q, st => regionR tt Γ ops ops.toList st (nxt (T.rg id) (Q .normal))
  | .region id ops true, Q, st => treeR tt Γ ops (T.tr id) st (nxt (T.rg id) (Q .normal))
  | .seq a b, Q, st => runT tt Γ T a (seqR (runT tt Γ T b Q) Q) st
  | .cond c x y, Q, st => condR c st (runT tt Γ T x Q) (runT tt Γ T y Q)
  | .block id c, Q, st => runT tt Γ T c (blockR id Q) st
  | .loop c, Q, st => loopR (runT tt Γ T c) (T.lp (rid c)) Q T.fuel (st.norm (T.lp (rid c)))
  | .exit id, Q, st => match T.ex id with
    | none => Q (.exit id) st
    | some nm => Q (.exit id) (st.norm nm)
  | .ret, Q, st => Q .ret st
  | _, _, _ => none

section
variable {P : Program} {tt : TT} {Γ : Gam} {T : Tab} {w0 w : World} {mine : Mine} {r : ρ} {ops : Array Oper}

theorem guardR_W {o : Oper} {st : St} {yes no : St → Option ρ} {yes' no' : St → Prop} (hy : ∀ s, yes s = some r → yes' s) (hn : ∀ s, no s = some r → no' s) (h : guardR ops o st yes no = some r) : guardW ops o st yes' no' := by
  unfold guardR at h
  unfold guardW
  split
  · rename_i hg; simp only [hg] at h; exact hy _ h
  · rename_i j want hg
    simp only [hg] at h
    split
    · rename_i hb; simp only [hb] at h; exact hn _ h
    · rename_i t hb
      simp only [hb] at h
      split
      · rename_i b hs
        simp only [hs] at h
        cases hbw : (b == want) with
        | true =>
          rw [hbw] at h
          refine ⟨fun _ => hy _ h, fun e => ?_⟩
          subst e; cases want <;> simp at hbw
        | false =>
          rw [hbw] at h
          refine ⟨fun e => ?_, fun _ => hn _ h⟩
          subst e; simp at hbw
      · rename_i ls hs; simp only [hs] at h; exact hn _ h
      · rename_i hs; simp only [hs] at h; exact hn _ h
      · rename_i h1 h2 h3
        split at h
        · rename_i b hs; exact absurd hs (h1 b)
        · rename_i ls hs; exact absurd hs (h2 ls)
        · rename_i hs; exact absurd hs h3
        · simp at h

theorem regionR_W {k : St → Option ρ} : ∀ (os : List Oper) (st : St), regionR tt Γ ops os st k = some r → regionW P tt Γ ops os st (fun s => k s = some r)
  | [], _, h => h
  | o :: os, st, h => by
    refine guardR_W (fun s hs => ?_) (fun s hs => regionR_W os _ hs) h
    unfold opR at hs
    unfold opW
    split at hs
    · rename_i p st' hst
      rw [hst]
      have := chk_some.1 hs
      exact ⟨this.1, regionR_W os _ this.2⟩
    · simp at hs
theorem stepR_L {i : Nat} {st : St} {k : St → Option ρ} {k' : St → Prop} (hk : ∀ s, k s = some r → k' s) (h : stepR tt Γ ops i st k = some r) : stepL tt Γ ops i st k' := by
  unfold stepR at h
  unfold stepL
  split at h
  · simp at h
  · rename_i o ho
    rw [ho]
    refine guardR_W (fun s hs => ?_) (fun s hs => hk _ hs) h
    unfold opR at hs
    unfold actT
    split at hs
    · rename_i p st' hst
      rw [hst]
      have := chk_some.1 hs
      exact ⟨this.1, hk _ this.2⟩
    · simp at hs
theorem treeR_W {k : St → Option ρ} : ∀ (t : Tree) (st : St), treeR tt Γ ops t st k = some r → treeW tt Γ ops t st (fun s => k s = some r)
  | .done, _, h => h
  | .quiet i t, st, h => stepR_L (fun s hs => treeR_W t s hs) h
  | .alt i t r, st, h => by
    simp only [treeR] at h
    cases hs : r.isStop with
    | true =>
      rw [hs] at h
      refine ⟨stepR_L (fun s hs => treeR_W t s hs) h, ?_⟩
      cases r <;> first | exact trivial | simp [Tree.isStop] at hs
    | false =>
      rw [hs] at h
      obtain ⟨h1, h2⟩ := meet_some h
      exact ⟨stepR_L (fun s hs => treeR_W t s hs) h1, treeR_W r st h2⟩
  | .grow i t, st, h => by
    simp only [treeR] at h
    have := chk_some.1 h
    exact ⟨this.1, stepR_L (fun s hs => treeR_W t s hs) this.2⟩
  | .first i t, st, h => by
    simp only [treeR] at h
    have := chk_some.1 h
    exact ⟨this.1, stepR_L (fun s hs => treeR_W t s hs) this.2⟩
  | .stop, st, h => by simp [treeR] at h

theorem loopR_sound (hpin : ∀ id, mine.pin id = none) {c : Code} {Q : X → St → Option ρ} {nm : Nm} (hc : ∀ (Q : X → St → Option ρ) (st : St) (a : Act) (w : World), runT tt Γ T c Q st = some r → R w0 mine st a w → c.wp P (liftQ w0 mine fun x s => Q x s = some r) a w) {n : Nat} {st : St} {a : Act} {w : World}
    (h : loopR (runT tt Γ T c) nm Q n st = some r) (hr : R w0 mine st a w) : (Code.loop c).wp P (liftQ w0 mine fun x s => Q x s = some r) a w := by
  let J : Act → World → Nat → Prop := fun a w n => ∃ s, R w0 mine s a w ∧ loopR (runT tt Γ T c) nm Q n s = some r
  have hmin : ∀ a w, (∃ n, J a w n) → ∃ m, J a w m ∧ ∀ k, J a w k → m ≤ k := fun a w ⟨n, hn⟩ => exists_min hn
  let M : Act → World → Nat := fun a w => open Classical in if h : ∃ n, J a w n then Classical.choose (hmin a w h) else 0
  have hM : ∀ a w n, J a w n → J a w (M a w) ∧ M a w ≤ n := fun a w n hn => by
    have hex : ∃ n, J a w n := ⟨n, hn⟩
    simp only [M, dif_pos hex]
    exact ⟨(Classical.choose_spec (hmin a w hex)).1, (Classical.choose_spec (hmin a w hex)).2 n hn⟩
  refine wp_loop (I := fun a w => ∃ n, J a w n) (μ := M) ⟨n, st, hr, h⟩ fun a w hex => ?_
  obtain ⟨n, hn⟩ := hex
  obtain ⟨⟨s, hs, hrun⟩, _⟩ := hM a w n hn
  generalize hMn : M a w = mm at hrun ⊢
  cases mm with
  | zero => simp [loopR] at hrun
  | succ k =>
    refine wp_mono (hc _ s a w hrun hs) fun e a' w' he => ?_
    cases e with
    | normal =>
      obtain ⟨s', hs', hk⟩ := he
      have hJ : J a' w' k := ⟨_, Le.norm nm s' _ _ _ _ hpin hs', hk⟩
      have := (hM a' w' _ hJ).2
      exact ⟨⟨_, hJ⟩, by omega⟩
    | ret => exact he
    | exit id => exact he
    | _ => exact he

theorem nxt_Q (hpin : ∀ id, mine.pin id = none) {o : Option Nm} {Q : X → St → Option ρ} {st : St} {a : Act} (hr : R w0 mine st a w) (h : nxt o (Q .normal) st = some r) : liftQ w0 mine (fun x s => Q x s = some r) .normal a w := by
  unfold nxt at h
  split at h
  · exact ⟨st, hr, h⟩
  · exact ⟨_, Le.norm _ st _ _ _ _ hpin hr, h⟩
theorem runT_sound (hT : TTok P tt) (hΓ : ∀ f g, Γ.get f = some g → Sound P f g) (hm : P.follows .mixedOrders = true) (hpin : ∀ id, mine.pin id = none) : ∀ (c : Code), plansOk T.tr c = true → ∀ (Q : X → St → Option ρ) (st : St) (a : Act) (w : World), runT tt Γ T c Q st = some r → R w0 mine st a w → c.wp P (liftQ w0 mine fun x s => Q x s = some r) a w
  | .skip, _, Q, st, a, w, h, hr => wp_skip ⟨st, hr, h⟩
  | .region id ops false, _, Q, st, a, w, h, hr => by
    refine wp_region ?_
    have := regionW_sound (ops := ops) (Q := liftQ w0 mine fun x s => Q x s = some r) hT hΓ (k := fun s => nxt (T.rg id) (Q .normal) s = some r) (fun a w st hr hk => nxt_Q hpin hr hk) ops.toList [] rfl st a w (regionR_W _ _ h) hr
    rw [List.range_eq_range']
    simpa using this
  | .region id ops true, hp, Q, st, a, w, h, hr => by
    refine wp_region_any hm ?_
    have h1 := treeW_all (T.tr id) ops.size _ [] st hp (treeR_W _ _ h) (fun _ _ _ h => by simp at h)
    have hr' : R w0 mine st a { w with drawn := w.drawn + 1 } := by
      obtain ⟨hd, m, H, he⟩ := hr
      obtain ⟨H', hok, hs⟩ := H.heap_eq (w' := { w with drawn := w.drawn + 1 }) rfl rfl rfl rfl
      exact ⟨hd, m, H', env_mono hok hs he⟩
    exact allT_sound hT hΓ (k := fun s => nxt (T.rg id) (Q .normal) s = some r) (fun a w st hr hk => nxt_Q hpin hr hk) _ _ st a _ h1 hr'
  | .seq x y, hp, Q, st, a, w, h, hr => by
    simp only [plansOk, Bool.and_eq_true] at hp
    refine wp_seq (wp_mono (runT_sound hT hΓ hm hpin x hp.1 _ st a w h hr) fun e a' w' he => ?_)
    cases e with
    | normal => obtain ⟨s, hs, hk⟩ := he; exact runT_sound hT hΓ hm hpin y hp.2 Q s a' w' hk hs
    | ret => exact he
    | exit id => exact he
    | _ => exact he
  | .cond c x y, hp, Q, st, a, w, h, hr => by
    simp only [plansOk, Bool.and_eq_true] at hp
    simp only [runT, condR] at h
    split at h
    · rename_i b hb
      have hv : a.eval c = .bool b := by
        obtain ⟨hd, m, H, he⟩ := hr
        have := R.ev H he c
        rw [hb] at this
        exact this
      refine wp_cond hv ?_
      cases b with
      | true =>
        have h : runT tt Γ T x Q (st.litO c true) = some r := h
        rw [R.litO (a := a) (w := w) hb] at h
        exact runT_sound hT hΓ hm hpin x hp.1 Q st a w h hr
      | false =>
        have h : runT tt Γ T y Q (st.litO c false) = some r := h
        rw [R.litO (a := a) (w := w) hb] at h
        exact runT_sound hT hΓ hm hpin y hp.2 Q st a w h hr
    · simp at h
  | .block id c, hp, Q, st, a, w, h, hr => by
    refine wp_block (wp_mono (runT_sound hT hΓ hm hpin c hp _ st a w h hr) fun e a' w' he => ?_)
    cases e with
    | normal => exact he
    | ret => exact he
    | exit id' =>
      obtain ⟨s, hs, hk⟩ := he
      simp only [blockR] at hk
      simp only [Exit.inBlock]
      split
      · rename_i e
        subst e
        simp only [beq_self_eq_true, cond_true] at hk
        exact ⟨s, hs, hk⟩
      · rename_i e
        have : (id' == id) = false := by simpa using e
        simp only [this, cond_false] at hk
        exact ⟨s, hs, hk⟩
    | _ => exact he
  | .loop c, hp, Q, st, a, w, h, hr => loopR_sound hpin (fun Q st a w h hr => runT_sound hT hΓ hm hpin c hp Q st a w h hr) h (Le.norm _ st _ _ _ _ hpin hr)
  | .exit id, _, Q, st, a, w, h, hr => by
    refine wp_exit ?_
    simp only [runT] at h
    split at h
    · exact ⟨st, hr, h⟩
    · exact ⟨_, Le.norm _ st _ _ _ _ hpin hr, h⟩
  | .ret, _, Q, st, a, w, h, hr => wp_ret ⟨st, hr, h⟩
  | .rangeFunc .., _, _, _, _, _, h, _ => by simp [runT] at h
  | .scope _, _, _, _, _, _, h, _ => by simp [runT] at h
  | .label _, _, _, _, _, _, h, _ => by simp [runT] at h
  | .goto _, _, _, _, _, _, h, _ => by simp [runT] at h
  | .refuse _, _, _, _, _, _, h, _ => by simp [runT] at h

/-- What is returned. -/
def ownR (h : List Blk) (ls : List LV) : Bool := deepOf h (ls.flatMap LV.cells) && nodupB (moved (ls.flatMap LV.cells))
def retS (tt : TT) (dp : Bool) (rs : List TI) (rvs : List ResultVar) (st : St) : Option (Vals rs) := match resLVs tt st rvs with
  | none => none
  | some ls => match implodeArgs st.heap rs ls with
    | none => none
    | some y => bif dp then (bif ownR st.heap ls then some y else none) else some y
def retR (tt : TT) (dp : Bool) (rs : List TI) (rvs : List ResultVar) : X → St → Option (Vals rs)
  | .normal, st => retS tt dp rs rvs st
  | .ret, st => retS tt dp rs rvs st
  | .exit _, _ => none
theorem retS_Q {g : G} {rvs : List ResultVar} {y : Vals g.rs} {st : St} (h : retS tt g.dp g.rs rvs st = some y) : ResOk tt g.dp g.rs rvs y st := by
  unfold retS at h
  unfold ResOk
  split at h
  · simp at h
  · rename_i ls hls
    split at h
    · simp at h
    · rename_i z hy
      rw [hls]
      cases hdp : g.dp with
      | false => rw [hdp] at h; simp only [cond_false] at h; cases h; exact ⟨hy, by simp⟩
      | true =>
        rw [hdp] at h
        cases hb : ownR st.heap ls with
        | false => rw [hb] at h; simp at h
        | true =>
          rw [hb] at h
          simp only [cond_true] at h
          cases h
          simp only [ownR, Bool.and_eq_true] at hb
          exact ⟨hy, fun _ => hb⟩
theorem retR_Q {g : G} {rvs : List ResultVar} {x : Vals g.ps} {e : X} {st : St} (h : retR tt g.dp g.rs rvs e st = some (g.fn x)) : retQ tt g rvs x e st := by
  cases e with
  | normal => exact retS_Q h
  | ret => exact retS_Q h
  | exit id => simp [retR] at h
/-- A function is what its code is run to. -/
theorem sound_of_run (hT : TTok P tt) (hΓ : ∀ f g, Γ.get f = some g → Sound P f g) (hm : P.follows .mixedOrders = true) {f : FuncId} {fn : Func} {c : Code} {g : G} (hf : P.funcs[f]? = some fn) (hb : fn.body = some c) (hname : (fn.name == "runtime.NumGoroutine") = false)
    (hrun : ∀ x : Vals g.ps, g.pre x → ∃ T : Tab, plansOk T.tr c = true ∧ runT tt Γ T c (retR tt g.dp g.rs fn.results.toList) (entry g fn.ntmps x) = some (g.fn x)) : Sound P f g :=
  sound_of_wp hT hf hb hname fun x hx w0 mine a w hpin hR => by
    obtain ⟨T, hp, h⟩ := hrun x hx
    refine wp_mono (runT_sound hT hΓ hm hpin c hp _ _ _ _ h hR) fun e a' w' he => ?_
    cases e with
    | normal => obtain ⟨st, hr, h⟩ := he; exact ⟨st, hr, retR_Q h⟩
    | ret => obtain ⟨st, hr, h⟩ := he; exact ⟨st, hr, retR_Q h⟩
    | exit id => obtain ⟨st, hr, h⟩ := he; exact ⟨st, hr, retR_Q h⟩
    | _ => exact he
end
end Go.T
/- T: runs by rewriting: lemmas at states that are written out. -/
namespace Go.T
open Go

abbrev u : LV := .one .undef
variable {ρ : Type}
/-- A part of a code. -/
def cut : List Bool → Code → Code
  | [], c => c
  | false :: r, .seq a _ => cut r a
  | true :: r, .seq _ b => cut r b
  | false :: r, .cond _ a _ => cut r a
  | true :: r, .cond _ _ b => cut r b
  | _ :: r, .block _ a => cut r a
  | _ :: r, .loop a => cut r a
  | _, c => c
def entryP (ps : List TI) (ntmps : Nat) (x : Vals ps) : St := { env := (explodes 0 ps x).map LV1.lv ++ List.replicate (ntmps - ps.length) (.tup []), heap := [] }

section
variable {tt : TT} {Γ : Gam} {T : Tab} {Q : X → St → Option ρ} {e : List LV} {h : List Blk}
@[simp] theorem run_skip' : runT tt Γ T .skip Q ⟨e, h⟩ = Q .normal ⟨e, h⟩ := rfl
@[simp] theorem run_region' {id : Nat} {ops : List Oper} : runT tt Γ T (.region id ⟨ops⟩ false) Q ⟨e, h⟩ = regionR tt Γ ⟨ops⟩ ops ⟨e, h⟩ (nxt (T.rg id) (Q .normal)) := rfl
@[simp] theorem run_regionD' {id : Nat} {ops : Array Oper} : runT tt Γ T (.region id ops true) Q ⟨e, h⟩ = treeR tt Γ ops (T.tr id) ⟨e, h⟩ (nxt (T.rg id) (Q .normal)) := rfl
@[simp] theorem run_seq' {a b : Code} : runT tt Γ T (.seq a b) Q ⟨e, h⟩ = runT tt Γ T a (seqR (runT tt Γ T b Q) Q) ⟨e, h⟩ := rfl
@[simp] theorem run_cond' {c : Operand} {x y : Code} : runT tt Γ T (.cond c x y) Q ⟨e, h⟩ = condR c ⟨e, h⟩ (runT tt Γ T x Q) (runT tt Γ T y Q) := rfl
@[simp] theorem run_block' {id : Nat} {c : Code} : runT tt Γ T (.block id c) Q ⟨e, h⟩ = runT tt Γ T c (blockR id Q) ⟨e, h⟩ := rfl
@[simp] theorem run_loop' {c : Code} : runT tt Γ T (.loop c) Q ⟨e, h⟩ = loopR (runT tt Γ T c) (T.lp (rid c)) Q T.fuel ((St.mk e h).norm (T.lp (rid c))) := rfl
@[simp] theorem run_exit' {id : Nat} : runT tt Γ T (.exit id) Q ⟨e, h⟩ = match T.ex id with
    | none => Q (.exit id) ⟨e, h⟩
    | some nm => Q (.exit id) ((St.mk e h).norm nm) := rfl
@[simp] theorem run_ret' : runT tt Γ T .ret Q ⟨e, h⟩ = Q .ret ⟨e, h⟩ := rfl
theorem loop_zero {F : (X → St → Option ρ) → St → Option ρ} {nm : Nm} {st : St} : loopR F nm Q 0 st = none := rfl
theorem loop_succ {F : (X → St → Option ρ) → St → Option ρ} {nm : Nm} {n : Nat} {st : St} : loopR F nm Q (n + 1) st = F (seqR (fun st' => loopR F nm Q n (st'.norm nm)) Q) st := rfl

variable {ops : Array Oper} {k : St → Option ρ}
@[simp] theorem regionR_nil' : regionR tt Γ ops [] ⟨e, h⟩ k = k ⟨e, h⟩ := rfl
@[simp] theorem regionR_cons' {d : Option Tmp} {op : Op} {ty : TypeId} {pos : String} {aft : Array Edge} {os : List Oper} : regionR tt Γ ops (⟨d, op, ty, pos, aft, none⟩ :: os) ⟨e, h⟩ k = opR tt Γ ⟨d, op, ty, pos, aft, none⟩ ⟨e, h⟩ fun st => regionR tt Γ ops os st k := rfl
@[simp] theorem regionR_guard' {d : Option Tmp} {op : Op} {ty : TypeId} {pos : String} {aft : Array Edge} {g : Nat × Bool} {os : List Oper} : regionR tt Γ ops (⟨d, op, ty, pos, aft, some g⟩ :: os) ⟨e, h⟩ k = guardR ops ⟨d, op, ty, pos, aft, some g⟩ ⟨e, h⟩ (fun st => opR tt Γ ⟨d, op, ty, pos, aft, some g⟩ st fun st => regionR tt Γ ops os st k) (fun st => regionR tt Γ ops os (st.put d (.tup [])) k) := rfl
@[simp] theorem seqR_normal {st : St} : seqR k Q .normal st = k st := rfl
@[simp] theorem seqR_ret {st : St} : seqR k Q .ret st = Q .ret st := rfl
@[simp] theorem seqR_exit {st : St} {id : Nat} : seqR k Q (.exit id) st = Q (.exit id) st := rfl
@[simp] theorem blockR_normal {id : Nat} {st : St} : blockR id Q .normal st = Q .normal st := rfl
@[simp] theorem blockR_ret {id : Nat} {st : St} : blockR id Q .ret st = Q .ret st := rfl
@[simp] theorem blockR_exit {id j : Nat} {st : St} : blockR id Q (.exit j) st = bif j == id then Q .normal st else Q (.exit j) st := rfl
@[simp] theorem seqR_eta : seqR k Q .normal = k := rfl
@[simp] theorem blockR_eta {id : Nat} : blockR id Q .normal = Q .normal := rfl
@[simp] theorem opR' {o : Oper} : opR tt Γ o ⟨e, h⟩ k = (match stepAll tt Γ o ⟨e, h⟩ with
  | some (p, st') => chk p (k st')
  | none => none) := rfl
/-- A branch, a guard: by what is known of the condition. -/
def brL (x : LV) (c : Operand) (e : List LV) (h : List Blk) (a b : St → Option ρ) : Option ρ := match x with
  | .one (.bool v) => bif v then a ((St.mk e h).litO c true) else b ((St.mk e h).litO c false)
  | _ => none
@[simp] theorem condR' {c : Operand} {x y : St → Option ρ} : condR c ⟨e, h⟩ x y = brL ((St.mk e h).ev c) c e h x y := rfl
@[simp high] theorem brL_true {c : Operand} {x y : St → Option ρ} : brL (.one (.bool true)) c e h x y = x ((St.mk e h).litO c true) := rfl
@[simp high] theorem brL_false {c : Operand} {x y : St → Option ρ} : brL (.one (.bool false)) c e h x y = y ((St.mk e h).litO c false) := rfl
@[simp low] theorem brL_any {c : Operand} {x y : St → Option ρ} {v : Bool} : brL (.one (.bool v)) c e h x y = bif v then x ((St.mk e h).litO c true) else y ((St.mk e h).litO c false) := rfl
def guA (d : Option Tmp) (want : Bool) (e : List LV) (h : List Blk) (a b : St → Option ρ) : Option ρ := match d with
  | none => b ⟨e, h⟩
  | some t => match e[t]? with
    | some (.one (.bool v)) => bif (v == want) then a ((St.mk e h).lit t want) else b ((St.mk e h).lit t (!want))
    | some (.tup _) => b ⟨e, h⟩
    | none => b ⟨e, h⟩
    | _ => none
def guB (x : Option LV) (t : Nat) (want : Bool) (e : List LV) (h : List Blk) (a b : St → Option ρ) : Option ρ := match x with
  | some (.one (.bool v)) => bif (v == want) then a ((St.mk e h).lit t want) else b ((St.mk e h).lit t (!want))
  | some (.tup _) => b ⟨e, h⟩
  | none => b ⟨e, h⟩
  | _ => none
theorem guardR' {d : Option Tmp} {op : Op} {ty : TypeId} {pos : String} {aft : Array Edge} {j : Nat} {want : Bool} {a b : St → Option ρ} : guardR ops ⟨d, op, ty, pos, aft, some (j, want)⟩ ⟨e, h⟩ a b = guA ((ops[j]?).bind (·.dst)) want e h a b := by
  unfold guardR guA
  dsimp only
  cases (ops[j]?).bind (·.dst) <;> rfl
@[simp] theorem guardR_none {d : Option Tmp} {op : Op} {ty : TypeId} {pos : String} {aft : Array Edge} {a b : St → Option ρ} : guardR ops ⟨d, op, ty, pos, aft, none⟩ ⟨e, h⟩ a b = a ⟨e, h⟩ := rfl
@[simp] theorem guA_none {want : Bool} {a b : St → Option ρ} : guA none want e h a b = b ⟨e, h⟩ := rfl
@[simp] theorem guA_some {t : Nat} {want : Bool} {a b : St → Option ρ} : guA (some t) want e h a b = guB e[t]? t want e h a b := rfl
@[simp high] theorem guB_tt {t : Nat} {a b : St → Option ρ} : guB (some (.one (.bool true))) t true e h a b = a ((St.mk e h).lit t true) := rfl
@[simp high] theorem guB_ff {t : Nat} {a b : St → Option ρ} : guB (some (.one (.bool false))) t false e h a b = a ((St.mk e h).lit t false) := rfl
@[simp high] theorem guB_tf {t : Nat} {a b : St → Option ρ} : guB (some (.one (.bool true))) t false e h a b = b ((St.mk e h).lit t true) := rfl
@[simp high] theorem guB_ft {t : Nat} {a b : St → Option ρ} : guB (some (.one (.bool false))) t true e h a b = b ((St.mk e h).lit t false) := rfl
@[simp low] theorem guB_t {t : Nat} {v : Bool} {a b : St → Option ρ} : guB (some (.one (.bool v))) t true e h a b = bif v then a ((St.mk e h).lit t true) else b ((St.mk e h).lit t false) := by cases v <;> rfl
@[simp low] theorem guB_f {t : Nat} {v : Bool} {a b : St → Option ρ} : guB (some (.one (.bool v))) t false e h a b = bif v then b ((St.mk e h).lit t true) else a ((St.mk e h).lit t false) := by cases v <;> rfl
@[simp] theorem guB_tup {t : Nat} {want : Bool} {l : List LV1} {a b : St → Option ρ} : guB (some (.tup l)) t want e h a b = b ⟨e, h⟩ := rfl
attribute [simp] guardR'
@[simp] theorem nxt_none : nxt none k = k := rfl
@[simp] theorem nxt_some {nm : Nm} {e : List LV} {h : List Blk} : nxt (some nm) k ⟨e, h⟩ = k ((St.mk e h).norm nm) := rfl
@[simp] theorem meet_self' {a : Option ρ} : meet a a = a := meet_self
@[simp] theorem chk_true {k : Option ρ} : chk True k = k := chk_pos trivial
@[simp] theorem chk_false {k : Option ρ} : chk False k = none := by simp [chk]
@[simp] theorem norm' {nm : Nm} : (St.mk e h).norm nm = ((St.mk e h).fixes nm.fix).gc nm.keep := rfl
@[simp] theorem fixes_nil' : (St.mk e h).fixes [] = ⟨e, h⟩ := rfl
@[simp] theorem fixes_cons' {f : Fix} {r : List Fix} : (St.mk e h).fixes (f :: r) = ((St.mk e h).fix1 f).fixes r := rfl
@[simp] theorem retS' {dp : Bool} {rs : List TI} {rvs : List ResultVar} : retS tt dp rs rvs ⟨e, h⟩ = match resLVs tt ⟨e, h⟩ rvs with
  | none => none
  | some ls => match implodeArgs h rs ls with
    | none => none
    | some y => bif dp then (bif ownR h ls then some y else none) else some y := rfl
@[simp] theorem retR_ret {dp : Bool} {rs : List TI} {rvs : List ResultVar} {st : St} : retR tt dp rs rvs .ret st = retS tt dp rs rvs st := rfl
@[simp] theorem retR_normal {dp : Bool} {rs : List TI} {rvs : List ResultVar} {st : St} : retR tt dp rs rvs .normal st = retS tt dp rs rvs st := rfl
attribute [simp] rdLt ownR St.fix1 stepR treeR Tree.isStop entryP rid cut
end
/-- A function is what its code is run to (by its parameters). -/
theorem sound_run {P : Program} {tt : TT} {Γ : Gam} (hT : TTok P tt) (hΓ : ∀ f g, Γ.get f = some g → Sound P f g) (hm : P.follows .mixedOrders = true) {f : FuncId} {fn : Func} {c : Code} {g : G} (hf : P.funcs[f]? = some fn) (hb : fn.body = some c) (hname : (fn.name == "runtime.NumGoroutine") = false)
    (hrun : ∀ x : Vals g.ps, g.pre x → ∃ T : Tab, plansOk T.tr c = true ∧ runT tt Γ T c (retR tt g.dp g.rs fn.results.toList) (entryP g.ps fn.ntmps x) = some (g.fn x)) : Sound P f g :=
  sound_of_run hT hΓ hm hf hb hname hrun
end Go.T
/- Plain: walks over a list by an index. -/
namespace Go.T
open Go

variable {ρ α σ : Type}
theorem drop_at {xs : List α} {i : Nat} (h : i < xs.length) : xs.drop i = xs[i] :: xs.drop (i + 1) := List.drop_eq_getElem_cons h
theorem getD_at {xs : List α} {i : Nat} (h : i < xs.length) (d : α) : xs.getD i d = xs[i] := by simp [List.getD, h]
theorem getD_atI {xs : List α} {i : Nat} (h : i < xs.length) (d : α) : xs.getD (Int.toNat (i : Int)) d = xs[i] := by simp [List.getD, h]
theorem wrapN {i n : Nat} (h : i < n) (hn : n ≤ 1048576) : IntKind.i64.wrap ((i : Int) + 1) = ((i + 1 : Nat) : Int) := wrap_succ h hn
theorem ltI {i n : Nat} (h : i < n) : ((i : Int) < (n : Int)) = True := by simp; omega
theorem geI {i n : Nat} (h : n ≤ i) : ((i : Int) < (n : Int)) = False := by simp; omega
theorem inI' {i n : Nat} (h : i < n) : ((0 : Int) ≤ (i : Int) ∧ (i : Int) < (n : Int)) = True := by simp; omega

/-- A walk in continuations. -/
def foldK (step : Nat → α → σ → (σ → Option ρ) → Option ρ) : Nat → List α → σ → (σ → Option ρ) → Option ρ
  | _, [], s, k => k s
  | i, x :: r, s, k => step i x s fun s' => foldK step (i + 1) r s' k
theorem loop_foldI {F : Nat → Int → σ → Option ρ} {xs : List α} {step : Nat → α → σ → (σ → Option ρ) → Option ρ} {k : σ → Option ρ} (hl : xs.length ≤ 1048576)
    (hF : ∀ (n i : Nat) (s : σ) (h : i < xs.length), F (n + 1) (i : Int) s = step i xs[i] s fun s' => F n (IntKind.i64.wrap ((i : Int) + 1)) s') (hE : ∀ (n i : Nat) (s : σ), xs.length ≤ i → F (n + 1) (i : Int) s = k s) :
    ∀ (n i : Nat) (s : σ), i ≤ xs.length → xs.length - i < n → F n (i : Int) s = foldK step i (xs.drop i) s k
  | 0, _, _, _, h => by omega
  | n + 1, i, s, hi, h => by
    by_cases hlt : i < xs.length
    · rw [hF n i s hlt, drop_at hlt, foldK, wrapN hlt hl]
      congr 1
      funext s'
      exact loop_foldI hl hF hE n (i + 1) s' (by omega) (by omega)
    · rw [hE n i s (by omega), List.drop_eq_nil_of_le (by omega), foldK]
theorem loop_fold {F : Nat → Int → σ → Option ρ} {xs : List α} {step : Nat → α → σ → (σ → Option ρ) → Option ρ} {k : σ → Option ρ} (hl : xs.length ≤ 1048576)
    (hF : ∀ (n i : Nat) (s : σ) (h : i < xs.length), F (n + 1) (i : Int) s = step i xs[i] s fun s' => F n (IntKind.i64.wrap ((i : Int) + 1)) s') (hE : ∀ (n i : Nat) (s : σ), xs.length ≤ i → F (n + 1) (i : Int) s = k s)
    (n : Nat) (s : σ) (hn : xs.length < n) : F n 0 s = foldK step 0 xs s k := by
  have := loop_foldI hl hF hE n 0 s (by omega) (by omega)
  simpa using this

theorem foldK_all {p : α → Bool} {r : Option ρ} {k : Unit → Option ρ} : ∀ (xs : List α) (i : Nat), foldK (fun _ x _ K => bif p x then K () else r) i xs () k = bif xs.all p then k () else r
  | [], _ => rfl
  | x :: xs, i => by
    rw [foldK]; dsimp only; rw [foldK_all xs]
    cases h : p x <;> simp [h]
/-- A walk that gathers. -/
theorem foldK_fold {f : σ → α → σ} {k : σ → Option ρ} : ∀ (xs : List α) (i : Nat) (s : σ), foldK (fun _ x s K => K (f s x)) i xs s k = k (xs.foldl f s)
  | [], _, _ => rfl
  | x :: xs, i, s => by rw [foldK]; dsimp only; rw [foldK_fold xs]; rfl
/-- Steps that are the same on the list's elements. -/
theorem foldK_congr {st st' : Nat → α → σ → (σ → Option ρ) → Option ρ} {k : σ → Option ρ} : ∀ (xs : List α) (i : Nat) (s : σ), (∀ j x s K, x ∈ xs → st j x s K = st' j x s K) → foldK st i xs s k = foldK st' i xs s k
  | [], _, _, _ => rfl
  | x :: xs, i, s, h => by
    rw [foldK, foldK, h i x s _ (by simp)]
    congr 1
    funext s'
    exact foldK_congr xs (i + 1) s' fun j y s K hy => h j y s K (by simp [hy])
theorem bif_not {b : Bool} {x y : α} : (bif !b then x else y) = bif b then y else x := by cases b <;> rfl
theorem bif_dec {p : Prop} [Decidable p] {x y : α} (h : p) : (bif decide p then x else y) = x := by simp [h]
theorem bif_decN {p : Prop} [Decidable p] {x y : α} (h : ¬ p) : (bif decide p then x else y) = y := by simp [h]
end Go.T
/- Plain: sizes, copies, equality of rows. -/
namespace Go.T
open Go

variable {ρ α : Type}
theorem sz_loop {t : Ty} : ∀ (xs : List (Val t)) (i : Nat) (n : Int), 0 ≤ n → n ≤ 1048576 → (∀ x ∈ xs, Sm t x) →
    foldK (fun _ x (s : Int) (K : Int → Option (Int × Unit)) => chk (szPre t x s) (bif decide (szV t x s < 0) then some ((-1 : Int), ()) else K (szV t x s))) i xs n (fun s => some (s, ())) = some (szL (szV t) xs n, ())
  | [], _, _, _, _, _ => rfl
  | x :: xs, i, n, h0, h1, hs => by
    rw [foldK, chk_pos ⟨hs x (by simp), h0, h1⟩, szL]
    by_cases c : szV t x n < 0
    · rw [bif_dec c, if_pos c]
    · rw [bif_decN c, if_neg c]
      exact sz_loop xs (i + 1) _ (by omega) (by have := (szV_le t x n h0).1; omega) fun y hy => hs y (by simp [hy])
theorem copy_loopI {F : Nat → Int → List α → Option ρ} {xs : List α} {k : List α → Option ρ} (d : α) (hl : xs.length ≤ 1048576)
    (hF : ∀ (n i : Nat) (s : List α) (h : i < xs.length), s.length = xs.length → F (n + 1) (i : Int) s = F n (IntKind.i64.wrap ((i : Int) + 1)) (s.set i xs[i])) (hE : ∀ (n i : Nat) (s : List α), xs.length ≤ i → F (n + 1) (i : Int) s = k s) :
    ∀ (n i : Nat), i ≤ xs.length → xs.length - i < n → F n (i : Int) (fillP xs d i) = k xs
  | 0, _, _, h => by omega
  | n + 1, i, hi, h => by
    by_cases hlt : i < xs.length
    · rw [hF n i _ hlt (fillP_len hi), wrapN hlt hl]
      have : (fillP xs d i).set i xs[i] = fillP xs d (i + 1) := by
        have := fillP_set (d := d) (d' := d) hlt
        rwa [List.getElem?_eq_getElem hlt, Option.getD_some] at this
      rw [this]
      exact copy_loopI d hl hF hE n (i + 1) (by omega) (by omega)
    · rw [hE n i _ (by omega), fillP_end (by omega)]
theorem copy_loop {F : Nat → Int → List α → Option ρ} {xs : List α} {k : List α → Option ρ} (d : α) (hl : xs.length ≤ 1048576)
    (hF : ∀ (n i : Nat) (s : List α) (h : i < xs.length), s.length = xs.length → F (n + 1) (i : Int) s = F n (IntKind.i64.wrap ((i : Int) + 1)) (s.set i xs[i])) (hE : ∀ (n i : Nat) (s : List α), xs.length ≤ i → F (n + 1) (i : Int) s = k s) (n : Nat) (hn : xs.length < n) :
    F n 0 (List.replicate xs.length d) = k xs := by
  have := copy_loopI d hl hF hE n 0 (by omega) (by omega)
  rw [← fillP_zero] at this
  simpa using this
theorem eqL_zip {f : α → α → Bool} : ∀ (xs ys : List α), xs.length = ys.length → eqL f xs ys = (xs.zip ys).all fun p => f p.1 p.2
  | [], [], _ => rfl
  | [], _ :: _, h => by simp at h
  | _ :: _, [], h => by simp at h
  | x :: xs, y :: ys, h => by simp [eqL, eqL_zip xs ys (by simpa using h)]
theorem eq_loop {f : α → α → Bool} {xs ys : List α} (hl : xs.length ≤ 1048576) (he : xs.length = ys.length) {F : Nat → Int → Option ρ} {k : Unit → Option ρ} {r : Option ρ}
    (hF : ∀ (n i : Nat) (h : i < xs.length) (h' : i < ys.length), F (n + 1) (i : Int) = bif f xs[i] ys[i] then F n (IntKind.i64.wrap ((i : Int) + 1)) else r) (hE : ∀ (n i : Nat), xs.length ≤ i → F (n + 1) (i : Int) = k ()) (n : Nat) (hn : xs.length < n) :
    F n 0 = bif eqL f xs ys then k () else r := by
  rw [eqL_zip xs ys he]
  have hz : (xs.zip ys).length = xs.length := by simp [he]
  refine (loop_fold (F := fun n i (_ : Unit) => F n i) (xs := xs.zip ys) (step := fun _ p _ K => bif f p.1 p.2 then K () else r) (k := k) (by omega) (fun n i s hi => ?_) (fun n i s hi => ?_) n () (by omega)).trans (foldK_all _ 0)
  · rw [hF n i (by omega) (by omega)]
    simp
  · exact hE n i (by omega)
theorem szP_neg {a b : Ty} {x : Val a} {y : Val b} {n : Int} (h : szV a x n < 0) : szV (.pair a b) (x, y) n = -1 := szV_pair_neg (v := (x, y)) h
theorem szP_pos {a b : Ty} {x : Val a} {y : Val b} {n : Int} (h : 0 ≤ szV a x n) : szV (.pair a b) (x, y) n = szV b y (szV a x n) := szV_pair_pos (v := (x, y)) h
theorem szP_int {k : IntKind} {b : Ty} {x : Int} {y : Val b} {n : Int} (h : 0 ≤ n) : szV (.pair (.int k) b) (x, y) n = szV b y n := szV_pair_pos (a := .int k) (v := (x, y)) h
theorem szP_bool {b : Ty} {x : Bool} {y : Val b} {n : Int} (h : 0 ≤ n) : szV (.pair .bool b) (x, y) n = szV b y n := szV_pair_pos (a := .bool) (v := (x, y)) h
theorem szP_strneg {b : Ty} {x : ByteArray} {y : Val b} {n : Int} (h : n - (x.size : Int) < 0) : szV (.pair .str b) (x, y) n = -1 := szV_pair_neg (a := .str) (v := (x, y)) (by rw [szV_str_neg h]; decide)
theorem szP_strpos {b : Ty} {x : ByteArray} {y : Val b} {n : Int} (h : 0 ≤ n - (x.size : Int)) : szV (.pair .str b) (x, y) n = szV b y (n - x.size) := by
  rw [szP_pos (a := .str) (by rw [szV_str_pos h]; exact h), szV_str_pos h]
theorem bif_some {b : Bool} : (bif b then some (true, ()) else some (false, ()) : Option (Bool × Unit)) = some (b, ()) := by cases b <;> rfl
theorem bif_true {b : Bool} {x y : ρ} (h : b = true) : (bif b then x else y) = x := by rw [h]; rfl
theorem bif_false {b : Bool} {x y : ρ} (h : b = false) : (bif b then x else y) = y := by rw [h]; rfl
theorem eqS {e : Nat} {t : Ty} {x y : List (Val t)} : eqV (.slice e t) x y = eqL (eqV t) x y := rfl
theorem wrapSub {n : Int} {k : Nat} (h0 : 0 ≤ n) (h1 : n ≤ 1048576) (hk : k ≤ maxLen) : IntKind.i64.wrap (n - (k : Int)) = n - k := wrap64 (by simp only [maxLen] at hk; omega) (by omega)
theorem chk_len {k : Nat} (h : k ≤ 1048576) : (0 : Int) ≤ (k : Int) ∧ (k : Int) ≤ (k : Int) ∧ (k : Int) ≤ 1048576 := by omega
end Go.T
