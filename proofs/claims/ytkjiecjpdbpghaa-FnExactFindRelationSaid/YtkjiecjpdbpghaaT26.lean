/- T: regions in their order. -/
import Derived.Test.YtkjiecjpdbpghaaT25
import Derived.Orders
namespace Go.T
open Go

def St.lit (st : St) (t : Nat) (b : Bool) : St := { st with env := st.env.set t (.one (.bool b)) }
theorem St.lit_self {st : St} {t : Nat} {b : Bool} (h : st.env[t]? = some (.one (.bool b))) : st.lit t b = st := by
  obtain ⟨env, heap⟩ := st
  simp only [St.lit, St.mk.injEq, and_true]
  apply List.ext_getElem?
  intro j
  by_cases e : t = j
  · subst e
    rw [List.getElem?_set_self (List.getElem?_eq_some_iff.1 h).1]
    exact h.symm
  · rw [List.getElem?_set_ne e]

/-- Is an operation wanted? -/
def guardW (ops : Array Oper) (o : Oper) (st : St) (yes no : St → Prop) : Prop := match o.guard with
  | none => yes st
  | some (j, want) => match (ops[j]?).bind (·.dst) with
    | none => no st
    | some t => match st.env[t]? with
      | some (.one (.bool b)) => (b = want → yes (st.lit t want)) ∧ (b = !want → no (st.lit t (!want)))
      | some (.tup _) => no st
      | none => no st
      | _ => False

/-- An operation that T doesn't know: by what is known of it. -/
def callW (P : Program) (o : Oper) (st : St) (k : St → Prop) : Prop :=
  ∀ (w0 : World) (mine : Mine) (a : Act) (w : World) (next : Act → World → Prop) (Q : Exit → Act → World → Prop), R w0 mine st a w → (∀ a' w' st', R w0 mine st' a' w' → k st' → next a' w') → o.wp P a w next Q

def opW (P : Program) (tt : TT) (Γ : Gam) (o : Oper) (st : St) (k : St → Prop) : Prop := match stepAll tt Γ o st with
  | some (p, st') => p ∧ k st'
  | none => callW P o st k

def regionW (P : Program) (tt : TT) (Γ : Gam) (ops : Array Oper) : List Oper → St → (St → Prop) → Prop
  | [], st, k => k st
  | o :: os, st, k => guardW ops o st (fun st => opW P tt Γ o st fun st => regionW P tt Γ ops os st k) (fun st => regionW P tt Γ ops os (st.put o.dst (.tup [])) k)

section
variable {P : Program} {tt : TT} {Γ : Gam} {o : Oper} {ops : Array Oper} {a : Act} {w0 w w' : World} {mine : Mine} {st : St} {next : Act → World → Prop} {Q : Exit → Act → World → Prop}

theorem stepAll_sound (hT : TTok P tt) (hΓ : ∀ f g, Γ.get f = some g → Sound P f g) {p : Prop} {st' : St} (hs : stepAll tt Γ o st = some (p, st')) (hp : p) (hr : R w0 mine st a w) (hn : ∀ a' w', R w0 mine st' a' w' → next a' w') : o.wp P a w next Q := by
  unfold stepAll at hs
  split at hs
  · rename_i c ho
    split at hs
    · rename_i f hc
      exact snd_call hΓ ho hc hs hp hr hn
    · exact stepOp_sound hT hs hp hr hn
  · exact stepOp_sound hT hs hp hr hn

theorem opW_sound (hT : TTok P tt) (hΓ : ∀ f g, Γ.get f = some g → Sound P f g) {k : St → Prop} (h : opW P tt Γ o st k) (hr : R w0 mine st a w) (hn : ∀ a' w' st', R w0 mine st' a' w' → k st' → next a' w') : o.wp P a w next Q := by
  unfold opW at h
  split at h
  · rename_i p st' hs
    exact stepAll_sound hT hΓ hs h.1 hr fun a' w' hr' => hn a' w' st' hr' h.2
  · exact h w0 mine a w next Q hr hn

theorem R.slot (hr : R w0 mine st a w) {t : Nat} {l : LV} (h : st.env[t]? = some l) : ∃ m h v, a.tmps[t]? = some v ∧ V w m h l v := by
  obtain ⟨_, m, H, he⟩ := hr
  obtain ⟨v, hv, hV⟩ := he.get h
  exact ⟨m, _, v, by simpa using hv, hV⟩
theorem R.noslot (hr : R w0 mine st a w) {t : Nat} (h : st.env[t]? = none) : a.tmps[t]? = none := by
  obtain ⟨_, m, H, he⟩ := hr
  have := he.len
  simp at h
  simp
  simp at this
  omega

theorem yielded_some {j t : Nat} (h : (ops[j]?).bind (·.dst) = some t) (tmps : Array Value) : yielded ops tmps j = match tmps[t]? with | some (.bool b) => some b | _ => none := by
  unfold yielded
  rw [h]
  simp only [Option.bind_some]
  cases tmps[t]? with
  | none => rfl
  | some v => cases v <;> rfl
theorem yielded_none {j : Nat} (h : (ops[j]?).bind (·.dst) = none) (tmps : Array Value) : yielded ops tmps j = none := by
  simp [yielded, h]

theorem guardW_sound {yes no : St → Prop} (h : guardW ops o st yes no) (hr : R w0 mine st a w) : (Region.wanted o (yielded ops a.tmps) = true ∧ yes st) ∨ (Region.wanted o (yielded ops a.tmps) = false ∧ no st) := by
  unfold guardW at h
  unfold Region.wanted
  split at h
  · rename_i hg
    rw [hg]; exact .inl ⟨rfl, h⟩
  · rename_i j want hg
    rw [hg]
    simp only
    split at h
    · rename_i hb
      rw [yielded_none hb]
      exact .inr ⟨rfl, h⟩
    · rename_i t hb
      rw [yielded_some hb]
      split at h
      · rename_i b hs
        obtain ⟨m, hh, v, hv, hV⟩ := hr.slot hs
        have hv' : v = .bool b := hV
        subst hv'
        rw [hv]
        simp only
        by_cases e : b = want
        · subst e
          have := h.1 rfl
          rw [St.lit_self hs] at this
          exact .inl ⟨by simp, this⟩
        · have e' : b = !want := by cases b <;> cases want <;> simp_all
          have := h.2 e'
          rw [← e', St.lit_self hs] at this
          exact .inr ⟨by simpa using e, this⟩
      · rename_i ls hs
        obtain ⟨m, hh, v, hv, hV⟩ := hr.slot hs
        obtain ⟨vs, rfl, _⟩ := hV
        rw [hv]
        exact .inr ⟨rfl, h⟩
      · rename_i hs
        rw [hr.noslot hs]
        exact .inr ⟨rfl, h⟩
      · exact h.elim

theorem R.skip (hr : R w0 mine st a w) (d : Option Tmp) : R w0 mine (st.put d (.tup [])) (a.put d undef) w :=
  hr.put d fun m H he => ⟨#[], rfl, .nil⟩

theorem regionW_sound (hT : TTok P tt) (hΓ : ∀ f g, Γ.get f = some g → Sound P f g) {k : St → Prop} (hQ : ∀ a w st, R w0 mine st a w → k st → Q .normal a w) :
    ∀ (os pre : List Oper), ops.toList = pre ++ os → ∀ (st : St) (a : Act) (w : World), regionW P tt Γ ops os st k → R w0 mine st a w → wpOps P ops Q (List.range' pre.length os.length) a w
  | [], pre, _, st, a, w, h, hr => hQ a w st hr h
  | o :: os, pre, he, st, a, w, h, hr => by
    have hi : ops[pre.length]? = some o := by rw [← Array.getElem?_toList, he]; simp
    have hrest : ∀ st' a' w', regionW P tt Γ ops os st' k → R w0 mine st' a' w' → wpOps P ops Q (List.range' (pre.length + 1) os.length) a' w' := fun st' a' w' h' hr' => by
      have := regionW_sound hT hΓ hQ os (pre ++ [o]) (by rw [he]; simp) st' a' w' h' hr'
      simpa using this
    rw [List.length_cons, List.range'_succ, wpOps_cons]
    unfold wpOp
    simp only [hi]
    rcases guardW_sound h hr with ⟨hw, h'⟩ | ⟨hw, h'⟩
    · rw [if_pos hw]
      exact .inl (opW_sound hT hΓ h' hr fun a' w' st' hr' hk => hrest st' a' w' hk hr')
    · rw [if_neg (by rw [hw]; simp)]
      exact hrest _ _ _ h' (hr.skip o.dst)
end
end Go.T
