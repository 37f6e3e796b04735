/- T: code. -/
import Derived.Test.YtkjiecjpdbpghaaT28
namespace Go.T
open Go

inductive X
  | normal
  | ret
  | exit (id : Nat)

/-- Whatever T's one state tells of the machine, the other tells too. -/
def Le (s s' : St) : Prop := ∀ (w0 : World) (mine : Mine) (a : Act) (w : World), R w0 mine s a w → R w0 mine s' a w
theorem Le.refl (s : St) : Le s s := fun _ _ _ _ h => h
theorem Le.trans {s1 s2 s3 : St} (h : Le s1 s2) (h' : Le s2 s3) : Le s1 s3 := fun w0 mine a w hr => h' w0 mine a w (h w0 mine a w hr)

def seqQ (k : St → Prop) (Q : X → St → Prop) : X → St → Prop
  | .normal, st => k st
  | .ret, st => Q .ret st
  | .exit id, st => Q (.exit id) st
def blockQ (id : Nat) (Q : X → St → Prop) : X → St → Prop
  | .normal, st => Q .normal st
  | .ret, st => Q .ret st
  | .exit id', st => if id' = id then Q .normal st else Q (.exit id') st
def St.litO (st : St) (c : Operand) (b : Bool) : St := match c with
  | .tmp t => st.lit t b
  | _ => st
def condW (c : Operand) (st : St) (x y : St → Prop) : Prop := match st.ev c with
  | .one (.bool b) => (b = true → x (st.litO c true)) ∧ (b = false → y (st.litO c false))
  | _ => False
/-- A loop: what it is at each round's head, up to what is forgotten; what falls. -/
def loopW (round : (X → St → Prop) → St → Prop) (Q : X → St → Prop) (st : St) : Prop :=
  ∃ (α : Type) (mk : α → St) (I : α → Prop) (μ : α → Nat), (∃ x, Le st (mk x) ∧ I x) ∧ ∀ x, I x → round (seqQ (fun s' => ∃ x', Le s' (mk x') ∧ I x' ∧ μ x' < μ x) Q) (mk x)

def wpT (P : Program) (tt : TT) (Γ : Gam) (tr : Nat → Tree) : Code → (X → St → Prop) → St → Prop
  | .skip, Q, st => Q .normal st
  | .region _ ops false, Q, st => regionW P tt Γ ops ops.toList st (Q .normal)
  | .region id ops true, Q, st => treeW tt Γ ops (tr id) st (Q .normal)
  | .seq a b, Q, st => wpT P tt Γ tr a (seqQ (wpT P tt Γ tr b Q) Q) st
  | .cond c x y, Q, st => condW c st (wpT P tt Γ tr x Q) (wpT P tt Γ tr y Q)
  | .block id c, Q, st => wpT P tt Γ tr c (blockQ id Q) st
  | .loop c, Q, st => loopW (wpT P tt Γ tr c) Q st
  | .exit id, Q, st => Q (.exit id) st
  | .ret, Q, st => Q .ret st
  | _, _, _ => False

def plansOk (tr : Nat → Tree) : Code → Bool
  | .region id ops true => planOk ops (tr id) ops.size (Array.replicate ops.size false) []
  | .seq a b => plansOk tr a && plansOk tr b
  | .cond _ a b => plansOk tr a && plansOk tr b
  | .block _ a => plansOk tr a
  | .loop a => plansOk tr a
  | _ => true

def liftQ (w0 : World) (mine : Mine) (Q : X → St → Prop) : Exit → Act → World → Prop
  | .normal, a, w => ∃ st, R w0 mine st a w ∧ Q .normal st
  | .ret, a, w => ∃ st, R w0 mine st a w ∧ Q .ret st
  | .exit id, a, w => ∃ st, R w0 mine st a w ∧ Q (.exit id) st
  | _, _, _ => False

section
variable {P : Program} {tt : TT} {Γ : Gam} {tr : Nat → Tree} {w0 : World} {mine : Mine}

theorem R.litO {st : St} {a : Act} {w : World} {c : Operand} {b : Bool} (h : st.ev c = .one (.bool b)) : st.litO c b = st := by
  cases c with
  | tmp t =>
    refine St.lit_self ?_
    simp only [St.ev, List.getD_eq_getElem?_getD] at h
    cases hx : st.env[t]? with
    | none => rw [hx] at h; simp at h
    | some l => rw [hx] at h; simp at h; rw [h]
  | _ => rfl

theorem exists_min {J : Nat → Prop} : ∀ {n : Nat}, J n → ∃ m, J m ∧ ∀ k, J k → m ≤ k := by
  intro n
  induction n using Nat.strongRecOn with
  | _ n ih =>
    intro hn
    by_cases h : ∃ k, k < n ∧ J k
    · obtain ⟨k, hk, hJ⟩ := h
      exact ih k hk hJ
    · exact ⟨n, hn, fun k hk => by
        rcases Nat.lt_or_ge k n with h' | h'
        · exact absurd ⟨k, h', hk⟩ h
        · exact h'⟩

open Classical in
theorem loop_sound {c : Code} {Q : X → St → Prop} (hc : ∀ (Q : X → St → Prop) (st : St) (a : Act) (w : World), wpT P tt Γ tr c Q st → R w0 mine st a w → c.wp P (liftQ w0 mine Q) a w) {st : St} {a : Act} {w : World}
    (h : loopW (wpT P tt Γ tr c) Q st) (hr : R w0 mine st a w) : (Code.loop c).wp P (liftQ w0 mine Q) a w := by
  obtain ⟨α, mk, I, μ, ⟨x0, hle, hI⟩, hround⟩ := h
  let J : Act → World → Nat → Prop := fun a w n => ∃ x, R w0 mine (mk x) a w ∧ I x ∧ μ x = n
  have hmin : ∀ a w, (∃ n, J a w n) → ∃ m, J a w m ∧ ∀ k, J a w k → m ≤ k := fun a w ⟨n, hn⟩ => exists_min hn
  let M : Act → World → Nat := fun a w => if h : ∃ n, J a w n then Classical.choose (hmin a w h) else 0
  have hM : ∀ a w n, J a w n → J a w (M a w) ∧ M a w ≤ n := fun a w n hn => by
    have hex : ∃ n, J a w n := ⟨n, hn⟩
    simp only [M, dif_pos hex]
    exact ⟨(Classical.choose_spec (hmin a w hex)).1, (Classical.choose_spec (hmin a w hex)).2 n hn⟩
  refine wp_loop (I := fun a w => ∃ n, J a w n) (μ := M) ⟨μ x0, x0, hle _ _ _ _ hr, hI, rfl⟩ fun a w hex => ?_
  obtain ⟨n, hn⟩ := hex
  obtain ⟨⟨x, hs, hIs, hμ⟩, _⟩ := hM a w n hn
  refine wp_mono (hc _ (mk x) a w (hround x hIs) hs) fun e a' w' he => ?_
  cases e with
  | normal =>
    obtain ⟨s', hs', x', hle', hI', hlt⟩ := he
    have hJ : J a' w' (μ x') := ⟨x', hle' _ _ _ _ hs', hI', rfl⟩
    refine ⟨⟨_, hJ⟩, ?_⟩
    have := (hM a' w' _ hJ).2
    rw [← hμ]
    omega
  | ret => exact he
  | exit id => exact he
  | _ => exact he

theorem wpT_sound (hT : TTok P tt) (hΓ : ∀ f g, Γ.get f = some g → Sound P f g) (hm : P.follows .mixedOrders = true) : ∀ (c : Code), plansOk tr c = true → ∀ (Q : X → St → Prop) (st : St) (a : Act) (w : World), wpT P tt Γ tr c Q st → R w0 mine st a w → c.wp P (liftQ w0 mine Q) a w
  | .skip, _, Q, st, a, w, h, hr => wp_skip ⟨st, hr, h⟩
  | .region id ops false, _, Q, st, a, w, h, hr => by
    refine wp_region ?_
    have := regionW_sound (ops := ops) (Q := liftQ w0 mine Q) hT hΓ (k := Q .normal) (fun a w st hr hk => ⟨st, hr, hk⟩) ops.toList [] rfl st a w h hr
    rw [List.range_eq_range']
    simpa using this
  | .region id ops true, hp, Q, st, a, w, h, hr => by
    refine wp_region_any hm ?_
    have h1 := treeW_all (tr id) ops.size _ [] st hp h (fun _ _ _ h => by simp at h)
    have hr' : R w0 mine st a { w with drawn := w.drawn + 1 } := by
      obtain ⟨hd, m, H, he⟩ := hr
      obtain ⟨H', hok, hs⟩ := H.heap_eq (w' := { w with drawn := w.drawn + 1 }) rfl rfl rfl rfl
      exact ⟨hd, m, H', env_mono hok hs he⟩
    exact allT_sound hT hΓ (k := Q .normal) (fun a w st hr hk => ⟨st, hr, hk⟩) _ _ st a _ h1 hr'
  | .seq x y, hp, Q, st, a, w, h, hr => by
    simp only [plansOk, Bool.and_eq_true] at hp
    refine wp_seq (wp_mono (wpT_sound hT hΓ hm x hp.1 _ st a w h hr) fun e a' w' he => ?_)
    cases e with
    | normal => obtain ⟨s, hs, hk⟩ := he; exact wpT_sound hT hΓ hm y hp.2 Q s a' w' hk hs
    | ret => exact he
    | exit id => exact he
    | _ => exact he
  | .cond c x y, hp, Q, st, a, w, h, hr => by
    simp only [plansOk, Bool.and_eq_true] at hp
    simp only [wpT, condW] at h
    split at h
    · rename_i b hb
      have hv : a.eval c = .bool b := by
        obtain ⟨hd, m, H, he⟩ := hr
        have := R.ev H he c
        rw [hb] at this
        exact this
      refine wp_cond hv ?_
      cases b with
      | true =>
        have := h.1 rfl
        rw [R.litO (a := a) (w := w) hb] at this
        exact wpT_sound hT hΓ hm x hp.1 Q st a w this hr
      | false =>
        have := h.2 rfl
        rw [R.litO (a := a) (w := w) hb] at this
        exact wpT_sound hT hΓ hm y hp.2 Q st a w this hr
    · exact h.elim
  | .block id c, hp, Q, st, a, w, h, hr => by
    refine wp_block (wp_mono (wpT_sound hT hΓ hm c hp _ st a w h hr) fun e a' w' he => ?_)
    cases e with
    | normal => exact he
    | ret => exact he
    | exit id' =>
      obtain ⟨s, hs, hk⟩ := he
      simp only [blockQ] at hk
      simp only [Exit.inBlock]
      split
      · rename_i e; rw [if_pos e] at hk; exact ⟨s, hs, hk⟩
      · rename_i e; rw [if_neg e] at hk; exact ⟨s, hs, hk⟩
    | _ => exact he
  | .loop c, hp, Q, st, a, w, h, hr => loop_sound (fun Q st a w h hr => wpT_sound hT hΓ hm c hp Q st a w h hr) h hr
  | .exit id, _, Q, st, a, w, h, hr => wp_exit ⟨st, hr, h⟩
  | .ret, _, Q, st, a, w, h, hr => wp_ret ⟨st, hr, h⟩
  | .rangeFunc .., _, _, _, _, _, h, _ => h.elim
  | .scope _, _, _, _, _, _, h, _ => h.elim
  | .label _, _, _, _, _, _, h, _ => h.elim
  | .goto _, _, _, _, _, _, h, _ => h.elim
  | .refuse _, _, _, _, _, _, h, _ => h.elim
end
end Go.T
