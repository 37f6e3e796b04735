/- T: the order of a region's branches, planned. -/
import Derived.Test.YtkjiecjpdbpghaaT27
namespace Go.T
open Go

def quietAt (ops : Array Oper) (i : Nat) : Bool := match ops[i]? with
  | some o => quietB o
  | none => false
def hangs (ops : Array Oper) (S : List Nat) (j : Nat) : Bool := match ops[j]? with
  | some o => o.after.any fun e => Region.binds .any e && S.contains e.on
  | none => false
def succs (ops : Array Oper) (i : Nat) : List Nat := (List.range ops.size).foldl (fun S j => if j != i && hangs ops S j then j :: S else S) [i]

def planOk (ops : Array Oper) : Tree → Nat → Array Bool → List Nat → Bool
  | .done, _, listed, _ => (Region.ready .any ops listed).isEmpty
  | .first i t, fuel + 1, listed, _ => (Region.ready .any ops listed).contains i && Region.free .any ops listed i && quietAt ops i && planOk ops t fuel (listed.setIfInBounds i true) []
  | .quiet i t, fuel + 1, listed, _ => (Region.ready .any ops listed).contains i && Region.free .any ops listed i && quietAt ops i &&
      ((succs ops i).contains i && (succs ops i).all (fun j => j == i || hangs ops (succs ops i) j) && (succs ops i).all (fun j => listed.getD j true == false) &&
        (List.range ops.size).all fun j => listed.getD j true || (succs ops i).contains j || quietAt ops j) &&
      planOk ops t fuel (listed.setIfInBounds i true) []
  | .alt i t r, fuel + 1, listed, acc => planOk ops t fuel (listed.setIfInBounds i true) [] && planOk ops r (fuel + 1) listed (i :: acc)
  | .stop, _ + 1, listed, acc => !acc.isEmpty && (!(Region.ready .any ops listed).isEmpty) && (Region.ready .any ops listed).all fun i => acc.contains i
  | _, 0, _, _ => false

def rdFree (ops : Array Oper) (i : Nat) (st : St) : Prop := match ops[i]? with
  | some o => opRd o st = none
  | none => False

def treeW (tt : TT) (Γ : Gam) (ops : Array Oper) : Tree → St → (St → Prop) → Prop
  | .done, st, k => k st
  | .first i t, st, k => rdFree ops i st ∧ stepL tt Γ ops i st fun st => treeW tt Γ ops t st k
  | .quiet i t, st, k => stepL tt Γ ops i st fun st => treeW tt Γ ops t st k
  | .alt i t r, st, k => (stepL tt Γ ops i st fun st => treeW tt Γ ops t st k) ∧ treeW tt Γ ops r st k
  | .stop, _, _ => True

section
variable {tt : TT} {Γ : Gam} {ops : Array Oper}

theorem quietAt_spec {i : Nat} (h : quietAt ops i = true) : ∃ o, ops[i]? = some o ∧ quietB o = true := by
  unfold quietAt at h
  split at h
  · rename_i o ho; exact ⟨o, ho, h⟩
  · simp at h
theorem hangs_spec {S : List Nat} {j : Nat} (h : hangs ops S j = true) : ∃ oj e, ops[j]? = some oj ∧ e ∈ oj.after ∧ Region.binds .any e = true ∧ e.on ∈ S := by
  unfold hangs at h
  split at h
  · rename_i o ho
    obtain ⟨e, he, hb⟩ := Array.any_eq_true'.1 h
    simp only [Bool.and_eq_true] at hb
    exact ⟨o, e, ho, he, hb.1, by simpa using hb.2⟩
  · simp at h

theorem treeW_all {k : St → Prop} : ∀ (t : Tree) (fuel : Nat) (listed : Array Bool) (acc : List Nat) (st : St), planOk ops t fuel listed acc = true → treeW tt Γ ops t st k →
    (∀ f, fuel = f + 1 → ∀ i ∈ acc, stepI tt Γ ops i st fun s => allT tt Γ ops f (listed.setIfInBounds i true) s k) → allT tt Γ ops fuel listed st k
  | .done, fuel, listed, acc, st, hp, h, _ => by
    have hr : Region.ready .any ops listed = [] := by
      cases fuel <;> simpa [planOk] using hp
    cases fuel with
    | zero => exact ⟨hr, h⟩
    | succ f => exact ⟨fun _ => h, by rw [hr]; simp⟩
  | .first i t, 0, listed, acc, st, hp, h, _ => by simp [planOk] at hp
  | .first i t, fuel + 1, listed, acc, st, hp, h, _ => by
    simp only [planOk, Bool.and_eq_true] at hp
    obtain ⟨⟨⟨hr, hfr⟩, hq⟩, hp⟩ := hp
    obtain ⟨o, ho, hq⟩ := quietAt_spec hq
    obtain ⟨hrd, hs⟩ := h
    unfold rdFree at hrd
    simp only [ho] at hrd
    obtain ⟨l, hk, hy⟩ := yields (free := true) ho hq (fun _ => hrd) (stepL_I hs)
    have hri : i ∈ Region.ready .any ops listed := by simpa using hr
    refine allT_first (S := [i]) ho (fun j hj hne => by simp at hj; exact absurd hj hne) (by simp) fuel listed st (Region.free_spec ho hfr) (fun s hs => ?_) (fun _ _ _ _ _ h => by simp at h) hri hy ?_
    · simp at hs; subst hs; exact (mem_ready.1 hri).1
    · exact treeW_all t fuel _ [] _ hp hk (fun _ _ _ h => by simp at h)
  | .quiet i t, 0, listed, acc, st, hp, h, _ => by simp [planOk] at hp
  | .quiet i t, fuel + 1, listed, acc, st, hp, h, _ => by
    simp only [planOk, Bool.and_eq_true] at hp
    obtain ⟨⟨⟨⟨hr, hfr⟩, hq⟩, ⟨⟨hc, hS⟩, hU⟩, hQ⟩, hp⟩ := hp
    obtain ⟨o, ho, hq⟩ := quietAt_spec hq
    obtain ⟨l, hk, hy⟩ := yields (free := false) ho hq (fun h => by simp at h) (stepL_I h)
    have hri : i ∈ Region.ready .any ops listed := by simpa using hr
    refine allT_first (S := succs ops i) ho (fun j hj hne => ?_) (by simpa using hc) fuel listed st (Region.free_spec ho hfr) (fun s hs => ?_) (fun j oj hoj hun hns _ => ?_) hri hy ?_
    · have := List.all_eq_true.1 hS j hj
      simp only [Bool.or_eq_true, beq_iff_eq] at this
      rcases this with e | e
      · exact absurd e hne
      · exact hangs_spec e
    · have := List.all_eq_true.1 hU s hs
      simpa using this
    · have hjl : j < ops.size := (Array.getElem?_eq_some_iff.1 hoj).1
      have := List.all_eq_true.1 hQ j (by simpa using hjl)
      simp only [Bool.or_eq_true] at this
      rcases this with (e | e) | e
      · rw [hun] at e; simp at e
      · exact absurd (by simpa using e) hns
      · obtain ⟨o', ho', hq'⟩ := quietAt_spec e
        rw [hoj] at ho'; cases ho'; exact hq'
    · exact treeW_all t fuel _ [] _ hp hk (fun _ _ _ h => by simp at h)
  | .alt i t r, 0, listed, acc, st, hp, h, _ => by simp [planOk] at hp
  | .alt i t r, fuel + 1, listed, acc, st, hp, h, ha => by
    simp only [planOk, Bool.and_eq_true] at hp
    refine treeW_all r (fuel + 1) listed (i :: acc) st hp.2 h.2 fun f hf j hj => ?_
    rcases List.mem_cons.1 hj with rfl | hj
    · have : f = fuel := by omega
      subst this
      exact stepI_mono (fun s hs => treeW_all t f _ [] s hp.1 hs (fun _ _ _ h => by simp at h)) (stepL_I h.1)
    · exact ha f hf j hj
  | .stop, 0, listed, acc, st, hp, h, _ => by simp [planOk] at hp
  | .stop, fuel + 1, listed, acc, st, hp, h, ha => by
    simp only [planOk, Bool.and_eq_true] at hp
    obtain ⟨⟨_, hne⟩, hall⟩ := hp
    refine ⟨fun h0 => (by rw [h0] at hne; simp at hne), fun i hi => ?_⟩
    have := List.all_eq_true.1 hall i hi
    exact ha fuel rfl i (by simpa using this)
end
end Go.T
