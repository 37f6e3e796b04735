/- T: what a step depends upon. -/
import Derived.Test.YtkjiecjpdbpghaaT20
namespace Go.T
open Go

def St.res (st : St) (d : Option Tmp) (l : LV) (h : List Blk) : St := { (st.put d l) with heap := h }
theorem St.res_self (st : St) (d : Option Tmp) (l : LV) : st.res d l st.heap = st.put d l := by
  cases d <;> rfl
theorem St.go_res (st : St) (d : Option Tmp) (c : LC) : st.go d c = some (True, st.res d (.one c) st.heap) := by
  rw [St.res_self]; rfl

/-- A step that writes nothing: what it reads; its value. -/
def Reads (f : St → Res) (rd : Option Nat) (d : Option Tmp) : Prop := ∀ st p s, f st = some (p, s) → ∃ l, s = st.put d l ∧ ∀ st2 : St, (∀ id, rd = some id → st2.heap[id]? = st.heap[id]?) → f st2 = some (p, st2.put d l)
/-- A step that may write. -/
def Does (f : St → Res) (d : Option Tmp) : Prop := ∀ st p s, f st = some (p, s) → ∃ l h, s = st.res d l h ∧ ∀ st2 : St, st2.heap = st.heap → f st2 = some (p, st2.res d l h)

theorem Reads.does {f : St → Res} {rd : Option Nat} {d : Option Tmp} (h : Reads f rd d) : Does f d := fun st p s hs => by
  obtain ⟨l, h1, h2⟩ := h st p s hs
  refine ⟨l, st.heap, by rw [h1, St.res_self], fun st2 he => ?_⟩
  rw [← he, St.res_self]
  exact h2 st2 fun id _ => by rw [he]
theorem Reads.weak {f : St → Res} {d : Option Tmp} (rd : Option Nat) (h : Reads f none d) : Reads f rd d := fun st p s hs => by
  obtain ⟨l, h1, h2⟩ := h st p s hs
  exact ⟨l, h1, fun st2 _ => h2 st2 fun id h => by simp at h⟩
theorem Reads.const {d : Option Tmp} (p : Prop) (l : LV) : Reads (fun st => some (p, st.put d l)) none d := fun st p s hs => by
  cases hs; exact ⟨l, rfl, fun _ _ => rfl⟩
theorem Reads.none (rd : Option Nat) (d : Option Tmp) : Reads (fun _ => none) rd d := fun st p s hs => by simp at hs

/-- Where a value points. -/
def LV.rd : LV → Option Nat
  | .one (.ptr id _ _) => some id
  | .one (.own id) => some id
  | _ => none

theorem bin_reads (tt : TT) (op : BinOp) (t : Nat) (x y : LV) (d : Option Tmp) : Reads (stepBin tt op t x y d) none d := by
  intro st p s hs
  unfold stepBin at hs ⊢
  split at hs
  · split at hs
    · rename_i hk
      subst hk
      simp only [if_true]
      split at hs
      · cases hs; exact ⟨_, rfl, fun _ _ => rfl⟩
      · cases hs; exact ⟨_, rfl, fun _ _ => rfl⟩
      · rename_i op h1 h2
        split at hs
        · rename_i c hc
          cases hs
          refine ⟨_, rfl, fun st2 _ => ?_⟩
          first | rfl | (rw [hc]; rfl)
        · simp at hs
    · simp at hs
  · split at hs
    · cases hs; exact ⟨_, rfl, fun _ _ => rfl⟩
    · split at hs
      · rename_i c hc; cases hs; exact ⟨_, rfl, fun st2 _ => by first | rfl | (rw [hc]; rfl)⟩
      · simp at hs
  · split at hs
    · rename_i ti ht
      split at hs
      · rename_i hc
        split at hs
        · cases hs; exact ⟨_, rfl, fun st2 _ => by first | rfl | (rw [if_pos hc]; rfl) | (simp only [ht]; rw [if_pos hc]; rfl)⟩
        · cases hs; exact ⟨_, rfl, fun st2 _ => by first | rfl | (rw [if_pos hc]; rfl) | (simp only [ht]; rw [if_pos hc]; rfl)⟩
        · simp at hs
      · simp at hs
    · simp at hs
  · split at hs
    · rename_i ti ht
      split at hs
      · rename_i hc
        split at hs
        · rename_i e he
          split at hs
          · cases hs; exact ⟨_, rfl, fun st2 _ => by first | rfl | (rw [if_pos hc]; rfl) | (rw [if_pos hc, he]; rfl) | (simp only [ht]; rw [if_pos hc, he]; rfl)⟩
          · cases hs; exact ⟨_, rfl, fun st2 _ => by first | rfl | (rw [if_pos hc]; rfl) | (rw [if_pos hc, he]; rfl) | (simp only [ht]; rw [if_pos hc, he]; rfl)⟩
          · simp at hs
        · simp at hs
      · simp at hs
    · simp at hs
  · simp at hs

theorem un_reads (op : UnOp) (x : LV) (d : Option Tmp) : Reads (stepUn op x d) none d := by
  intro st p s hs
  unfold stepUn at hs ⊢
  split at hs
  · cases hs; exact ⟨_, rfl, fun _ _ => rfl⟩
  · cases hs; exact ⟨_, rfl, fun _ _ => rfl⟩
  · simp at hs

theorem load_reads (tt : TT) (t : Nat) (x : LV) (d : Option Tmp) : Reads (stepLoad tt t x d) x.rd d := by
  intro st p s hs
  unfold stepLoad at hs ⊢
  split at hs
  · simp at hs
  · rename_i ti ht
    split at hs
    · rename_i id i f
      split at hs
      · rename_i cs hb
        cases hs
        refine ⟨_, rfl, fun st2 h2 => ?_⟩
        have := h2 id rfl
        simp only [ht, this, hb]
      · rename_i e t xs dp mt n hb
        cases hs
        refine ⟨_, rfl, fun st2 h2 => ?_⟩
        have := h2 id rfl
        simp only [ht, this, hb]
      · simp at hs
    · cases hs
      exact ⟨_, rfl, fun st2 h2 => by simp only [ht]⟩
    · simp at hs

theorem field_reads (tt : TT) (t f : Nat) (x : LV) (d : Option Tmp) : Reads (stepField tt t f x d) x.rd d := by
  intro st p s hs
  unfold stepField at hs ⊢
  split at hs
  · simp at hs
  · rename_i ti ht
    split at hs
    · rename_i id i g o ho
      split at hs
      · simp at hs
      · rename_i hb
        cases hs
        refine ⟨_, rfl, fun st2 h2 => ?_⟩
        have := h2 id rfl
        first
          | rfl
          | (simp only [ht, ho, this]
             first
               | rfl
               | (split
                  · rename_i h'; exact absurd h' hb
                  · rfl))
    · rename_i t' v g n o ho
      cases hs
      exact ⟨_, rfl, fun st2 h2 => by first | rfl | (simp only [ht, ho]; rfl)⟩
    · simp at hs

theorem indexAddr_reads (tt : TT) (t : Nat) (x y : LV) (d : Option Tmp) : Reads (stepIndexAddr tt t x y d) x.rd d := by
  intro st p s hs
  unfold stepIndexAddr at hs ⊢
  split at hs
  · simp at hs
  · rename_i ti ht
    split at hs
    · split at hs
      · rename_i hc
        cases hs
        exact ⟨_, rfl, fun st2 h2 => by first | rfl | (rw [if_pos hc]) | (simp only [ht]; rw [if_pos hc])⟩
      · simp at hs
    · rename_i id k i
      split at hs
      · rename_i e t' xs dp mt n hb
        split at hs
        · rename_i hc
          cases hs
          refine ⟨_, rfl, fun st2 h2 => ?_⟩
          have := h2 id rfl
          simp only [ht, this, hb]
          rw [if_pos hc]
        · simp at hs
      · simp at hs
    · simp at hs

theorem index_reads (tt : TT) (t : Nat) (x y : LV) (d : Option Tmp) : Reads (stepIndex tt t x y d) none d := by
  intro st p s hs
  unfold stepIndex at hs ⊢
  split at hs
  · simp at hs
  · rename_i ti ht
    split at hs
    · split at hs
      · rename_i hc
        cases hs
        exact ⟨_, rfl, fun st2 h2 => by first | rfl | (rw [if_pos hc]) | (simp only [ht]; rw [if_pos hc])⟩
      · simp at hs
    · simp at hs

theorem lenOf_local (ti : TI) (x : LV) {h h2 : List Blk} (he : ∀ id, x.rd = some id → h2[id]? = h[id]?) : lenOf ti h2 x = lenOf ti h x := by
  unfold lenOf
  split <;> try rfl
  rename_i id
  rw [he id rfl]

theorem append_does (tt : TT) (t : Nat) (x y : LV) (d : Option Tmp) : Does (stepAppend tt t x y d) d := by
  intro st p s hs
  unfold stepAppend at hs ⊢
  split at hs
  · simp at hs
  · rename_i ti ht
    split at hs
    · rename_i e te hag hty
      split at hs
      · rename_i xs d1 i1 hd
        split at hs
        · rename_i ys d2 i2 hsr
          split at hs
          · rename_i hc
            cases hs
            refine ⟨_, _, rfl, fun st2 h2 => ?_⟩
            simp only [ht, hag, hty, h2, hd, hsr]
            rw [if_pos hc]
            rfl
          · simp at hs
        · simp at hs
      · simp at hs
    · simp at hs

theorem store_does (tt : TT) (t : Nat) (x y : LV) : Does (stepStore tt t x y) none := by
  intro st p s hs
  unfold stepStore at hs ⊢
  split at hs
  · simp at hs
  · rename_i ti ht
    split at hs
    · rename_i id i f
      dsimp only at hs ⊢
      split at hs
      · rename_i old hb
        cases hs
        exact ⟨.tup [], _, rfl, fun st2 h2 => by simp only [ht, h2, hb]; rfl⟩
      · rename_i e te xs dp n hb
        split at hs
        · rename_i hc
          split at hs
          · rename_i c hy
            split at hs
            · rename_i v hv
              cases hs
              exact ⟨.tup [], _, rfl, fun st2 h2 => by simp only [ht, h2, hb, hy]; rw [if_pos hc, hv]; rfl⟩
            · simp at hs
          · simp at hs
        · rename_i hc0
          split at hs
          · rename_i hc
            split at hs
            · rename_i v hv
              refine ⟨.tup [], s.heap, ?_, fun st2 h2 => ?_⟩
              · cases hdd : (dp && deepOf st.heap y.cells) <;> simp only [hdd, cond_true, cond_false] at hs <;> cases hs <;> rfl
              · simp only [ht, h2, hb]
                rw [if_neg hc0, if_pos hc, hv]
                cases hdd : (dp && deepOf st.heap y.cells) <;> simp only [hdd, cond_true, cond_false] at hs ⊢ <;> cases hs <;> rfl
            · simp at hs
          · simp at hs
      · simp at hs
    · simp at hs
end Go.T
