/- T: each operation's dependence. -/
import Derived.Test.YtkjiecjpdbpghaaT24
namespace Go.T
open Go

def stepAll (tt : TT) (Γ : Gam) (o : Oper) (st : St) : Res := match o.op with
  | .call c => match c.callee with
    | .value (.func f) => stepCall Γ f (c.args.toList.map st.ev) o.dst st
    | _ => stepOp tt o st
  | _ => stepOp tt o st

/-- Writes nothing. -/
def quietB (o : Oper) : Bool := match o.op with
  | .move _ | .assign _ | .pick .. | .build .. | .load .. | .fieldAddr .. | .indexAddr .. | .binOp .. | .unOp .. | .extract .. | .nilCheck _ | .index .. => true
  | .call c => match c.callee with
    | .builtin .len => true
    | _ => false
  | _ => false
/-- What a quiet one reads. -/
def opRd (o : Oper) (st : St) : Option Nat := match o.op with
  | .load _ x | .fieldAddr _ x _ | .indexAddr _ x _ | .nilCheck x => (st.ev x).rd
  | .call c => match c.args.toList with
    | [x] => (st.ev x).rd
    | _ => none
  | _ => none

section
variable {tt : TT} {Γ : Gam} {o : Oper}

theorem quiet_op (hq : quietB o = true) {st : St} {p : Prop} {s : St} (hs : stepOp tt o st = some (p, s)) : ∃ l, s = st.put o.dst l ∧ ∀ st2 : St, (∀ x ∈ o.op.operands, st2.ev x = st.ev x) → (∀ id, opRd o st = some id → st2.heap[id]? = st.heap[id]?) → stepOp tt o st2 = some (p, st2.put o.dst l) := by
  obtain ⟨dst, op, type, pos, after, guard⟩ := o
  cases op <;> simp only [quietB, Bool.false_eq_true] at hq
  case move x =>
    simp only [stepOp] at hs ⊢
    cases hs
    exact ⟨_, rfl, fun st2 h2 _ => by rw [h2 x (by simp [Op.operands])]⟩
  case assign x =>
    simp only [stepOp] at hs ⊢
    cases hs
    exact ⟨_, rfl, fun st2 h2 _ => by rw [h2 x (by simp [Op.operands])]⟩
  case pick c x y =>
    simp only [stepOp] at hs
    split at hs
    · rename_i b hc
      split at hs
      · rename_i bx bY hx hy
        cases hs
        refine ⟨_, rfl, fun st2 h2 _ => ?_⟩
        simp only [stepOp]
        rw [h2 c (by simp [Op.operands]), h2 x (by simp [Op.operands]), h2 y (by simp [Op.operands]), hc, hx, hy]; rfl
      · rename_i hne
        cases hs
        refine ⟨_, rfl, fun st2 h2 _ => ?_⟩
        simp only [stepOp]
        rw [h2 c (by simp [Op.operands]), h2 x (by simp [Op.operands]), h2 y (by simp [Op.operands]), hc]
        simp only
    · simp at hs
  case build t ps =>
    simp only [stepOp] at hs
    split at hs
    · rename_i ti ht
      split at hs
      · simp at hs
      · rename_i hne
        split at hs
        · rename_i cs hf
          cases hs
          refine ⟨_, rfl, fun st2 h2 _ => ?_⟩
          simp only [stepOp, ht]
          have : (ps.toList.map fun p => (p.1, (st2.ev p.2).cells)) = ps.toList.map fun p => (p.1, (st.ev p.2).cells) := by
            refine List.map_congr_left fun q hq => ?_
            rw [h2 q.2 (by simp only [Op.operands, List.mem_toArray, List.mem_map]; exact ⟨q, hq, rfl⟩)]
          rw [if_neg hne, this, hf]
        · simp at hs
    · simp at hs
  case load t x =>
    simp only [stepOp] at hs ⊢
    obtain ⟨l, h1, h2⟩ := load_reads tt t (st.ev x) dst st p s hs
    exact ⟨l, h1, fun st2 he hr => by rw [he x (by simp [Op.operands])]; exact h2 st2 hr⟩
  case fieldAddr t x f =>
    simp only [stepOp] at hs ⊢
    obtain ⟨l, h1, h2⟩ := field_reads tt t f (st.ev x) dst st p s hs
    exact ⟨l, h1, fun st2 he hr => by rw [he x (by simp [Op.operands])]; exact h2 st2 hr⟩
  case indexAddr t x y =>
    simp only [stepOp] at hs ⊢
    obtain ⟨l, h1, h2⟩ := indexAddr_reads tt t (st.ev x) (st.ev y) dst st p s hs
    exact ⟨l, h1, fun st2 he hr => by rw [he x (by simp [Op.operands]), he y (by simp [Op.operands])]; exact h2 st2 hr⟩
  case binOp op t x y ty =>
    simp only [stepOp] at hs ⊢
    obtain ⟨l, h1, h2⟩ := bin_reads tt op t (st.ev x) (st.ev y) dst st p s hs
    exact ⟨l, h1, fun st2 he hr => by rw [he x (by simp [Op.operands]), he y (by simp [Op.operands])]; exact h2 st2 fun id h => by simp at h⟩
  case unOp op t x =>
    simp only [stepOp] at hs ⊢
    obtain ⟨l, h1, h2⟩ := un_reads op (st.ev x) dst st p s hs
    exact ⟨l, h1, fun st2 he hr => by rw [he x (by simp [Op.operands])]; exact h2 st2 fun id h => by simp at h⟩
  case extract x i =>
    simp only [stepOp] at hs ⊢
    split at hs
    · rename_i vs hx
      split at hs
      · rename_i v hv
        cases hs
        exact ⟨_, rfl, fun st2 he hr => by rw [he x (by simp [Op.operands]), hx]; simp only [hv]⟩
      · simp at hs
    · simp at hs
  case nilCheck x =>
    simp only [stepOp] at hs ⊢
    split at hs
    · rename_i id i f hx
      split at hs
      · simp at hs
      · rename_i hb
        cases hs
        refine ⟨_, rfl, fun st2 he hr => ?_⟩
        have hr' := hr id (by simp only [opRd, hx, LV.rd])
        rw [he x (by simp [Op.operands]), hx]
        simp only [hr']
        first
          | rfl
          | (split
             · rename_i h'; exact absurd h' hb
             · rfl)
    · simp at hs
  case index t x y =>
    simp only [stepOp] at hs ⊢
    obtain ⟨l, h1, h2⟩ := index_reads tt t (st.ev x) (st.ev y) dst st p s hs
    exact ⟨l, h1, fun st2 he hr => by rw [he x (by simp [Op.operands]), he y (by simp [Op.operands])]; exact h2 st2 fun id h => by simp at h⟩
  case call c =>
    split at hq
    · rename_i hc
      simp only [stepOp, hc] at hs ⊢
      split at hs
      · rename_i x t hx ht'
        split at hs
        · rename_i ti ht
          split at hs
          · rename_i n hl
            cases hs
            refine ⟨_, rfl, fun st2 he hr => ?_⟩
            have hx' := he x (by
              have : x ∈ c.args := by rw [← Array.mem_toList_iff, hx]; simp
              simp [Op.operands, Call.operands, this])
            rw [hx']
            rw [lenOf_local ti (st.ev x) (h := st.heap) (h2 := st2.heap) (fun id hid => hr id (by simp only [opRd, hx]; exact hid)), hl]
            rfl
          · simp at hs
        · simp at hs
      · simp at hs
    · simp at hq

theorem does_op {st : St} {p : Prop} {s : St} (hs : stepAll tt Γ o st = some (p, s)) : ∃ l h, s = st.res o.dst l h ∧ ∀ st2 : St, (∀ x ∈ o.op.operands, st2.ev x = st.ev x) → st2.heap = st.heap → stepAll tt Γ o st2 = some (p, st2.res o.dst l h) := by
  by_cases hq : quietB o = true
  · have hall : ∀ st, stepAll tt Γ o st = stepOp tt o st := fun st => by
      unfold stepAll
      unfold quietB at hq
      split
      · rename_i c ho
        rw [ho] at hq
        simp only at hq
        split
        · rename_i f hc; rw [hc] at hq; simp at hq
        · rfl
      · rfl
    rw [hall] at hs
    obtain ⟨l, h1, h2⟩ := quiet_op hq hs
    refine ⟨l, st.heap, by rw [h1, St.res_self], fun st2 he hh => ?_⟩
    rw [hall, ← hh, St.res_self]
    exact h2 st2 he fun id _ => by rw [hh]
  · obtain ⟨dst, op, type, pos, after, guard⟩ := o
    cases op <;> simp only [quietB, not_true_eq_false] at hq <;> simp only [stepAll] at hs ⊢
    case call c =>
      split at hs
      · rename_i f hc
        obtain ⟨l, h, h1, h2⟩ := call_does Γ f _ dst st p s hs
        refine ⟨l, h, h1, fun st2 he hh => ?_⟩
        have : c.args.toList.map st2.ev = c.args.toList.map st.ev := List.map_congr_left fun x hx => he x (by
          have : x ∈ c.args := by rw [← Array.mem_toList_iff]; exact hx
          simp [Op.operands, Call.operands, this])
        rw [this]
        exact h2 st2 hh
      · rename_i hne
        simp only [stepOp] at hs ⊢
        split at hs
        · rename_i hc; rw [hc] at hq; simp at hq
        · rename_i hc
          split at hs
          · rename_i x y t t' hx ht'
            split at hs
            · rename_i e
              obtain ⟨l, h, h1, h2⟩ := append_does tt t (st.ev x) (st.ev y) dst st p s hs
              refine ⟨l, h, h1, fun st2 he hh => ?_⟩
              have hx' := he x (by
                have : x ∈ c.args := by rw [← Array.mem_toList_iff, hx]; simp
                simp [Op.operands, Call.operands, this])
              have hy' := he y (by
                have : y ∈ c.args := by rw [← Array.mem_toList_iff, hx]; simp
                simp [Op.operands, Call.operands, this])
              rw [if_pos e, hx', hy']
              exact h2 st2 hh
            · simp at hs
          · simp at hs
        · simp at hs
    case alloc t =>
      simp only [stepOp] at hs ⊢
      split at hs
      · rename_i ti ht
        cases hs
        exact ⟨_, _, rfl, fun st2 he hh => by simp only [St.new, hh]; rfl⟩
      · simp at hs
    case box t x =>
      simp only [stepOp] at hs ⊢
      split at hs
      · rename_i ti ht
        cases hs
        exact ⟨_, _, rfl, fun st2 he hh => by rw [he x (by simp [Op.operands])]; simp only [St.new, hh]; rfl⟩
      · simp at hs
    case store t x y =>
      simp only [stepOp] at hs ⊢
      split at hs
      · obtain ⟨l, h, h1, h2⟩ := store_does tt t (st.ev x) (st.ev y) st p s hs
        exact ⟨l, h, h1, fun st2 he hh => by rw [he x (by simp [Op.operands]), he y (by simp [Op.operands])]; exact h2 st2 hh⟩
      · simp at hs
    case makeSlice t l c =>
      simp only [stepOp] at hs ⊢
      split at hs
      · rename_i ti k n k' cp ht el ec
        split at hs
        · rename_i e te hag hty
          cases hs
          refine ⟨_, _, rfl, fun st2 he hh => ?_⟩
          rw [he l (by simp [Op.operands]), he c (by simp [Op.operands]), el, ec]
          simp only [ht, hag, hty, St.new, hh]
          rfl
        · simp at hs
      · simp at hs
    case buildSlice t n ps =>
      simp only [stepOp] at hs ⊢
      split at hs
      · rename_i ti ht
        split at hs
        · rename_i e te hag hty
          split at hs
          · rename_i hc
            split at hs
            · rename_i xs hxs
              cases hs
              refine ⟨_, _, rfl, fun st2 he hh => ?_⟩
              have : (ps.toList.map fun p => (st2.ev p.2).cells) = ps.toList.map fun p => (st.ev p.2).cells := by
                refine List.map_congr_left fun q hq => ?_
                rw [he q.2 (by simp only [Op.operands, List.mem_toArray, List.mem_map]; exact ⟨q, hq, rfl⟩)]
              simp only [this, hh]
              rw [if_pos hc, hxs]
              rfl
            · simp at hs
          · simp at hs
        · simp at hs
      · simp at hs
    all_goals (simp [stepOp] at hs)

theorem stepAll_quiet (hq : quietB o = true) (st : St) : stepAll tt Γ o st = stepOp tt o st := by
  unfold stepAll
  unfold quietB at hq
  split
  · rename_i c ho
    rw [ho] at hq
    simp only at hq
    split
    · rename_i f hc; rw [hc] at hq; simp at hq
    · rfl
  · rfl
end
end Go.T
