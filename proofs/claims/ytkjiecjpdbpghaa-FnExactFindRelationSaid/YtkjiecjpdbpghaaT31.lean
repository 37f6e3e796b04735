/- T: the table of types, checked. -/
import Derived.Test.YtkjiecjpdbpghaaT30
namespace Go.T
open Go

def cellsZ : Ty → List Value → Option (List Value)
  | .int k, .int k' n :: r => if k = k' ∧ n = 0 then some r else none
  | .bool, .bool b :: r => if b = false then some r else none
  | .str, .string s :: r => if s.data.toList.isEmpty then some r else none
  | .slice _ _, .slice none 0 0 :: r => some r
  | .pair a b, vs => match cellsZ a vs with
    | some r => cellsZ b r
    | none => none
  | _, _ => none
theorem cellsZ_spec : ∀ {t : Ty} {vs r : List Value}, cellsZ t vs = some r → vs = zvals t ++ r
  | .int k, vs, r, h => by
    unfold cellsZ at h
    split at h <;> try (simp at h; done)
    all_goals simp_all [zvals]
  | .bool, vs, r, h => by
    unfold cellsZ at h
    split at h <;> try (simp at h; done)
    all_goals simp_all [zvals]
  | .str, vs, r, h => by
    unfold cellsZ at h
    split at h <;> try (simp at h; done)
    all_goals try (rename_i heq _; cases heq; done)
    all_goals (simp_all [zvals])
    all_goals (rename_i s _; apply ByteArray.ext; simp_all)
  | .slice e t, vs, r, h => by
    unfold cellsZ at h
    split at h <;> try (simp at h; done)
    all_goals simp_all [zvals]
  | .pair a b, vs, r, h => by
    simp only [cellsZ] at h
    split at h
    · rename_i r' hr
      rw [cellsZ_spec hr, cellsZ_spec h, zvals, List.append_assoc]
    · simp at h

def descCheck (P : Program) (tt : TT) (ti : TI) : TypeDesc → Bool
  | .struct fs => ti.agg && decide ((fs.toList.mapM fun (f : Field) => (P.info? f.type).map fun i => (f.offset, i.size)) = some ti.offs)
  | .array n e => ti.agg && match P.info? e, tt.get e with
    | some j, some te => j.size == te.ty.sz && ti.ty.sz == n * te.ty.sz
    | _, _ => false
  | .slice e => !ti.agg && match ti.ty with
    | .slice e' te => e' == e && match tt.get e with
      | some tie => decide (tie.ty = te)
      | none => false
    | _ => false
  | _ => !ti.agg
theorem descCheck_spec {P : Program} {tt : TT} {ti : TI} {d : TypeDesc} (h : descCheck P tt ti d = true) : DescOk P tt ti d := by
  unfold descCheck at h
  split at h
  · simp only [Bool.and_eq_true, decide_eq_true_eq] at h
    exact h
  · simp only [Bool.and_eq_true] at h
    obtain ⟨h1, h2⟩ := h
    split at h2
    · rename_i j te hj hte
      simp only [Bool.and_eq_true, beq_iff_eq] at h2
      exact ⟨h1, j, hj, te, hte, h2.1, h2.2⟩
    · simp at h2
  · simp only [Bool.and_eq_true, Bool.not_eq_true'] at h
    obtain ⟨h1, h2⟩ := h
    split at h2
    · rename_i e' te hty
      simp only [Bool.and_eq_true, beq_iff_eq] at h2
      obtain ⟨rfl, h2⟩ := h2
      split at h2
      · rename_i tie ht
        simp only [decide_eq_true_eq] at h2
        exact ⟨h1, te, tie, hty, ht, h2⟩
      · simp at h2
    · simp at h2
  · rename_i d h1 h2 h3
    simp only [Bool.not_eq_true'] at h
    cases d <;> first | (simp only [DescOk]; exact h) | exact (h1 _ rfl).elim | exact (h2 _ _ rfl).elim | exact (h3 _ rfl).elim

def infoCheck (P : Program) (t : Nat) (ti : TI) : Bool := match P.info? t with
  | some i => i.size == ti.ty.sz && decide (i.bytes ≤ 65536) && match i.zero with
    | some z => match cellsZ ti.ty z.cells.toList with
      | some [] => true
      | _ => false
    | none => false
  | none => false
def kindCheck (P : Program) (tt : TT) (t : Nat) (ti : TI) : Bool := ti.agg || (ti.ty.sz == 1 && match ti.ty with
  | .bool => match P.underlying t with
    | some .bool => true
    | _ => false
  | .str => match P.underlying t with
    | some .string => true
    | _ => false
  | .slice e te => match P.underlying t with
    | some (.slice e') => e' == e && match tt.get e with
      | some tie => decide (tie.ty = te)
      | none => false
    | _ => false
  | _ => true)
def intsCheck (P : Program) (t : Nat) (ti : TI) : Bool := !ti.ints || match P.underlying t with
  | some (.struct fs) => match fs.toList with
    | [f, g] => !P.stoodInHeld t && !P.eqGuardType P.depth t && f.offset == 0 && g.offset == 1 && !(f.name == "_") && !(g.name == "_") && match P.underlying f.type, P.underlying g.type with
      | some (.int _), some (.int _) => true
      | _, _ => false
    | _ => false
  | _ => false
def offsCheck (P : Program) (t : Nat) (ti : TI) : Bool := ti.offs.isEmpty || match P.underlying t with
  | some (.struct fs) => (List.range ti.offs.length).all fun i => match ti.offs[i]?, fs[i]? with
    | some p, some fl => fl.offset == p.1 && (match P.info? fl.type with
      | some j => j.size == p.2
      | none => false) && decide (0 < p.2) && decide (p.1 + p.2 ≤ ti.ty.sz)
    | _, _ => false
  | _ => false
def tiCheck (P : Program) (tt : TT) (t : Nat) (ti : TI) : Bool := infoCheck P t ti && (match P.underlying t with
  | some d => descCheck P tt ti d
  | none => false) && kindCheck P tt t ti && intsCheck P t ti && offsCheck P t ti
def ttCheck (P : Program) (tt : TT) : Bool := tt.all fun p => tiCheck P tt p.1 p.2

theorem TT.get_mem {tt : TT} {t : Nat} {ti : TI} (h : tt.get t = some ti) : (t, ti) ∈ tt := by
  induction tt with
  | nil => simp [TT.get] at h
  | cons p r ih =>
    obtain ⟨u, ti'⟩ := p
    simp only [TT.get] at h
    split at h
    · rename_i e; cases h; subst e; exact List.mem_cons_self
    · exact List.mem_cons_of_mem _ (ih h)

theorem tiCheck_spec {P : Program} {tt : TT} {t : Nat} {ti : TI} (h : tiCheck P tt t ti = true) : TIok P tt t ti := by
  simp only [tiCheck, Bool.and_eq_true] at h
  obtain ⟨⟨⟨⟨hinfo, hdesc⟩, hkind⟩, hints⟩, hoffs⟩ := h
  refine ⟨?_, ?_, ?_, ?_, ?_, ?_, ?_, ?_⟩
  · unfold infoCheck at hinfo
    split at hinfo
    · rename_i i hi
      simp only [Bool.and_eq_true, beq_iff_eq, decide_eq_true_eq] at hinfo
      obtain ⟨⟨h1, h2⟩, h3⟩ := hinfo
      split at h3
      · rename_i z hz
        split at h3
        · rename_i hc
          refine ⟨i, z, hi, h1, hz, ?_, h2⟩
          have := cellsZ_spec hc
          simpa using this
        · simp at h3
      · simp at h3
    · simp at hinfo
  · split at hdesc
    · rename_i d hd; exact ⟨d, hd, descCheck_spec hdesc⟩
    · simp at hdesc
  · intro ha
    simp only [kindCheck, ha, Bool.false_or, Bool.and_eq_true, beq_iff_eq] at hkind
    exact hkind.1
  · intro ha hty
    simp only [kindCheck, ha, Bool.false_or, Bool.and_eq_true, hty] at hkind
    have h2 := hkind.2
    split at h2
    · rename_i hu; exact hu
    · simp at h2
  · intro ha hty
    simp only [kindCheck, ha, Bool.false_or, Bool.and_eq_true, hty] at hkind
    have h2 := hkind.2
    split at h2
    · rename_i hu; exact hu
    · simp at h2
  · intro hi
    simp only [intsCheck, hi, Bool.not_true, Bool.false_or] at hints
    split at hints
    · rename_i fs hu
      split at hints
      · rename_i f g hfs
        simp only [Bool.and_eq_true, Bool.not_eq_true', beq_iff_eq, beq_eq_false_iff_ne] at hints
        obtain ⟨⟨⟨⟨⟨⟨h1, h2⟩, h3⟩, h4⟩, h5⟩, h6⟩, h7⟩ := hints
        split at h7
        · rename_i k l hk hl
          refine ⟨f, g, k, l, ?_, h1, h2, h3, h4, h5, h6, hk, hl⟩
          rw [hu]
          congr 2
          rw [← Array.toList_inj, hfs]
        · simp at h7
      · simp at hints
    · simp at hints
  · intro ha e te hty
    simp only [kindCheck, ha, Bool.false_or, Bool.and_eq_true, hty] at hkind
    have h2 := hkind.2
    split at h2
    · rename_i e' hu
      simp only [Bool.and_eq_true, beq_iff_eq] at h2
      obtain ⟨rfl, h3⟩ := h2
      refine ⟨hu, ?_⟩
      split at h3
      · rename_i tie ht; exact ⟨tie, ht, by simpa using h3⟩
      · simp at h3
    · simp at h2
  · intro f n i ho
    unfold offsCheck at hoffs
    have hne : ti.offs.isEmpty = false := by
      cases hof : ti.offs with
      | nil => rw [hof] at ho; simp at ho
      | cons => rfl
    rw [hne, Bool.false_or] at hoffs
    split at hoffs
    · rename_i fs hu
      have hil : i < ti.offs.length := (List.getElem?_eq_some_iff.1 ho).1
      have := List.all_eq_true.1 hoffs i (by simpa using hil)
      rw [ho] at this
      split at this
      · rename_i p fl hp hfl
        cases hp
        simp only [Bool.and_eq_true, beq_iff_eq, decide_eq_true_eq] at this
        obtain ⟨⟨⟨h1, h2⟩, h3⟩, h4⟩ := this
        split at h2
        · rename_i j hj
          exact ⟨fs, fl, hu, hfl, h1, j, hj, by simpa using h2, h3, h4⟩
        · simp at h2
      · simp at this
    · simp at hoffs
theorem ttCheck_spec {P : Program} {tt : TT} (h : ttCheck P tt = true) : TTok P tt := fun _ _ ht => tiCheck_spec (List.all_eq_true.1 h _ (TT.get_mem ht))
end Go.T
