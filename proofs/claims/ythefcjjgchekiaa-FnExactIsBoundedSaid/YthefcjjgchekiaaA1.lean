/- The seat's types. -/
import Derived.Test.YthefcjjgchekiaaT11
import Derived.KernelRfl
import Derived.Test.YthefcjjgchekiaaProg
set_option linter.unusedSimpArgs false
set_option linter.unusedVariables false
namespace Go.T
open Go Go.Proofs
abbrev Y27 : Ty := .pair (.slice 3 (.int .i64)) (.pair (.int .i64) .bool)
abbrev Y24 : Ty := .pair (.int .i64) (.slice 27 Y27)
abbrev Y36 : Ty := .pair (.slice 3 (.int .i64)) (.pair (.int .i64) .bool)
abbrev Y32 : Ty := .pair (.int .i64) (.slice 36 Y36)
abbrev Y64 : Ty := .pair (.int .i64) (.int .i64)
abbrev Y66 : Ty := .pair .bool (.pair Y64 (.pair .bool (.pair .bool (.pair Y64 (.pair .bool .bool)))))
abbrev i3 : TI := ⟨.int .i64, false, [], false⟩
abbrev i4 : TI := ⟨.bool, false, [], false⟩
abbrev i22 : TI := ⟨.slice 27 Y27, false, [], false⟩
abbrev i24 : TI := ⟨Y24, true, [(0, 1), (1, 1)], false⟩
abbrev i25 : TI := ⟨.slice 3 (.int .i64), false, [], false⟩
abbrev i27 : TI := ⟨Y27, true, [(0, 1), (1, 1), (2, 1)], false⟩
abbrev i30 : TI := ⟨.slice 36 Y36, false, [], false⟩
abbrev i32 : TI := ⟨Y32, true, [(0, 1), (1, 1)], false⟩
abbrev i36 : TI := ⟨Y36, true, [(0, 1), (1, 1), (2, 1)], false⟩
abbrev i46 : TI := ⟨.slice 66 Y66, false, [], false⟩
abbrev i64 : TI := ⟨Y64, true, [(0, 1), (1, 1)], true⟩
abbrev i66 : TI := ⟨Y66, true, [(0, 1), (1, 2), (3, 1), (4, 1), (5, 2), (7, 1), (8, 1)], false⟩
abbrev i85 : TI := ⟨.slice 30 (.slice 36 Y36), false, [], false⟩
abbrev i97 : TI := ⟨.int .u64, false, [], false⟩
abbrev i100 : TI := ⟨.int .i64, false, [], false⟩
abbrev i110 : TI := ⟨.int .u64, false, [], false⟩
abbrev i111 : TI := ⟨.int .u64, false, [], false⟩
def tt : TT := [(3, i3), (4, i4), (22, i22), (24, i24), (25, i25), (27, i27), (30, i30), (32, i32), (36, i36), (46, i46), (64, i64), (66, i66), (85, i85), (97, i97), (100, i100), (110, i110), (111, i111)]
@[simp] theorem tt3 : TT.get tt 3 = some i3 := rfl
@[simp] theorem tt4 : TT.get tt 4 = some i4 := rfl
@[simp] theorem tt22 : TT.get tt 22 = some i22 := rfl
@[simp] theorem tt24 : TT.get tt 24 = some i24 := rfl
@[simp] theorem tt25 : TT.get tt 25 = some i25 := rfl
@[simp] theorem tt27 : TT.get tt 27 = some i27 := rfl
@[simp] theorem tt30 : TT.get tt 30 = some i30 := rfl
@[simp] theorem tt32 : TT.get tt 32 = some i32 := rfl
@[simp] theorem tt36 : TT.get tt 36 = some i36 := rfl
@[simp] theorem tt46 : TT.get tt 46 = some i46 := rfl
@[simp] theorem tt64 : TT.get tt 64 = some i64 := rfl
@[simp] theorem tt66 : TT.get tt 66 = some i66 := rfl
@[simp] theorem tt85 : TT.get tt 85 = some i85 := rfl
@[simp] theorem tt97 : TT.get tt 97 = some i97 := rfl
@[simp] theorem tt100 : TT.get tt 100 = some i100 := rfl
@[simp] theorem tt110 : TT.get tt 110 = some i110 := rfl
@[simp] theorem tt111 : TT.get tt 111 = some i111 := rfl
theorem hT : TTok Try.prog tt := ttCheck_spec (by kernel_rfl)
theorem hm : Try.prog.follows .mixedOrders = true := by kernel_rfl
abbrev H24 : Ty := (.pair (.int .i64) .hdr)
abbrev H27 : Ty := (.pair .hdr (.pair (.int .i64) .bool))
abbrev H32 : Ty := (.pair (.int .i64) .hdr)
abbrev H36 : Ty := (.pair .hdr (.pair (.int .i64) .bool))
abbrev H64 : Ty := (.pair (.int .i64) (.int .i64))
abbrev H66 : Ty := (.pair .bool (.pair H64 (.pair .bool (.pair .bool (.pair H64 (.pair .bool .bool))))))
abbrev iH36 : TI := ⟨hd Y36, true, [(0, 1), (1, 1), (2, 1)], false⟩
abbrev iH30 : TI := ⟨.slice 36 (hd Y36), false, [], false⟩
def ttH : TT := [(3, i3), (4, i4), (22, i22), (24, i24), (25, i25), (27, i27), (30, iH30), (32, i32), (36, iH36), (46, i46), (64, i64), (66, i66), (97, i97), (100, i100), (110, i110), (111, i111)]
@[simp] theorem ttH3 : TT.get ttH 3 = some i3 := rfl
@[simp] theorem ttH4 : TT.get ttH 4 = some i4 := rfl
@[simp] theorem ttH22 : TT.get ttH 22 = some i22 := rfl
@[simp] theorem ttH24 : TT.get ttH 24 = some i24 := rfl
@[simp] theorem ttH25 : TT.get ttH 25 = some i25 := rfl
@[simp] theorem ttH27 : TT.get ttH 27 = some i27 := rfl
@[simp] theorem ttH30 : TT.get ttH 30 = some iH30 := rfl
@[simp] theorem ttH32 : TT.get ttH 32 = some i32 := rfl
@[simp] theorem ttH36 : TT.get ttH 36 = some iH36 := rfl
@[simp] theorem ttH46 : TT.get ttH 46 = some i46 := rfl
@[simp] theorem ttH64 : TT.get ttH 64 = some i64 := rfl
@[simp] theorem ttH66 : TT.get ttH 66 = some i66 := rfl
@[simp] theorem ttH97 : TT.get ttH 97 = some i97 := rfl
@[simp] theorem ttH100 : TT.get ttH 100 = some i100 := rfl
@[simp] theorem ttH110 : TT.get ttH 110 = some i110 := rfl
@[simp] theorem ttH111 : TT.get ttH 111 = some i111 := rfl
theorem hTH : TTok Try.prog ttH := ttCheck_spec (by kernel_rfl)
theorem ok_nil {P : Program} : ∀ f g, Gam.get [] f = some g → Sound P f g := fun _ _ h => by simp [Gam.get] at h
theorem ok_cons {P : Program} {f0 : Nat} {g0 : G} {Γ : Gam} (h0 : Sound P f0 g0) (h : ∀ f g, Gam.get Γ f = some g → Sound P f g) : ∀ f g, Gam.get ((f0, g0) :: Γ) f = some g → Sound P f g := fun f g hg => by
  simp only [Gam.get] at hg
  split at hg
  · rename_i e; cases hg; subst e; exact h0
  · exact h f g hg
@[simp] theorem moved_nil : moved [] = [] := rfl
@[simp] theorem moved_cons (c : LC) (r : List LC) : moved (c :: r) = match c.movedId with
    | some i => i :: moved r
    | none => moved r := by simp [moved, List.filterMap_cons]; split <;> simp_all
end Go.T
