/- The seat's types. -/
import Derived.Test.YtkjiecjpdbpghaaT9
import Derived.KernelRfl
import Derived.Test.YtkjiecjpdbpghaaProg
set_option linter.unusedSimpArgs false
set_option linter.unusedVariables false
namespace Go.T
open Go Go.Proofs
abbrev Y134 : Ty := .pair (.slice 3 (.int .i64)) (.pair (.int .i64) .bool)
abbrev Y31 : Ty := .pair (.int .i64) (.slice 134 Y134)
abbrev Y172 : Ty := .pair .str Y31
abbrev Y48 : Ty := .pair .str (.pair (.int .i64) (.slice 172 Y172))
abbrev Y106 : Ty := .pair (.slice 3 (.int .i64)) (.pair (.int .i64) .bool)
abbrev Y36 : Ty := .pair (.int .i64) (.slice 106 Y106)
abbrev Y116 : Ty := .pair .str Y36
abbrev Y53 : Ty := .pair .str (.pair (.int .i64) (.slice 116 Y116))
abbrev Y66 : Ty := .pair (.int .i64) (.int .i64)
abbrev Y71 : Ty := .pair (.int .i64) (.slice 36 Y36)
abbrev Y136 : Ty := .pair (.int .i64) (.pair Y134 (.pair .str (.pair .str (.pair (.slice 3 (.int .i64)) (.pair (.int .i64) (.pair (.int .i64) (.int .i64)))))))
abbrev Y139 : Ty := .pair (.int .i64) (.pair Y106 (.pair .str (.pair .str (.pair (.slice 3 (.int .i64)) (.pair (.int .i64) (.pair (.int .i64) (.int .i64)))))))
abbrev Y85 : Ty := .pair (.int .i64) (.int .i64)
abbrev Y88 : Ty := .pair (.int .i64) (.pair Y85 (.pair .bool (.pair (.slice 85 Y85) (.pair (.slice 85 Y85) (.slice 3 (.int .i64))))))
abbrev Y92 : Ty := .pair (.int .i64) (.pair Y66 (.pair .bool (.pair (.slice 66 Y66) (.pair (.slice 66 Y66) (.slice 3 (.int .i64))))))
abbrev Y176 : Ty := .pair (.slice 5 (.int .u8)) (.pair (.int .i64) (.int .i64))
abbrev i3 : TI := ⟨.int .i64, false, [], false⟩
abbrev i4 : TI := ⟨.bool, false, [], false⟩
abbrev i5 : TI := ⟨.int .u8, false, [], false⟩
abbrev i9 : TI := ⟨.str, false, [], false⟩
abbrev i22 : TI := ⟨.slice 48 Y48, false, [], false⟩
abbrev i25 : TI := ⟨.slice 53 Y53, false, [], false⟩
abbrev i29 : TI := ⟨.slice 134 Y134, false, [], false⟩
abbrev i31 : TI := ⟨Y31, true, [(0, 1), (1, 1)], false⟩
abbrev i32 : TI := ⟨.slice 3 (.int .i64), false, [], false⟩
abbrev i34 : TI := ⟨.slice 106 Y106, false, [], false⟩
abbrev i36 : TI := ⟨Y36, true, [(0, 1), (1, 1)], false⟩
abbrev i46 : TI := ⟨.slice 172 Y172, false, [], false⟩
abbrev i48 : TI := ⟨Y48, true, [(0, 1), (1, 1), (2, 1)], false⟩
abbrev i51 : TI := ⟨.slice 116 Y116, false, [], false⟩
abbrev i53 : TI := ⟨Y53, true, [(0, 1), (1, 1), (2, 1)], false⟩
abbrev i59 : TI := ⟨.slice 5 (.int .u8), false, [], false⟩
abbrev i63 : TI := ⟨.slice 66 Y66, false, [], false⟩
abbrev i66 : TI := ⟨Y66, true, [(0, 1), (1, 1)], true⟩
abbrev i69 : TI := ⟨.slice 36 Y36, false, [], false⟩
abbrev i71 : TI := ⟨Y71, true, [(0, 1), (1, 1)], false⟩
abbrev i78 : TI := ⟨.slice 136 Y136, false, [], false⟩
abbrev i81 : TI := ⟨.slice 139 Y139, false, [], false⟩
abbrev i85 : TI := ⟨Y85, true, [(0, 1), (1, 1)], true⟩
abbrev i86 : TI := ⟨.slice 85 Y85, false, [], false⟩
abbrev i88 : TI := ⟨Y88, true, [(0, 1), (1, 2), (3, 1), (4, 1), (5, 1), (6, 1)], false⟩
abbrev i92 : TI := ⟨Y92, true, [(0, 1), (1, 2), (3, 1), (4, 1), (5, 1), (6, 1)], false⟩
abbrev i106 : TI := ⟨Y106, true, [(0, 1), (1, 1), (2, 1)], false⟩
abbrev i116 : TI := ⟨Y116, true, [(0, 1), (1, 2)], false⟩
abbrev i134 : TI := ⟨Y134, true, [(0, 1), (1, 1), (2, 1)], false⟩
abbrev i136 : TI := ⟨Y136, true, [(0, 1), (1, 3), (4, 1), (5, 1), (6, 1), (7, 1), (8, 1), (9, 1)], false⟩
abbrev i139 : TI := ⟨Y139, true, [(0, 1), (1, 3), (4, 1), (5, 1), (6, 1), (7, 1), (8, 1), (9, 1)], false⟩
abbrev i157 : TI := ⟨.slice 158 (.slice 4 .bool), false, [], false⟩
abbrev i158 : TI := ⟨.slice 4 .bool, false, [], false⟩
abbrev i172 : TI := ⟨Y172, true, [(0, 1), (1, 2)], false⟩
abbrev i176 : TI := ⟨Y176, true, [(0, 1), (1, 1), (2, 1)], false⟩
def tt : TT := [(3, i3), (4, i4), (5, i5), (9, i9), (22, i22), (25, i25), (29, i29), (31, i31), (32, i32), (34, i34), (36, i36), (46, i46), (48, i48), (51, i51), (53, i53), (59, i59), (63, i63), (66, i66), (69, i69), (71, i71), (78, i78), (81, i81), (85, i85), (86, i86), (88, i88), (92, i92), (106, i106), (116, i116), (134, i134), (136, i136), (139, i139), (157, i157), (158, i158), (172, i172), (176, i176)]
@[simp] theorem tt3 : TT.get tt 3 = some i3 := rfl
@[simp] theorem tt4 : TT.get tt 4 = some i4 := rfl
@[simp] theorem tt5 : TT.get tt 5 = some i5 := rfl
@[simp] theorem tt9 : TT.get tt 9 = some i9 := rfl
@[simp] theorem tt22 : TT.get tt 22 = some i22 := rfl
@[simp] theorem tt25 : TT.get tt 25 = some i25 := rfl
@[simp] theorem tt29 : TT.get tt 29 = some i29 := rfl
@[simp] theorem tt31 : TT.get tt 31 = some i31 := rfl
@[simp] theorem tt32 : TT.get tt 32 = some i32 := rfl
@[simp] theorem tt34 : TT.get tt 34 = some i34 := rfl
@[simp] theorem tt36 : TT.get tt 36 = some i36 := rfl
@[simp] theorem tt46 : TT.get tt 46 = some i46 := rfl
@[simp] theorem tt48 : TT.get tt 48 = some i48 := rfl
@[simp] theorem tt51 : TT.get tt 51 = some i51 := rfl
@[simp] theorem tt53 : TT.get tt 53 = some i53 := rfl
@[simp] theorem tt59 : TT.get tt 59 = some i59 := rfl
@[simp] theorem tt63 : TT.get tt 63 = some i63 := rfl
@[simp] theorem tt66 : TT.get tt 66 = some i66 := rfl
@[simp] theorem tt69 : TT.get tt 69 = some i69 := rfl
@[simp] theorem tt71 : TT.get tt 71 = some i71 := rfl
@[simp] theorem tt78 : TT.get tt 78 = some i78 := rfl
@[simp] theorem tt81 : TT.get tt 81 = some i81 := rfl
@[simp] theorem tt85 : TT.get tt 85 = some i85 := rfl
@[simp] theorem tt86 : TT.get tt 86 = some i86 := rfl
@[simp] theorem tt88 : TT.get tt 88 = some i88 := rfl
@[simp] theorem tt92 : TT.get tt 92 = some i92 := rfl
@[simp] theorem tt106 : TT.get tt 106 = some i106 := rfl
@[simp] theorem tt116 : TT.get tt 116 = some i116 := rfl
@[simp] theorem tt134 : TT.get tt 134 = some i134 := rfl
@[simp] theorem tt136 : TT.get tt 136 = some i136 := rfl
@[simp] theorem tt139 : TT.get tt 139 = some i139 := rfl
@[simp] theorem tt157 : TT.get tt 157 = some i157 := rfl
@[simp] theorem tt158 : TT.get tt 158 = some i158 := rfl
@[simp] theorem tt172 : TT.get tt 172 = some i172 := rfl
@[simp] theorem tt176 : TT.get tt 176 = some i176 := rfl
theorem hT : TTok Try.prog tt := ttCheck_spec (by kernel_rfl)
theorem hm : Try.prog.follows .mixedOrders = true := by kernel_rfl
abbrev H31 : Ty := (.pair (.int .i64) .hdr)
abbrev H36 : Ty := (.pair (.int .i64) .hdr)
abbrev H48 : Ty := (.pair .str (.pair (.int .i64) .hdr))
abbrev H53 : Ty := (.pair .str (.pair (.int .i64) .hdr))
abbrev H66 : Ty := (.pair (.int .i64) (.int .i64))
abbrev H71 : Ty := (.pair (.int .i64) .hdr)
abbrev H85 : Ty := (.pair (.int .i64) (.int .i64))
abbrev H88 : Ty := (.pair (.int .i64) (.pair H85 (.pair .bool (.pair .hdr (.pair .hdr .hdr)))))
abbrev H92 : Ty := (.pair (.int .i64) (.pair H66 (.pair .bool (.pair .hdr (.pair .hdr .hdr)))))
abbrev H106 : Ty := (.pair .hdr (.pair (.int .i64) .bool))
abbrev H116 : Ty := (.pair .str H36)
abbrev H134 : Ty := (.pair .hdr (.pair (.int .i64) .bool))
abbrev H136 : Ty := (.pair (.int .i64) (.pair H134 (.pair .str (.pair .str (.pair .hdr (.pair (.int .i64) (.pair (.int .i64) (.int .i64))))))))
abbrev H139 : Ty := (.pair (.int .i64) (.pair H106 (.pair .str (.pair .str (.pair .hdr (.pair (.int .i64) (.pair (.int .i64) (.int .i64))))))))
abbrev H172 : Ty := (.pair .str H31)
abbrev H176 : Ty := (.pair .hdr (.pair (.int .i64) (.int .i64)))
theorem ok_nil {P : Program} : ∀ f g, Gam.get [] f = some g → Sound P f g := fun _ _ h => by simp [Gam.get] at h
theorem ok_cons {P : Program} {f0 : Nat} {g0 : G} {Γ : Gam} (h0 : Sound P f0 g0) (h : ∀ f g, Gam.get Γ f = some g → Sound P f g) : ∀ f g, Gam.get ((f0, g0) :: Γ) f = some g → Sound P f g := fun f g hg => by
  simp only [Gam.get] at hg
  split at hg
  · rename_i e; cases hg; subst e; exact h0
  · exact h f g hg
@[simp] theorem moved_nil : moved [] = [] := rfl
@[simp] theorem moved_cons (c : LC) (r : List LC) : moved (c :: r) = match c.movedId with
    | some i => i :: moved r
    | none => moved r := by simp [moved, List.filterMap_cons]; split <;> simp_all
end Go.T
