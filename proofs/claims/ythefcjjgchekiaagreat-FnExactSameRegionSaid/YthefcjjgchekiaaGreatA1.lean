/- The seat's types. -/
import Derived.Test.YthefcjjgchekiaaGreatT11
import Derived.KernelRfl
import Derived.Test.YthefcjjgchekiaaGreatProg
set_option linter.unusedSimpArgs false
set_option linter.unusedVariables false
namespace Go.T
open Go Go.Proofs
abbrev Y101 : Ty := .pair (.slice 3 (.int .i64)) (.pair (.int .i64) .bool)
abbrev Y24 : Ty := .pair (.int .i64) (.slice 101 Y101)
abbrev Y28 : Ty := .pair (.int .i64) (.int .i64)
abbrev Y108 : Ty := .pair (.slice 3 (.int .i64)) (.pair (.int .i64) .bool)
abbrev Y33 : Ty := .pair (.int .i64) (.slice 108 Y108)
abbrev Y42 : Ty := .pair (.int .i64) (.slice 24 Y24)
abbrev Y68 : Ty := .pair (.int .i64) (.int .i64)
abbrev Y50 : Ty := .pair (.int .i64) (.slice 33 Y33)
abbrev Y255 : Ty := .pair .str Y24
abbrev Y171 : Ty := .pair .str (.pair (.int .i64) (.slice 255 Y255))
abbrev Y103 : Ty := .pair (.int .i64) (.pair Y101 (.pair .str (.pair .str (.pair (.slice 3 (.int .i64)) (.pair (.int .i64) (.pair (.int .i64) (.int .i64)))))))
abbrev Y184 : Ty := .pair .str Y33
abbrev Y176 : Ty := .pair .str (.pair (.int .i64) (.slice 184 Y184))
abbrev Y110 : Ty := .pair (.int .i64) (.pair Y108 (.pair .str (.pair .str (.pair (.slice 3 (.int .i64)) (.pair (.int .i64) (.pair (.int .i64) (.int .i64)))))))
abbrev Y120 : Ty := .pair (.int .i64) (.pair Y28 (.pair .bool (.pair (.slice 28 Y28) (.pair (.slice 28 Y28) (.slice 3 (.int .i64))))))
abbrev Y130 : Ty := .pair .bool (.pair Y28 (.pair .bool (.pair .bool (.pair Y28 (.pair .bool .bool)))))
abbrev Y196 : Ty := .pair (.slice 110 Y110) (.pair (.slice 50 Y50) (.slice 28 Y28))
abbrev Y265 : Ty := .pair (.slice 3 (.int .i64)) (.pair (.int .i64) (.pair .bool (.slice 3 (.int .i64))))
abbrev i3 : TI := ⟨.int .i64, false, [], false⟩
abbrev i4 : TI := ⟨.bool, false, [], false⟩
abbrev i5 : TI := ⟨.int .u8, false, [], false⟩
abbrev i9 : TI := ⟨.str, false, [], false⟩
abbrev i22 : TI := ⟨.slice 101 Y101, false, [], false⟩
abbrev i24 : TI := ⟨Y24, true, [(0, 1), (1, 1)], false⟩
abbrev i25 : TI := ⟨.slice 3 (.int .i64), false, [], false⟩
abbrev i28 : TI := ⟨Y28, true, [(0, 1), (1, 1)], true⟩
abbrev i31 : TI := ⟨.slice 108 Y108, false, [], false⟩
abbrev i33 : TI := ⟨Y33, true, [(0, 1), (1, 1)], false⟩
abbrev i40 : TI := ⟨.slice 24 Y24, false, [], false⟩
abbrev i42 : TI := ⟨Y42, true, [(0, 1), (1, 1)], false⟩
abbrev i43 : TI := ⟨.slice 68 Y68, false, [], false⟩
abbrev i48 : TI := ⟨.slice 33 Y33, false, [], false⟩
abbrev i50 : TI := ⟨Y50, true, [(0, 1), (1, 1)], false⟩
abbrev i52 : TI := ⟨.slice 28 Y28, false, [], false⟩
abbrev i68 : TI := ⟨Y68, true, [(0, 1), (1, 1)], true⟩
abbrev i74 : TI := ⟨.slice 50 Y50, false, [], false⟩
abbrev i80 : TI := ⟨.slice 171 Y171, false, [], false⟩
abbrev i81 : TI := ⟨.slice 103 Y103, false, [], false⟩
abbrev i85 : TI := ⟨.slice 176 Y176, false, [], false⟩
abbrev i87 : TI := ⟨.slice 110 Y110, false, [], false⟩
abbrev i94 : TI := ⟨.slice 9 .str, false, [], false⟩
abbrev i101 : TI := ⟨Y101, true, [(0, 1), (1, 1), (2, 1)], false⟩
abbrev i103 : TI := ⟨Y103, true, [(0, 1), (1, 3), (4, 1), (5, 1), (6, 1), (7, 1), (8, 1), (9, 1)], false⟩
abbrev i105 : TI := ⟨.slice 94 (.slice 9 .str), false, [], false⟩
abbrev i108 : TI := ⟨Y108, true, [(0, 1), (1, 1), (2, 1)], false⟩
abbrev i110 : TI := ⟨Y110, true, [(0, 1), (1, 3), (4, 1), (5, 1), (6, 1), (7, 1), (8, 1), (9, 1)], false⟩
abbrev i120 : TI := ⟨Y120, true, [(0, 1), (1, 2), (3, 1), (4, 1), (5, 1), (6, 1)], false⟩
abbrev i130 : TI := ⟨Y130, true, [(0, 1), (1, 2), (3, 1), (4, 1), (5, 2), (7, 1), (8, 1)], false⟩
abbrev i169 : TI := ⟨.slice 255 Y255, false, [], false⟩
abbrev i171 : TI := ⟨Y171, true, [(0, 1), (1, 1), (2, 1)], false⟩
abbrev i174 : TI := ⟨.slice 184 Y184, false, [], false⟩
abbrev i176 : TI := ⟨Y176, true, [(0, 1), (1, 1), (2, 1)], false⟩
abbrev i184 : TI := ⟨Y184, true, [(0, 1), (1, 2)], false⟩
abbrev i196 : TI := ⟨Y196, true, [(0, 1), (1, 1), (2, 1)], false⟩
abbrev i227 : TI := ⟨.slice 5 (.int .u8), false, [], false⟩
abbrev i249 : TI := ⟨.slice 31 (.slice 108 Y108), false, [], false⟩
abbrev i255 : TI := ⟨Y255, true, [(0, 1), (1, 2)], false⟩
abbrev i263 : TI := ⟨.slice 265 Y265, false, [], false⟩
abbrev i265 : TI := ⟨Y265, true, [(0, 1), (1, 1), (2, 1), (3, 1)], false⟩
abbrev i268 : TI := ⟨.slice 269 (.slice 3 (.int .i64)), false, [], false⟩
abbrev i269 : TI := ⟨.slice 3 (.int .i64), false, [], false⟩
abbrev i274 : TI := ⟨.int .u64, false, [], false⟩
abbrev i280 : TI := ⟨.int .i64, false, [], false⟩
abbrev i290 : TI := ⟨.int .u64, false, [], false⟩
abbrev i291 : TI := ⟨.int .u64, false, [], false⟩
def tt : TT := [(3, i3), (4, i4), (5, i5), (9, i9), (22, i22), (24, i24), (25, i25), (28, i28), (31, i31), (33, i33), (40, i40), (42, i42), (43, i43), (48, i48), (50, i50), (52, i52), (68, i68), (74, i74), (80, i80), (81, i81), (85, i85), (87, i87), (94, i94), (101, i101), (103, i103), (105, i105), (108, i108), (110, i110), (120, i120), (130, i130), (169, i169), (171, i171), (174, i174), (176, i176), (184, i184), (196, i196), (227, i227), (249, i249), (255, i255), (263, i263), (265, i265), (268, i268), (269, i269), (274, i274), (280, i280), (290, i290), (291, i291)]
@[simp] theorem tt3 : TT.get tt 3 = some i3 := rfl
@[simp] theorem tt4 : TT.get tt 4 = some i4 := rfl
@[simp] theorem tt5 : TT.get tt 5 = some i5 := rfl
@[simp] theorem tt9 : TT.get tt 9 = some i9 := rfl
@[simp] theorem tt22 : TT.get tt 22 = some i22 := rfl
@[simp] theorem tt24 : TT.get tt 24 = some i24 := rfl
@[simp] theorem tt25 : TT.get tt 25 = some i25 := rfl
@[simp] theorem tt28 : TT.get tt 28 = some i28 := rfl
@[simp] theorem tt31 : TT.get tt 31 = some i31 := rfl
@[simp] theorem tt33 : TT.get tt 33 = some i33 := rfl
@[simp] theorem tt40 : TT.get tt 40 = some i40 := rfl
@[simp] theorem tt42 : TT.get tt 42 = some i42 := rfl
@[simp] theorem tt43 : TT.get tt 43 = some i43 := rfl
@[simp] theorem tt48 : TT.get tt 48 = some i48 := rfl
@[simp] theorem tt50 : TT.get tt 50 = some i50 := rfl
@[simp] theorem tt52 : TT.get tt 52 = some i52 := rfl
@[simp] theorem tt68 : TT.get tt 68 = some i68 := rfl
@[simp] theorem tt74 : TT.get tt 74 = some i74 := rfl
@[simp] theorem tt80 : TT.get tt 80 = some i80 := rfl
@[simp] theorem tt81 : TT.get tt 81 = some i81 := rfl
@[simp] theorem tt85 : TT.get tt 85 = some i85 := rfl
@[simp] theorem tt87 : TT.get tt 87 = some i87 := rfl
@[simp] theorem tt94 : TT.get tt 94 = some i94 := rfl
@[simp] theorem tt101 : TT.get tt 101 = some i101 := rfl
@[simp] theorem tt103 : TT.get tt 103 = some i103 := rfl
@[simp] theorem tt105 : TT.get tt 105 = some i105 := rfl
@[simp] theorem tt108 : TT.get tt 108 = some i108 := rfl
@[simp] theorem tt110 : TT.get tt 110 = some i110 := rfl
@[simp] theorem tt120 : TT.get tt 120 = some i120 := rfl
@[simp] theorem tt130 : TT.get tt 130 = some i130 := rfl
@[simp] theorem tt169 : TT.get tt 169 = some i169 := rfl
@[simp] theorem tt171 : TT.get tt 171 = some i171 := rfl
@[simp] theorem tt174 : TT.get tt 174 = some i174 := rfl
@[simp] theorem tt176 : TT.get tt 176 = some i176 := rfl
@[simp] theorem tt184 : TT.get tt 184 = some i184 := rfl
@[simp] theorem tt196 : TT.get tt 196 = some i196 := rfl
@[simp] theorem tt227 : TT.get tt 227 = some i227 := rfl
@[simp] theorem tt249 : TT.get tt 249 = some i249 := rfl
@[simp] theorem tt255 : TT.get tt 255 = some i255 := rfl
@[simp] theorem tt263 : TT.get tt 263 = some i263 := rfl
@[simp] theorem tt265 : TT.get tt 265 = some i265 := rfl
@[simp] theorem tt268 : TT.get tt 268 = some i268 := rfl
@[simp] theorem tt269 : TT.get tt 269 = some i269 := rfl
@[simp] theorem tt274 : TT.get tt 274 = some i274 := rfl
@[simp] theorem tt280 : TT.get tt 280 = some i280 := rfl
@[simp] theorem tt290 : TT.get tt 290 = some i290 := rfl
@[simp] theorem tt291 : TT.get tt 291 = some i291 := rfl
theorem hT : TTok Tryz.prog tt := ttCheck_spec (by kernel_rfl)
theorem hm : Tryz.prog.follows .mixedOrders = true := by kernel_rfl
abbrev iH108 : TI := ⟨hd Y108, true, [(0, 1), (1, 1), (2, 1)], false⟩
abbrev iH31 : TI := ⟨.slice 108 (hd Y108), false, [], false⟩
abbrev iH249 : TI := ⟨.slice 31 (.slice 108 (hd Y108)), false, [], false⟩
def ttH : TT := [(3, i3), (4, i4), (5, i5), (9, i9), (22, i22), (24, i24), (25, i25), (28, i28), (31, iH31), (33, i33), (40, i40), (42, i42), (43, i43), (48, i48), (50, i50), (52, i52), (68, i68), (74, i74), (80, i80), (81, i81), (85, i85), (87, i87), (94, i94), (101, i101), (103, i103), (105, i105), (108, iH108), (110, i110), (120, i120), (130, i130), (169, i169), (171, i171), (174, i174), (176, i176), (184, i184), (196, i196), (227, i227), (255, i255), (263, i263), (265, i265), (268, i268), (269, i269), (274, i274), (280, i280), (290, i290), (291, i291), (249, iH249)]
@[simp] theorem ttH3 : TT.get ttH 3 = some i3 := rfl
@[simp] theorem ttH4 : TT.get ttH 4 = some i4 := rfl
@[simp] theorem ttH5 : TT.get ttH 5 = some i5 := rfl
@[simp] theorem ttH9 : TT.get ttH 9 = some i9 := rfl
@[simp] theorem ttH22 : TT.get ttH 22 = some i22 := rfl
@[simp] theorem ttH24 : TT.get ttH 24 = some i24 := rfl
@[simp] theorem ttH25 : TT.get ttH 25 = some i25 := rfl
@[simp] theorem ttH28 : TT.get ttH 28 = some i28 := rfl
@[simp] theorem ttH31 : TT.get ttH 31 = some iH31 := rfl
@[simp] theorem ttH33 : TT.get ttH 33 = some i33 := rfl
@[simp] theorem ttH40 : TT.get ttH 40 = some i40 := rfl
@[simp] theorem ttH42 : TT.get ttH 42 = some i42 := rfl
@[simp] theorem ttH43 : TT.get ttH 43 = some i43 := rfl
@[simp] theorem ttH48 : TT.get ttH 48 = some i48 := rfl
@[simp] theorem ttH50 : TT.get ttH 50 = some i50 := rfl
@[simp] theorem ttH52 : TT.get ttH 52 = some i52 := rfl
@[simp] theorem ttH68 : TT.get ttH 68 = some i68 := rfl
@[simp] theorem ttH74 : TT.get ttH 74 = some i74 := rfl
@[simp] theorem ttH80 : TT.get ttH 80 = some i80 := rfl
@[simp] theorem ttH81 : TT.get ttH 81 = some i81 := rfl
@[simp] theorem ttH85 : TT.get ttH 85 = some i85 := rfl
@[simp] theorem ttH87 : TT.get ttH 87 = some i87 := rfl
@[simp] theorem ttH94 : TT.get ttH 94 = some i94 := rfl
@[simp] theorem ttH101 : TT.get ttH 101 = some i101 := rfl
@[simp] theorem ttH103 : TT.get ttH 103 = some i103 := rfl
@[simp] theorem ttH105 : TT.get ttH 105 = some i105 := rfl
@[simp] theorem ttH108 : TT.get ttH 108 = some iH108 := rfl
@[simp] theorem ttH110 : TT.get ttH 110 = some i110 := rfl
@[simp] theorem ttH120 : TT.get ttH 120 = some i120 := rfl
@[simp] theorem ttH130 : TT.get ttH 130 = some i130 := rfl
@[simp] theorem ttH169 : TT.get ttH 169 = some i169 := rfl
@[simp] theorem ttH171 : TT.get ttH 171 = some i171 := rfl
@[simp] theorem ttH174 : TT.get ttH 174 = some i174 := rfl
@[simp] theorem ttH176 : TT.get ttH 176 = some i176 := rfl
@[simp] theorem ttH184 : TT.get ttH 184 = some i184 := rfl
@[simp] theorem ttH196 : TT.get ttH 196 = some i196 := rfl
@[simp] theorem ttH227 : TT.get ttH 227 = some i227 := rfl
@[simp] theorem ttH255 : TT.get ttH 255 = some i255 := rfl
@[simp] theorem ttH263 : TT.get ttH 263 = some i263 := rfl
@[simp] theorem ttH265 : TT.get ttH 265 = some i265 := rfl
@[simp] theorem ttH268 : TT.get ttH 268 = some i268 := rfl
@[simp] theorem ttH269 : TT.get ttH 269 = some i269 := rfl
@[simp] theorem ttH274 : TT.get ttH 274 = some i274 := rfl
@[simp] theorem ttH280 : TT.get ttH 280 = some i280 := rfl
@[simp] theorem ttH290 : TT.get ttH 290 = some i290 := rfl
@[simp] theorem ttH291 : TT.get ttH 291 = some i291 := rfl
@[simp] theorem ttH249 : TT.get ttH 249 = some iH249 := rfl
theorem hTH : TTok Tryz.prog ttH := ttCheck_spec (by kernel_rfl)
theorem ok_nil {P : Program} : ∀ f g, Gam.get [] f = some g → Sound P f g := fun _ _ h => by simp [Gam.get] at h
theorem ok_cons {P : Program} {f0 : Nat} {g0 : G} {Γ : Gam} (h0 : Sound P f0 g0) (h : ∀ f g, Gam.get Γ f = some g → Sound P f g) : ∀ f g, Gam.get ((f0, g0) :: Γ) f = some g → Sound P f g := fun f g hg => by
  simp only [Gam.get] at hg
  split at hg
  · rename_i e; cases hg; subst e; exact h0
  · exact h f g hg
@[simp] theorem moved_nil : moved [] = [] := rfl
@[simp] theorem moved_cons (c : LC) (r : List LC) : moved (c :: r) = match c.movedId with
    | some i => i :: moved r
    | none => moved r := by simp [moved, List.filterMap_cons]; split <;> simp_all
end Go.T
