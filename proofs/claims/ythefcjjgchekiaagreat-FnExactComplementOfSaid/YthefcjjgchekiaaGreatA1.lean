/- The seat's types. -/
import Derived.Test.YthefcjjgchekiaaGreatT11
import Derived.KernelRfl
import Derived.Test.YthefcjjgchekiaaGreatProg
set_option linter.unusedSimpArgs false
set_option linter.unusedVariables false
namespace Go.T
open Go Go.Proofs
abbrev qR : Ty := .pair (.slice 3 (.int .i64)) (.pair (.int .i64) .bool)
abbrev Y24 : Ty := .pair (.int .i64) (.slice 101 qR)
abbrev Y28 : Ty := .pair (.int .i64) (.int .i64)
abbrev qa : Ty := .pair (.slice 3 (.int .i64)) (.pair (.int .i64) .bool)
abbrev Y33 : Ty := .pair (.int .i64) (.slice 108 qa)
abbrev Y42 : Ty := .pair (.int .i64) (.slice 24 Y24)
abbrev Y68 : Ty := .pair (.int .i64) (.int .i64)
abbrev Y50 : Ty := .pair (.int .i64) (.slice 33 Y33)
abbrev qGG : Ty := .pair .str Y24
abbrev qRP : Ty := .pair .str (.pair (.int .i64) (.slice 255 qGG))
abbrev qUe : Ty := .pair (.int .i64) (.pair qR (.pair .str (.pair .str (.pair (.slice 3 (.int .i64)) (.pair (.int .i64) (.pair (.int .i64) (.int .i64)))))))
abbrev qQv : Ty := .pair .str Y33
abbrev qVh : Ty := .pair .str (.pair (.int .i64) (.slice 184 qQv))
abbrev qE4 : Ty := .pair (.int .i64) (.pair qa (.pair .str (.pair .str (.pair (.slice 3 (.int .i64)) (.pair (.int .i64) (.pair (.int .i64) (.int .i64)))))))
abbrev q7u : Ty := .pair (.int .i64) (.pair Y28 (.pair .bool (.pair (.slice 28 Y28) (.pair (.slice 28 Y28) (.slice 3 (.int .i64))))))
abbrev qZ6 : Ty := .pair .bool (.pair Y28 (.pair .bool (.pair .bool (.pair Y28 (.pair .bool .bool)))))
abbrev q2e : Ty := .pair (.slice 110 qE4) (.pair (.slice 50 Y50) (.slice 28 Y28))
abbrev qQx : Ty := .pair (.slice 3 (.int .i64)) (.pair (.int .i64) (.pair .bool (.slice 3 (.int .i64))))
abbrev i3 : TI := ⟨.int .i64, false, [], false⟩
abbrev i4 : TI := ⟨.bool, false, [], false⟩
abbrev i5 : TI := ⟨.int .u8, false, [], false⟩
abbrev i9 : TI := ⟨.str, false, [], false⟩
abbrev i22 : TI := ⟨.slice 101 qR, false, [], false⟩
abbrev i24 : TI := ⟨Y24, true, [(0, 1), (1, 1)], false⟩
abbrev i25 : TI := ⟨.slice 3 (.int .i64), false, [], false⟩
abbrev i28 : TI := ⟨Y28, true, [(0, 1), (1, 1)], true⟩
abbrev i31 : TI := ⟨.slice 108 qa, false, [], false⟩
abbrev i33 : TI := ⟨Y33, true, [(0, 1), (1, 1)], false⟩
abbrev i40 : TI := ⟨.slice 24 Y24, false, [], false⟩
abbrev i42 : TI := ⟨Y42, true, [(0, 1), (1, 1)], false⟩
abbrev i43 : TI := ⟨.slice 68 Y68, false, [], false⟩
abbrev i48 : TI := ⟨.slice 33 Y33, false, [], false⟩
abbrev i50 : TI := ⟨Y50, true, [(0, 1), (1, 1)], false⟩
abbrev i52 : TI := ⟨.slice 28 Y28, false, [], false⟩
abbrev i68 : TI := ⟨Y68, true, [(0, 1), (1, 1)], true⟩
abbrev i74 : TI := ⟨.slice 50 Y50, false, [], false⟩
abbrev i80 : TI := ⟨.slice 171 qRP, false, [], false⟩
abbrev i81 : TI := ⟨.slice 103 qUe, false, [], false⟩
abbrev i85 : TI := ⟨.slice 176 qVh, false, [], false⟩
abbrev i87 : TI := ⟨.slice 110 qE4, false, [], false⟩
abbrev i94 : TI := ⟨.slice 9 .str, false, [], false⟩
abbrev qgQ : TI := ⟨qR, true, [(0, 1), (1, 1), (2, 1)], false⟩
abbrev qw8 : TI := ⟨qUe, true, [(0, 1), (1, 3), (4, 1), (5, 1), (6, 1), (7, 1), (8, 1), (9, 1)], false⟩
abbrev qw4 : TI := ⟨.slice 94 (.slice 9 .str), false, [], false⟩
abbrev qi : TI := ⟨qa, true, [(0, 1), (1, 1), (2, 1)], false⟩
abbrev qux : TI := ⟨qE4, true, [(0, 1), (1, 3), (4, 1), (5, 1), (6, 1), (7, 1), (8, 1), (9, 1)], false⟩
abbrev quB : TI := ⟨q7u, true, [(0, 1), (1, 2), (3, 1), (4, 1), (5, 1), (6, 1)], false⟩
abbrev qxK : TI := ⟨qZ6, true, [(0, 1), (1, 2), (3, 1), (4, 1), (5, 2), (7, 1), (8, 1)], false⟩
abbrev qvy : TI := ⟨.slice 255 qGG, false, [], false⟩
abbrev qy3 : TI := ⟨qRP, true, [(0, 1), (1, 1), (2, 1)], false⟩
abbrev qzS : TI := ⟨.slice 184 qQv, false, [], false⟩
abbrev qxe : TI := ⟨qVh, true, [(0, 1), (1, 1), (2, 1)], false⟩
abbrev qxJ : TI := ⟨qQv, true, [(0, 1), (1, 2)], false⟩
abbrev qAc : TI := ⟨q2e, true, [(0, 1), (1, 1), (2, 1)], false⟩
abbrev quh : TI := ⟨.slice 5 (.int .u8), false, [], false⟩
abbrev qyW : TI := ⟨.slice 31 (.slice 108 qa), false, [], false⟩
abbrev qxN : TI := ⟨qGG, true, [(0, 1), (1, 2)], false⟩
abbrev qxf : TI := ⟨.slice 265 qQx, false, [], false⟩
abbrev qvU : TI := ⟨qQx, true, [(0, 1), (1, 1), (2, 1), (3, 1)], false⟩
abbrev qxO : TI := ⟨.slice 269 (.slice 3 (.int .i64)), false, [], false⟩
abbrev qwW : TI := ⟨.slice 3 (.int .i64), false, [], false⟩
abbrev qwg : TI := ⟨.int .u64, false, [], false⟩
abbrev qvS : TI := ⟨.int .i64, false, [], false⟩
abbrev qvR : TI := ⟨.int .u64, false, [], false⟩
abbrev qzB : TI := ⟨.int .u64, false, [], false⟩
def tt : TT := [(3, i3), (4, i4), (5, i5), (9, i9), (22, i22), (24, i24), (25, i25), (28, i28), (31, i31), (33, i33), (40, i40), (42, i42), (43, i43), (48, i48), (50, i50), (52, i52), (68, i68), (74, i74), (80, i80), (81, i81), (85, i85), (87, i87), (94, i94), (101, qgQ), (103, qw8), (105, qw4), (108, qi), (110, qux), (120, quB), (130, qxK), (169, qvy), (171, qy3), (174, qzS), (176, qxe), (184, qxJ), (196, qAc), (227, quh), (249, qyW), (255, qxN), (263, qxf), (265, qvU), (268, qxO), (269, qwW), (274, qwg), (280, qvS), (290, qvR), (291, qzB)]
@[simp] theorem tt3 : TT.get tt 3 = some i3 := rfl
@[simp] theorem tt4 : TT.get tt 4 = some i4 := rfl
@[simp] theorem tt5 : TT.get tt 5 = some i5 := rfl
@[simp] theorem tt9 : TT.get tt 9 = some i9 := rfl
@[simp] theorem zgT : TT.get tt 22 = some i22 := rfl
@[simp] theorem zga : TT.get tt 24 = some i24 := rfl
@[simp] theorem zhu : TT.get tt 25 = some i25 := rfl
@[simp] theorem zhU : TT.get tt 28 = some i28 := rfl
@[simp] theorem zis : TT.get tt 31 = some i31 := rfl
@[simp] theorem zg9 : TT.get tt 33 = some i33 := rfl
@[simp] theorem zic : TT.get tt 40 = some i40 := rfl
@[simp] theorem zgB : TT.get tt 42 = some i42 := rfl
@[simp] theorem zia : TT.get tt 43 = some i43 := rfl
@[simp] theorem zhM : TT.get tt 48 = some i48 := rfl
@[simp] theorem zir : TT.get tt 50 = some i50 := rfl
@[simp] theorem zhD : TT.get tt 52 = some i52 := rfl
@[simp] theorem zgO : TT.get tt 68 = some i68 := rfl
@[simp] theorem zgN : TT.get tt 74 = some i74 := rfl
@[simp] theorem zif : TT.get tt 80 = some i80 := rfl
@[simp] theorem zgg : TT.get tt 81 = some i81 := rfl
@[simp] theorem zgk : TT.get tt 85 = some i85 := rfl
@[simp] theorem zgx : TT.get tt 87 = some i87 := rfl
@[simp] theorem zhj : TT.get tt 94 = some i94 := rfl
@[simp] theorem zf4 : TT.get tt 101 = some qgQ := rfl
@[simp] theorem zgK : TT.get tt 103 = some qw8 := rfl
@[simp] theorem zhz : TT.get tt 105 = some qw4 := rfl
@[simp] theorem zij : TT.get tt 108 = some qi := rfl
@[simp] theorem zgz : TT.get tt 110 = some qux := rfl
@[simp] theorem zh9 : TT.get tt 120 = some quB := rfl
@[simp] theorem zhT : TT.get tt 130 = some qxK := rfl
@[simp] theorem zhf : TT.get tt 169 = some qvy := rfl
@[simp] theorem zgG : TT.get tt 171 = some qy3 := rfl
@[simp] theorem zf7 : TT.get tt 174 = some qzS := rfl
@[simp] theorem zhy : TT.get tt 176 = some qxe := rfl
@[simp] theorem zhV : TT.get tt 184 = some qxJ := rfl
@[simp] theorem zgR : TT.get tt 196 = some qAc := rfl
@[simp] theorem zf6 : TT.get tt 227 = some quh := rfl
@[simp] theorem ziq : TT.get tt 249 = some qyW := rfl
@[simp] theorem zg4 : TT.get tt 255 = some qxN := rfl
@[simp] theorem zh7 : TT.get tt 263 = some qxf := rfl
@[simp] theorem ziF : TT.get tt 265 = some qvU := rfl
@[simp] theorem zgj : TT.get tt 268 = some qxO := rfl
@[simp] theorem zgM : TT.get tt 269 = some qwW := rfl
@[simp] theorem ziI : TT.get tt 274 = some qwg := rfl
@[simp] theorem ziH : TT.get tt 280 = some qvS := rfl
@[simp] theorem zhm : TT.get tt 290 = some qvR := rfl
@[simp] theorem zh2 : TT.get tt 291 = some qzB := rfl
theorem hT : qY Tryz.prog tt := qSL (by kernel_rfl)
theorem hm : Tryz.prog.follows .mixedOrders = true := by kernel_rfl
abbrev H33 : Ty := (.pair (.int .i64) .hdr)
abbrev qae : Ty := (.pair .hdr (.pair (.int .i64) .bool))
abbrev qGd : TI := ⟨hd qa, true, [(0, 1), (1, 1), (2, 1)], false⟩
abbrev qbg : TI := ⟨.slice 108 (hd qa), false, [], false⟩
abbrev qxd : TI := ⟨.slice 31 (.slice 108 (hd qa)), false, [], false⟩
def ttH : TT := [(3, i3), (4, i4), (5, i5), (9, i9), (22, i22), (24, i24), (25, i25), (28, i28), (31, qbg), (33, i33), (40, i40), (42, i42), (43, i43), (48, i48), (50, i50), (52, i52), (68, i68), (74, i74), (80, i80), (81, i81), (85, i85), (87, i87), (94, i94), (101, qgQ), (103, qw8), (105, qw4), (108, qGd), (110, qux), (120, quB), (130, qxK), (169, qvy), (171, qy3), (174, qzS), (176, qxe), (184, qxJ), (196, qAc), (227, quh), (255, qxN), (263, qxf), (265, qvU), (268, qxO), (269, qwW), (274, qwg), (280, qvS), (290, qvR), (291, qzB), (249, qxd)]
@[simp] theorem zfI : TT.get ttH 3 = some i3 := rfl
@[simp] theorem zgZ : TT.get ttH 4 = some i4 := rfl
@[simp] theorem zhP : TT.get ttH 5 = some i5 := rfl
@[simp] theorem ziC : TT.get ttH 9 = some i9 := rfl
@[simp] theorem zfZ : TT.get ttH 22 = some i22 := rfl
@[simp] theorem zg1 : TT.get ttH 24 = some i24 := rfl
@[simp] theorem zgC : TT.get ttH 25 = some i25 := rfl
@[simp] theorem zio : TT.get ttH 28 = some i28 := rfl
@[simp] theorem zhB : TT.get ttH 31 = some qbg := rfl
@[simp] theorem zh0 : TT.get ttH 33 = some i33 := rfl
@[simp] theorem zhJ : TT.get ttH 40 = some i40 := rfl
@[simp] theorem zgX : TT.get ttH 42 = some i42 := rfl
@[simp] theorem zgc : TT.get ttH 43 = some i43 := rfl
@[simp] theorem zhs : TT.get ttH 48 = some i48 := rfl
@[simp] theorem zfU : TT.get ttH 50 = some i50 := rfl
@[simp] theorem zhk : TT.get ttH 52 = some i52 := rfl
@[simp] theorem zha : TT.get ttH 68 = some i68 := rfl
@[simp] theorem zhS : TT.get ttH 74 = some i74 := rfl
@[simp] theorem zgl : TT.get ttH 80 = some i80 := rfl
@[simp] theorem zhH : TT.get ttH 81 = some i81 := rfl
@[simp] theorem zgr : TT.get ttH 85 = some i85 := rfl
@[simp] theorem zgL : TT.get ttH 87 = some i87 := rfl
@[simp] theorem zfS : TT.get ttH 94 = some i94 := rfl
@[simp] theorem ziE : TT.get ttH 101 = some qgQ := rfl
@[simp] theorem zho : TT.get ttH 103 = some qw8 := rfl
@[simp] theorem zgS : TT.get ttH 105 = some qw4 := rfl
@[simp] theorem zgJ : TT.get ttH 108 = some qGd := rfl
@[simp] theorem zf9 : TT.get ttH 110 = some qux := rfl
@[simp] theorem zgP : TT.get ttH 120 = some quB := rfl
@[simp] theorem zgs : TT.get ttH 130 = some qxK := rfl
@[simp] theorem zhF : TT.get ttH 169 = some qvy := rfl
@[simp] theorem zgo : TT.get ttH 171 = some qy3 := rfl
@[simp] theorem ziD : TT.get ttH 174 = some qzS := rfl
@[simp] theorem zhv : TT.get ttH 176 = some qxe := rfl
@[simp] theorem zhX : TT.get ttH 184 = some qxJ := rfl
@[simp] theorem zhb : TT.get ttH 196 = some qAc := rfl
@[simp] theorem zgb : TT.get ttH 227 = some quh := rfl
@[simp] theorem zht : TT.get ttH 255 = some qxN := rfl
@[simp] theorem zhO : TT.get ttH 263 = some qxf := rfl
@[simp] theorem zf5 : TT.get ttH 265 = some qvU := rfl
@[simp] theorem zgI : TT.get ttH 268 = some qxO := rfl
@[simp] theorem zgv : TT.get ttH 269 = some qwW := rfl
@[simp] theorem zil : TT.get ttH 274 = some qwg := rfl
@[simp] theorem zge : TT.get ttH 280 = some qvS := rfl
@[simp] theorem zgA : TT.get ttH 290 = some qvR := rfl
@[simp] theorem zhZ : TT.get ttH 291 = some qzB := rfl
@[simp] theorem zib : TT.get ttH 249 = some qxd := rfl
theorem hTH : qY Tryz.prog ttH := qSL (by kernel_rfl)
theorem qo {P : Program} : ∀ f g, Gam.get [] f = some g → Sound P f g := fun _ _ h => by simp [Gam.get] at h
theorem qg {P : Program} {f0 : Nat} {g0 : G} {Γ : Gam} (h0 : Sound P f0 g0) (h : ∀ f g, Gam.get Γ f = some g → Sound P f g) : ∀ f g, Gam.get ((f0, g0) :: Γ) f = some g → Sound P f g := fun f g hg => by
  simp only [Gam.get] at hg
  split at hg
  · rename_i e; cases hg; subst e; exact h0
  · exact h f g hg
@[simp] theorem zhW : qu [] = [] := rfl
@[simp] theorem zf0 (c : LC) (r : List LC) : qu (c :: r) = match c.movedId with
    | some i => i :: qu r
    | none => qu r := by simp [qu, List.filterMap_cons]; split <;> simp_all
end Go.T
