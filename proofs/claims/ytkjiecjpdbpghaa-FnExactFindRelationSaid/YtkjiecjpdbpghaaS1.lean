/- The seat's types. -/
import Derived.Test.YtkjiecjpdbpghaaT35
import Derived.KernelRfl
import Derived.Test.YtkjiecjpdbpghaaProg
namespace Go.T
open Go Go.Proofs
abbrev Y134 : Ty := .pair (.slice 3 (.int .i64)) (.pair (.int .i64) .bool)
abbrev Y31 : Ty := .pair (.int .i64) (.slice 134 Y134)
abbrev Y172 : Ty := .pair .str Y31
abbrev Y48 : Ty := .pair .str (.pair (.int .i64) (.slice 172 Y172))
abbrev Y106 : Ty := .pair (.slice 3 (.int .i64)) (.pair (.int .i64) .bool)
abbrev Y36 : Ty := .pair (.int .i64) (.slice 106 Y106)
abbrev Y116 : Ty := .pair .str Y36
abbrev Y53 : Ty := .pair .str (.pair (.int .i64) (.slice 116 Y116))
abbrev i3 : TI := ⟨.int .i64, false, [], false⟩
abbrev i4 : TI := ⟨.bool, false, [], false⟩
abbrev i9 : TI := ⟨.str, false, [], false⟩
abbrev i22 : TI := ⟨.slice 48 Y48, false, [], false⟩
abbrev i25 : TI := ⟨.slice 53 Y53, false, [], false⟩
abbrev i29 : TI := ⟨.slice 134 Y134, false, [], false⟩
abbrev i31 : TI := ⟨Y31, true, [(0, 1), (1, 1)], false⟩
abbrev i32 : TI := ⟨.slice 3 (.int .i64), false, [], false⟩
abbrev i34 : TI := ⟨.slice 106 Y106, false, [], false⟩
abbrev i36 : TI := ⟨Y36, true, [(0, 1), (1, 1)], false⟩
abbrev i46 : TI := ⟨.slice 172 Y172, false, [], false⟩
abbrev i48 : TI := ⟨Y48, true, [(0, 1), (1, 1), (2, 1)], false⟩
abbrev i51 : TI := ⟨.slice 116 Y116, false, [], false⟩
abbrev i53 : TI := ⟨Y53, true, [(0, 1), (1, 1), (2, 1)], false⟩
abbrev i106 : TI := ⟨Y106, true, [(0, 1), (1, 1), (2, 1)], false⟩
abbrev i116 : TI := ⟨Y116, true, [(0, 1), (1, 2)], false⟩
abbrev i134 : TI := ⟨Y134, true, [(0, 1), (1, 1), (2, 1)], false⟩
abbrev i172 : TI := ⟨Y172, true, [(0, 1), (1, 2)], false⟩
def tt : TT := [(3, i3), (4, i4), (9, i9), (22, i22), (25, i25), (29, i29), (31, i31), (32, i32), (34, i34), (36, i36), (46, i46), (48, i48), (51, i51), (53, i53), (106, i106), (116, i116), (134, i134), (172, i172)]
@[simp] theorem tt3 : TT.get tt 3 = some i3 := rfl
@[simp] theorem tt4 : TT.get tt 4 = some i4 := rfl
@[simp] theorem tt9 : TT.get tt 9 = some i9 := rfl
@[simp] theorem tt22 : TT.get tt 22 = some i22 := rfl
@[simp] theorem tt25 : TT.get tt 25 = some i25 := rfl
@[simp] theorem tt29 : TT.get tt 29 = some i29 := rfl
@[simp] theorem tt31 : TT.get tt 31 = some i31 := rfl
@[simp] theorem tt32 : TT.get tt 32 = some i32 := rfl
@[simp] theorem tt34 : TT.get tt 34 = some i34 := rfl
@[simp] theorem tt36 : TT.get tt 36 = some i36 := rfl
@[simp] theorem tt46 : TT.get tt 46 = some i46 := rfl
@[simp] theorem tt48 : TT.get tt 48 = some i48 := rfl
@[simp] theorem tt51 : TT.get tt 51 = some i51 := rfl
@[simp] theorem tt53 : TT.get tt 53 = some i53 := rfl
@[simp] theorem tt106 : TT.get tt 106 = some i106 := rfl
@[simp] theorem tt116 : TT.get tt 116 = some i116 := rfl
@[simp] theorem tt134 : TT.get tt 134 = some i134 := rfl
@[simp] theorem tt172 : TT.get tt 172 = some i172 := rfl
theorem hT : TTok Try.prog tt := ttCheck_spec (by kernel_rfl)
theorem hm : Try.prog.follows .mixedOrders = true := by kernel_rfl
def gSz (ti : TI) : G := { ps := [ti, i3], rs := [i3], dp := true, pre := fun x => szPre ti.ty x.1 x.2.1, fn := fun x => (szV ti.ty x.1 x.2.1, ()) }
theorem ok_nil {P : Program} : ∀ f g, Gam.get [] f = some g → Sound P f g := fun _ _ h => by simp [Gam.get] at h
theorem ok_cons {P : Program} {f0 : Nat} {g0 : G} {Γ : Gam} (h0 : Sound P f0 g0) (h : ∀ f g, Gam.get Γ f = some g → Sound P f g) : ∀ f g, Gam.get ((f0, g0) :: Γ) f = some g → Sound P f g := fun f g hg => by
  simp only [Gam.get] at hg
  split at hg
  · rename_i e; cases hg; subst e; exact h0
  · exact h f g hg
@[simp] theorem moved_nil : moved [] = [] := rfl
@[simp] theorem moved_cons (c : LC) (r : List LC) : moved (c :: r) = match c.movedId with
    | some i => i :: moved r
    | none => moved r := by simp [moved, List.filterMap_cons]; split <;> simp_all
end Go.T
