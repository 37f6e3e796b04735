/- The seat's types. -/
import Derived.Test.YthefcjjgchekiaaT13
import Derived.KernelRfl
import Derived.Test.YthefcjjgchekiaaProg
set_option linter.unusedSimpArgs false
set_option linter.unusedVariables false
namespace Go.T
open Go Go.Proofs
abbrev Y27:Ty:= .pair (.slice 3 (.int .i64)) (.pair (.int .i64) .bool)
abbrev Y24:Ty:= .pair (.int .i64) (.slice 27 Y27)
abbrev Y36:Ty:= .pair (.slice 3 (.int .i64)) (.pair (.int .i64) .bool)
abbrev Y32:Ty:= .pair (.int .i64) (.slice 36 Y36)
abbrev Y64:Ty:= .pair (.int .i64) (.int .i64)
abbrev Y66:Ty:= .pair .bool (.pair Y64 (.pair .bool (.pair .bool (.pair Y64 (.pair .bool .bool)))))
abbrev i3:TI:=⟨.int .i64,false,[],false⟩
abbrev i4:TI:=⟨.bool,false,[],false⟩
abbrev i22:TI:=⟨.slice 27 Y27,false,[],false⟩
abbrev i24:TI:=⟨Y24,true,[(0,1),(1,1)],false⟩
abbrev i25:TI:=⟨.slice 3 (.int .i64),false,[],false⟩
abbrev i27:TI:=⟨Y27,true,[(0,1),(1,1),(2,1)],false⟩
abbrev i30:TI:=⟨.slice 36 Y36,false,[],false⟩
abbrev i32:TI:=⟨Y32,true,[(0,1),(1,1)],false⟩
abbrev i36:TI:=⟨Y36,true,[(0,1),(1,1),(2,1)],false⟩
abbrev i46:TI:=⟨.slice 66 Y66,false,[],false⟩
abbrev i64:TI:=⟨Y64,true,[(0,1),(1,1)],true⟩
abbrev i66:TI:=⟨Y66,true,[(0,1),(1,2),(3,1),(4,1),(5,2),(7,1),(8,1)],false⟩
abbrev i85:TI:=⟨.slice 30 (.slice 36 Y36),false,[],false⟩
abbrev i97:TI:=⟨.int .u64,false,[],false⟩
abbrev qpo:TI:=⟨.int .i64,false,[],false⟩
abbrev qnQ:TI:=⟨.int .u64,false,[],false⟩
abbrev qoB:TI:=⟨.int .u64,false,[],false⟩
def tt:TT:=[(3,i3),(4,i4),(22,i22),(24,i24),(25,i25),(27,i27),(30,i30),(32,i32),(36,i36),(46,i46),(64,i64),(66,i66),(85,i85),(97,i97),(100,qpo),(110,qnQ),(111,qoB)]
@[simp] theorem tt3 : TT.get tt 3 = some i3 := rfl
@[simp] theorem tt4 : TT.get tt 4 = some i4 := rfl
@[simp] theorem qUC : TT.get tt 22 = some i22 := rfl
@[simp] theorem qUd : TT.get tt 24 = some i24 := rfl
@[simp] theorem qUH : TT.get tt 25 = some i25 := rfl
@[simp] theorem qTs : TT.get tt 27 = some i27 := rfl
@[simp] theorem qUy : TT.get tt 30 = some i30 := rfl
@[simp] theorem qTt : TT.get tt 32 = some i32 := rfl
@[simp] theorem qTX : TT.get tt 36 = some i36 := rfl
@[simp] theorem qUG : TT.get tt 46 = some i46 := rfl
@[simp] theorem qTE : TT.get tt 64 = some i64 := rfl
@[simp] theorem qUs : TT.get tt 66 = some i66 := rfl
@[simp] theorem qS0 : TT.get tt 85 = some i85 := rfl
@[simp] theorem qUE : TT.get tt 97 = some i97 := rfl
@[simp] theorem qSG : TT.get tt 100 = some qpo := rfl
@[simp] theorem qTK : TT.get tt 110 = some qnQ := rfl
@[simp] theorem qUr : TT.get tt 111 = some qoB := rfl
theorem hT:qV Try.prog tt:=qEO (by kernel_rfl)
theorem hm:Try.prog.follows .mixedOrders=true:=by kernel_rfl
abbrev H36:Ty:=(.pair .hdr (.pair (.int .i64) .bool))
abbrev qEQ:TI:=⟨hd Y36,true,[(0,1),(1,1),(2,1)],false⟩
abbrev qFo:TI:=⟨.slice 36 (hd Y36),false,[],false⟩
abbrev qCH:TI:=⟨.slice 30 (.slice 36 (hd Y36)),false,[],false⟩
def ttH:TT:=[(3,i3),(4,i4),(22,i22),(24,i24),(25,i25),(27,i27),(30,qFo),(32,i32),(36,qEQ),(46,i46),(64,i64),(66,i66),(97,i97),(100,qpo),(110,qnQ),(111,qoB),(85,qCH)]
@[simp] theorem qT1 : TT.get ttH 3 = some i3 := rfl
@[simp] theorem qSV : TT.get ttH 4 = some i4 := rfl
@[simp] theorem qUh : TT.get ttH 22 = some i22 := rfl
@[simp] theorem qUp : TT.get ttH 24 = some i24 := rfl
@[simp] theorem qT2 : TT.get ttH 25 = some i25 := rfl
@[simp] theorem qUm : TT.get ttH 27 = some i27 := rfl
@[simp] theorem qTJ : TT.get ttH 30 = some qFo := rfl
@[simp] theorem qUi : TT.get ttH 32 = some i32 := rfl
@[simp] theorem qSW : TT.get ttH 36 = some qEQ := rfl
@[simp] theorem qUo : TT.get ttH 46 = some i46 := rfl
@[simp] theorem qTg : TT.get ttH 64 = some i64 := rfl
@[simp] theorem qT3 : TT.get ttH 66 = some i66 := rfl
@[simp] theorem qTR : TT.get ttH 97 = some i97 := rfl
@[simp] theorem qS9 : TT.get ttH 100 = some qpo := rfl
@[simp] theorem qUJ : TT.get ttH 110 = some qnQ := rfl
@[simp] theorem qUv : TT.get ttH 111 = some qoB := rfl
@[simp] theorem qSF : TT.get ttH 85 = some qCH := rfl
theorem hTH:qV Try.prog ttH:=qEO (by kernel_rfl)
theorem qq {P:Program}: ∀f g,Gam.get [] f=some g→Sound P f g:=fun _ _ h=>by simp [Gam.get]at h
theorem qf {P:Program} {f0:Nat} {g0:G} {Γ:Gam} (h0:Sound P f0 g0) (h: ∀f g,Gam.get Γ f=some g→Sound P f g): ∀f g,Gam.get ((f0,g0)::Γ) f=some g→Sound P f g:=fun f g hg=>by
 simp only [Gam.get]at hg
 split at hg
 ·rename_i e;cases hg;subst e;exact h0
 ·exact h f g hg
@[simp] theorem qTB : qj [] = [] := rfl
@[simp] theorem qSS (c : LC) (r : List LC) : qj (c :: r) = match c.movedId with
   | some i=>i::qj r
   | none=>qj r:=by simp [qj,List.filterMap_cons];split<;>simp_all
end Go.T
