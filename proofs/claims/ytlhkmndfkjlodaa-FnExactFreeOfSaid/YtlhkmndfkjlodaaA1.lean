/- The seat's types. -/
import Derived.Test.YtlhkmndfkjlodaaT12
import Derived.KernelRfl
import Derived.Test.YtlhkmndfkjlodaaProg
set_option linter.unusedSimpArgs false
set_option linter.unusedVariables false
namespace Go.T
open Go Go.Proofs
abbrev Y83:Ty:= .pair (.slice 3 (.int .i64)) (.pair (.int .i64) .bool)
abbrev Y26:Ty:= .pair (.int .i64) (.slice 83 Y83)
abbrev Y35:Ty:= .pair (.int .i64) (.int .i64)
abbrev qH:Ty:= .pair (.slice 3 (.int .i64)) (.pair (.int .i64) .bool)
abbrev Y40:Ty:= .pair (.int .i64) (.slice 113 qH)
abbrev Y41:Ty:= .pair (.int .i64) (.int .i64)
abbrev Y44:Ty:= .pair (.int .i64) (.pair Y41 (.pair .bool (.pair (.slice 41 Y41) (.pair (.slice 41 Y41) (.slice 3 (.int .i64))))))
abbrev Y51:Ty:= .pair (.int .i64) (.pair Y35 (.pair .bool (.pair (.slice 35 Y35) (.pair (.slice 35 Y35) (.slice 3 (.int .i64))))))
abbrev qO:Ty:= .pair .str Y40
abbrev qE:Ty:= .pair .str (.pair (.int .i64) (.slice 168 qO))
abbrev qB:Ty:= .pair (.int .i64) (.pair qH (.pair .str (.pair .str (.pair (.slice 3 (.int .i64)) (.pair (.int .i64) (.pair (.int .i64) (.int .i64)))))))
abbrev qi:Ty:= .pair .str Y26
abbrev qf:Ty:= .pair .str (.pair (.int .i64) (.slice 158 qi))
abbrev qb:Ty:= .pair (.int .i64) (.pair Y83 (.pair .str (.pair .str (.pair (.slice 3 (.int .i64)) (.pair (.int .i64) (.pair (.int .i64) (.int .i64)))))))
abbrev qHV:Ty:= .pair .bool (.pair .bool (.pair .bool .bool))
abbrev qNi:Ty:= .pair (.slice 5 (.int .u8)) (.pair (.int .i64) (.int .i64))
abbrev i3:TI:=⟨.int .i64,false,[],false⟩
abbrev i4:TI:=⟨.bool,false,[],false⟩
abbrev i5:TI:=⟨.int .u8,false,[],false⟩
abbrev i9:TI:=⟨.str,false,[],false⟩
abbrev i22:TI:=⟨.slice 5 (.int .u8),false,[],false⟩
abbrev i24:TI:=⟨.slice 83 Y83,false,[],false⟩
abbrev i26:TI:=⟨Y26,true,[(0,1),(1,1)],false⟩
abbrev i27:TI:=⟨.slice 3 (.int .i64),false,[],false⟩
abbrev i32:TI:=⟨.slice 35 Y35,false,[],false⟩
abbrev i35:TI:=⟨Y35,true,[(0,1),(1,1)],true⟩
abbrev i38:TI:=⟨.slice 113 qH,false,[],false⟩
abbrev i40:TI:=⟨Y40,true,[(0,1),(1,1)],false⟩
abbrev i41:TI:=⟨Y41,true,[(0,1),(1,1)],true⟩
abbrev i42:TI:=⟨.slice 41 Y41,false,[],false⟩
abbrev i44:TI:=⟨Y44,true,[(0,1),(1,2),(3,1),(4,1),(5,1),(6,1)],false⟩
abbrev i51:TI:=⟨Y51,true,[(0,1),(1,2),(3,1),(4,1),(5,1),(6,1)],false⟩
abbrev i57:TI:=⟨.slice 111 qE,false,[],false⟩
abbrev i58:TI:=⟨.slice 115 qB,false,[],false⟩
abbrev i63:TI:=⟨.slice 123 qf,false,[],false⟩
abbrev i65:TI:=⟨.slice 120 qb,false,[],false⟩
abbrev i83:TI:=⟨Y83,true,[(0,1),(1,1),(2,1)],false⟩
abbrev qgS:TI:=⟨.slice 168 qO,false,[],false⟩
abbrev qgL:TI:=⟨qE,true,[(0,1),(1,1),(2,1)],false⟩
abbrev qgT:TI:=⟨qH,true,[(0,1),(1,1),(2,1)],false⟩
abbrev qg5:TI:=⟨qB,true,[(0,1),(1,3),(4,1),(5,1),(6,1),(7,1),(8,1),(9,1)],false⟩
abbrev qqE:TI:=⟨.slice 118 (.slice 4 .bool),false,[],false⟩
abbrev qrP:TI:=⟨.slice 4 .bool,false,[],false⟩
abbrev qcq:TI:=⟨qb,true,[(0,1),(1,3),(4,1),(5,1),(6,1),(7,1),(8,1),(9,1)],false⟩
abbrev qcg:TI:=⟨.slice 158 qi,false,[],false⟩
abbrev qcu:TI:=⟨qf,true,[(0,1),(1,1),(2,1)],false⟩
abbrev qae:TI:=⟨qHV,true,[],false⟩
abbrev qrs:TI:=⟨qNi,true,[(0,1),(1,1),(2,1)],false⟩
abbrev qfe:TI:=⟨qi,true,[(0,1),(1,2)],false⟩
abbrev qg7:TI:=⟨qO,true,[(0,1),(1,2)],false⟩
def tt:TT:=[(3,i3),(4,i4),(5,i5),(9,i9),(22,i22),(24,i24),(26,i26),(27,i27),(32,i32),(35,i35),(38,i38),(40,i40),(41,i41),(42,i42),(44,i44),(51,i51),(57,i57),(58,i58),(63,i63),(65,i65),(83,i83),(109,qgS),(111,qgL),(113,qgT),(115,qg5),(117,qqE),(118,qrP),(120,qcq),(121,qcg),(123,qcu),(126,qae),(135,qrs),(158,qfe),(168,qg7)]
@[simp] theorem tt3 : TT.get tt 3 = some i3 := rfl
@[simp] theorem tt4 : TT.get tt 4 = some i4 := rfl
@[simp] theorem tt5 : TT.get tt 5 = some i5 := rfl
@[simp] theorem tt9 : TT.get tt 9 = some i9 := rfl
@[simp] theorem qYu : TT.get tt 22 = some i22 := rfl
@[simp] theorem qXX : TT.get tt 24 = some i24 := rfl
@[simp] theorem qXw : TT.get tt 26 = some i26 := rfl
@[simp] theorem qWT : TT.get tt 27 = some i27 := rfl
@[simp] theorem qWU : TT.get tt 32 = some i32 := rfl
@[simp] theorem qWu : TT.get tt 35 = some i35 := rfl
@[simp] theorem qXS : TT.get tt 38 = some i38 := rfl
@[simp] theorem qXF : TT.get tt 40 = some i40 := rfl
@[simp] theorem qXO : TT.get tt 41 = some i41 := rfl
@[simp] theorem qXH : TT.get tt 42 = some i42 := rfl
@[simp] theorem qYg : TT.get tt 44 = some i44 := rfl
@[simp] theorem qX6 : TT.get tt 51 = some i51 := rfl
@[simp] theorem qXc : TT.get tt 57 = some i57 := rfl
@[simp] theorem qX7 : TT.get tt 58 = some i58 := rfl
@[simp] theorem qWH : TT.get tt 63 = some i63 := rfl
@[simp] theorem qX1 : TT.get tt 65 = some i65 := rfl
@[simp] theorem qW5 : TT.get tt 83 = some i83 := rfl
@[simp] theorem qX2 : TT.get tt 109 = some qgS := rfl
@[simp] theorem qYi : TT.get tt 111 = some qgL := rfl
@[simp] theorem qXe : TT.get tt 113 = some qgT := rfl
@[simp] theorem qWI : TT.get tt 115 = some qg5 := rfl
@[simp] theorem qXi : TT.get tt 117 = some qqE := rfl
@[simp] theorem qXa : TT.get tt 118 = some qrP := rfl
@[simp] theorem qYx : TT.get tt 120 = some qcq := rfl
@[simp] theorem qX5 : TT.get tt 121 = some qcg := rfl
@[simp] theorem qXx : TT.get tt 123 = some qcu := rfl
@[simp] theorem qWq : TT.get tt 126 = some qae := rfl
@[simp] theorem qYf : TT.get tt 135 = some qrs := rfl
@[simp] theorem qXd : TT.get tt 158 = some qfe := rfl
@[simp] theorem qXu : TT.get tt 168 = some qg7 := rfl
theorem hT:qS Try.prog tt:=qIf (by kernel_rfl)
theorem hm:Try.prog.follows .mixedOrders=true:=by kernel_rfl
abbrev H26:Ty:=(.pair (.int .i64) .hdr)
abbrev H83:Ty:=(.pair .hdr (.pair (.int .i64) .bool))
abbrev qg:Ty:=(.pair (.int .i64) (.pair H83 (.pair .str (.pair .str (.pair .hdr (.pair (.int .i64) (.pair (.int .i64) (.int .i64))))))))
abbrev qW:Ty:=(.pair .str (.pair (.int .i64) .hdr))
abbrev qV:Ty:=(.pair .str H26)
abbrev qIS:TI:=⟨hd Y83,true,[(0,1),(1,1),(2,1)],false⟩
abbrev qG7:TI:=⟨.slice 83 (hd Y83),false,[],false⟩
def ttH:TT:=[(3,i3),(4,i4),(5,i5),(9,i9),(22,i22),(24,qG7),(26,i26),(27,i27),(32,i32),(35,i35),(38,i38),(40,i40),(41,i41),(42,i42),(44,i44),(51,i51),(57,i57),(58,i58),(63,i63),(65,i65),(83,qIS),(109,qgS),(111,qgL),(113,qgT),(115,qg5),(117,qqE),(118,qrP),(120,qcq),(121,qcg),(123,qcu),(126,qae),(135,qrs),(158,qfe),(168,qg7)]
@[simp] theorem qXD : TT.get ttH 3 = some i3 := rfl
@[simp] theorem qWi : TT.get ttH 4 = some i4 := rfl
@[simp] theorem qXE : TT.get ttH 5 = some i5 := rfl
@[simp] theorem qXL : TT.get ttH 9 = some i9 := rfl
@[simp] theorem qX4 : TT.get ttH 22 = some i22 := rfl
@[simp] theorem qYe : TT.get ttH 24 = some qG7 := rfl
@[simp] theorem qV9 : TT.get ttH 26 = some i26 := rfl
@[simp] theorem qYc : TT.get ttH 27 = some i27 := rfl
@[simp] theorem qX8 : TT.get ttH 32 = some i32 := rfl
@[simp] theorem qXQ : TT.get ttH 35 = some i35 := rfl
@[simp] theorem qWh : TT.get ttH 38 = some i38 := rfl
@[simp] theorem qWs : TT.get ttH 40 = some i40 := rfl
@[simp] theorem qWF : TT.get ttH 41 = some i41 := rfl
@[simp] theorem qYn : TT.get ttH 42 = some i42 := rfl
@[simp] theorem qWj : TT.get ttH 44 = some i44 := rfl
@[simp] theorem qXM : TT.get ttH 51 = some i51 := rfl
@[simp] theorem qW1 : TT.get ttH 57 = some i57 := rfl
@[simp] theorem qYj : TT.get ttH 58 = some i58 := rfl
@[simp] theorem qWo : TT.get ttH 63 = some i63 := rfl
@[simp] theorem qW3 : TT.get ttH 65 = some i65 := rfl
@[simp] theorem qX3 : TT.get ttH 83 = some qIS := rfl
@[simp] theorem qXz : TT.get ttH 109 = some qgS := rfl
@[simp] theorem qYo : TT.get ttH 111 = some qgL := rfl
@[simp] theorem qWD : TT.get ttH 113 = some qgT := rfl
@[simp] theorem qXl : TT.get ttH 115 = some qg5 := rfl
@[simp] theorem qXp : TT.get ttH 117 = some qqE := rfl
@[simp] theorem qWb : TT.get ttH 118 = some qrP := rfl
@[simp] theorem qWc : TT.get ttH 120 = some qcq := rfl
@[simp] theorem qYm : TT.get ttH 121 = some qcg := rfl
@[simp] theorem qXG : TT.get ttH 123 = some qcu := rfl
@[simp] theorem qYw : TT.get ttH 126 = some qae := rfl
@[simp] theorem qV5 : TT.get ttH 135 = some qrs := rfl
@[simp] theorem qWY : TT.get ttH 158 = some qfe := rfl
@[simp] theorem qV1 : TT.get ttH 168 = some qg7 := rfl
theorem hTH:qS Try.prog ttH:=qIf (by kernel_rfl)
theorem qt {P:Program}: ∀f g,Gam.get [] f=some g→Sound P f g:=fun _ _ h=>by simp [Gam.get]at h
theorem ql {P:Program} {f0:Nat} {g0:G} {Γ:Gam} (h0:Sound P f0 g0) (h: ∀f g,Gam.get Γ f=some g→Sound P f g): ∀f g,Gam.get ((f0,g0)::Γ) f=some g→Sound P f g:=fun f g hg=>by
 simp only [Gam.get]at hg
 split at hg
 ·rename_i e;cases hg;subst e;exact h0
 ·exact h f g hg
@[simp] theorem qW7 : qk [] = [] := rfl
@[simp] theorem qWe (c : LC) (r : List LC) : qk (c :: r) = match c.movedId with
   | some i=>i::qk r
   | none=>qk r:=by simp [qk,List.filterMap_cons];split<;>simp_all
end Go.T
