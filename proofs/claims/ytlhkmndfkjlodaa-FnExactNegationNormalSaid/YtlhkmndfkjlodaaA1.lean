/- The seat's types. -/
import Derived.Test.YtlhkmndfkjlodaaT12
import Derived.KernelRfl
import Derived.Test.YtlhkmndfkjlodaaProg
set_option linter.unusedSimpArgs false
set_option linter.unusedVariables false
namespace Go.T
open Go Go.Proofs
abbrev Y83:Ty:= .pair (.slice 3 (.int .i64)) (.pair (.int .i64) .bool)
abbrev Y26:Ty:= .pair (.int .i64) (.slice 83 Y83)
abbrev Y35:Ty:= .pair (.int .i64) (.int .i64)
abbrev qH:Ty:= .pair (.slice 3 (.int .i64)) (.pair (.int .i64) .bool)
abbrev Y40:Ty:= .pair (.int .i64) (.slice 113 qH)
abbrev Y41:Ty:= .pair (.int .i64) (.int .i64)
abbrev Y44:Ty:= .pair (.int .i64) (.pair Y41 (.pair .bool (.pair (.slice 41 Y41) (.pair (.slice 41 Y41) (.slice 3 (.int .i64))))))
abbrev Y51:Ty:= .pair (.int .i64) (.pair Y35 (.pair .bool (.pair (.slice 35 Y35) (.pair (.slice 35 Y35) (.slice 3 (.int .i64))))))
abbrev qM:Ty:= .pair .str Y40
abbrev qD:Ty:= .pair .str (.pair (.int .i64) (.slice 168 qM))
abbrev qC:Ty:= .pair (.int .i64) (.pair qH (.pair .str (.pair .str (.pair (.slice 3 (.int .i64)) (.pair (.int .i64) (.pair (.int .i64) (.int .i64)))))))
abbrev qi:Ty:= .pair .str Y26
abbrev qe:Ty:= .pair .str (.pair (.int .i64) (.slice 158 qi))
abbrev qa:Ty:= .pair (.int .i64) (.pair Y83 (.pair .str (.pair .str (.pair (.slice 3 (.int .i64)) (.pair (.int .i64) (.pair (.int .i64) (.int .i64)))))))
abbrev qS0:Ty:= .pair .bool (.pair .bool (.pair .bool .bool))
abbrev qPp:Ty:= .pair (.slice 5 (.int .u8)) (.pair (.int .i64) (.int .i64))
abbrev i3:TI:=⟨.int .i64,false,[],false⟩
abbrev i4:TI:=⟨.bool,false,[],false⟩
abbrev i5:TI:=⟨.int .u8,false,[],false⟩
abbrev i9:TI:=⟨.str,false,[],false⟩
abbrev i22:TI:=⟨.slice 5 (.int .u8),false,[],false⟩
abbrev i24:TI:=⟨.slice 83 Y83,false,[],false⟩
abbrev i26:TI:=⟨Y26,true,[(0,1),(1,1)],false⟩
abbrev i27:TI:=⟨.slice 3 (.int .i64),false,[],false⟩
abbrev i32:TI:=⟨.slice 35 Y35,false,[],false⟩
abbrev i35:TI:=⟨Y35,true,[(0,1),(1,1)],true⟩
abbrev i38:TI:=⟨.slice 113 qH,false,[],false⟩
abbrev i40:TI:=⟨Y40,true,[(0,1),(1,1)],false⟩
abbrev i41:TI:=⟨Y41,true,[(0,1),(1,1)],true⟩
abbrev i42:TI:=⟨.slice 41 Y41,false,[],false⟩
abbrev i44:TI:=⟨Y44,true,[(0,1),(1,2),(3,1),(4,1),(5,1),(6,1)],false⟩
abbrev i51:TI:=⟨Y51,true,[(0,1),(1,2),(3,1),(4,1),(5,1),(6,1)],false⟩
abbrev i57:TI:=⟨.slice 111 qD,false,[],false⟩
abbrev i58:TI:=⟨.slice 115 qC,false,[],false⟩
abbrev i63:TI:=⟨.slice 123 qe,false,[],false⟩
abbrev i65:TI:=⟨.slice 120 qa,false,[],false⟩
abbrev i83:TI:=⟨Y83,true,[(0,1),(1,1),(2,1)],false⟩
abbrev qgj:TI:=⟨.slice 168 qM,false,[],false⟩
abbrev qgd:TI:=⟨qD,true,[(0,1),(1,1),(2,1)],false⟩
abbrev qgk:TI:=⟨qH,true,[(0,1),(1,1),(2,1)],false⟩
abbrev qgw:TI:=⟨qC,true,[(0,1),(1,3),(4,1),(5,1),(6,1),(7,1),(8,1),(9,1)],false⟩
abbrev qqc:TI:=⟨.slice 118 (.slice 4 .bool),false,[],false⟩
abbrev qrr:TI:=⟨.slice 4 .bool,false,[],false⟩
abbrev qca:TI:=⟨qa,true,[(0,1),(1,3),(4,1),(5,1),(6,1),(7,1),(8,1),(9,1)],false⟩
abbrev qcr:TI:=⟨.slice 158 qi,false,[],false⟩
abbrev qcC:TI:=⟨qe,true,[(0,1),(1,1),(2,1)],false⟩
abbrev qsN:TI:=⟨qS0,true,[],false⟩
abbrev qq2:TI:=⟨qPp,true,[(0,1),(1,1),(2,1)],false⟩
abbrev qeM:TI:=⟨qi,true,[(0,1),(1,2)],false⟩
abbrev qgz:TI:=⟨qM,true,[(0,1),(1,2)],false⟩
def tt:TT:=[(3,i3),(4,i4),(5,i5),(9,i9),(22,i22),(24,i24),(26,i26),(27,i27),(32,i32),(35,i35),(38,i38),(40,i40),(41,i41),(42,i42),(44,i44),(51,i51),(57,i57),(58,i58),(63,i63),(65,i65),(83,i83),(109,qgj),(111,qgd),(113,qgk),(115,qgw),(117,qqc),(118,qrr),(120,qca),(121,qcr),(123,qcC),(126,qsN),(135,qq2),(158,qeM),(168,qgz)]
@[simp] theorem tt3 : TT.get tt 3 = some i3 := rfl
@[simp] theorem tt4 : TT.get tt 4 = some i4 := rfl
@[simp] theorem tt5 : TT.get tt 5 = some i5 := rfl
@[simp] theorem tt9 : TT.get tt 9 = some i9 := rfl
@[simp] theorem q1W : TT.get tt 22 = some i22 := rfl
@[simp] theorem q1p : TT.get tt 24 = some i24 := rfl
@[simp] theorem q0Y : TT.get tt 26 = some i26 := rfl
@[simp] theorem q0l : TT.get tt 27 = some i27 := rfl
@[simp] theorem q0m : TT.get tt 32 = some i32 := rfl
@[simp] theorem qZW : TT.get tt 35 = some i35 := rfl
@[simp] theorem q1k : TT.get tt 38 = some i38 := rfl
@[simp] theorem q07 : TT.get tt 40 = some i40 := rfl
@[simp] theorem q1g : TT.get tt 41 = some i41 := rfl
@[simp] theorem q09 : TT.get tt 42 = some i42 := rfl
@[simp] theorem q1I : TT.get tt 44 = some i44 := rfl
@[simp] theorem q1y : TT.get tt 51 = some i51 := rfl
@[simp] theorem q0E : TT.get tt 57 = some i57 := rfl
@[simp] theorem q1z : TT.get tt 58 = some i58 := rfl
@[simp] theorem qZ9 : TT.get tt 63 = some i63 := rfl
@[simp] theorem q1t : TT.get tt 65 = some i65 := rfl
@[simp] theorem q0x : TT.get tt 83 = some i83 := rfl
@[simp] theorem q1u : TT.get tt 109 = some qgj := rfl
@[simp] theorem q1K : TT.get tt 111 = some qgd := rfl
@[simp] theorem q0G : TT.get tt 113 = some qgk := rfl
@[simp] theorem q0a : TT.get tt 115 = some qgw := rfl
@[simp] theorem q0K : TT.get tt 117 = some qqc := rfl
@[simp] theorem q0C : TT.get tt 118 = some qrr := rfl
@[simp] theorem q1Z : TT.get tt 120 = some qca := rfl
@[simp] theorem q1x : TT.get tt 121 = some qcr := rfl
@[simp] theorem q0Z : TT.get tt 123 = some qcC := rfl
@[simp] theorem qZS : TT.get tt 126 = some qsN := rfl
@[simp] theorem q1H : TT.get tt 135 = some qq2 := rfl
@[simp] theorem q0F : TT.get tt 158 = some qeM := rfl
@[simp] theorem q0W : TT.get tt 168 = some qgz := rfl
theorem hT:qP Try.prog tt:=qJI (by kernel_rfl)
theorem hm:Try.prog.follows .mixedOrders=true:=by kernel_rfl
abbrev H26:Ty:=(.pair (.int .i64) .hdr)
abbrev H83:Ty:=(.pair .hdr (.pair (.int .i64) .bool))
abbrev qg:Ty:=(.pair (.int .i64) (.pair H83 (.pair .str (.pair .str (.pair .hdr (.pair (.int .i64) (.pair (.int .i64) (.int .i64))))))))
abbrev qY:Ty:=(.pair .str (.pair (.int .i64) .hdr))
abbrev qX:Ty:=(.pair .str H26)
abbrev qKg:TI:=⟨hd Y83,true,[(0,1),(1,1),(2,1)],false⟩
abbrev qIx:TI:=⟨.slice 83 (hd Y83),false,[],false⟩
def ttH:TT:=[(3,i3),(4,i4),(5,i5),(9,i9),(22,i22),(24,qIx),(26,i26),(27,i27),(32,i32),(35,i35),(38,i38),(40,i40),(41,i41),(42,i42),(44,i44),(51,i51),(57,i57),(58,i58),(63,i63),(65,i65),(83,qKg),(109,qgj),(111,qgd),(113,qgk),(115,qgw),(117,qqc),(118,qrr),(120,qca),(121,qcr),(123,qcC),(126,qsN),(135,qq2),(158,qeM),(168,qgz)]
@[simp] theorem q05 : TT.get ttH 3 = some i3 := rfl
@[simp] theorem qZK : TT.get ttH 4 = some i4 := rfl
@[simp] theorem q06 : TT.get ttH 5 = some i5 := rfl
@[simp] theorem q1d : TT.get ttH 9 = some i9 := rfl
@[simp] theorem q1w : TT.get ttH 22 = some i22 := rfl
@[simp] theorem q1G : TT.get ttH 24 = some qIx := rfl
@[simp] theorem qZB : TT.get ttH 26 = some i26 := rfl
@[simp] theorem q1E : TT.get ttH 27 = some i27 := rfl
@[simp] theorem q1A : TT.get ttH 32 = some i32 := rfl
@[simp] theorem q1i : TT.get ttH 35 = some i35 := rfl
@[simp] theorem qZJ : TT.get ttH 38 = some i38 := rfl
@[simp] theorem qZU : TT.get ttH 40 = some i40 := rfl
@[simp] theorem qZ7 : TT.get ttH 41 = some i41 := rfl
@[simp] theorem q1P : TT.get ttH 42 = some i42 := rfl
@[simp] theorem qZL : TT.get ttH 44 = some i44 := rfl
@[simp] theorem q1e : TT.get ttH 51 = some i51 := rfl
@[simp] theorem q0t : TT.get ttH 57 = some i57 := rfl
@[simp] theorem q1L : TT.get ttH 58 = some i58 := rfl
@[simp] theorem qZQ : TT.get ttH 63 = some i63 := rfl
@[simp] theorem q0v : TT.get ttH 65 = some i65 := rfl
@[simp] theorem q1v : TT.get ttH 83 = some qKg := rfl
@[simp] theorem q01 : TT.get ttH 109 = some qgj := rfl
@[simp] theorem q1Q : TT.get ttH 111 = some qgd := rfl
@[simp] theorem qZ5 : TT.get ttH 113 = some qgk := rfl
@[simp] theorem q0N : TT.get ttH 115 = some qgw := rfl
@[simp] theorem q0R : TT.get ttH 117 = some qqc := rfl
@[simp] theorem qZD : TT.get ttH 118 = some qrr := rfl
@[simp] theorem qZE : TT.get ttH 120 = some qca := rfl
@[simp] theorem q1O : TT.get ttH 121 = some qcr := rfl
@[simp] theorem q08 : TT.get ttH 123 = some qcC := rfl
@[simp] theorem q1Y : TT.get ttH 126 = some qsN := rfl
@[simp] theorem qZx : TT.get ttH 135 = some qq2 := rfl
@[simp] theorem q0q : TT.get ttH 158 = some qeM := rfl
@[simp] theorem qZt : TT.get ttH 168 = some qgz := rfl
theorem hTH:qP Try.prog ttH:=qJI (by kernel_rfl)
theorem qp {P:Program}: ∀f g,Gam.get [] f=some g→Sound P f g:=fun _ _ h=>by simp [Gam.get]at h
theorem ql {P:Program} {f0:Nat} {g0:G} {Γ:Gam} (h0:Sound P f0 g0) (h: ∀f g,Gam.get Γ f=some g→Sound P f g): ∀f g,Gam.get ((f0,g0)::Γ) f=some g→Sound P f g:=fun f g hg=>by
 simp only [Gam.get]at hg
 split at hg
 ·rename_i e;cases hg;subst e;exact h0
 ·exact h f g hg
@[simp] theorem q0z : qk [] = [] := rfl
@[simp] theorem qZG (c : LC) (r : List LC) : qk (c :: r) = match c.movedId with
   | some i=>i::qk r
   | none=>qk r:=by simp [qk,List.filterMap_cons];split<;>simp_all
end Go.T
