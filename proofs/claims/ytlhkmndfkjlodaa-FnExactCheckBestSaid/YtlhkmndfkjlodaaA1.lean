/- The seat's types. -/
import Derived.Test.YtlhkmndfkjlodaaT12
import Derived.KernelRfl
import Derived.Test.YtlhkmndfkjlodaaProg
set_option linter.unusedSimpArgs false
set_option linter.unusedVariables false
namespace Go.T
open Go Go.Proofs
abbrev Y83:Ty:= .pair (.slice 3 (.int .i64)) (.pair (.int .i64) .bool)
abbrev Y26:Ty:= .pair (.int .i64) (.slice 83 Y83)
abbrev Y35:Ty:= .pair (.int .i64) (.int .i64)
abbrev qz:Ty:= .pair (.slice 3 (.int .i64)) (.pair (.int .i64) .bool)
abbrev Y40:Ty:= .pair (.int .i64) (.slice 113 qz)
abbrev Y41:Ty:= .pair (.int .i64) (.int .i64)
abbrev Y44:Ty:= .pair (.int .i64) (.pair Y41 (.pair .bool (.pair (.slice 41 Y41) (.pair (.slice 41 Y41) (.slice 3 (.int .i64))))))
abbrev Y51:Ty:= .pair (.int .i64) (.pair Y35 (.pair .bool (.pair (.slice 35 Y35) (.pair (.slice 35 Y35) (.slice 3 (.int .i64))))))
abbrev qvM:Ty:= .pair .str Y40
abbrev qCU:Ty:= .pair .str (.pair (.int .i64) (.slice 168 qvM))
abbrev qEZ:Ty:= .pair (.int .i64) (.pair qz (.pair .str (.pair .str (.pair (.slice 3 (.int .i64)) (.pair (.int .i64) (.pair (.int .i64) (.int .i64)))))))
abbrev qql:Ty:= .pair .str Y26
abbrev qEY:Ty:= .pair .str (.pair (.int .i64) (.slice 158 qql))
abbrev qB7:Ty:= .pair (.int .i64) (.pair Y83 (.pair .str (.pair .str (.pair (.slice 3 (.int .i64)) (.pair (.int .i64) (.pair (.int .i64) (.int .i64)))))))
abbrev qL4:Ty:= .pair .bool (.pair .bool (.pair .bool .bool))
abbrev qI4:Ty:= .pair (.slice 5 (.int .u8)) (.pair (.int .i64) (.int .i64))
abbrev i3:TI:=⟨.int .i64,false,[],false⟩
abbrev i4:TI:=⟨.bool,false,[],false⟩
abbrev i5:TI:=⟨.int .u8,false,[],false⟩
abbrev i9:TI:=⟨.str,false,[],false⟩
abbrev i22:TI:=⟨.slice 5 (.int .u8),false,[],false⟩
abbrev i24:TI:=⟨.slice 83 Y83,false,[],false⟩
abbrev i26:TI:=⟨Y26,true,[(0,1),(1,1)],false⟩
abbrev i27:TI:=⟨.slice 3 (.int .i64),false,[],false⟩
abbrev i32:TI:=⟨.slice 35 Y35,false,[],false⟩
abbrev i35:TI:=⟨Y35,true,[(0,1),(1,1)],true⟩
abbrev i38:TI:=⟨.slice 113 qz,false,[],false⟩
abbrev i40:TI:=⟨Y40,true,[(0,1),(1,1)],false⟩
abbrev i41:TI:=⟨Y41,true,[(0,1),(1,1)],true⟩
abbrev i42:TI:=⟨.slice 41 Y41,false,[],false⟩
abbrev i44:TI:=⟨Y44,true,[(0,1),(1,2),(3,1),(4,1),(5,1),(6,1)],false⟩
abbrev i51:TI:=⟨Y51,true,[(0,1),(1,2),(3,1),(4,1),(5,1),(6,1)],false⟩
abbrev i57:TI:=⟨.slice 111 qCU,false,[],false⟩
abbrev i58:TI:=⟨.slice 115 qEZ,false,[],false⟩
abbrev i63:TI:=⟨.slice 123 qEY,false,[],false⟩
abbrev i65:TI:=⟨.slice 120 qB7,false,[],false⟩
abbrev i83:TI:=⟨Y83,true,[(0,1),(1,1),(2,1)],false⟩
abbrev qnw:TI:=⟨.slice 168 qvM,false,[],false⟩
abbrev qnk:TI:=⟨qCU,true,[(0,1),(1,1),(2,1)],false⟩
abbrev qc7:TI:=⟨qz,true,[(0,1),(1,1),(2,1)],false⟩
abbrev qor:TI:=⟨qEZ,true,[(0,1),(1,3),(4,1),(5,1),(6,1),(7,1),(8,1),(9,1)],false⟩
abbrev qmS:TI:=⟨.slice 118 (.slice 4 .bool),false,[],false⟩
abbrev qnV:TI:=⟨.slice 4 .bool,false,[],false⟩
abbrev qld:TI:=⟨qB7,true,[(0,1),(1,3),(4,1),(5,1),(6,1),(7,1),(8,1),(9,1)],false⟩
abbrev qok:TI:=⟨.slice 158 qql,false,[],false⟩
abbrev qma:TI:=⟨qEY,true,[(0,1),(1,1),(2,1)],false⟩
abbrev qo9:TI:=⟨qL4,true,[],false⟩
abbrev qnz:TI:=⟨qI4,true,[(0,1),(1,1),(2,1)],false⟩
abbrev qo2:TI:=⟨qql,true,[(0,1),(1,2)],false⟩
abbrev qoy:TI:=⟨qvM,true,[(0,1),(1,2)],false⟩
def tt:TT:=[(3,i3),(4,i4),(5,i5),(9,i9),(22,i22),(24,i24),(26,i26),(27,i27),(32,i32),(35,i35),(38,i38),(40,i40),(41,i41),(42,i42),(44,i44),(51,i51),(57,i57),(58,i58),(63,i63),(65,i65),(83,i83),(109,qnw),(111,qnk),(113,qc7),(115,qor),(117,qmS),(118,qnV),(120,qld),(121,qok),(123,qma),(126,qo9),(135,qnz),(158,qo2),(168,qoy)]
@[simp] theorem tt3 : TT.get tt 3 = some i3 := rfl
@[simp] theorem tt4 : TT.get tt 4 = some i4 := rfl
@[simp] theorem tt5 : TT.get tt 5 = some i5 := rfl
@[simp] theorem tt9 : TT.get tt 9 = some i9 := rfl
@[simp] theorem qUN : TT.get tt 22 = some i22 := rfl
@[simp] theorem qUg : TT.get tt 24 = some i24 := rfl
@[simp] theorem qTP : TT.get tt 26 = some i26 := rfl
@[simp] theorem qTc : TT.get tt 27 = some i27 := rfl
@[simp] theorem qTd : TT.get tt 32 = some i32 := rfl
@[simp] theorem qSN : TT.get tt 35 = some i35 := rfl
@[simp] theorem qUb : TT.get tt 38 = some i38 := rfl
@[simp] theorem qTY : TT.get tt 40 = some i40 := rfl
@[simp] theorem qT7 : TT.get tt 41 = some i41 := rfl
@[simp] theorem qT0 : TT.get tt 42 = some i42 := rfl
@[simp] theorem qUz : TT.get tt 44 = some i44 := rfl
@[simp] theorem qUp : TT.get tt 51 = some i51 := rfl
@[simp] theorem qTv : TT.get tt 57 = some i57 := rfl
@[simp] theorem qUq : TT.get tt 58 = some i58 := rfl
@[simp] theorem qS0 : TT.get tt 63 = some i63 := rfl
@[simp] theorem qUk : TT.get tt 65 = some i65 := rfl
@[simp] theorem qTo : TT.get tt 83 = some i83 := rfl
@[simp] theorem qUl : TT.get tt 109 = some qnw := rfl
@[simp] theorem qUB : TT.get tt 111 = some qnk := rfl
@[simp] theorem qTx : TT.get tt 113 = some qc7 := rfl
@[simp] theorem qS1 : TT.get tt 115 = some qor := rfl
@[simp] theorem qTB : TT.get tt 117 = some qmS := rfl
@[simp] theorem qTt : TT.get tt 118 = some qnV := rfl
@[simp] theorem qUQ : TT.get tt 120 = some qld := rfl
@[simp] theorem qUo : TT.get tt 121 = some qok := rfl
@[simp] theorem qTQ : TT.get tt 123 = some qma := rfl
@[simp] theorem qSJ : TT.get tt 126 = some qo9 := rfl
@[simp] theorem qUy : TT.get tt 135 = some qnz := rfl
@[simp] theorem qTw : TT.get tt 158 = some qo2 := rfl
@[simp] theorem qTN : TT.get tt 168 = some qoy := rfl
theorem hT:qN Try.prog tt:=qNL (by kernel_rfl)
theorem hm:Try.prog.follows .mixedOrders=true:=by kernel_rfl
abbrev qEJ:TI:=⟨hd Y83,true,[(0,1),(1,1),(2,1)],false⟩
abbrev qDa:TI:=⟨.slice 83 (hd Y83),false,[],false⟩
def ttH:TT:=[(3,i3),(4,i4),(5,i5),(9,i9),(22,i22),(24,qDa),(26,i26),(27,i27),(32,i32),(35,i35),(38,i38),(40,i40),(41,i41),(42,i42),(44,i44),(51,i51),(57,i57),(58,i58),(63,i63),(65,i65),(83,qEJ),(109,qnw),(111,qnk),(113,qc7),(115,qor),(117,qmS),(118,qnV),(120,qld),(121,qok),(123,qma),(126,qo9),(135,qnz),(158,qo2),(168,qoy)]
@[simp] theorem qTW : TT.get ttH 3 = some i3 := rfl
@[simp] theorem qSB : TT.get ttH 4 = some i4 := rfl
@[simp] theorem qTX : TT.get ttH 5 = some i5 := rfl
@[simp] theorem qT4 : TT.get ttH 9 = some i9 := rfl
@[simp] theorem qUn : TT.get ttH 22 = some i22 := rfl
@[simp] theorem qUx : TT.get ttH 24 = some qDa := rfl
@[simp] theorem qSs : TT.get ttH 26 = some i26 := rfl
@[simp] theorem qUv : TT.get ttH 27 = some i27 := rfl
@[simp] theorem qUr : TT.get ttH 32 = some i32 := rfl
@[simp] theorem qT9 : TT.get ttH 35 = some i35 := rfl
@[simp] theorem qSA : TT.get ttH 38 = some i38 := rfl
@[simp] theorem qSL : TT.get ttH 40 = some i40 := rfl
@[simp] theorem qSY : TT.get ttH 41 = some i41 := rfl
@[simp] theorem qUG : TT.get ttH 42 = some i42 := rfl
@[simp] theorem qSC : TT.get ttH 44 = some i44 := rfl
@[simp] theorem qT5 : TT.get ttH 51 = some i51 := rfl
@[simp] theorem qTk : TT.get ttH 57 = some i57 := rfl
@[simp] theorem qUC : TT.get ttH 58 = some i58 := rfl
@[simp] theorem qSH : TT.get ttH 63 = some i63 := rfl
@[simp] theorem qTm : TT.get ttH 65 = some i65 := rfl
@[simp] theorem qUm : TT.get ttH 83 = some qEJ := rfl
@[simp] theorem qTS : TT.get ttH 109 = some qnw := rfl
@[simp] theorem qUH : TT.get ttH 111 = some qnk := rfl
@[simp] theorem qSW : TT.get ttH 113 = some qc7 := rfl
@[simp] theorem qTE : TT.get ttH 115 = some qor := rfl
@[simp] theorem qTI : TT.get ttH 117 = some qmS := rfl
@[simp] theorem qSu : TT.get ttH 118 = some qnV := rfl
@[simp] theorem qSv : TT.get ttH 120 = some qld := rfl
@[simp] theorem qUF : TT.get ttH 121 = some qok := rfl
@[simp] theorem qTZ : TT.get ttH 123 = some qma := rfl
@[simp] theorem qUP : TT.get ttH 126 = some qo9 := rfl
@[simp] theorem qSo : TT.get ttH 135 = some qnz := rfl
@[simp] theorem qTh : TT.get ttH 158 = some qo2 := rfl
@[simp] theorem qSk : TT.get ttH 168 = some qoy := rfl
theorem qp {P:Program}: ∀f g,Gam.get [] f=some g→Sound P f g:=fun _ _ h=>by simp [Gam.get]at h
theorem qe {P:Program} {f0:Nat} {g0:G} {Γ:Gam} (h0:Sound P f0 g0) (h: ∀f g,Gam.get Γ f=some g→Sound P f g): ∀f g,Gam.get ((f0,g0)::Γ) f=some g→Sound P f g:=fun f g hg=>by
 simp only [Gam.get]at hg
 split at hg
 ·rename_i e;cases hg;subst e;exact h0
 ·exact h f g hg
@[simp] theorem qTq : qf [] = [] := rfl
@[simp] theorem qSx (c : LC) (r : List LC) : qf (c :: r) = match c.movedId with
   | some i=>i::qf r
   | none=>qf r:=by simp [qf,List.filterMap_cons];split<;>simp_all
end Go.T
