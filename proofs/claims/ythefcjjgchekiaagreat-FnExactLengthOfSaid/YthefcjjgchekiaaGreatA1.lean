/- The seat's types. -/
import Derived.Test.YthefcjjgchekiaaGreatT11
import Derived.KernelRfl
import Derived.Test.YthefcjjgchekiaaGreatProg
set_option linter.unusedSimpArgs false
set_option linter.unusedVariables false
namespace Go.T
open Go Go.Proofs
abbrev qac:Ty:= .pair (.slice 3 (.int .i64)) (.pair (.int .i64) .bool)
abbrev Y24:Ty:= .pair (.int .i64) (.slice 101 qac)
abbrev Y28:Ty:= .pair (.int .i64) (.int .i64)
abbrev qa:Ty:= .pair (.slice 3 (.int .i64)) (.pair (.int .i64) .bool)
abbrev Y33:Ty:= .pair (.int .i64) (.slice 108 qa)
abbrev Y42:Ty:= .pair (.int .i64) (.slice 24 Y24)
abbrev Y68:Ty:= .pair (.int .i64) (.int .i64)
abbrev Y50:Ty:= .pair (.int .i64) (.slice 33 Y33)
abbrev qKO:Ty:= .pair .str Y24
abbrev q7U:Ty:= .pair .str (.pair (.int .i64) (.slice 255 qKO))
abbrev q5k:Ty:= .pair (.int .i64) (.pair qac (.pair .str (.pair .str (.pair (.slice 3 (.int .i64)) (.pair (.int .i64) (.pair (.int .i64) (.int .i64)))))))
abbrev qRB:Ty:= .pair .str Y33
abbrev q7E:Ty:= .pair .str (.pair (.int .i64) (.slice 184 qRB))
abbrev q36:Ty:= .pair (.int .i64) (.pair qa (.pair .str (.pair .str (.pair (.slice 3 (.int .i64)) (.pair (.int .i64) (.pair (.int .i64) (.int .i64)))))))
abbrev zqM:Ty:= .pair (.int .i64) (.pair Y28 (.pair .bool (.pair (.slice 28 Y28) (.pair (.slice 28 Y28) (.slice 3 (.int .i64))))))
abbrev qa7:Ty:= .pair .bool (.pair Y28 (.pair .bool (.pair .bool (.pair Y28 (.pair .bool .bool)))))
abbrev zkJ:Ty:= .pair (.slice 110 q36) (.pair (.slice 50 Y50) (.slice 28 Y28))
abbrev q49:Ty:= .pair (.slice 3 (.int .i64)) (.pair (.int .i64) (.pair .bool (.slice 3 (.int .i64))))
abbrev i3:TI:=⟨.int .i64,false,[],false⟩
abbrev i4:TI:=⟨.bool,false,[],false⟩
abbrev i5:TI:=⟨.int .u8,false,[],false⟩
abbrev i9:TI:=⟨.str,false,[],false⟩
abbrev i22:TI:=⟨.slice 101 qac,false,[],false⟩
abbrev i24:TI:=⟨Y24,true,[(0,1),(1,1)],false⟩
abbrev i25:TI:=⟨.slice 3 (.int .i64),false,[],false⟩
abbrev i28:TI:=⟨Y28,true,[(0,1),(1,1)],true⟩
abbrev i31:TI:=⟨.slice 108 qa,false,[],false⟩
abbrev i33:TI:=⟨Y33,true,[(0,1),(1,1)],false⟩
abbrev i40:TI:=⟨.slice 24 Y24,false,[],false⟩
abbrev i42:TI:=⟨Y42,true,[(0,1),(1,1)],false⟩
abbrev i43:TI:=⟨.slice 68 Y68,false,[],false⟩
abbrev i48:TI:=⟨.slice 33 Y33,false,[],false⟩
abbrev i50:TI:=⟨Y50,true,[(0,1),(1,1)],false⟩
abbrev i52:TI:=⟨.slice 28 Y28,false,[],false⟩
abbrev i68:TI:=⟨Y68,true,[(0,1),(1,1)],true⟩
abbrev i74:TI:=⟨.slice 50 Y50,false,[],false⟩
abbrev i80:TI:=⟨.slice 171 q7U,false,[],false⟩
abbrev i81:TI:=⟨.slice 103 q5k,false,[],false⟩
abbrev i85:TI:=⟨.slice 176 q7E,false,[],false⟩
abbrev i87:TI:=⟨.slice 110 q36,false,[],false⟩
abbrev i94:TI:=⟨.slice 9 .str,false,[],false⟩
abbrev qiX:TI:=⟨qac,true,[(0,1),(1,1),(2,1)],false⟩
abbrev qG9:TI:=⟨q5k,true,[(0,1),(1,3),(4,1),(5,1),(6,1),(7,1),(8,1),(9,1)],false⟩
abbrev qDb:TI:=⟨.slice 94 (.slice 9 .str),false,[],false⟩
abbrev ql:TI:=⟨qa,true,[(0,1),(1,1),(2,1)],false⟩
abbrev qDO:TI:=⟨q36,true,[(0,1),(1,3),(4,1),(5,1),(6,1),(7,1),(8,1),(9,1)],false⟩
abbrev qB0:TI:=⟨zqM,true,[(0,1),(1,2),(3,1),(4,1),(5,1),(6,1)],false⟩
abbrev q8:TI:=⟨qa7,true,[(0,1),(1,2),(3,1),(4,1),(5,2),(7,1),(8,1)],false⟩
abbrev qHA:TI:=⟨.slice 255 qKO,false,[],false⟩
abbrev qBl:TI:=⟨q7U,true,[(0,1),(1,1),(2,1)],false⟩
abbrev qDU:TI:=⟨.slice 184 qRB,false,[],false⟩
abbrev qAF:TI:=⟨q7E,true,[(0,1),(1,1),(2,1)],false⟩
abbrev qDX:TI:=⟨qRB,true,[(0,1),(1,2)],false⟩
abbrev qBo:TI:=⟨zkJ,true,[(0,1),(1,1),(2,1)],false⟩
abbrev qF6:TI:=⟨.slice 5 (.int .u8),false,[],false⟩
abbrev qGl:TI:=⟨.slice 31 (.slice 108 qa),false,[],false⟩
abbrev qDn:TI:=⟨qKO,true,[(0,1),(1,2)],false⟩
abbrev qHz:TI:=⟨.slice 265 q49,false,[],false⟩
abbrev qBq:TI:=⟨q49,true,[(0,1),(1,1),(2,1),(3,1)],false⟩
abbrev qAR:TI:=⟨.slice 269 (.slice 3 (.int .i64)),false,[],false⟩
abbrev qBW:TI:=⟨.slice 3 (.int .i64),false,[],false⟩
abbrev qCw:TI:=⟨.int .u64,false,[],false⟩
abbrev qz8:TI:=⟨.int .i64,false,[],false⟩
abbrev qEb:TI:=⟨.int .u64,false,[],false⟩
abbrev qD7:TI:=⟨.int .u64,false,[],false⟩
def tt:TT:=[(3,i3),(4,i4),(5,i5),(9,i9),(22,i22),(24,i24),(25,i25),(28,i28),(31,i31),(33,i33),(40,i40),(42,i42),(43,i43),(48,i48),(50,i50),(52,i52),(68,i68),(74,i74),(80,i80),(81,i81),(85,i85),(87,i87),(94,i94),(101,qiX),(103,qG9),(105,qDb),(108,ql),(110,qDO),(120,qB0),(130,q8),(169,qHA),(171,qBl),(174,qDU),(176,qAF),(184,qDX),(196,qBo),(227,qF6),(249,qGl),(255,qDn),(263,qHz),(265,qBq),(268,qAR),(269,qBW),(274,qCw),(280,qz8),(290,qEb),(291,qD7)]
@[simp] theorem tt3 : TT.get tt 3 = some i3 := rfl
@[simp] theorem tt4 : TT.get tt 4 = some i4 := rfl
@[simp] theorem tt5 : TT.get tt 5 = some i5 := rfl
@[simp] theorem tt9 : TT.get tt 9 = some i9 := rfl
@[simp] theorem zCE : TT.get tt 22 = some i22 := rfl
@[simp] theorem zDY : TT.get tt 24 = some i24 := rfl
@[simp] theorem zBS : TT.get tt 25 = some i25 := rfl
@[simp] theorem zDP : TT.get tt 28 = some i28 := rfl
@[simp] theorem zDe : TT.get tt 31 = some i31 := rfl
@[simp] theorem zEm : TT.get tt 33 = some i33 := rfl
@[simp] theorem zD3 : TT.get tt 40 = some i40 := rfl
@[simp] theorem zD5 : TT.get tt 42 = some i42 := rfl
@[simp] theorem zDX : TT.get tt 43 = some i43 := rfl
@[simp] theorem zBZ : TT.get tt 48 = some i48 := rfl
@[simp] theorem zEt : TT.get tt 50 = some i50 := rfl
@[simp] theorem zD8 : TT.get tt 52 = some i52 := rfl
@[simp] theorem zCw : TT.get tt 68 = some i68 := rfl
@[simp] theorem zC9 : TT.get tt 74 = some i74 := rfl
@[simp] theorem zDU : TT.get tt 80 = some i80 := rfl
@[simp] theorem zDK : TT.get tt 81 = some i81 := rfl
@[simp] theorem zB2 : TT.get tt 85 = some i85 := rfl
@[simp] theorem zCg : TT.get tt 87 = some i87 := rfl
@[simp] theorem zBP : TT.get tt 94 = some i94 := rfl
@[simp] theorem zDs : TT.get tt 101 = some qiX := rfl
@[simp] theorem zEp : TT.get tt 103 = some qG9 := rfl
@[simp] theorem zCM : TT.get tt 105 = some qDb := rfl
@[simp] theorem zCa : TT.get tt 108 = some ql := rfl
@[simp] theorem zCd : TT.get tt 110 = some qDO := rfl
@[simp] theorem zEz : TT.get tt 120 = some qB0 := rfl
@[simp] theorem zDM : TT.get tt 130 = some q8 := rfl
@[simp] theorem zEB : TT.get tt 169 = some qHA := rfl
@[simp] theorem zDw : TT.get tt 171 = some qBl := rfl
@[simp] theorem zCt : TT.get tt 174 = some qDU := rfl
@[simp] theorem zCG : TT.get tt 176 = some qAF := rfl
@[simp] theorem zCu : TT.get tt 184 = some qDX := rfl
@[simp] theorem zDi : TT.get tt 196 = some qBo := rfl
@[simp] theorem zCX : TT.get tt 227 = some qF6 := rfl
@[simp] theorem zEE : TT.get tt 249 = some qGl := rfl
@[simp] theorem zEC : TT.get tt 255 = some qDn := rfl
@[simp] theorem zDT : TT.get tt 263 = some qHz := rfl
@[simp] theorem zEc : TT.get tt 265 = some qBq := rfl
@[simp] theorem zDQ : TT.get tt 268 = some qAR := rfl
@[simp] theorem zDI : TT.get tt 269 = some qBW := rfl
@[simp] theorem zDF : TT.get tt 274 = some qCw := rfl
@[simp] theorem zBR : TT.get tt 280 = some qz8 := rfl
@[simp] theorem zBU : TT.get tt 290 = some qEb := rfl
@[simp] theorem zD6 : TT.get tt 291 = some qD7 := rfl
theorem hT:qak Tryz.prog tt:=q7y (by kernel_rfl)
theorem hm:Tryz.prog.follows .mixedOrders=true:=by kernel_rfl
abbrev H33:Ty:=(.pair (.int .i64) .hdr)
abbrev qaM:Ty:=(.pair .hdr (.pair (.int .i64) .bool))
abbrev qLn:TI:=⟨hd qa,true,[(0,1),(1,1),(2,1)],false⟩
abbrev qbZ:TI:=⟨.slice 108 (hd qa),false,[],false⟩
abbrev qCx:TI:=⟨.slice 31 (.slice 108 (hd qa)),false,[],false⟩
def ttH:TT:=[(3,i3),(4,i4),(5,i5),(9,i9),(22,i22),(24,i24),(25,i25),(28,i28),(31,qbZ),(33,i33),(40,i40),(42,i42),(43,i43),(48,i48),(50,i50),(52,i52),(68,i68),(74,i74),(80,i80),(81,i81),(85,i85),(87,i87),(94,i94),(101,qiX),(103,qG9),(105,qDb),(108,qLn),(110,qDO),(120,qB0),(130,q8),(169,qHA),(171,qBl),(174,qDU),(176,qAF),(184,qDX),(196,qBo),(227,qF6),(255,qDn),(263,qHz),(265,qBq),(268,qAR),(269,qBW),(274,qCw),(280,qz8),(290,qEb),(291,qD7),(249,qCx)]
@[simp] theorem zCH : TT.get ttH 3 = some i3 := rfl
@[simp] theorem zC2 : TT.get ttH 4 = some i4 := rfl
@[simp] theorem zEs : TT.get ttH 5 = some i5 := rfl
@[simp] theorem zEa : TT.get ttH 9 = some i9 := rfl
@[simp] theorem zDp : TT.get ttH 22 = some i22 := rfl
@[simp] theorem zCS : TT.get ttH 24 = some i24 := rfl
@[simp] theorem zDj : TT.get ttH 25 = some i25 := rfl
@[simp] theorem zCY : TT.get ttH 28 = some i28 := rfl
@[simp] theorem zDB : TT.get ttH 31 = some qbZ := rfl
@[simp] theorem zDu : TT.get ttH 33 = some i33 := rfl
@[simp] theorem zC6 : TT.get ttH 40 = some i40 := rfl
@[simp] theorem zCC : TT.get ttH 42 = some i42 := rfl
@[simp] theorem zCZ : TT.get ttH 43 = some i43 := rfl
@[simp] theorem zCQ : TT.get ttH 48 = some i48 := rfl
@[simp] theorem zCB : TT.get ttH 50 = some i50 := rfl
@[simp] theorem zCT : TT.get ttH 52 = some i52 := rfl
@[simp] theorem zDa : TT.get ttH 68 = some i68 := rfl
@[simp] theorem zEI : TT.get ttH 74 = some i74 := rfl
@[simp] theorem zC5 : TT.get ttH 80 = some i80 := rfl
@[simp] theorem zDh : TT.get ttH 81 = some i81 := rfl
@[simp] theorem zBK : TT.get ttH 85 = some i85 := rfl
@[simp] theorem zDc : TT.get ttH 87 = some i87 := rfl
@[simp] theorem zDZ : TT.get ttH 94 = some i94 := rfl
@[simp] theorem zEx : TT.get ttH 101 = some qiX := rfl
@[simp] theorem zDg : TT.get ttH 103 = some qG9 := rfl
@[simp] theorem zCp : TT.get ttH 105 = some qDb := rfl
@[simp] theorem zD1 : TT.get ttH 108 = some qLn := rfl
@[simp] theorem zEe : TT.get ttH 110 = some qDO := rfl
@[simp] theorem zD2 : TT.get ttH 120 = some qB0 := rfl
@[simp] theorem zDA : TT.get ttH 130 = some q8 := rfl
@[simp] theorem zB7 : TT.get ttH 169 = some qHA := rfl
@[simp] theorem zDS : TT.get ttH 171 = some qBl := rfl
@[simp] theorem zD0 : TT.get ttH 174 = some qDU := rfl
@[simp] theorem zEy : TT.get ttH 176 = some qAF := rfl
@[simp] theorem zCP : TT.get ttH 184 = some qDX := rfl
@[simp] theorem zC1 : TT.get ttH 196 = some qBo := rfl
@[simp] theorem zCU : TT.get ttH 227 = some qF6 := rfl
@[simp] theorem zBL : TT.get ttH 255 = some qDn := rfl
@[simp] theorem zCv : TT.get ttH 263 = some qHz := rfl
@[simp] theorem zDk : TT.get ttH 265 = some qBq := rfl
@[simp] theorem zCJ : TT.get ttH 268 = some qAR := rfl
@[simp] theorem zB3 : TT.get ttH 269 = some qBW := rfl
@[simp] theorem zCI : TT.get ttH 274 = some qCw := rfl
@[simp] theorem zDo : TT.get ttH 280 = some qz8 := rfl
@[simp] theorem zCc : TT.get ttH 290 = some qEb := rfl
@[simp] theorem zDn : TT.get ttH 291 = some qD7 := rfl
@[simp] theorem zCR : TT.get ttH 249 = some qCx := rfl
theorem hTH:qak Tryz.prog ttH:=q7y (by kernel_rfl)
theorem qn {P:Program}: ∀f g,Gam.get [] f=some g→Sound P f g:=fun _ _ h=>by simp [Gam.get]at h
theorem qg {P:Program} {f0:Nat} {g0:G} {Γ:Gam} (h0:Sound P f0 g0) (h: ∀f g,Gam.get Γ f=some g→Sound P f g): ∀f g,Gam.get ((f0,g0)::Γ) f=some g→Sound P f g:=fun f g hg=>by
 simp only [Gam.get]at hg
 split at hg
 ·rename_i e;cases hg;subst e;exact h0
 ·exact h f g hg
@[simp] theorem zDr : qx [] = [] := rfl
@[simp] theorem zCA (c : LC) (r : List LC) : qx (c :: r) = match c.movedId with
   | some i=>i::qx r
   | none=>qx r:=by simp [qx,List.filterMap_cons];split<;>simp_all
end Go.T
