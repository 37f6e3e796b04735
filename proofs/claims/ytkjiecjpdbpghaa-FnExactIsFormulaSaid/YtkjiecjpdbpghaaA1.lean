/- The seat's types. -/
import Derived.Test.YtkjiecjpdbpghaaT13
import Derived.KernelRfl
import Derived.Test.YtkjiecjpdbpghaaProg
set_option linter.unusedSimpArgs false
set_option linter.unusedVariables false
namespace Go.T
open Go Go.Proofs
abbrev qx:Ty:= .pair (.slice 3 (.int .i64)) (.pair (.int .i64) .bool)
abbrev Y31:Ty:= .pair (.int .i64) (.slice 134 qx)
abbrev qz:Ty:= .pair .str Y31
abbrev Y48:Ty:= .pair .str (.pair (.int .i64) (.slice 172 qz))
abbrev qf:Ty:= .pair (.slice 3 (.int .i64)) (.pair (.int .i64) .bool)
abbrev Y36:Ty:= .pair (.int .i64) (.slice 106 qf)
abbrev qi:Ty:= .pair .str Y36
abbrev Y53:Ty:= .pair .str (.pair (.int .i64) (.slice 116 qi))
abbrev Y66:Ty:= .pair (.int .i64) (.int .i64)
abbrev Y71:Ty:= .pair (.int .i64) (.slice 36 Y36)
abbrev qw:Ty:= .pair (.int .i64) (.pair qx (.pair .str (.pair .str (.pair (.slice 3 (.int .i64)) (.pair (.int .i64) (.pair (.int .i64) (.int .i64)))))))
abbrev qe:Ty:= .pair (.int .i64) (.pair qf (.pair .str (.pair .str (.pair (.slice 3 (.int .i64)) (.pair (.int .i64) (.pair (.int .i64) (.int .i64)))))))
abbrev Y85:Ty:= .pair (.int .i64) (.int .i64)
abbrev Y88:Ty:= .pair (.int .i64) (.pair Y85 (.pair .bool (.pair (.slice 85 Y85) (.pair (.slice 85 Y85) (.slice 3 (.int .i64))))))
abbrev Y92:Ty:= .pair (.int .i64) (.pair Y66 (.pair .bool (.pair (.slice 66 Y66) (.pair (.slice 66 Y66) (.slice 3 (.int .i64))))))
abbrev qHQ:Ty:= .pair (.slice 5 (.int .u8)) (.pair (.int .i64) (.int .i64))
abbrev i3:TI:=⟨.int .i64,false,[],false⟩
abbrev i4:TI:=⟨.bool,false,[],false⟩
abbrev i5:TI:=⟨.int .u8,false,[],false⟩
abbrev i9:TI:=⟨.str,false,[],false⟩
abbrev i22:TI:=⟨.slice 48 Y48,false,[],false⟩
abbrev i25:TI:=⟨.slice 53 Y53,false,[],false⟩
abbrev i29:TI:=⟨.slice 134 qx,false,[],false⟩
abbrev i31:TI:=⟨Y31,true,[(0,1),(1,1)],false⟩
abbrev i32:TI:=⟨.slice 3 (.int .i64),false,[],false⟩
abbrev i34:TI:=⟨.slice 106 qf,false,[],false⟩
abbrev i36:TI:=⟨Y36,true,[(0,1),(1,1)],false⟩
abbrev i46:TI:=⟨.slice 172 qz,false,[],false⟩
abbrev i48:TI:=⟨Y48,true,[(0,1),(1,1),(2,1)],false⟩
abbrev i51:TI:=⟨.slice 116 qi,false,[],false⟩
abbrev i53:TI:=⟨Y53,true,[(0,1),(1,1),(2,1)],false⟩
abbrev i59:TI:=⟨.slice 5 (.int .u8),false,[],false⟩
abbrev i63:TI:=⟨.slice 66 Y66,false,[],false⟩
abbrev i66:TI:=⟨Y66,true,[(0,1),(1,1)],true⟩
abbrev i69:TI:=⟨.slice 36 Y36,false,[],false⟩
abbrev i71:TI:=⟨Y71,true,[(0,1),(1,1)],false⟩
abbrev i78:TI:=⟨.slice 136 qw,false,[],false⟩
abbrev i81:TI:=⟨.slice 139 qe,false,[],false⟩
abbrev i85:TI:=⟨Y85,true,[(0,1),(1,1)],true⟩
abbrev i86:TI:=⟨.slice 85 Y85,false,[],false⟩
abbrev i88:TI:=⟨Y88,true,[(0,1),(1,2),(3,1),(4,1),(5,1),(6,1)],false⟩
abbrev i92:TI:=⟨Y92,true,[(0,1),(1,2),(3,1),(4,1),(5,1),(6,1)],false⟩
abbrev qar:TI:=⟨qf,true,[(0,1),(1,1),(2,1)],false⟩
abbrev qcf:TI:=⟨qi,true,[(0,1),(1,2)],false⟩
abbrev qc1:TI:=⟨qx,true,[(0,1),(1,1),(2,1)],false⟩
abbrev qdg:TI:=⟨qw,true,[(0,1),(1,3),(4,1),(5,1),(6,1),(7,1),(8,1),(9,1)],false⟩
abbrev qaJ:TI:=⟨qe,true,[(0,1),(1,3),(4,1),(5,1),(6,1),(7,1),(8,1),(9,1)],false⟩
abbrev qmc:TI:=⟨.slice 158 (.slice 4 .bool),false,[],false⟩
abbrev qmb:TI:=⟨.slice 4 .bool,false,[],false⟩
abbrev qdu:TI:=⟨qz,true,[(0,1),(1,2)],false⟩
abbrev qmi:TI:=⟨qHQ,true,[(0,1),(1,1),(2,1)],false⟩
def tt:TT:=[(3,i3),(4,i4),(5,i5),(9,i9),(22,i22),(25,i25),(29,i29),(31,i31),(32,i32),(34,i34),(36,i36),(46,i46),(48,i48),(51,i51),(53,i53),(59,i59),(63,i63),(66,i66),(69,i69),(71,i71),(78,i78),(81,i81),(85,i85),(86,i86),(88,i88),(92,i92),(106,qar),(116,qcf),(134,qc1),(136,qdg),(139,qaJ),(157,qmc),(158,qmb),(172,qdu),(176,qmi)]
@[simp] theorem tt3 : TT.get tt 3 = some i3 := rfl
@[simp] theorem tt4 : TT.get tt 4 = some i4 := rfl
@[simp] theorem tt5 : TT.get tt 5 = some i5 := rfl
@[simp] theorem tt9 : TT.get tt 9 = some i9 := rfl
@[simp] theorem qMH : TT.get tt 22 = some i22 := rfl
@[simp] theorem qML : TT.get tt 25 = some i25 := rfl
@[simp] theorem qMc : TT.get tt 29 = some i29 := rfl
@[simp] theorem qLK : TT.get tt 31 = some i31 := rfl
@[simp] theorem qK6 : TT.get tt 32 = some i32 := rfl
@[simp] theorem qL6 : TT.get tt 34 = some i34 := rfl
@[simp] theorem qLG : TT.get tt 36 = some i36 := rfl
@[simp] theorem qMK : TT.get tt 46 = some i46 := rfl
@[simp] theorem qMC : TT.get tt 48 = some i48 := rfl
@[simp] theorem qMg : TT.get tt 51 = some i51 := rfl
@[simp] theorem qMF : TT.get tt 53 = some i53 := rfl
@[simp] theorem qMp : TT.get tt 59 = some i59 := rfl
@[simp] theorem qKS : TT.get tt 63 = some i63 := rfl
@[simp] theorem qMt : TT.get tt 66 = some i66 := rfl
@[simp] theorem qL1 : TT.get tt 69 = some i69 := rfl
@[simp] theorem qLE : TT.get tt 71 = some i71 := rfl
@[simp] theorem qMN : TT.get tt 78 = some i78 := rfl
@[simp] theorem qLO : TT.get tt 81 = some i81 := rfl
@[simp] theorem qKy : TT.get tt 85 = some i85 := rfl
@[simp] theorem qLj : TT.get tt 86 = some i86 := rfl
@[simp] theorem qMx : TT.get tt 88 = some i88 := rfl
@[simp] theorem qMd : TT.get tt 92 = some i92 := rfl
@[simp] theorem qMa : TT.get tt 106 = some qar := rfl
@[simp] theorem qLr : TT.get tt 116 = some qcf := rfl
@[simp] theorem qK9 : TT.get tt 134 = some qc1 := rfl
@[simp] theorem qMG : TT.get tt 136 = some qdg := rfl
@[simp] theorem qKs : TT.get tt 139 = some qaJ := rfl
@[simp] theorem qL9 : TT.get tt 157 = some qmc := rfl
@[simp] theorem qLp : TT.get tt 158 = some qmb := rfl
@[simp] theorem qMr : TT.get tt 172 = some qdu := rfl
@[simp] theorem qL5 : TT.get tt 176 = some qmi := rfl
theorem hT:qK Try.prog tt:=qyS (by kernel_rfl)
theorem hm:Try.prog.follows .mixedOrders=true:=by kernel_rfl
abbrev qzN:TI:=⟨hd qf,true,[(0,1),(1,1),(2,1)],false⟩
abbrev qzY:TI:=⟨.slice 106 (hd qf),false,[],false⟩
def ttH:TT:=[(3,i3),(4,i4),(5,i5),(9,i9),(22,i22),(25,i25),(29,i29),(31,i31),(32,i32),(34,qzY),(36,i36),(46,i46),(48,i48),(51,i51),(53,i53),(59,i59),(63,i63),(66,i66),(69,i69),(71,i71),(78,i78),(81,i81),(85,i85),(86,i86),(88,i88),(92,i92),(106,qzN),(116,qcf),(134,qc1),(136,qdg),(139,qaJ),(157,qmc),(158,qmb),(172,qdu),(176,qmi)]
@[simp] theorem qLL : TT.get ttH 3 = some i3 := rfl
@[simp] theorem qKt : TT.get ttH 4 = some i4 := rfl
@[simp] theorem qLM : TT.get ttH 5 = some i5 := rfl
@[simp] theorem qLV : TT.get ttH 9 = some i9 := rfl
@[simp] theorem qMe : TT.get ttH 22 = some i22 := rfl
@[simp] theorem qLP : TT.get ttH 25 = some i25 := rfl
@[simp] theorem qKf : TT.get ttH 29 = some i29 := rfl
@[simp] theorem qLh : TT.get ttH 31 = some i31 := rfl
@[simp] theorem qMh : TT.get ttH 32 = some i32 := rfl
@[simp] theorem qKZ : TT.get ttH 34 = some qzY := rfl
@[simp] theorem qKu : TT.get ttH 36 = some i36 := rfl
@[simp] theorem qMn : TT.get ttH 46 = some i46 := rfl
@[simp] theorem qMs : TT.get ttH 48 = some i48 := rfl
@[simp] theorem qLW : TT.get ttH 51 = some i51 := rfl
@[simp] theorem qME : TT.get ttH 53 = some i53 := rfl
@[simp] theorem qKY : TT.get ttH 59 = some i59 := rfl
@[simp] theorem qKC : TT.get ttH 63 = some i63 := rfl
@[simp] theorem qLR : TT.get ttH 66 = some i66 := rfl
@[simp] theorem qMf : TT.get ttH 69 = some i69 := rfl
@[simp] theorem qMj : TT.get ttH 71 = some i71 := rfl
@[simp] theorem qLn : TT.get ttH 78 = some i78 := rfl
@[simp] theorem qKA : TT.get ttH 81 = some i81 := rfl
@[simp] theorem qKb : TT.get ttH 85 = some i85 := rfl
@[simp] theorem qKK : TT.get ttH 86 = some i86 := rfl
@[simp] theorem qLz : TT.get ttH 88 = some i88 := rfl
@[simp] theorem qLN : TT.get ttH 92 = some i92 := rfl
@[simp] theorem qLZ : TT.get ttH 106 = some qzN := rfl
@[simp] theorem qKr : TT.get ttH 116 = some qcf := rfl
@[simp] theorem qMA : TT.get ttH 134 = some qc1 := rfl
@[simp] theorem qMq : TT.get ttH 136 = some qdg := rfl
@[simp] theorem qKX : TT.get ttH 139 = some qaJ := rfl
@[simp] theorem qLf : TT.get ttH 157 = some qmc := rfl
@[simp] theorem qLb : TT.get ttH 158 = some qmb := rfl
@[simp] theorem qLQ : TT.get ttH 172 = some qdu := rfl
@[simp] theorem qKP : TT.get ttH 176 = some qmi := rfl
theorem hTH:qK Try.prog ttH:=qyS (by kernel_rfl)
theorem qt {P:Program}: ∀f g,Gam.get [] f=some g→Sound P f g:=fun _ _ h=>by simp [Gam.get]at h
theorem qk {P:Program} {f0:Nat} {g0:G} {Γ:Gam} (h0:Sound P f0 g0) (h: ∀f g,Gam.get Γ f=some g→Sound P f g): ∀f g,Gam.get ((f0,g0)::Γ) f=some g→Sound P f g:=fun f g hg=>by
 simp only [Gam.get]at hg
 split at hg
 ·rename_i e;cases hg;subst e;exact h0
 ·exact h f g hg
@[simp] theorem qLi : qj [] = [] := rfl
@[simp] theorem qKo (c : LC) (r : List LC) : qj (c :: r) = match c.movedId with
   | some i=>i::qj r
   | none=>qj r:=by simp [qj,List.filterMap_cons];split<;>simp_all
end Go.T
