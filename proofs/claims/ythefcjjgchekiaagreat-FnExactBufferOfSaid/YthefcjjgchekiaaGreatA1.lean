/- The seat's types. -/
import Derived.Test.YthefcjjgchekiaaGreatT11
import Derived.KernelRfl
import Derived.Test.YthefcjjgchekiaaGreatProg
set_option linter.unusedSimpArgs false
set_option linter.unusedVariables false
namespace Go.T
open Go Go.Proofs
abbrev qN:Ty:= .pair (.slice 3 (.int .i64)) (.pair (.int .i64) .bool)
abbrev Y24:Ty:= .pair (.int .i64) (.slice 101 qN)
abbrev Y28:Ty:= .pair (.int .i64) (.int .i64)
abbrev qa:Ty:= .pair (.slice 3 (.int .i64)) (.pair (.int .i64) .bool)
abbrev Y33:Ty:= .pair (.int .i64) (.slice 108 qa)
abbrev Y42:Ty:= .pair (.int .i64) (.slice 24 Y24)
abbrev Y68:Ty:= .pair (.int .i64) (.int .i64)
abbrev Y50:Ty:= .pair (.int .i64) (.slice 33 Y33)
abbrev qNg:Ty:= .pair .str Y24
abbrev qSw:Ty:= .pair .str (.pair (.int .i64) (.slice 255 qNg))
abbrev qQM:Ty:= .pair (.int .i64) (.pair qN (.pair .str (.pair .str (.pair (.slice 3 (.int .i64)) (.pair (.int .i64) (.pair (.int .i64) (.int .i64)))))))
abbrev qDB:Ty:= .pair .str Y33
abbrev qUP:Ty:= .pair .str (.pair (.int .i64) (.slice 184 qDB))
abbrev qLO:Ty:= .pair (.int .i64) (.pair qa (.pair .str (.pair .str (.pair (.slice 3 (.int .i64)) (.pair (.int .i64) (.pair (.int .i64) (.int .i64)))))))
abbrev q7T:Ty:= .pair (.int .i64) (.pair Y28 (.pair .bool (.pair (.slice 28 Y28) (.pair (.slice 28 Y28) (.slice 3 (.int .i64))))))
abbrev q1i:Ty:= .pair .bool (.pair Y28 (.pair .bool (.pair .bool (.pair Y28 (.pair .bool .bool)))))
abbrev qXK:Ty:= .pair (.slice 110 qLO) (.pair (.slice 50 Y50) (.slice 28 Y28))
abbrev qTy:Ty:= .pair (.slice 3 (.int .i64)) (.pair (.int .i64) (.pair .bool (.slice 3 (.int .i64))))
abbrev i3:TI:=⟨.int .i64,false,[],false⟩
abbrev i4:TI:=⟨.bool,false,[],false⟩
abbrev i5:TI:=⟨.int .u8,false,[],false⟩
abbrev i9:TI:=⟨.str,false,[],false⟩
abbrev i22:TI:=⟨.slice 101 qN,false,[],false⟩
abbrev i24:TI:=⟨Y24,true,[(0,1),(1,1)],false⟩
abbrev i25:TI:=⟨.slice 3 (.int .i64),false,[],false⟩
abbrev i28:TI:=⟨Y28,true,[(0,1),(1,1)],true⟩
abbrev i31:TI:=⟨.slice 108 qa,false,[],false⟩
abbrev i33:TI:=⟨Y33,true,[(0,1),(1,1)],false⟩
abbrev i40:TI:=⟨.slice 24 Y24,false,[],false⟩
abbrev i42:TI:=⟨Y42,true,[(0,1),(1,1)],false⟩
abbrev i43:TI:=⟨.slice 68 Y68,false,[],false⟩
abbrev i48:TI:=⟨.slice 33 Y33,false,[],false⟩
abbrev i50:TI:=⟨Y50,true,[(0,1),(1,1)],false⟩
abbrev i52:TI:=⟨.slice 28 Y28,false,[],false⟩
abbrev i68:TI:=⟨Y68,true,[(0,1),(1,1)],true⟩
abbrev i74:TI:=⟨.slice 50 Y50,false,[],false⟩
abbrev i80:TI:=⟨.slice 171 qSw,false,[],false⟩
abbrev i81:TI:=⟨.slice 103 qQM,false,[],false⟩
abbrev i85:TI:=⟨.slice 176 qUP,false,[],false⟩
abbrev i87:TI:=⟨.slice 110 qLO,false,[],false⟩
abbrev i94:TI:=⟨.slice 9 .str,false,[],false⟩
abbrev qhY:TI:=⟨qN,true,[(0,1),(1,1),(2,1)],false⟩
abbrev qzC:TI:=⟨qQM,true,[(0,1),(1,3),(4,1),(5,1),(6,1),(7,1),(8,1),(9,1)],false⟩
abbrev qv6:TI:=⟨.slice 94 (.slice 9 .str),false,[],false⟩
abbrev qg:TI:=⟨qa,true,[(0,1),(1,1),(2,1)],false⟩
abbrev qye:TI:=⟨qLO,true,[(0,1),(1,3),(4,1),(5,1),(6,1),(7,1),(8,1),(9,1)],false⟩
abbrev qAH:TI:=⟨q7T,true,[(0,1),(1,2),(3,1),(4,1),(5,1),(6,1)],false⟩
abbrev qxc:TI:=⟨q1i,true,[(0,1),(1,2),(3,1),(4,1),(5,2),(7,1),(8,1)],false⟩
abbrev qxD:TI:=⟨.slice 255 qNg,false,[],false⟩
abbrev qvU:TI:=⟨qSw,true,[(0,1),(1,1),(2,1)],false⟩
abbrev qyV:TI:=⟨.slice 184 qDB,false,[],false⟩
abbrev qvu:TI:=⟨qUP,true,[(0,1),(1,1),(2,1)],false⟩
abbrev qz1:TI:=⟨qDB,true,[(0,1),(1,2)],false⟩
abbrev qvs:TI:=⟨qXK,true,[(0,1),(1,1),(2,1)],false⟩
abbrev qBi:TI:=⟨.slice 5 (.int .u8),false,[],false⟩
abbrev qwe:TI:=⟨.slice 31 (.slice 108 qa),false,[],false⟩
abbrev qxG:TI:=⟨qNg,true,[(0,1),(1,2)],false⟩
abbrev qAT:TI:=⟨.slice 265 qTy,false,[],false⟩
abbrev qAG:TI:=⟨qTy,true,[(0,1),(1,1),(2,1),(3,1)],false⟩
abbrev qw9:TI:=⟨.slice 269 (.slice 3 (.int .i64)),false,[],false⟩
abbrev qyP:TI:=⟨.slice 3 (.int .i64),false,[],false⟩
abbrev qBa:TI:=⟨.int .u64,false,[],false⟩
abbrev qvH:TI:=⟨.int .i64,false,[],false⟩
abbrev qvO:TI:=⟨.int .u64,false,[],false⟩
abbrev qAI:TI:=⟨.int .u64,false,[],false⟩
def tt:TT:=[(3,i3),(4,i4),(5,i5),(9,i9),(22,i22),(24,i24),(25,i25),(28,i28),(31,i31),(33,i33),(40,i40),(42,i42),(43,i43),(48,i48),(50,i50),(52,i52),(68,i68),(74,i74),(80,i80),(81,i81),(85,i85),(87,i87),(94,i94),(101,qhY),(103,qzC),(105,qv6),(108,qg),(110,qye),(120,qAH),(130,qxc),(169,qxD),(171,qvU),(174,qyV),(176,qvu),(184,qz1),(196,qvs),(227,qBi),(249,qwe),(255,qxG),(263,qAT),(265,qAG),(268,qw9),(269,qyP),(274,qBa),(280,qvH),(290,qvO),(291,qAI)]
@[simp] theorem tt3 : TT.get tt 3 = some i3 := rfl
@[simp] theorem tt4 : TT.get tt 4 = some i4 := rfl
@[simp] theorem tt5 : TT.get tt 5 = some i5 := rfl
@[simp] theorem tt9 : TT.get tt 9 = some i9 := rfl
@[simp] theorem zel : TT.get tt 22 = some i22 := rfl
@[simp] theorem zeK : TT.get tt 24 = some i24 := rfl
@[simp] theorem zeL : TT.get tt 25 = some i25 := rfl
@[simp] theorem zeM : TT.get tt 28 = some i28 := rfl
@[simp] theorem zgR : TT.get tt 31 = some i31 := rfl
@[simp] theorem zdZ : TT.get tt 33 = some i33 := rfl
@[simp] theorem zgr : TT.get tt 40 = some i40 := rfl
@[simp] theorem zfY : TT.get tt 42 = some i42 := rfl
@[simp] theorem ze4 : TT.get tt 43 = some i43 := rfl
@[simp] theorem zeY : TT.get tt 48 = some i48 := rfl
@[simp] theorem zeC : TT.get tt 50 = some i50 := rfl
@[simp] theorem zfT : TT.get tt 52 = some i52 := rfl
@[simp] theorem zd4 : TT.get tt 68 = some i68 := rfl
@[simp] theorem zer : TT.get tt 74 = some i74 := rfl
@[simp] theorem zgz : TT.get tt 80 = some i80 := rfl
@[simp] theorem zeg : TT.get tt 81 = some i81 := rfl
@[simp] theorem zfK : TT.get tt 85 = some i85 := rfl
@[simp] theorem zf1 : TT.get tt 87 = some i87 := rfl
@[simp] theorem zd1 : TT.get tt 94 = some i94 := rfl
@[simp] theorem ze7 : TT.get tt 101 = some qhY := rfl
@[simp] theorem zes : TT.get tt 103 = some qzC := rfl
@[simp] theorem zfk : TT.get tt 105 = some qv6 := rfl
@[simp] theorem zfO : TT.get tt 108 = some qg := rfl
@[simp] theorem zgh : TT.get tt 110 = some qye := rfl
@[simp] theorem zee : TT.get tt 120 = some qAH := rfl
@[simp] theorem zfV : TT.get tt 130 = some qxc := rfl
@[simp] theorem zei : TT.get tt 169 = some qxD := rfl
@[simp] theorem zfa : TT.get tt 171 = some qvU := rfl
@[simp] theorem zeN : TT.get tt 174 = some qyV := rfl
@[simp] theorem zez : TT.get tt 176 = some qvu := rfl
@[simp] theorem zgS : TT.get tt 184 = some qz1 := rfl
@[simp] theorem zeP : TT.get tt 196 = some qvs := rfl
@[simp] theorem zex : TT.get tt 227 = some qBi := rfl
@[simp] theorem zd8 : TT.get tt 249 = some qwe := rfl
@[simp] theorem zfZ : TT.get tt 255 = some qxG := rfl
@[simp] theorem zfg : TT.get tt 263 = some qAT := rfl
@[simp] theorem zfU : TT.get tt 265 = some qAG := rfl
@[simp] theorem zd5 : TT.get tt 268 = some qw9 := rfl
@[simp] theorem zgT : TT.get tt 269 = some qyP := rfl
@[simp] theorem zgq : TT.get tt 274 = some qBa := rfl
@[simp] theorem zgf : TT.get tt 280 = some qvH := rfl
@[simp] theorem zem : TT.get tt 290 = some qvO := rfl
@[simp] theorem zdY : TT.get tt 291 = some qAI := rfl
theorem hT:qQ Tryz.prog tt:=qRF (by kernel_rfl)
theorem hm:Tryz.prog.follows .mixedOrders=true:=by kernel_rfl
abbrev H33:Ty:=(.pair (.int .i64) .hdr)
abbrev qah:Ty:=(.pair .hdr (.pair (.int .i64) .bool))
abbrev qLz:TI:=⟨hd qa,true,[(0,1),(1,1),(2,1)],false⟩
abbrev qbj:TI:=⟨.slice 108 (hd qa),false,[],false⟩
abbrev qxy:TI:=⟨.slice 31 (.slice 108 (hd qa)),false,[],false⟩
def ttH:TT:=[(3,i3),(4,i4),(5,i5),(9,i9),(22,i22),(24,i24),(25,i25),(28,i28),(31,qbj),(33,i33),(40,i40),(42,i42),(43,i43),(48,i48),(50,i50),(52,i52),(68,i68),(74,i74),(80,i80),(81,i81),(85,i85),(87,i87),(94,i94),(101,qhY),(103,qzC),(105,qv6),(108,qLz),(110,qye),(120,qAH),(130,qxc),(169,qxD),(171,qvU),(174,qyV),(176,qvu),(184,qz1),(196,qvs),(227,qBi),(255,qxG),(263,qAT),(265,qAG),(268,qw9),(269,qyP),(274,qBa),(280,qvH),(290,qvO),(291,qAI),(249,qxy)]
@[simp] theorem zeH : TT.get ttH 3 = some i3 := rfl
@[simp] theorem zfD : TT.get ttH 4 = some i4 := rfl
@[simp] theorem zfN : TT.get ttH 5 = some i5 := rfl
@[simp] theorem zft : TT.get ttH 9 = some i9 := rfl
@[simp] theorem zfz : TT.get ttH 22 = some i22 := rfl
@[simp] theorem zgB : TT.get ttH 24 = some i24 := rfl
@[simp] theorem zf4 : TT.get ttH 25 = some i25 := rfl
@[simp] theorem zgn : TT.get ttH 28 = some i28 := rfl
@[simp] theorem zdW : TT.get ttH 31 = some qbj := rfl
@[simp] theorem zfE : TT.get ttH 33 = some i33 := rfl
@[simp] theorem zdS : TT.get ttH 40 = some i40 := rfl
@[simp] theorem zfv : TT.get ttH 42 = some i42 := rfl
@[simp] theorem zd2 : TT.get ttH 43 = some i43 := rfl
@[simp] theorem zgK : TT.get ttH 48 = some i48 := rfl
@[simp] theorem zfR : TT.get ttH 50 = some i50 := rfl
@[simp] theorem zfX : TT.get ttH 52 = some i52 := rfl
@[simp] theorem zfo : TT.get ttH 68 = some i68 := rfl
@[simp] theorem zgm : TT.get ttH 74 = some i74 := rfl
@[simp] theorem zgI : TT.get ttH 80 = some i80 := rfl
@[simp] theorem zfC : TT.get ttH 81 = some i81 := rfl
@[simp] theorem zf8 : TT.get ttH 85 = some i85 := rfl
@[simp] theorem zen : TT.get ttH 87 = some i87 := rfl
@[simp] theorem zfr : TT.get ttH 94 = some i94 := rfl
@[simp] theorem zeS : TT.get ttH 101 = some qhY := rfl
@[simp] theorem zeW : TT.get ttH 103 = some qzC := rfl
@[simp] theorem zgl : TT.get ttH 105 = some qv6 := rfl
@[simp] theorem zed : TT.get ttH 108 = some qLz := rfl
@[simp] theorem zfu : TT.get ttH 110 = some qye := rfl
@[simp] theorem zeI : TT.get ttH 120 = some qAH := rfl
@[simp] theorem ze0 : TT.get ttH 130 = some qxc := rfl
@[simp] theorem zgJ : TT.get ttH 169 = some qxD := rfl
@[simp] theorem ze3 : TT.get ttH 171 = some qvU := rfl
@[simp] theorem zgF : TT.get ttH 174 = some qyV := rfl
@[simp] theorem zeE : TT.get ttH 176 = some qvu := rfl
@[simp] theorem zf5 : TT.get ttH 184 = some qz1 := rfl
@[simp] theorem zfj : TT.get ttH 196 = some qvs := rfl
@[simp] theorem zeO : TT.get ttH 227 = some qBi := rfl
@[simp] theorem zep : TT.get ttH 255 = some qxG := rfl
@[simp] theorem zfW : TT.get ttH 263 = some qAT := rfl
@[simp] theorem zgb : TT.get ttH 265 = some qAG := rfl
@[simp] theorem zeu : TT.get ttH 268 = some qw9 := rfl
@[simp] theorem zd3 : TT.get ttH 269 = some qyP := rfl
@[simp] theorem zfy : TT.get ttH 274 = some qBa := rfl
@[simp] theorem zfF : TT.get ttH 280 = some qvH := rfl
@[simp] theorem zeq : TT.get ttH 290 = some qvO := rfl
@[simp] theorem zev : TT.get ttH 291 = some qAI := rfl
@[simp] theorem ze2 : TT.get ttH 249 = some qxy := rfl
theorem hTH:qQ Tryz.prog ttH:=qRF (by kernel_rfl)
theorem qq {P:Program}: ∀f g,Gam.get [] f=some g→Sound P f g:=fun _ _ h=>by simp [Gam.get]at h
theorem qf {P:Program} {f0:Nat} {g0:G} {Γ:Gam} (h0:Sound P f0 g0) (h: ∀f g,Gam.get Γ f=some g→Sound P f g): ∀f g,Gam.get ((f0,g0)::Γ) f=some g→Sound P f g:=fun f g hg=>by
 simp only [Gam.get]at hg
 split at hg
 ·rename_i e;cases hg;subst e;exact h0
 ·exact h f g hg
@[simp] theorem zeD : qk [] = [] := rfl
@[simp] theorem zeQ (c : LC) (r : List LC) : qk (c :: r) = match c.movedId with
   | some i=>i::qk r
   | none=>qk r:=by simp [qk,List.filterMap_cons];split<;>simp_all
end Go.T
