/- The seat's types. -/
import Derived.Test.YthefcjjgchekiaaGreatT13
import Derived.KernelRfl
import Derived.Test.YthefcjjgchekiaaGreatProg
set_option linter.unusedSimpArgs false
set_option linter.unusedVariables false
namespace Go.T
open Go Go.Proofs
abbrev q7:Ty:= .pair (.slice 3 (.int .i64)) (.pair (.int .i64) .bool)
abbrev Y24:Ty:= .pair (.int .i64) (.slice 101 q7)
abbrev Y28:Ty:= .pair (.int .i64) (.int .i64)
abbrev qa:Ty:= .pair (.slice 3 (.int .i64)) (.pair (.int .i64) .bool)
abbrev Y33:Ty:= .pair (.int .i64) (.slice 108 qa)
abbrev Y42:Ty:= .pair (.int .i64) (.slice 24 Y24)
abbrev Y68:Ty:= .pair (.int .i64) (.int .i64)
abbrev Y50:Ty:= .pair (.int .i64) (.slice 33 Y33)
abbrev qI1:Ty:= .pair .str Y24
abbrev qZv:Ty:= .pair .str (.pair (.int .i64) (.slice 255 qI1))
abbrev q3S:Ty:= .pair (.int .i64) (.pair q7 (.pair .str (.pair .str (.pair (.slice 3 (.int .i64)) (.pair (.int .i64) (.pair (.int .i64) (.int .i64)))))))
abbrev qTe:Ty:= .pair .str Y33
abbrev q3w:Ty:= .pair .str (.pair (.int .i64) (.slice 184 qTe))
abbrev qQA:Ty:= .pair (.int .i64) (.pair qa (.pair .str (.pair .str (.pair (.slice 3 (.int .i64)) (.pair (.int .i64) (.pair (.int .i64) (.int .i64)))))))
abbrev zhH:Ty:= .pair (.int .i64) (.pair Y28 (.pair .bool (.pair (.slice 28 Y28) (.pair (.slice 28 Y28) (.slice 3 (.int .i64))))))
abbrev qad:Ty:= .pair .bool (.pair Y28 (.pair .bool (.pair .bool (.pair Y28 (.pair .bool .bool)))))
abbrev zou:Ty:= .pair (.slice 110 qQA) (.pair (.slice 50 Y50) (.slice 28 Y28))
abbrev q4n:Ty:= .pair (.slice 3 (.int .i64)) (.pair (.int .i64) (.pair .bool (.slice 3 (.int .i64))))
abbrev i3:TI:=⟨.int .i64,false,[],false⟩
abbrev i4:TI:=⟨.bool,false,[],false⟩
abbrev i5:TI:=⟨.int .u8,false,[],false⟩
abbrev i9:TI:=⟨.str,false,[],false⟩
abbrev i22:TI:=⟨.slice 101 q7,false,[],false⟩
abbrev i24:TI:=⟨Y24,true,[(0,1),(1,1)],false⟩
abbrev i25:TI:=⟨.slice 3 (.int .i64),false,[],false⟩
abbrev i28:TI:=⟨Y28,true,[(0,1),(1,1)],true⟩
abbrev i31:TI:=⟨.slice 108 qa,false,[],false⟩
abbrev i33:TI:=⟨Y33,true,[(0,1),(1,1)],false⟩
abbrev i40:TI:=⟨.slice 24 Y24,false,[],false⟩
abbrev i42:TI:=⟨Y42,true,[(0,1),(1,1)],false⟩
abbrev i43:TI:=⟨.slice 68 Y68,false,[],false⟩
abbrev i48:TI:=⟨.slice 33 Y33,false,[],false⟩
abbrev i50:TI:=⟨Y50,true,[(0,1),(1,1)],false⟩
abbrev i52:TI:=⟨.slice 28 Y28,false,[],false⟩
abbrev i68:TI:=⟨Y68,true,[(0,1),(1,1)],true⟩
abbrev i74:TI:=⟨.slice 50 Y50,false,[],false⟩
abbrev i80:TI:=⟨.slice 171 qZv,false,[],false⟩
abbrev i81:TI:=⟨.slice 103 q3S,false,[],false⟩
abbrev i85:TI:=⟨.slice 176 q3w,false,[],false⟩
abbrev i87:TI:=⟨.slice 110 qQA,false,[],false⟩
abbrev i94:TI:=⟨.slice 9 .str,false,[],false⟩
abbrev qig:TI:=⟨q7,true,[(0,1),(1,1),(2,1)],false⟩
abbrev qEv:TI:=⟨q3S,true,[(0,1),(1,3),(4,1),(5,1),(6,1),(7,1),(8,1),(9,1)],false⟩
abbrev qAr:TI:=⟨.slice 94 (.slice 9 .str),false,[],false⟩
abbrev qr:TI:=⟨qa,true,[(0,1),(1,1),(2,1)],false⟩
abbrev qCn:TI:=⟨qQA,true,[(0,1),(1,3),(4,1),(5,1),(6,1),(7,1),(8,1),(9,1)],false⟩
abbrev qxs:TI:=⟨zhH,true,[(0,1),(1,2),(3,1),(4,1),(5,1),(6,1)],false⟩
abbrev qD:TI:=⟨qad,true,[(0,1),(1,2),(3,1),(4,1),(5,2),(7,1),(8,1)],false⟩
abbrev qzi:TI:=⟨.slice 255 qI1,false,[],false⟩
abbrev qBR:TI:=⟨qZv,true,[(0,1),(1,1),(2,1)],false⟩
abbrev qEz:TI:=⟨.slice 184 qTe,false,[],false⟩
abbrev qEO:TI:=⟨q3w,true,[(0,1),(1,1),(2,1)],false⟩
abbrev qCa:TI:=⟨qTe,true,[(0,1),(1,2)],false⟩
abbrev qA4:TI:=⟨zou,true,[(0,1),(1,1),(2,1)],false⟩
abbrev qzT:TI:=⟨.slice 5 (.int .u8),false,[],false⟩
abbrev q1Q:TI:=⟨.slice 31 (.slice 108 qa),false,[],false⟩
abbrev qCh:TI:=⟨qI1,true,[(0,1),(1,2)],false⟩
abbrev qyf:TI:=⟨.slice 265 q4n,false,[],false⟩
abbrev qEA:TI:=⟨q4n,true,[(0,1),(1,1),(2,1),(3,1)],false⟩
abbrev qCe:TI:=⟨.slice 269 (.slice 3 (.int .i64)),false,[],false⟩
abbrev qBW:TI:=⟨.slice 3 (.int .i64),false,[],false⟩
abbrev qDb:TI:=⟨.int .u64,false,[],false⟩
abbrev qAq:TI:=⟨.int .i64,false,[],false⟩
abbrev qDh:TI:=⟨.int .u64,false,[],false⟩
abbrev qxu:TI:=⟨.int .u64,false,[],false⟩
def tt:TT:=[(3,i3),(4,i4),(5,i5),(9,i9),(22,i22),(24,i24),(25,i25),(28,i28),(31,i31),(33,i33),(40,i40),(42,i42),(43,i43),(48,i48),(50,i50),(52,i52),(68,i68),(74,i74),(80,i80),(81,i81),(85,i85),(87,i87),(94,i94),(101,qig),(103,qEv),(105,qAr),(108,qr),(110,qCn),(120,qxs),(130,qD),(169,qzi),(171,qBR),(174,qEz),(176,qEO),(184,qCa),(196,qA4),(227,qzT),(249,q1Q),(255,qCh),(263,qyf),(265,qEA),(268,qCe),(269,qBW),(274,qDb),(280,qAq),(290,qDh),(291,qxu)]
@[simp] theorem tt3 : TT.get tt 3 = some i3 := rfl
@[simp] theorem tt4 : TT.get tt 4 = some i4 := rfl
@[simp] theorem tt5 : TT.get tt 5 = some i5 := rfl
@[simp] theorem tt9 : TT.get tt 9 = some i9 := rfl
@[simp] theorem zui : TT.get tt 22 = some i22 := rfl
@[simp] theorem zsC : TT.get tt 24 = some i24 := rfl
@[simp] theorem zsY : TT.get tt 25 = some i25 := rfl
@[simp] theorem zs1 : TT.get tt 28 = some i28 := rfl
@[simp] theorem ztV : TT.get tt 31 = some i31 := rfl
@[simp] theorem zuk : TT.get tt 33 = some i33 := rfl
@[simp] theorem ztW : TT.get tt 40 = some i40 := rfl
@[simp] theorem zsu : TT.get tt 42 = some i42 := rfl
@[simp] theorem ztd : TT.get tt 43 = some i43 := rfl
@[simp] theorem zuh : TT.get tt 48 = some i48 := rfl
@[simp] theorem zte : TT.get tt 50 = some i50 := rfl
@[simp] theorem zrW : TT.get tt 52 = some i52 := rfl
@[simp] theorem zsI : TT.get tt 68 = some i68 := rfl
@[simp] theorem zsx : TT.get tt 74 = some i74 := rfl
@[simp] theorem zrN : TT.get tt 80 = some i80 := rfl
@[simp] theorem zst : TT.get tt 81 = some i81 := rfl
@[simp] theorem zrE : TT.get tt 85 = some i85 := rfl
@[simp] theorem zrR : TT.get tt 87 = some i87 := rfl
@[simp] theorem zrv : TT.get tt 94 = some i94 := rfl
@[simp] theorem ztI : TT.get tt 101 = some qig := rfl
@[simp] theorem zs6 : TT.get tt 103 = some qEv := rfl
@[simp] theorem zsi : TT.get tt 105 = some qAr := rfl
@[simp] theorem zsS : TT.get tt 108 = some qr := rfl
@[simp] theorem ztN : TT.get tt 110 = some qCn := rfl
@[simp] theorem zsV : TT.get tt 120 = some qxs := rfl
@[simp] theorem ztk : TT.get tt 130 = some qD := rfl
@[simp] theorem zr8 : TT.get tt 169 = some qzi := rfl
@[simp] theorem zsl : TT.get tt 171 = some qBR := rfl
@[simp] theorem ztu : TT.get tt 174 = some qEz := rfl
@[simp] theorem zsB : TT.get tt 176 = some qEO := rfl
@[simp] theorem zss : TT.get tt 184 = some qCa := rfl
@[simp] theorem zta : TT.get tt 196 = some qA4 := rfl
@[simp] theorem ztw : TT.get tt 227 = some qzT := rfl
@[simp] theorem zrA : TT.get tt 249 = some q1Q := rfl
@[simp] theorem zrs : TT.get tt 255 = some qCh := rfl
@[simp] theorem ztA : TT.get tt 263 = some qyf := rfl
@[simp] theorem ztb : TT.get tt 265 = some qEA := rfl
@[simp] theorem zsd : TT.get tt 268 = some qCe := rfl
@[simp] theorem ztG : TT.get tt 269 = some qBW := rfl
@[simp] theorem zrB : TT.get tt 274 = some qDb := rfl
@[simp] theorem zr1 : TT.get tt 280 = some qAq := rfl
@[simp] theorem zum : TT.get tt 290 = some qDh := rfl
@[simp] theorem zsc : TT.get tt 291 = some qxu := rfl
theorem hT:qai Tryz.prog tt:=q3i (by kernel_rfl)
theorem hm:Tryz.prog.follows .mixedOrders=true:=by kernel_rfl
abbrev H33:Ty:=(.pair (.int .i64) .hdr)
abbrev qaF:Ty:=(.pair .hdr (.pair (.int .i64) .bool))
abbrev q1b:TI:=⟨hd qa,true,[(0,1),(1,1),(2,1)],false⟩
abbrev q13:TI:=⟨.slice 108 (hd qa),false,[],false⟩
abbrev q1m:TI:=⟨.slice 31 (.slice 108 (hd qa)),false,[],false⟩
def ttH:TT:=[(3,i3),(4,i4),(5,i5),(9,i9),(22,i22),(24,i24),(25,i25),(28,i28),(31,q13),(33,i33),(40,i40),(42,i42),(43,i43),(48,i48),(50,i50),(52,i52),(68,i68),(74,i74),(80,i80),(81,i81),(85,i85),(87,i87),(94,i94),(101,qig),(103,qEv),(105,qAr),(108,q1b),(110,qCn),(120,qxs),(130,qD),(169,qzi),(171,qBR),(174,qEz),(176,qEO),(184,qCa),(196,qA4),(227,qzT),(255,qCh),(263,qyf),(265,qEA),(268,qCe),(269,qBW),(274,qDb),(280,qAq),(290,qDh),(291,qxu),(249,q1m)]
@[simp] theorem zsp : TT.get ttH 3 = some i3 := rfl
@[simp] theorem ztc : TT.get ttH 4 = some i4 := rfl
@[simp] theorem zsq : TT.get ttH 5 = some i5 := rfl
@[simp] theorem zt0 : TT.get ttH 9 = some i9 := rfl
@[simp] theorem zt7 : TT.get ttH 22 = some i22 := rfl
@[simp] theorem zsH : TT.get ttH 24 = some i24 := rfl
@[simp] theorem ztX : TT.get ttH 25 = some i25 := rfl
@[simp] theorem ztL : TT.get ttH 28 = some i28 := rfl
@[simp] theorem zr6 : TT.get ttH 31 = some q13 := rfl
@[simp] theorem zsb : TT.get ttH 33 = some i33 := rfl
@[simp] theorem zti : TT.get ttH 40 = some i40 := rfl
@[simp] theorem zsM : TT.get ttH 42 = some i42 := rfl
@[simp] theorem zsr : TT.get ttH 43 = some i43 := rfl
@[simp] theorem zud : TT.get ttH 48 = some i48 := rfl
@[simp] theorem zrO : TT.get ttH 50 = some i50 := rfl
@[simp] theorem zse : TT.get ttH 52 = some i52 := rfl
@[simp] theorem zrP : TT.get ttH 68 = some i68 := rfl
@[simp] theorem zt8 : TT.get ttH 74 = some i74 := rfl
@[simp] theorem zsX : TT.get ttH 80 = some i80 := rfl
@[simp] theorem zrG : TT.get ttH 81 = some i81 := rfl
@[simp] theorem zs2 : TT.get ttH 85 = some i85 := rfl
@[simp] theorem zsW : TT.get ttH 87 = some i87 := rfl
@[simp] theorem zt6 : TT.get ttH 94 = some i94 := rfl
@[simp] theorem zt1 : TT.get ttH 101 = some qig := rfl
@[simp] theorem zrt : TT.get ttH 103 = some qEv := rfl
@[simp] theorem ztv : TT.get ttH 105 = some qAr := rfl
@[simp] theorem zsU : TT.get ttH 108 = some q1b := rfl
@[simp] theorem zs0 : TT.get ttH 110 = some qCn := rfl
@[simp] theorem zrw : TT.get ttH 120 = some qxs := rfl
@[simp] theorem zsm : TT.get ttH 130 = some qD := rfl
@[simp] theorem zuf : TT.get ttH 169 = some qzi := rfl
@[simp] theorem zrZ : TT.get ttH 171 = some qBR := rfl
@[simp] theorem zt9 : TT.get ttH 174 = some qEz := rfl
@[simp] theorem ztr : TT.get ttH 176 = some qEO := rfl
@[simp] theorem zs5 : TT.get ttH 184 = some qCa := rfl
@[simp] theorem ztq : TT.get ttH 196 = some qA4 := rfl
@[simp] theorem zsG : TT.get ttH 227 = some qzT := rfl
@[simp] theorem zr3 : TT.get ttH 255 = some qCh := rfl
@[simp] theorem zsQ : TT.get ttH 263 = some qyf := rfl
@[simp] theorem ztC : TT.get ttH 265 = some qEA := rfl
@[simp] theorem zsJ : TT.get ttH 268 = some qCe := rfl
@[simp] theorem zuc : TT.get ttH 269 = some qBW := rfl
@[simp] theorem zsT : TT.get ttH 274 = some qDb := rfl
@[simp] theorem zrJ : TT.get ttH 280 = some qAq := rfl
@[simp] theorem zro : TT.get ttH 290 = some qDh := rfl
@[simp] theorem zrQ : TT.get ttH 291 = some qxu := rfl
@[simp] theorem ztg : TT.get ttH 249 = some q1m := rfl
theorem hTH:qai Tryz.prog ttH:=q3i (by kernel_rfl)
theorem qu {P:Program}: ∀f g,Gam.get [] f=some g→Sound P f g:=fun _ _ h=>by simp [Gam.get]at h
theorem qg {P:Program} {f0:Nat} {g0:G} {Γ:Gam} (h0:Sound P f0 g0) (h: ∀f g,Gam.get Γ f=some g→Sound P f g): ∀f g,Gam.get ((f0,g0)::Γ) f=some g→Sound P f g:=fun f g hg=>by
 simp only [Gam.get]at hg
 split at hg
 ·rename_i e;cases hg;subst e;exact h0
 ·exact h f g hg
@[simp] theorem ztH : qz [] = [] := rfl
@[simp] theorem zry (c : LC) (r : List LC) : qz (c :: r) = match c.movedId with
   | some i=>i::qz r
   | none=>qz r:=by simp [qz,List.filterMap_cons];split<;>simp_all
end Go.T
