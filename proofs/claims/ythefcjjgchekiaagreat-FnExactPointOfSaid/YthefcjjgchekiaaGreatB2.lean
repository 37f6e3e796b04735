/- The library's sort and Grow at atoms. -/
import Derived.Test.YthefcjjgchekiaaGreatB1
import Derived.Test.YthefcjjgchekiaaGreatT13
set_option linter.unusedSimpArgs false
set_option linter.unusedVariables false
namespace Go.Proofs
open Go.Shelf
def Tryz.srtL_ren:Go.Shelf.Ren:=⟨fun | 6=>288 | 15=>316 | 14=>315 | 28=>335 | 29=>336 | 20=>327 | 21=>328 | 22=>329 | 23=>330 | 24=>331 | 25=>332 | 26=>333 | 27=>334 | 46=>337 | 47=>338 | 48=>339 | 49=>340 | 50=>341 | 57=>342 | n=>n,fun | 22=>31 | 24=>108 | 25=>252 | 3=>3 | 39=>274 | 0=>0 | 53=>288 | 55=>290 | 4=>4 | 46=>281 | 45=>280 | 50=>285 | 5=>5 | 9=>9 | 66=>291 | 70=>295 | 76=>297 | 77=>298 | n=>n,fun | n=>n⟩
theorem Tryz.srtL:Go.Proofs.SlLaysF0.n6 Tryz.prog Tryz.srtL_ren:={
 mixed:=by kernel_rfl,
 f6:=⟨Tryz.f288.name,by decide,Tryz.func288.trans (congrArg some (by kernel_rfl))⟩,
 f14:=⟨Tryz.f315.name,by decide,Tryz.func315.trans (congrArg some (by kernel_rfl))⟩,
 f15:=Tryz.func316.trans (congrArg some (by kernel_rfl)),
 f20:=⟨Tryz.f327.name,by decide,Tryz.func327.trans (congrArg some (by kernel_rfl))⟩,
 f21:=⟨Tryz.f328.name,by decide,Tryz.func328.trans (congrArg some (by kernel_rfl))⟩,
 f22:=⟨Tryz.f329.name,by decide,Tryz.func329.trans (congrArg some (by kernel_rfl))⟩,
 f23:=⟨Tryz.f330.name,by decide,Tryz.func330.trans (congrArg some (by kernel_rfl))⟩,
 f24:=⟨Tryz.f331.name,by decide,Tryz.func331.trans (congrArg some (by kernel_rfl))⟩,
 f25:=⟨Tryz.f332.name,by decide,Tryz.func332.trans (congrArg some (by kernel_rfl))⟩,
 f26:=⟨Tryz.f333.name,by decide,Tryz.func333.trans (congrArg some (by kernel_rfl))⟩,
 f27:=⟨Tryz.f334.name,by decide,Tryz.func334.trans (congrArg some (by kernel_rfl))⟩,
 f28:=Tryz.func335.trans (congrArg some (by kernel_rfl)),
 f29:=Tryz.func336.trans (congrArg some (by kernel_rfl)),
 f46:=⟨Tryz.f337.name,by decide,Tryz.func337.trans (congrArg some (by kernel_rfl))⟩,
 f47:=Tryz.func338.trans (congrArg some (by kernel_rfl)),
 f48:=Tryz.func339.trans (congrArg some (by kernel_rfl)),
 f49:=⟨Tryz.f340.name,by decide,Tryz.func340.trans (congrArg some (by kernel_rfl))⟩,
 f50:=⟨Tryz.f341.name,by decide,Tryz.func341.trans (congrArg some (by kernel_rfl))⟩,
 f57:=⟨Tryz.f342.name,by decide,Tryz.func342.trans (congrArg some (by kernel_rfl))⟩,
 t0:=Tryz.underlying0,
 a0:=Tryz.isAgg0,
 z0:=Tryz.sizeOf0,
 v0:=Tryz.zeroValue0,
 t3:=Tryz.underlying3,
 a3:=Tryz.isAgg3,
 z3:=Tryz.sizeOf3,
 v3:=Tryz.zeroValue3,
 t4:=Tryz.underlying4,
 a4:=Tryz.isAgg4,
 z4:=Tryz.sizeOf4,
 v4:=Tryz.zeroValue4,
 t5:=Tryz.underlying5,
 a5:=Tryz.isAgg5,
 z5:=Tryz.sizeOf5,
 v5:=Tryz.zeroValue5,
 t9:=Tryz.underlying9,
 a9:=Tryz.isAgg9,
 z9:=Tryz.sizeOf9,
 v9:=Tryz.zeroValue9,
 t22:=Tryz.underlying31,
 a22:=Tryz.isAgg31,
 z22:=Tryz.sizeOf31,
 v22:=Tryz.zeroValue31,
 t25:=Tryz.underlying252,
 a25:=Tryz.isAgg252,
 z25:=Tryz.sizeOf252,
 v25:=Tryz.zeroValue252,
 t39:=Tryz.underlying274,
 a39:=Tryz.isAgg274,
 z39:=Tryz.sizeOf274,
 v39:=Tryz.zeroValue274,
 t45:=Tryz.underlying280,
 a45:=Tryz.isAgg280,
 z45:=Tryz.sizeOf280,
 v45:=Tryz.zeroValue280,
 t46:=Tryz.underlying281,
 a46:=Tryz.isAgg281,
 z46:=Tryz.sizeOf281,
 v46:=Tryz.zeroValue281,
 t50:=Tryz.underlying285,
 a50:=Tryz.isAgg285,
 z50:=Tryz.sizeOf285,
 v50:=Tryz.zeroValue285,
 t53:=Tryz.underlying288,
 a53:=Tryz.isAgg288,
 z53:=Tryz.sizeOf288,
 v53:=Tryz.zeroValue288,
 t55:=Tryz.underlying290,
 a55:=Tryz.isAgg290,
 z55:=Tryz.sizeOf290,
 v55:=Tryz.zeroValue290,
 t66:=Tryz.underlying291,
 a66:=Tryz.isAgg291,
 z66:=Tryz.sizeOf291,
 v66:=Tryz.zeroValue291,
 t70:=Tryz.underlying295,
 a70:=Tryz.isAgg295,
 z70:=Tryz.sizeOf295,
 v70:=Tryz.zeroValue295,
 t76:=Tryz.underlying297,
 a76:=Tryz.isAgg297,
 z76:=Tryz.sizeOf297,
 v76:=Tryz.zeroValue297,
 t77:=Tryz.underlying298,
 a77:=Tryz.isAgg298,
 z77:=Tryz.sizeOf298,
 v77:=Tryz.zeroValue298}
end Go.Proofs
namespace Go.T
open Go Go.Proofs
set_option maxHeartbeats 4000000
set_option maxRecDepth 100000
def qaC (xs:List (Val qa)):List (Val qa):=qkX xs
def qcv (xs:List (Val qa)):List Nat:=qi8 xs
def qfQ:Gsr:={e:=108,t:=qa,cmp:=289,pre:=qIV (fun _ _=>True) qmb qaC,fv:=qaC}
theorem q8g:(Own1.sr qfQ).Ok Tryz.prog 288:=
 znH Tryz.srtL rfl ⟨_,Tryz.func288,by kernel_rfl,by kernel_rfl⟩ (ti:=qr) rfl Tryz.isAgg108 Tryz.sizeOf108 zoK
end Go.T
