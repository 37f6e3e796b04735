/- The library's sort and Grow at atoms. -/
import Derived.Test.YthefcjjgchekiaaB1
import Derived.Test.YthefcjjgchekiaaT13
import Derived.Test.YthefcjjgchekiaaT13
set_option linter.unusedSimpArgs false
set_option linter.unusedVariables false
namespace Go.Proofs
open Go.Shelf
def Try.srtL_ren:Go.Shelf.Ren:=⟨fun | 6=>74 | 15=>88 | 14=>87 | 28=>103 | 29=>104 | 20=>95 | 21=>96 | 22=>97 | 23=>98 | 24=>99 | 25=>100 | 26=>101 | 27=>102 | 46=>106 | 47=>107 | 48=>108 | 49=>109 | 50=>110 | 57=>112 | n=>n,fun | 22=>30 | 24=>36 | 25=>90 | 3=>3 | 39=>97 | 0=>0 | 53=>108 | 55=>110 | 4=>4 | 46=>101 | 45=>100 | 50=>105 | 5=>5 | 9=>9 | 66=>111 | 70=>115 | 76=>117 | 77=>118 | n=>n,fun | n=>n⟩
theorem Try.srtL:Go.Proofs.SlLaysF0.n6 Try.prog Try.srtL_ren:={
 mixed:=by kernel_rfl,
 f6:=⟨Try.f74.name,by decide,Try.func74.trans (congrArg some (by kernel_rfl))⟩,
 f14:=⟨Try.f87.name,by decide,Try.func87.trans (congrArg some (by kernel_rfl))⟩,
 f15:=Try.func88.trans (congrArg some (by kernel_rfl)),
 f20:=⟨Try.f95.name,by decide,Try.func95.trans (congrArg some (by kernel_rfl))⟩,
 f21:=⟨Try.f96.name,by decide,Try.func96.trans (congrArg some (by kernel_rfl))⟩,
 f22:=⟨Try.f97.name,by decide,Try.func97.trans (congrArg some (by kernel_rfl))⟩,
 f23:=⟨Try.f98.name,by decide,Try.func98.trans (congrArg some (by kernel_rfl))⟩,
 f24:=⟨Try.f99.name,by decide,Try.func99.trans (congrArg some (by kernel_rfl))⟩,
 f25:=⟨Try.f100.name,by decide,Try.func100.trans (congrArg some (by kernel_rfl))⟩,
 f26:=⟨Try.f101.name,by decide,Try.func101.trans (congrArg some (by kernel_rfl))⟩,
 f27:=⟨Try.f102.name,by decide,Try.func102.trans (congrArg some (by kernel_rfl))⟩,
 f28:=Try.func103.trans (congrArg some (by kernel_rfl)),
 f29:=Try.func104.trans (congrArg some (by kernel_rfl)),
 f46:=⟨Try.f106.name,by decide,Try.func106.trans (congrArg some (by kernel_rfl))⟩,
 f47:=Try.func107.trans (congrArg some (by kernel_rfl)),
 f48:=Try.func108.trans (congrArg some (by kernel_rfl)),
 f49:=⟨Try.f109.name,by decide,Try.func109.trans (congrArg some (by kernel_rfl))⟩,
 f50:=⟨Try.f110.name,by decide,Try.func110.trans (congrArg some (by kernel_rfl))⟩,
 f57:=⟨Try.f112.name,by decide,Try.func112.trans (congrArg some (by kernel_rfl))⟩,
 t0:=Try.underlying0,
 a0:=Try.isAgg0,
 z0:=Try.sizeOf0,
 v0:=Try.zeroValue0,
 t3:=Try.underlying3,
 a3:=Try.isAgg3,
 z3:=Try.sizeOf3,
 v3:=Try.zeroValue3,
 t4:=Try.underlying4,
 a4:=Try.isAgg4,
 z4:=Try.sizeOf4,
 v4:=Try.zeroValue4,
 t5:=Try.underlying5,
 a5:=Try.isAgg5,
 z5:=Try.sizeOf5,
 v5:=Try.zeroValue5,
 t9:=Try.underlying9,
 a9:=Try.isAgg9,
 z9:=Try.sizeOf9,
 v9:=Try.zeroValue9,
 t22:=Try.underlying30,
 a22:=Try.isAgg30,
 z22:=Try.sizeOf30,
 v22:=Try.zeroValue30,
 t25:=Try.underlying90,
 a25:=Try.isAgg90,
 z25:=Try.sizeOf90,
 v25:=Try.zeroValue90,
 t39:=Try.underlying97,
 a39:=Try.isAgg97,
 z39:=Try.sizeOf97,
 v39:=Try.zeroValue97,
 t45:=Try.underlying100,
 a45:=Try.isAgg100,
 z45:=Try.sizeOf100,
 v45:=Try.zeroValue100,
 t46:=Try.underlying101,
 a46:=Try.isAgg101,
 z46:=Try.sizeOf101,
 v46:=Try.zeroValue101,
 t50:=Try.underlying105,
 a50:=Try.isAgg105,
 z50:=Try.sizeOf105,
 v50:=Try.zeroValue105,
 t53:=Try.underlying108,
 a53:=Try.isAgg108,
 z53:=Try.sizeOf108,
 v53:=Try.zeroValue108,
 t55:=Try.underlying110,
 a55:=Try.isAgg110,
 z55:=Try.sizeOf110,
 v55:=Try.zeroValue110,
 t66:=Try.underlying111,
 a66:=Try.isAgg111,
 z66:=Try.sizeOf111,
 v66:=Try.zeroValue111,
 t70:=Try.underlying115,
 a70:=Try.isAgg115,
 z70:=Try.sizeOf115,
 v70:=Try.zeroValue115,
 t76:=Try.underlying117,
 a76:=Try.isAgg117,
 z76:=Try.sizeOf117,
 v76:=Try.zeroValue117,
 t77:=Try.underlying118,
 a77:=Try.isAgg118,
 z77:=Try.sizeOf118,
 v77:=Try.zeroValue118}
end Go.Proofs
namespace Go.T
open Go Go.Proofs
set_option maxHeartbeats 4000000
set_option maxRecDepth 100000
def qag (xs:List (Val Y36)):List (Val Y36):=qgP xs
def qcm (xs:List (Val Y36)):List Nat:=qeI xs
def qdq:Gsr:={e:=36,t:=Y36,cmp:=75,pre:=qvq (fun _ _=>True) qgq qag,fv:=qag}
theorem qJy:(Own1.sr qdq).Ok Try.prog 74:=
 qOk Try.srtL rfl ⟨_,Try.func74,by kernel_rfl,by kernel_rfl⟩ (ti:=i36) rfl Try.isAgg36 Try.sizeOf36 s75
end Go.T
