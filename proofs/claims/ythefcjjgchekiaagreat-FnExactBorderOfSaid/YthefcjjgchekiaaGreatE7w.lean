/- Regions: what the reference's l4Add does with a region that it takes over. -/
import Derived.Test.YthefcjjgchekiaaGreatE7
import Derived.Test.YthefcjjgchekiaaGreatT11
set_option linter.unusedSimpArgs false
set_option linter.unusedVariables false
namespace Go.T
open Go Go.Proofs
set_option maxHeartbeats 4000000
set_option maxRecDepth 100000
def qgL:Gw:={t:=i50,ps:=[i33],rs:=[i50,i4],pre:=fun v x=>qfp v x.1,fn:=fun v x=>((qa1 v x.1).1,(qa1 v x.1).2,())}
def qsa:Gam:=[(150,qai),(217,qcS),(229,qcj)]
theorem zhQ:Gam.get qsa 150=some qai:=rfl
theorem zsb:Gam.get qsa 217=some qcS:=rfl
theorem zkg:Gam.get qsa 229=some qcj:=rfl
def qD6:Nm:=⟨[false,false,false,false,true,false,false,false,true],[],false⟩
theorem zto:qD6.zero=false:=rfl
theorem za7:qD6.fix=[]:=rfl
theorem ziZ:qD6.keep=[false,false,false,false,true,false,false,false,true]:=rfl
def qCH:Nm:=⟨[false,false,false,false,true,true],[],false⟩
theorem zbF:qCH.zero=false:=rfl
theorem zr1:qCH.fix=[]:=rfl
theorem zlw:qCH.keep=[false,false,false,false,true,true]:=rfl
def qHB:Nat→Tree:=fun i=>if i=6 then .keep 0 (.keep 1 (.keep 3 (.keep 4 (.keep 6 (.alt 2 (.alt 5 (.alt 7 (.alt 8 (.first 9 (.alt 10 (.alt 11 .done .stop) .stop)) (.alt 10 (.alt 8 (.quiet 9 (.alt 11 .done .stop)) .stop) .stop)) (.alt 10 (.alt 7 (.alt 8 (.quiet 9 (.alt 11 .done .stop)) .stop) .stop) .stop)) (.alt 7 (.alt 5 (.alt 8 (.first 9 (.alt 10 (.alt 11 .done .stop) .stop)) (.alt 10 (.alt 8 (.quiet 9 (.alt 11 .done .stop)) .stop) .stop)) (.alt 10 (.alt 5 (.alt 8 (.quiet 9 (.alt 11 .done .stop)) .stop) .stop) .stop)) (.alt 10 (.alt 5 (.alt 7 (.alt 8 (.quiet 9 (.alt 11 .done .stop)) .stop) .stop) (.alt 7 (.alt 5 (.alt 8 (.quiet 9 (.alt 11 .done .stop)) .stop) .stop) .stop)) .stop))) (.alt 7 (.alt 2 (.alt 5 (.alt 8 (.first 9 (.alt 10 (.alt 11 .done .stop) .stop)) (.alt 10 (.alt 8 (.quiet 9 (.alt 11 .done .stop)) .stop) .stop)) (.alt 10 (.alt 5 (.alt 8 (.quiet 9 (.alt 11 .done .stop)) .stop) .stop) .stop)) (.alt 10 (.alt 2 (.alt 5 (.alt 8 (.quiet 9 (.alt 11 .done .stop)) .stop) .stop) .stop) .stop)) (.alt 10 (.alt 2 (.alt 5 (.alt 7 (.alt 8 (.quiet 9 (.alt 11 .done .stop)) .stop) .stop) (.alt 7 (.alt 5 (.alt 8 (.quiet 9 (.alt 11 .done .stop)) .stop) .stop) .stop)) (.alt 7 (.alt 2 (.alt 5 (.alt 8 (.quiet 9 (.alt 11 .done .stop)) .stop) .stop) .stop) .stop)) .stop)))))))else if i=7 then .quiet 0 (.alt 1 (.alt 2 (.alt 3 (.first 4 (.alt 5 (.quiet 6 .done) .stop)) (.alt 5 (.quiet 3 (.quiet 4 (.quiet 6 .done))) .stop)) (.alt 5 (.quiet 2 (.quiet 3 (.quiet 4 (.quiet 6 .done)))) .stop)) (.alt 5 (.quiet 1 (.quiet 2 (.quiet 3 (.quiet 4 (.quiet 6 .done))))) .stop))else .done
def qNv:Nat→Nm:=fun _=>⟨[],[],false⟩
def qIQ:Nat→Option Jn:=fun _=>none
def qZa:Nat→Option Nm:=fun _=>none
def qUK:Nat→Option Nm:=fun i=>if i=6 then some qD6 else if i=7 then some qCH else none
theorem zgV:qh qHB (Tryz.f143.body.getD .skip)=true:=by kernel_rfl
def qgg (N:Nat):Tab:={tr:=qHB,lp:=qNv,ex:=qZa,rg:=qUK,jn:=qIQ,fuel:=N}
theorem zcb (N:Nat):(qgg N).pins=false:=rfl
theorem zcJ (N:Nat):qk Tryz.prog (qgg N):=qo fun _=>rfl
theorem zyz (N:Nat) (i:Nat):(qgg N).tr i=qHB i:=rfl
theorem zvs (N:Nat) (i:Nat):(qgg N).lp i=qNv i:=rfl
theorem zv2 (N:Nat) (i:Nat):(qgg N).ex i=qZa i:=rfl
theorem zw5 (N:Nat) (i:Nat):(qgg N).rg i=qUK i:=rfl
theorem zoe (N:Nat) (i:Nat):(qgg N).jn i=qIQ i:=rfl
theorem zbq (N:Nat):(qgg N).fuel=N:=rfl
theorem zoy (N:Nat) (v0:Val Y50) (v1:Val Y33):qf tt qsa (qgg N) (Tryz.f143.body.getD .skip) (qm tt true [i50,i4] [.cell 4 50,.tmp 5]) (qtS i50 [i33] 54 v0 (v1,()))=qoJ N v0 v1:=by
 rw [qoJ];unfold Tryz.f143
 simp (maxSteps:=10000000) -implicitDefEqProofs [zyz,qHB,zvs,qNv,zv2,qZa,zw5,qUK,zoe,qIQ,zbq,zcb,za7,ziZ,zto,zr1,zlw,zbF,zhQ,zsb,zkg,qai,qcS,qcj]
 try rfl
theorem zap:SoundW Tryz.prog 143 qgL:=zuW (tt:=tt) (Γ:=qsa) hT (qg qhd (qg qPd (qg qBQ qn))) hm (fn:=Tryz.f143) Tryz.func143 (c:=Tryz.f143.body.getD .skip) (by kernel_rfl) (by kernel_rfl) fun v x hx=>by
 obtain ⟨N,h⟩:=q9O v x.1 hx
 exact ⟨qgg N,zgV,⟨qu _,zcJ N⟩,(zoy N v x.1).trans h⟩
end Go.T
