/- Regions: what the reference's l4Add does with a region that it takes over. -/
import Derived.Test.YthefcjjgchekiaaGreatE7
import Derived.Test.YthefcjjgchekiaaGreatT11
set_option linter.unusedSimpArgs false
set_option linter.unusedVariables false
namespace Go.T
open Go Go.Proofs
set_option maxHeartbeats 4000000
set_option maxRecDepth 100000
def qb2:Gw:={t:=i50,ps:=[i33],rs:=[i50,i4],pre:=fun v x=>qgO v x.1,fn:=fun v x=>((qax v x.1).1,(qax v x.1).2,())}
def qts:Gam:=[(150,q9),(217,qyN),(229,qhx)]
theorem qYv:Gam.get qts 150=some q9:=rfl
theorem qV3:Gam.get qts 217=some qyN:=rfl
theorem zbw:Gam.get qts 229=some qhx:=rfl
def qyx:Nm:=⟨[false,false,false,false,true,false,false,false,true],[],false⟩
theorem q7Q:qyx.zero=false:=rfl
theorem zc8:qyx.fix=[]:=rfl
theorem qWi:qyx.keep=[false,false,false,false,true,false,false,false,true]:=rfl
def qv2:Nm:=⟨[false,false,false,false,true,true],[],false⟩
theorem qXB:qv2.zero=false:=rfl
theorem q2P:qv2.fix=[]:=rfl
theorem qVn:qv2.keep=[false,false,false,false,true,true]:=rfl
def qxh:Nat→Tree:=fun i=>if i=6 then .keep 0 (.keep 1 (.keep 3 (.keep 4 (.keep 6 (.alt 2 (.alt 5 (.alt 7 (.alt 8 (.first 9 (.alt 10 (.alt 11 .done .stop) .stop)) (.alt 10 (.alt 8 (.quiet 9 (.alt 11 .done .stop)) .stop) .stop)) (.alt 10 (.alt 7 (.alt 8 (.quiet 9 (.alt 11 .done .stop)) .stop) .stop) .stop)) (.alt 7 (.alt 5 (.alt 8 (.first 9 (.alt 10 (.alt 11 .done .stop) .stop)) (.alt 10 (.alt 8 (.quiet 9 (.alt 11 .done .stop)) .stop) .stop)) (.alt 10 (.alt 5 (.alt 8 (.quiet 9 (.alt 11 .done .stop)) .stop) .stop) .stop)) (.alt 10 (.alt 5 (.alt 7 (.alt 8 (.quiet 9 (.alt 11 .done .stop)) .stop) .stop) (.alt 7 (.alt 5 (.alt 8 (.quiet 9 (.alt 11 .done .stop)) .stop) .stop) .stop)) .stop))) (.alt 7 (.alt 2 (.alt 5 (.alt 8 (.first 9 (.alt 10 (.alt 11 .done .stop) .stop)) (.alt 10 (.alt 8 (.quiet 9 (.alt 11 .done .stop)) .stop) .stop)) (.alt 10 (.alt 5 (.alt 8 (.quiet 9 (.alt 11 .done .stop)) .stop) .stop) .stop)) (.alt 10 (.alt 2 (.alt 5 (.alt 8 (.quiet 9 (.alt 11 .done .stop)) .stop) .stop) .stop) .stop)) (.alt 10 (.alt 2 (.alt 5 (.alt 7 (.alt 8 (.quiet 9 (.alt 11 .done .stop)) .stop) .stop) (.alt 7 (.alt 5 (.alt 8 (.quiet 9 (.alt 11 .done .stop)) .stop) .stop) .stop)) (.alt 7 (.alt 2 (.alt 5 (.alt 8 (.quiet 9 (.alt 11 .done .stop)) .stop) .stop) .stop) .stop)) .stop)))))))else if i=7 then .quiet 0 (.alt 1 (.alt 2 (.alt 3 (.first 4 (.alt 5 (.quiet 6 .done) .stop)) (.alt 5 (.quiet 3 (.quiet 4 (.quiet 6 .done))) .stop)) (.alt 5 (.quiet 2 (.quiet 3 (.quiet 4 (.quiet 6 .done)))) .stop)) (.alt 5 (.quiet 1 (.quiet 2 (.quiet 3 (.quiet 4 (.quiet 6 .done))))) .stop))else .done
def qGA:Nat→Nm:=fun _=>⟨[],[],false⟩
def qNU:Nat→Option Jn:=fun _=>none
def qKJ:Nat→Option Nm:=fun _=>none
def qCx:Nat→Option Nm:=fun i=>if i=6 then some qyx else if i=7 then some qv2 else none
theorem zdk:qj qxh (Tryz.f143.body.getD .skip)=true:=by kernel_rfl
def qf2 (N:Nat):Tab:={tr:=qxh,lp:=qGA,ex:=qKJ,rg:=qCx,jn:=qNU,fuel:=N}
theorem q8W (N:Nat):(qf2 N).pins=false:=rfl
theorem q3x (N:Nat):qn Tryz.prog (qf2 N):=qr fun _=>rfl
theorem qUW (N:Nat) (i:Nat):(qf2 N).tr i=qxh i:=rfl
theorem q2z (N:Nat) (i:Nat):(qf2 N).lp i=qGA i:=rfl
theorem q7l (N:Nat) (i:Nat):(qf2 N).ex i=qKJ i:=rfl
theorem qVh (N:Nat) (i:Nat):(qf2 N).rg i=qCx i:=rfl
theorem qZM (N:Nat) (i:Nat):(qf2 N).jn i=qNU i:=rfl
theorem q2N (N:Nat):(qf2 N).fuel=N:=rfl
theorem q8V (N:Nat) (v0:Val Y50) (v1:Val Y33):qd tt qts (qf2 N) (Tryz.f143.body.getD .skip) (qo tt true [i50,i4] [.cell 4 50,.tmp 5]) (qrt i50 [i33] 54 v0 (v1,()))=qxv N v0 v1:=by
 rw [qxv];unfold Tryz.f143
 simp (maxSteps:=10000000) -implicitDefEqProofs [qUW,qxh,q2z,qGA,q7l,qKJ,qVh,qCx,qZM,qNU,q2N,q8W,zc8,qWi,q7Q,q2P,qVn,qXB,qYv,qV3,zbw,q9,qyN,qhx]
 try rfl
theorem zbU:SoundW Tryz.prog 143 qb2:=q7v (tt:=tt) (Γ:=qts) hT (qf qtd (qf q7B (qf qRj qq))) hm (fn:=Tryz.f143) Tryz.func143 (c:=Tryz.f143.body.getD .skip) (by kernel_rfl) (by kernel_rfl) fun v x hx=>by
 obtain ⟨N,h⟩:=q3H v x.1 hx
 exact ⟨qf2 N,zdk,⟨qv _,q3x N⟩,(q8V N v x.1).trans h⟩
end Go.T
