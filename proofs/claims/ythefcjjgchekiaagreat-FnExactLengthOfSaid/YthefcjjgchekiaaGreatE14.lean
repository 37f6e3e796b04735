/- Complements of regions. -/
import Derived.Test.YthefcjjgchekiaaGreatE13
set_option linter.unusedSimpArgs false
set_option linter.unusedVariables false
namespace Go.T
open Go Go.Proofs
set_option maxHeartbeats 4000000
set_option maxRecDepth 100000
def qbv (c:Val Y33):Val Y50:=(c.1,[c])
def qgG:G:={ps:=[i33],rs:=[i50],dp:=false,pre:=fun _=>True,fn:=fun x=>(qbv x.1,())}
noncomputable def qR6 (N:Nat) (v0:Val Y33):Option (qc [i50]):=some (((v0.1:Int),([v0]:List (Val Y33))),())
def q6G:Gam:=[]
def qzt:Nat→Tree:=fun _=> .done
def qMd:Nat→Nm:=fun _=>⟨[],[],false⟩
def q13:Nat→Option Jn:=fun _=>none
def qRE:Nat→Option Nm:=fun _=>none
def qZG:Nat→Option Nm:=fun _=>none
theorem zxG:qh qzt (Tryz.f148.body.getD .skip)=true:=by kernel_rfl
def qfk (N:Nat):Tab:={tr:=qzt,lp:=qMd,ex:=qRE,rg:=qZG,jn:=q13,fuel:=N}
theorem zbD (N:Nat):(qfk N).pins=false:=rfl
theorem zwH (N:Nat):qk Tryz.prog (qfk N):=qo fun _=>rfl
theorem znE (N:Nat) (i:Nat):(qfk N).tr i=qzt i:=rfl
theorem zt9 (N:Nat) (i:Nat):(qfk N).lp i=qMd i:=rfl
theorem zg5 (N:Nat) (i:Nat):(qfk N).ex i=qRE i:=rfl
theorem zw0 (N:Nat) (i:Nat):(qfk N).rg i=qZG i:=rfl
theorem zhX (N:Nat) (i:Nat):(qfk N).jn i=q13 i:=rfl
theorem zwN (N:Nat):(qfk N).fuel=N:=rfl
theorem znm (N:Nat) (v0:Val Y33):qf tt q6G (qfk N) (Tryz.f148.body.getD .skip) (qm tt false [i50] [.cell 2 50]) (qp [i33] 8 (v0,()))=qR6 N v0:=by
 rw [qR6];unfold Tryz.f148
 simp (maxSteps:=10000000) -implicitDefEqProofs [znE,qzt,zt9,qMd,zg5,qRE,zw0,qZG,zhX,q13,zwN,zbD]
 try rfl
def qgr (d:Int):Val Y50:=(d,[((d,[]):Val Y33)])
def qCN:G:={ps:=[i3],rs:=[i50],dp:=true,pre:=fun _=>True,fn:=fun x=>(qgr x.1,())}
noncomputable def qPD (N:Nat) (v0:Int):Option (qc [i50]):=some ((v0,([(v0,([]:List (Val qa)))]:List (Val Y33))),())
def q8Z:Gam:=[]
def qF5:Nat→Tree:=fun _=> .done
def q1y:Nat→Nm:=fun _=>⟨[],[],false⟩
def qUN:Nat→Option Jn:=fun _=>none
def qJW:Nat→Option Nm:=fun _=>none
def qXG:Nat→Option Nm:=fun _=>none
theorem zu5:qh qF5 (Tryz.f147.body.getD .skip)=true:=by kernel_rfl
def qfJ (N:Nat):Tab:={tr:=qF5,lp:=q1y,ex:=qJW,rg:=qXG,jn:=qUN,fuel:=N}
theorem zbv (N:Nat):(qfJ N).pins=false:=rfl
theorem zed (N:Nat):qk Tryz.prog (qfJ N):=qo fun _=>rfl
theorem zlJ (N:Nat) (i:Nat):(qfJ N).tr i=qF5 i:=rfl
theorem zig (N:Nat) (i:Nat):(qfJ N).lp i=q1y i:=rfl
theorem zwL (N:Nat) (i:Nat):(qfJ N).ex i=qJW i:=rfl
theorem zlF (N:Nat) (i:Nat):(qfJ N).rg i=qXG i:=rfl
theorem zyX (N:Nat) (i:Nat):(qfJ N).jn i=qUN i:=rfl
theorem zA8 (N:Nat):(qfJ N).fuel=N:=rfl
theorem zsV (N:Nat) (v0:Int):qf tt q8Z (qfJ N) (Tryz.f147.body.getD .skip) (qm tt true [i50] [.cell 2 50]) (qp [i3] 8 (v0,()))=qPD N v0:=by
 rw [qPD];unfold Tryz.f147
 simp (maxSteps:=10000000) -implicitDefEqProofs [zlJ,qF5,zig,q1y,zwL,qJW,zlF,qXG,zyX,qUN,zA8,zbv]
 try rfl
def qab (r:Val Y50):Val Y50×Bool:=bif q7 r then qH (qgr r.1) r else qa5
def qoR (r:Val Y50):Prop:=qbs r
def g54:G:={ps:=[i50],rs:=[i50,i4],dp:=true,pre:=fun _=>True,fn:=fun x=>((qab x.1).1,(qab x.1).2,())}
noncomputable def m54 (N:Nat) (v0:Val Y50):Option (qc [i50,i4]):=bif (!((q7 v0):Bool))then (some (((0:Int),([]:List (Val Y33))),false,()))else (some (((((qH (qbv ((v0.1:Int),([]:List (Val qa)))) v0).1).1:Int),(((qH (qbv ((v0.1:Int),([]:List (Val qa)))) v0).1).2:List (Val Y33))),((qH (qbv ((v0.1:Int),([]:List (Val qa)))) v0).2:Bool),()))
def Γ54:Gam:=[(45,g45),(124,qbW),(148,qgG)]
theorem zt2:Gam.get Γ54 45=some g45:=rfl
theorem zzS:Gam.get Γ54 124=some qbW:=rfl
theorem zAX:Gam.get Γ54 148=some qgG:=rfl
def qzZ:Nm:=⟨[false,false,true,true],[],false⟩
theorem zxD:qzZ.zero=false:=rfl
theorem zmk:qzZ.fix=[]:=rfl
theorem zxL:qzZ.keep=[false,false,true,true]:=rfl
def qGC:Nat→Tree:=fun i=>if i=3 then .quiet 0 (.quiet 1 (.quiet 2 (.alt 3 (.quiet 4 (.alt 5 (.quiet 6 (.quiet 7 (.alt 8 (.quiet 9 .done) .stop))) .stop)) (.alt 4 (.alt 3 (.alt 5 (.quiet 6 (.quiet 7 (.alt 8 (.quiet 9 .done) .stop))) .stop) .stop) .stop))))else .done
def qV8:Nat→Nm:=fun _=>⟨[],[],false⟩
def q1V:Nat→Option Jn:=fun _=>none
def qYs:Nat→Option Nm:=fun _=>none
def qYn:Nat→Option Nm:=fun i=>if i=3 then some qzZ else none
theorem p54:qh qGC (Tryz.f54.body.getD .skip)=true:=by kernel_rfl
def T54 (N:Nat):Tab:={tr:=qGC,lp:=qV8,ex:=qYs,rg:=qYn,jn:=q1V,fuel:=N}
theorem znO (N:Nat):(T54 N).pins=false:=rfl
theorem znS (N:Nat):qk Tryz.prog (T54 N):=qo fun _=>rfl
theorem zqT (N:Nat) (i:Nat):(T54 N).tr i=qGC i:=rfl
theorem zyG (N:Nat) (i:Nat):(T54 N).lp i=qV8 i:=rfl
theorem zu0 (N:Nat) (i:Nat):(T54 N).ex i=qYs i:=rfl
theorem zt5 (N:Nat) (i:Nat):(T54 N).rg i=qYn i:=rfl
theorem zyh (N:Nat) (i:Nat):(T54 N).jn i=q1V i:=rfl
theorem zeE (N:Nat):(T54 N).fuel=N:=rfl
theorem zkQ (N:Nat) (v0:Val Y50):qf tt Γ54 (T54 N) (Tryz.f54.body.getD .skip) (qm tt true [i50,i4] [.cell 2 50,.tmp 3]) (qp [i50] 16 (v0,()))=m54 N v0:=by
 rw [m54];unfold Tryz.f54
 simp (maxSteps:=10000000) -implicitDefEqProofs [zqT,qGC,zyG,qV8,zu0,qYs,zt5,qYn,zyh,q1V,zeE,znO,zmk,zxL,zxD,zt2,zzS,zAX,g45,qbW,qgG]
 try rfl
def g53:G:={ps:=[i50],rs:=[i50,i4],dp:=false,pre:=fun x=>qoR x.1,fn:=fun x=>((qab x.1).1,(qab x.1).2,())}
noncomputable def m53 (N:Nat) (v0:Val Y50):Option (qc [i50,i4]):=chk (qbs v0) (bif (!((q7 v0):Bool))then (some (((0:Int),([]:List (Val Y33))),false,()))else (chk (qeE (((qgr (v0.1:Int)).1:Int),((qgr (v0.1:Int)).2:List (Val Y33))) v0) (some ((qH (((qgr (v0.1:Int)).1:Int),((qgr (v0.1:Int)).2:List (Val Y33))) v0).1,((qH (((qgr (v0.1:Int)).1:Int),((qgr (v0.1:Int)).2:List (Val Y33))) v0).2:Bool),()))))
def Γ53:Gam:=[(44,g44),(117,qaX),(147,qCN)]
theorem zjN:Gam.get Γ53 44=some g44:=rfl
theorem zr2:Gam.get Γ53 117=some qaX:=rfl
theorem zfv:Gam.get Γ53 147=some qCN:=rfl
def qEc:Nm:=⟨[false,false,true,false,true,true],[],false⟩
theorem zgU:qEc.zero=false:=rfl
theorem zqt:qEc.fix=[]:=rfl
theorem zbS:qEc.keep=[false,false,true,false,true,true]:=rfl
def qFz:Nat→Tree:=fun i=>if i=3 then .grow 0 (.grow 1 (.alt 2 (.grow 3 (.alt 4 (.first 5 (.first 6 (.first 7 (.alt 8 (.alt 9 (.quiet 10 .done) .stop) .stop)))) (.alt 8 (.alt 4 (.quiet 5 (.quiet 6 (.first 7 (.alt 9 (.quiet 10 .done) .stop)))) .stop) .stop))) (.alt 3 (.alt 2 (.alt 4 (.first 5 (.first 6 (.first 7 (.alt 8 (.alt 9 (.quiet 10 .done) .stop) .stop)))) (.alt 8 (.alt 4 (.quiet 5 (.quiet 6 (.first 7 (.alt 9 (.quiet 10 .done) .stop)))) .stop) .stop)) (.alt 8 (.alt 2 (.alt 4 (.quiet 5 (.quiet 6 (.first 7 (.alt 9 (.quiet 10 .done) .stop)))) .stop) .stop) .stop)) (.alt 8 (.alt 2 (.quiet 3 (.alt 4 (.quiet 5 (.quiet 6 (.first 7 (.alt 9 (.quiet 10 .done) .stop)))) .stop)) (.alt 3 (.alt 2 (.alt 4 (.quiet 5 (.quiet 6 (.first 7 (.alt 9 (.quiet 10 .done) .stop)))) .stop) .stop) .stop)) .stop))))else .done
def qZm:Nat→Nm:=fun _=>⟨[],[],false⟩
def q4D:Nat→Option Jn:=fun _=>none
def q2a:Nat→Option Nm:=fun _=>none
def qK3:Nat→Option Nm:=fun i=>if i=3 then some qEc else none
theorem p53:qh qFz (Tryz.f53.body.getD .skip)=true:=by kernel_rfl
def T53 (N:Nat):Tab:={tr:=qFz,lp:=qZm,ex:=q2a,rg:=qK3,jn:=q4D,fuel:=N}
theorem zwC (N:Nat):(T53 N).pins=false:=rfl
theorem zvP (N:Nat):qk Tryz.prog (T53 N):=qo fun _=>rfl
theorem zuR (N:Nat) (i:Nat):(T53 N).tr i=qFz i:=rfl
theorem zwW (N:Nat) (i:Nat):(T53 N).lp i=qZm i:=rfl
theorem zbK (N:Nat) (i:Nat):(T53 N).ex i=q2a i:=rfl
theorem zxH (N:Nat) (i:Nat):(T53 N).rg i=qK3 i:=rfl
theorem zyO (N:Nat) (i:Nat):(T53 N).jn i=q4D i:=rfl
theorem zsE (N:Nat):(T53 N).fuel=N:=rfl
theorem zjg (N:Nat) (v0:Val Y50):qf tt Γ53 (T53 N) (Tryz.f53.body.getD .skip) (qm tt false [i50,i4] [.cell 2 50,.tmp 3]) (qp [i50] 20 (v0,()))=m53 N v0:=by
 rw [m53];unfold Tryz.f53
 simp (maxSteps:=10000000) -implicitDefEqProofs [zuR,qFz,zwW,qZm,zbK,q2a,zxH,qK3,zyO,q4D,zsE,zwC,zqt,zbS,zgU,zjN,zr2,zfv,g44,qaX,qCN]
 try rfl
theorem zjB (c:Val Y33): ∃N,qR6 N c=some (qbv c,()):=⟨0,rfl⟩
theorem q58:Sound Tryz.prog 148 qgG:=qr (tt:=tt) (Γ:=q6G) hT qn hm (fn:=Tryz.f148) Tryz.func148 (c:=Tryz.f148.body.getD .skip) (by kernel_rfl) (by kernel_rfl) fun x hx=>by
 obtain ⟨N,h⟩:=zjB x.1
 exact ⟨qfk N,zxG,qu _,zwH N,(znm N x.1).trans h⟩
theorem zux (d:Int): ∃N,qPD N d=some (qgr d,()):=⟨0,rfl⟩
theorem zpI:Sound Tryz.prog 147 qCN:=qr (tt:=tt) (Γ:=q8Z) hT qn hm (fn:=Tryz.f147) Tryz.func147 (c:=Tryz.f147.body.getD .skip) (by kernel_rfl) (by kernel_rfl) fun x hx=>by
 obtain ⟨N,h⟩:=zux x.1
 exact ⟨qfJ N,zu5,qu _,zed N,(zsV N x.1).trans h⟩
theorem e54 (r:Val Y50): ∃N,m54 N r=some ((qab r).1,(qab r).2,()):=⟨0,by
 rw [m54]
 unfold qab
 cases q7 r<;>rfl⟩
theorem s54:Sound Tryz.prog 54 g54:=qr (tt:=tt) (Γ:=Γ54) hT (qg s45 (qg qr1 (qg q58 qn))) hm (fn:=Tryz.f54) Tryz.func54 (c:=Tryz.f54.body.getD .skip) (by kernel_rfl) (by kernel_rfl) fun x hx=>by
 obtain ⟨N,h⟩:=e54 x.1
 exact ⟨T54 N,p54,qu _,znS N,(zkQ N x.1).trans h⟩
theorem e53 (r:Val Y50) (h:qoR r): ∃N,m53 N r=some ((qab r).1,(qab r).2,()):=⟨0,by
 rw [m53,qe (show qbs r from h)]
 unfold qab
 cases hr:q7 r with
 | false=>rfl
 | true=>
   simp only [Bool.not_true,cond_false,cond_true]
   exact qe (show qeE (qgr r.1) r from ⟨⟨by show 1≤1048576;omega,fun c hc=>by
    obtain rfl:=List.mem_singleton.1 (show c∈[((r.1,[]):Val Y33)] from hc)
    exact Nat.zero_le _⟩,h⟩)⟩
theorem s53:Sound Tryz.prog 53 g53:=qr (tt:=tt) (Γ:=Γ53) hT (qg s44 (qg qnf (qg zpI qn))) hm (fn:=Tryz.f53) Tryz.func53 (c:=Tryz.f53.body.getD .skip) (by kernel_rfl) (by kernel_rfl) fun x hx=>by
 obtain ⟨N,h⟩:=e53 x.1 hx
 exact ⟨T53 N,p53,qu _,zvP N,(zjg N x.1).trans h⟩
theorem zae (a:Val Y50):List.length (α:=Val Y33) (qab a).1.2≤12∧ ∀c∈((qab a).1.2:List (Val Y33)),qz c=true:=by
 unfold qab
 cases q7 a with
 | true=>exact qzA _ _
 | false=>exact ⟨Nat.zero_le _,fun c hc=>by cases hc⟩
end Go.T
