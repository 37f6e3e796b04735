/- The law of LengthOf. -/
import Derived.Test.YthefcjjgchekiaaGreatF1
import Derived.Test.YthefcjjgchekiaaGreatE24
set_option linter.unusedSimpArgs false
set_option linter.unusedVariables false
namespace Go.T
open Go Go.Proofs
set_option maxHeartbeats 4000000
set_option maxRecDepth 100000
def qAh (x y:Val Y28):Bool:=eqV Y28 x y
def qAQ (x _:Val Y28):Prop:=Bd Y28 x
noncomputable def m27 (N:Nat) (v0:Val Y28) (v1:Val Y28):Option (qc [i4]):=bif (!(decide ((v0.1:Int)=(v1.1:Int))))then (some (false,()))else (bif (!(decide ((v0.2:Int)=(v1.2:Int))))then (some (false,()))else (some (true,())))
def Γ27:Gam:=[]
def qAG:Nat→Tree:=fun _=> .done
def qLE:Nat→Nm:=fun _=>⟨[],[],false⟩
def qQk:Nat→Option Jn:=fun _=>none
def q3s:Nat→Option Nm:=fun _=>none
def qQy:Nat→Option Nm:=fun _=>none
theorem p27:qh qAG (Tryz.f27.body.getD .skip)=true:=by kernel_rfl
def T27 (N:Nat):Tab:={tr:=qAG,lp:=qLE,ex:=q3s,rg:=qQy,jn:=qQk,fuel:=N}
theorem zBb (N:Nat):(T27 N).pins=false:=rfl
theorem zlp (N:Nat):qk Tryz.prog (T27 N):=qo fun _=>rfl
theorem zmu (N:Nat) (i:Nat):(T27 N).tr i=qAG i:=rfl
theorem zAc (N:Nat) (i:Nat):(T27 N).lp i=qLE i:=rfl
theorem zbx (N:Nat) (i:Nat):(T27 N).ex i=q3s i:=rfl
theorem zsU (N:Nat) (i:Nat):(T27 N).rg i=qQy i:=rfl
theorem zqB (N:Nat) (i:Nat):(T27 N).jn i=qQk i:=rfl
theorem zd3 (N:Nat):(T27 N).fuel=N:=rfl
theorem zui (N:Nat) (v0:Val Y28) (v1:Val Y28):qf tt Γ27 (T27 N) (Tryz.f27.body.getD .skip) (qm tt true [i4] [.tmp 4]) (qp [i28,i28] 15 (v0,v1,()))=m27 N v0 v1:=by
 rw [m27];unfold Tryz.f27
 simp (maxSteps:=10000000) -implicitDefEqProofs [zmu,qAG,zAc,qLE,zbx,q3s,zsU,qQy,zqB,qQk,zd3,zBb]
 try rfl
def g27:G:={ps:=[i28,i28],rs:=[i4],dp:=true,pre:=fun x=>qAQ x.1 x.2.1,fn:=fun x=>(qAh x.1 x.2.1,())}
theorem e27 (x y:Val Y28) (h:qAQ x y): ∃N,m27 N x y=some (qAh x y,()):=⟨0,by
 obtain ⟨s0,s1⟩:=h
 rw [m27]
 obtain ⟨x0,x1⟩:=x
 obtain ⟨y0,y1⟩:=y
 change _=some ((eqV (.int .i64) x0 y0&&eqV (.int .i64) x1 y1),())
 simp only [qbi]
 show _=_
 generalize he0:eqV (.int .i64) x0 y0=e0
 have hd0:decide ((x0:Int)=y0)=e0:=he0
 generalize he1:eqV (.int .i64) x1 y1=e1
 have hd1:decide ((x1:Int)=y1)=e1:=he1
 simp only [hd0,hd1]
 cases e0<;>cases e1<;>rfl⟩
theorem s27:Sound Tryz.prog 27 g27:=qr (tt:=tt) (Γ:=Γ27) hT qn hm (fn:=Tryz.f27) Tryz.func27 (c:=Tryz.f27.body.getD .skip) (by kernel_rfl) (by kernel_rfl) fun x hx=>by
 obtain ⟨N,h⟩:=e27 x.1 x.2.1 hx
 exact ⟨T27 N,p27,qu _,zlp N,(zui N x.1 x.2.1).trans h⟩
noncomputable def m16 (N:Nat) (v0:Val Y42):Option (qc [i4]):=chk (qby v0 (1048576:Int)) (bif (decide (((qaT v0 (1048576:Int)):Int)<(0:Int)))then (some (true,()))else (chk (q9 v0) (chk (qG3 (((qd v0).1:Int),((qd v0).2:List (Val Y33)))) (chk (q9 v0) (chk (qAQ ((((qbl (((qd v0).1:Int),((qd v0).2:List (Val Y33)))).1).1:Int),(((qbl (((qd v0).1:Int),((qd v0).2:List (Val Y33)))).1).2:Int)) ((((qbl (((qd v0).1:Int),((qd v0).2:List (Val Y33)))).1).1:Int),(((qbl (((qd v0).1:Int),((qd v0).2:List (Val Y33)))).1).2:Int))) (bif (!((qAh ((((qbl (((qd v0).1:Int),((qd v0).2:List (Val Y33)))).1).1:Int),(((qbl (((qd v0).1:Int),((qd v0).2:List (Val Y33)))).1).2:Int)) ((((qbl (((qd v0).1:Int),((qd v0).2:List (Val Y33)))).1).1:Int),(((qbl (((qd v0).1:Int),((qd v0).2:List (Val Y33)))).1).2:Int))):Bool))then (some (false,()))else (bif (!(((qbl (((qd v0).1:Int),((qd v0).2:List (Val Y33)))).2:Bool)==((qbl (((qd v0).1:Int),((qd v0).2:List (Val Y33)))).2:Bool)))then (some (false,()))else (chk (q9 v0) (chk (q5 (((qd v0).1:Int),((qd v0).2:List (Val Y33))) (((qd v0).1:Int),((qd v0).2:List (Val Y33)))) (bif (!((qaf (((qd v0).1:Int),((qd v0).2:List (Val Y33))) (((qd v0).1:Int),((qd v0).2:List (Val Y33)))):Bool))then (some (false,()))else (some (true,()))))))))))))
def Γ16:Gam:=[(27,g27),(30,g30),(33,g33),(36,g36),(68,g68),(69,g69)]
theorem zlg:Gam.get Γ16 27=some g27:=rfl
theorem zu4:Gam.get Γ16 30=some g30:=rfl
theorem zcf:Gam.get Γ16 33=some g33:=rfl
theorem zfW:Gam.get Γ16 36=some g36:=rfl
theorem zmW:Gam.get Γ16 68=some g68:=rfl
theorem zfg:Gam.get Γ16 69=some g69:=rfl
def qHv:Nat→Tree:=fun i=>if i=10 then .quiet 1 (.alt 0 (.alt 2 (.alt 3 (.quiet 4 .done) .stop) .stop) (.alt 2 (.quiet 0 (.alt 3 (.quiet 4 .done) .stop)) .stop))else .done
def qWL:Nat→Nm:=fun _=>⟨[],[],false⟩
def q17:Nat→Option Jn:=fun _=>none
def q1X:Nat→Option Nm:=fun _=>none
def qZw:Nat→Option Nm:=fun _=>none
theorem p16:qh qHv (Tryz.f16.body.getD .skip)=true:=by kernel_rfl
def T16 (N:Nat):Tab:={tr:=qHv,lp:=qWL,ex:=q1X,rg:=qZw,jn:=q17,fuel:=N}
theorem zur (N:Nat):(T16 N).pins=false:=rfl
theorem zgR (N:Nat):qk Tryz.prog (T16 N):=qo fun _=>rfl
theorem zmh (N:Nat) (i:Nat):(T16 N).tr i=qHv i:=rfl
theorem zoY (N:Nat) (i:Nat):(T16 N).lp i=qWL i:=rfl
theorem zox (N:Nat) (i:Nat):(T16 N).ex i=q1X i:=rfl
theorem zge (N:Nat) (i:Nat):(T16 N).rg i=qZw i:=rfl
theorem ze2 (N:Nat) (i:Nat):(T16 N).jn i=q17 i:=rfl
theorem zuX (N:Nat):(T16 N).fuel=N:=rfl
theorem zgb (N:Nat) (v0:Val Y42):qf tt Γ16 (T16 N) (Tryz.f16.body.getD .skip) (qm tt true [i4] [.tmp 2]) (qp [i42] 41 (v0,()))=m16 N v0:=by
 rw [m16];unfold Tryz.f16
 simp (maxSteps:=10000000) -implicitDefEqProofs [zmh,qHv,zoY,qWL,zox,q1X,zge,qZw,ze2,q17,zuX,zur,zlg,zu4,zcf,zfW,zmW,zfg,g27,g30,g33,g36,g68,g69]
 try rfl
def q9H (_:Val Y42):Bool:=true
def q64 (x0:Val Y42):Prop:=Sms [i42] (x0,())
def g16:G:={ps:=[i42],rs:=[i4],dp:=true,pre:=fun x=>q64 x.1,fn:=fun x=>(q9H x.1,())}
theorem e16 (x:Val Y42) (h:q64 x): ∃N,m16 N x=some (q9H x,()):=⟨0,by
 rw [m16,qe (show qby x 1048576 from ⟨h.1,by omega,by omega⟩)]
 by_cases c:qaT x 1048576<0
 ·rw [qj c];rfl
 rw [qi c]
 have hsz:0≤szV Y42 x 1048576:=by have: ¬szV Y42 x 1048576<0:=c;omega
 have hb:Bd Y42 x:=qdn Y42 x 1048576 (by omega) (by omega) hsz
 have tx:q9 x:=hb
 have hp:qG3 (qd x):=qfo hb
 have ex:q5 (qd x) (qd x):=hb
 have rx:qaf (qd x) (qd x)=true:=qdW _ _
 have eX:((((qd x).1:Int),((qd x).2:List (Val Y33))):Val Y50)=qd x:=rfl
 have eq:qAQ (qbl (qd x)).1 (qbl (qd x)).1:=⟨trivial,trivial⟩
 have rq:qAh (qbl (qd x)).1 (qbl (qd x)).1=true:=qdW _ _
 try rw [eX]
 simp only [qe tx,qe hp,qe ex,qe eq,rx,rq,Bool.not_true,cond_false,beq_self_eq_true]
 rfl⟩
theorem s16:Sound Tryz.prog 16 g16:=qr (tt:=tt) (Γ:=Γ16) hT (qg s27 (qg s30 (qg s33 (qg s36 (qg s68 (qg s69 qn)))))) hm (fn:=Tryz.f16) Tryz.func16 (c:=Tryz.f16.body.getD .skip) (by kernel_rfl) (by kernel_rfl) fun x hx=>by
 obtain ⟨N,h⟩:=e16 x.1 hx
 exact ⟨T16 N,p16,qu _,zgR N,(zgb N x.1).trans h⟩
end Go.T
