/- The law of InteriorOf. -/
import Derived.Test.YthefcjjgchekiaaGreatF3
import Derived.Test.YthefcjjgchekiaaGreatF2
import Derived.Test.YthefcjjgchekiaaGreatE23
set_option linter.unusedSimpArgs false
set_option linter.unusedVariables false
namespace Go.T
open Go Go.Proofs
set_option maxHeartbeats 4000000
set_option maxRecDepth 100000
noncomputable def m13 (N:Nat) (v0:Val Y42):Option (qc [i4]):=chk (qby v0 (1048576:Int)) (bif (decide (((qaT v0 (1048576:Int)):Int)<(0:Int)))then (some (true,()))else (chk (q9 v0) (chk (qpp (((qd v0).1:Int),((qd v0).2:List (Val Y33)))) (chk (q9 v0) (chk (q5 ((qV (((qd v0).1:Int),((qd v0).2:List (Val Y33)))).1) ((qV (((qd v0).1:Int),((qd v0).2:List (Val Y33)))).1)) (bif (!((qaf ((qV (((qd v0).1:Int),((qd v0).2:List (Val Y33)))).1) ((qV (((qd v0).1:Int),((qd v0).2:List (Val Y33)))).1)):Bool))then (some (false,()))else (bif (!(((qV (((qd v0).1:Int),((qd v0).2:List (Val Y33)))).2:Bool)==((qV (((qd v0).1:Int),((qd v0).2:List (Val Y33)))).2:Bool)))then (some (false,()))else (chk (q9 v0) (chk (q5 (((qd v0).1:Int),((qd v0).2:List (Val Y33))) (((qd v0).1:Int),((qd v0).2:List (Val Y33)))) (bif (!((qaf (((qd v0).1:Int),((qd v0).2:List (Val Y33))) (((qd v0).1:Int),((qd v0).2:List (Val Y33)))):Bool))then (some (false,()))else (chk (qaP (((qd v0).1:Int),((qd v0).2:List (Val Y33))) (1:Int)) (bif (decide ((qM (((qd v0).1:Int),((qd v0).2:List (Val Y33))) (1:Int))<(0:Int)))then (some (false,()))else (chk (q5 ((qV (((qd v0).1:Int),((qd v0).2:List (Val Y33)))).1) ((qV (((qd v0).1:Int),((qd v0).2:List (Val Y33)))).1)) (bif (!((qaf ((qV (((qd v0).1:Int),((qd v0).2:List (Val Y33)))).1) ((qV (((qd v0).1:Int),((qd v0).2:List (Val Y33)))).1)):Bool))then (some (false,()))else (bif (!(((qV (((qd v0).1:Int),((qd v0).2:List (Val Y33)))).2:Bool)==((qV (((qd v0).1:Int),((qd v0).2:List (Val Y33)))).2:Bool)))then (some (false,()))else (chk (qaP ((qV (((qd v0).1:Int),((qd v0).2:List (Val Y33)))).1) (1:Int)) (chk (qbg ((((qV (((qd v0).1:Int),((qd v0).2:List (Val Y33)))).1).1:Int),((qG ((qV (((qd v0).1:Int),((qd v0).2:List (Val Y33)))).1) (1:Int)).2:List (Val Y33))) (1:Int)) (bif (decide (((qap ((((qV (((qd v0).1:Int),((qd v0).2:List (Val Y33)))).1).1:Int),((qG ((qV (((qd v0).1:Int),((qd v0).2:List (Val Y33)))).1) (1:Int)).2:List (Val Y33))) (1:Int)):Int)<(0:Int)))then (some (false,()))else (bif (!(decide (((qap ((((qV (((qd v0).1:Int),((qd v0).2:List (Val Y33)))).1).1:Int),((qG ((qV (((qd v0).1:Int),((qd v0).2:List (Val Y33)))).1) (1:Int)).2:List (Val Y33))) (1:Int)):Int)=(qM ((qV (((qd v0).1:Int),((qd v0).2:List (Val Y33)))).1) (1:Int)))))then (some (false,()))else (chk (q9 v0) (chk (q5 ((qV (((qd v0).1:Int),((qd v0).2:List (Val Y33)))).1) ((qV (((qd v0).1:Int),((qd v0).2:List (Val Y33)))).1)) (bif (!((qaf ((qV (((qd v0).1:Int),((qd v0).2:List (Val Y33)))).1) ((qV (((qd v0).1:Int),((qd v0).2:List (Val Y33)))).1)):Bool))then (some (false,()))else (bif (!(((qV (((qd v0).1:Int),((qd v0).2:List (Val Y33)))).2:Bool)==((qV (((qd v0).1:Int),((qd v0).2:List (Val Y33)))).2:Bool)))then (some (false,()))else (chk (qbg ((((qV (((qd v0).1:Int),((qd v0).2:List (Val Y33)))).1).1:Int),((qG ((qV (((qd v0).1:Int),((qd v0).2:List (Val Y33)))).1) (1:Int)).2:List (Val Y33))) (1:Int)) (bif (decide (((qap ((((qV (((qd v0).1:Int),((qd v0).2:List (Val Y33)))).1).1:Int),((qG ((qV (((qd v0).1:Int),((qd v0).2:List (Val Y33)))).1) (1:Int)).2:List (Val Y33))) (1:Int)):Int)<(0:Int)))then (some (false,()))else (bif (!(decide (((qap ((((qV (((qd v0).1:Int),((qd v0).2:List (Val Y33)))).1).1:Int),((qG ((qV (((qd v0).1:Int),((qd v0).2:List (Val Y33)))).1) (1:Int)).2:List (Val Y33))) (1:Int)):Int)=(qM ((qV (((qd v0).1:Int),((qd v0).2:List (Val Y33)))).1) (1:Int)))))then (some (false,()))else (some (true,()))))))))))))))))))))))))))))
def Γ13:Gam:=[(30,g30),(33,g33),(36,g36),(43,g43),(59,g59),(60,g60)]
theorem zxM:Gam.get Γ13 30=some g30:=rfl
theorem zl0:Gam.get Γ13 33=some g33:=rfl
theorem zv6:Gam.get Γ13 36=some g36:=rfl
theorem zAg:Gam.get Γ13 43=some g43:=rfl
theorem zpN:Gam.get Γ13 59=some g59:=rfl
theorem zk5:Gam.get Γ13 60=some g60:=rfl
theorem zz9:Gam.get Γ13 42=none:=rfl
def q4o:Sem:=qew [(42,qcm)] []
def qCz:Nat→Tree:=fun i=>if i=10 then .quiet 1 (.alt 0 (.alt 2 (.alt 3 (.quiet 4 .done) .stop) .stop) (.alt 2 (.quiet 0 (.alt 3 (.quiet 4 .done) .stop)) .stop))else .done
def qLQ:Nat→Nm:=fun _=>⟨[],[],false⟩
def qI2:Nat→Option Jn:=fun _=>none
def q2Z:Nat→Option Nm:=fun _=>none
def qPO:Nat→Option Nm:=fun _=>none
theorem p13:qh qCz (Tryz.f13.body.getD .skip)=true:=by kernel_rfl
def T13 (N:Nat):Tab:={tr:=qCz,lp:=qLQ,ex:=q2Z,rg:=qPO,jn:=qI2,fuel:=N,sem:=q4o}
theorem zAC (N:Nat):(T13 N).pins=false:=rfl
theorem zhC (N:Nat):qk Tryz.prog (T13 N):=qo fun _=>rfl
theorem zBw (N:Nat):(T13 N).sem=q4o:=rfl
theorem zsX (N:Nat) (i:Nat):(T13 N).tr i=qCz i:=rfl
theorem zl6 (N:Nat) (i:Nat):(T13 N).lp i=qLQ i:=rfl
theorem zx7 (N:Nat) (i:Nat):(T13 N).ex i=q2Z i:=rfl
theorem zte (N:Nat) (i:Nat):(T13 N).rg i=qPO i:=rfl
theorem zcN (N:Nat) (i:Nat):(T13 N).jn i=qI2 i:=rfl
theorem zqG (N:Nat):(T13 N).fuel=N:=rfl
theorem zxN (N:Nat) (v0:Val Y42):qf tt Γ13 (T13 N) (Tryz.f13.body.getD .skip) (qm tt true [i4] [.tmp 2]) (qp [i42] 96 (v0,()))=m13 N v0:=by
 rw [m13];unfold Tryz.f13
 simp (maxSteps:=10000000) -implicitDefEqProofs [zsX,qCz,zl6,qLQ,zx7,q2Z,zte,qPO,zcN,qI2,zqG,zAC,zBw,q4o,qaa,zz9,qcm,zxM,zl0,zv6,zAg,zpN,zk5,g30,g33,g36,g43,g59,g60]
 try rfl
def q6B (_:Val Y42):Bool:=true
def q5e (x0:Val Y42):Prop:=Sms [i42] (x0,())
def g13:G:={ps:=[i42],rs:=[i4],dp:=true,pre:=fun x=>q5e x.1,fn:=fun x=>(q6B x.1,())}
theorem e13 (x:Val Y42) (h:q5e x): ∃N,m13 N x=some (q6B x,()):=⟨0,by
 rw [m13,qe (show qby x 1048576 from ⟨h.1,by omega,by omega⟩)]
 by_cases c:qaT x 1048576<0
 ·rw [qj c];rfl
 rw [qi c]
 have hsz:0≤szV Y42 x 1048576:=by have: ¬szV Y42 x 1048576<0:=c;omega
 have hle:szV Y42 x 1048576≤1048576:=(qb4 Y42 x 1048576 (by omega)).1
 have hb:Bd Y42 x:=qdn Y42 x 1048576 (by omega) (by omega) hsz
 have hcx:=qhA Y50 x 1048576 rfl (by omega) hsz
 have hcx':(qR Y50 x:Int)≤67108864:=by have:0≤szV Y50 x 1048576:=hsz;omega
 have hk1:qM x 1=1+qR Y50 x:=qcD Y50 x 1 (by omega) (by omega)
 have eX:((((qd x).1:Int),((qd x).2:List (Val Y33))):Val Y50)=qd x:=rfl
 rw [eX]
 have hpc:=q70 (qd x)
 have hpre:qpp (qd x):=qfo hb
 generalize qV (qd x)=p at hpc ⊢
 obtain ⟨p,b⟩:=p
 obtain ⟨hpb,hpn⟩:=qm1 (r:=p) hpc
 have hK1:qM p 1=1+qR Y50 p:=qcD Y50 p 1 (by omega) (by omega)
 have hv1:qap (((p.1:Int),((qG p 1).2:List (Val Y33))):Val Y50) 1=qM p 1:=congrArg Prod.snd (qcQ Y50 p 1)
 have hh1:qbg (((p.1:Int),((qG p 1).2:List (Val Y33))):Val Y50) 1:=⟨congrArg Prod.fst (qcQ Y50 p 1),qh7 _ _ _ hpb,by omega,by
  have:qR Y50 (qG p 1)=qR Y50 p:=qiF _ _ _
  have e:qR Y50 (((p.1:Int),((qG p 1).2:List (Val Y33))):Val Y50)=qR Y50 (qG p 1):=rfl
  omega⟩
 have rf: ∀z:Val Y50,qaf z z=true:=fun z=>qdW _ _
 have ep:q5 p p:=hpb
 have tx:q9 x:=hb
 have exx:q5 (qd x) (qd x):=hb
 have m1:qaP (qd x) 1:=⟨hb,by omega⟩
 have e1:qM (qd x) 1=qM x 1:=rfl
 have m3:qaP p 1:=⟨hpb,by omega⟩
 have n1: ¬qM (qd x) 1<0:=by omega
 have n2: ¬qM p 1<0:=by omega
 dsimp only
 simp only [hv1,qe tx,qe hpre,qe ep,qe exx,qe m1,qe m3,qe hh1,rf,decide_eq_false n1,decide_eq_false n2,Bool.not_true,cond_false,beq_self_eq_true,decide_true]
 rfl⟩
theorem s13:Sound Tryz.prog 13 g13:=qr (tt:=tt) (Γ:=Γ13) hT (qg s30 (qg s33 (qg s36 (qg s43 (qg s59 (qg s60 qn)))))) hm (fn:=Tryz.f13) Tryz.func13 (c:=Tryz.f13.body.getD .skip) (by kernel_rfl) (by kernel_rfl) fun x hx=>by
 obtain ⟨N,h⟩:=e13 x.1 hx
 exact ⟨T13 N,p13,qhH (qnj qwb qg8) qgU,zhC N,(zxN N x.1).trans h⟩
end Go.T
