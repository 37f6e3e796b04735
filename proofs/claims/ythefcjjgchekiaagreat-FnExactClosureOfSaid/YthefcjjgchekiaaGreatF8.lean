/- The law of ClosureOf. -/
import Derived.Test.YthefcjjgchekiaaGreatF3
import Derived.Test.YthefcjjgchekiaaGreatF2
import Derived.Test.YthefcjjgchekiaaGreatE22
set_option linter.unusedSimpArgs false
set_option linter.unusedVariables false
namespace Go.T
open Go Go.Proofs
set_option maxHeartbeats 4000000
set_option maxRecDepth 100000
noncomputable def m6 (N:Nat) (v0:Val Y42):Option (qc [i4]):=chk (qby v0 (1048576:Int)) (bif (decide (((qaT v0 (1048576:Int)):Int)<(0:Int)))then (some (true,()))else (chk (q9 v0) (chk (qia (((qd v0).1:Int),((qd v0).2:List (Val Y33)))) (chk (q9 v0) (chk (q5 ((qF (((qd v0).1:Int),((qd v0).2:List (Val Y33)))).1) ((qF (((qd v0).1:Int),((qd v0).2:List (Val Y33)))).1)) (bif (!((qaf ((qF (((qd v0).1:Int),((qd v0).2:List (Val Y33)))).1) ((qF (((qd v0).1:Int),((qd v0).2:List (Val Y33)))).1)):Bool))then (some (false,()))else (bif (!(((qF (((qd v0).1:Int),((qd v0).2:List (Val Y33)))).2:Bool)==((qF (((qd v0).1:Int),((qd v0).2:List (Val Y33)))).2:Bool)))then (some (false,()))else (chk (q9 v0) (chk (q5 (((qd v0).1:Int),((qd v0).2:List (Val Y33))) (((qd v0).1:Int),((qd v0).2:List (Val Y33)))) (bif (!((qaf (((qd v0).1:Int),((qd v0).2:List (Val Y33))) (((qd v0).1:Int),((qd v0).2:List (Val Y33)))):Bool))then (some (false,()))else (chk (qaP (((qd v0).1:Int),((qd v0).2:List (Val Y33))) (1:Int)) (bif (decide ((qM (((qd v0).1:Int),((qd v0).2:List (Val Y33))) (1:Int))<(0:Int)))then (some (false,()))else (chk (q5 ((qF (((qd v0).1:Int),((qd v0).2:List (Val Y33)))).1) ((qF (((qd v0).1:Int),((qd v0).2:List (Val Y33)))).1)) (bif (!((qaf ((qF (((qd v0).1:Int),((qd v0).2:List (Val Y33)))).1) ((qF (((qd v0).1:Int),((qd v0).2:List (Val Y33)))).1)):Bool))then (some (false,()))else (bif (!(((qF (((qd v0).1:Int),((qd v0).2:List (Val Y33)))).2:Bool)==((qF (((qd v0).1:Int),((qd v0).2:List (Val Y33)))).2:Bool)))then (some (false,()))else (chk (qaP ((qF (((qd v0).1:Int),((qd v0).2:List (Val Y33)))).1) (1:Int)) (chk (qbg ((((qF (((qd v0).1:Int),((qd v0).2:List (Val Y33)))).1).1:Int),((qG ((qF (((qd v0).1:Int),((qd v0).2:List (Val Y33)))).1) (1:Int)).2:List (Val Y33))) (1:Int)) (bif (decide (((qap ((((qF (((qd v0).1:Int),((qd v0).2:List (Val Y33)))).1).1:Int),((qG ((qF (((qd v0).1:Int),((qd v0).2:List (Val Y33)))).1) (1:Int)).2:List (Val Y33))) (1:Int)):Int)<(0:Int)))then (some (false,()))else (bif (!(decide (((qap ((((qF (((qd v0).1:Int),((qd v0).2:List (Val Y33)))).1).1:Int),((qG ((qF (((qd v0).1:Int),((qd v0).2:List (Val Y33)))).1) (1:Int)).2:List (Val Y33))) (1:Int)):Int)=(qM ((qF (((qd v0).1:Int),((qd v0).2:List (Val Y33)))).1) (1:Int)))))then (some (false,()))else (chk (q9 v0) (chk (q5 ((qF (((qd v0).1:Int),((qd v0).2:List (Val Y33)))).1) ((qF (((qd v0).1:Int),((qd v0).2:List (Val Y33)))).1)) (bif (!((qaf ((qF (((qd v0).1:Int),((qd v0).2:List (Val Y33)))).1) ((qF (((qd v0).1:Int),((qd v0).2:List (Val Y33)))).1)):Bool))then (some (false,()))else (bif (!(((qF (((qd v0).1:Int),((qd v0).2:List (Val Y33)))).2:Bool)==((qF (((qd v0).1:Int),((qd v0).2:List (Val Y33)))).2:Bool)))then (some (false,()))else (chk (qbg ((((qF (((qd v0).1:Int),((qd v0).2:List (Val Y33)))).1).1:Int),((qG ((qF (((qd v0).1:Int),((qd v0).2:List (Val Y33)))).1) (1:Int)).2:List (Val Y33))) (1:Int)) (bif (decide (((qap ((((qF (((qd v0).1:Int),((qd v0).2:List (Val Y33)))).1).1:Int),((qG ((qF (((qd v0).1:Int),((qd v0).2:List (Val Y33)))).1) (1:Int)).2:List (Val Y33))) (1:Int)):Int)<(0:Int)))then (some (false,()))else (bif (!(decide (((qap ((((qF (((qd v0).1:Int),((qd v0).2:List (Val Y33)))).1).1:Int),((qG ((qF (((qd v0).1:Int),((qd v0).2:List (Val Y33)))).1) (1:Int)).2:List (Val Y33))) (1:Int)):Int)=(qM ((qF (((qd v0).1:Int),((qd v0).2:List (Val Y33)))).1) (1:Int)))))then (some (false,()))else (some (true,()))))))))))))))))))))))))))))
def Γ6:Gam:=[(30,g30),(33,g33),(36,g36),(40,g40),(41,g41),(43,g43)]
theorem ze6:Gam.get Γ6 30=some g30:=rfl
theorem zla:Gam.get Γ6 33=some g33:=rfl
theorem zmU:Gam.get Γ6 36=some g36:=rfl
theorem zcl:Gam.get Γ6 40=some g40:=rfl
theorem zwI:Gam.get Γ6 41=some g41:=rfl
theorem zf9:Gam.get Γ6 43=some g43:=rfl
theorem zfE:Gam.get Γ6 42=none:=rfl
def qLw:Sem:=qew [(42,qcm)] []
def tr6:Nat→Tree:=fun i=>if i=10 then .quiet 1 (.alt 0 (.alt 2 (.alt 3 (.quiet 4 .done) .stop) .stop) (.alt 2 (.quiet 0 (.alt 3 (.quiet 4 .done) .stop)) .stop))else .done
def lp6:Nat→Nm:=fun _=>⟨[],[],false⟩
def jn6:Nat→Option Jn:=fun _=>none
def ex6:Nat→Option Nm:=fun _=>none
def rg6:Nat→Option Nm:=fun _=>none
theorem p6:qh tr6 (Tryz.f6.body.getD .skip)=true:=by kernel_rfl
def T6 (N:Nat):Tab:={tr:=tr6,lp:=lp6,ex:=ex6,rg:=rg6,jn:=jn6,fuel:=N,sem:=qLw}
theorem zzl (N:Nat):(T6 N).pins=false:=rfl
theorem tb6 (N:Nat):qk Tryz.prog (T6 N):=qo fun _=>rfl
theorem znq (N:Nat):(T6 N).sem=qLw:=rfl
theorem zch (N:Nat) (i:Nat):(T6 N).tr i=tr6 i:=rfl
theorem zuB (N:Nat) (i:Nat):(T6 N).lp i=lp6 i:=rfl
theorem zfZ (N:Nat) (i:Nat):(T6 N).ex i=ex6 i:=rfl
theorem zma (N:Nat) (i:Nat):(T6 N).rg i=rg6 i:=rfl
theorem zbR (N:Nat) (i:Nat):(T6 N).jn i=jn6 i:=rfl
theorem zgf (N:Nat):(T6 N).fuel=N:=rfl
theorem ztk (N:Nat) (v0:Val Y42):qf tt Γ6 (T6 N) (Tryz.f6.body.getD .skip) (qm tt true [i4] [.tmp 2]) (qp [i42] 96 (v0,()))=m6 N v0:=by
 rw [m6];unfold Tryz.f6
 simp (maxSteps:=10000000) -implicitDefEqProofs [zch,tr6,zuB,lp6,zfZ,ex6,zma,rg6,zbR,jn6,zgf,zzl,znq,qLw,qaa,zfE,qcm,ze6,zla,zmU,zcl,zwI,zf9,g30,g33,g36,g40,g41,g43]
 try rfl
def q8c (_:Val Y42):Bool:=true
def q95 (x0:Val Y42):Prop:=Sms [i42] (x0,())
def g6:G:={ps:=[i42],rs:=[i4],dp:=true,pre:=fun x=>q95 x.1,fn:=fun x=>(q8c x.1,())}
theorem e6 (x:Val Y42) (h:q95 x): ∃N,m6 N x=some (q8c x,()):=⟨0,by
 rw [m6,qe (show qby x 1048576 from ⟨h.1,by omega,by omega⟩)]
 by_cases c:qaT x 1048576<0
 ·rw [qj c];rfl
 rw [qi c]
 have hsz:0≤szV Y42 x 1048576:=by have: ¬szV Y42 x 1048576<0:=c;omega
 have hle:szV Y42 x 1048576≤1048576:=(qb4 Y42 x 1048576 (by omega)).1
 have hb:Bd Y42 x:=qdn Y42 x 1048576 (by omega) (by omega) hsz
 have hcx:=qhA Y50 x 1048576 rfl (by omega) hsz
 have hcx':(qR Y50 x:Int)≤67108864:=by have:0≤szV Y50 x 1048576:=hsz;omega
 have hk1:qM x 1=1+qR Y50 x:=qcD Y50 x 1 (by omega) (by omega)
 have eX:((((qd x).1:Int),((qd x).2:List (Val Y33))):Val Y50)=qd x:=rfl
 rw [eX]
 have hpc:=q0p (qd x)
 have hpre:qia (qd x):=qfo hb
 generalize qF (qd x)=p at hpc ⊢
 obtain ⟨p,b⟩:=p
 obtain ⟨hpb,hpn⟩:=qm1 (r:=p) hpc
 have hK1:qM p 1=1+qR Y50 p:=qcD Y50 p 1 (by omega) (by omega)
 have hv1:qap (((p.1:Int),((qG p 1).2:List (Val Y33))):Val Y50) 1=qM p 1:=congrArg Prod.snd (qcQ Y50 p 1)
 have hh1:qbg (((p.1:Int),((qG p 1).2:List (Val Y33))):Val Y50) 1:=⟨congrArg Prod.fst (qcQ Y50 p 1),qh7 _ _ _ hpb,by omega,by
  have:qR Y50 (qG p 1)=qR Y50 p:=qiF _ _ _
  have e:qR Y50 (((p.1:Int),((qG p 1).2:List (Val Y33))):Val Y50)=qR Y50 (qG p 1):=rfl
  omega⟩
 have rf: ∀z:Val Y50,qaf z z=true:=fun z=>qdW _ _
 have ep:q5 p p:=hpb
 have tx:q9 x:=hb
 have exx:q5 (qd x) (qd x):=hb
 have m1:qaP (qd x) 1:=⟨hb,by omega⟩
 have e1:qM (qd x) 1=qM x 1:=rfl
 have m3:qaP p 1:=⟨hpb,by omega⟩
 have n1: ¬qM (qd x) 1<0:=by omega
 have n2: ¬qM p 1<0:=by omega
 dsimp only
 simp only [hv1,qe tx,qe hpre,qe ep,qe exx,qe m1,qe m3,qe hh1,rf,decide_eq_false n1,decide_eq_false n2,Bool.not_true,cond_false,beq_self_eq_true,decide_true]
 rfl⟩
theorem s6:Sound Tryz.prog 6 g6:=qr (tt:=tt) (Γ:=Γ6) hT (qg s30 (qg s33 (qg s36 (qg s40 (qg s41 (qg s43 qn)))))) hm (fn:=Tryz.f6) Tryz.func6 (c:=Tryz.f6.body.getD .skip) (by kernel_rfl) (by kernel_rfl) fun x hx=>by
 obtain ⟨N,h⟩:=e6 x.1 hx
 exact ⟨T6 N,p6,qhH (qnj qwb qg8) qgU,tb6 N,(ztk N x.1).trans h⟩
end Go.T
