/- The law of BorderOf. -/
import Derived.Test.YthefcjjgchekiaaGreatF3
import Derived.Test.YthefcjjgchekiaaGreatF2
import Derived.Test.YthefcjjgchekiaaGreatE23
set_option linter.unusedSimpArgs false
set_option linter.unusedVariables false
namespace Go.T
open Go Go.Proofs
set_option maxHeartbeats 4000000
set_option maxRecDepth 100000
noncomputable def m15 (N:Nat) (v0:Val Y42):Option (qc [i4]):=chk (qby v0 (1048576:Int)) (bif (decide (((qaT v0 (1048576:Int)):Int)<(0:Int)))then (some (true,()))else (chk (q9 v0) (chk (qEF (((qd v0).1:Int),((qd v0).2:List (Val Y33)))) (chk (q9 v0) (chk (q5 ((qah (((qd v0).1:Int),((qd v0).2:List (Val Y33)))).1) ((qah (((qd v0).1:Int),((qd v0).2:List (Val Y33)))).1)) (bif (!((qaf ((qah (((qd v0).1:Int),((qd v0).2:List (Val Y33)))).1) ((qah (((qd v0).1:Int),((qd v0).2:List (Val Y33)))).1)):Bool))then (some (false,()))else (bif (!(((qah (((qd v0).1:Int),((qd v0).2:List (Val Y33)))).2:Bool)==((qah (((qd v0).1:Int),((qd v0).2:List (Val Y33)))).2:Bool)))then (some (false,()))else (chk (q9 v0) (chk (q5 (((qd v0).1:Int),((qd v0).2:List (Val Y33))) (((qd v0).1:Int),((qd v0).2:List (Val Y33)))) (bif (!((qaf (((qd v0).1:Int),((qd v0).2:List (Val Y33))) (((qd v0).1:Int),((qd v0).2:List (Val Y33)))):Bool))then (some (false,()))else (chk (qaP (((qd v0).1:Int),((qd v0).2:List (Val Y33))) (1:Int)) (bif (decide ((qM (((qd v0).1:Int),((qd v0).2:List (Val Y33))) (1:Int))<(0:Int)))then (some (false,()))else (chk (q5 ((qah (((qd v0).1:Int),((qd v0).2:List (Val Y33)))).1) ((qah (((qd v0).1:Int),((qd v0).2:List (Val Y33)))).1)) (bif (!((qaf ((qah (((qd v0).1:Int),((qd v0).2:List (Val Y33)))).1) ((qah (((qd v0).1:Int),((qd v0).2:List (Val Y33)))).1)):Bool))then (some (false,()))else (bif (!(((qah (((qd v0).1:Int),((qd v0).2:List (Val Y33)))).2:Bool)==((qah (((qd v0).1:Int),((qd v0).2:List (Val Y33)))).2:Bool)))then (some (false,()))else (chk (qaP ((qah (((qd v0).1:Int),((qd v0).2:List (Val Y33)))).1) (1:Int)) (chk (qbg ((((qah (((qd v0).1:Int),((qd v0).2:List (Val Y33)))).1).1:Int),((qG ((qah (((qd v0).1:Int),((qd v0).2:List (Val Y33)))).1) (1:Int)).2:List (Val Y33))) (1:Int)) (bif (decide (((qap ((((qah (((qd v0).1:Int),((qd v0).2:List (Val Y33)))).1).1:Int),((qG ((qah (((qd v0).1:Int),((qd v0).2:List (Val Y33)))).1) (1:Int)).2:List (Val Y33))) (1:Int)):Int)<(0:Int)))then (some (false,()))else (bif (!(decide (((qap ((((qah (((qd v0).1:Int),((qd v0).2:List (Val Y33)))).1).1:Int),((qG ((qah (((qd v0).1:Int),((qd v0).2:List (Val Y33)))).1) (1:Int)).2:List (Val Y33))) (1:Int)):Int)=(qM ((qah (((qd v0).1:Int),((qd v0).2:List (Val Y33)))).1) (1:Int)))))then (some (false,()))else (chk (q9 v0) (chk (q5 ((qah (((qd v0).1:Int),((qd v0).2:List (Val Y33)))).1) ((qah (((qd v0).1:Int),((qd v0).2:List (Val Y33)))).1)) (bif (!((qaf ((qah (((qd v0).1:Int),((qd v0).2:List (Val Y33)))).1) ((qah (((qd v0).1:Int),((qd v0).2:List (Val Y33)))).1)):Bool))then (some (false,()))else (bif (!(((qah (((qd v0).1:Int),((qd v0).2:List (Val Y33)))).2:Bool)==((qah (((qd v0).1:Int),((qd v0).2:List (Val Y33)))).2:Bool)))then (some (false,()))else (chk (qbg ((((qah (((qd v0).1:Int),((qd v0).2:List (Val Y33)))).1).1:Int),((qG ((qah (((qd v0).1:Int),((qd v0).2:List (Val Y33)))).1) (1:Int)).2:List (Val Y33))) (1:Int)) (bif (decide (((qap ((((qah (((qd v0).1:Int),((qd v0).2:List (Val Y33)))).1).1:Int),((qG ((qah (((qd v0).1:Int),((qd v0).2:List (Val Y33)))).1) (1:Int)).2:List (Val Y33))) (1:Int)):Int)<(0:Int)))then (some (false,()))else (bif (!(decide (((qap ((((qah (((qd v0).1:Int),((qd v0).2:List (Val Y33)))).1).1:Int),((qG ((qah (((qd v0).1:Int),((qd v0).2:List (Val Y33)))).1) (1:Int)).2:List (Val Y33))) (1:Int)):Int)=(qM ((qah (((qd v0).1:Int),((qd v0).2:List (Val Y33)))).1) (1:Int)))))then (some (false,()))else (some (true,()))))))))))))))))))))))))))))
def Γ15:Gam:=[(30,g30),(33,g33),(36,g36),(43,g43),(66,g66),(67,g67)]
theorem zes:Gam.get Γ15 30=some g30:=rfl
theorem zmi:Gam.get Γ15 33=some g33:=rfl
theorem zfc:Gam.get Γ15 36=some g36:=rfl
theorem zrp:Gam.get Γ15 43=some g43:=rfl
theorem zbY:Gam.get Γ15 66=some g66:=rfl
theorem zhb:Gam.get Γ15 67=some g67:=rfl
theorem zpa:Gam.get Γ15 42=none:=rfl
def qM8:Sem:=qew [(42,qcm)] []
def qD2:Nat→Tree:=fun i=>if i=10 then .quiet 1 (.alt 0 (.alt 2 (.alt 3 (.quiet 4 .done) .stop) .stop) (.alt 2 (.quiet 0 (.alt 3 (.quiet 4 .done) .stop)) .stop))else .done
def qQM:Nat→Nm:=fun _=>⟨[],[],false⟩
def qSq:Nat→Option Jn:=fun _=>none
def qLd:Nat→Option Nm:=fun _=>none
def qLl:Nat→Option Nm:=fun _=>none
theorem p15:qh qD2 (Tryz.f15.body.getD .skip)=true:=by kernel_rfl
def T15 (N:Nat):Tab:={tr:=qD2,lp:=qQM,ex:=qLd,rg:=qLl,jn:=qSq,fuel:=N,sem:=qM8}
theorem zx1 (N:Nat):(T15 N).pins=false:=rfl
theorem ziW (N:Nat):qk Tryz.prog (T15 N):=qo fun _=>rfl
theorem zgd (N:Nat):(T15 N).sem=qM8:=rfl
theorem zyP (N:Nat) (i:Nat):(T15 N).tr i=qD2 i:=rfl
theorem zxA (N:Nat) (i:Nat):(T15 N).lp i=qQM i:=rfl
theorem zmb (N:Nat) (i:Nat):(T15 N).ex i=qLd i:=rfl
theorem zsG (N:Nat) (i:Nat):(T15 N).rg i=qLl i:=rfl
theorem zsK (N:Nat) (i:Nat):(T15 N).jn i=qSq i:=rfl
theorem zuj (N:Nat):(T15 N).fuel=N:=rfl
theorem zdO (N:Nat) (v0:Val Y42):qf tt Γ15 (T15 N) (Tryz.f15.body.getD .skip) (qm tt true [i4] [.tmp 2]) (qp [i42] 96 (v0,()))=m15 N v0:=by
 rw [m15];unfold Tryz.f15
 simp (maxSteps:=10000000) -implicitDefEqProofs [zyP,qD2,zxA,qQM,zmb,qLd,zsG,qLl,zsK,qSq,zuj,zx1,zgd,qM8,qaa,zpa,qcm,zes,zmi,zfc,zrp,zbY,zhb,g30,g33,g36,g43,g66,g67]
 try rfl
def q7S (_:Val Y42):Bool:=true
def q7G (x0:Val Y42):Prop:=Sms [i42] (x0,())
def g15:G:={ps:=[i42],rs:=[i4],dp:=true,pre:=fun x=>q7G x.1,fn:=fun x=>(q7S x.1,())}
theorem e15 (x:Val Y42) (h:q7G x): ∃N,m15 N x=some (q7S x,()):=⟨0,by
 rw [m15,qe (show qby x 1048576 from ⟨h.1,by omega,by omega⟩)]
 by_cases c:qaT x 1048576<0
 ·rw [qj c];rfl
 rw [qi c]
 have hsz:0≤szV Y42 x 1048576:=by have: ¬szV Y42 x 1048576<0:=c;omega
 have hle:szV Y42 x 1048576≤1048576:=(qb4 Y42 x 1048576 (by omega)).1
 have hb:Bd Y42 x:=qdn Y42 x 1048576 (by omega) (by omega) hsz
 have hcx:=qhA Y50 x 1048576 rfl (by omega) hsz
 have hcx':(qR Y50 x:Int)≤67108864:=by have:0≤szV Y50 x 1048576:=hsz;omega
 have hk1:qM x 1=1+qR Y50 x:=qcD Y50 x 1 (by omega) (by omega)
 have eX:((((qd x).1:Int),((qd x).2:List (Val Y33))):Val Y50)=qd x:=rfl
 rw [eX]
 have hpc:=zua (qd x)
 have hpre:qEF (qd x):=qfo hb
 generalize qah (qd x)=p at hpc ⊢
 obtain ⟨p,b⟩:=p
 obtain ⟨hpb,hpn⟩:=qm1 (r:=p) hpc
 have hK1:qM p 1=1+qR Y50 p:=qcD Y50 p 1 (by omega) (by omega)
 have hv1:qap (((p.1:Int),((qG p 1).2:List (Val Y33))):Val Y50) 1=qM p 1:=congrArg Prod.snd (qcQ Y50 p 1)
 have hh1:qbg (((p.1:Int),((qG p 1).2:List (Val Y33))):Val Y50) 1:=⟨congrArg Prod.fst (qcQ Y50 p 1),qh7 _ _ _ hpb,by omega,by
  have:qR Y50 (qG p 1)=qR Y50 p:=qiF _ _ _
  have e:qR Y50 (((p.1:Int),((qG p 1).2:List (Val Y33))):Val Y50)=qR Y50 (qG p 1):=rfl
  omega⟩
 have rf: ∀z:Val Y50,qaf z z=true:=fun z=>qdW _ _
 have ep:q5 p p:=hpb
 have tx:q9 x:=hb
 have exx:q5 (qd x) (qd x):=hb
 have m1:qaP (qd x) 1:=⟨hb,by omega⟩
 have e1:qM (qd x) 1=qM x 1:=rfl
 have m3:qaP p 1:=⟨hpb,by omega⟩
 have n1: ¬qM (qd x) 1<0:=by omega
 have n2: ¬qM p 1<0:=by omega
 dsimp only
 simp only [hv1,qe tx,qe hpre,qe ep,qe exx,qe m1,qe m3,qe hh1,rf,decide_eq_false n1,decide_eq_false n2,Bool.not_true,cond_false,beq_self_eq_true,decide_true]
 rfl⟩
theorem s15:Sound Tryz.prog 15 g15:=qr (tt:=tt) (Γ:=Γ15) hT (qg s30 (qg s33 (qg s36 (qg s43 (qg s66 (qg s67 qn)))))) hm (fn:=Tryz.f15) Tryz.func15 (c:=Tryz.f15.body.getD .skip) (by kernel_rfl) (by kernel_rfl) fun x hx=>by
 obtain ⟨N,h⟩:=e15 x.1 hx
 exact ⟨T15 N,p15,qhH (qnj qwb qg8) qgU,ziW N,(zdO N x.1).trans h⟩
end Go.T
