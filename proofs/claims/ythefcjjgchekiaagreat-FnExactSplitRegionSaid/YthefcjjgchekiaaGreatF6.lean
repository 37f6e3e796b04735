/- The law of SplitRegion. -/
import Derived.Test.YthefcjjgchekiaaGreatF4
import Derived.Test.YthefcjjgchekiaaGreatE16
set_option linter.unusedSimpArgs false
set_option linter.unusedVariables false
namespace Go.T
open Go Go.Proofs
set_option maxHeartbeats 4000000
set_option maxRecDepth 100000
noncomputable def m12 (N:Nat) (v0:Val Y42):Option (qc [i4]):=chk (qby v0 (1048576:Int)) (bif (decide (((qaT v0 (1048576:Int)):Int)<(0:Int)))then (some (true,()))else (chk (q9 v0) (chk (qoh (((qd v0).1:Int),((qd v0).2:List (Val Y33)))) (chk (q9 v0) (chk (q5 ((qX (((qd v0).1:Int),((qd v0).2:List (Val Y33)))).1) ((qX (((qd v0).1:Int),((qd v0).2:List (Val Y33)))).1)) (bif (!((qaf ((qX (((qd v0).1:Int),((qd v0).2:List (Val Y33)))).1) ((qX (((qd v0).1:Int),((qd v0).2:List (Val Y33)))).1)):Bool))then (some (false,()))else (bif (!(((qX (((qd v0).1:Int),((qd v0).2:List (Val Y33)))).2:Bool)==((qX (((qd v0).1:Int),((qd v0).2:List (Val Y33)))).2:Bool)))then (some (false,()))else (chk (q9 v0) (chk (q5 (((qd v0).1:Int),((qd v0).2:List (Val Y33))) (((qd v0).1:Int),((qd v0).2:List (Val Y33)))) (bif (!((qaf (((qd v0).1:Int),((qd v0).2:List (Val Y33))) (((qd v0).1:Int),((qd v0).2:List (Val Y33)))):Bool))then (some (false,()))else (chk (qaP (((qd v0).1:Int),((qd v0).2:List (Val Y33))) (1:Int)) (bif (decide ((qM (((qd v0).1:Int),((qd v0).2:List (Val Y33))) (1:Int))<(0:Int)))then (some (false,()))else (chk (q5 ((qX (((qd v0).1:Int),((qd v0).2:List (Val Y33)))).1) ((qX (((qd v0).1:Int),((qd v0).2:List (Val Y33)))).1)) (bif (!((qaf ((qX (((qd v0).1:Int),((qd v0).2:List (Val Y33)))).1) ((qX (((qd v0).1:Int),((qd v0).2:List (Val Y33)))).1)):Bool))then (some (false,()))else (bif (!(((qX (((qd v0).1:Int),((qd v0).2:List (Val Y33)))).2:Bool)==((qX (((qd v0).1:Int),((qd v0).2:List (Val Y33)))).2:Bool)))then (some (false,()))else (chk (qaP ((qX (((qd v0).1:Int),((qd v0).2:List (Val Y33)))).1) (1:Int)) (chk (qbg ((((qX (((qd v0).1:Int),((qd v0).2:List (Val Y33)))).1).1:Int),((qG ((qX (((qd v0).1:Int),((qd v0).2:List (Val Y33)))).1) (1:Int)).2:List (Val Y33))) (1:Int)) (bif (decide (((qap ((((qX (((qd v0).1:Int),((qd v0).2:List (Val Y33)))).1).1:Int),((qG ((qX (((qd v0).1:Int),((qd v0).2:List (Val Y33)))).1) (1:Int)).2:List (Val Y33))) (1:Int)):Int)<(0:Int)))then (some (false,()))else (bif (!(decide (((qap ((((qX (((qd v0).1:Int),((qd v0).2:List (Val Y33)))).1).1:Int),((qG ((qX (((qd v0).1:Int),((qd v0).2:List (Val Y33)))).1) (1:Int)).2:List (Val Y33))) (1:Int)):Int)=(qM ((qX (((qd v0).1:Int),((qd v0).2:List (Val Y33)))).1) (1:Int)))))then (some (false,()))else (chk (q9 v0) (chk (q5 ((qX (((qd v0).1:Int),((qd v0).2:List (Val Y33)))).1) ((qX (((qd v0).1:Int),((qd v0).2:List (Val Y33)))).1)) (bif (!((qaf ((qX (((qd v0).1:Int),((qd v0).2:List (Val Y33)))).1) ((qX (((qd v0).1:Int),((qd v0).2:List (Val Y33)))).1)):Bool))then (some (false,()))else (bif (!(((qX (((qd v0).1:Int),((qd v0).2:List (Val Y33)))).2:Bool)==((qX (((qd v0).1:Int),((qd v0).2:List (Val Y33)))).2:Bool)))then (some (false,()))else (chk (qbg ((((qX (((qd v0).1:Int),((qd v0).2:List (Val Y33)))).1).1:Int),((qG ((qX (((qd v0).1:Int),((qd v0).2:List (Val Y33)))).1) (1:Int)).2:List (Val Y33))) (1:Int)) (bif (decide (((qap ((((qX (((qd v0).1:Int),((qd v0).2:List (Val Y33)))).1).1:Int),((qG ((qX (((qd v0).1:Int),((qd v0).2:List (Val Y33)))).1) (1:Int)).2:List (Val Y33))) (1:Int)):Int)<(0:Int)))then (some (false,()))else (bif (!(decide (((qap ((((qX (((qd v0).1:Int),((qd v0).2:List (Val Y33)))).1).1:Int),((qG ((qX (((qd v0).1:Int),((qd v0).2:List (Val Y33)))).1) (1:Int)).2:List (Val Y33))) (1:Int)):Int)=(qM ((qX (((qd v0).1:Int),((qd v0).2:List (Val Y33)))).1) (1:Int)))))then (some (false,()))else (some (true,()))))))))))))))))))))))))))))
def Γ12:Gam:=[(30,g30),(33,g33),(36,g36),(43,g43),(57,g57),(58,g58)]
theorem zuU:Gam.get Γ12 30=some g30:=rfl
theorem zje:Gam.get Γ12 33=some g33:=rfl
theorem zx2:Gam.get Γ12 36=some g36:=rfl
theorem zcv:Gam.get Γ12 43=some g43:=rfl
theorem zpY:Gam.get Γ12 57=some g57:=rfl
theorem zlv:Gam.get Γ12 58=some g58:=rfl
theorem zpP:Gam.get Γ12 42=none:=rfl
def qOa:Sem:=qew [(42,qcm)] []
def qC9:Nat→Tree:=fun i=>if i=10 then .quiet 1 (.alt 0 (.alt 2 (.alt 3 (.quiet 4 .done) .stop) .stop) (.alt 2 (.quiet 0 (.alt 3 (.quiet 4 .done) .stop)) .stop))else .done
def qN1:Nat→Nm:=fun _=>⟨[],[],false⟩
def qTw:Nat→Option Jn:=fun _=>none
def qLa:Nat→Option Nm:=fun _=>none
def qKR:Nat→Option Nm:=fun _=>none
theorem p12:qh qC9 (Tryz.f12.body.getD .skip)=true:=by kernel_rfl
def T12 (N:Nat):Tab:={tr:=qC9,lp:=qN1,ex:=qLa,rg:=qKR,jn:=qTw,fuel:=N,sem:=qOa}
theorem zwz (N:Nat):(T12 N).pins=false:=rfl
theorem zxi (N:Nat):qk Tryz.prog (T12 N):=qo fun _=>rfl
theorem zkc (N:Nat):(T12 N).sem=qOa:=rfl
theorem zr0 (N:Nat) (i:Nat):(T12 N).tr i=qC9 i:=rfl
theorem zl8 (N:Nat) (i:Nat):(T12 N).lp i=qN1 i:=rfl
theorem znK (N:Nat) (i:Nat):(T12 N).ex i=qLa i:=rfl
theorem zyy (N:Nat) (i:Nat):(T12 N).rg i=qKR i:=rfl
theorem zbj (N:Nat) (i:Nat):(T12 N).jn i=qTw i:=rfl
theorem zwD (N:Nat):(T12 N).fuel=N:=rfl
theorem zxP (N:Nat) (v0:Val Y42):qf tt Γ12 (T12 N) (Tryz.f12.body.getD .skip) (qm tt true [i4] [.tmp 2]) (qp [i42] 96 (v0,()))=m12 N v0:=by
 rw [m12];unfold Tryz.f12
 simp (maxSteps:=10000000) -implicitDefEqProofs [zr0,qC9,zl8,qN1,znK,qLa,zyy,qKR,zbj,qTw,zwD,zwz,zkc,qOa,qaa,zpP,qcm,zuU,zje,zx2,zcv,zpY,zlv,g30,g33,g36,g43,g57,g58]
 try rfl
def q76 (_:Val Y42):Bool:=true
def q7j (x0:Val Y42):Prop:=Sms [i42] (x0,())
def g12:G:={ps:=[i42],rs:=[i4],dp:=true,pre:=fun x=>q7j x.1,fn:=fun x=>(q76 x.1,())}
theorem e12 (x:Val Y42) (h:q7j x): ∃N,m12 N x=some (q76 x,()):=⟨0,by
 rw [m12,qe (show qby x 1048576 from ⟨h.1,by omega,by omega⟩)]
 by_cases c:qaT x 1048576<0
 ·rw [qj c];rfl
 rw [qi c]
 have hsz:0≤szV Y42 x 1048576:=by have: ¬szV Y42 x 1048576<0:=c;omega
 have hle:szV Y42 x 1048576≤1048576:=(qb4 Y42 x 1048576 (by omega)).1
 have hb:Bd Y42 x:=qdn Y42 x 1048576 (by omega) (by omega) hsz
 have hcx:=qhA Y50 x 1048576 rfl (by omega) hsz
 have hcx':(qR Y50 x:Int)≤67108864:=by have:0≤szV Y50 x 1048576:=hsz;omega
 have hk1:qM x 1=1+qR Y50 x:=qcD Y50 x 1 (by omega) (by omega)
 have eX:((((qd x).1:Int),((qd x).2:List (Val Y33))):Val Y50)=qd x:=rfl
 rw [eX]
 have hpc:=qSR (qd x)
 have hpre:qoh (qd x):=qfo hb
 generalize qX (qd x)=p at hpc ⊢
 obtain ⟨p,b⟩:=p
 obtain ⟨hpb,hpn⟩:=qm1 (r:=p) hpc
 have hK1:qM p 1=1+qR Y50 p:=qcD Y50 p 1 (by omega) (by omega)
 have hv1:qap (((p.1:Int),((qG p 1).2:List (Val Y33))):Val Y50) 1=qM p 1:=congrArg Prod.snd (qcQ Y50 p 1)
 have hh1:qbg (((p.1:Int),((qG p 1).2:List (Val Y33))):Val Y50) 1:=⟨congrArg Prod.fst (qcQ Y50 p 1),qh7 _ _ _ hpb,by omega,by
  have:qR Y50 (qG p 1)=qR Y50 p:=qiF _ _ _
  have e:qR Y50 (((p.1:Int),((qG p 1).2:List (Val Y33))):Val Y50)=qR Y50 (qG p 1):=rfl
  omega⟩
 have rf: ∀z:Val Y50,qaf z z=true:=fun z=>qdW _ _
 have ep:q5 p p:=hpb
 have tx:q9 x:=hb
 have exx:q5 (qd x) (qd x):=hb
 have m1:qaP (qd x) 1:=⟨hb,by omega⟩
 have e1:qM (qd x) 1=qM x 1:=rfl
 have m3:qaP p 1:=⟨hpb,by omega⟩
 have n1: ¬qM (qd x) 1<0:=by omega
 have n2: ¬qM p 1<0:=by omega
 dsimp only
 simp only [hv1,qe tx,qe hpre,qe ep,qe exx,qe m1,qe m3,qe hh1,rf,decide_eq_false n1,decide_eq_false n2,Bool.not_true,cond_false,beq_self_eq_true,decide_true]
 rfl⟩
theorem s12:Sound Tryz.prog 12 g12:=qr (tt:=tt) (Γ:=Γ12) hT (qg s30 (qg s33 (qg s36 (qg s43 (qg s57 (qg s58 qn)))))) hm (fn:=Tryz.f12) Tryz.func12 (c:=Tryz.f12.body.getD .skip) (by kernel_rfl) (by kernel_rfl) fun x hx=>by
 obtain ⟨N,h⟩:=e12 x.1 hx
 exact ⟨T12 N,p12,qhH (qnj qwb qg8) qgU,zxi N,(zxP N x.1).trans h⟩
end Go.T
