/- The law of BoxOf. -/
import Derived.Test.YthefcjjgchekiaaG1
import Derived.Test.YthefcjjgchekiaaB20
set_option linter.unusedSimpArgs false
set_option linter.unusedVariables false
namespace Go.T
open Go Go.Proofs
set_option maxHeartbeats 4000000
set_option maxRecDepth 100000
theorem qIn {l:List (Val Y66)} (h:l.length≤4):Bd (.slice 66 Y66) l∧qat (.slice 66 Y66) l≤36:=
 ⟨⟨Nat.le_trans h (by decide),fun _ _=>⟨trivial,⟨trivial,trivial⟩,trivial,trivial,⟨trivial,trivial⟩,trivial,trivial⟩⟩,by
   have:=qDT (f:=qal Y66) (c:=9) l fun _ _=>Nat.le_refl _
   show qaR (qal Y66) l≤36
   omega⟩
noncomputable def m5 (N:Nat) (v0:Val Y24):Option (qb [i4]):=chk (qoN v0 (1048576:Int)) (bif (decide (((qke v0 (1048576:Int)):Int)<(0:Int)))then (some (true,()))else (chk (qgX v0) (chk (qpf (((qn v0).1:Int),((qn v0).2:List (Val Y36)))) (chk (qgX v0) (chk (qhx ((qS (((qn v0).1:Int),((qn v0).2:List (Val Y36)))).1:List (Val Y66)) ((qS (((qn v0).1:Int),((qn v0).2:List (Val Y36)))).1:List (Val Y66))) (bif (!((qgA ((qS (((qn v0).1:Int),((qn v0).2:List (Val Y36)))).1:List (Val Y66)) ((qS (((qn v0).1:Int),((qn v0).2:List (Val Y36)))).1:List (Val Y66))):Bool))then (some (false,()))else (bif (!(((qS (((qn v0).1:Int),((qn v0).2:List (Val Y36)))).2:Bool)==((qS (((qn v0).1:Int),((qn v0).2:List (Val Y36)))).2:Bool)))then (some (false,()))else (chk (qgX v0) (chk (qnK (((qn v0).1:Int),((qn v0).2:List (Val Y36))) (((qn v0).1:Int),((qn v0).2:List (Val Y36)))) (bif (!((qnY (((qn v0).1:Int),((qn v0).2:List (Val Y36))) (((qn v0).1:Int),((qn v0).2:List (Val Y36)))):Bool))then (some (false,()))else (chk (qqh (((qn v0).1:Int),((qn v0).2:List (Val Y36))) (1:Int)) (bif (decide ((qfp (((qn v0).1:Int),((qn v0).2:List (Val Y36))) (1:Int))<(0:Int)))then (some (false,()))else (chk (qhx ((qS (((qn v0).1:Int),((qn v0).2:List (Val Y36)))).1:List (Val Y66)) ((qS (((qn v0).1:Int),((qn v0).2:List (Val Y36)))).1:List (Val Y66))) (bif (!((qgA ((qS (((qn v0).1:Int),((qn v0).2:List (Val Y36)))).1:List (Val Y66)) ((qS (((qn v0).1:Int),((qn v0).2:List (Val Y36)))).1:List (Val Y66))):Bool))then (some (false,()))else (bif (!(((qS (((qn v0).1:Int),((qn v0).2:List (Val Y36)))).2:Bool)==((qS (((qn v0).1:Int),((qn v0).2:List (Val Y36)))).2:Bool)))then (some (false,()))else (chk (qpV ((qS (((qn v0).1:Int),((qn v0).2:List (Val Y36)))).1:List (Val Y66)) (1:Int)) (chk (qll ((qc1 ((qS (((qn v0).1:Int),((qn v0).2:List (Val Y36)))).1:List (Val Y66)) (1:Int)):List (Val Y66)) (1:Int)) (bif (decide (((qgT ((qc1 ((qS (((qn v0).1:Int),((qn v0).2:List (Val Y36)))).1:List (Val Y66)) (1:Int)):List (Val Y66)) (1:Int)):Int)<(0:Int)))then (some (false,()))else (bif (!(decide (((qgT ((qc1 ((qS (((qn v0).1:Int),((qn v0).2:List (Val Y36)))).1:List (Val Y66)) (1:Int)):List (Val Y66)) (1:Int)):Int)=(qgs ((qS (((qn v0).1:Int),((qn v0).2:List (Val Y36)))).1:List (Val Y66)) (1:Int)))))then (some (false,()))else (chk (qgX v0) (chk (qhx ((qS (((qn v0).1:Int),((qn v0).2:List (Val Y36)))).1:List (Val Y66)) ((qS (((qn v0).1:Int),((qn v0).2:List (Val Y36)))).1:List (Val Y66))) (bif (!((qgA ((qS (((qn v0).1:Int),((qn v0).2:List (Val Y36)))).1:List (Val Y66)) ((qS (((qn v0).1:Int),((qn v0).2:List (Val Y36)))).1:List (Val Y66))):Bool))then (some (false,()))else (bif (!(((qS (((qn v0).1:Int),((qn v0).2:List (Val Y36)))).2:Bool)==((qS (((qn v0).1:Int),((qn v0).2:List (Val Y36)))).2:Bool)))then (some (false,()))else (chk (qll ((qc1 ((qS (((qn v0).1:Int),((qn v0).2:List (Val Y36)))).1:List (Val Y66)) (1:Int)):List (Val Y66)) (1:Int)) (bif (decide (((qgT ((qc1 ((qS (((qn v0).1:Int),((qn v0).2:List (Val Y36)))).1:List (Val Y66)) (1:Int)):List (Val Y66)) (1:Int)):Int)<(0:Int)))then (some (false,()))else (bif (!(decide (((qgT ((qc1 ((qS (((qn v0).1:Int),((qn v0).2:List (Val Y36)))).1:List (Val Y66)) (1:Int)):List (Val Y66)) (1:Int)):Int)=(qgs ((qS (((qn v0).1:Int),((qn v0).2:List (Val Y36)))).1:List (Val Y66)) (1:Int)))))then (some (false,()))else (some (true,()))))))))))))))))))))))))))))
def Γ5:Gam:=[(6,g6),(9,g9),(12,g12),(19,g19),(20,g20),(21,g21),(23,g23)]
theorem qLL:Gam.get Γ5 6=some g6:=rfl
theorem qIw:Gam.get Γ5 9=some g9:=rfl
theorem qM9:Gam.get Γ5 12=some g12:=rfl
theorem qPc:Gam.get Γ5 19=some g19:=rfl
theorem qKY:Gam.get Γ5 20=some g20:=rfl
theorem qNv:Gam.get Γ5 21=some g21:=rfl
theorem qHq:Gam.get Γ5 23=some g23:=rfl
theorem qKc:Gam.get Γ5 14=none:=rfl
theorem qMG:Gam.get Γ5 22=none:=rfl
def quD:Sem:=qe0 [(14,qrH),(22,qtS.gm)] []
def tr5:Nat→Tree:=fun i=>if i=10 then .quiet 1 (.alt 0 (.alt 2 (.alt 3 (.quiet 4 .done) .stop) .stop) (.alt 2 (.quiet 0 (.alt 3 (.quiet 4 .done) .stop)) .stop))else .done
def lp5:Nat→Nm:=fun _=>⟨[],[],false⟩
def jn5:Nat→Option Jn:=fun _=>none
def ex5:Nat→Option Nm:=fun _=>none
def rg5:Nat→Option Nm:=fun _=>none
theorem p5:ql tr5 (Try.f5.body.getD .skip)=true:=by kernel_rfl
def T5 (N:Nat):Tab:={tr:=tr5,lp:=lp5,ex:=ex5,rg:=rg5,jn:=jn5,fuel:=N,sem:=quD}
theorem qJu (N:Nat):(T5 N).pins=false:=rfl
theorem tb5 (N:Nat):qm Try.prog (T5 N):=qu fun _=>rfl
theorem qNA (N:Nat):(T5 N).sem=quD:=rfl
theorem qI1 (N:Nat) (i:Nat):(T5 N).tr i=tr5 i:=rfl
theorem qLX (N:Nat) (i:Nat):(T5 N).lp i=lp5 i:=rfl
theorem qNP (N:Nat) (i:Nat):(T5 N).ex i=ex5 i:=rfl
theorem qNH (N:Nat) (i:Nat):(T5 N).rg i=rg5 i:=rfl
theorem qMN (N:Nat) (i:Nat):(T5 N).jn i=jn5 i:=rfl
theorem qSm (N:Nat):(T5 N).fuel=N:=rfl
theorem qMY (N:Nat) (v0:Val Y24):qd tt Γ5 (T5 N) (Try.f5.body.getD .skip) (qp tt true [i4] [.tmp 2]) (qt [i24] 96 (v0,()))=m5 N v0:=by
 rw [m5];unfold Try.f5
 simp (maxSteps:=10000000) -implicitDefEqProofs [qI1,tr5,qLX,lp5,qNP,ex5,qNH,rg5,qMN,jn5,qSm,qJu,qNA,quD,qah,qKc,qMG,qrH,qtS,qLL,qIw,qM9,qPc,qKY,qNv,qHq,g6,g9,g12,g19,g20,g21,g23]
 try rfl
def qE6 (_:Val Y24):Bool:=true
def qEZ (x0:Val Y24):Prop:=Sms [i24] (x0,())
def g5:G:={ps:=[i24],rs:=[i4],dp:=true,pre:=fun x=>qEZ x.1,fn:=fun x=>(qE6 x.1,())}
theorem e5 (x:Val Y24) (h:qEZ x): ∃N,m5 N x=some (qE6 x,()):=⟨0,by
 rw [m5,qc (show qoN x 1048576 from ⟨h.1,by omega,by omega⟩)]
 by_cases c:qke x 1048576<0
 ·rw [qh c];rfl
 rw [qi c]
 have hsz:0≤szV Y24 x 1048576:=by have: ¬szV Y24 x 1048576<0:=c;omega
 have hb:Bd Y24 x:=qpJ Y24 x 1048576 (by omega) (by omega) hsz
 have hcx:=qBV Y32 x 1048576 rfl (by omega) hsz
 have hcx':(qat Y32 x:Int)≤67108864:=by have:0≤szV Y32 x 1048576:=hsz;omega
 have hk1:qfp x 1=1+qat Y32 x:=qm7 Y32 x 1 (by omega) (by omega)
 have eX:((((qn x).1:Int),((qn x).2:List (Val Y36))):Val Y32)=qn x:=rfl
 try rw [eX]
 have hpl:=(qPv (qn x)).1
 have hpre:qpf (qn x):=hb.2.1
 generalize qS (qn x)=p at hpl ⊢
 obtain ⟨p,b⟩:=p
 change p.length≤4 at hpl
 obtain ⟨hpb,hpn⟩:=qIn hpl
 have hK1:qgs p 1=1+qat (.slice 66 Y66) p:=qm7 (.slice 66 Y66) p 1 (by omega) (by omega)
 have hv1:qgT (qc1 p 1) 1=qgs p 1:=congrArg Prod.snd (qql (.slice 66 Y66) p 1)
 have hh1:qll (qc1 p 1) 1:=⟨congrArg Prod.fst (qql (.slice 66 Y66) p 1),qxZ _ _ _ hpb,by omega,by
  have:qat (.slice 66 Y66) (qc1 p 1)=qat (.slice 66 Y66) p:=qwu _ _ _
  omega⟩
 have rf: ∀z:List (Val Y66),qgA z z=true:=fun z=>qjk _ _
 have rg: ∀z:Val Y32,qnY z z=true:=fun z=>qjk _ _
 have ep:qhx p p:=hpb
 have tx:qgX x:=hb
 have exx:qnK (qn x) (qn x):=hb
 have m1:qqh (qn x) 1:=⟨hb,by omega⟩
 have e1:qfp (qn x) 1=qfp x 1:=rfl
 have m3:qpV p 1:=⟨hpb,by omega⟩
 have n1: ¬qfp (qn x) 1<0:=by omega
 have n2: ¬qgs p 1<0:=by omega
 dsimp only
 simp only [hv1,qc tx,qc hpre,qc ep,qc exx,qc m1,qc m3,qc hh1,rf,rg,decide_eq_false n1,decide_eq_false n2,Bool.not_true,cond_false,beq_self_eq_true,decide_true]
 rfl⟩
theorem s5:Sound Try.prog 5 g5:=qw (tt:=tt) (Γ:=Γ5) hT (qf s6 (qf s9 (qf s12 (qf s19 (qf s20 (qf s21 (qf s23 qq))))))) hm (fn:=Try.f5) Try.func5 (c:=Try.f5.body.getD .skip) (by kernel_rfl) (by kernel_rfl) fun x hx=>by
 obtain ⟨N,h⟩:=e5 x.1 hx
 exact ⟨T5 N,p5,ql4 (qu9 qRg (qu9 qRk.gm ql6)) qkD,tb5 N,(qMY N x.1).trans h⟩
end Go.T
