/- The law of NegationNormal. -/
import Derived.Test.YtlhkmndfkjlodaaN5
import Derived.Test.YtlhkmndfkjlodaaM2
set_option linter.unusedSimpArgs false
set_option linter.unusedVariables false
namespace Go.T
open Go Go.Proofs
set_option maxHeartbeats 4000000
set_option maxRecDepth 100000
noncomputable def m6 (N:Nat) (v0:List (Val qD)) (v1:List (Val qC)):Option (qc [i4]):=chk (qo0 v0 (1048576:Int)) (bif (decide (((qc0 v0 (1048576:Int)):Int)<(0:Int)))then (some (true,()))else (chk (qqh v1 ((qc0 v0 (1048576:Int)):Int)) (bif (decide (((qj7 v1 ((qc0 v0 (1048576:Int)):Int)):Int)<(0:Int)))then (some (true,()))else (chk (qhD v0) (chk (qhr v1) (chk (qfN ((qK v0):List (Val qe)) ((qO v1):List (Val qa))) (chk (qhD v0) (chk (qhr v1) (chk (qfN ((qK v0):List (Val qe)) ((qO v1):List (Val qa))) (chk (qga ((nnV ((qK v0):List (Val qe)) ((qO v1):List (Val qa))).1:List (Val qa)) ((nnV ((qK v0):List (Val qe)) ((qO v1):List (Val qa))).1:List (Val qa))) (bif (!((qfH ((nnV ((qK v0):List (Val qe)) ((qO v1):List (Val qa))).1:List (Val qa)) ((nnV ((qK v0):List (Val qe)) ((qO v1):List (Val qa))).1:List (Val qa))):Bool))then (some (false,()))else (bif (!(((nnV ((qK v0):List (Val qe)) ((qO v1):List (Val qa))).2:Bool)==((nnV ((qK v0):List (Val qe)) ((qO v1):List (Val qa))).2:Bool)))then (some (false,()))else (chk (qhD v0) (chk (qrt ((qK v0):List (Val qe)) ((qK v0):List (Val qe))) (bif (!((qkv ((qK v0):List (Val qe)) ((qK v0):List (Val qe))):Bool))then (some (false,()))else (chk (qhr v1) (chk (qga ((qO v1):List (Val qa)) ((qO v1):List (Val qa))) (bif (!((qfH ((qO v1):List (Val qa)) ((qO v1):List (Val qa))):Bool))then (some (false,()))else (chk (qrF ((qK v0):List (Val qe)) (1:Int)) (chk (qi9 ((qO v1):List (Val qa)) (qfO ((qK v0):List (Val qe)) (1:Int))) (bif (decide ((qfs ((qO v1):List (Val qa)) (qfO ((qK v0):List (Val qe)) (1:Int)))<(0:Int)))then (some (false,()))else (chk (qga ((nnV ((qK v0):List (Val qe)) ((qO v1):List (Val qa))).1:List (Val qa)) ((nnV ((qK v0):List (Val qe)) ((qO v1):List (Val qa))).1:List (Val qa))) (bif (!((qfH ((nnV ((qK v0):List (Val qe)) ((qO v1):List (Val qa))).1:List (Val qa)) ((nnV ((qK v0):List (Val qe)) ((qO v1):List (Val qa))).1:List (Val qa))):Bool))then (some (false,()))else (bif (!(((nnV ((qK v0):List (Val qe)) ((qO v1):List (Val qa))).2:Bool)==((nnV ((qK v0):List (Val qe)) ((qO v1):List (Val qa))).2:Bool)))then (some (false,()))else (chk (qi9 ((nnV ((qK v0):List (Val qe)) ((qO v1):List (Val qa))).1:List (Val qa)) (1:Int)) (chk (qlK ((qc2 ((nnV ((qK v0):List (Val qe)) ((qO v1):List (Val qa))).1:List (Val qa)) (1:Int)):List (Val qa)) (1:Int)) (bif (decide (((qge ((qc2 ((nnV ((qK v0):List (Val qe)) ((qO v1):List (Val qa))).1:List (Val qa)) (1:Int)):List (Val qa)) (1:Int)):Int)<(0:Int)))then (some (false,()))else (bif (!(decide (((qge ((qc2 ((nnV ((qK v0):List (Val qe)) ((qO v1):List (Val qa))).1:List (Val qa)) (1:Int)):List (Val qa)) (1:Int)):Int)=(qfs ((nnV ((qK v0):List (Val qe)) ((qO v1):List (Val qa))).1:List (Val qa)) (1:Int)))))then (some (false,()))else (chk (qhD v0) (chk (qhr v1) (chk (qfN ((qK v0):List (Val qe)) ((qO v1):List (Val qa))) (chk (qga ((nnV ((qK v0):List (Val qe)) ((qO v1):List (Val qa))).1:List (Val qa)) ((nnV ((qK v0):List (Val qe)) ((qO v1):List (Val qa))).1:List (Val qa))) (bif (!((qfH ((nnV ((qK v0):List (Val qe)) ((qO v1):List (Val qa))).1:List (Val qa)) ((nnV ((qK v0):List (Val qe)) ((qO v1):List (Val qa))).1:List (Val qa))):Bool))then (some (false,()))else (bif (!(((nnV ((qK v0):List (Val qe)) ((qO v1):List (Val qa))).2:Bool)==((nnV ((qK v0):List (Val qe)) ((qO v1):List (Val qa))).2:Bool)))then (some (false,()))else (chk (qlK ((qc2 ((nnV ((qK v0):List (Val qe)) ((qO v1):List (Val qa))).1:List (Val qa)) (1:Int)):List (Val qa)) (1:Int)) (bif (decide (((qge ((qc2 ((nnV ((qK v0):List (Val qe)) ((qO v1):List (Val qa))).1:List (Val qa)) (1:Int)):List (Val qa)) (1:Int)):Int)<(0:Int)))then (some (false,()))else (bif (!(decide (((qge ((qc2 ((nnV ((qK v0):List (Val qe)) ((qO v1):List (Val qa))).1:List (Val qa)) (1:Int)):List (Val qa)) (1:Int)):Int)=(qfs ((nnV ((qK v0):List (Val qe)) ((qO v1):List (Val qa))).1:List (Val qa)) (1:Int)))))then (some (false,()))else (some (true,())))))))))))))))))))))))))))))))))))))))
def Γ6:Gam:=[(23,g23),(24,g24),(26,g26),(27,g27),(29,g29),(30,g30),(35,g35),(36,g36),(37,g37)]
theorem qTY:Gam.get Γ6 23=some g23:=rfl
theorem qQI:Gam.get Γ6 24=some g24:=rfl
theorem qMB:Gam.get Γ6 26=some g26:=rfl
theorem qXN:Gam.get Γ6 27=some g27:=rfl
theorem qUH:Gam.get Γ6 29=some g29:=rfl
theorem qMV:Gam.get Γ6 30=some g30:=rfl
theorem qQ9:Gam.get Γ6 35=some g35:=rfl
theorem qOl:Gam.get Γ6 36=some g36:=rfl
theorem qSD:Gam.get Γ6 37=some g37:=rfl
theorem qXA:Gam.get Γ6 31=none:=rfl
theorem qTL:Gam.get Γ6 32=none:=rfl
def qDT:Sem:=qfX [(31,qtw.gm),(32,qE6.gm)] []
def tr6:Nat→Tree:=fun _=> .done
def lp6:Nat→Nm:=fun _=>⟨[],[],false⟩
def jn6:Nat→Option Jn:=fun _=>none
def ex6:Nat→Option Nm:=fun _=>none
def rg6:Nat→Option Nm:=fun _=>none
theorem p6:qm tr6 (Try.f6.body.getD .skip)=true:=by kernel_rfl
def T6 (N:Nat):Tab:={tr:=tr6,lp:=lp6,ex:=ex6,rg:=rg6,jn:=jn6,fuel:=N,sem:=qDT}
theorem qQr (N:Nat):(T6 N).pins=false:=rfl
theorem tb6 (N:Nat):qn Try.prog (T6 N):=qt fun _=>rfl
theorem qLc (N:Nat):(T6 N).sem=qDT:=rfl
theorem qW6 (N:Nat) (i:Nat):(T6 N).tr i=tr6 i:=rfl
theorem qVC (N:Nat) (i:Nat):(T6 N).lp i=lp6 i:=rfl
theorem qRa (N:Nat) (i:Nat):(T6 N).ex i=ex6 i:=rfl
theorem qLv (N:Nat) (i:Nat):(T6 N).rg i=rg6 i:=rfl
theorem qUD (N:Nat) (i:Nat):(T6 N).jn i=jn6 i:=rfl
theorem qU1 (N:Nat):(T6 N).fuel=N:=rfl
theorem qSi (N:Nat) (v0:List (Val qD)) (v1:List (Val qC)):qf tt Γ6 (T6 N) (Try.f6.body.getD .skip) (qo tt true [i4] [.tmp 4]) (qv [i57,i58] 119 (v0,v1,()))=m6 N v0 v1:=by
 rw [m6];unfold Try.f6
 simp (maxSteps:=10000000) -implicitDefEqProofs [qW6,tr6,qVC,lp6,qRa,ex6,qLv,rg6,qUD,jn6,qU1,qQr,qLc,qDT,qae,qXA,qTL,qtw,qE6,qTY,qQI,qMB,qXN,qUH,qMV,qQ9,qOl,qSD,g23,g24,g26,g27,g29,g30,g35,g36,g37]
 try rfl
def qJF (_:List (Val qD)) (_:List (Val qC)):Bool:=true
def qJy (x0:List (Val qD)) (x1:List (Val qC)):Prop:=Sms [i57,i58] (x0,x1,())
def g6:G:={ps:=[i57,i58],rs:=[i4],dp:=true,pre:=fun x=>qJy x.1 x.2.1,fn:=fun x=>(qJF x.1 x.2.1,())}
theorem qN8 {db:List (Val qe)} {f:List Nd} (h:qfN db f):Bd (.slice 120 qa) (nnV db f).1∧List.length (α:=Nd) (nnV db f).1≤8192:=by
 unfold nnV
 cases hf:qb4 db f with
 | false=>exact ⟨⟨Nat.zero_le _,fun n hn=>by simp at hn⟩,Nat.zero_le _⟩
 | true=>
   cases hg:qb4 db (qq f (f.length - 1) false)with
   | false=>exact ⟨⟨Nat.zero_le _,fun n hn=>by simp at hn⟩,Nat.zero_le _⟩
   | true=>
     obtain ⟨ho,h1⟩:=qFH h hf
     have hl:=ho.1.1
     obtain ⟨g,g8⟩:=qgL ho (i:=(f.length:Int) - 1) false (by omega) (by omega)
     exact ⟨qFd ho (by omega) (by omega),by have:=g.2.1;show (qq f ((f.length:Int) - 1) false).length≤8192;omega⟩
theorem qNK {l:List Nd} (hb:Bd (.slice 120 qa) l) (hl:l.length≤8192):qat (.slice 120 qa) l≤24576000000:=by
 have e:qat (.slice 120 qa) l=qaG (qad qa) l:=rfl
 have:=qIM (f:=qad qa) (c:=3000000) l fun n hn=>by
  have hn:=hb.2 n hn
  obtain ⟨K,a,nm,lb,vs,vr,A,B⟩:=n
  have e:qad qa ((K,a,nm,lb,vs,vr,A,B):Nd)=1+((qaG (qad (.int .i64)) a.1+(1+1))+(1+(1+(qaG (qad (.int .i64)) vs+(1+(1+1)))))):=rfl
  have h1:List.length (α:=Int) a.1≤1048576:=hn.2.1.1.1
  have h2:List.length (α:=Int) vs≤1048576:=hn.2.2.2.2.1.1
  rw [e,qD8,qD8]
  omega
 rw [e]
 have:l.length*3000000≤8192*3000000:=Nat.mul_le_mul_right _ hl
 omega
theorem e6 (x:List (Val qD)) (y:List (Val qC)) (h:qJy x y): ∃N,m6 N x y=some (qJF x y,()):=⟨0,by
 rw [m6,qd (show qo0 x 1048576 from ⟨h.1,by omega,by omega⟩)]
 by_cases c:qc0 x 1048576<0
 ·rw [qj c];rfl
 rw [qh c]
 have hx:0≤szV (.slice 111 qD) x 1048576:=by have: ¬szV (.slice 111 qD) x 1048576<0:=c;omega
 have hb:Bd (.slice 111 qD) x:=qnA (.slice 111 qD) x 1048576 (by omega) (by omega) hx
 have hle:szV (.slice 111 qD) x 1048576≤1048576:=(qcz (.slice 111 qD) x 1048576 (by omega)).1
 have hle':qc0 x 1048576≤1048576:=hle
 rw [qd (show qqh y (qc0 x 1048576) from ⟨h.2.1,by omega,by omega⟩)]
 by_cases d:qj7 y (qc0 x 1048576)<0
 ·rw [qj d];rfl
 rw [qh d]
 have hy:0≤szV (.slice 115 qC) y (qc0 x 1048576):=by have: ¬szV (.slice 115 qC) y (qc0 x 1048576)<0:=d;omega
 have hc:Bd (.slice 115 qC) y:=qnA (.slice 115 qC) y (qc0 x 1048576) (by omega) (by omega) hy
 have cx:=qsT (.slice 111 qD) x 1048576 rfl (by omega) hx
 have cy:=qsT (.slice 115 qC) y (qc0 x 1048576) rfl (by omega) hy
 have k1:qfO (qK x) 1=1+qat (.slice 111 qD) x:=qkq (.slice 111 qD) x 1 (by omega) (by omega)
 have k2:qfs (qO y) (qfO (qK x) 1)=qfO (qK x) 1+qat (.slice 115 qC) y:=qkq (.slice 115 qC) y _ (by omega) (by omega)
 have t1:qhD x:=hb
 have t2:qhr y:=hc
 have f1:qfN (qK x) (qO y):=⟨hb,hc⟩
 have q1:qrt (qK x) (qK x):=hb
 have q2:qga (qO y) (qO y):=hc
 have r1:qkv (qK x) (qK x)=true:=qik _ _
 have r2:qfH (qO y) (qO y)=true:=qik _ _
 have m1:qrF (qK x) 1:=⟨hb,by omega⟩
 have m2:qi9 (qO y) (qfO (qK x) 1):=⟨hc,by omega⟩
 have n2: ¬qfs (qO y) (qfO (qK x) 1)<0:=by omega
 obtain ⟨bz,hl⟩:=qN8 f1
 generalize hz:(nnV (qK x) (qO y)).1=z at bz hl ⊢
 have cz:=qNK bz hl
 have k3:qfs z 1=1+qat (.slice 120 qa) z:=qkq (.slice 120 qa) z 1 (by omega) (by omega)
 have ez:qga z z:=bz
 have rz:qfH z z=true:=qik _ _
 have m3:qi9 z 1:=⟨bz,by omega⟩
 have hh:qlK (qc2 z 1) 1:=⟨congrArg Prod.fst (qsE (.slice 120 qa) z 1),qBl _ _ _ bz,by omega,by
  have:qat (.slice 120 qa) (qc2 z 1)=qat (.slice 120 qa) z:=qzE _ _ _
  omega⟩
 have hv:qge (qc2 z 1) 1=qfs z 1:=congrArg Prod.snd (qsE (.slice 120 qa) z 1)
 have hn: ¬qge (qc2 z 1) 1<0:=by omega
 simp only [qd t1,qd t2,qd f1,qd q1,qd q2,r1,r2,qd m1,qd m2,qh n2,qd ez,rz,qd m3,qd hh,qh hn,decide_eq_true hv,Bool.not_true,cond_false,beq_self_eq_true]
 rfl⟩
theorem s6:Sound Try.prog 6 g6:=qz (tt:=tt) (Γ:=Γ6) hT (ql s23 (ql s24 (ql s26 (ql s27 (ql s29 (ql s30 (ql s35 (ql s36 (ql s37 qp))))))))) hm (fn:=Try.f6) Try.func6 (c:=Try.f6.body.getD .skip) (by kernel_rfl) (by kernel_rfl) fun x hx=>by
 obtain ⟨N,h⟩:=e6 x.1 x.2.1 hx
 exact ⟨T6 N,p6,qjA (qIn qOT.gm (qIn qQz.gm qjB)) qi1,tb6 N,(qSi N x.1 x.2.1).trans h⟩
end Go.T
