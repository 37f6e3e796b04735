/- The law of IsFormula. -/
import Derived.Test.YtkjiecjpdbpghaaA4
import Derived.Test.YtkjiecjpdbpghaaH4
import Derived.Test.YtkjiecjpdbpghaaH9
set_option linter.unusedSimpArgs false
set_option linter.unusedVariables false
namespace Go.T
open Go Go.Proofs
set_option maxHeartbeats 4000000
set_option maxRecDepth 100000
noncomputable def m9 (N:Nat) (v0:List (Val Y48)) (v1:List (Val qw)):Option (qa [i4]):=chk (qjR v0 (1048576:Int)) (bif (decide (((qb0 v0 (1048576:Int)):Int)<(0:Int)))then (some (true,()))else (chk (qkE v1 ((qb0 v0 (1048576:Int)):Int)) (bif (decide (((qga v1 ((qb0 v0 (1048576:Int)):Int)):Int)<(0:Int)))then (some (true,()))else (chk (qfK v0) (chk (qfu v1) (chk (qdV ((qaE v0):List (Val Y53)) ((qaF v1):List (Val qe))) (chk (qfK v0) (chk (qfu v1) (chk (qdV ((qaE v0):List (Val Y53)) ((qaF v1):List (Val qe))) (bif (!(((qc9 ((qaE v0):List (Val Y53)) ((qaF v1):List (Val qe))):Bool)==((qc9 ((qaE v0):List (Val Y53)) ((qaF v1):List (Val qe))):Bool)))then (some (false,()))else (chk (qfK v0) (chk (qlt ((qaE v0):List (Val Y53)) ((qaE v0):List (Val Y53))) (bif (!((qgo ((qaE v0):List (Val Y53)) ((qaE v0):List (Val Y53))):Bool))then (some (false,()))else (chk (qfu v1) (chk (qkN ((qaF v1):List (Val qe)) ((qaF v1):List (Val qe))) (bif (!((qhJ ((qaF v1):List (Val qe)) ((qaF v1):List (Val qe))):Bool))then (some (false,()))else (some (true,()))))))))))))))))))
def Γ9:Gam:=[(13,g13),(15,g15),(17,g17),(45,g45),(46,g46),(47,g47),(48,g48),(49,g49)]
theorem qAI:Gam.get Γ9 13=some g13:=rfl
theorem qAA:Gam.get Γ9 15=some g15:=rfl
theorem qGw:Gam.get Γ9 17=some g17:=rfl
theorem qFs:Gam.get Γ9 45=some g45:=rfl
theorem qJw:Gam.get Γ9 46=some g46:=rfl
theorem qEO:Gam.get Γ9 47=some g47:=rfl
theorem qFx:Gam.get Γ9 48=some g48:=rfl
theorem qCv:Gam.get Γ9 49=some g49:=rfl
def tr9:Nat→Tree:=fun _=> .done
def lp9:Nat→Nm:=fun _=>⟨[],[],false⟩
def jn9:Nat→Option Jn:=fun _=>none
def ex9:Nat→Option Nm:=fun _=>none
def rg9:Nat→Option Nm:=fun _=>none
theorem p9:qm tr9 (Try.f9.body.getD .skip)=true:=by kernel_rfl
def T9 (N:Nat):Tab:={tr:=tr9,lp:=lp9,ex:=ex9,rg:=rg9,jn:=jn9,fuel:=N}
theorem qGi (N:Nat):(T9 N).pins=false:=rfl
theorem tb9 (N:Nat):qp Try.prog (T9 N):=qv fun _=>rfl
theorem qHd (N:Nat) (i:Nat):(T9 N).tr i=tr9 i:=rfl
theorem qDE (N:Nat) (i:Nat):(T9 N).lp i=lp9 i:=rfl
theorem qAB (N:Nat) (i:Nat):(T9 N).ex i=ex9 i:=rfl
theorem qBl (N:Nat) (i:Nat):(T9 N).rg i=rg9 i:=rfl
theorem qIV (N:Nat) (i:Nat):(T9 N).jn i=jn9 i:=rfl
theorem qID (N:Nat):(T9 N).fuel=N:=rfl
theorem qGO (N:Nat) (v0:List (Val Y48)) (v1:List (Val qw)):qc tt Γ9 (T9 N) (Try.f9.body.getD .skip) (qn tt true [i4] [.tmp 4]) (qq [i22,i78] 45 (v0,v1,()))=m9 N v0 v1:=by
 rw [m9];unfold Try.f9
 simp (maxSteps:=10000000) -implicitDefEqProofs [qHd,tr9,qDE,lp9,qAB,ex9,qBl,rg9,qIV,jn9,qID,qGi,qAI,qAA,qGw,qFs,qJw,qEO,qFx,qCv,g13,g15,g17,g45,g46,g47,g48,g49]
 try rfl
def qzD (_:List (Val Y48)) (_:List (Val qw)):Bool:=true
def qxc (x0:List (Val Y48)) (x1:List (Val qw)):Prop:=Sms [i22,i78] (x0,x1,())
def g9:G:={ps:=[i22,i78],rs:=[i4],dp:=true,pre:=fun x=>qxc x.1 x.2.1,fn:=fun x=>(qzD x.1 x.2.1,())}
theorem e9 (x:List (Val Y48)) (y:List (Val qw)) (h:qxc x y): ∃N,m9 N x y=some (qzD x y,()):=⟨0,by
 rw [m9,qd (show qjR x 1048576 from ⟨h.1,by omega,by omega⟩)]
 by_cases c:qb0 x 1048576<0
 ·rw [qh c];rfl
 rw [qg c]
 have hx:0≤szV (.slice 48 Y48) x 1048576:=by have: ¬szV (.slice 48 Y48) x 1048576<0:=c;omega
 have hb:Bd (.slice 48 Y48) x:=qiP (.slice 48 Y48) x 1048576 (by omega) (by omega) hx
 have hle:szV (.slice 48 Y48) x 1048576≤1048576:=(qbN (.slice 48 Y48) x 1048576 (by omega)).1
 have hle':qb0 x 1048576≤1048576:=hle
 rw [qd (show qkE y (qb0 x 1048576) from ⟨h.2.1,by omega,by omega⟩)]
 by_cases d:qga y (qb0 x 1048576)<0
 ·rw [qh d];rfl
 rw [qg d]
 have hc:Bd (.slice 136 qw) y:=qiP (.slice 136 qw) y (qb0 x 1048576) (by omega) (by omega) (by have: ¬szV (.slice 136 qw) y (qb0 x 1048576)<0:=d;omega)
 have t1:qfK x:=hb
 have t2:qfu y:=hc
 have f1:qdV (qaE x) (qaF y):=⟨hb,hc⟩
 have q1:qlt (qaE x) (qaE x):=hb
 have q2:qkN (qaF y) (qaF y):=hc
 have r1:qgo (qaE x) (qaE x)=true:=qgB _ _
 have r2:qhJ (qaF y) (qaF y)=true:=qgB _ _
 simp only [qd t1,qd t2,qd f1,qd q1,qd q2,r1,r2,Bool.not_true,cond_false,beq_self_eq_true]
 rfl⟩
theorem s9:Sound Try.prog 9 g9:=qu (tt:=tt) (Γ:=Γ9) hT (qk s13 (qk s15 (qk s17 (qk s45 (qk s46 (qk s47 (qk s48 (qk s49 qt)))))))) hm (fn:=Try.f9) Try.func9 (c:=Try.f9.body.getD .skip) (by kernel_rfl) (by kernel_rfl) fun x hx=>by
 obtain ⟨N,h⟩:=e9 x.1 x.2.1 hx
 exact ⟨T9 N,p9,qr _,tb9 N,(qGO N x.1 x.2.1).trans h⟩
end Go.T
