/- Sums of ratios. -/
import Derived.Test.YtlhkmndfkjlodaaB10
set_option linter.unusedSimpArgs false
set_option linter.unusedVariables false
namespace Go.T
open Go Go.Proofs
set_option maxHeartbeats 4000000
set_option maxRecDepth 100000
abbrev noR:Val Y35:=((0:Int),(0:Int))
def qaF (a b:Val Y35):Val Y35:=bif qo a&&qo b then qaI ((a.1:Int)*b.2+(b.1:Int)*a.2) ((a.2:Int)*b.2)else noR
def qbF:G:={ps:=[i35,i35],rs:=[i35],dp:=true,pre:=fun _=>True,fn:=fun x=>(qaF x.1 x.2.1,())}
def qbJ:G:={ps:=[i35,i35],rs:=[i35],dp:=true,pre:=fun _=>True,fn:=fun x=>(qaF x.1 x.2.1,())}
noncomputable def ql9 (N:Nat) (v0:Val Y35) (v1:Val Y35):Option (qa [i35]):=bif (!((qo v0):Bool))then (some (((0:Int),(0:Int)),()))else (bif (!((qo v1):Bool))then (some (((0:Int),(0:Int)),()))else (chk (qbq (IntKind.i64.wrap ((IntKind.i64.wrap ((v0.1:Int)*(v1.2:Int)))+(IntKind.i64.wrap ((v1.1:Int)*(v0.2:Int))))) (IntKind.i64.wrap ((v0.2:Int)*(v1.2:Int)))) (some ((((qaI (IntKind.i64.wrap ((IntKind.i64.wrap ((v0.1:Int)*(v1.2:Int)))+(IntKind.i64.wrap ((v1.1:Int)*(v0.2:Int))))) (IntKind.i64.wrap ((v0.2:Int)*(v1.2:Int)))).1:Int),((qaI (IntKind.i64.wrap ((IntKind.i64.wrap ((v0.1:Int)*(v1.2:Int)))+(IntKind.i64.wrap ((v1.1:Int)*(v0.2:Int))))) (IntKind.i64.wrap ((v0.2:Int)*(v1.2:Int)))).2:Int)),()))))
def qmF:Gam:=[(70,g70),(138,qec)]
theorem qFL:Gam.get qmF 70=some g70:=rfl
theorem qJD:Gam.get qmF 138=some qec:=rfl
def qon:Nat→Tree:=fun _=> .done
def qvA:Nat→Nm:=fun _=>⟨[],[],false⟩
def qqi:Nat→Option Jn:=fun _=>none
def qwE:Nat→Option Nm:=fun _=>none
def qt5:Nat→Option Nm:=fun _=>none
theorem qQG:qg qon (Try.f113.body.getD .skip)=true:=by kernel_rfl
def qb4 (N:Nat):Tab:={tr:=qon,lp:=qvA,ex:=qwE,rg:=qt5,jn:=qqi,fuel:=N}
theorem qR9 (N:Nat):(qb4 N).pins=false:=rfl
theorem qGo (N:Nat):qk Try.prog (qb4 N):=qn fun _=>rfl
theorem qJP (N:Nat) (i:Nat):(qb4 N).tr i=qon i:=rfl
theorem qKj (N:Nat) (i:Nat):(qb4 N).lp i=qvA i:=rfl
theorem qP2 (N:Nat) (i:Nat):(qb4 N).ex i=qwE i:=rfl
theorem qHN (N:Nat) (i:Nat):(qb4 N).rg i=qt5 i:=rfl
theorem qOA (N:Nat) (i:Nat):(qb4 N).jn i=qqi i:=rfl
theorem qMv (N:Nat):(qb4 N).fuel=N:=rfl
theorem qPP (N:Nat) (v0:Val Y35) (v1:Val Y35):qb tt qmF (qb4 N) (Try.f113.body.getD .skip) (qh tt true [i35] [.cell 4 35]) (ql [i35,i35] 31 (v0,v1,()))=ql9 N v0 v1:=by
 rw [ql9];unfold Try.f113
 simp (maxSteps:=10000000) -implicitDefEqProofs [qJP,qon,qKj,qvA,qP2,qwE,qHN,qt5,qOA,qqi,qMv,qR9,qFL,qJD,g70,qec]
 try rfl
noncomputable def qmw (N:Nat) (v0:Val Y35) (v1:Val Y35):Option (qa [i35]):=bif (!((qo v0):Bool))then (some (((0:Int),(0:Int)),()))else (bif (!((qo v1):Bool))then (some (((0:Int),(0:Int)),()))else (chk (qbq (IntKind.i64.wrap ((IntKind.i64.wrap ((v0.1:Int)*(v1.2:Int)))+(IntKind.i64.wrap ((v1.1:Int)*(v0.2:Int))))) (IntKind.i64.wrap ((v0.2:Int)*(v1.2:Int)))) (some ((((qaI (IntKind.i64.wrap ((IntKind.i64.wrap ((v0.1:Int)*(v1.2:Int)))+(IntKind.i64.wrap ((v1.1:Int)*(v0.2:Int))))) (IntKind.i64.wrap ((v0.2:Int)*(v1.2:Int)))).1:Int),((qaI (IntKind.i64.wrap ((IntKind.i64.wrap ((v0.1:Int)*(v1.2:Int)))+(IntKind.i64.wrap ((v1.1:Int)*(v0.2:Int))))) (IntKind.i64.wrap ((v0.2:Int)*(v1.2:Int)))).2:Int)),()))))
def qoS:Gam:=[(60,g60),(99,g99)]
theorem qJH:Gam.get qoS 60=some g60:=rfl
theorem qFE:Gam.get qoS 99=some g99:=rfl
def qmt:Nat→Tree:=fun _=> .done
def qtK:Nat→Nm:=fun _=>⟨[],[],false⟩
def qps:Nat→Option Jn:=fun _=>none
def qzM:Nat→Option Nm:=fun _=>none
def qqL:Nat→Option Nm:=fun _=>none
theorem qOQ:qg qmt (Try.f104.body.getD .skip)=true:=by kernel_rfl
def qbZ (N:Nat):Tab:={tr:=qmt,lp:=qtK,ex:=qzM,rg:=qqL,jn:=qps,fuel:=N}
theorem qJ9 (N:Nat):(qbZ N).pins=false:=rfl
theorem qON (N:Nat):qk Try.prog (qbZ N):=qn fun _=>rfl
theorem qGy (N:Nat) (i:Nat):(qbZ N).tr i=qmt i:=rfl
theorem qH2 (N:Nat) (i:Nat):(qbZ N).lp i=qtK i:=rfl
theorem qNT (N:Nat) (i:Nat):(qbZ N).ex i=qzM i:=rfl
theorem qKN (N:Nat) (i:Nat):(qbZ N).rg i=qqL i:=rfl
theorem qJq (N:Nat) (i:Nat):(qbZ N).jn i=qps i:=rfl
theorem qQq (N:Nat):(qbZ N).fuel=N:=rfl
theorem qRd (N:Nat) (v0:Val Y35) (v1:Val Y35):qb tt qoS (qbZ N) (Try.f104.body.getD .skip) (qh tt true [i35] [.cell 4 35]) (ql [i35,i35] 31 (v0,v1,()))=qmw N v0 v1:=by
 rw [qmw];unfold Try.f104
 simp (maxSteps:=10000000) -implicitDefEqProofs [qGy,qmt,qH2,qtK,qNT,qzM,qKN,qqL,qJq,qps,qQq,qJ9,qJH,qFE,g60,g99]
 try rfl
def q7 (n:Int):Val Y35:=(n,(1:Int))
def qbw:G:={ps:=[i3],rs:=[i35],dp:=true,pre:=fun _=>True,fn:=fun x=>(q7 x.1,())}
noncomputable def qxU (N:Nat) (v0:Int):Option (qa [i35]):=some ((v0,(1:Int)),())
def qCj:Gam:=[]
def qlX:Nat→Tree:=fun _=> .done
def qAK:Nat→Nm:=fun _=>⟨[],[],false⟩
def qp7:Nat→Option Jn:=fun _=>none
def qyL:Nat→Option Nm:=fun _=>none
def qtz:Nat→Option Nm:=fun _=>none
theorem qRB:qg qlX (Try.f103.body.getD .skip)=true:=by kernel_rfl
def qbY (N:Nat):Tab:={tr:=qlX,lp:=qAK,ex:=qyL,rg:=qtz,jn:=qp7,fuel:=N}
theorem qNg (N:Nat):(qbY N).pins=false:=rfl
theorem qNk (N:Nat):qk Try.prog (qbY N):=qn fun _=>rfl
theorem qQ2 (N:Nat) (i:Nat):(qbY N).tr i=qlX i:=rfl
theorem qM3 (N:Nat) (i:Nat):(qbY N).lp i=qAK i:=rfl
theorem qMc (N:Nat) (i:Nat):(qbY N).ex i=qyL i:=rfl
theorem qRY (N:Nat) (i:Nat):(qbY N).rg i=qtz i:=rfl
theorem qOJ (N:Nat) (i:Nat):(qbY N).jn i=qp7 i:=rfl
theorem qGc (N:Nat):(qbY N).fuel=N:=rfl
theorem qJc (N:Nat) (v0:Int):qb tt qCj (qbY N) (Try.f103.body.getD .skip) (qh tt true [i35] [.cell 2 35]) (ql [i3] 5 (v0,()))=qxU N v0:=by
 rw [qxU];unfold Try.f103
 simp (maxSteps:=10000000) -implicitDefEqProofs [qQ2,qlX,qM3,qAK,qMc,qyL,qRY,qtz,qOJ,qp7,qGc,qNg]
 try rfl
theorem qbk {r:Val Y35} (h:qo r=true): -400000000≤(r.2:Int)∧ @LE.le Int _ r.2 400000000:=⟨Int.le_trans (by decide) (qbQ h).2.1,(qbQ h).2.2⟩
theorem qBT {a b:Val Y35} (ha:qo a=true) (hb:qo b=true):IntKind.i64.wrap (IntKind.i64.wrap ((a.1:Int)*(b.2:Int))+IntKind.i64.wrap ((b.1:Int)*(a.2:Int)))=(a.1:Int)*b.2+(b.1:Int)*a.2∧IntKind.i64.wrap ((a.2:Int)*(b.2:Int))=(a.2:Int)*b.2∧qbq ((a.1:Int)*b.2+(b.1:Int)*a.2) ((a.2:Int)*b.2):=by
 have m1:=qf8 (qbQ ha).1 (qbk hb)
 have m2:=qf8 (qbQ hb).1 (qbk ha)
 have m3:=qf8 (qbk ha) (qbk hb)
 rw [qi9 (qbQ ha).1 (qbk hb),qi9 (qbQ hb).1 (qbk ha),qi9 (qbk ha) (qbk hb)]
 unfold qbq inI
 generalize (a.1:Int)*b.2=x at*
 generalize (b.1:Int)*a.2=y at*
 generalize (a.2:Int)*b.2=z at*
 exact ⟨qbp (by omega) (by omega),rfl,⟨by omega,by omega⟩,⟨by omega,by omega⟩⟩
theorem qP3 (a b:Val Y35): ∃N,ql9 N a b=some (qaF a b,()):=⟨0,by
 rw [ql9]
 unfold qaF
 cases ha:qo a with
 | false=>rfl
 | true=>
   cases hb:qo b with
   | false=>rfl
   | true=>
     simp only [Bool.not_true,cond_false,Bool.and_self,cond_true]
     obtain ⟨e1,e2,hp⟩:=qBT ha hb
     rw [e1,e2]
     exact qd hp⟩
theorem qCP:Sound Try.prog 113 qbF:=qq (tt:=tt) (Γ:=qmF) hT (qe s70 (qe qCX qp)) hm (fn:=Try.f113) Try.func113 (c:=Try.f113.body.getD .skip) (by kernel_rfl) (by kernel_rfl) fun x hx=>by
 obtain ⟨N,h⟩:=qP3 x.1 x.2.1
 exact ⟨qb4 N,qQG,qm _,qGo N,(qPP N x.1 x.2.1).trans h⟩
theorem qMU (a b:Val Y35): ∃N,qmw N a b=some (qaF a b,()):=⟨0,by
 rw [qmw]
 unfold qaF
 cases ha:qo a with
 | false=>rfl
 | true=>
   cases hb:qo b with
   | false=>rfl
   | true=>
     simp only [Bool.not_true,cond_false,Bool.and_self,cond_true]
     obtain ⟨e1,e2,hp⟩:=qBT ha hb
     rw [e1,e2]
     exact qd hp⟩
theorem qEh:Sound Try.prog 104 qbJ:=qq (tt:=tt) (Γ:=qoS) hT (qe s60 (qe s99 qp)) hm (fn:=Try.f104) Try.func104 (c:=Try.f104.body.getD .skip) (by kernel_rfl) (by kernel_rfl) fun x hx=>by
 obtain ⟨N,h⟩:=qMU x.1 x.2.1
 exact ⟨qbZ N,qOQ,qm _,qON N,(qRd N x.1 x.2.1).trans h⟩
theorem qOc (n:Int): ∃N,qxU N n=some (q7 n,()):=⟨0,rfl⟩
theorem qDl:Sound Try.prog 103 qbw:=qq (tt:=tt) (Γ:=qCj) hT qp hm (fn:=Try.f103) Try.func103 (c:=Try.f103.body.getD .skip) (by kernel_rfl) (by kernel_rfl) fun x hx=>by
 obtain ⟨N,h⟩:=qOc x.1
 exact ⟨qbY N,qRB,qm _,qNk N,(qJc N x.1).trans h⟩
end Go.T
