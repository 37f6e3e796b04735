/- Witnesses: what the functions compute. -/
import Derived.Test.YtlhkmndfkjlodaaE36
import Derived.Test.YtlhkmndfkjlodaaE22
set_option linter.unusedSimpArgs false
set_option linter.unusedVariables false
namespace Go.T
open Go Go.Proofs
set_option maxHeartbeats 4000000
set_option maxRecDepth 100000
def qbB:G:={ps:=[i35,i35],rs:=[i35],dp:=true,pre:=fun _=>True,fn:=fun x=>(q5 x.1 x.2.1,())}
def qbE:G:={ps:=[i35,i35],rs:=[i35],dp:=true,pre:=fun _=>True,fn:=fun x=>(q5 x.1 x.2.1,())}
noncomputable def ql0 (N:Nat) (v0:Val Y35) (v1:Val Y35):Option (qa [i35]):=bif (!((qo v0):Bool))then (some (((0:Int),(0:Int)),()))else (bif (!((qo v1):Bool))then (some (((0:Int),(0:Int)),()))else (chk (qbq (IntKind.i64.wrap ((v0.1:Int)*(v1.1:Int))) (IntKind.i64.wrap ((v0.2:Int)*(v1.2:Int)))) (some ((((qaI (IntKind.i64.wrap ((v0.1:Int)*(v1.1:Int))) (IntKind.i64.wrap ((v0.2:Int)*(v1.2:Int)))).1:Int),((qaI (IntKind.i64.wrap ((v0.1:Int)*(v1.1:Int))) (IntKind.i64.wrap ((v0.2:Int)*(v1.2:Int)))).2:Int)),()))))
def qmy:Gam:=[(70,g70),(138,qec)]
theorem qRe:Gam.get qmy 70=some g70:=rfl
theorem qJw:Gam.get qmy 138=some qec:=rfl
def qnG:Nat→Tree:=fun _=> .done
def qsG:Nat→Nm:=fun _=>⟨[],[],false⟩
def qpZ:Nat→Option Jn:=fun _=>none
def qvn:Nat→Option Nm:=fun _=>none
def qtf:Nat→Option Nm:=fun _=>none
theorem qPR:qg qnG (Try.f114.body.getD .skip)=true:=by kernel_rfl
def qbP (N:Nat):Tab:={tr:=qnG,lp:=qsG,ex:=qvn,rg:=qtf,jn:=qpZ,fuel:=N}
theorem qRO (N:Nat):(qbP N).pins=false:=rfl
theorem qNv (N:Nat):qk Try.prog (qbP N):=qn fun _=>rfl
theorem qOf (N:Nat) (i:Nat):(qbP N).tr i=qnG i:=rfl
theorem qN4 (N:Nat) (i:Nat):(qbP N).lp i=qsG i:=rfl
theorem qFs (N:Nat) (i:Nat):(qbP N).ex i=qvn i:=rfl
theorem qHO (N:Nat) (i:Nat):(qbP N).rg i=qtf i:=rfl
theorem qKW (N:Nat) (i:Nat):(qbP N).jn i=qpZ i:=rfl
theorem qNU (N:Nat):(qbP N).fuel=N:=rfl
theorem qPY (N:Nat) (v0:Val Y35) (v1:Val Y35):qb tt qmy (qbP N) (Try.f114.body.getD .skip) (qh tt true [i35] [.cell 4 35]) (ql [i35,i35] 25 (v0,v1,()))=ql0 N v0 v1:=by
 rw [ql0];unfold Try.f114
 simp (maxSteps:=10000000) -implicitDefEqProofs [qOf,qnG,qN4,qsG,qFs,qvn,qHO,qtf,qKW,qpZ,qNU,qRO,qRe,qJw,g70,qec]
 try rfl
noncomputable def qoX (N:Nat) (v0:Val Y35) (v1:Val Y35):Option (qa [i35]):=bif (!((qo v0):Bool))then (some (((0:Int),(0:Int)),()))else (bif (!((qo v1):Bool))then (some (((0:Int),(0:Int)),()))else (chk (qbq (IntKind.i64.wrap ((v0.1:Int)*(v1.1:Int))) (IntKind.i64.wrap ((v0.2:Int)*(v1.2:Int)))) (some ((((qaI (IntKind.i64.wrap ((v0.1:Int)*(v1.1:Int))) (IntKind.i64.wrap ((v0.2:Int)*(v1.2:Int)))).1:Int),((qaI (IntKind.i64.wrap ((v0.1:Int)*(v1.1:Int))) (IntKind.i64.wrap ((v0.2:Int)*(v1.2:Int)))).2:Int)),()))))
def qmV:Gam:=[(60,g60),(99,g99)]
theorem qGP:Gam.get qmV 60=some g60:=rfl
theorem qMK:Gam.get qmV 99=some g99:=rfl
def qnZ:Nat→Tree:=fun _=> .done
def qpA:Nat→Nm:=fun _=>⟨[],[],false⟩
def qrK:Nat→Option Jn:=fun _=>none
def qtc:Nat→Option Nm:=fun _=>none
def qxN:Nat→Option Nm:=fun _=>none
theorem qGX:qg qnZ (Try.f105.body.getD .skip)=true:=by kernel_rfl
def qbM (N:Nat):Tab:={tr:=qnZ,lp:=qpA,ex:=qtc,rg:=qxN,jn:=qrK,fuel:=N}
theorem qGQ (N:Nat):(qbM N).pins=false:=rfl
theorem qNH (N:Nat):qk Try.prog (qbM N):=qn fun _=>rfl
theorem qF1 (N:Nat) (i:Nat):(qbM N).tr i=qnZ i:=rfl
theorem qJi (N:Nat) (i:Nat):(qbM N).lp i=qpA i:=rfl
theorem qNq (N:Nat) (i:Nat):(qbM N).ex i=qtc i:=rfl
theorem qRE (N:Nat) (i:Nat):(qbM N).rg i=qxN i:=rfl
theorem qF2 (N:Nat) (i:Nat):(qbM N).jn i=qrK i:=rfl
theorem qPi (N:Nat):(qbM N).fuel=N:=rfl
theorem qFq (N:Nat) (v0:Val Y35) (v1:Val Y35):qb tt qmV (qbM N) (Try.f105.body.getD .skip) (qh tt true [i35] [.cell 4 35]) (ql [i35,i35] 25 (v0,v1,()))=qoX N v0 v1:=by
 rw [qoX];unfold Try.f105
 simp (maxSteps:=10000000) -implicitDefEqProofs [qF1,qnZ,qJi,qpA,qNq,qtc,qRE,qxN,qF2,qrK,qPi,qGQ,qGP,qMK,g60,g99]
 try rfl
theorem qE3 {a b:Val Y35} (ha:qo a=true) (hb:qo b=true):IntKind.i64.wrap ((a.1:Int)*(b.1:Int))=(a.1:Int)*b.1∧IntKind.i64.wrap ((a.2:Int)*(b.2:Int))=(a.2:Int)*b.2∧qbq ((a.1:Int)*b.1) ((a.2:Int)*b.2):=by
 have m1:=qf8 (qbQ ha).1 (qbQ hb).1
 have m3:=qf8 (qbk ha) (qbk hb)
 rw [qi9 (qbQ ha).1 (qbQ hb).1,qi9 (qbk ha) (qbk hb)]
 unfold qbq inI
 generalize (a.1:Int)*b.1=x at*
 generalize (a.2:Int)*b.2=z at*
 exact ⟨rfl,rfl,⟨by omega,by omega⟩,⟨by omega,by omega⟩⟩
theorem qGd (a b:Val Y35): ∃N,ql0 N a b=some (q5 a b,()):=⟨0,by
 rw [ql0]
 unfold q5
 cases ha:qo a with
 | false=>rfl
 | true=>
   cases hb:qo b with
   | false=>rfl
   | true=>
     simp only [Bool.not_true,cond_false,Bool.and_self,cond_true]
     obtain ⟨e1,e2,hp⟩:=qE3 ha hb
     rw [e1,e2]
     exact qd hp⟩
theorem qEq:Sound Try.prog 114 qbB:=qq (tt:=tt) (Γ:=qmy) hT (qe s70 (qe qCX qp)) hm (fn:=Try.f114) Try.func114 (c:=Try.f114.body.getD .skip) (by kernel_rfl) (by kernel_rfl) fun x hx=>by
 obtain ⟨N,h⟩:=qGd x.1 x.2.1
 exact ⟨qbP N,qPR,qm _,qNv N,(qPY N x.1 x.2.1).trans h⟩
theorem qFT (a b:Val Y35): ∃N,qoX N a b=some (q5 a b,()):=⟨0,by
 rw [qoX]
 unfold q5
 cases ha:qo a with
 | false=>rfl
 | true=>
   cases hb:qo b with
   | false=>rfl
   | true=>
     simp only [Bool.not_true,cond_false,Bool.and_self,cond_true]
     obtain ⟨e1,e2,hp⟩:=qE3 ha hb
     rw [e1,e2]
     exact qd hp⟩
theorem qCC:Sound Try.prog 105 qbE:=qq (tt:=tt) (Γ:=qmV) hT (qe s60 (qe s99 qp)) hm (fn:=Try.f105) Try.func105 (c:=Try.f105.body.getD .skip) (by kernel_rfl) (by kernel_rfl) fun x hx=>by
 obtain ⟨N,h⟩:=qFT x.1 x.2.1
 exact ⟨qbM N,qGX,qm _,qNH N,(qFq N x.1 x.2.1).trans h⟩
theorem qdm {α:Type} (pre:List α) (a:α) (l:List α) (d:α):(pre++a::l).getD pre.length d=a:=by simp [List.getD]
theorem qBM {α:Type} (pre:List α) (a b:α) (l:List α):(pre++a::l).set pre.length b=pre++b::l:=by simp
end Go.T
