/- Formulas with negations pushed to the rows: plain; the small functions. -/
import Derived.Test.YtlhkmndfkjlodaaH20
import Derived.Test.YtlhkmndfkjlodaaB6n
import Derived.Test.YtlhkmndfkjlodaaT12
set_option linter.unusedSimpArgs false
set_option linter.unusedVariables false
namespace Go.T
open Go Go.Proofs
set_option maxHeartbeats 4000000
set_option maxRecDepth 100000
abbrev Nd:=Val qa
abbrev noA:Val Y83:=([],(0:Int),false)
abbrev eB:ByteArray:=ByteArray.empty
def qer (K:Int):Int:=bif decide (K=3)then 4 else bif decide (K=4)then 3 else bif decide (K=5)then 6 else 5
def shN (s:Nat) (n:Nd):Nd:=(n.1,n.2.1,n.2.2.1,n.2.2.2.1,n.2.2.2.2.1,n.2.2.2.2.2.1,(bif decide (1<(n.1:Int))then (n.2.2.2.2.2.2.1:Int)+s else n.2.2.2.2.2.2.1),(bif decide ((n.1:Int)=3)||decide ((n.1:Int)=4)then (n.2.2.2.2.2.2.2:Int)+s else n.2.2.2.2.2.2.2))
def qoS (a:Int):Nd:=((2:Int),noA,eB,eB,[],(0:Int),a,(0:Int))
def qeL (neg:Bool) (K:Int):Int:=bif neg then qer K else K
def qaq (f:List Nd):Nat→Int→Bool→List Nd
 | 0,_,_=>[]
 | k+1,i,neg=>
   let n:=f.getD i.toNat (qb qa)
   bif decide ((n.1:Int)=0)then [((0:Int),(bif neg then (qbX n.2.1).1 else n.2.1),eB,eB,[],(0:Int),(0:Int),(0:Int))]else
   bif decide ((n.1:Int)=1)then (bif neg then [n,qoS 0]else [n])else
   bif decide ((n.1:Int)=2)then qaq f k n.2.2.2.2.2.2.1 (!neg)else
   bif decide ((n.1:Int)=5)||decide ((n.1:Int)=6)then qaq f k n.2.2.2.2.2.2.1 neg++[(qeL neg n.1,noA,eB,eB,[],n.2.2.2.2.2.1,((qaq f k n.2.2.2.2.2.2.1 neg).length:Int) - 1,(0:Int))]else
   (qaq f k n.2.2.2.2.2.2.1 neg++(qaq f k n.2.2.2.2.2.2.2 neg).map (shN (qaq f k n.2.2.2.2.2.2.1 neg).length))++[(qeL neg n.1,noA,eB,eB,[],(0:Int),((qaq f k n.2.2.2.2.2.2.1 neg).length:Int) - 1,((qaq f k n.2.2.2.2.2.2.1 neg).length:Int)+((qaq f k n.2.2.2.2.2.2.2 neg).length:Int) - 1)]
def qq (f:List Nd) (i:Int) (neg:Bool):List Nd:=qaq f (i.toNat+1) i neg
def qJ (out f:List Nd) (i:Int) (neg:Bool):List Nd:=out++(qq f i neg).map (shN out.length)
def ndZ (n:Nd):Prop:=Bd qa n∧(0≤(n.1:Int)∧(n.1:Int)≤6)∧((n.1:Int)=0→n=((0:Int),n.2.1,eB,eB,[],(0:Int),(0:Int),(0:Int)))∧(1<(n.1:Int)→n=(n.1,noA,eB,eB,[],n.2.2.2.2.2.1,n.2.2.2.2.2.2.1,n.2.2.2.2.2.2.2))∧((n.1:Int)=3∨(n.1:Int)=4→(n.2.2.2.2.2.1:Int)=0)∧((n.1:Int)=5∨(n.1:Int)=6→(n.2.2.2.2.2.2.2:Int)=0)∧((n.1:Int)=1→(n.2.2.2.2.2.2.1:Int)=0∧(n.2.2.2.2.2.2.2:Int)=0)
def nOk (f:List Nd):Prop:=fOk f∧ ∀n∈f,ndZ n
def idN (n:Nd):Nd:=n
def qpz (n:Nd):Prop:=Bd qa n
def qro:G:={ps:=[qca],rs:=[qca],dp:=true,pre:=fun x=>qpz x.1,fn:=fun x=>(idN x.1,())}
noncomputable def qq7 (N:Nat) (v0:Val qa):Option (qc [qca]):=chk (qeG v0.2.1) (chk (qhy (v0.2.2.2.2.1:List (Val (.int .i64)))) (some (((v0.1:Int),(((idA v0.2.1).1:List (Val (.int .i64))),(((idA v0.2.1).2).1:Int),(((idA v0.2.1).2).2:Bool)),(v0.2.2.1:ByteArray),(v0.2.2.2.1:ByteArray),((idL (v0.2.2.2.2.1:List (Val (.int .i64)))):List (Val (.int .i64))),(v0.2.2.2.2.2.1:Int),(v0.2.2.2.2.2.2.1:Int),(v0.2.2.2.2.2.2.2:Int)),())))
def qsQ:Gam:=[(112,qrS),(137,qhK)]
theorem qS8:Gam.get qsQ 112=some qrS:=rfl
theorem qQx:Gam.get qsQ 137=some qhK:=rfl
def qo5:Nat→Tree:=fun _=> .done
def qvZ:Nat→Nm:=fun _=>⟨[],[],false⟩
def qEA:Nat→Option Jn:=fun _=>none
def qF6:Nat→Option Nm:=fun _=>none
def qtQ:Nat→Option Nm:=fun _=>none
theorem qPn:qm qo5 (Try.f128.body.getD .skip)=true:=by kernel_rfl
def qeS (N:Nat):Tab:={tr:=qo5,lp:=qvZ,ex:=qF6,rg:=qtQ,jn:=qEA,fuel:=N}
theorem qUO (N:Nat):(qeS N).pins=false:=rfl
theorem qP7 (N:Nat):qn Try.prog (qeS N):=qt fun _=>rfl
theorem qYO (N:Nat) (i:Nat):(qeS N).tr i=qo5 i:=rfl
theorem qTl (N:Nat) (i:Nat):(qeS N).lp i=qvZ i:=rfl
theorem qS6 (N:Nat) (i:Nat):(qeS N).ex i=qF6 i:=rfl
theorem qQL (N:Nat) (i:Nat):(qeS N).rg i=qtQ i:=rfl
theorem qUx (N:Nat) (i:Nat):(qeS N).jn i=qEA i:=rfl
theorem qTA (N:Nat):(qeS N).fuel=N:=rfl
theorem qWZ (N:Nat) (v0:Val qa):qf tt qsQ (qeS N) (Try.f128.body.getD .skip) (qo tt true [qca] [.cell 2 120]) (qv [qca] 12 (v0,()))=qq7 N v0:=by
 rw [qq7];unfold Try.f128
 simp (maxSteps:=10000000) -implicitDefEqProofs [qYO,qo5,qTl,qvZ,qS6,qF6,qQL,qtQ,qUx,qEA,qTA,qUO,qS8,qQx,qrS,qhK]
 try rfl
theorem qTv (n:Nd) (h:qpz n): ∃N,qq7 N n=some (idN n,()):=⟨0,by
 rw [qq7,qd (show qeG n.2.1 from h.2.1.1.1),qd (show qhy n.2.2.2.2.1 from h.2.2.2.2.1.1)];rfl⟩
theorem qL4:Sound Try.prog 128 qro:=qz (tt:=tt) (Γ:=qsQ) hT (ql qYZ (ql qH5 qp)) hm (fn:=Try.f128) Try.func128 (c:=Try.f128.body.getD .skip) (by kernel_rfl) (by kernel_rfl) fun x hx=>by
 obtain ⟨N,h⟩:=qTv x.1 hx
 exact ⟨qeS N,qPn,qx _,qP7 N,(qWZ N x.1).trans h⟩
def qpd:G:={ps:=[i3],rs:=[i3],dp:=true,pre:=fun _=>True,fn:=fun x=>(qer x.1,())}
noncomputable def qqK (N:Nat) (v0:Int):Option (qc [i3]):=bif (decide (v0=(3:Int)))then (some ((4:Int),()))else (bif (decide (v0=(4:Int)))then (some ((3:Int),()))else (bif (decide (v0=(5:Int)))then (some ((6:Int),()))else (some ((5:Int),()))))
def qJU:Gam:=[]
def qpH:Nat→Tree:=fun _=> .done
def qwJ:Nat→Nm:=fun _=>⟨[],[],false⟩
def qG2:Nat→Option Jn:=fun _=>none
def qwB:Nat→Option Nm:=fun _=>none
def qtp:Nat→Option Nm:=fun _=>none
theorem qRu:qm qpH (Try.f130.body.getD .skip)=true:=by kernel_rfl
def qeZ (N:Nat):Tab:={tr:=qpH,lp:=qwJ,ex:=qwB,rg:=qtp,jn:=qG2,fuel:=N}
theorem qS2 (N:Nat):(qeZ N).pins=false:=rfl
theorem qNj (N:Nat):qn Try.prog (qeZ N):=qt fun _=>rfl
theorem qRi (N:Nat) (i:Nat):(qeZ N).tr i=qpH i:=rfl
theorem qO4 (N:Nat) (i:Nat):(qeZ N).lp i=qwJ i:=rfl
theorem qX4 (N:Nat) (i:Nat):(qeZ N).ex i=qwB i:=rfl
theorem qMl (N:Nat) (i:Nat):(qeZ N).rg i=qtp i:=rfl
theorem qL1 (N:Nat) (i:Nat):(qeZ N).jn i=qG2 i:=rfl
theorem qQq (N:Nat):(qeZ N).fuel=N:=rfl
theorem qOr (N:Nat) (v0:Int):qf tt qJU (qeZ N) (Try.f130.body.getD .skip) (qo tt true [i3] [.tmp 2]) (qv [i3] 10 (v0,()))=qqK N v0:=by
 rw [qqK];unfold Try.f130
 simp (maxSteps:=10000000) -implicitDefEqProofs [qRi,qpH,qO4,qwJ,qX4,qwB,qMl,qtp,qL1,qG2,qQq,qS2]
 try rfl
theorem qRL (K:Int): ∃N,qqK N K=some (qer K,()):=⟨0,by
 rw [qqK,qer]
 cases decide (K=3)<;>cases decide (K=4)<;>cases decide (K=5)<;>rfl⟩
theorem qNB:Sound Try.prog 130 qpd:=qz (tt:=tt) (Γ:=qJU) hT qp hm (fn:=Try.f130) Try.func130 (c:=Try.f130.body.getD .skip) (by kernel_rfl) (by kernel_rfl) fun x hx=>by
 obtain ⟨N,h⟩:=qRL x.1
 exact ⟨qeZ N,qRu,qx _,qNj N,(qOr N x.1).trans h⟩
def qfL:G:={ps:=[i83],rs:=[i83],dp:=true,pre:=fun x=>qeG x.1,fn:=fun x=>(idA x.1,())}
noncomputable def qpM (N:Nat) (v0:Val Y83):Option (qc [i83]):=chk (([]:List (Val (.int .i64))).length+(v0.1:List (Val (.int .i64))).length≤1048576) (some (((([]:List (Val (.int .i64)))++(v0.1:List (Val (.int .i64)))),(v0.2.1:Int),(v0.2.2:Bool)),()))
def qJm:Gam:=[]
def qpy:Nat→Tree:=fun i=>if i=1 then .keep 1 (.keep 2 (.keep 4 (.keep 5 (.keep 6 (.keep 7 (.alt 0 (.alt 3 (.quiet 8 (.alt 9 .done .stop)) .stop) .stop))))))else .done
def qDL:Nat→Nm:=fun _=>⟨[],[],false⟩
def qFo:Nat→Option Jn:=fun _=>none
def qAa:Nat→Option Nm:=fun _=>none
def qvw:Nat→Option Nm:=fun _=>none
theorem qW0:qm qpy (Try.f125.body.getD .skip)=true:=by kernel_rfl
def qe7 (N:Nat):Tab:={tr:=qpy,lp:=qDL,ex:=qAa,rg:=qvw,jn:=qFo,fuel:=N}
theorem qLo (N:Nat):(qe7 N).pins=false:=rfl
theorem qPZ (N:Nat):qn Try.prog (qe7 N):=qt fun _=>rfl
theorem qY1 (N:Nat) (i:Nat):(qe7 N).tr i=qpy i:=rfl
theorem qMp (N:Nat) (i:Nat):(qe7 N).lp i=qDL i:=rfl
theorem qOy (N:Nat) (i:Nat):(qe7 N).ex i=qAa i:=rfl
theorem qYE (N:Nat) (i:Nat):(qe7 N).rg i=qvw i:=rfl
theorem qRh (N:Nat) (i:Nat):(qe7 N).jn i=qFo i:=rfl
theorem qMG (N:Nat):(qe7 N).fuel=N:=rfl
theorem qYf (N:Nat) (v0:Val Y83):qf tt qJm (qe7 N) (Try.f125.body.getD .skip) (qo tt true [i83] [.cell 2 83]) (qv [i83] 12 (v0,()))=qpM N v0:=by
 rw [qpM];unfold Try.f125
 simp (maxSteps:=10000000) -implicitDefEqProofs [qY1,qpy,qMp,qDL,qOy,qAa,qYE,qvw,qRh,qFo,qMG,qLo]
 try rfl
theorem qOJ (a:Val Y83) (h:qeG a): ∃N,qpM N a=some (idA a,()):=⟨0,by
 rw [qpM,qd (by have h:List.length (α:=Val (.int .i64)) a.1≤1048576:=h;simpa using h)];rfl⟩
theorem qHA:Sound Try.prog 125 qfL:=qz (tt:=tt) (Γ:=qJm) hT qp hm (fn:=Try.f125) Try.func125 (c:=Try.f125.body.getD .skip) (by kernel_rfl) (by kernel_rfl) fun x hx=>by
 obtain ⟨N,h⟩:=qOJ x.1 hx
 exact ⟨qe7 N,qW0,qx _,qPZ N,(qYf N x.1).trans h⟩
end Go.T
