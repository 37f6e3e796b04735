/- Normal cells: the reference's. -/
import Derived.Test.YtlhkmndfkjlodaaB1
set_option linter.unusedSimpArgs false
set_option linter.unusedVariables false
namespace Go.T
open Go Go.Proofs
set_option maxHeartbeats 4000000
set_option maxRecDepth 100000
noncomputable def qmq (N:Nat) (v0:Val Y83):Option (qa [i83]):=chk (([]:List (Val (.int .i64))).length+(v0.1:List (Val (.int .i64))).length≤1048576) (some (((([]:List (Val (.int .i64)))++(v0.1:List (Val (.int .i64)))),(v0.2.1:Int),(v0.2.2:Bool)),()))
def qDU:Gam:=[]
def qmf:Nat→Tree:=fun i=>if i=1 then .keep 1 (.keep 2 (.keep 4 (.keep 5 (.keep 6 (.keep 7 (.alt 0 (.alt 3 (.quiet 8 (.alt 9 .done .stop)) .stop) .stop))))))else .done
def qza:Nat→Nm:=fun _=>⟨[],[],false⟩
def qAl:Nat→Option Jn:=fun _=>none
def qvJ:Nat→Option Nm:=fun _=>none
def qrz:Nat→Option Nm:=fun _=>none
theorem qPS:qg qmf (Try.f125.body.getD .skip)=true:=by kernel_rfl
def qb6 (N:Nat):Tab:={tr:=qmf,lp:=qza,ex:=qvJ,rg:=qrz,jn:=qAl,fuel:=N}
theorem qFN (N:Nat):(qb6 N).pins=false:=rfl
theorem qJM (N:Nat):qk Try.prog (qb6 N):=qn fun _=>rfl
theorem qRP (N:Nat) (i:Nat):(qb6 N).tr i=qmf i:=rfl
theorem qGz (N:Nat) (i:Nat):(qb6 N).lp i=qza i:=rfl
theorem qH7 (N:Nat) (i:Nat):(qb6 N).ex i=qvJ i:=rfl
theorem qRs (N:Nat) (i:Nat):(qb6 N).rg i=qrz i:=rfl
theorem qKD (N:Nat) (i:Nat):(qb6 N).jn i=qAl i:=rfl
theorem qGG (N:Nat):(qb6 N).fuel=N:=rfl
theorem qQ3 (N:Nat) (v0:Val Y83):qb tt qDU (qb6 N) (Try.f125.body.getD .skip) (qh tt true [i83] [.cell 2 83]) (ql [i83] 12 (v0,()))=qmq N v0:=by
 rw [qmq];unfold Try.f125
 simp (maxSteps:=10000000) -implicitDefEqProofs [qRP,qmf,qGz,qza,qH7,qvJ,qRs,qrz,qKD,qAl,qGG,qFN]
 try rfl
def qgm:G:={ps:=[i83],rs:=[i83],dp:=true,pre:=fun x=>qb2 x.1,fn:=fun x=>(idA x.1,())}
theorem qIk (a:Val Y83) (h:qb2 a): ∃N,qmq N a=some (idA a,()):=⟨0,by
 rw [qmq,qd (by have h:List.length (α:=Val (.int .i64)) a.1≤1048576:=h;simpa using h)];rfl⟩
theorem qHc:Sound Try.prog 125 qgm:=qq (tt:=tt) (Γ:=qDU) hT qp hm (fn:=Try.f125) Try.func125 (c:=Try.f125.body.getD .skip) (by kernel_rfl) (by kernel_rfl) fun x hx=>by
 obtain ⟨N,h⟩:=qIk x.1 hx
 exact ⟨qb6 N,qPS,qm _,qJM N,(qQ3 N x.1).trans h⟩
end Go.T
