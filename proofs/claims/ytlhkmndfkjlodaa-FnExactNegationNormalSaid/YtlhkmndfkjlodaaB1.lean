/- Atoms: their directions, their order. -/
import Derived.Test.YtlhkmndfkjlodaaA8a
set_option linter.unusedSimpArgs false
set_option linter.unusedVariables false
namespace Go.T
open Go Go.Proofs
set_option maxHeartbeats 4000000
set_option maxRecDepth 100000
abbrev atm (a:Val Y83):Atm:=a
def okA (a:Val Y83):Prop:=qai a=true
theorem qJB {a:Val Y83} (h:okA a): ∀x∈(a.1:List Int),inI x:=fun x hx=>by
 have h1: @LE.le Int _ (-400000000) x∧ @LE.le Int _ x 400000000:=(qAz h).2.2 x hx
 unfold inI;omega
def idL (l:List (Val (.int .i64))):List (Val (.int .i64)):=l
def qhy (l:List (Val (.int .i64))):Prop:=l.length≤1048576
def idA (a:Val Y83):Val Y83:=a
def qeG (a:Val Y83):Prop:=List.length (α:=Val (.int .i64)) a.1≤1048576
def qhK:G:={ps:=[i27],rs:=[i27],dp:=true,pre:=fun x=>qhy x.1,fn:=fun x=>(idL x.1,())}
noncomputable def qra (N:Nat) (v0:List (Val (.int .i64))):Option (qc [i27]):=chk (([]:List (Val (.int .i64))).length+v0.length≤1048576) (some ((([]:List (Val (.int .i64)))++v0),()))
def qHg:Gam:=[]
def qrJ:Nat→Tree:=fun _=> .done
def qB5:Nat→Nm:=fun _=>⟨[],[],false⟩
def qDV:Nat→Option Jn:=fun _=>none
def qu0:Nat→Option Nm:=fun _=>none
def qvH:Nat→Option Nm:=fun _=>none
theorem qKT:qm qrJ (Try.f137.body.getD .skip)=true:=by kernel_rfl
def qfp (N:Nat):Tab:={tr:=qrJ,lp:=qB5,ex:=qu0,rg:=qvH,jn:=qDV,fuel:=N}
theorem qOU (N:Nat):(qfp N).pins=false:=rfl
theorem qUh (N:Nat):qn Try.prog (qfp N):=qt fun _=>rfl
theorem qPx (N:Nat) (i:Nat):(qfp N).tr i=qrJ i:=rfl
theorem qLK (N:Nat) (i:Nat):(qfp N).lp i=qB5 i:=rfl
theorem qUm (N:Nat) (i:Nat):(qfp N).ex i=qu0 i:=rfl
theorem qT3 (N:Nat) (i:Nat):(qfp N).rg i=qvH i:=rfl
theorem qPl (N:Nat) (i:Nat):(qfp N).jn i=qDV i:=rfl
theorem qOg (N:Nat):(qfp N).fuel=N:=rfl
theorem qVm (N:Nat) (v0:List (Val (.int .i64))):qf tt qHg (qfp N) (Try.f137.body.getD .skip) (qo tt true [i27] [.tmp 2]) (qv [i27] 6 (v0,()))=qra N v0:=by
 rw [qra];unfold Try.f137
 simp (maxSteps:=10000000) -implicitDefEqProofs [qPx,qrJ,qLK,qB5,qUm,qu0,qT3,qvH,qPl,qDV,qOg,qOU]
 try rfl
theorem qYh (l:List (Val (.int .i64))) (h:qhy l): ∃N,qra N l=some (idL l,()):=⟨0,by
 rw [qra,qd (by simpa [qhy] using h)];rfl⟩
theorem qH5:Sound Try.prog 137 qhK:=qz (tt:=tt) (Γ:=qHg) hT qp hm (fn:=Try.f137) Try.func137 (c:=Try.f137.body.getD .skip) (by kernel_rfl) (by kernel_rfl) fun x hx=>by
 obtain ⟨N,h⟩:=qYh x.1 hx
 exact ⟨qfp N,qKT,qx _,qUh N,(qVm N x.1).trans h⟩
def qrS:G:={ps:=[i83],rs:=[i83],dp:=true,pre:=fun x=>qeG x.1,fn:=fun x=>(idA x.1,())}
noncomputable def qsV (N:Nat) (v0:Val Y83):Option (qc [i83]):=chk (qhy (v0.1:List (Val (.int .i64)))) (some ((((idL (v0.1:List (Val (.int .i64)))):List (Val (.int .i64))),(v0.2.1:Int),(v0.2.2:Bool)),()))
def qA2:Gam:=[(137,qhK)]
theorem qYY:Gam.get qA2 137=some qhK:=rfl
def qqJ:Nm:=⟨[false,false,true],[],false⟩
theorem qMU:qqJ.zero=false:=rfl
theorem qSx:qqJ.fix=[]:=rfl
theorem qX3:qqJ.keep=[false,false,true]:=rfl
def qqm:Nat→Tree:=fun i=>if i=1 then .quiet 0 (.quiet 1 (.alt 2 (.quiet 3 (.quiet 4 (.quiet 5 (.quiet 6 (.quiet 7 (.alt 8 .done .stop)))))) (.alt 3 (.alt 2 (.quiet 4 (.quiet 5 (.quiet 6 (.quiet 7 (.alt 8 .done .stop))))) (.alt 4 (.alt 2 (.quiet 5 (.quiet 6 (.quiet 7 (.alt 8 .done .stop)))) (.alt 5 (.alt 2 (.quiet 6 (.quiet 7 (.alt 8 .done .stop))) (.alt 6 (.alt 2 (.quiet 7 (.alt 8 .done .stop)) .stop) .stop)) .stop)) (.alt 5 (.alt 2 (.quiet 4 (.quiet 6 (.quiet 7 (.alt 8 .done .stop)))) (.alt 4 (.alt 2 (.quiet 6 (.quiet 7 (.alt 8 .done .stop))) (.alt 6 (.alt 2 (.quiet 7 (.alt 8 .done .stop)) .stop) .stop)) (.alt 6 (.alt 2 (.quiet 4 (.quiet 7 (.alt 8 .done .stop))) (.alt 4 (.alt 2 (.quiet 7 (.alt 8 .done .stop)) .stop) .stop)) .stop))) .stop))) (.alt 5 (.alt 2 (.quiet 3 (.quiet 4 (.quiet 6 (.quiet 7 (.alt 8 .done .stop))))) (.alt 3 (.alt 2 (.quiet 4 (.quiet 6 (.quiet 7 (.alt 8 .done .stop)))) (.alt 4 (.alt 2 (.quiet 6 (.quiet 7 (.alt 8 .done .stop))) (.alt 6 (.alt 2 (.quiet 7 (.alt 8 .done .stop)) .stop) .stop)) (.alt 6 (.alt 2 (.quiet 4 (.quiet 7 (.alt 8 .done .stop))) (.alt 4 (.alt 2 (.quiet 7 (.alt 8 .done .stop)) .stop) .stop)) .stop))) (.alt 6 (.alt 2 (.quiet 3 (.quiet 4 (.quiet 7 (.alt 8 .done .stop)))) (.alt 3 (.alt 2 (.quiet 4 (.quiet 7 (.alt 8 .done .stop))) (.alt 4 (.alt 2 (.quiet 7 (.alt 8 .done .stop)) .stop) .stop)) .stop)) .stop))) .stop))))else .done
def qCN:Nat→Nm:=fun _=>⟨[],[],false⟩
def qvF:Nat→Option Jn:=fun _=>none
def qyo:Nat→Option Nm:=fun _=>none
def qDm:Nat→Option Nm:=fun i=>if i=1 then some qqJ else none
theorem qWX:qm qqm (Try.f112.body.getD .skip)=true:=by kernel_rfl
def qfa (N:Nat):Tab:={tr:=qqm,lp:=qCN,ex:=qyo,rg:=qDm,jn:=qvF,fuel:=N}
theorem qL2 (N:Nat):(qfa N).pins=false:=rfl
theorem qO5 (N:Nat):qn Try.prog (qfa N):=qt fun _=>rfl
theorem qMT (N:Nat) (i:Nat):(qfa N).tr i=qqm i:=rfl
theorem qL0 (N:Nat) (i:Nat):(qfa N).lp i=qCN i:=rfl
theorem qTo (N:Nat) (i:Nat):(qfa N).ex i=qyo i:=rfl
theorem qS4 (N:Nat) (i:Nat):(qfa N).rg i=qDm i:=rfl
theorem qRj (N:Nat) (i:Nat):(qfa N).jn i=qvF i:=rfl
theorem qNl (N:Nat):(qfa N).fuel=N:=rfl
theorem qXD (N:Nat) (v0:Val Y83):qf tt qA2 (qfa N) (Try.f112.body.getD .skip) (qo tt true [i83] [.cell 2 83]) (qv [i83] 11 (v0,()))=qsV N v0:=by
 rw [qsV];unfold Try.f112
 simp (maxSteps:=10000000) -implicitDefEqProofs [qMT,qqm,qL0,qCN,qTo,qyo,qS4,qDm,qRj,qvF,qNl,qL2,qSx,qX3,qMU,qYY,qhK]
 try rfl
theorem qPJ (a:Val Y83) (h:qeG a): ∃N,qsV N a=some (idA a,()):=⟨0,by
 rw [qsV,qd (show qhy a.1 from h)];rfl⟩
theorem qYZ:Sound Try.prog 112 qrS:=qz (tt:=tt) (Γ:=qA2) hT (ql qH5 qp) hm (fn:=Try.f112) Try.func112 (c:=Try.f112.body.getD .skip) (by kernel_rfl) (by kernel_rfl) fun x hx=>by
 obtain ⟨N,h⟩:=qPJ x.1 hx
 exact ⟨qfa N,qWX,qx _,qO5 N,(qXD N x.1).trans h⟩
end Go.T
