/- Atoms: their directions, their order. -/
import Derived.Test.YtlhkmndfkjlodaaA8a
set_option linter.unusedSimpArgs false
set_option linter.unusedVariables false
namespace Go.T
open Go Go.Proofs
set_option maxHeartbeats 4000000
set_option maxRecDepth 100000
def okA (a:Val Y83):Prop:=qK a=true
theorem qFb {a:Val Y83} (h:okA a): -400000000≤(a.2.1:Int)∧ @LE.le Int _ a.2.1 400000000:=by
 have h:qK a=true:=h
 unfold qK at h
 simp only [Bool.and_eq_true,decide_eq_true_eq]at h
 exact of_decide_eq_true h.1.1.2
def idL (l:List (Val (.int .i64))):List (Val (.int .i64)):=l
def qjx (l:List (Val (.int .i64))):Prop:=l.length≤1048576
def idA (a:Val Y83):Val Y83:=a
def qb2 (a:Val Y83):Prop:=List.length (α:=Val (.int .i64)) a.1≤1048576
def qoJ:G:={ps:=[i27],rs:=[i27],dp:=true,pre:=fun x=>qjx x.1,fn:=fun x=>(idL x.1,())}
noncomputable def qnI (N:Nat) (v0:List (Val (.int .i64))):Option (qa [i27]):=chk (([]:List (Val (.int .i64))).length+v0.length≤1048576) (some ((([]:List (Val (.int .i64)))++v0),()))
def qBS:Gam:=[]
def qoa:Nat→Tree:=fun _=> .done
def qxI:Nat→Nm:=fun _=>⟨[],[],false⟩
def qze:Nat→Option Jn:=fun _=>none
def qq3:Nat→Option Nm:=fun _=>none
def qrI:Nat→Option Nm:=fun _=>none
theorem qFp:qg qoa (Try.f137.body.getD .skip)=true:=by kernel_rfl
def qcj (N:Nat):Tab:={tr:=qoa,lp:=qxI,ex:=qq3,rg:=qrI,jn:=qze,fuel:=N}
theorem qIv (N:Nat):(qcj N).pins=false:=rfl
theorem qNb (N:Nat):qk Try.prog (qcj N):=qn fun _=>rfl
theorem qJe (N:Nat) (i:Nat):(qcj N).tr i=qoa i:=rfl
theorem qF4 (N:Nat) (i:Nat):(qcj N).lp i=qxI i:=rfl
theorem qNi (N:Nat) (i:Nat):(qcj N).ex i=qq3 i:=rfl
theorem qMZ (N:Nat) (i:Nat):(qcj N).rg i=qrI i:=rfl
theorem qIY (N:Nat) (i:Nat):(qcj N).jn i=qze i:=rfl
theorem qH1 (N:Nat):(qcj N).fuel=N:=rfl
theorem qOe (N:Nat) (v0:List (Val (.int .i64))):qb tt qBS (qcj N) (Try.f137.body.getD .skip) (qh tt true [i27] [.tmp 2]) (ql [i27] 6 (v0,()))=qnI N v0:=by
 rw [qnI];unfold Try.f137
 simp (maxSteps:=10000000) -implicitDefEqProofs [qJe,qoa,qF4,qxI,qNi,qq3,qMZ,qrI,qIY,qze,qH1,qIv]
 try rfl
theorem qQ5 (l:List (Val (.int .i64))) (h:qjx l): ∃N,qnI N l=some (idL l,()):=⟨0,by
 rw [qnI,qd (by simpa [qjx] using h)];rfl⟩
theorem qIU:Sound Try.prog 137 qoJ:=qq (tt:=tt) (Γ:=qBS) hT qp hm (fn:=Try.f137) Try.func137 (c:=Try.f137.body.getD .skip) (by kernel_rfl) (by kernel_rfl) fun x hx=>by
 obtain ⟨N,h⟩:=qQ5 x.1 hx
 exact ⟨qcj N,qFp,qm _,qNb N,(qOe N x.1).trans h⟩
def qbI:G:={ps:=[i83],rs:=[i83],dp:=true,pre:=fun x=>qb2 x.1,fn:=fun x=>(idA x.1,())}
noncomputable def qpd (N:Nat) (v0:Val Y83):Option (qa [i83]):=chk (qjx (v0.1:List (Val (.int .i64)))) (some ((((idL (v0.1:List (Val (.int .i64)))):List (Val (.int .i64))),(v0.2.1:Int),(v0.2.2:Bool)),()))
def qwI:Gam:=[(137,qoJ)]
theorem qRN:Gam.get qwI 137=some qoJ:=rfl
def qni:Nm:=⟨[false,false,true],[],false⟩
theorem qGU:qni.zero=false:=rfl
theorem qLG:qni.fix=[]:=rfl
theorem qQX:qni.keep=[false,false,true]:=rfl
def qmX:Nat→Tree:=fun i=>if i=1 then .quiet 0 (.quiet 1 (.alt 2 (.quiet 3 (.quiet 4 (.quiet 5 (.quiet 6 (.quiet 7 (.alt 8 .done .stop)))))) (.alt 3 (.alt 2 (.quiet 4 (.quiet 5 (.quiet 6 (.quiet 7 (.alt 8 .done .stop))))) (.alt 4 (.alt 2 (.quiet 5 (.quiet 6 (.quiet 7 (.alt 8 .done .stop)))) (.alt 5 (.alt 2 (.quiet 6 (.quiet 7 (.alt 8 .done .stop))) (.alt 6 (.alt 2 (.quiet 7 (.alt 8 .done .stop)) .stop) .stop)) .stop)) (.alt 5 (.alt 2 (.quiet 4 (.quiet 6 (.quiet 7 (.alt 8 .done .stop)))) (.alt 4 (.alt 2 (.quiet 6 (.quiet 7 (.alt 8 .done .stop))) (.alt 6 (.alt 2 (.quiet 7 (.alt 8 .done .stop)) .stop) .stop)) (.alt 6 (.alt 2 (.quiet 4 (.quiet 7 (.alt 8 .done .stop))) (.alt 4 (.alt 2 (.quiet 7 (.alt 8 .done .stop)) .stop) .stop)) .stop))) .stop))) (.alt 5 (.alt 2 (.quiet 3 (.quiet 4 (.quiet 6 (.quiet 7 (.alt 8 .done .stop))))) (.alt 3 (.alt 2 (.quiet 4 (.quiet 6 (.quiet 7 (.alt 8 .done .stop)))) (.alt 4 (.alt 2 (.quiet 6 (.quiet 7 (.alt 8 .done .stop))) (.alt 6 (.alt 2 (.quiet 7 (.alt 8 .done .stop)) .stop) .stop)) (.alt 6 (.alt 2 (.quiet 4 (.quiet 7 (.alt 8 .done .stop))) (.alt 4 (.alt 2 (.quiet 7 (.alt 8 .done .stop)) .stop) .stop)) .stop))) (.alt 6 (.alt 2 (.quiet 3 (.quiet 4 (.quiet 7 (.alt 8 .done .stop)))) (.alt 3 (.alt 2 (.quiet 4 (.quiet 7 (.alt 8 .done .stop))) (.alt 4 (.alt 2 (.quiet 7 (.alt 8 .done .stop)) .stop) .stop)) .stop)) .stop))) .stop))))else .done
def qys:Nat→Nm:=fun _=>⟨[],[],false⟩
def qrE:Nat→Option Jn:=fun _=>none
def quu:Nat→Option Nm:=fun _=>none
def qyP:Nat→Option Nm:=fun i=>if i=1 then some qni else none
theorem qPM:qg qmX (Try.f112.body.getD .skip)=true:=by kernel_rfl
def qb8 (N:Nat):Tab:={tr:=qmX,lp:=qys,ex:=quu,rg:=qyP,jn:=qrE,fuel:=N}
theorem qGk (N:Nat):(qb8 N).pins=false:=rfl
theorem qIH (N:Nat):qk Try.prog (qb8 N):=qn fun _=>rfl
theorem qGR (N:Nat) (i:Nat):(qb8 N).tr i=qmX i:=rfl
theorem qGh (N:Nat) (i:Nat):(qb8 N).lp i=qys i:=rfl
theorem qMt (N:Nat) (i:Nat):(qb8 N).ex i=quu i:=rfl
theorem qL9 (N:Nat) (i:Nat):(qb8 N).rg i=qyP i:=rfl
theorem qKE (N:Nat) (i:Nat):(qb8 N).jn i=qrE i:=rfl
theorem qHg (N:Nat):(qb8 N).fuel=N:=rfl
theorem qQv (N:Nat) (v0:Val Y83):qb tt qwI (qb8 N) (Try.f112.body.getD .skip) (qh tt true [i83] [.cell 2 83]) (ql [i83] 11 (v0,()))=qpd N v0:=by
 rw [qpd];unfold Try.f112
 simp (maxSteps:=10000000) -implicitDefEqProofs [qGR,qmX,qGh,qys,qMt,quu,qL9,qyP,qKE,qrE,qHg,qGk,qLG,qQX,qGU,qRN,qoJ]
 try rfl
theorem qJt (a:Val Y83) (h:qb2 a): ∃N,qpd N a=some (idA a,()):=⟨0,by
 rw [qpd,qd (show qjx a.1 from h)];rfl⟩
theorem qFc:Sound Try.prog 112 qbI:=qq (tt:=tt) (Γ:=qwI) hT (qe qIU qp) hm (fn:=Try.f112) Try.func112 (c:=Try.f112.body.getD .skip) (by kernel_rfl) (by kernel_rfl) fun x hx=>by
 obtain ⟨N,h⟩:=qJt x.1 hx
 exact ⟨qb8 N,qPM,qm _,qIH N,(qQv N x.1).trans h⟩
end Go.T
