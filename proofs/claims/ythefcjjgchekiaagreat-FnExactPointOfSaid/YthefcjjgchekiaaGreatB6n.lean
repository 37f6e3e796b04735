/- Meeting and cutting cells. -/
import Derived.Test.YthefcjjgchekiaaGreatB5
import Derived.Test.YthefcjjgchekiaaGreatB1
set_option linter.unusedSimpArgs false
set_option linter.unusedVariables false
namespace Go.T
open Go Go.Proofs
set_option maxHeartbeats 4000000
set_option maxRecDepth 100000
def qbi (d:Int) (l:List (Val qa)):Val Y33×Bool:=bif decide ((16:Int)<(List.length (α:=Val qa) (qO d l).2:Int))then (((0:Int),[]),false)else (qO d l,true)
def qn6 (d:Int) (l:List (Val qa)):Prop:=okL d l
def qgg:G:={ps:=[i3,i31],rs:=[i33,i4],dp:=true,pre:=fun x=>qn6 x.1 x.2.1,fn:=fun x=>((qbi x.1 x.2.1).1,(qbi x.1 x.2.1).2,())}
noncomputable def qDB (N:Nat) (v0:Int) (v1:List (Val qa)):Option (qc [i33,i4]):=chk (qbR v0 v1) (bif (decide ((16:Int)<(((qO v0 v1).2:List (Val qa)).length:Int)))then (some (((0:Int),([]:List (Val qa))),false,()))else (some ((((qO v0 v1).1:Int),((qO v0 v1).2:List (Val qa))),true,())))
def qSb:Gam:=[(230,qcP)]
theorem ziH:Gam.get qSb 230=some qcP:=rfl
def qBH:Nat→Tree:=fun _=> .done
def qGp:Nat→Nm:=fun _=>⟨[],[],false⟩
def qGf:Nat→Option Jn:=fun _=>none
def qTW:Nat→Option Nm:=fun _=>none
def qFT:Nat→Option Nm:=fun _=>none
theorem q9z:qn qBH (Tryz.f255.body.getD .skip)=true:=by kernel_rfl
def qe4 (N:Nat):Tab:={tr:=qBH,lp:=qGp,ex:=qTW,rg:=qFT,jn:=qGf,fuel:=N}
theorem q5g (N:Nat):(qe4 N).pins=false:=rfl
theorem zjD (N:Nat):qp Tryz.prog (qe4 N):=qv fun _=>rfl
theorem q6F (N:Nat) (i:Nat):(qe4 N).tr i=qBH i:=rfl
theorem zqn (N:Nat) (i:Nat):(qe4 N).lp i=qGp i:=rfl
theorem zqH (N:Nat) (i:Nat):(qe4 N).ex i=qTW i:=rfl
theorem zpx (N:Nat) (i:Nat):(qe4 N).rg i=qFT i:=rfl
theorem zoA (N:Nat) (i:Nat):(qe4 N).jn i=qGf i:=rfl
theorem zkb (N:Nat):(qe4 N).fuel=N:=rfl
theorem zlp (N:Nat) (v0:Int) (v1:List (Val qa)):qe tt qSb (qe4 N) (Tryz.f255.body.getD .skip) (qt tt true [i33,i4] [.cell 4 33,.tmp 5]) (qw [i3,i31] 16 (v0,v1,()))=qDB N v0 v1:=by
 rw [qDB];unfold Tryz.f255
 simp (maxSteps:=10000000) -implicitDefEqProofs [q6F,qBH,zqn,qGp,zqH,qTW,zpx,qFT,zoA,qGf,zkb,q5g,ziH,qcP]
 try rfl
theorem zcm (d:Int) (l:List (Val qa)) (h:qn6 d l): ∃N,qDB N d l=some ((qbi d l).1,(qbi d l).2,()):=⟨0,by
 rw [qDB,qd (show qbR d l from h)]
 unfold qbi
 cases decide ((16:Int)<(List.length (α:=Val qa) (qO d l).2:Int))<;>rfl⟩
theorem zmF:Sound Tryz.prog 255 qgg:=qx (tt:=tt) (Γ:=qSb) hT (qg qTI qu) hm (fn:=Tryz.f255) Tryz.func255 (c:=Tryz.f255.body.getD .skip) (by kernel_rfl) (by kernel_rfl) fun x hx=>by
 obtain ⟨N,h⟩:=zcm x.1 x.2.1 hx
 exact ⟨qe4 N,q9z,qy _,zjD N,(zlp N x.1 x.2.1).trans h⟩
def qgB (a b:Val Y33):Val Y33×Bool:=bif qH a&&qH b&&decide ((a.1:Int)=(b.1:Int))then qbi a.1 (List.append (α:=Val qa) a.2 b.2)else (((0:Int),[]),false)
theorem zqC {a b:Val Y33} (ha:qH a=true) (hb:qH b=true) (h:(a.1:Int)=(b.1:Int)):okL a.1 (List.append (α:=Val qa) a.2 b.2)∧(List.append (α:=Val qa) a.2 b.2).length≤32:=by
 obtain ⟨a1,a2,a3⟩:=qaJ ha
 obtain ⟨b1,b2,b3⟩:=qaJ hb
 have e:(List.append (α:=Val qa) a.2 b.2).length=List.length (α:=Val qa) a.2+List.length (α:=Val qa) b.2:=List.length_append
 refine ⟨⟨a1,by omega,fun x hx=> ?_⟩,by omega⟩
 rcases List.mem_append.1 hx with hx | hx
 ·exact a3 x hx
 ·exact ⟨(b3 x hx).1,(b3 x hx).2.trans h.symm⟩
end Go.T
/- Negated atoms. -/
set_option linter.unusedSimpArgs false
set_option linter.unusedVariables false
namespace Go.T
open Go Go.Proofs
set_option maxHeartbeats 4000000
set_option maxRecDepth 100000
def qEH (a:Val qa):Val qa×Bool:=bif qG a then ((List.map (α:=Int) (fun x=> -x) a.1,(-(a.2.1:Int),!a.2.2)),true)else (([],((0:Int),false)),false)
theorem qjd {x:Int} (h:inI x):IntKind.i64.wrap (0 - x)= -x:=by
 unfold inI at h
 rw [qaq (by omega) (by omega)];omega
end Go.T
