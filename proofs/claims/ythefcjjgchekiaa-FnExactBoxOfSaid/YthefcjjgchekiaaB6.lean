/- Meeting and cutting cells. -/
import Derived.Test.YthefcjjgchekiaaB5
set_option linter.unusedSimpArgs false
set_option linter.unusedVariables false
namespace Go.T
open Go Go.Proofs
set_option maxHeartbeats 4000000
set_option maxRecDepth 100000
def qb2 (d:Int) (l:List (Val Y36)):Val Y32×Bool:=bif decide ((16:Int)<(List.length (α:=Val Y36) (qX d l).2:Int))then (((0:Int),[]),false)else (qX d l,true)
def qik (d:Int) (l:List (Val Y36)):Prop:=okL d l
def g46:G:={ps:=[i3,i30],rs:=[i32,i4],dp:=true,pre:=fun x=>qik x.1 x.2.1,fn:=fun x=>((qb2 x.1 x.2.1).1,(qb2 x.1 x.2.1).2,())}
noncomputable def m46 (N:Nat) (v0:Int) (v1:List (Val Y36)):Option (qb [i32,i4]):=chk (qco v0 v1) (bif (decide ((16:Int)<(((qX v0 v1).2:List (Val Y36)).length:Int)))then (some (((0:Int),([]:List (Val Y36))),false,()))else (some ((((qX v0 v1).1:Int),((qX v0 v1).2:List (Val Y36))),true,())))
def Γ46:Gam:=[(52,g52)]
theorem qHl:Gam.get Γ46 52=some g52:=rfl
def qpM:Nat→Tree:=fun _=> .done
def qty:Nat→Nm:=fun _=>⟨[],[],false⟩
def qxJ:Nat→Option Jn:=fun _=>none
def qBJ:Nat→Option Nm:=fun _=>none
def qw2:Nat→Option Nm:=fun _=>none
theorem p46:ql qpM (Try.f46.body.getD .skip)=true:=by kernel_rfl
def T46 (N:Nat):Tab:={tr:=qpM,lp:=qty,ex:=qBJ,rg:=qw2,jn:=qxJ,fuel:=N}
theorem qNy (N:Nat):(T46 N).pins=false:=rfl
theorem qRQ (N:Nat):qm Try.prog (T46 N):=qu fun _=>rfl
theorem qOt (N:Nat) (i:Nat):(T46 N).tr i=qpM i:=rfl
theorem qNX (N:Nat) (i:Nat):(T46 N).lp i=qty i:=rfl
theorem qKC (N:Nat) (i:Nat):(T46 N).ex i=qBJ i:=rfl
theorem qIZ (N:Nat) (i:Nat):(T46 N).rg i=qw2 i:=rfl
theorem qG0 (N:Nat) (i:Nat):(T46 N).jn i=qxJ i:=rfl
theorem qIX (N:Nat):(T46 N).fuel=N:=rfl
theorem qJJ (N:Nat) (v0:Int) (v1:List (Val Y36)):qd tt Γ46 (T46 N) (Try.f46.body.getD .skip) (qp tt true [i32,i4] [.cell 4 32,.tmp 5]) (qt [i3,i30] 16 (v0,v1,()))=m46 N v0 v1:=by
 rw [m46];unfold Try.f46
 simp (maxSteps:=10000000) -implicitDefEqProofs [qOt,qpM,qNX,qty,qKC,qBJ,qIZ,qw2,qG0,qxJ,qIX,qNy,qHl,g52]
 try rfl
theorem e46 (d:Int) (l:List (Val Y36)) (h:qik d l): ∃N,m46 N d l=some ((qb2 d l).1,(qb2 d l).2,()):=⟨0,by
 rw [m46,qc (show qco d l from h)]
 unfold qb2
 cases decide ((16:Int)<(List.length (α:=Val Y36) (qX d l).2:Int))<;>rfl⟩
theorem s46:Sound Try.prog 46 g46:=qw (tt:=tt) (Γ:=Γ46) hT (qf s52 qq) hm (fn:=Try.f46) Try.func46 (c:=Try.f46.body.getD .skip) (by kernel_rfl) (by kernel_rfl) fun x hx=>by
 obtain ⟨N,h⟩:=e46 x.1 x.2.1 hx
 exact ⟨T46 N,p46,qx _,qRQ N,(qJJ N x.1 x.2.1).trans h⟩
end Go.T
