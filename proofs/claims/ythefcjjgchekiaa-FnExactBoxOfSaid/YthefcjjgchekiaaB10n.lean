/- The cell without points: what the program's isEmptyForm computes. -/
import Derived.Test.YthefcjjgchekiaaE0
set_option linter.unusedSimpArgs false
set_option linter.unusedVariables false
namespace Go.T
open Go Go.Proofs
set_option maxHeartbeats 4000000
set_option maxRecDepth 100000
def qec (c:Val Y32):Bool:=match (c.2:List (Val Y36))with
 | [a]=> !qZ a&&decide ((a.2.1:Int)=1)&& !a.2.2
 | _=>false
def qjr (c:Val Y32):Prop:=qac c=true
def g54:G:={ps:=[i32],rs:=[i4],dp:=true,pre:=fun x=>qjr x.1,fn:=fun x=>(qec x.1,())}
noncomputable def m54 (N:Nat) (v0:Val Y32):Option (qb [i4]):=bif (decide (((v0.2:List (Val Y36)).length:Int)=(1:Int)))then (chk (0≤(0:Int)∧(0:Int)<((v0.2:List (Val Y36)).length:Int)) (chk (qg7 ((v0.2:List (Val Y36)).getD ((0:Int).toNat) (qa Y36))) (bif (!((qZ ((v0.2:List (Val Y36)).getD ((0:Int).toNat) (qa Y36))):Bool))then (chk (0≤(0:Int)∧(0:Int)<((v0.2:List (Val Y36)).length:Int)) (bif (decide (((((v0.2:List (Val Y36)).getD ((0:Int).toNat) (qa Y36)).2).1:Int)=(1:Int)))then (chk (0≤(0:Int)∧(0:Int)<((v0.2:List (Val Y36)).length:Int)) (some ((!((((v0.2:List (Val Y36)).getD ((0:Int).toNat) (qa Y36)).2).2:Bool)),())))else (some (false,()))))else (some (false,())))))else (some (false,()))
def Γ54:Gam:=[(71,g71)]
theorem qMX:Gam.get Γ54 71=some g71:=rfl
def qoY:Nat→Tree:=fun _=> .done
def qxB:Nat→Nm:=fun _=>⟨[],[],false⟩
def qqN:Nat→Option Jn:=fun _=>none
def qtx:Nat→Option Nm:=fun _=>none
def quC:Nat→Option Nm:=fun _=>none
theorem p54:ql qoY (Try.f54.body.getD .skip)=true:=by kernel_rfl
def T54 (N:Nat):Tab:={tr:=qoY,lp:=qxB,ex:=qtx,rg:=quC,jn:=qqN,fuel:=N}
theorem qRh (N:Nat):(T54 N).pins=false:=rfl
theorem qNM (N:Nat):qm Try.prog (T54 N):=qu fun _=>rfl
theorem qO9 (N:Nat) (i:Nat):(T54 N).tr i=qoY i:=rfl
theorem qJA (N:Nat) (i:Nat):(T54 N).lp i=qxB i:=rfl
theorem qQM (N:Nat) (i:Nat):(T54 N).ex i=qtx i:=rfl
theorem qPB (N:Nat) (i:Nat):(T54 N).rg i=quC i:=rfl
theorem qJK (N:Nat) (i:Nat):(T54 N).jn i=qqN i:=rfl
theorem qPD (N:Nat):(T54 N).fuel=N:=rfl
theorem qSq (N:Nat) (v0:Val Y32):qd tt Γ54 (T54 N) (Try.f54.body.getD .skip) (qp tt true [i4] [.tmp 2]) (qt [i32] 31 (v0,()))=m54 N v0:=by
 rw [m54];unfold Try.f54
 simp (maxSteps:=10000000) -implicitDefEqProofs [qO9,qoY,qJA,qxB,qQM,qtx,qPB,quC,qJK,qqN,qPD,qRh,qMX,g71]
 try rfl
theorem qDc (d:Int):qZ ((List.replicate d.toNat (0:Int),(1:Int),false):Val Y36)=false:=by
 unfold qZ
 rw [decide_eq_false_iff_not,ne_eq,Decidable.not_not]
 exact qqE.2 fun x hx=>(List.mem_replicate.1 hx).2
theorem qLR {c:Val Y32} (h:c=qce c.1):qec c=true:=by
 rw [h]
 show (!qZ ((List.replicate (c.1:Int).toNat (0:Int),(1:Int),false):Val Y36)&&decide ((1:Int)=1)&& !false)=true
 rw [qDc];rfl
theorem qG5 {c:Val Y32} (h: ∀a∈(c.2:List (Val Y36)),qZ a=true):qec c=false:=by
 unfold qec
 split
 ·rename_i a ha
  have:=h a (by rw [ha];simp)
  rw [this];rfl
 ·rfl
theorem e54 (c:Val Y32) (h:qjr c): ∃N,m54 N c=some (qec c,()):=⟨0,by
 obtain ⟨hd,hl,hok⟩:=qcI h
 rw [m54]
 unfold qec
 obtain ⟨d,l⟩:=c
 match l with
 | []=>rfl
 | [a]=>
   have ha:okA a:=(hok a (by simp)).1
   have e0:List.getD (α:=Val Y36) ((d,[a]):Val Y32).2 (Int.toNat 0) (qa Y36)=a:=rfl
   have e1:List.length (α:=Val Y36) ((d,[a]):Val Y32).2=1:=rfl
   rw [e0,e1,qh (by omega),qc (by omega),qc (show qg7 a from ha)]
   show _=some (!qZ a&&decide ((a.2.1:Int)=1)&& !a.2.2,())
   cases qZ a with
   | true=>rfl
   | false=>
     simp only [Bool.not_false,cond_true,Bool.true_and]
     rw [qc (by omega),qc (by omega)]
     cases decide ((a.2.1:Int)=1)<;>rfl
 | a::b::r=>
   rw [qi (by simp;omega)]⟩
theorem s54:Sound Try.prog 54 g54:=qw (tt:=tt) (Γ:=Γ54) hT (qf s71 qq) hm (fn:=Try.f54) Try.func54 (c:=Try.f54.body.getD .skip) (by kernel_rfl) (by kernel_rfl) fun x hx=>by
 obtain ⟨N,h⟩:=e54 x.1 hx
 exact ⟨T54 N,p54,qx _,qNM N,(qSq N x.1).trans h⟩
end Go.T
