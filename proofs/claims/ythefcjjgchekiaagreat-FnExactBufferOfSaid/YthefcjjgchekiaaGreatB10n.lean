/- The cell without points: what the program's isEmptyForm computes. -/
import Derived.Test.YthefcjjgchekiaaGreatE0
set_option linter.unusedSimpArgs false
set_option linter.unusedVariables false
namespace Go.T
open Go Go.Proofs
set_option maxHeartbeats 4000000
set_option maxRecDepth 100000
def qb1 (c:Val Y33):Bool:=match (c.2:List (Val qa))with
 | [a]=> !q6 a&&decide ((a.2.1:Int)=1)&& !a.2.2
 | _=>false
def qBr (c:Val Y33):Prop:=qD c=true
def qzg:G:={ps:=[i33],rs:=[i4],dp:=true,pre:=fun x=>qBr x.1,fn:=fun x=>(qb1 x.1,())}
noncomputable def qyf (N:Nat) (v0:Val Y33):Option (qb [i4]):=bif (decide (((v0.2:List (Val qa)).length:Int)=(1:Int)))then (chk (0≤(0:Int)∧(0:Int)<((v0.2:List (Val qa)).length:Int)) (chk (qmj ((v0.2:List (Val qa)).getD ((0:Int).toNat) (qc qa))) (bif (!((q6 ((v0.2:List (Val qa)).getD ((0:Int).toNat) (qc qa))):Bool))then (chk (0≤(0:Int)∧(0:Int)<((v0.2:List (Val qa)).length:Int)) (bif (decide (((((v0.2:List (Val qa)).getD ((0:Int).toNat) (qc qa)).2).1:Int)=(1:Int)))then (chk (0≤(0:Int)∧(0:Int)<((v0.2:List (Val qa)).length:Int)) (some ((!((((v0.2:List (Val qa)).getD ((0:Int).toNat) (qc qa)).2).2:Bool)),())))else (some (false,()))))else (some (false,())))))else (some (false,()))
def qOY:Gam:=[(287,qfq)]
theorem q0U:Gam.get qOY 287=some qfq:=rfl
def qz0:Nat→Tree:=fun _=> .done
def qGF:Nat→Nm:=fun _=>⟨[],[],false⟩
def qIV:Nat→Option Jn:=fun _=>none
def qJj:Nat→Option Nm:=fun _=>none
def qIB:Nat→Option Nm:=fun _=>none
theorem q9Y:qj qz0 (Tryz.f240.body.getD .skip)=true:=by kernel_rfl
def qfW (N:Nat):Tab:={tr:=qz0,lp:=qGF,ex:=qJj,rg:=qIB,jn:=qIV,fuel:=N}
theorem qWJ (N:Nat):(qfW N).pins=false:=rfl
theorem zak (N:Nat):qn Tryz.prog (qfW N):=qr fun _=>rfl
theorem q4U (N:Nat) (i:Nat):(qfW N).tr i=qz0 i:=rfl
theorem zdv (N:Nat) (i:Nat):(qfW N).lp i=qGF i:=rfl
theorem qU6 (N:Nat) (i:Nat):(qfW N).ex i=qJj i:=rfl
theorem q59 (N:Nat) (i:Nat):(qfW N).rg i=qIB i:=rfl
theorem q9u (N:Nat) (i:Nat):(qfW N).jn i=qIV i:=rfl
theorem q94 (N:Nat):(qfW N).fuel=N:=rfl
theorem q2k (N:Nat) (v0:Val Y33):qd tt qOY (qfW N) (Tryz.f240.body.getD .skip) (qo tt true [i4] [.tmp 2]) (qt [i33] 31 (v0,()))=qyf N v0:=by
 rw [qyf];unfold Tryz.f240
 simp (maxSteps:=10000000) -implicitDefEqProofs [q4U,qz0,zdv,qGF,qU6,qJj,q59,qIB,q9u,qIV,q94,qWJ,q0U,qfq]
 try rfl
theorem qUF (d:Int):q6 ((List.replicate d.toNat (0:Int),(1:Int),false):Val qa)=false:=by
 unfold q6
 rw [decide_eq_false_iff_not,ne_eq,Decidable.not_not]
 exact qJu.2 fun x hx=>(List.mem_replicate.1 hx).2
theorem q2h {c:Val Y33} (h:c=qaW c.1):qb1 c=true:=by
 rw [h]
 show (!q6 ((List.replicate (c.1:Int).toNat (0:Int),(1:Int),false):Val qa)&&decide ((1:Int)=1)&& !false)=true
 rw [qUF];rfl
theorem qW1 {c:Val Y33} (h: ∀a∈(c.2:List (Val qa)),q6 a=true):qb1 c=false:=by
 unfold qb1
 split
 ·rename_i a ha
  have:=h a (by rw [ha];simp)
  rw [this];rfl
 ·rfl
theorem q3t (c:Val Y33) (h:qBr c): ∃N,qyf N c=some (qb1 c,()):=⟨0,by
 obtain ⟨hd,hl,hok⟩:=qaD h
 rw [qyf]
 unfold qb1
 obtain ⟨d,l⟩:=c
 match l with
 | []=>rfl
 | [a]=>
   have ha:okA a:=(hok a (by simp)).1
   have e0:List.getD (α:=Val qa) ((d,[a]):Val Y33).2 (Int.toNat 0) (qc qa)=a:=rfl
   have e1:List.length (α:=Val qa) ((d,[a]):Val Y33).2=1:=rfl
   rw [e0,e1,ql (by omega),qe (by omega),qe (show qmj a from ha)]
   show _=some (!q6 a&&decide ((a.2.1:Int)=1)&& !a.2.2,())
   cases q6 a with
   | true=>rfl
   | false=>
     simp only [Bool.not_false,cond_true,Bool.true_and]
     rw [qe (by omega),qe (by omega)]
     cases decide ((a.2.1:Int)=1)<;>rfl
 | a::b::r=>
   rw [qi (by simp;omega)]⟩
theorem q9X:Sound Tryz.prog 240 qzg:=qu (tt:=tt) (Γ:=qOY) hT (qf qQ7 qq) hm (fn:=Tryz.f240) Tryz.func240 (c:=Tryz.f240.body.getD .skip) (by kernel_rfl) (by kernel_rfl) fun x hx=>by
 obtain ⟨N,h⟩:=q3t x.1 hx
 exact ⟨qfW N,q9Y,qv _,zak N,(q2k N x.1).trans h⟩
end Go.T
