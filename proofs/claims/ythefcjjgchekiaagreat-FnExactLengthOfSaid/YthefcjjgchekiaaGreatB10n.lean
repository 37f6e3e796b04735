/- The cell without points: what the program's isEmptyForm computes. -/
import Derived.Test.YthefcjjgchekiaaGreatE0
set_option linter.unusedSimpArgs false
set_option linter.unusedVariables false
namespace Go.T
open Go Go.Proofs
set_option maxHeartbeats 4000000
set_option maxRecDepth 100000
def qbM (c:Val Y33):Bool:=match (c.2:List (Val qa))with
 | [a]=> !qaz a&&decide ((a.2.1:Int)=1)&& !a.2.2
 | _=>false
def qlW (c:Val Y33):Prop:=qz c=true
def qgK:G:={ps:=[i33],rs:=[i4],dp:=true,pre:=fun x=>qlW x.1,fn:=fun x=>(qbM x.1,())}
noncomputable def qA4 (N:Nat) (v0:Val Y33):Option (qc [i4]):=bif (decide (((v0.2:List (Val qa)).length:Int)=(1:Int)))then (chk (0≤(0:Int)∧(0:Int)<((v0.2:List (Val qa)).length:Int)) (chk (qn4 ((v0.2:List (Val qa)).getD ((0:Int).toNat) (qb qa))) (bif (!((qaz ((v0.2:List (Val qa)).getD ((0:Int).toNat) (qb qa))):Bool))then (chk (0≤(0:Int)∧(0:Int)<((v0.2:List (Val qa)).length:Int)) (bif (decide (((((v0.2:List (Val qa)).getD ((0:Int).toNat) (qb qa)).2).1:Int)=(1:Int)))then (chk (0≤(0:Int)∧(0:Int)<((v0.2:List (Val qa)).length:Int)) (some ((!((((v0.2:List (Val qa)).getD ((0:Int).toNat) (qb qa)).2).2:Bool)),())))else (some (false,()))))else (some (false,())))))else (some (false,()))
def q0u:Gam:=[(287,qeF)]
theorem zn5:Gam.get q0u 287=some qeF:=rfl
def qBY:Nat→Tree:=fun _=> .done
def qIA:Nat→Nm:=fun _=>⟨[],[],false⟩
def q1O:Nat→Option Jn:=fun _=>none
def qUB:Nat→Option Nm:=fun _=>none
def qK5:Nat→Option Nm:=fun _=>none
theorem zgP:qh qBY (Tryz.f240.body.getD .skip)=true:=by kernel_rfl
def qfN (N:Nat):Tab:={tr:=qBY,lp:=qIA,ex:=qUB,rg:=qK5,jn:=q1O,fuel:=N}
theorem zny (N:Nat):(qfN N).pins=false:=rfl
theorem ziz (N:Nat):qk Tryz.prog (qfN N):=qo fun _=>rfl
theorem zfe (N:Nat) (i:Nat):(qfN N).tr i=qBY i:=rfl
theorem zhk (N:Nat) (i:Nat):(qfN N).lp i=qIA i:=rfl
theorem zvB (N:Nat) (i:Nat):(qfN N).ex i=qUB i:=rfl
theorem zbp (N:Nat) (i:Nat):(qfN N).rg i=qK5 i:=rfl
theorem zrL (N:Nat) (i:Nat):(qfN N).jn i=q1O i:=rfl
theorem zdi (N:Nat):(qfN N).fuel=N:=rfl
theorem zb0 (N:Nat) (v0:Val Y33):qf tt q0u (qfN N) (Tryz.f240.body.getD .skip) (qm tt true [i4] [.tmp 2]) (qp [i33] 31 (v0,()))=qA4 N v0:=by
 rw [qA4];unfold Tryz.f240
 simp (maxSteps:=10000000) -implicitDefEqProofs [zfe,qBY,zhk,qIA,zvB,qUB,zbp,qK5,zrL,q1O,zdi,zny,zn5,qeF]
 try rfl
theorem qTB (d:Int):qaz ((List.replicate d.toNat (0:Int),(1:Int),false):Val qa)=false:=by
 unfold qaz
 rw [decide_eq_false_iff_not,ne_eq,Decidable.not_not]
 exact q1w.2 fun x hx=>(List.mem_replicate.1 hx).2
theorem q92 {c:Val Y33} (h:c=qa8 c.1):qbM c=true:=by
 rw [h]
 show (!qaz ((List.replicate (c.1:Int).toNat (0:Int),(1:Int),false):Val qa)&&decide ((1:Int)=1)&& !false)=true
 rw [qTB];rfl
theorem q8R {c:Val Y33} (h: ∀a∈(c.2:List (Val qa)),qaz a=true):qbM c=false:=by
 unfold qbM
 split
 ·rename_i a ha
  have:=h a (by rw [ha];simp)
  rw [this];rfl
 ·rfl
theorem zbA (c:Val Y33) (h:qlW c): ∃N,qA4 N c=some (qbM c,()):=⟨0,by
 obtain ⟨hd,hl,hok⟩:=qaG h
 rw [qA4]
 unfold qbM
 obtain ⟨d,l⟩:=c
 match l with
 | []=>rfl
 | [a]=>
   have ha:okA a:=(hok a (by simp)).1
   have e0:List.getD (α:=Val qa) ((d,[a]):Val Y33).2 (Int.toNat 0) (qb qa)=a:=rfl
   have e1:List.length (α:=Val qa) ((d,[a]):Val Y33).2=1:=rfl
   rw [e0,e1,qj (by omega),qe (by omega),qe (show qn4 a from ha)]
   show _=some (!qaz a&&decide ((a.2.1:Int)=1)&& !a.2.2,())
   cases qaz a with
   | true=>rfl
   | false=>
     simp only [Bool.not_false,cond_true,Bool.true_and]
     rw [qe (by omega),qe (by omega)]
     cases decide ((a.2.1:Int)=1)<;>rfl
 | a::b::r=>
   rw [qi (by simp;omega)]⟩
theorem q6V:Sound Tryz.prog 240 qgK:=qr (tt:=tt) (Γ:=q0u) hT (qg q8B qn) hm (fn:=Tryz.f240) Tryz.func240 (c:=Tryz.f240.body.getD .skip) (by kernel_rfl) (by kernel_rfl) fun x hx=>by
 obtain ⟨N,h⟩:=zbA x.1 hx
 exact ⟨qfN N,zgP,qu _,ziz N,(zb0 N x.1).trans h⟩
end Go.T
