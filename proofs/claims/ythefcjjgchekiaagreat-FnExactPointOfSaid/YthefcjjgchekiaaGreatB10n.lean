/- Normal cells are cells; all variables dropped. -/
import Derived.Test.YthefcjjgchekiaaGreatB9
set_option linter.unusedSimpArgs false
set_option linter.unusedVariables false
namespace Go.T
open Go Go.Proofs
set_option maxHeartbeats 4000000
set_option maxRecDepth 100000
def qJ9 (c:Val Y33):Prop:=c=qbJ c.1∨ ∀a∈(c.2:List (Val qa)),q8 a=true
theorem qT2 {xs:List (Val qa)} {x:Val qa} (h:x∈qdr xs):x∈xs:=by
 have go: ∀(xs s:List Atm) {x:Atm},x∈xs.foldl qa1 s→x∈s∨x∈xs:=by
  intro xs
  induction xs with
  | nil=>intro s x h;exact .inl h
  | cons b r ih=>
    intro s x h
    rcases ih (qa1 s b) h with h | h
    ·rcases qtV h with rfl | h
     ·exact .inr (by simp)
     ·exact .inl h
    ·exact .inr (by simp [h])
 rcases go xs [] h with h | h
 ·simp at h
 ·exact h
theorem zaj (xs:List (Val qa)):(qdr xs).length≤xs.length:=by
 have go: ∀(xs s:List Atm),(xs.foldl qa1 s).length≤s.length+xs.length:=by
  intro xs
  induction xs with
  | nil=>intro s;simp
  | cons b r ih=>
    intro s
    have h1:=ih (qa1 s b)
    have h2:=qVs s b
    simp only [List.foldl_cons,List.length_cons]
    omega
 have:=go xs []
 simpa [qdr] using this
theorem qV8 (d:Int) (l:List (Val qa)):((qO d l).1:Int)=d:=by
 unfold qO
 cases l.any qaB<;>rfl
theorem q2a {d:Int} {l:List (Val qa)} (h:l.length≤16):List.length (α:=Val qa) (qO d l).2≤16:=by
 unfold qO
 cases l.any qaB with
 | true=>show 1≤16;decide
 | false=>
   have h1:=zaj (l.filter q8)
   have h2:=List.length_filter_le q8 l
   show (qdr (l.filter q8)).length≤16
   omega
theorem q15 {d:Int} (hd:0≤d∧d≤4):okD d ((List.replicate d.toNat (0:Int),(1:Int),false):Val qa):=by
 refine ⟨?_,by show ((List.replicate d.toNat (0:Int)).length:Int)=d;rw [List.length_replicate];omega⟩
 show qG _=true
 unfold qG
 have e:gL (Int.natAbs 1) (List.replicate d.toNat (0:Int))≤1:=by
  have:=(qkJ (List.replicate d.toNat (0:Int)) (Int.natAbs 1)).1
  exact Nat.le_of_dvd (by decide) this
 simp only [Bool.and_eq_true,decide_eq_true_eq]
 refine ⟨⟨⟨by simp;omega,by decide⟩,?_⟩,by omega⟩
 rw [List.all_eq_true]
 intro x hx
 have:x=0:=(List.mem_replicate.1 hx).2
 subst this
 decide
theorem q7K {d:Int} {l:List (Val qa)} (h:okL d l): ∀a∈((qO d l).2:List (Val qa)),okD d a:=by
 intro a ha
 unfold qO at ha
 cases hb:l.any qaB with
 | true=>
   rw [hb]at ha
   have ha:a∈([(List.replicate d.toNat (0:Int),(1:Int),false)]:List (Val qa)):=ha
   simp only [List.mem_singleton]at ha
   subst ha
   exact q15 h.1
 | false=>
   rw [hb]at ha
   have ha:a∈qdr (l.filter q8):=ha
   exact h.2.2 a (List.mem_filter.1 (qT2 ha)).1
theorem q7w (d:Int) (l:List (Val qa)):qJ9 (qO d l):=by
 unfold qO
 cases l.any qaB with
 | true=>exact .inl rfl
 | false=>exact .inr fun a ha=>(List.mem_filter.1 (qT2 ha)).2
theorem qAF {c:Val Y33} (h1:0≤(c.1:Int)∧(c.1:Int)≤4) (h2:List.length (α:=Val qa) c.2≤16) (h3: ∀a∈(c.2:List (Val qa)),okD c.1 a):qH c=true:=by
 unfold qH
 simp only [Bool.and_eq_true,decide_eq_true_eq]
 refine ⟨⟨h1,by omega⟩,?_⟩
 rw [List.all_eq_true]
 intro a ha
 obtain ⟨g1,g2⟩:=h3 a ha
 have g1:qG a=true:=g1
 simp only [Bool.and_eq_true,decide_eq_true_eq]
 exact ⟨g1,g2⟩
def okN (d:Int) (c:Val Y33):Prop:=qH c=true∧qJ9 c∧(c.1:Int)=d
theorem qHY {d:Int} {l:List (Val qa)} (h:okL d l) (hl:List.length (α:=Val qa) (qO d l).2≤16):okN d (qO d l):=
 ⟨qAF (by rw [qV8];exact h.1) hl (by rw [qV8];exact q7K h),q7w d l,qV8 d l⟩
theorem q4m {d:Int} {l:List (Val qa)} (h:okL d l) (h2:(qbi d l).2=true):okN d (qbi d l).1:=by
 unfold qbi at*
 by_cases c:(16:Int)<(List.length (α:=Val qa) (qO d l).2:Int)
 ·rw [decide_eq_true c]at h2;simp at h2
 ·rw [decide_eq_false c]at h2 ⊢;exact qHY h (by omega)
theorem qmA {c:Val Y33} {v:Int} (h:qH c=true) (h2:(qU c v).2=true):okN c.1 (qU c v).1:=by
 obtain ⟨hd,hl,hok⟩:=qaJ h
 unfold qU at*
 cases hm:qbQ v c.2 c.2 (List.filter (α:=Val qa) (fun a=>decide (cfV v a=0)) c.2)with
 | none=>rw [hm]at h2;simp at h2
 | some s=>
   rw [hm]at h2
   exact q4m (qOD hd hl hok hm) h2
theorem qil {c:Val Y33} (h:qH c=true):okL c.1 c.2∧okN c.1 (qO c.1 c.2):=by
 obtain ⟨hd,hl,hok⟩:=qaJ h
 have:okL c.1 c.2:=⟨hd,by omega,hok⟩
 exact ⟨this,qHY this (q2a hl)⟩
def qbp (v:Int):Nat→Val Y33→Option (Val Y33)
 | 0,c=>some c
 | n+1,c=>if (n:Int)=v then qbp v n c else bif (qU c n).2 then qbp v n (qU c n).1 else none
theorem qnq {d v:Int}: ∀(k:Nat) {x y:Val Y33},okN d x→qbp v k x=some y→okN d y
 | 0,x,y,hx,h=>by simp only [qbp,Option.some.injEq]at h;subst h;exact hx
 | k+1,x,y,hx,h=>by
   rw [qbp]at h
   by_cases hk:(k:Int)=v
   ·rw [if_pos hk]at h;exact qnq k hx h
   ·rw [if_neg hk]at h
    cases hm:(qU x k).2 with
    | false=>rw [hm]at h;simp at h
    | true=>
      rw [hm]at h
      have hN:=qmA hx.1 hm
      rw [hx.2.2]at hN
      exact qnq k hN h
end Go.T
/- The cell without points: what the program's isEmptyForm computes. -/
set_option linter.unusedSimpArgs false
set_option linter.unusedVariables false
namespace Go.T
open Go Go.Proofs
set_option maxHeartbeats 4000000
set_option maxRecDepth 100000
def qcK (c:Val Y33):Bool:=match (c.2:List (Val qa))with
 | [a]=> !q8 a&&decide ((a.2.1:Int)=1)&& !a.2.2
 | _=>false
def qqd (c:Val Y33):Prop:=qH c=true
def qnU:G:={ps:=[i33],rs:=[i4],dp:=true,pre:=fun x=>qqd x.1,fn:=fun x=>(qcK x.1,())}
noncomputable def qC0 (N:Nat) (v0:Val Y33):Option (qc [i4]):=bif (decide (((v0.2:List (Val qa)).length:Int)=(1:Int)))then (chk (0≤(0:Int)∧(0:Int)<((v0.2:List (Val qa)).length:Int)) (chk (qmV ((v0.2:List (Val qa)).getD ((0:Int).toNat) (qb qa))) (bif (!((q8 ((v0.2:List (Val qa)).getD ((0:Int).toNat) (qb qa))):Bool))then (chk (0≤(0:Int)∧(0:Int)<((v0.2:List (Val qa)).length:Int)) (bif (decide (((((v0.2:List (Val qa)).getD ((0:Int).toNat) (qb qa)).2).1:Int)=(1:Int)))then (chk (0≤(0:Int)∧(0:Int)<((v0.2:List (Val qa)).length:Int)) (some ((!((((v0.2:List (Val qa)).getD ((0:Int).toNat) (qb qa)).2).2:Bool)),())))else (some (false,()))))else (some (false,())))))else (some (false,()))
def qVU:Gam:=[(287,qeP)]
theorem zmU:Gam.get qVU 287=some qeP:=rfl
def qBO:Nat→Tree:=fun _=> .done
def qVZ:Nat→Nm:=fun _=>⟨[],[],false⟩
def qOz:Nat→Option Jn:=fun _=>none
def qFq:Nat→Option Nm:=fun _=>none
def qXt:Nat→Option Nm:=fun _=>none
theorem zkL:qn qBO (Tryz.f240.body.getD .skip)=true:=by kernel_rfl
def qe6 (N:Nat):Tab:={tr:=qBO,lp:=qVZ,ex:=qFq,rg:=qXt,jn:=qOz,fuel:=N}
theorem zbe (N:Nat):(qe6 N).pins=false:=rfl
theorem q6a (N:Nat):qp Tryz.prog (qe6 N):=qv fun _=>rfl
theorem zcx (N:Nat) (i:Nat):(qe6 N).tr i=qBO i:=rfl
theorem zoG (N:Nat) (i:Nat):(qe6 N).lp i=qVZ i:=rfl
theorem zdG (N:Nat) (i:Nat):(qe6 N).ex i=qFq i:=rfl
theorem q7A (N:Nat) (i:Nat):(qe6 N).rg i=qXt i:=rfl
theorem q5I (N:Nat) (i:Nat):(qe6 N).jn i=qOz i:=rfl
theorem q85 (N:Nat):(qe6 N).fuel=N:=rfl
theorem zk4 (N:Nat) (v0:Val Y33):qe tt qVU (qe6 N) (Tryz.f240.body.getD .skip) (qt tt true [i4] [.tmp 2]) (qw [i33] 31 (v0,()))=qC0 N v0:=by
 rw [qC0];unfold Tryz.f240
 simp (maxSteps:=10000000) -implicitDefEqProofs [zcx,qBO,zoG,qVZ,zdG,qFq,q7A,qXt,q5I,qOz,q85,zbe,zmU,qeP]
 try rfl
theorem qCf (d:Int):q8 ((List.replicate d.toNat (0:Int),(1:Int),false):Val qa)=false:=by
 unfold q8
 rw [decide_eq_false_iff_not,ne_eq,Decidable.not_not]
 exact qpr.2 fun x hx=>(List.mem_replicate.1 hx).2
theorem q9Q {c:Val Y33} (h:c=qbJ c.1):qcK c=true:=by
 rw [h]
 show (!q8 ((List.replicate (c.1:Int).toNat (0:Int),(1:Int),false):Val qa)&&decide ((1:Int)=1)&& !false)=true
 rw [qCf];rfl
theorem q5j {c:Val Y33} (h: ∀a∈(c.2:List (Val qa)),q8 a=true):qcK c=false:=by
 unfold qcK
 split
 ·rename_i a ha
  have:=h a (by rw [ha];simp)
  rw [this];rfl
 ·rfl
theorem q50 (c:Val Y33) (h:qqd c): ∃N,qC0 N c=some (qcK c,()):=⟨0,by
 obtain ⟨hd,hl,hok⟩:=qaJ h
 rw [qC0]
 unfold qcK
 obtain ⟨d,l⟩:=c
 match l with
 | []=>rfl
 | [a]=>
   have ha:okA a:=(hok a (by simp)).1
   have e0:List.getD (α:=Val qa) ((d,[a]):Val Y33).2 (Int.toNat 0) (qb qa)=a:=rfl
   have e1:List.length (α:=Val qa) ((d,[a]):Val Y33).2=1:=rfl
   rw [e0,e1,qk (by omega),qd (by omega),qd (show qmV a from ha)]
   show _=some (!q8 a&&decide ((a.2.1:Int)=1)&& !a.2.2,())
   cases q8 a with
   | true=>rfl
   | false=>
     simp only [Bool.not_false,cond_true,Bool.true_and]
     rw [qd (by omega),qd (by omega)]
     cases decide ((a.2.1:Int)=1)<;>rfl
 | a::b::r=>
   rw [qj (by simp;omega)]⟩
theorem zjT:Sound Tryz.prog 240 qnU:=qx (tt:=tt) (Γ:=qVU) hT (qg qY1 qu) hm (fn:=Tryz.f240) Tryz.func240 (c:=Tryz.f240.body.getD .skip) (by kernel_rfl) (by kernel_rfl) fun x hx=>by
 obtain ⟨N,h⟩:=q50 x.1 hx
 exact ⟨qe6 N,zkL,qy _,q6a N,(zk4 N x.1).trans h⟩
end Go.T
