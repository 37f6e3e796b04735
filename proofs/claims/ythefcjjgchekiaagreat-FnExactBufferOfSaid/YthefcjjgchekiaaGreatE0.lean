/- Normal cells are cells; all variables dropped. -/
import Derived.Test.YthefcjjgchekiaaGreatB9
set_option linter.unusedSimpArgs false
set_option linter.unusedVariables false
namespace Go.T
open Go Go.Proofs
set_option maxHeartbeats 4000000
set_option maxRecDepth 100000
def qPf (c:Val Y33):Prop:=c=qaW c.1∨ ∀a∈(c.2:List (Val qa)),q6 a=true
theorem qOP {xs:List (Val qa)} {x:Val qa} (h:x∈qgm xs):x∈xs:=by
 have go: ∀(xs s:List Atm) {x:Atm},x∈xs.foldl qav s→x∈s∨x∈xs:=by
  intro xs
  induction xs with
  | nil=>intro s x h;exact .inl h
  | cons b r ih=>
    intro s x h
    rcases ih (qav s b) h with h | h
    ·rcases qpz h with rfl | h
     ·exact .inr (by simp)
     ·exact .inl h
    ·exact .inr (by simp [h])
 rcases go xs [] h with h | h
 ·simp at h
 ·exact h
theorem q0A (xs:List (Val qa)):(qgm xs).length≤xs.length:=by
 have go: ∀(xs s:List Atm),(xs.foldl qav s).length≤s.length+xs.length:=by
  intro xs
  induction xs with
  | nil=>intro s;simp
  | cons b r ih=>
    intro s
    have h1:=ih (qav s b)
    have h2:=qGL s b
    simp only [List.foldl_cons,List.length_cons]
    omega
 have:=go xs []
 simpa [qgm] using this
theorem qDu (d:Int) (l:List (Val qa)):((qm d l).1:Int)=d:=by
 unfold qm
 cases l.any qbU<;>rfl
theorem qzv {d:Int} {l:List (Val qa)} (h:l.length≤16):List.length (α:=Val qa) (qm d l).2≤16:=by
 unfold qm
 cases l.any qbU with
 | true=>show 1≤16;decide
 | false=>
   have h1:=q0A (l.filter q6)
   have h2:=List.length_filter_le q6 l
   show (qgm (l.filter q6)).length≤16
   omega
theorem qTZ {d:Int} (hd:0≤d∧d≤4):okD d ((List.replicate d.toNat (0:Int),(1:Int),false):Val qa):=by
 refine ⟨?_,by show ((List.replicate d.toNat (0:Int)).length:Int)=d;rw [List.length_replicate];omega⟩
 show qA _=true
 unfold qA
 have e:gL (Int.natAbs 1) (List.replicate d.toNat (0:Int))≤1:=by
  have:=(qpU (List.replicate d.toNat (0:Int)) (Int.natAbs 1)).1
  exact Nat.le_of_dvd (by decide) this
 simp only [Bool.and_eq_true,decide_eq_true_eq]
 refine ⟨⟨⟨by simp;omega,by decide⟩,?_⟩,by omega⟩
 rw [List.all_eq_true]
 intro x hx
 have:x=0:=(List.mem_replicate.1 hx).2
 subst this
 decide
theorem q04 {d:Int} {l:List (Val qa)} (h:okL d l): ∀a∈((qm d l).2:List (Val qa)),okD d a:=by
 intro a ha
 unfold qm at ha
 cases hb:l.any qbU with
 | true=>
   rw [hb]at ha
   have ha:a∈([(List.replicate d.toNat (0:Int),(1:Int),false)]:List (Val qa)):=ha
   simp only [List.mem_singleton]at ha
   subst ha
   exact qTZ h.1
 | false=>
   rw [hb]at ha
   have ha:a∈qgm (l.filter q6):=ha
   exact h.2.2 a (List.mem_filter.1 (qOP ha)).1
theorem zbZ (d:Int) (l:List (Val qa)):qPf (qm d l):=by
 unfold qm
 cases l.any qbU with
 | true=>exact .inl rfl
 | false=>exact .inr fun a ha=>(List.mem_filter.1 (qOP ha)).2
theorem qsG {c:Val Y33} (h1:0≤(c.1:Int)∧(c.1:Int)≤4) (h2:List.length (α:=Val qa) c.2≤16) (h3: ∀a∈(c.2:List (Val qa)),okD c.1 a):qD c=true:=by
 unfold qD
 simp only [Bool.and_eq_true,decide_eq_true_eq]
 refine ⟨⟨h1,by omega⟩,?_⟩
 rw [List.all_eq_true]
 intro a ha
 obtain ⟨g1,g2⟩:=h3 a ha
 have g1:qA a=true:=g1
 simp only [Bool.and_eq_true,decide_eq_true_eq]
 exact ⟨g1,g2⟩
def okN (d:Int) (c:Val Y33):Prop:=qD c=true∧qPf c∧(c.1:Int)=d
theorem qtU {d:Int} {l:List (Val qa)} (h:okL d l) (hl:List.length (α:=Val qa) (qm d l).2≤16):okN d (qm d l):=
 ⟨qsG (by rw [qDu];exact h.1) hl (by rw [qDu];exact q04 h),zbZ d l,qDu d l⟩
theorem qSW {d:Int} {l:List (Val qa)} (h:okL d l) (h2:(qay d l).2=true):okN d (qay d l).1:=by
 unfold qay at*
 by_cases c:(16:Int)<(List.length (α:=Val qa) (qm d l).2:Int)
 ·rw [decide_eq_true c]at h2;simp at h2
 ·rw [decide_eq_false c]at h2 ⊢;exact qtU h (by omega)
theorem qwo {c:Val Y33} {v:Int} (h:qD c=true) (h2:(qR c v).2=true):okN c.1 (qR c v).1:=by
 obtain ⟨hd,hl,hok⟩:=qaD h
 unfold qR at*
 cases hm:qbr v c.2 c.2 (List.filter (α:=Val qa) (fun a=>decide (cfV v a=0)) c.2)with
 | none=>rw [hm]at h2;simp at h2
 | some s=>
   rw [hm]at h2
   exact qSW (qMm hd hl hok hm) h2
theorem qm3 {c:Val Y33} (h:qD c=true):okL c.1 c.2∧okN c.1 (qm c.1 c.2):=by
 obtain ⟨hd,hl,hok⟩:=qaD h
 have:okL c.1 c.2:=⟨hd,by omega,hok⟩
 exact ⟨this,qtU this (qzv hl)⟩
def qh9 (v:Int):Nat→Val Y33→Option (Val Y33)
 | 0,c=>some c
 | n+1,c=>if (n:Int)=v then qh9 v n c else bif (qR c n).2 then qh9 v n (qR c n).1 else none
end Go.T
