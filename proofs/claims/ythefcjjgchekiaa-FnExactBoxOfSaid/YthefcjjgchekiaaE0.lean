/- Normal cells are cells; all variables dropped. -/
import Derived.Test.YthefcjjgchekiaaB9
set_option linter.unusedSimpArgs false
set_option linter.unusedVariables false
namespace Go.T
open Go Go.Proofs
set_option maxHeartbeats 4000000
set_option maxRecDepth 100000
def qwW (c:Val Y32):Prop:=c=qce c.1∨ ∀a∈(c.2:List (Val Y36)),qZ a=true
theorem qEr {xs:List (Val Y36)} {x:Val Y36} (h:x∈qdR xs):x∈xs:=by
 have go: ∀(xs s:List Atm) {x:Atm},x∈xs.foldl qau s→x∈s∨x∈xs:=by
  intro xs
  induction xs with
  | nil=>intro s x h;exact .inl h
  | cons b r ih=>
    intro s x h
    rcases ih (qau s b) h with h | h
    ·rcases qi8 h with rfl | h
     ·exact .inr (by simp)
     ·exact .inl h
    ·exact .inr (by simp [h])
 rcases go xs [] h with h | h
 ·simp at h
 ·exact h
theorem qMb (xs:List (Val Y36)):(qdR xs).length≤xs.length:=by
 have go: ∀(xs s:List Atm),(xs.foldl qau s).length≤s.length+xs.length:=by
  intro xs
  induction xs with
  | nil=>intro s;simp
  | cons b r ih=>
    intro s
    have h1:=ih (qau s b)
    have h2:=qyN s b
    simp only [List.foldl_cons,List.length_cons]
    omega
 have:=go xs []
 simpa [qdR] using this
theorem qzI (d:Int) (l:List (Val Y36)):((qX d l).1:Int)=d:=by
 unfold qX
 cases l.any qaK<;>rfl
theorem qKp {d:Int} {l:List (Val Y36)} (h:l.length≤16):List.length (α:=Val Y36) (qX d l).2≤16:=by
 unfold qX
 cases l.any qaK with
 | true=>show 1≤16;decide
 | false=>
   have h1:=qMb (l.filter qZ)
   have h2:=List.length_filter_le qZ l
   show (qdR (l.filter qZ)).length≤16
   omega
theorem qJ7 {d:Int} (hd:0≤d∧d≤4):okD d ((List.replicate d.toNat (0:Int),(1:Int),false):Val Y36):=by
 refine ⟨?_,by show ((List.replicate d.toNat (0:Int)).length:Int)=d;rw [List.length_replicate];omega⟩
 show qz _=true
 unfold qz
 have e:gL (Int.natAbs 1) (List.replicate d.toNat (0:Int))≤1:=by
  have:=(qlt (List.replicate d.toNat (0:Int)) (Int.natAbs 1)).1
  exact Nat.le_of_dvd (by decide) this
 simp only [Bool.and_eq_true,decide_eq_true_eq]
 refine ⟨⟨⟨by simp;omega,by decide⟩,?_⟩,by omega⟩
 rw [List.all_eq_true]
 intro x hx
 have:x=0:=(List.mem_replicate.1 hx).2
 subst this
 decide
theorem qJx {d:Int} {l:List (Val Y36)} (h:okL d l): ∀a∈((qX d l).2:List (Val Y36)),okD d a:=by
 intro a ha
 unfold qX at ha
 cases hb:l.any qaK with
 | true=>
   rw [hb]at ha
   have ha:a∈([(List.replicate d.toNat (0:Int),(1:Int),false)]:List (Val Y36)):=ha
   simp only [List.mem_singleton]at ha
   subst ha
   exact qJ7 h.1
 | false=>
   rw [hb]at ha
   have ha:a∈qdR (l.filter qZ):=ha
   exact h.2.2 a (List.mem_filter.1 (qEr ha)).1
theorem qI9 (d:Int) (l:List (Val Y36)):qwW (qX d l):=by
 unfold qX
 cases l.any qaK with
 | true=>exact .inl rfl
 | false=>exact .inr fun a ha=>(List.mem_filter.1 (qEr ha)).2
theorem qRw {c:Val Y32} (h1:0≤(c.1:Int)∧(c.1:Int)≤4) (h2:List.length (α:=Val Y36) c.2≤16) (h3: ∀a∈(c.2:List (Val Y36)),okD c.1 a):qac c=true:=by
 unfold qac
 simp only [Bool.and_eq_true,decide_eq_true_eq]
 refine ⟨⟨h1,by omega⟩,?_⟩
 rw [List.all_eq_true]
 intro a ha
 obtain ⟨g1,g2⟩:=h3 a ha
 have g1:qz a=true:=g1
 simp only [Bool.and_eq_true,decide_eq_true_eq]
 exact ⟨g1,g2⟩
def okN (d:Int) (c:Val Y32):Prop:=qac c=true∧qwW c∧(c.1:Int)=d
theorem qDj {d:Int} {l:List (Val Y36)} (h:okL d l) (hl:List.length (α:=Val Y36) (qX d l).2≤16):okN d (qX d l):=
 ⟨qRw (by rw [qzI];exact h.1) hl (by rw [qzI];exact qJx h),qI9 d l,qzI d l⟩
theorem qSj {d:Int} {l:List (Val Y36)} (h:okL d l) (h2:(qb2 d l).2=true):okN d (qb2 d l).1:=by
 unfold qb2 at*
 by_cases c:(16:Int)<(List.length (α:=Val Y36) (qX d l).2:Int)
 ·rw [decide_eq_true c]at h2;simp at h2
 ·rw [decide_eq_false c]at h2 ⊢;exact qDj h (by omega)
theorem qAq {c:Val Y32} {v:Int} (h:qac c=true) (h2:(qaS c v).2=true):okN c.1 (qaS c v).1:=by
 obtain ⟨hd,hl,hok⟩:=qcI h
 unfold qaS at*
 cases hm:qcn v c.2 c.2 (List.filter (α:=Val Y36) (fun a=>decide (cfV v a=0)) c.2)with
 | none=>rw [hm]at h2;simp at h2
 | some s=>
   rw [hm]at h2
   exact qSj (qqQ hd hl hok hm) h2
theorem qCM {c:Val Y32} (h:qac c=true):okL c.1 c.2∧okN c.1 (qX c.1 c.2):=by
 obtain ⟨hd,hl,hok⟩:=qcI h
 have:okL c.1 c.2:=⟨hd,by omega,hok⟩
 exact ⟨this,qDj this (qKp hl)⟩
def qcL (v:Int):Nat→Val Y32→Option (Val Y32)
 | 0,c=>some c
 | n+1,c=>if (n:Int)=v then qcL v n c else bif (qaS c n).2 then qcL v n (qaS c n).1 else none
theorem qob {d v:Int}: ∀(k:Nat) {x y:Val Y32},okN d x→qcL v k x=some y→okN d y
 | 0,x,y,hx,h=>by simp only [qcL,Option.some.injEq]at h;subst h;exact hx
 | k+1,x,y,hx,h=>by
   rw [qcL]at h
   by_cases hk:(k:Int)=v
   ·rw [if_pos hk]at h;exact qob k hx h
   ·rw [if_neg hk]at h
    cases hm:(qaS x k).2 with
    | false=>rw [hm]at h;simp at h
    | true=>
      rw [hm]at h
      have hN:=qAq hx.1 hm
      rw [hx.2.2]at hN
      exact qob k hN h
end Go.T
