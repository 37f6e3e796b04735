/- Normal cells are cells; all variables dropped. -/
import Derived.Test.YthefcjjgchekiaaGreatB9
set_option linter.unusedSimpArgs false
set_option linter.unusedVariables false
namespace Go.T
open Go Go.Proofs
set_option maxHeartbeats 4000000
set_option maxRecDepth 100000
def qzr (c:Val Y33):Prop:=c=qa8 c.1∨ ∀a∈(c.2:List (Val qa)),qaz a=true
theorem q9j {xs:List (Val qa)} {x:Val qa} (h:x∈qgX xs):x∈xs:=by
 have go: ∀(xs s:List Atm) {x:Atm},x∈xs.foldl qba s→x∈s∨x∈xs:=by
  intro xs
  induction xs with
  | nil=>intro s x h;exact .inl h
  | cons b r ih=>
    intro s x h
    rcases ih (qba s b) h with h | h
    ·rcases qsI h with rfl | h
     ·exact .inr (by simp)
     ·exact .inl h
    ·exact .inr (by simp [h])
 rcases go xs [] h with h | h
 ·simp at h
 ·exact h
theorem zpT (xs:List (Val qa)):(qgX xs).length≤xs.length:=by
 have go: ∀(xs s:List Atm),(xs.foldl qba s).length≤s.length+xs.length:=by
  intro xs
  induction xs with
  | nil=>intro s;simp
  | cons b r ih=>
    intro s
    have h1:=ih (qba s b)
    have h2:=qJE s b
    simp only [List.foldl_cons,List.length_cons]
    omega
 have:=go xs []
 simpa [qgX] using this
theorem qWy (d:Int) (l:List (Val qa)):((qv d l).1:Int)=d:=by
 unfold qv
 cases l.any qc3<;>rfl
theorem q63 {d:Int} {l:List (Val qa)} (h:l.length≤16):List.length (α:=Val qa) (qv d l).2≤16:=by
 unfold qv
 cases l.any qc3 with
 | true=>show 1≤16;decide
 | false=>
   have h1:=zpT (l.filter qaz)
   have h2:=List.length_filter_le qaz l
   show (qgX (l.filter qaz)).length≤16
   omega
theorem q5o {d:Int} (hd:0≤d∧d≤4):okD d ((List.replicate d.toNat (0:Int),(1:Int),false):Val qa):=by
 refine ⟨?_,by show ((List.replicate d.toNat (0:Int)).length:Int)=d;rw [List.length_replicate];omega⟩
 show qP _=true
 unfold qP
 have e:gL (Int.natAbs 1) (List.replicate d.toNat (0:Int))≤1:=by
  have:=(qt2 (List.replicate d.toNat (0:Int)) (Int.natAbs 1)).1
  exact Nat.le_of_dvd (by decide) this
 simp only [Bool.and_eq_true,decide_eq_true_eq]
 refine ⟨⟨⟨by simp;omega,by decide⟩,?_⟩,by omega⟩
 rw [List.all_eq_true]
 intro x hx
 have:x=0:=(List.mem_replicate.1 hx).2
 subst this
 decide
theorem zdl {d:Int} {l:List (Val qa)} (h:okL d l): ∀a∈((qv d l).2:List (Val qa)),okD d a:=by
 intro a ha
 unfold qv at ha
 cases hb:l.any qc3 with
 | true=>
   rw [hb]at ha
   have ha:a∈([(List.replicate d.toNat (0:Int),(1:Int),false)]:List (Val qa)):=ha
   simp only [List.mem_singleton]at ha
   subst ha
   exact q5o h.1
 | false=>
   rw [hb]at ha
   have ha:a∈qgX (l.filter qaz):=ha
   exact h.2.2 a (List.mem_filter.1 (q9j ha)).1
theorem zgw (d:Int) (l:List (Val qa)):qzr (qv d l):=by
 unfold qv
 cases l.any qc3 with
 | true=>exact .inl rfl
 | false=>exact .inr fun a ha=>(List.mem_filter.1 (q9j ha)).2
theorem qDM {c:Val Y33} (h1:0≤(c.1:Int)∧(c.1:Int)≤4) (h2:List.length (α:=Val qa) c.2≤16) (h3: ∀a∈(c.2:List (Val qa)),okD c.1 a):qz c=true:=by
 unfold qz
 simp only [Bool.and_eq_true,decide_eq_true_eq]
 refine ⟨⟨h1,by omega⟩,?_⟩
 rw [List.all_eq_true]
 intro a ha
 obtain ⟨g1,g2⟩:=h3 a ha
 have g1:qP a=true:=g1
 simp only [Bool.and_eq_true,decide_eq_true_eq]
 exact ⟨g1,g2⟩
def okN (d:Int) (c:Val Y33):Prop:=qz c=true∧qzr c∧(c.1:Int)=d
theorem qYU {d:Int} {l:List (Val qa)} (h:okL d l) (hl:List.length (α:=Val qa) (qv d l).2≤16):okN d (qv d l):=
 ⟨qDM (by rw [qWy];exact h.1) hl (by rw [qWy];exact zdl h),zgw d l,qWy d l⟩
theorem qZL {d:Int} {l:List (Val qa)} (h:okL d l) (h2:(qbn d l).2=true):okN d (qbn d l).1:=by
 unfold qbn at*
 by_cases c:(16:Int)<(List.length (α:=Val qa) (qv d l).2:Int)
 ·rw [decide_eq_true c]at h2;simp at h2
 ·rw [decide_eq_false c]at h2 ⊢;exact qYU h (by omega)
theorem qHD {c:Val Y33} {v:Int} (h:qz c=true) (h2:(qaq c v).2=true):okN c.1 (qaq c v).1:=by
 obtain ⟨hd,hl,hok⟩:=qaG h
 unfold qaq at*
 cases hm:qcT v c.2 c.2 (List.filter (α:=Val qa) (fun a=>decide (cfV v a=0)) c.2)with
 | none=>rw [hm]at h2;simp at h2
 | some s=>
   rw [hm]at h2
   exact qZL (qMy hd hl hok hm) h2
theorem qe4 {c:Val Y33} (h:qz c=true):okL c.1 c.2∧okN c.1 (qv c.1 c.2):=by
 obtain ⟨hd,hl,hok⟩:=qaG h
 have:okL c.1 c.2:=⟨hd,by omega,hok⟩
 exact ⟨this,qYU this (q63 hl)⟩
def qch (v:Int):Nat→Val Y33→Option (Val Y33)
 | 0,c=>some c
 | n+1,c=>if (n:Int)=v then qch v n c else bif (qaq c n).2 then qch v n (qaq c n).1 else none
theorem qDu {d v:Int}: ∀(k:Nat) {x y:Val Y33},okN d x→qch v k x=some y→okN d y
 | 0,x,y,hx,h=>by simp only [qch,Option.some.injEq]at h;subst h;exact hx
 | k+1,x,y,hx,h=>by
   rw [qch]at h
   by_cases hk:(k:Int)=v
   ·rw [if_pos hk]at h;exact qDu k hx h
   ·rw [if_neg hk]at h
    cases hm:(qaq x k).2 with
    | false=>rw [hm]at h;simp at h
    | true=>
      rw [hm]at h
      have hN:=qHD hx.1 hm
      rw [hx.2.2]at hN
      exact qDu k hN h
end Go.T
