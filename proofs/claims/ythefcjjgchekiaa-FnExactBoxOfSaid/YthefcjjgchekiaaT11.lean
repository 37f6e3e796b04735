/- T: the library's Grow of a nil slice. -/
import Derived.Test.YthefcjjgchekiaaT10
import Derived.Shelf.Spec.SlicesGrow
import Derived.KernelRfl
set_option linter.unusedSimpArgs false
set_option linter.unusedVariables false
namespace Go.T
open Go Go.Proofs Go.Shelf Go.RowKit Go.Lib
end Go.T
/- Plain: the order of atoms; normal lists of atoms. -/
namespace Go.T
structure Cmp {α:Type} (c:α→α→Int):Prop where
 anti: ∀x y,c x y= - c y x
 tr: ∀x y z,c x y≤0→c y z≤0→c x z≤0
namespace Cmp
variable {α : Type} {c d : α → α → Int}
theorem self (h:Cmp c) (x:α):c x x=0:=by have:=h.anti x x;omega
theorem lt_le (h:Cmp c) {x y z:α} (h1:c x y<0) (h2:c y z≤0):c x z<0:=by
 have h3:=h.tr x y z (by omega) h2
 rcases Int.lt_or_eq_of_le h3 with h4 | h4
 ·exact h4
 ·have h5:=h.anti x z
  have h6:=h.tr y z x h2 (by omega)
  have h7:=h.anti x y
  omega
theorem le_lt (h:Cmp c) {x y z:α} (h1:c x y≤0) (h2:c y z<0):c x z<0:=by
 have h3:=h.tr x y z h1 (by omega)
 rcases Int.lt_or_eq_of_le h3 with h4 | h4
 ·exact h4
 ·have h5:=h.anti x z
  have h6:=h.tr z x y (by omega) h1
  have h7:=h.anti y z
  omega
theorem eq_tr (h:Cmp c) {x y z:α} (h1:c x y=0) (h2:c y z=0):c x z=0:=by
 have h3:=h.tr x y z (by omega) (by omega)
 have h4:=h.anti x y
 have h5:=h.anti y z
 have h6:=h.tr z y x (by omega) (by omega)
 have h7:=h.anti x z
 omega
theorem lex (h:Cmp c) (g:Cmp d):Cmp fun x y=>if c x y=0 then d x y else c x y:=by
 refine ⟨fun x y=> ?_,fun x y z h1 h2=> ?_⟩
 ·have:=h.anti x y
  have:=g.anti x y
  split<;>split<;>omega
 ·have e1:c x y≤0:=by split at h1<;>omega
  have e2:c y z≤0:=by split at h2<;>omega
  have e3:=h.tr x y z e1 e2
  split
  ·rename_i e4
   have e5:=h.anti x z
   have e6:=h.tr y z x e2 (by omega)
   have e7:=h.anti x y
   have e8:=h.tr z x y (by omega) e1
   have e9:=h.anti y z
   rw [if_pos (by omega)]at h1 h2
   exact g.tr x y z h1 h2
  ·exact e3
theorem on {β:Type} (h:Cmp c) (f:β→α):Cmp fun x y=>c (f x) (f y):=⟨fun _ _=>h.anti _ _,fun _ _ _=>h.tr _ _ _⟩
end Cmp
def qaJ:List Int→List Int→Int
 | [],[]=>0
 | [],_::_=> -1
 | _::_,[]=>1
 | x::xs,y::ys=>if x<y then -1 else if y<x then 1 else qaJ xs ys
theorem qCR: ∀x y,qaJ x y= - qaJ y x
 | [],[]=>rfl
 | [],_::_=>rfl
 | _::_,[]=>rfl
 | x::xs,y::ys=>by
   have:=qCR xs ys
   simp only [qaJ]
   split<;>split<;>(try split)<;>omega
theorem qEP: ∀x y z,qaJ x y≤0→qaJ y z≤0→qaJ x z≤0
 | [],_,[],_,_=>by simp [qaJ]
 | [],_,_::_,_,_=>by simp [qaJ]
 | _::_,[],_,h,_=>by simp [qaJ]at h
 | _::_,_::_,[],_,h=>by simp [qaJ]at h
 | x::xs,y::ys,z::zs,h1,h2=>by
   simp only [qaJ]at*
   have ih:=qEP xs ys zs
   by_cases a:x<y
   ·by_cases b:y<z
    ·rw [if_pos (by omega)];omega
    ·rw [if_neg b]at h2
     by_cases b':z<y
     ·rw [if_pos b']at h2;omega
     ·rw [if_pos (by omega)];omega
   ·rw [if_neg a]at h1
    by_cases a':y<x
    ·rw [if_pos a']at h1;omega
    ·rw [if_neg a']at h1
     by_cases b:y<z
     ·rw [if_pos (by omega)];omega
     ·rw [if_neg b]at h2
      by_cases b':z<y
      ·rw [if_pos b']at h2;omega
      ·rw [if_neg b']at h2
       rw [if_neg (by omega),if_neg (by omega)]
       exact ih h1 h2
theorem qIl:Cmp qaJ:=⟨qCR,qEP⟩
theorem qE8: ∀{x y:List Int},qaJ x y=0→x=y
 | [],[],_=>rfl
 | [],_::_,h=>by simp [qaJ]at h
 | _::_,[],h=>by simp [qaJ]at h
 | x::xs,y::ys,h=>by
   simp only [qaJ]at h
   split at h
   ·omega
   ·split at h
    ·omega
    ·rw [qE8 h,show x=y by omega]
def gL:Nat→List Int→Nat
 | g,[]=>g
 | g,x::r=>gL (Nat.gcd g x.natAbs) r
theorem qmU: ∀(xs:List Int) (a b:Nat),gL (Nat.gcd a b) xs=Nat.gcd (gL a xs) b
 | [],_,_=>rfl
 | x::r,a,b=>by
   simp only [gL]
   rw [←qmU r]
   congr 1
   rw [Nat.gcd_assoc,Nat.gcd_comm b,←Nat.gcd_assoc]
theorem qlt: ∀(xs:List Int) (g:Nat),gL g xs ∣ g∧ ∀x∈xs,gL g xs ∣ x.natAbs
 | [],g=>⟨Nat.dvd_refl g,fun x hx=>by simp at hx⟩
 | x::r,g=>by
   obtain ⟨h1,h2⟩:=qlt r (Nat.gcd g x.natAbs)
   refine ⟨Nat.dvd_trans h1 (Nat.gcd_dvd_left _ _),fun y hy=> ?_⟩
   rcases List.mem_cons.1 hy with rfl | hy
   ·exact Nat.dvd_trans h1 (Nat.gcd_dvd_right _ _)
   ·exact h2 y hy
theorem qqE {xs:List Int}:gL 0 xs=0↔ ∀x∈xs,x=0:=by
 constructor
 ·intro h x hx
  have:=(qlt xs 0).2 x hx
  rw [h]at this
  have:=Nat.eq_zero_of_zero_dvd this
  omega
 ·intro h
  induction xs with
  | nil=>rfl
  | cons x r ih=>
    have h0:=h x (by simp)
    subst h0
    exact ih fun y hy=>h y (by simp [hy])
abbrev Atm:=List Int×Int×Bool
def gS (a:Atm):Nat:=max 1 (gL 0 a.1)
def qmE (a:Atm):List Int:=a.1.map fun x=>x.tdiv (gS a:Int)
def sgI (n:Int):Int:=if n<0 then -1 else if 0<n then 1 else 0
def way (a b:Atm):Int:=qaJ (qmE a) (qmE b)
def qd8 (a b:Atm):Int:=sgI (a.2.1*gS b - b.2.1*gS a)
def stc (a b:Atm):Int:=if a.2.2=b.2.2 then 0 else if a.2.2 then 1 else -1
def qaA (a b:Atm):Int:=if way a b=0 then (if qd8 a b=0 then stc a b else qd8 a b)else way a b
theorem qcR (a:Atm):(0:Int)<gS a:=by unfold gS;omega
theorem qbl:Cmp way:=qIl.on qmE
theorem qPZ:Cmp qd8:=by
 refine ⟨fun a b=> ?_,fun a b c h1 h2=> ?_⟩
 ·unfold qd8 sgI
  split<;>split<;>(try split)<;>(try split)<;>omega
 ·have le: ∀x:Int,sgI x≤0↔x≤0:=fun x=>by unfold sgI;split<;>(try split)<;>omega
  unfold qd8 at*
  rw [le]at*
  have ga:=qcR a;have gb:=qcR b;have gc:=qcR c
  generalize (gS a:Int)=p at*
  generalize (gS b:Int)=q at*
  generalize (gS c:Int)=r at*
  have h1:a.2.1*q≤b.2.1*p:=by omega
  have h2:b.2.1*r≤c.2.1*q:=by omega
  have e1:(a.2.1*q)*r≤(b.2.1*p)*r:=Int.mul_le_mul_of_nonneg_right h1 (by omega)
  have e2:(b.2.1*r)*p≤(c.2.1*q)*p:=Int.mul_le_mul_of_nonneg_right h2 (by omega)
  have e3:(b.2.1*p)*r=(b.2.1*r)*p:=by rw [Int.mul_assoc,Int.mul_comm p r,←Int.mul_assoc]
  have e4:(a.2.1*r)*q≤(c.2.1*p)*q:=by
   have:(a.2.1*r)*q=(a.2.1*q)*r:=by rw [Int.mul_assoc,Int.mul_comm r q,←Int.mul_assoc]
   have:(c.2.1*p)*q=(c.2.1*q)*p:=by rw [Int.mul_assoc,Int.mul_comm p q,←Int.mul_assoc]
   omega
  have:=Int.le_of_mul_le_mul_right e4 gb
  omega
theorem qN1:Cmp stc:=by
 refine ⟨fun a b=> ?_,fun a b c=> ?_⟩
 ·unfold stc;cases a.2.2<;>cases b.2.2<;>decide
 ·unfold stc;cases a.2.2<;>cases b.2.2<;>cases c.2.2<;>decide
theorem qcb:Cmp qaA:=qbl.lex (qPZ.lex qN1)
def qe4 (a:Atm):Prop:=gL 0 a.1≠0∧gL a.2.1.natAbs a.1≤1
theorem qDS {a:Atm}:a.1=(qmE a).map fun x=>x*(gS a:Int):=by
 unfold qmE
 rw [List.map_map]
 conv=>lhs;rw [←List.map_id a.1]
 apply List.map_congr_left
 intro x hx
 have hd:((gS a:Nat):Int) ∣ x:=by
  have h:=(qlt a.1 0).2 x hx
  have hg:gS a ∣ x.natAbs:=by
   unfold gS
   by_cases h0:gL 0 a.1=0
   ·rw [h0];exact Nat.one_dvd _
   ·rw [Nat.max_eq_right (by omega)];exact h
  exact Int.ofNat_dvd_left.2 hg
 exact (Int.tdiv_mul_cancel hd).symm
theorem qCJ {a b:Atm} (ha:qe4 a) (hb:qe4 b) (h:qaA a b=0):a=b:=by
 unfold qaA at h
 split at h
 ·rename_i h1
  split at h
  ·rename_i h2
   have hd:=qE8 h1
   have hs:a.2.2=b.2.2:=by
        unfold stc at h
        split at h
        ·assumption
        ·split at h<;>omega
   have e:a.2.1*gS b=b.2.1*gS a:=by
        unfold qd8 sgI at h2
        split at h2
        ·omega
        ·split at h2<;>omega
   have cop: ∀x:Atm,qe4 x→Nat.gcd (gS x) x.2.1.natAbs=1:=fun x hx=>by
        have e1:gL x.2.1.natAbs x.1=Nat.gcd (gL 0 x.1) x.2.1.natAbs:=by rw [←qmU,Nat.gcd_zero_left]
        have e2:gS x=gL 0 x.1:=Nat.max_eq_right (by have:=hx.1;omega)
        rw [e2,←e1]
        have h1:=hx.2
        have h2:gL x.2.1.natAbs x.1≠0:=by
         rw [e1];intro h0
         exact hx.1 (Nat.eq_zero_of_gcd_eq_zero_left h0)
        omega
   have e':a.2.1.natAbs*gS b=b.2.1.natAbs*gS a:=by
        have:=congrArg Int.natAbs e
        simpa [Int.natAbs_mul] using this
   have d1:gS a ∣ gS b:=by
        have:gS a ∣ a.2.1.natAbs*gS b:=⟨b.2.1.natAbs,by rw [e',Nat.mul_comm]⟩
        exact (Nat.Coprime.dvd_of_dvd_mul_left (cop a ha) this)
   have d2:gS b ∣ gS a:=by
        have:gS b ∣ b.2.1.natAbs*gS a:=⟨a.2.1.natAbs,by rw [←e',Nat.mul_comm]⟩
        exact (Nat.Coprime.dvd_of_dvd_mul_left (cop b hb) this)
   have hg:gS a=gS b:=Nat.dvd_antisymm d1 d2
   have hc:a.2.1=b.2.1:=by
        rw [hg]at e
        exact Int.eq_of_mul_eq_mul_right (by have:=qcR b;omega) e
   have h1:a.1=b.1:=by rw [qDS (a:=a),qDS (a:=b),hg,hd]
   exact Prod.ext h1 (Prod.ext hc hs)
  ·rename_i h2;exact absurd h h2
 ·rename_i h1;exact absurd h h1
structure NormOf (xs l:List Atm):Prop where
 ord:l.Pairwise fun a b=>way a b<0
 mem: ∀a∈l,a∈xs
 top: ∀a∈xs,∃b∈l,way a b=0∧qaA a b≤0
theorem qH8 {l:List Atm} (h:l.Pairwise fun a b=>way a b<0) {a b:Atm} (ha:a∈l) (hb:b∈l) (e:way a b=0):a=b:=by
 obtain ⟨i,hi,rfl⟩:=List.mem_iff_getElem.1 ha
 obtain ⟨j,hj,rfl⟩:=List.mem_iff_getElem.1 hb
 rw [List.pairwise_iff_getElem]at h
 rcases Nat.lt_trichotomy i j with h1 | h1 | h1
 ·have:=h i j hi hj h1;omega
 ·subst h1;rfl
 ·have:=h j i hj hi h1
  have:=qbl.anti l[i] l[j]
  omega
theorem qEN: ∀{l l':List Atm},l.Pairwise (fun a b=>way a b<0)→l'.Pairwise (fun a b=>way a b<0)→(∀a,a∈l↔a∈l')→l=l'
 | [],[],_,_,_=>rfl
 | [],b::r',_,_,h=>by have:=(h b).2 (by simp);simp at this
 | a::r,[],_,_,h=>by have:=(h a).1 (by simp);simp at this
 | a::r,b::r',h1,h2,h=>by
   obtain ⟨p1,p2⟩:=List.pairwise_cons.1 h1
   obtain ⟨q1,q2⟩:=List.pairwise_cons.1 h2
   have e:a=b:=by
    rcases List.mem_cons.1 ((h a).1 (by simp))with e | e
    ·exact e
    ·rcases List.mem_cons.1 ((h b).2 (by simp))with f | f
     ·exact f.symm
     ·have:=p1 b f
      have:=q1 a e
      have:=qbl.anti a b
      omega
   subst e
   rw [qEN p2 q2 fun x=> ?_]
   have:=h x
   constructor
   ·intro hx
    rcases List.mem_cons.1 (this.1 (by simp [hx]))with e | e
    ·subst e
     have:=p1 x hx
     have:=qbl.self x
     omega
    ·exact e
   ·intro hx
    rcases List.mem_cons.1 (this.2 (by simp [hx]))with e | e
    ·subst e
     have:=q1 x hx
     have:=qbl.self x
     omega
    ·exact e
theorem qMo {xs l l':List Atm} (hx: ∀a∈xs,qe4 a) (h:NormOf xs l) (h':NormOf xs l'):l=l':=by
 have half: ∀{l l':List Atm},NormOf xs l→NormOf xs l'→ ∀a∈l,a∈l':=fun {l l'} h h' a ha=>by
  obtain ⟨b,hb,w1,c1⟩:=h'.top a (h.mem a ha)
  obtain ⟨c,hc,w2,c2⟩:=h.top b (h'.mem b hb)
  have:a=c:=qH8 h.ord ha hc (qbl.eq_tr w1 w2)
  subst this
  have e:qaA a b=0:=by have:=qcb.anti a b;omega
  rw [qCJ (hx a (h.mem a ha)) (hx b (h'.mem b hb)) e]
  exact hb
 exact qEN h.ord h'.ord fun a=>⟨half h h' a,half h' h a⟩
def qau:List Atm→Atm→List Atm
 | [],a=>[a]
 | b::r,a=>if way b a<0 then b::qau r a else if way b a=0 then (if qaA a b≤0 then b::r else a::r)else a::b::r
def qdR (xs:List Atm):List Atm:=xs.foldl qau []
theorem qi8: ∀{l:List Atm} {a x:Atm},x∈qau l a→x=a∨x∈l
 | [],a,x,h=>by simp [qau]at h;exact .inl h
 | b::r,a,x,h=>by
   simp only [qau]at h
   split at h
   ·rcases List.mem_cons.1 h with e | e
    ·exact .inr (by simp [e])
    ·rcases qi8 e with e | e
     ·exact .inl e
     ·exact .inr (by simp [e])
   ·split at h
    ·split at h
     ·exact .inr h
     ·rcases List.mem_cons.1 h with e | e
      ·exact .inl e
      ·exact .inr (by simp [e])
    ·rcases List.mem_cons.1 h with e | e
     ·exact .inl e
     ·exact .inr e
theorem qDs: ∀{l:List Atm} {a:Atm},l.Pairwise (fun a b=>way a b<0)→(qau l a).Pairwise (fun a b=>way a b<0)
 | [],a,_=>by simp [qau]
 | b::r,a,h=>by
   obtain ⟨p1,p2⟩:=List.pairwise_cons.1 h
   simp only [qau]
   split
   ·rename_i h1
    refine List.pairwise_cons.2 ⟨fun x hx=> ?_,qDs p2⟩
    rcases qi8 hx with rfl | hx
    ·exact h1
    ·exact p1 x hx
   ·split
    ·rename_i h1 h2
     split
     ·exact h
     ·refine List.pairwise_cons.2 ⟨fun x hx=> ?_,p2⟩
      have:=qbl.anti a b
      exact qbl.le_lt (by omega) (p1 x hx)
    ·rename_i h1 h2
     have:=qbl.anti a b
     refine List.pairwise_cons.2 ⟨fun x hx=> ?_,h⟩
     rcases List.mem_cons.1 hx with rfl | hx
     ·omega
     ·exact qbl.lt_le (by omega) (Int.le_of_lt (p1 x hx))
theorem qqM: ∀{l:List Atm} {a x:Atm},(x=a∨ ∃b∈l,way x b=0∧qaA x b≤0)→ ∃b∈qau l a,way x b=0∧qaA x b≤0
 | [],a,x,h=>by
   rcases h with rfl | ⟨b,hb,_⟩
   ·exact ⟨x,by simp [qau],qbl.self x,by rw [qcb.self];omega⟩
   ·simp at hb
 | b::r,a,x,h=>by
   simp only [qau]
   split
   ·rename_i h1
    rcases h with rfl | ⟨c,hc,h2⟩
    ·obtain ⟨c,hc,h2⟩:=qqM (l:=r) (a:=x) (x:=x) (.inl rfl)
     exact ⟨c,by simp [hc],h2⟩
    ·rcases List.mem_cons.1 hc with rfl | hc
     ·exact ⟨c,by simp,h2⟩
     ·obtain ⟨c',hc',h3⟩:=qqM (l:=r) (a:=a) (x:=x) (.inr ⟨c,hc,h2⟩)
      exact ⟨c',by simp [hc'],h3⟩
   ·split
    ·rename_i h1 h2
     have hab:=qbl.anti a b
     split
     ·rename_i h3
      rcases h with rfl | h
      ·exact ⟨b,by simp,by omega,h3⟩
      ·exact h
     ·rename_i h3
      have hc:=qcb.anti a b
      rcases h with rfl | ⟨c,hc',h4⟩
      ·exact ⟨x,by simp,qbl.self x,by rw [qcb.self];omega⟩
      ·rcases List.mem_cons.1 hc' with rfl | hc'
       ·exact ⟨a,by simp,qbl.eq_tr h4.1 h2,qcb.tr x c a h4.2 (by omega)⟩
       ·exact ⟨c,by simp [hc'],h4⟩
    ·rcases h with rfl | ⟨c,hc,h2⟩
     ·exact ⟨x,by simp,qbl.self x,by rw [qcb.self];omega⟩
     ·exact ⟨c,by simp only [List.mem_cons]at hc ⊢;exact .inr hc,h2⟩
theorem qFY: ∀(xs ys l:List Atm),NormOf ys l→NormOf (ys++xs) (xs.foldl qau l)
 | [],ys,l,h=>by simpa using h
 | a::xs,ys,l,h=>by
   have:NormOf (ys++[a]) (qau l a):=⟨qDs h.ord,fun x hx=>by
    rcases qi8 hx with rfl | hx
    ·simp
    ·simp [h.mem x hx],fun x hx=>by
    refine qqM ?_
    rcases List.mem_append.1 hx with hx | hx
    ·exact .inr (h.top x hx)
    ·exact .inl (by simpa using hx)⟩
   have:=qFY xs (ys++[a]) (qau l a) this
   simpa using this
theorem qNg (xs:List Atm):NormOf xs (qdR xs):=by simpa [qdR] using qFY xs [] [] ⟨List.Pairwise.nil,fun a h=>by simp at h,fun a h=>by simp at h⟩
def qgP (xs:List Atm):List Atm:=xs.mergeSort fun a b=>decide (qaA a b≤0)
theorem qnB (xs:List Atm):(qgP xs).Perm xs:=List.mergeSort_perm _ _
theorem qDo (xs:List Atm):(qgP xs).Pairwise fun a b=>qaA a b≤0:=by
 have:=List.pairwise_mergeSort (le:=fun a b=>decide (qaA a b≤0)) (fun a b c h1 h2=>by
  simp only [decide_eq_true_eq]at*;exact qcb.tr a b c h1 h2) (fun a b=>by
  have:=qcb.anti a b
  simp only [Bool.or_eq_true,decide_eq_true_eq];omega) xs
 exact this.imp fun h=>by simpa using h
theorem qMg {xs ys:List Atm} (hx: ∀a∈xs,qe4 a) (hp:ys.Perm xs) (ho:ys.Pairwise fun a b=> ¬qaA b a<0):ys=qgP xs:=by
 refine List.Perm.eq_of_pairwise (le:=fun a b=>qaA a b≤0) (fun a b ha hb h1 h2=> ?_) (ho.imp fun {a b} h=>by have:=qcb.anti a b;omega) (qDo xs) (hp.trans (qnB xs).symm)
 have:=qcb.anti a b
 exact qCJ (hx a (hp.mem_iff.1 ha)) (hx b ((qnB xs).mem_iff.1 hb)) (by omega)
def qdA (S:List Atm) (i:Nat):Bool:=decide (i+1<S.length)&&decide (way (S.getD i ([],0,false)) (S.getD (i+1) ([],0,false))=0)
def qeI (S:List Atm):List Nat:=(List.range S.length).filter fun i=> !qdA S i
theorem qQs (S:List Atm):(qeI S).Nodup:=(List.nodup_range).filter _
theorem qoc {S:List Atm} {i:Nat} (h:i∈qeI S):i<S.length:=by
 have:=(List.mem_filter.1 h).1;simpa using this
theorem qC3 {a b:Atm} (h:qaA a b≤0):way a b≤0:=by
 unfold qaA at h;split at h<;>omega
theorem qGr {xs S:List Atm} (hp:S.Perm xs) (ho:S.Pairwise fun a b=>qaA a b≤0):NormOf xs ((qeI S).map fun i=>S.getD i ([],0,false)):=by
 have hat: ∀{i:Nat} (h:i<S.length),S.getD i ([],0,false)=S[i]:=fun h=>by simp [List.getD,h]
 have ho':=List.pairwise_iff_getElem.1 ho
 have ge: ∀i j (h1:i<S.length) (h2:j<S.length),i≤j→qaA S[i] S[j]≤0:=fun i j h1 h2 h=>by
  rcases Nat.lt_or_eq_of_le h with h | h
  ·exact ho' i j h1 h2 h
  ·subst h;rw [qcb.self];omega
 refine ⟨?_,fun a ha=> ?_,fun a ha=> ?_⟩
 ·rw [List.pairwise_map]
  have hlt:(qeI S).Pairwise (· < ·):=(List.pairwise_lt_range).filter _
  refine hlt.imp_of_mem fun {i j} hi hj hij=> ?_
  have h1:=qoc hi
  have h2:=qoc hj
  rw [hat h1,hat h2]
  have hk:=(List.mem_filter.1 hi).2
  simp only [qdA,Bool.not_eq_true',Bool.and_eq_false_iff,decide_eq_false_iff_not]at hk
  have h3:i+1<S.length:=by omega
  have hne:way S[i] S[i+1]≠0:=by
   rcases hk with hk | hk
   ·omega
   ·rwa [hat h1,hat h3]at hk
  have l1:=qC3 (ge i (i+1) h1 h3 (by omega))
  have l2:=qC3 (ge (i+1) j h3 h2 (by omega))
  exact qbl.lt_le (by omega) l2
 ·obtain ⟨i,hi,rfl⟩:=List.mem_map.1 ha
  rw [hat (qoc hi)]
  exact hp.mem_iff.1 (List.getElem_mem _)
 ·obtain ⟨i,hi,rfl⟩:=List.mem_iff_getElem.1 (hp.mem_iff.2 ha)
  have: ∀n i (hi:i<S.length),S.length - i≤n→ ∃j,∃hj:j<S.length,j∈qeI S∧i≤j∧way S[i] S[j]=0:=fun n=>by
   induction n with
   | zero=>intro i hi hn;omega
   | succ n ih=>
     intro i hi hn
     cases hk:qdA S i with
     | false=>exact ⟨i,hi,List.mem_filter.2 ⟨by simpa using hi,by simp [hk]⟩,Nat.le_refl _,qbl.self _⟩
     | true=>
       simp only [qdA,Bool.and_eq_true,decide_eq_true_eq]at hk
       obtain ⟨h1,h2⟩:=hk
       rw [hat hi,hat h1]at h2
       obtain ⟨j,hj,h3,h4,h5⟩:=ih (i+1) h1 (by omega)
       exact ⟨j,hj,h3,by omega,qbl.eq_tr h2 h5⟩
  obtain ⟨j,hj,h1,h2,h3⟩:=this _ i hi (Nat.le_refl _)
  exact ⟨S[j],List.mem_map.2 ⟨j,h1,hat hj⟩,h3,ge i j hi hj h2⟩
theorem qJY {xs:List Atm} (hx: ∀a∈xs,qe4 a):((qeI (qgP xs)).map fun i=>(qgP xs).getD i ([],0,false))=qdR xs:=qMo hx (qGr (qnB xs) (qDo xs)) (qNg xs)
end Go.T
/- T: functions that are handed the address of a box of their caller's. -/
namespace Go.T
open Go
structure Gb where
 t:TI
 ps:List TI
 rs:List TI
 pre:Val t.ty→qb ps→Prop
 fv:Val t.ty→qb ps→Val t.ty
 fn:Val t.ty→qb ps→qb rs
structure SoundB (P:Program) (f:FuncId) (g:Gb):Prop where
 enters:qcH P f
 runs: ∀(v:Val g.t.ty) (x:qb g.ps),g.pre v x→ ∀(w:World) (b:Nat) (arr:Array Value) (ty:TypeId) (B:List Nat) (ext:Nat→Prop) (us:List Value),
  w.heap[b]?=some (.cells arr ty (0,0))→M w g.t.ty v arr.toList B→B.Nodup→b∉B→VKs w ext g.ps x us→(∀k,w.heap.size≤k→ext k)→(∀k,ext k→k<w.heap.size→k≠b∧k∉B)→
  Calls P f (Value.pointer (some ⟨b,0,none⟩)::us).toArray w fun e w'=> ∃rv,e= .returned (qc8 rv)∧Fr (fun k=>k=b∨k∈B) w w'∧VKs w' (fun _=>True) g.rs (g.fn v x) rv∧
   ∃arr' ty' B',w'.heap[b]?=some (.cells arr' ty' (0,0))∧M w' g.t.ty (g.fv v x) arr'.toList B'∧B'.Nodup∧b∉B'∧ ∀k∈B',k∈B∨w.heap.size≤k
def qHG (t:TI) (ps:List TI) (ntmps:Nat) (v:Val t.ty) (x:qb ps):St:={env:= .one (.ptr 0 0 0)::((qc5 0 ps x).map LV1.lv++List.replicate (ntmps - (ps.length+1)) (.tup [])),heap:= .box (qF 1 t.ty v).1::(qF 1 t.ty v).2}
def qRn (tt:TT) (t:TI) (rs:List TI) (rvs:List ResultVar) (st:St):Option (Val t.ty×qb rs):=match qcK tt st rvs with
 | some ls=>match qa1 st.heap rs ls,st.heap[0]? with
   | some y,some (Blk.box cs)=>match qo st.heap t.ty cs with
     | some (v,[])=>bif qai st.heap cs&&qcd (qj cs)then some (v,y)else none
     | _=>none
   | _,_=>none
 | none=>none
section
variable {P : Program} {tt : TT} {Γ : Gam} {w0 w w' : World} {mine : Mine} {m m' : Mp} {h : List Blk} {st : St} {a : Act}
end
end Go.T
/- T: calls that are handed the address of a box of the call's own; calls of function values. -/
namespace Go.T
open Go
def qz4 (h:List Blk) (L:Nat) (ids:List Nat):LC→Bool
 | .sl _ _ _ n=>decide (n≤L)
 | .tptr .. =>false
 | .ptr .. =>false
 | .own id=> !ids.contains id&&match h[id]? with
   | some (Blk.row _ _ _ true _ _)=>true
   | some (Blk.row _ _ _ false _ n)=>decide (n≤L)
   | _=>false
 | _=>true
def qB8:List TI→Bool
 | []=>true
 | ti::r=>ti.ty.flat&&qB8 r
def qDv (st:St) (id:Nat) (ids:List Nat) (L:Nat) (cs:List LC) (bl:List Blk) (d:Option Tmp) (l:LV):St:=
 St.put ⟨st.env.map (LV.clamp L),(kill (st.heap.map (Blk.clamp L)) ids).set id (.box cs)++bl⟩ d l
def qFH (g:Gb) (ls:List LV) (d:Option Tmp) (st:St):Res:=match ls with
 | .one (.ptr id 0 0)::args=>match st.heap[id]? with
   | some (Blk.box cs)=>if qai st.heap cs=true∧qcd (qj cs)=true∧(args.all fun l=>l.cells.all (qz4 st.heap (los st.heap st.heap.length (qj cs)) (qj cs)))=true∧qB8 g.rs=true then
        match qo st.heap g.t.ty cs,qa1 st.heap g.ps args with
        | some (v,[]),some x=>some (g.pre v x,qDv st id (qj cs) (los st.heap st.heap.length (qj cs)) (qF st.heap.length g.t.ty (g.fv v x)).1 (qF st.heap.length g.t.ty (g.fv v x)).2 d (qdX (qc5 0 g.rs (g.fn v x))))
        | _,_=>none
     else none
   | _=>none
 | _=>none
section
variable {P : Program} {w0 w w' : World} {mine : Mine} {m m' : Mp} {h : List Blk} {st : St} {a : Act} {o : Oper} {next : Act → World → Prop} {Q : Exit → Act → World → Prop}
end
end Go.T
/- T: function values: functions that have caught boxes; functions that are handed functions. -/
namespace Go.T
open Go
def qED (w:World) (ext:Nat→Prop):(tis:List TI)→qb tis→List Value→Prop
 | [],_,us=>us=[]
 | ti::r,x,us=> ∃b arr ty rest,us= .pointer (some ⟨b,0,none⟩)::rest∧w.heap[b]?=some (.cells arr ty (0,0))∧ext b∧K w ext ti.ty x.1 arr.toList∧qED w ext r x.2 rest
structure Gc (ps qs:List TI) where
 cs:List TI
 pre:qb cs→qb ps→Prop
 fn:qb cs→qb ps→qb qs
structure SoundC (P:Program) (f:FuncId) {ps qs:List TI} (g:Gc ps qs):Prop where
 enters:qcH P f
 runs: ∀(c:qb g.cs) (x:qb ps),g.pre c x→ ∀(w:World) (ext:Nat→Prop) (us caps:List Value),VKs w ext ps x us→qED w ext g.cs c caps→(∀b,w.heap.size≤b→ext b)→
  Calls P f (us++caps).toArray w fun e w'=> ∃rv,e= .returned (qc8 rv)∧Fr (fun _=>False) w w'∧VKs w' ext qs (g.fn c x) rv
def qBQ:(tis:List TI)→qb tis→List LV
 | [],_=>[]
 | ti::r,x=> .one (.tptr ti.ty x.1 0 0)::qBQ r x.2
def qJX (ps cs:List TI) (ntmps:Nat) (c:qb cs) (x:qb ps):St:={env:=(qc5 0 ps x).map LV1.lv++(qBQ cs c++List.replicate (ntmps - (ps.length+cs.length)) (.tup [])),heap:=[]}
def qQJ (P:Program) (w:World) (ext:Nat→Prop) (fv:Value) (ps qs:List TI) (pre:qb ps→Prop) (fn:qb ps→qb qs):Prop:=
 ∃(f:FuncId) (caps:List Value),fv= .func (.func f) #[] caps.toArray∧qcH P f∧ ∀(w':World) (ext':Nat→Prop) (x:qb ps) (us:List Value),Fr (fun _=>False) w w'→(∀b,b<w.heap.size→ext b→ext' b)→(∀b,w'.heap.size≤b→ext' b)→pre x→VKs w' ext' ps x us→
  Calls P f (us++caps).toArray w' fun e w''=> ∃rv,e= .returned (qc8 rv)∧Fr (fun _=>False) w' w''∧VKs w'' ext' qs (fn x) rv
structure Gh where
 r:TI
 ps:List TI
 qs:List TI
 rs:List TI
 pre:(qb ps→Prop)→(qb ps→qb qs)→Val r.ty→Prop
 fn:(qb ps→qb qs)→Val r.ty→qb rs
structure SoundH (P:Program) (f:FuncId) (g:Gh):Prop where
 enters:qcH P f
 runs: ∀(pre:qb g.ps→Prop) (fn:qb g.ps→qb g.qs) (x:Val g.r.ty),g.pre pre fn x→ ∀(w:World) (ext:Nat→Prop) (u fv:Value) (cs:List Value),K w ext g.r.ty x cs→qas g.r.agg cs u→qQJ P w ext fv g.ps g.qs pre fn→(∀b,w.heap.size≤b→ext b)→
  Calls P f #[u,fv] w fun e w'=> ∃us,e= .returned (qc8 us)∧Fr (fun _=>False) w w'∧ ∃B,VMs w' g.rs (g.fn fn x) us B∧B.Nodup∧ ∀b∈B,w.heap.size≤b
def qDa:LC→Bool
 | .sl _ _ _ n=>n==0
 | .own _=>false
 | _=>true
def qFq (fv:Value) (ps qs:List TI) (pre:qb ps→Prop) (fn:qb ps→qb qs) (y:LV) (args:List LV) (d:Option Tmp) (st:St):Res:=match y with
 | .one (.hdr u)=>if (args.all fun l=>l.cells.all qDa)=true then match qa1 st.heap ps args with
    | some x=>some (u=fv∧pre x,st.put d (qdX (qc5 0 qs (fn x))))
    | none=>none
   else none
 | _=>none
def qQv (fv:Value) (ps qs:List TI) (pre:qb ps→Prop) (fn:qb ps→qb qs) (S:Sem):Sem:=fun o st=>match o.op with
 | .call c=>match c.callee with
   | .value (.tmp t)=>qFq fv ps qs pre fn (st.ev (.tmp t)) (c.args.toList.map st.ev) o.dst st
   | _=>S o st
 | _=>S o st
def qyv (h:List Blk):List LV→Option (List Nat)
 | []=>some []
 | .one (.ptr id 0 0)::r=>match h[id]? with
   | some (.box _)=>match qyv h r with
     | some ids=>some (id::ids)
     | none=>none
   | _=>none
 | _=>none
def qE0 (f:Nat) (caught:List LV) (d:Option Tmp) (st:St):Res:=match qyv st.heap caught with
 | some ids=>some (True,st.put d (.one (.clo f ids)))
 | none=>none
def qBx (h:List Blk):(tis:List TI)→List Nat→Option (qb tis)
 | [],[]=>some ()
 | ti::r,id::ids=>match h[id]? with
   | some (Blk.box cs)=>match qo h ti.ty cs with
     | some (v,[])=>match qBx h r ids with
       | some vs=>some (v,vs)
       | none=>none
     | _=>none
   | _=>none
 | _,_=>none
abbrev Cls (ps qs:List TI):=List (Nat×Gc ps qs)
def Cls.get {ps qs:List TI}:Cls ps qs→Nat→Option (Gc ps qs)
 | [],_=>none
 | (f,g)::r,f'=>if f=f' then some g else Cls.get r f'
def qFz:LV→Option (Nat×List Nat)
 | .one (.fn f)=>some (f,[])
 | .one (.clo f ids)=>some (f,ids)
 | _=>none
def qEW (g:Gh) (cl:Cls g.ps g.qs) (args:List LV) (d:Option Tmp) (st:St):Res:=match args with
 | [x,y]=>match qFz y with
   | some (f,ids)=>match Cls.get cl f with
     | some gc=>if x.isAgg=some g.r.agg then match qo st.heap g.r.ty x.cells,qBx st.heap gc.cs ids with
       | some (v,[]),some cx=>some (g.pre (gc.pre cx) (gc.fn cx) v,st.res d (qdX (qcF st.heap.length g.rs (g.fn (gc.fn cx) v)).1) (st.heap++(qcF st.heap.length g.rs (g.fn (gc.fn cx) v)).2.map (Blk.up st.heap.length)))
       | _,_=>none
       else none
     | none=>none
   | none=>none
 | _=>none
abbrev Bxs:=List (Nat×Gb)
abbrev Hns:=List (Nat×(g:Gh)×Cls g.ps g.qs)
def Bxs.get:Bxs→Nat→Option Gb
 | [],_=>none
 | (f,g)::r,f'=>if f=f' then some g else Bxs.get r f'
def Hns.get:Hns→Nat→Option ((g:Gh)×Cls g.ps g.qs)
 | [],_=>none
 | (f,g)::r,f'=>if f=f' then some g else Hns.get r f'
def qRs (bx:Bxs) (hn:Hns):Sem:=fun o st=>match o.op with
 | .call c=>match c.callee with
   | .value (.func f)=>match Bxs.get bx f with
     | some g=>qFH g (c.args.toList.map st.ev) o.dst st
     | none=>match Hns.get hn f with
       | some gc=>qEW gc.1 gc.2 (c.args.toList.map st.ev) o.dst st
       | none=>none
   | _=>none
 | .makeFunc (.func f) first caught=>match first.toList with
   | []=>qE0 f (caught.toList.map st.ev) o.dst st
   | _=>none
 | _=>none
section
variable {P : Program} {tt : TT} {Γ : Gam} {w0 w w' : World} {mine : Mine} {m m' : Mp} {h : List Blk} {st : St} {a : Act} {o : Oper} {next : Act → World → Prop} {Q : Exit → Act → World → Prop}
def qIC (r:TI) (ntmps:Nat) (x:Val r.ty) (fv:Value):St:={env:=LV1.lv ⟨r.agg,qcB 0 r.ty x⟩:: .one (.hdr fv)::List.replicate (ntmps - 2) (.tup []),heap:=[]}
end
end Go.T
/- T: calls that hand functions on. -/
namespace Go.T
open Go
section
variable {P : Program} {tt : TT} {Γ : Gam} {w0 w w' : World} {mine : Mine} {m m' : Mp} {h : List Blk} {st : St} {a : Act} {o : Oper} {next : Act → World → Prop} {Q : Exit → Act → World → Prop}
end
structure HN (ps qs:List TI) where
 n:Nat
 fv:Value
 pre:qb ps→Prop
 fn:qb ps→qb qs
instance {ps qs:List TI}:CoeOut (HN ps qs) Nat:=⟨HN.n⟩
attribute [simp] qz4 qB8 qDv qFH qDa qFq qQv qyv qE0 qBx Cls.get qFz qEW Bxs.get Hns.get qRs qBQ qJX qIC qHG qRn
end Go.T
/- T: functions that take over what their first argument owns: their results may keep it. -/
namespace Go.T
open Go
structure Gw where
 t:TI
 ps:List TI
 rs:List TI
 pre:Val t.ty→qb ps→Prop
 fn:Val t.ty→qb ps→qb rs
structure SoundW (P:Program) (f:FuncId) (g:Gw):Prop where
 enters:qcH P f
 runs: ∀(v:Val g.t.ty) (x:qb g.ps),g.pre v x→ ∀(w:World) (u:Value) (cs:List Value) (B:List Nat) (ext:Nat→Prop) (us:List Value),
  qas g.t.agg cs u→M w g.t.ty v cs B→B.Nodup→VKs w ext g.ps x us→(∀k,w.heap.size≤k→ext k)→(∀k,ext k→k<w.heap.size→k∉B)→
  Calls P f (u::us).toArray w fun e w'=> ∃rv B',e= .returned (qc8 rv)∧Fr (fun k=>k∈B) w w'∧VMs w' g.rs (g.fn v x) rv B'∧B'.Nodup∧ ∀k∈B',k∈B∨w.heap.size≤k
def qLH (t:TI) (ps:List TI) (ntmps:Nat) (v:Val t.ty) (x:qb ps):St:={env:=(LV1.lv ⟨t.agg,(qF 0 t.ty v).1⟩)::((qc5 0 ps x).map LV1.lv++List.replicate (ntmps - (ps.length+1)) (.tup [])),heap:=(qF 0 t.ty v).2}
def qE3 (g:Gw) (ls:List LV) (d:Option Tmp) (st:St):Res:=match ls with
 | l::args=>if l.isAgg=some g.t.agg∧qai st.heap l.cells=true∧qcd (qj l.cells)=true∧(args.all fun l'=>l'.cells.all (qz4 st.heap (los st.heap st.heap.length (qj l.cells)) (qj l.cells)))=true then
    match qo st.heap g.t.ty l.cells,qa1 st.heap g.ps args with
    | some (v,[]),some x=>some (g.pre v x,St.put ⟨st.env.map (LV.clamp (los st.heap st.heap.length (qj l.cells))),kill (st.heap.map (Blk.clamp (los st.heap st.heap.length (qj l.cells)))) (qj l.cells)++(qcF st.heap.length g.rs (g.fn v x)).2⟩ d (qdX (qcF st.heap.length g.rs (g.fn v x)).1))
    | _,_=>none
   else none
 | _=>none
abbrev Gws:=List (Nat×Gw)
def Gws.get:Gws→Nat→Option Gw
 | [],_=>none
 | (f,g)::r,f'=>if f=f' then some g else Gws.get r f'
def qQX (ws:Gws) (S:Sem):Sem:=fun o st=>match o.op with
 | .call c=>match c.callee with
   | .value (.func f)=>match Gws.get ws f with
     | some g=>qE3 g (c.args.toList.map st.ev) o.dst st
     | none=>S o st
   | _=>S o st
 | _=>S o st
section
variable {P : Program} {tt : TT} {Γ : Gam} {w0 w w' : World} {mine : Mine} {m m' : Mp} {h : List Blk} {st : St} {a : Act} {o : Oper} {next : Act → World → Prop} {Q : Exit → Act → World → Prop}
attribute [simp] Gws.get qQX qE3 qLH
end
end Go.T
/- T: atoms as inequalities over the rationals: scaling, strength, normal lists, elimination of a variable. -/
namespace Go.T
def qh1:List Int→List Rat→Rat
 | x::xs,y::ys=>(x:Rat)*y+qh1 xs ys
 | _,_=>0
def evA (a:Atm) (p:List Rat):Rat:=qh1 a.1 p+(a.2.1:Rat)
def qoG (a:Atm) (p:List Rat):Prop:=evA a p<0∨(a.2.2=false∧evA a p=0)
def qPM (l:List Atm) (p:List Rat):Prop:= ∀a∈l,qoG a p
theorem qup {g x:Rat} (hg:0<g):(g*x<0↔x<0)∧(g*x=0↔x=0):=
 ⟨Rat.mul_neg_iff_of_pos_left hg,by rw [Rat.mul_eq_zero];grind⟩
theorem qAt: ∀(ls:List (Rat×Bool)),ls=[]∨ ∃m∈ls,∀x∈ls,x.1<m.1∨(x.1=m.1∧(x.2=true→m.2=true))
 | []=> .inl rfl
 | y::ls=>by
   right
   rcases qAt ls with rfl | ⟨m,hm,h⟩
   ·exact ⟨y,by simp,fun x hx=>by simp at hx;subst hx;exact .inr ⟨rfl,id⟩⟩
   ·by_cases hc:m.1<y.1∨(m.1=y.1∧y.2=true)
    ·refine ⟨y,by simp,fun x hx=> ?_⟩
     rcases List.mem_cons.1 hx with rfl | hx
     ·exact .inr ⟨rfl,id⟩
     ·have:=h x hx;grind
    ·refine ⟨m,by simp [hm],fun x hx=> ?_⟩
     rcases List.mem_cons.1 hx with rfl | hx
     ·grind
     ·exact h x hx
theorem qO2 (us:List (Rat×Bool)):us=[]∨ ∃m∈us,∀x∈us,m.1<x.1∨(x.1=m.1∧(x.2=true→m.2=true)):=by
 rcases qAt (us.map fun u=>(-u.1,u.2))with h | ⟨m,hm,h⟩
 ·left;simpa using h
 ·right
  obtain ⟨u,hu,rfl⟩:=List.mem_map.1 hm
  refine ⟨u,hu,fun x hx=> ?_⟩
  have:=h (-x.1,x.2) (List.mem_map.2 ⟨x,hx,rfl⟩)
  grind
theorem qKH (ls us:List (Rat×Bool)) (h: ∀x∈ls,∀y∈us,x.1<y.1∨(x.2=false∧y.2=false∧x.1=y.1)):
 ∃t:Rat,(∀x∈ls,x.1<t∨(x.2=false∧x.1=t))∧ ∀y∈us,t<y.1∨(y.2=false∧t=y.1):=by
 rcases qAt ls with rfl | ⟨m,hm,h1⟩<;>rcases qO2 us with rfl | ⟨k,hk,h2⟩
 ·exact ⟨0,by simp,by simp⟩
 ·exact ⟨k.1 - 1,by simp,fun y hy=>by have:=h2 y hy;grind⟩
 ·exact ⟨m.1+1,fun x hx=>by have:=h1 x hx;grind,by simp⟩
 ·have hmk:=h m hm k hk
  refine ⟨(m.1+k.1) / 2,fun x hx=> ?_,fun y hy=> ?_⟩
  ·have:=h1 x hx;grind
  ·have:=h2 y hy;grind
theorem qDJ: ∀(xs:List Int) (p:List Rat) (v:Nat) (t:Rat),v<p.length→xs.length=p.length→qh1 xs (p.set v t)=qh1 xs p+(xs.getD v 0:Rat)*(t - p.getD v 0)
 | [],[],v,t,h,_=>by simp at h
 | [],y::ys,v,t,_,h=>by simp at h
 | x::xs,[],v,t,_,h=>by simp at h
 | x::xs,y::ys,0,t,_,_=>by simp [qh1];grind
 | x::xs,y::ys,v+1,t,h,hl=>by
   simp only [List.set_cons_succ,qh1,List.getD_cons_succ]
   rw [qDJ xs ys v t (by simpa using h) (by simpa using hl)]
   grind
theorem qMh {a:Atm} {p:List Rat} {v:Nat} {t:Rat} (hv:v<p.length) (hl:a.1.length=p.length):evA a (p.set v t)=evA a p+(a.1.getD v 0:Rat)*(t - p.getD v 0):=by
 unfold evA
 rw [qDJ _ _ _ _ hv hl]
 grind
theorem qG4 {e c t q:Rat} (hc:0<c):(e+c*(t - q)<0↔t<q - e / c)∧(e+c*(t - q)=0↔t=q - e / c):=by
 have h1:c≠0:=by grind
 have h2:e / c*c=e:=Rat.div_mul_cancel h1
 generalize e / c=z at*
 subst h2
 have h3:z*c+c*(t - q)=c*(t - (q - z)):=by grind
 rw [h3]
 obtain ⟨e1,e2⟩:=qup (x:=t - (q - z)) hc
 rw [e1,e2]
 constructor<;>grind
theorem qOT {e c t q:Rat} (hc:c<0):(e+c*(t - q)<0↔q - e / c<t)∧(e+c*(t - q)=0↔q - e / c=t):=by
 have h1:c≠0:=by grind
 have h2:e / c*c=e:=Rat.div_mul_cancel h1
 generalize e / c=z at*
 subst h2
 have h3:z*c+c*(t - q)=(-c)*((q - z) - t):=by grind
 rw [h3]
 obtain ⟨e1,e2⟩:=qup (g:= -c) (x:=(q - z) - t) (by grind)
 rw [e1,e2]
 constructor<;>grind
theorem qND {A B ca cb q:Rat} {sa sb:Bool} (ha:0<ca) (hb:cb<0) (h: -cb*A+ca*B<0∨(sa=false∧sb=false∧ -cb*A+ca*B=0)):q - B / cb<q - A / ca∨(sb=false∧sa=false∧q - B / cb=q - A / ca):=by
 have na:ca≠0:=by grind
 have nb:cb≠0:=by grind
 have ea:A / ca*ca=A:=Rat.div_mul_cancel na
 have eb:B / cb*cb=B:=Rat.div_mul_cancel nb
 generalize A / ca=za at*
 generalize B / cb=zb at*
 subst ea eb
 have e: -cb*(za*ca)+ca*(zb*cb)=(-cb*ca)*(za - zb):=by grind
 rw [e]at h
 have hp:0< -cb*ca:=Rat.mul_pos (by grind) ha
 obtain ⟨e1,e2⟩:=qup (x:=za - zb) hp
 rw [e1,e2]at h
 rcases h with h | ⟨h1,h2,h3⟩
 ·left;grind
 ·right;exact ⟨h2,h1,by grind⟩
theorem elim {l:List Atm} {v:Nat} {p:List Rat} (hv:v<p.length) (hl: ∀a∈l,a.1.length=p.length) (hz: ∀a∈l,a.1.getD v 0=0→qoG a p)
 (hm: ∀a∈l,∀b∈l,0<a.1.getD v 0→b.1.getD v 0<0→((-(b.1.getD v 0:Int):Int):Rat)*evA a p+((a.1.getD v 0:Int):Rat)*evA b p<0∨(a.2.2=false∧b.2.2=false∧((-(b.1.getD v 0:Int):Int):Rat)*evA a p+((a.1.getD v 0:Int):Rat)*evA b p=0)): ∃t,qPM l (p.set v t):=by
 obtain ⟨t,h1,h2⟩:=qKH ((l.filter fun a=>decide (a.1.getD v 0<0)).map fun a=>(p.getD v 0 - evA a p / ((a.1.getD v 0:Int):Rat),a.2.2)) ((l.filter fun a=>decide (0<a.1.getD v 0)).map fun a=>(p.getD v 0 - evA a p / ((a.1.getD v 0:Int):Rat),a.2.2)) fun x hx y hy=>by
  obtain ⟨b,hb,rfl⟩:=List.mem_map.1 hx
  obtain ⟨a,ha,rfl⟩:=List.mem_map.1 hy
  simp only [List.mem_filter,decide_eq_true_eq]at ha hb
  have hab:=hm a ha.1 b hb.1 ha.2 hb.2
  rw [Rat.intCast_neg]at hab
  exact qND (Rat.intCast_pos.2 ha.2) (Rat.intCast_neg_iff.2 hb.2) hab
 refine ⟨t,fun a ha=> ?_⟩
 unfold qoG
 rw [qMh hv (hl a ha)]
 rcases Int.lt_trichotomy (a.1.getD v 0) 0 with hc | hc | hc
 ·have hx:=h1 (p.getD v 0 - evA a p / ((a.1.getD v 0:Int):Rat),a.2.2) (List.mem_map.2 ⟨a,by simp only [List.mem_filter,decide_eq_true_eq];exact ⟨ha,hc⟩,rfl⟩)
  obtain ⟨e1,e2⟩:=qOT (e:=evA a p) (t:=t) (q:=p.getD v 0) (Rat.intCast_neg_iff.2 hc)
  rw [e1,e2]
  exact hx
 ·have:=hz a ha hc
  rw [hc]
  unfold qoG at this
  have e:evA a p+((0:Int):Rat)*(t - p.getD v 0)=evA a p:=by grind
  rw [e];exact this
 ·have hx:=h2 (p.getD v 0 - evA a p / ((a.1.getD v 0:Int):Rat),a.2.2) (List.mem_map.2 ⟨a,by simp only [List.mem_filter,decide_eq_true_eq];exact ⟨ha,hc⟩,rfl⟩)
  obtain ⟨e1,e2⟩:=qG4 (e:=evA a p) (t:=t) (q:=p.getD v 0) (Rat.intCast_pos.2 hc)
  rw [e1,e2]
  exact hx
end Go.T
