/- T: the library's Grow of a nil slice. -/
import Derived.Test.YthefcjjgchekiaaGreatT10
import Derived.Shelf.Spec.SlicesGrow
import Derived.KernelRfl
set_option linter.unusedSimpArgs false
set_option linter.unusedVariables false
namespace Go.T
open Go Go.Proofs Go.Shelf Go.RowKit Go.Lib
end Go.T
/- Plain: the order of atoms; normal lists of atoms. -/
namespace Go.T
structure Cmp {α:Type} (c:α→α→Int):Prop where
 anti: ∀x y,c x y= - c y x
 tr: ∀x y z,c x y≤0→c y z≤0→c x z≤0
namespace Cmp
variable {α : Type} {c d : α → α → Int}
theorem self (h:Cmp c) (x:α):c x x=0:=by have:=h.anti x x;omega
theorem lt_le (h:Cmp c) {x y z:α} (h1:c x y<0) (h2:c y z≤0):c x z<0:=by
 have h3:=h.tr x y z (by omega) h2
 rcases Int.lt_or_eq_of_le h3 with h4 | h4
 ·exact h4
 ·have h5:=h.anti x z
  have h6:=h.tr y z x h2 (by omega)
  have h7:=h.anti x y
  omega
theorem le_lt (h:Cmp c) {x y z:α} (h1:c x y≤0) (h2:c y z<0):c x z<0:=by
 have h3:=h.tr x y z h1 (by omega)
 rcases Int.lt_or_eq_of_le h3 with h4 | h4
 ·exact h4
 ·have h5:=h.anti x z
  have h6:=h.tr z x y (by omega) h1
  have h7:=h.anti y z
  omega
theorem eq_tr (h:Cmp c) {x y z:α} (h1:c x y=0) (h2:c y z=0):c x z=0:=by
 have h3:=h.tr x y z (by omega) (by omega)
 have h4:=h.anti x y
 have h5:=h.anti y z
 have h6:=h.tr z y x (by omega) (by omega)
 have h7:=h.anti x z
 omega
theorem lex (h:Cmp c) (g:Cmp d):Cmp fun x y=>if c x y=0 then d x y else c x y:=by
 refine ⟨fun x y=> ?_,fun x y z h1 h2=> ?_⟩
 ·have:=h.anti x y
  have:=g.anti x y
  split<;>split<;>omega
 ·have e1:c x y≤0:=by split at h1<;>omega
  have e2:c y z≤0:=by split at h2<;>omega
  have e3:=h.tr x y z e1 e2
  split
  ·rename_i e4
   have e5:=h.anti x z
   have e6:=h.tr y z x e2 (by omega)
   have e7:=h.anti x y
   have e8:=h.tr z x y (by omega) e1
   have e9:=h.anti y z
   rw [if_pos (by omega)]at h1 h2
   exact g.tr x y z h1 h2
  ·exact e3
theorem on {β:Type} (h:Cmp c) (f:β→α):Cmp fun x y=>c (f x) (f y):=⟨fun _ _=>h.anti _ _,fun _ _ _=>h.tr _ _ _⟩
end Cmp
def qbj:List Int→List Int→Int
 | [],[]=>0
 | [],_::_=> -1
 | _::_,[]=>1
 | x::xs,y::ys=>if x<y then -1 else if y<x then 1 else qbj xs ys
theorem q1I: ∀x y,qbj x y= - qbj y x
 | [],[]=>rfl
 | [],_::_=>rfl
 | _::_,[]=>rfl
 | x::xs,y::ys=>by
   have:=q1I xs ys
   simp only [qbj]
   split<;>split<;>(try split)<;>omega
theorem q0e: ∀x y z,qbj x y≤0→qbj y z≤0→qbj x z≤0
 | [],_,[],_,_=>by simp [qbj]
 | [],_,_::_,_,_=>by simp [qbj]
 | _::_,[],_,h,_=>by simp [qbj]at h
 | _::_,_::_,[],_,h=>by simp [qbj]at h
 | x::xs,y::ys,z::zs,h1,h2=>by
   simp only [qbj]at*
   have ih:=q0e xs ys zs
   by_cases a:x<y
   ·by_cases b:y<z
    ·rw [if_pos (by omega)];omega
    ·rw [if_neg b]at h2
     by_cases b':z<y
     ·rw [if_pos b']at h2;omega
     ·rw [if_pos (by omega)];omega
   ·rw [if_neg a]at h1
    by_cases a':y<x
    ·rw [if_pos a']at h1;omega
    ·rw [if_neg a']at h1
     by_cases b:y<z
     ·rw [if_pos (by omega)];omega
     ·rw [if_neg b]at h2
      by_cases b':z<y
      ·rw [if_pos b']at h2;omega
      ·rw [if_neg b']at h2
       rw [if_neg (by omega),if_neg (by omega)]
       exact ih h1 h2
theorem q6u:Cmp qbj:=⟨q1I,q0e⟩
theorem qV4: ∀{x y:List Int},qbj x y=0→x=y
 | [],[],_=>rfl
 | [],_::_,h=>by simp [qbj]at h
 | _::_,[],h=>by simp [qbj]at h
 | x::xs,y::ys,h=>by
   simp only [qbj]at h
   split at h
   ·omega
   ·split at h
    ·omega
    ·rw [qV4 h,show x=y by omega]
def gL:Nat→List Int→Nat
 | g,[]=>g
 | g,x::r=>gL (Nat.gcd g x.natAbs) r
theorem qxA: ∀(xs:List Int) (a b:Nat),gL (Nat.gcd a b) xs=Nat.gcd (gL a xs) b
 | [],_,_=>rfl
 | x::r,a,b=>by
   simp only [gL]
   rw [←qxA r]
   congr 1
   rw [Nat.gcd_assoc,Nat.gcd_comm b,←Nat.gcd_assoc]
theorem qkJ: ∀(xs:List Int) (g:Nat),gL g xs ∣ g∧ ∀x∈xs,gL g xs ∣ x.natAbs
 | [],g=>⟨Nat.dvd_refl g,fun x hx=>by simp at hx⟩
 | x::r,g=>by
   obtain ⟨h1,h2⟩:=qkJ r (Nat.gcd g x.natAbs)
   refine ⟨Nat.dvd_trans h1 (Nat.gcd_dvd_left _ _),fun y hy=> ?_⟩
   rcases List.mem_cons.1 hy with rfl | hy
   ·exact Nat.dvd_trans h1 (Nat.gcd_dvd_right _ _)
   ·exact h2 y hy
theorem qpr {xs:List Int}:gL 0 xs=0↔ ∀x∈xs,x=0:=by
 constructor
 ·intro h x hx
  have:=(qkJ xs 0).2 x hx
  rw [h]at this
  have:=Nat.eq_zero_of_zero_dvd this
  omega
 ·intro h
  induction xs with
  | nil=>rfl
  | cons x r ih=>
    have h0:=h x (by simp)
    subst h0
    exact ih fun y hy=>h y (by simp [hy])
abbrev Atm:=List Int×Int×Bool
def gS (a:Atm):Nat:=max 1 (gL 0 a.1)
def qjj (a:Atm):List Int:=a.1.map fun x=>x.tdiv (gS a:Int)
def sgI (n:Int):Int:=if n<0 then -1 else if 0<n then 1 else 0
def way (a b:Atm):Int:=qbj (qjj a) (qjj b)
def qdG (a b:Atm):Int:=sgI (a.2.1*gS b - b.2.1*gS a)
def stc (a b:Atm):Int:=if a.2.2=b.2.2 then 0 else if a.2.2 then 1 else -1
def qaY (a b:Atm):Int:=if way a b=0 then (if qdG a b=0 then stc a b else qdG a b)else way a b
theorem qcI (a:Atm):(0:Int)<gS a:=by unfold gS;omega
theorem qbK:Cmp way:=q6u.on qjj
theorem zoO:Cmp qdG:=by
 refine ⟨fun a b=> ?_,fun a b c h1 h2=> ?_⟩
 ·unfold qdG sgI
  split<;>split<;>(try split)<;>(try split)<;>omega
 ·have le: ∀x:Int,sgI x≤0↔x≤0:=fun x=>by unfold sgI;split<;>(try split)<;>omega
  unfold qdG at*
  rw [le]at*
  have ga:=qcI a;have gb:=qcI b;have gc:=qcI c
  generalize (gS a:Int)=p at*
  generalize (gS b:Int)=q at*
  generalize (gS c:Int)=r at*
  have h1:a.2.1*q≤b.2.1*p:=by omega
  have h2:b.2.1*r≤c.2.1*q:=by omega
  have e1:(a.2.1*q)*r≤(b.2.1*p)*r:=Int.mul_le_mul_of_nonneg_right h1 (by omega)
  have e2:(b.2.1*r)*p≤(c.2.1*q)*p:=Int.mul_le_mul_of_nonneg_right h2 (by omega)
  have e3:(b.2.1*p)*r=(b.2.1*r)*p:=by rw [Int.mul_assoc,Int.mul_comm p r,←Int.mul_assoc]
  have e4:(a.2.1*r)*q≤(c.2.1*p)*q:=by
   have:(a.2.1*r)*q=(a.2.1*q)*r:=by rw [Int.mul_assoc,Int.mul_comm r q,←Int.mul_assoc]
   have:(c.2.1*p)*q=(c.2.1*q)*p:=by rw [Int.mul_assoc,Int.mul_comm p q,←Int.mul_assoc]
   omega
  have:=Int.le_of_mul_le_mul_right e4 gb
  omega
theorem zbV:Cmp stc:=by
 refine ⟨fun a b=> ?_,fun a b c=> ?_⟩
 ·unfold stc;cases a.2.2<;>cases b.2.2<;>decide
 ·unfold stc;cases a.2.2<;>cases b.2.2<;>cases c.2.2<;>decide
theorem qb0:Cmp qaY:=qbK.lex (zoO.lex zbV)
def qjo (a:Atm):Prop:=gL 0 a.1≠0∧gL a.2.1.natAbs a.1≤1
theorem qS9 {a:Atm}:a.1=(qjj a).map fun x=>x*(gS a:Int):=by
 unfold qjj
 rw [List.map_map]
 conv=>lhs;rw [←List.map_id a.1]
 apply List.map_congr_left
 intro x hx
 have hd:((gS a:Nat):Int) ∣ x:=by
  have h:=(qkJ a.1 0).2 x hx
  have hg:gS a ∣ x.natAbs:=by
   unfold gS
   by_cases h0:gL 0 a.1=0
   ·rw [h0];exact Nat.one_dvd _
   ·rw [Nat.max_eq_right (by omega)];exact h
  exact Int.ofNat_dvd_left.2 hg
 exact (Int.tdiv_mul_cancel hd).symm
theorem q1C {a b:Atm} (ha:qjo a) (hb:qjo b) (h:qaY a b=0):a=b:=by
 unfold qaY at h
 split at h
 ·rename_i h1
  split at h
  ·rename_i h2
   have hd:=qV4 h1
   have hs:a.2.2=b.2.2:=by
        unfold stc at h
        split at h
        ·assumption
        ·split at h<;>omega
   have e:a.2.1*gS b=b.2.1*gS a:=by
        unfold qdG sgI at h2
        split at h2
        ·omega
        ·split at h2<;>omega
   have cop: ∀x:Atm,qjo x→Nat.gcd (gS x) x.2.1.natAbs=1:=fun x hx=>by
        have e1:gL x.2.1.natAbs x.1=Nat.gcd (gL 0 x.1) x.2.1.natAbs:=by rw [←qxA,Nat.gcd_zero_left]
        have e2:gS x=gL 0 x.1:=Nat.max_eq_right (by have:=hx.1;omega)
        rw [e2,←e1]
        have h1:=hx.2
        have h2:gL x.2.1.natAbs x.1≠0:=by
         rw [e1];intro h0
         exact hx.1 (Nat.eq_zero_of_gcd_eq_zero_left h0)
        omega
   have e':a.2.1.natAbs*gS b=b.2.1.natAbs*gS a:=by
        have:=congrArg Int.natAbs e
        simpa [Int.natAbs_mul] using this
   have d1:gS a ∣ gS b:=by
        have:gS a ∣ a.2.1.natAbs*gS b:=⟨b.2.1.natAbs,by rw [e',Nat.mul_comm]⟩
        exact (Nat.Coprime.dvd_of_dvd_mul_left (cop a ha) this)
   have d2:gS b ∣ gS a:=by
        have:gS b ∣ b.2.1.natAbs*gS a:=⟨a.2.1.natAbs,by rw [←e',Nat.mul_comm]⟩
        exact (Nat.Coprime.dvd_of_dvd_mul_left (cop b hb) this)
   have hg:gS a=gS b:=Nat.dvd_antisymm d1 d2
   have hc:a.2.1=b.2.1:=by
        rw [hg]at e
        exact Int.eq_of_mul_eq_mul_right (by have:=qcI b;omega) e
   have h1:a.1=b.1:=by rw [qS9 (a:=a),qS9 (a:=b),hg,hd]
   exact Prod.ext h1 (Prod.ext hc hs)
  ·rename_i h2;exact absurd h h2
 ·rename_i h1;exact absurd h h1
structure NormOf (xs l:List Atm):Prop where
 ord:l.Pairwise fun a b=>way a b<0
 mem: ∀a∈l,a∈xs
 top: ∀a∈xs,∃b∈l,way a b=0∧qaY a b≤0
theorem zhQ {l:List Atm} (h:l.Pairwise fun a b=>way a b<0) {a b:Atm} (ha:a∈l) (hb:b∈l) (e:way a b=0):a=b:=by
 obtain ⟨i,hi,rfl⟩:=List.mem_iff_getElem.1 ha
 obtain ⟨j,hj,rfl⟩:=List.mem_iff_getElem.1 hb
 rw [List.pairwise_iff_getElem]at h
 rcases Nat.lt_trichotomy i j with h1 | h1 | h1
 ·have:=h i j hi hj h1;omega
 ·subst h1;rfl
 ·have:=h j i hj hi h1
  have:=qbK.anti l[i] l[j]
  omega
theorem q0c: ∀{l l':List Atm},l.Pairwise (fun a b=>way a b<0)→l'.Pairwise (fun a b=>way a b<0)→(∀a,a∈l↔a∈l')→l=l'
 | [],[],_,_,_=>rfl
 | [],b::r',_,_,h=>by have:=(h b).2 (by simp);simp at this
 | a::r,[],_,_,h=>by have:=(h a).1 (by simp);simp at this
 | a::r,b::r',h1,h2,h=>by
   obtain ⟨p1,p2⟩:=List.pairwise_cons.1 h1
   obtain ⟨q1,q2⟩:=List.pairwise_cons.1 h2
   have e:a=b:=by
    rcases List.mem_cons.1 ((h a).1 (by simp))with e | e
    ·exact e
    ·rcases List.mem_cons.1 ((h b).2 (by simp))with f | f
     ·exact f.symm
     ·have:=p1 b f
      have:=q1 a e
      have:=qbK.anti a b
      omega
   subst e
   rw [q0c p2 q2 fun x=> ?_]
   have:=h x
   constructor
   ·intro hx
    rcases List.mem_cons.1 (this.1 (by simp [hx]))with e | e
    ·subst e
     have:=p1 x hx
     have:=qbK.self x
     omega
    ·exact e
   ·intro hx
    rcases List.mem_cons.1 (this.2 (by simp [hx]))with e | e
    ·subst e
     have:=q1 x hx
     have:=qbK.self x
     omega
    ·exact e
theorem zlI {xs l l':List Atm} (hx: ∀a∈xs,qjo a) (h:NormOf xs l) (h':NormOf xs l'):l=l':=by
 have half: ∀{l l':List Atm},NormOf xs l→NormOf xs l'→ ∀a∈l,a∈l':=fun {l l'} h h' a ha=>by
  obtain ⟨b,hb,w1,c1⟩:=h'.top a (h.mem a ha)
  obtain ⟨c,hc,w2,c2⟩:=h.top b (h'.mem b hb)
  have:a=c:=zhQ h.ord ha hc (qbK.eq_tr w1 w2)
  subst this
  have e:qaY a b=0:=by have:=qb0.anti a b;omega
  rw [q1C (hx a (h.mem a ha)) (hx b (h'.mem b hb)) e]
  exact hb
 exact q0c h.ord h'.ord fun a=>⟨half h h' a,half h' h a⟩
def qa1:List Atm→Atm→List Atm
 | [],a=>[a]
 | b::r,a=>if way b a<0 then b::qa1 r a else if way b a=0 then (if qaY a b≤0 then b::r else a::r)else a::b::r
def qdr (xs:List Atm):List Atm:=xs.foldl qa1 []
theorem qtV: ∀{l:List Atm} {a x:Atm},x∈qa1 l a→x=a∨x∈l
 | [],a,x,h=>by simp [qa1]at h;exact .inl h
 | b::r,a,x,h=>by
   simp only [qa1]at h
   split at h
   ·rcases List.mem_cons.1 h with e | e
    ·exact .inr (by simp [e])
    ·rcases qtV e with e | e
     ·exact .inl e
     ·exact .inr (by simp [e])
   ·split at h
    ·split at h
     ·exact .inr h
     ·rcases List.mem_cons.1 h with e | e
      ·exact .inl e
      ·exact .inr (by simp [e])
    ·rcases List.mem_cons.1 h with e | e
     ·exact .inl e
     ·exact .inr e
theorem q19: ∀{l:List Atm} {a:Atm},l.Pairwise (fun a b=>way a b<0)→(qa1 l a).Pairwise (fun a b=>way a b<0)
 | [],a,_=>by simp [qa1]
 | b::r,a,h=>by
   obtain ⟨p1,p2⟩:=List.pairwise_cons.1 h
   simp only [qa1]
   split
   ·rename_i h1
    refine List.pairwise_cons.2 ⟨fun x hx=> ?_,q19 p2⟩
    rcases qtV hx with rfl | hx
    ·exact h1
    ·exact p1 x hx
   ·split
    ·rename_i h1 h2
     split
     ·exact h
     ·refine List.pairwise_cons.2 ⟨fun x hx=> ?_,p2⟩
      have:=qbK.anti a b
      exact qbK.le_lt (by omega) (p1 x hx)
    ·rename_i h1 h2
     have:=qbK.anti a b
     refine List.pairwise_cons.2 ⟨fun x hx=> ?_,h⟩
     rcases List.mem_cons.1 hx with rfl | hx
     ·omega
     ·exact qbK.lt_le (by omega) (Int.le_of_lt (p1 x hx))
theorem qOB: ∀{l:List Atm} {a x:Atm},(x=a∨ ∃b∈l,way x b=0∧qaY x b≤0)→ ∃b∈qa1 l a,way x b=0∧qaY x b≤0
 | [],a,x,h=>by
   rcases h with rfl | ⟨b,hb,_⟩
   ·exact ⟨x,by simp [qa1],qbK.self x,by rw [qb0.self];omega⟩
   ·simp at hb
 | b::r,a,x,h=>by
   simp only [qa1]
   split
   ·rename_i h1
    rcases h with rfl | ⟨c,hc,h2⟩
    ·obtain ⟨c,hc,h2⟩:=qOB (l:=r) (a:=x) (x:=x) (.inl rfl)
     exact ⟨c,by simp [hc],h2⟩
    ·rcases List.mem_cons.1 hc with rfl | hc
     ·exact ⟨c,by simp,h2⟩
     ·obtain ⟨c',hc',h3⟩:=qOB (l:=r) (a:=a) (x:=x) (.inr ⟨c,hc,h2⟩)
      exact ⟨c',by simp [hc'],h3⟩
   ·split
    ·rename_i h1 h2
     have hab:=qbK.anti a b
     split
     ·rename_i h3
      rcases h with rfl | h
      ·exact ⟨b,by simp,by omega,h3⟩
      ·exact h
     ·rename_i h3
      have hc:=qb0.anti a b
      rcases h with rfl | ⟨c,hc',h4⟩
      ·exact ⟨x,by simp,qbK.self x,by rw [qb0.self];omega⟩
      ·rcases List.mem_cons.1 hc' with rfl | hc'
       ·exact ⟨a,by simp,qbK.eq_tr h4.1 h2,qb0.tr x c a h4.2 (by omega)⟩
       ·exact ⟨c,by simp [hc'],h4⟩
    ·rcases h with rfl | ⟨c,hc,h2⟩
     ·exact ⟨x,by simp,qbK.self x,by rw [qb0.self];omega⟩
     ·exact ⟨c,by simp only [List.mem_cons]at hc ⊢;exact .inr hc,h2⟩
theorem q06: ∀(xs ys l:List Atm),NormOf ys l→NormOf (ys++xs) (xs.foldl qa1 l)
 | [],ys,l,h=>by simpa using h
 | a::xs,ys,l,h=>by
   have:NormOf (ys++[a]) (qa1 l a):=⟨q19 h.ord,fun x hx=>by
    rcases qtV hx with rfl | hx
    ·simp
    ·simp [h.mem x hx],fun x hx=>by
    refine qOB ?_
    rcases List.mem_append.1 hx with hx | hx
    ·exact .inr (h.top x hx)
    ·exact .inl (by simpa using hx)⟩
   have:=q06 xs (ys++[a]) (qa1 l a) this
   simpa using this
theorem qKB (xs:List Atm):NormOf xs (qdr xs):=by simpa [qdr] using q06 xs [] [] ⟨List.Pairwise.nil,fun a h=>by simp at h,fun a h=>by simp at h⟩
def qkX (xs:List Atm):List Atm:=xs.mergeSort fun a b=>decide (qaY a b≤0)
theorem qB1 (xs:List Atm):(qkX xs).Perm xs:=List.mergeSort_perm _ _
theorem qZa (xs:List Atm):(qkX xs).Pairwise fun a b=>qaY a b≤0:=by
 have:=List.pairwise_mergeSort (le:=fun a b=>decide (qaY a b≤0)) (fun a b c h1 h2=>by
  simp only [decide_eq_true_eq]at*;exact qb0.tr a b c h1 h2) (fun a b=>by
  have:=qb0.anti a b
  simp only [Bool.or_eq_true,decide_eq_true_eq];omega) xs
 exact this.imp fun h=>by simpa using h
theorem zat {xs ys:List Atm} (hx: ∀a∈xs,qjo a) (hp:ys.Perm xs) (ho:ys.Pairwise fun a b=> ¬qaY b a<0):ys=qkX xs:=by
 refine List.Perm.eq_of_pairwise (le:=fun a b=>qaY a b≤0) (fun a b ha hb h1 h2=> ?_) (ho.imp fun {a b} h=>by have:=qb0.anti a b;omega) (qZa xs) (hp.trans (qB1 xs).symm)
 have:=qb0.anti a b
 exact q1C (hx a (hp.mem_iff.1 ha)) (hx b ((qB1 xs).mem_iff.1 hb)) (by omega)
def qgf (S:List Atm) (i:Nat):Bool:=decide (i+1<S.length)&&decide (way (S.getD i ([],0,false)) (S.getD (i+1) ([],0,false))=0)
def qi8 (S:List Atm):List Nat:=(List.range S.length).filter fun i=> !qgf S i
theorem zd8 (S:List Atm):(qi8 S).Nodup:=(List.nodup_range).filter _
theorem qCH {S:List Atm} {i:Nat} (h:i∈qi8 S):i<S.length:=by
 have:=(List.mem_filter.1 h).1;simpa using this
theorem q1R {a b:Atm} (h:qaY a b≤0):way a b≤0:=by
 unfold qaY at h;split at h<;>omega
theorem zgK {xs S:List Atm} (hp:S.Perm xs) (ho:S.Pairwise fun a b=>qaY a b≤0):NormOf xs ((qi8 S).map fun i=>S.getD i ([],0,false)):=by
 have hat: ∀{i:Nat} (h:i<S.length),S.getD i ([],0,false)=S[i]:=fun h=>by simp [List.getD,h]
 have ho':=List.pairwise_iff_getElem.1 ho
 have ge: ∀i j (h1:i<S.length) (h2:j<S.length),i≤j→qaY S[i] S[j]≤0:=fun i j h1 h2 h=>by
  rcases Nat.lt_or_eq_of_le h with h | h
  ·exact ho' i j h1 h2 h
  ·subst h;rw [qb0.self];omega
 refine ⟨?_,fun a ha=> ?_,fun a ha=> ?_⟩
 ·rw [List.pairwise_map]
  have hlt:(qi8 S).Pairwise (· < ·):=(List.pairwise_lt_range).filter _
  refine hlt.imp_of_mem fun {i j} hi hj hij=> ?_
  have h1:=qCH hi
  have h2:=qCH hj
  rw [hat h1,hat h2]
  have hk:=(List.mem_filter.1 hi).2
  simp only [qgf,Bool.not_eq_true',Bool.and_eq_false_iff,decide_eq_false_iff_not]at hk
  have h3:i+1<S.length:=by omega
  have hne:way S[i] S[i+1]≠0:=by
   rcases hk with hk | hk
   ·omega
   ·rwa [hat h1,hat h3]at hk
  have l1:=q1R (ge i (i+1) h1 h3 (by omega))
  have l2:=q1R (ge (i+1) j h3 h2 (by omega))
  exact qbK.lt_le (by omega) l2
 ·obtain ⟨i,hi,rfl⟩:=List.mem_map.1 ha
  rw [hat (qCH hi)]
  exact hp.mem_iff.1 (List.getElem_mem _)
 ·obtain ⟨i,hi,rfl⟩:=List.mem_iff_getElem.1 (hp.mem_iff.2 ha)
  have: ∀n i (hi:i<S.length),S.length - i≤n→ ∃j,∃hj:j<S.length,j∈qi8 S∧i≤j∧way S[i] S[j]=0:=fun n=>by
   induction n with
   | zero=>intro i hi hn;omega
   | succ n ih=>
     intro i hi hn
     cases hk:qgf S i with
     | false=>exact ⟨i,hi,List.mem_filter.2 ⟨by simpa using hi,by simp [hk]⟩,Nat.le_refl _,qbK.self _⟩
     | true=>
       simp only [qgf,Bool.and_eq_true,decide_eq_true_eq]at hk
       obtain ⟨h1,h2⟩:=hk
       rw [hat hi,hat h1]at h2
       obtain ⟨j,hj,h3,h4,h5⟩:=ih (i+1) h1 (by omega)
       exact ⟨j,hj,h3,by omega,qbK.eq_tr h2 h5⟩
  obtain ⟨j,hj,h1,h2,h3⟩:=this _ i hi (Nat.le_refl _)
  exact ⟨S[j],List.mem_map.2 ⟨j,h1,hat hj⟩,h3,ge i j hi hj h2⟩
theorem zjv {xs:List Atm} (hx: ∀a∈xs,qjo a):((qi8 (qkX xs)).map fun i=>(qkX xs).getD i ([],0,false))=qdr xs:=zlI hx (zgK (qB1 xs) (qZa xs)) (qKB xs)
end Go.T
/- T: functions that are handed the address of a box of their caller's. -/
namespace Go.T
open Go
structure Gb where
 t:TI
 ps:List TI
 rs:List TI
 pre:Val t.ty→qc ps→Prop
 fv:Val t.ty→qc ps→Val t.ty
 fn:Val t.ty→qc ps→qc rs
structure SoundB (P:Program) (f:FuncId) (g:Gb):Prop where
 enters:qdE P f
 runs: ∀(v:Val g.t.ty) (x:qc g.ps),g.pre v x→ ∀(w:World) (b:Nat) (arr:Array Value) (ty:TypeId) (B:List Nat) (ext:Nat→Prop) (us:List Value),
  w.heap[b]?=some (.cells arr ty (0,0))→M w g.t.ty v arr.toList B→B.Nodup→b∉B→VKs w ext g.ps x us→(∀k,w.heap.size≤k→ext k)→(∀k,ext k→k<w.heap.size→k≠b∧k∉B)→
  Calls P f (Value.pointer (some ⟨b,0,none⟩)::us).toArray w fun e w'=> ∃rv,e= .returned (qeu rv)∧Fr (fun k=>k=b∨k∈B) w w'∧VKs w' (fun _=>True) g.rs (g.fn v x) rv∧
   ∃arr' ty' B',w'.heap[b]?=some (.cells arr' ty' (0,0))∧M w' g.t.ty (g.fv v x) arr'.toList B'∧B'.Nodup∧b∉B'∧ ∀k∈B',k∈B∨w.heap.size≤k
def q5T (t:TI) (ps:List TI) (ntmps:Nat) (v:Val t.ty) (x:qc ps):St:={env:= .one (.ptr 0 0 0)::((qes 0 ps x).map LV1.lv++List.replicate (ntmps - (ps.length+1)) (.tup [])),heap:= .box (q9 1 t.ty v).1::(q9 1 t.ty v).2}
def ze3 (tt:TT) (t:TI) (rs:List TI) (rvs:List ResultVar) (st:St):Option (Val t.ty×qc rs):=match qd5 tt st rvs with
 | some ls=>match qbH st.heap rs ls,st.heap[0]? with
   | some y,some (Blk.box cs)=>match qM st.heap t.ty cs with
     | some (v,[])=>bif qaI st.heap cs&&qb4 (qz cs)then some (v,y)else none
     | _=>none
   | _,_=>none
 | none=>none
section
variable {P : Program} {tt : TT} {Γ : Gam} {w0 w w' : World} {mine : Mine} {m m' : Mp} {h : List Blk} {st : St} {a : Act}
end
end Go.T
/- T: calls that are handed the address of a box of the call's own; calls of function values. -/
namespace Go.T
open Go
def qWt (h:List Blk) (L:Nat) (ids:List Nat):LC→Bool
 | .sl _ _ _ n=>decide (n≤L)
 | .tptr .. =>false
 | .ptr .. =>false
 | .own id=> !ids.contains id&&match h[id]? with
   | some (Blk.row _ _ _ true _ _)=>true
   | some (Blk.row _ _ _ false _ n)=>decide (n≤L)
   | _=>false
 | _=>true
def qX9:List TI→Bool
 | []=>true
 | ti::r=>ti.ty.flat&&qX9 r
def q2d (st:St) (id:Nat) (ids:List Nat) (L:Nat) (cs:List LC) (bl:List Blk) (d:Option Tmp) (l:LV):St:=
 St.put ⟨st.env.map (LV.clamp L),(kill (st.heap.map (Blk.clamp L)) ids).set id (.box cs)++bl⟩ d l
def q32 (g:Gb) (ls:List LV) (d:Option Tmp) (st:St):Res:=match ls with
 | .one (.ptr id 0 0)::args=>match st.heap[id]? with
   | some (Blk.box cs)=>if qaI st.heap cs=true∧qb4 (qz cs)=true∧(args.all fun l=>l.cells.all (qWt st.heap (los st.heap st.heap.length (qz cs)) (qz cs)))=true∧qX9 g.rs=true then
        match qM st.heap g.t.ty cs,qbH st.heap g.ps args with
        | some (v,[]),some x=>some (g.pre v x,q2d st id (qz cs) (los st.heap st.heap.length (qz cs)) (q9 st.heap.length g.t.ty (g.fv v x)).1 (q9 st.heap.length g.t.ty (g.fv v x)).2 d (qhu (qes 0 g.rs (g.fn v x))))
        | _,_=>none
     else none
   | _=>none
 | _=>none
section
variable {P : Program} {w0 w w' : World} {mine : Mine} {m m' : Mp} {h : List Blk} {st : St} {a : Act} {o : Oper} {next : Act → World → Prop} {Q : Exit → Act → World → Prop}
end
end Go.T
/- T: function values: functions that have caught boxes; functions that are handed functions. -/
namespace Go.T
open Go
def qZ8 (w:World) (ext:Nat→Prop):(tis:List TI)→qc tis→List Value→Prop
 | [],_,us=>us=[]
 | ti::r,x,us=> ∃b arr ty rest,us= .pointer (some ⟨b,0,none⟩)::rest∧w.heap[b]?=some (.cells arr ty (0,0))∧ext b∧K w ext ti.ty x.1 arr.toList∧qZ8 w ext r x.2 rest
structure Gc (ps qs:List TI) where
 cs:List TI
 pre:qc cs→qc ps→Prop
 fn:qc cs→qc ps→qc qs
structure SoundC (P:Program) (f:FuncId) {ps qs:List TI} (g:Gc ps qs):Prop where
 enters:qdE P f
 runs: ∀(c:qc g.cs) (x:qc ps),g.pre c x→ ∀(w:World) (ext:Nat→Prop) (us caps:List Value),VKs w ext ps x us→qZ8 w ext g.cs c caps→(∀b,w.heap.size≤b→ext b)→
  Calls P f (us++caps).toArray w fun e w'=> ∃rv,e= .returned (qeu rv)∧Fr (fun _=>False) w w'∧VKs w' ext qs (g.fn c x) rv
def qXQ:(tis:List TI)→qc tis→List LV
 | [],_=>[]
 | ti::r,x=> .one (.tptr ti.ty x.1 0 0)::qXQ r x.2
def q8b (ps cs:List TI) (ntmps:Nat) (c:qc cs) (x:qc ps):St:={env:=(qes 0 ps x).map LV1.lv++(qXQ cs c++List.replicate (ntmps - (ps.length+cs.length)) (.tup [])),heap:=[]}
def zpp (P:Program) (w:World) (ext:Nat→Prop) (fv:Value) (ps qs:List TI) (pre:qc ps→Prop) (fn:qc ps→qc qs):Prop:=
 ∃(f:FuncId) (caps:List Value),fv= .func (.func f) #[] caps.toArray∧qdE P f∧ ∀(w':World) (ext':Nat→Prop) (x:qc ps) (us:List Value),Fr (fun _=>False) w w'→(∀b,b<w.heap.size→ext b→ext' b)→(∀b,w'.heap.size≤b→ext' b)→pre x→VKs w' ext' ps x us→
  Calls P f (us++caps).toArray w' fun e w''=> ∃rv,e= .returned (qeu rv)∧Fr (fun _=>False) w' w''∧VKs w'' ext' qs (fn x) rv
structure Gh where
 r:TI
 ps:List TI
 qs:List TI
 rs:List TI
 pre:(qc ps→Prop)→(qc ps→qc qs)→Val r.ty→Prop
 fn:(qc ps→qc qs)→Val r.ty→qc rs
structure SoundH (P:Program) (f:FuncId) (g:Gh):Prop where
 enters:qdE P f
 runs: ∀(pre:qc g.ps→Prop) (fn:qc g.ps→qc g.qs) (x:Val g.r.ty),g.pre pre fn x→ ∀(w:World) (ext:Nat→Prop) (u fv:Value) (cs:List Value),K w ext g.r.ty x cs→qaQ g.r.agg cs u→zpp P w ext fv g.ps g.qs pre fn→(∀b,w.heap.size≤b→ext b)→
  Calls P f #[u,fv] w fun e w'=> ∃us,e= .returned (qeu us)∧Fr (fun _=>False) w w'∧ ∃B,VMs w' g.rs (g.fn fn x) us B∧B.Nodup∧ ∀b∈B,w.heap.size≤b
def q1V:LC→Bool
 | .sl _ _ _ n=>n==0
 | .own _=>false
 | _=>true
def q0C (fv:Value) (ps qs:List TI) (pre:qc ps→Prop) (fn:qc ps→qc qs) (y:LV) (args:List LV) (d:Option Tmp) (st:St):Res:=match y with
 | .one (.hdr u)=>if (args.all fun l=>l.cells.all q1V)=true then match qbH st.heap ps args with
    | some x=>some (u=fv∧pre x,st.put d (qhu (qes 0 qs (fn x))))
    | none=>none
   else none
 | _=>none
def zpe (fv:Value) (ps qs:List TI) (pre:qc ps→Prop) (fn:qc ps→qc qs) (S:Sem):Sem:=fun o st=>match o.op with
 | .call c=>match c.callee with
   | .value (.tmp t)=>q0C fv ps qs pre fn (st.ev (.tmp t)) (c.args.toList.map st.ev) o.dst st
   | _=>S o st
 | _=>S o st
def qLG (h:List Blk):List LV→Option (List Nat)
 | []=>some []
 | .one (.ptr id 0 0)::r=>match h[id]? with
   | some (.box _)=>match qLG h r with
     | some ids=>some (id::ids)
     | none=>none
   | _=>none
 | _=>none
def q0m (f:Nat) (caught:List LV) (d:Option Tmp) (st:St):Res:=match qLG st.heap caught with
 | some ids=>some (True,st.put d (.one (.clo f ids)))
 | none=>none
def qNZ (h:List Blk):(tis:List TI)→List Nat→Option (qc tis)
 | [],[]=>some ()
 | ti::r,id::ids=>match h[id]? with
   | some (Blk.box cs)=>match qM h ti.ty cs with
     | some (v,[])=>match qNZ h r ids with
       | some vs=>some (v,vs)
       | none=>none
     | _=>none
   | _=>none
 | _,_=>none
abbrev Cls (ps qs:List TI):=List (Nat×Gc ps qs)
def Cls.get {ps qs:List TI}:Cls ps qs→Nat→Option (Gc ps qs)
 | [],_=>none
 | (f,g)::r,f'=>if f=f' then some g else Cls.get r f'
def q0J:LV→Option (Nat×List Nat)
 | .one (.fn f)=>some (f,[])
 | .one (.clo f ids)=>some (f,ids)
 | _=>none
def q0k (g:Gh) (cl:Cls g.ps g.qs) (args:List LV) (d:Option Tmp) (st:St):Res:=match args with
 | [x,y]=>match q0J y with
   | some (f,ids)=>match Cls.get cl f with
     | some gc=>if x.isAgg=some g.r.agg then match qM st.heap g.r.ty x.cells,qNZ st.heap gc.cs ids with
       | some (v,[]),some cx=>some (g.pre (gc.pre cx) (gc.fn cx) v,st.res d (qhu (qdC st.heap.length g.rs (g.fn (gc.fn cx) v)).1) (st.heap++(qdC st.heap.length g.rs (g.fn (gc.fn cx) v)).2.map (Blk.up st.heap.length)))
       | _,_=>none
       else none
     | none=>none
   | none=>none
 | _=>none
abbrev Bxs:=List (Nat×Gb)
abbrev Hns:=List (Nat×(g:Gh)×Cls g.ps g.qs)
def Bxs.get:Bxs→Nat→Option Gb
 | [],_=>none
 | (f,g)::r,f'=>if f=f' then some g else Bxs.get r f'
def Hns.get:Hns→Nat→Option ((g:Gh)×Cls g.ps g.qs)
 | [],_=>none
 | (f,g)::r,f'=>if f=f' then some g else Hns.get r f'
def zp6 (bx:Bxs) (hn:Hns):Sem:=fun o st=>match o.op with
 | .call c=>match c.callee with
   | .value (.func f)=>match Bxs.get bx f with
     | some g=>q32 g (c.args.toList.map st.ev) o.dst st
     | none=>match Hns.get hn f with
       | some gc=>q0k gc.1 gc.2 (c.args.toList.map st.ev) o.dst st
       | none=>none
   | _=>none
 | .makeFunc (.func f) first caught=>match first.toList with
   | []=>q0m f (caught.toList.map st.ev) o.dst st
   | _=>none
 | _=>none
section
variable {P : Program} {tt : TT} {Γ : Gam} {w0 w w' : World} {mine : Mine} {m m' : Mp} {h : List Blk} {st : St} {a : Act} {o : Oper} {next : Act → World → Prop} {Q : Exit → Act → World → Prop}
def q6O (r:TI) (ntmps:Nat) (x:Val r.ty) (fv:Value):St:={env:=LV1.lv ⟨r.agg,qdu 0 r.ty x⟩:: .one (.hdr fv)::List.replicate (ntmps - 2) (.tup []),heap:=[]}
end
end Go.T
/- T: calls that hand functions on. -/
namespace Go.T
open Go
section
variable {P : Program} {tt : TT} {Γ : Gam} {w0 w w' : World} {mine : Mine} {m m' : Mp} {h : List Blk} {st : St} {a : Act} {o : Oper} {next : Act → World → Prop} {Q : Exit → Act → World → Prop}
end
structure HN (ps qs:List TI) where
 n:Nat
 fv:Value
 pre:qc ps→Prop
 fn:qc ps→qc qs
instance {ps qs:List TI}:CoeOut (HN ps qs) Nat:=⟨HN.n⟩
attribute [simp] qWt qX9 q2d q32 q1V q0C zpe qLG q0m qNZ Cls.get q0J q0k Bxs.get Hns.get zp6 qXQ q8b q6O q5T ze3
end Go.T
/- T: functions that take over what their first argument owns: their results may keep it. -/
namespace Go.T
open Go
structure Gw where
 t:TI
 ps:List TI
 rs:List TI
 pre:Val t.ty→qc ps→Prop
 fn:Val t.ty→qc ps→qc rs
structure SoundW (P:Program) (f:FuncId) (g:Gw):Prop where
 enters:qdE P f
 runs: ∀(v:Val g.t.ty) (x:qc g.ps),g.pre v x→ ∀(w:World) (u:Value) (cs:List Value) (B:List Nat) (ext:Nat→Prop) (us:List Value),
  qaQ g.t.agg cs u→M w g.t.ty v cs B→B.Nodup→VKs w ext g.ps x us→(∀k,w.heap.size≤k→ext k)→(∀k,ext k→k<w.heap.size→k∉B)→
  Calls P f (u::us).toArray w fun e w'=> ∃rv B',e= .returned (qeu rv)∧Fr (fun k=>k∈B) w w'∧VMs w' g.rs (g.fn v x) rv B'∧B'.Nodup∧ ∀k∈B',k∈B∨w.heap.size≤k
def q9H (t:TI) (ps:List TI) (ntmps:Nat) (v:Val t.ty) (x:qc ps):St:={env:=(LV1.lv ⟨t.agg,(q9 0 t.ty v).1⟩)::((qes 0 ps x).map LV1.lv++List.replicate (ntmps - (ps.length+1)) (.tup [])),heap:=(q9 0 t.ty v).2}
def q3s (g:Gw) (ls:List LV) (d:Option Tmp) (st:St):Res:=match ls with
 | l::args=>if l.isAgg=some g.t.agg∧qaI st.heap l.cells=true∧qb4 (qz l.cells)=true∧(args.all fun l'=>l'.cells.all (qWt st.heap (los st.heap st.heap.length (qz l.cells)) (qz l.cells)))=true then
    match qM st.heap g.t.ty l.cells,qbH st.heap g.ps args with
    | some (v,[]),some x=>some (g.pre v x,St.put ⟨st.env.map (LV.clamp (los st.heap st.heap.length (qz l.cells))),kill (st.heap.map (Blk.clamp (los st.heap st.heap.length (qz l.cells)))) (qz l.cells)++(qdC st.heap.length g.rs (g.fn v x)).2⟩ d (qhu (qdC st.heap.length g.rs (g.fn v x)).1))
    | _,_=>none
   else none
 | _=>none
abbrev Gws:=List (Nat×Gw)
def Gws.get:Gws→Nat→Option Gw
 | [],_=>none
 | (f,g)::r,f'=>if f=f' then some g else Gws.get r f'
def zeG (ws:Gws) (S:Sem):Sem:=fun o st=>match o.op with
 | .call c=>match c.callee with
   | .value (.func f)=>match Gws.get ws f with
     | some g=>q3s g (c.args.toList.map st.ev) o.dst st
     | none=>S o st
   | _=>S o st
 | _=>S o st
section
variable {P : Program} {tt : TT} {Γ : Gam} {w0 w w' : World} {mine : Mine} {m m' : Mp} {h : List Blk} {st : St} {a : Act} {o : Oper} {next : Act → World → Prop} {Q : Exit → Act → World → Prop}
attribute [simp] Gws.get zeG q3s q9H
end
end Go.T
/- T: atoms as inequalities over the rationals: scaling, strength, normal lists, elimination of a variable. -/
namespace Go.T
def qaA:List Int→List Rat→Rat
 | x::xs,y::ys=>(x:Rat)*y+qaA xs ys
 | _,_=>0
def evA (a:Atm) (p:List Rat):Rat:=qaA a.1 p+(a.2.1:Rat)
def qaz (a:Atm) (p:List Rat):Prop:=evA a p<0∨(a.2.2=false∧evA a p=0)
def qV1 (l:List Atm) (p:List Rat):Prop:= ∀a∈l,qaz a p
theorem qyG (g:Int): ∀(xs:List Int) (p:List Rat),qaA (xs.map fun x=>x*g) p=(g:Rat)*qaA xs p
 | [],p=>by simp [qaA]
 | x::xs,[]=>by simp [qaA]
 | x::xs,y::ys=>by
   simp only [List.map_cons,qaA,qyG g xs ys,Rat.intCast_mul]
   grind
theorem zhr {a b:Atm} {g:Int} {p:List Rat} (h1:a.1=b.1.map fun x=>x*g) (h2:a.2.1=b.2.1*g):evA a p=(g:Rat)*evA b p:=by
 unfold evA
 rw [h1,h2,qyG,Rat.intCast_mul]
 grind
theorem qea {g x:Rat} (hg:0<g):(g*x<0↔x<0)∧(g*x=0↔x=0):=
 ⟨Rat.mul_neg_iff_of_pos_left hg,by rw [Rat.mul_eq_zero];grind⟩
theorem q6V {a b:Atm} {g:Int} {p:List Rat} (hg:0<g) (h1:a.1=b.1.map fun x=>x*g) (h2:a.2.1=b.2.1*g) (h3:a.2.2=b.2.2):qaz a p↔qaz b p:=by
 unfold qaz
 obtain ⟨e1,e2⟩:=qea (x:=evA b p) (Rat.intCast_pos.2 hg)
 rw [zhr h1 h2,h3,e1,e2]
theorem q3v (a:Atm) (p:List Rat):evA a p=((gS a:Int):Rat)*qaA (qjj a) p+(a.2.1:Rat):=by
 unfold evA
 rw [←qyG,←qS9]
theorem zrh {x b:Atm} {p:List Rat} (hw:way x b=0) (hc:qaY x b≤0) (h:qaz b p):qaz x p:=by
 have hd:qjj x=qjj b:=qV4 hw
 have ex:=q3v x p
 have eb:=q3v b p
 have gx:(0:Rat)<((gS x:Int):Rat):=Rat.intCast_pos.2 (qcI x)
 have gb:(0:Rat)<((gS b:Int):Rat):=Rat.intCast_pos.2 (qcI b)
 unfold qaY at hc
 rw [if_pos hw]at hc
 rw [hd]at ex
 have key:((gS b:Int):Rat)*evA x p=((gS x:Int):Rat)*evA b p+((x.2.1*gS b - b.2.1*gS x:Int):Rat):=by
  rw [ex,eb,Rat.intCast_sub,Rat.intCast_mul,Rat.intCast_mul]
  grind
 obtain ⟨sx1,sx2⟩:=qea (x:=evA x p) gb
 obtain ⟨sb1,sb2⟩:=qea (x:=evA b p) gx
 unfold qaz at h ⊢
 rw [←sx1,←sx2,key]
 rw [←sb1,←sb2]at h
 generalize hu:((gS x:Int):Rat)*evA b p=u at*
 have hz:(x.2.1*gS b - b.2.1*gS x:Int)≤0:=by
  rcases Int.lt_trichotomy (x.2.1*gS b - b.2.1*gS x:Int) 0 with hs | hs | hs
  ·omega
  ·omega
  ·have:qdG x b=1:=by unfold qdG sgI;rw [if_neg (by omega),if_pos hs]
   rw [this]at hc
   simp at hc
 have hz':((x.2.1*gS b - b.2.1*gS x:Int):Rat)≤0:=Rat.intCast_nonpos.2 hz
 by_cases hs:(x.2.1*gS b - b.2.1*gS x:Int)=0
 ·have h0:qdG x b=0:=by unfold qdG sgI;simp [hs]
  rw [if_pos h0]at hc
  rw [hs]
  unfold stc at hc
  rcases h with h | ⟨h1,h2⟩
  ·left;grind
  ·right
   refine ⟨?_,by grind⟩
   split at hc
   ·rename_i e;rw [e];exact h1
   ·split at hc
    ·simp at hc
    ·rename_i e;simpa using e
 ·left
  have:((x.2.1*gS b - b.2.1*gS x:Int):Rat)<0:=Rat.intCast_neg_iff.2 (by omega)
  rcases h with h | ⟨_,h⟩<;>grind
theorem zjr (xs:List Atm) (p:List Rat):qV1 (qdr xs) p↔qV1 xs p:=
 ⟨fun h x hx=>by
   obtain ⟨b,hb,hw,hc⟩:=(qKB xs).top x hx
   exact zrh hw hc (h b hb),fun h x hx=>h x ((qKB xs).mem x hx)⟩
theorem qM4: ∀(ls:List (Rat×Bool)),ls=[]∨ ∃m∈ls,∀x∈ls,x.1<m.1∨(x.1=m.1∧(x.2=true→m.2=true))
 | []=> .inl rfl
 | y::ls=>by
   right
   rcases qM4 ls with rfl | ⟨m,hm,h⟩
   ·exact ⟨y,by simp,fun x hx=>by simp at hx;subst hx;exact .inr ⟨rfl,id⟩⟩
   ·by_cases hc:m.1<y.1∨(m.1=y.1∧y.2=true)
    ·refine ⟨y,by simp,fun x hx=> ?_⟩
     rcases List.mem_cons.1 hx with rfl | hx
     ·exact .inr ⟨rfl,id⟩
     ·have:=h x hx;grind
    ·refine ⟨m,by simp [hm],fun x hx=> ?_⟩
     rcases List.mem_cons.1 hx with rfl | hx
     ·grind
     ·exact h x hx
theorem zcR (us:List (Rat×Bool)):us=[]∨ ∃m∈us,∀x∈us,m.1<x.1∨(x.1=m.1∧(x.2=true→m.2=true)):=by
 rcases qM4 (us.map fun u=>(-u.1,u.2))with h | ⟨m,hm,h⟩
 ·left;simpa using h
 ·right
  obtain ⟨u,hu,rfl⟩:=List.mem_map.1 hm
  refine ⟨u,hu,fun x hx=> ?_⟩
  have:=h (-x.1,x.2) (List.mem_map.2 ⟨x,hx,rfl⟩)
  grind
theorem q8W (ls us:List (Rat×Bool)) (h: ∀x∈ls,∀y∈us,x.1<y.1∨(x.2=false∧y.2=false∧x.1=y.1)):
 ∃t:Rat,(∀x∈ls,x.1<t∨(x.2=false∧x.1=t))∧ ∀y∈us,t<y.1∨(y.2=false∧t=y.1):=by
 rcases qM4 ls with rfl | ⟨m,hm,h1⟩<;>rcases zcR us with rfl | ⟨k,hk,h2⟩
 ·exact ⟨0,by simp,by simp⟩
 ·exact ⟨k.1 - 1,by simp,fun y hy=>by have:=h2 y hy;grind⟩
 ·exact ⟨m.1+1,fun x hx=>by have:=h1 x hx;grind,by simp⟩
 ·have hmk:=h m hm k hk
  refine ⟨(m.1+k.1) / 2,fun x hx=> ?_,fun y hy=> ?_⟩
  ·have:=h1 x hx;grind
  ·have:=h2 y hy;grind
theorem qZo: ∀(xs:List Int) (p:List Rat) (v:Nat) (t:Rat),v<p.length→xs.length=p.length→qaA xs (p.set v t)=qaA xs p+(xs.getD v 0:Rat)*(t - p.getD v 0)
 | [],[],v,t,h,_=>by simp at h
 | [],y::ys,v,t,_,h=>by simp at h
 | x::xs,[],v,t,_,h=>by simp at h
 | x::xs,y::ys,0,t,_,_=>by simp [qaA];grind
 | x::xs,y::ys,v+1,t,h,hl=>by
   simp only [List.set_cons_succ,qaA,List.getD_cons_succ]
   rw [qZo xs ys v t (by simpa using h) (by simpa using hl)]
   grind
theorem q2L {a:Atm} {p:List Rat} {v:Nat} {t:Rat} (hv:v<p.length) (hl:a.1.length=p.length):evA a (p.set v t)=evA a p+(a.1.getD v 0:Rat)*(t - p.getD v 0):=by
 unfold evA
 rw [qZo _ _ _ _ hv hl]
 grind
theorem q5i {e c t q:Rat} (hc:0<c):(e+c*(t - q)<0↔t<q - e / c)∧(e+c*(t - q)=0↔t=q - e / c):=by
 have h1:c≠0:=by grind
 have h2:e / c*c=e:=Rat.div_mul_cancel h1
 generalize e / c=z at*
 subst h2
 have h3:z*c+c*(t - q)=c*(t - (q - z)):=by grind
 rw [h3]
 obtain ⟨e1,e2⟩:=qea (x:=t - (q - z)) hc
 rw [e1,e2]
 constructor<;>grind
theorem zn2 {e c t q:Rat} (hc:c<0):(e+c*(t - q)<0↔q - e / c<t)∧(e+c*(t - q)=0↔q - e / c=t):=by
 have h1:c≠0:=by grind
 have h2:e / c*c=e:=Rat.div_mul_cancel h1
 generalize e / c=z at*
 subst h2
 have h3:z*c+c*(t - q)=(-c)*((q - z) - t):=by grind
 rw [h3]
 obtain ⟨e1,e2⟩:=qea (g:= -c) (x:=(q - z) - t) (by grind)
 rw [e1,e2]
 constructor<;>grind
theorem zbC {A B ca cb q:Rat} {sa sb:Bool} (ha:0<ca) (hb:cb<0) (h: -cb*A+ca*B<0∨(sa=false∧sb=false∧ -cb*A+ca*B=0)):q - B / cb<q - A / ca∨(sb=false∧sa=false∧q - B / cb=q - A / ca):=by
 have na:ca≠0:=by grind
 have nb:cb≠0:=by grind
 have ea:A / ca*ca=A:=Rat.div_mul_cancel na
 have eb:B / cb*cb=B:=Rat.div_mul_cancel nb
 generalize A / ca=za at*
 generalize B / cb=zb at*
 subst ea eb
 have e: -cb*(za*ca)+ca*(zb*cb)=(-cb*ca)*(za - zb):=by grind
 rw [e]at h
 have hp:0< -cb*ca:=Rat.mul_pos (by grind) ha
 obtain ⟨e1,e2⟩:=qea (x:=za - zb) hp
 rw [e1,e2]at h
 rcases h with h | ⟨h1,h2,h3⟩
 ·left;grind
 ·right;exact ⟨h2,h1,by grind⟩
theorem elim {l:List Atm} {v:Nat} {p:List Rat} (hv:v<p.length) (hl: ∀a∈l,a.1.length=p.length) (hz: ∀a∈l,a.1.getD v 0=0→qaz a p)
 (hm: ∀a∈l,∀b∈l,0<a.1.getD v 0→b.1.getD v 0<0→((-(b.1.getD v 0:Int):Int):Rat)*evA a p+((a.1.getD v 0:Int):Rat)*evA b p<0∨(a.2.2=false∧b.2.2=false∧((-(b.1.getD v 0:Int):Int):Rat)*evA a p+((a.1.getD v 0:Int):Rat)*evA b p=0)): ∃t,qV1 l (p.set v t):=by
 obtain ⟨t,h1,h2⟩:=q8W ((l.filter fun a=>decide (a.1.getD v 0<0)).map fun a=>(p.getD v 0 - evA a p / ((a.1.getD v 0:Int):Rat),a.2.2)) ((l.filter fun a=>decide (0<a.1.getD v 0)).map fun a=>(p.getD v 0 - evA a p / ((a.1.getD v 0:Int):Rat),a.2.2)) fun x hx y hy=>by
  obtain ⟨b,hb,rfl⟩:=List.mem_map.1 hx
  obtain ⟨a,ha,rfl⟩:=List.mem_map.1 hy
  simp only [List.mem_filter,decide_eq_true_eq]at ha hb
  have hab:=hm a ha.1 b hb.1 ha.2 hb.2
  rw [Rat.intCast_neg]at hab
  exact zbC (Rat.intCast_pos.2 ha.2) (Rat.intCast_neg_iff.2 hb.2) hab
 refine ⟨t,fun a ha=> ?_⟩
 unfold qaz
 rw [q2L hv (hl a ha)]
 rcases Int.lt_trichotomy (a.1.getD v 0) 0 with hc | hc | hc
 ·have hx:=h1 (p.getD v 0 - evA a p / ((a.1.getD v 0:Int):Rat),a.2.2) (List.mem_map.2 ⟨a,by simp only [List.mem_filter,decide_eq_true_eq];exact ⟨ha,hc⟩,rfl⟩)
  obtain ⟨e1,e2⟩:=zn2 (e:=evA a p) (t:=t) (q:=p.getD v 0) (Rat.intCast_neg_iff.2 hc)
  rw [e1,e2]
  exact hx
 ·have:=hz a ha hc
  rw [hc]
  unfold qaz at this
  have e:evA a p+((0:Int):Rat)*(t - p.getD v 0)=evA a p:=by grind
  rw [e];exact this
 ·have hx:=h2 (p.getD v 0 - evA a p / ((a.1.getD v 0:Int):Rat),a.2.2) (List.mem_map.2 ⟨a,by simp only [List.mem_filter,decide_eq_true_eq];exact ⟨ha,hc⟩,rfl⟩)
  obtain ⟨e1,e2⟩:=q5i (e:=evA a p) (t:=t) (q:=p.getD v 0) (Rat.intCast_pos.2 hc)
  rw [e1,e2]
  exact hx
end Go.T
