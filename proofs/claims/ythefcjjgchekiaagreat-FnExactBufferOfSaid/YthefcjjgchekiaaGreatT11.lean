/- T: the library's Grow of a nil slice. -/
import Derived.Test.YthefcjjgchekiaaGreatT10
import Derived.Shelf.Spec.SlicesGrow
import Derived.KernelRfl
set_option linter.unusedSimpArgs false
set_option linter.unusedVariables false
namespace Go.T
open Go Go.Proofs Go.Shelf Go.RowKit Go.Lib
theorem qS6 {P:Program} {ρ:Ren} (L:Lays8.n4 P ρ) {f:FuncId} (hf:ρ.f 4=f) (hen:qca P f) {tt:TT} (hT:qQ P tt) {ti:TI} (ht:tt.get (ρ.t 25)=some ti):SoundGr P f (ρ.t 25) ti.ty:=by
 refine ⟨hen,fun n hn w=> ?_⟩
 subst hf
 by_cases h0:n=0
 ·subst h0
  refine Calls.mono (Any8.slices_Grow_room L none 0 0 0 w (by omega) (by omega) (by omega) (by omega)) fun e' w' h=> ?_
  obtain ⟨rfl,rfl⟩:=h
  exact ⟨_,rfl,Fr.refl _ _,World.ownsRow_nil _ _ _ _,fun b hb=>by simp [Value.ownBlock]at hb⟩
 ·obtain ⟨i,z,hi,hs,hz,hzc,hby⟩:=(hT _ _ ht).info
  have hzs:z.cells.size=ti.ty.sz:=by
   have:=congrArg List.length hzc
   simpa [qcJ] using this
  refine Calls.mono (Any8.slices_Grow_grow L i z hi hz (by rw [hs];exact ti.ty.sz_pos) none 0 0 n [] w (by omega) (by omega) (by
   have:(0+n)*i.bytes≤1048576*65536:=Nat.mul_le_mul (by omega) hby
   omega) (by omega) (by simp) (fun _=>rfl) (fun a ha=>by simp at ha)) fun e' w' h=> ?_
  obtain ⟨rfl,rfl⟩:=h
  have hge:=grownCap_ge w (0+n) 0 (ρ.t 25)
  refine ⟨_,rfl,⟨rfl,rfl,rfl,by simp,fun b hb _=> ?_,by simp⟩,⟨by simp,.inr ⟨w.heap.size,_,_,rfl,Nat.zero_le _,heap_alloc_new w.drew _,Nat.zero_le _,grownCap_le_maxLen _ _ _ _ (by unfold maxLen;omega),?_,by simp⟩⟩,fun b hb=> ?_⟩
  ·exact heap_alloc_old w.drew _ hb
  ·simp only [Array.size_append,size_zeroCells,hzs]
   generalize hcp:grownCap w (0+n) 0 (ρ.t 25)=cp at hge ⊢
   simp only [List.size_toArray,List.length_nil,Nat.zero_add,Nat.sub_zero]
   rw [←Nat.add_mul]
   congr 1
   omega
  ·simp [Value.ownBlock]at hb
   omega
end Go.T
/- Plain: the order of atoms; normal lists of atoms. -/
namespace Go.T
structure Cmp {α:Type} (c:α→α→Int):Prop where
 anti: ∀x y,c x y= - c y x
 tr: ∀x y z,c x y≤0→c y z≤0→c x z≤0
namespace Cmp
variable {α : Type} {c d : α → α → Int}
theorem self (h:Cmp c) (x:α):c x x=0:=by have:=h.anti x x;omega
theorem lt_le (h:Cmp c) {x y z:α} (h1:c x y<0) (h2:c y z≤0):c x z<0:=by
 have h3:=h.tr x y z (by omega) h2
 rcases Int.lt_or_eq_of_le h3 with h4 | h4
 ·exact h4
 ·have h5:=h.anti x z
  have h6:=h.tr y z x h2 (by omega)
  have h7:=h.anti x y
  omega
theorem le_lt (h:Cmp c) {x y z:α} (h1:c x y≤0) (h2:c y z<0):c x z<0:=by
 have h3:=h.tr x y z h1 (by omega)
 rcases Int.lt_or_eq_of_le h3 with h4 | h4
 ·exact h4
 ·have h5:=h.anti x z
  have h6:=h.tr z x y (by omega) h1
  have h7:=h.anti y z
  omega
theorem eq_tr (h:Cmp c) {x y z:α} (h1:c x y=0) (h2:c y z=0):c x z=0:=by
 have h3:=h.tr x y z (by omega) (by omega)
 have h4:=h.anti x y
 have h5:=h.anti y z
 have h6:=h.tr z y x (by omega) (by omega)
 have h7:=h.anti x z
 omega
theorem lex (h:Cmp c) (g:Cmp d):Cmp fun x y=>if c x y=0 then d x y else c x y:=by
 refine ⟨fun x y=> ?_,fun x y z h1 h2=> ?_⟩
 ·have:=h.anti x y
  have:=g.anti x y
  split<;>split<;>omega
 ·have e1:c x y≤0:=by split at h1<;>omega
  have e2:c y z≤0:=by split at h2<;>omega
  have e3:=h.tr x y z e1 e2
  split
  ·rename_i e4
   have e5:=h.anti x z
   have e6:=h.tr y z x e2 (by omega)
   have e7:=h.anti x y
   have e8:=h.tr z x y (by omega) e1
   have e9:=h.anti y z
   rw [if_pos (by omega)]at h1 h2
   exact g.tr x y z h1 h2
  ·exact e3
theorem on {β:Type} (h:Cmp c) (f:β→α):Cmp fun x y=>c (f x) (f y):=⟨fun _ _=>h.anti _ _,fun _ _ _=>h.tr _ _ _⟩
end Cmp
def qaT:List Int→List Int→Int
 | [],[]=>0
 | [],_::_=> -1
 | _::_,[]=>1
 | x::xs,y::ys=>if x<y then -1 else if y<x then 1 else qaT xs ys
theorem qSl: ∀x y,qaT x y= - qaT y x
 | [],[]=>rfl
 | [],_::_=>rfl
 | _::_,[]=>rfl
 | x::xs,y::ys=>by
   have:=qSl xs ys
   simp only [qaT]
   split<;>split<;>(try split)<;>omega
theorem qP1: ∀x y z,qaT x y≤0→qaT y z≤0→qaT x z≤0
 | [],_,[],_,_=>by simp [qaT]
 | [],_,_::_,_,_=>by simp [qaT]
 | _::_,[],_,h,_=>by simp [qaT]at h
 | _::_,_::_,[],_,h=>by simp [qaT]at h
 | x::xs,y::ys,z::zs,h1,h2=>by
   simp only [qaT]at*
   have ih:=qP1 xs ys zs
   by_cases a:x<y
   ·by_cases b:y<z
    ·rw [if_pos (by omega)];omega
    ·rw [if_neg b]at h2
     by_cases b':z<y
     ·rw [if_pos b']at h2;omega
     ·rw [if_pos (by omega)];omega
   ·rw [if_neg a]at h1
    by_cases a':y<x
    ·rw [if_pos a']at h1;omega
    ·rw [if_neg a']at h1
     by_cases b:y<z
     ·rw [if_pos (by omega)];omega
     ·rw [if_neg b]at h2
      by_cases b':z<y
      ·rw [if_pos b']at h2;omega
      ·rw [if_neg b']at h2
       rw [if_neg (by omega),if_neg (by omega)]
       exact ih h1 h2
theorem qZw:Cmp qaT:=⟨qSl,qP1⟩
theorem qQc: ∀{x y:List Int},qaT x y=0→x=y
 | [],[],_=>rfl
 | [],_::_,h=>by simp [qaT]at h
 | _::_,[],h=>by simp [qaT]at h
 | x::xs,y::ys,h=>by
   simp only [qaT]at h
   split at h
   ·omega
   ·split at h
    ·omega
    ·rw [qQc h,show x=y by omega]
def gL:Nat→List Int→Nat
 | g,[]=>g
 | g,x::r=>gL (Nat.gcd g x.natAbs) r
theorem qAE: ∀(xs:List Int) (a b:Nat),gL (Nat.gcd a b) xs=Nat.gcd (gL a xs) b
 | [],_,_=>rfl
 | x::r,a,b=>by
   simp only [gL]
   rw [←qAE r]
   congr 1
   rw [Nat.gcd_assoc,Nat.gcd_comm b,←Nat.gcd_assoc]
theorem qpU: ∀(xs:List Int) (g:Nat),gL g xs ∣ g∧ ∀x∈xs,gL g xs ∣ x.natAbs
 | [],g=>⟨Nat.dvd_refl g,fun x hx=>by simp at hx⟩
 | x::r,g=>by
   obtain ⟨h1,h2⟩:=qpU r (Nat.gcd g x.natAbs)
   refine ⟨Nat.dvd_trans h1 (Nat.gcd_dvd_left _ _),fun y hy=> ?_⟩
   rcases List.mem_cons.1 hy with rfl | hy
   ·exact Nat.dvd_trans h1 (Nat.gcd_dvd_right _ _)
   ·exact h2 y hy
theorem qJu {xs:List Int}:gL 0 xs=0↔ ∀x∈xs,x=0:=by
 constructor
 ·intro h x hx
  have:=(qpU xs 0).2 x hx
  rw [h]at this
  have:=Nat.eq_zero_of_zero_dvd this
  omega
 ·intro h
  induction xs with
  | nil=>rfl
  | cons x r ih=>
    have h0:=h x (by simp)
    subst h0
    exact ih fun y hy=>h y (by simp [hy])
abbrev Atm:=List Int×Int×Bool
def gS (a:Atm):Nat:=max 1 (gL 0 a.1)
def qn7 (a:Atm):List Int:=a.1.map fun x=>x.tdiv (gS a:Int)
def sgI (n:Int):Int:=if n<0 then -1 else if 0<n then 1 else 0
def way (a b:Atm):Int:=qaT (qn7 a) (qn7 b)
def qhv (a b:Atm):Int:=sgI (a.2.1*gS b - b.2.1*gS a)
def stc (a b:Atm):Int:=if a.2.2=b.2.2 then 0 else if a.2.2 then 1 else -1
def qaG (a b:Atm):Int:=if way a b=0 then (if qhv a b=0 then stc a b else qhv a b)else way a b
theorem qew (a:Atm):(0:Int)<gS a:=by unfold gS;omega
theorem qbl:Cmp way:=qZw.on qn7
theorem q8F:Cmp qhv:=by
 refine ⟨fun a b=> ?_,fun a b c h1 h2=> ?_⟩
 ·unfold qhv sgI
  split<;>split<;>(try split)<;>(try split)<;>omega
 ·have le: ∀x:Int,sgI x≤0↔x≤0:=fun x=>by unfold sgI;split<;>(try split)<;>omega
  unfold qhv at*
  rw [le]at*
  have ga:=qew a;have gb:=qew b;have gc:=qew c
  generalize (gS a:Int)=p at*
  generalize (gS b:Int)=q at*
  generalize (gS c:Int)=r at*
  have h1:a.2.1*q≤b.2.1*p:=by omega
  have h2:b.2.1*r≤c.2.1*q:=by omega
  have e1:(a.2.1*q)*r≤(b.2.1*p)*r:=Int.mul_le_mul_of_nonneg_right h1 (by omega)
  have e2:(b.2.1*r)*p≤(c.2.1*q)*p:=Int.mul_le_mul_of_nonneg_right h2 (by omega)
  have e3:(b.2.1*p)*r=(b.2.1*r)*p:=by rw [Int.mul_assoc,Int.mul_comm p r,←Int.mul_assoc]
  have e4:(a.2.1*r)*q≤(c.2.1*p)*q:=by
   have:(a.2.1*r)*q=(a.2.1*q)*r:=by rw [Int.mul_assoc,Int.mul_comm r q,←Int.mul_assoc]
   have:(c.2.1*p)*q=(c.2.1*q)*p:=by rw [Int.mul_assoc,Int.mul_comm p q,←Int.mul_assoc]
   omega
  have:=Int.le_of_mul_le_mul_right e4 gb
  omega
theorem q2A:Cmp stc:=by
 refine ⟨fun a b=> ?_,fun a b c=> ?_⟩
 ·unfold stc;cases a.2.2<;>cases b.2.2<;>decide
 ·unfold stc;cases a.2.2<;>cases b.2.2<;>cases c.2.2<;>decide
theorem qbx:Cmp qaG:=qbl.lex (q8F.lex q2A)
def qlf (a:Atm):Prop:=gL 0 a.1≠0∧gL a.2.1.natAbs a.1≤1
theorem qQl {a:Atm}:a.1=(qn7 a).map fun x=>x*(gS a:Int):=by
 unfold qn7
 rw [List.map_map]
 conv=>lhs;rw [←List.map_id a.1]
 apply List.map_congr_left
 intro x hx
 have hd:((gS a:Nat):Int) ∣ x:=by
  have h:=(qpU a.1 0).2 x hx
  have hg:gS a ∣ x.natAbs:=by
   unfold gS
   by_cases h0:gL 0 a.1=0
   ·rw [h0];exact Nat.one_dvd _
   ·rw [Nat.max_eq_right (by omega)];exact h
  exact Int.ofNat_dvd_left.2 hg
 exact (Int.tdiv_mul_cancel hd).symm
theorem qQW {a b:Atm} (ha:qlf a) (hb:qlf b) (h:qaG a b=0):a=b:=by
 unfold qaG at h
 split at h
 ·rename_i h1
  split at h
  ·rename_i h2
   have hd:=qQc h1
   have hs:a.2.2=b.2.2:=by
        unfold stc at h
        split at h
        ·assumption
        ·split at h<;>omega
   have e:a.2.1*gS b=b.2.1*gS a:=by
        unfold qhv sgI at h2
        split at h2
        ·omega
        ·split at h2<;>omega
   have cop: ∀x:Atm,qlf x→Nat.gcd (gS x) x.2.1.natAbs=1:=fun x hx=>by
        have e1:gL x.2.1.natAbs x.1=Nat.gcd (gL 0 x.1) x.2.1.natAbs:=by rw [←qAE,Nat.gcd_zero_left]
        have e2:gS x=gL 0 x.1:=Nat.max_eq_right (by have:=hx.1;omega)
        rw [e2,←e1]
        have h1:=hx.2
        have h2:gL x.2.1.natAbs x.1≠0:=by
         rw [e1];intro h0
         exact hx.1 (Nat.eq_zero_of_gcd_eq_zero_left h0)
        omega
   have e':a.2.1.natAbs*gS b=b.2.1.natAbs*gS a:=by
        have:=congrArg Int.natAbs e
        simpa [Int.natAbs_mul] using this
   have d1:gS a ∣ gS b:=by
        have:gS a ∣ a.2.1.natAbs*gS b:=⟨b.2.1.natAbs,by rw [e',Nat.mul_comm]⟩
        exact (Nat.Coprime.dvd_of_dvd_mul_left (cop a ha) this)
   have d2:gS b ∣ gS a:=by
        have:gS b ∣ b.2.1.natAbs*gS a:=⟨a.2.1.natAbs,by rw [←e',Nat.mul_comm]⟩
        exact (Nat.Coprime.dvd_of_dvd_mul_left (cop b hb) this)
   have hg:gS a=gS b:=Nat.dvd_antisymm d1 d2
   have hc:a.2.1=b.2.1:=by
        rw [hg]at e
        exact Int.eq_of_mul_eq_mul_right (by have:=qew b;omega) e
   have h1:a.1=b.1:=by rw [qQl (a:=a),qQl (a:=b),hg,hd]
   exact Prod.ext h1 (Prod.ext hc hs)
  ·rename_i h2;exact absurd h h2
 ·rename_i h1;exact absurd h h1
structure NormOf (xs l:List Atm):Prop where
 ord:l.Pairwise fun a b=>way a b<0
 mem: ∀a∈l,a∈xs
 top: ∀a∈xs,∃b∈l,way a b=0∧qaG a b≤0
theorem q1n {l:List Atm} (h:l.Pairwise fun a b=>way a b<0) {a b:Atm} (ha:a∈l) (hb:b∈l) (e:way a b=0):a=b:=by
 obtain ⟨i,hi,rfl⟩:=List.mem_iff_getElem.1 ha
 obtain ⟨j,hj,rfl⟩:=List.mem_iff_getElem.1 hb
 rw [List.pairwise_iff_getElem]at h
 rcases Nat.lt_trichotomy i j with h1 | h1 | h1
 ·have:=h i j hi hj h1;omega
 ·subst h1;rfl
 ·have:=h j i hj hi h1
  have:=qbl.anti l[i] l[j]
  omega
theorem qR4: ∀{l l':List Atm},l.Pairwise (fun a b=>way a b<0)→l'.Pairwise (fun a b=>way a b<0)→(∀a,a∈l↔a∈l')→l=l'
 | [],[],_,_,_=>rfl
 | [],b::r',_,_,h=>by have:=(h b).2 (by simp);simp at this
 | a::r,[],_,_,h=>by have:=(h a).1 (by simp);simp at this
 | a::r,b::r',h1,h2,h=>by
   obtain ⟨p1,p2⟩:=List.pairwise_cons.1 h1
   obtain ⟨q1,q2⟩:=List.pairwise_cons.1 h2
   have e:a=b:=by
    rcases List.mem_cons.1 ((h a).1 (by simp))with e | e
    ·exact e
    ·rcases List.mem_cons.1 ((h b).2 (by simp))with f | f
     ·exact f.symm
     ·have:=p1 b f
      have:=q1 a e
      have:=qbl.anti a b
      omega
   subst e
   rw [qR4 p2 q2 fun x=> ?_]
   have:=h x
   constructor
   ·intro hx
    rcases List.mem_cons.1 (this.1 (by simp [hx]))with e | e
    ·subst e
     have:=p1 x hx
     have:=qbl.self x
     omega
    ·exact e
   ·intro hx
    rcases List.mem_cons.1 (this.2 (by simp [hx]))with e | e
    ·subst e
     have:=q1 x hx
     have:=qbl.self x
     omega
    ·exact e
theorem q6V {xs l l':List Atm} (hx: ∀a∈xs,qlf a) (h:NormOf xs l) (h':NormOf xs l'):l=l':=by
 have half: ∀{l l':List Atm},NormOf xs l→NormOf xs l'→ ∀a∈l,a∈l':=fun {l l'} h h' a ha=>by
  obtain ⟨b,hb,w1,c1⟩:=h'.top a (h.mem a ha)
  obtain ⟨c,hc,w2,c2⟩:=h.top b (h'.mem b hb)
  have:a=c:=q1n h.ord ha hc (qbl.eq_tr w1 w2)
  subst this
  have e:qaG a b=0:=by have:=qbx.anti a b;omega
  rw [qQW (hx a (h.mem a ha)) (hx b (h'.mem b hb)) e]
  exact hb
 exact qR4 h.ord h'.ord fun a=>⟨half h h' a,half h' h a⟩
def qav:List Atm→Atm→List Atm
 | [],a=>[a]
 | b::r,a=>if way b a<0 then b::qav r a else if way b a=0 then (if qaG a b≤0 then b::r else a::r)else a::b::r
def qgm (xs:List Atm):List Atm:=xs.foldl qav []
theorem qpz: ∀{l:List Atm} {a x:Atm},x∈qav l a→x=a∨x∈l
 | [],a,x,h=>by simp [qav]at h;exact .inl h
 | b::r,a,x,h=>by
   simp only [qav]at h
   split at h
   ·rcases List.mem_cons.1 h with e | e
    ·exact .inr (by simp [e])
    ·rcases qpz e with e | e
     ·exact .inl e
     ·exact .inr (by simp [e])
   ·split at h
    ·split at h
     ·exact .inr h
     ·rcases List.mem_cons.1 h with e | e
      ·exact .inl e
      ·exact .inr (by simp [e])
    ·rcases List.mem_cons.1 h with e | e
     ·exact .inl e
     ·exact .inr e
theorem qRv: ∀{l:List Atm} {a:Atm},l.Pairwise (fun a b=>way a b<0)→(qav l a).Pairwise (fun a b=>way a b<0)
 | [],a,_=>by simp [qav]
 | b::r,a,h=>by
   obtain ⟨p1,p2⟩:=List.pairwise_cons.1 h
   simp only [qav]
   split
   ·rename_i h1
    refine List.pairwise_cons.2 ⟨fun x hx=> ?_,qRv p2⟩
    rcases qpz hx with rfl | hx
    ·exact h1
    ·exact p1 x hx
   ·split
    ·rename_i h1 h2
     split
     ·exact h
     ·refine List.pairwise_cons.2 ⟨fun x hx=> ?_,p2⟩
      have:=qbl.anti a b
      exact qbl.le_lt (by omega) (p1 x hx)
    ·rename_i h1 h2
     have:=qbl.anti a b
     refine List.pairwise_cons.2 ⟨fun x hx=> ?_,h⟩
     rcases List.mem_cons.1 hx with rfl | hx
     ·omega
     ·exact qbl.lt_le (by omega) (Int.le_of_lt (p1 x hx))
theorem qIF: ∀{l:List Atm} {a x:Atm},(x=a∨ ∃b∈l,way x b=0∧qaG x b≤0)→ ∃b∈qav l a,way x b=0∧qaG x b≤0
 | [],a,x,h=>by
   rcases h with rfl | ⟨b,hb,_⟩
   ·exact ⟨x,by simp [qav],qbl.self x,by rw [qbx.self];omega⟩
   ·simp at hb
 | b::r,a,x,h=>by
   simp only [qav]
   split
   ·rename_i h1
    rcases h with rfl | ⟨c,hc,h2⟩
    ·obtain ⟨c,hc,h2⟩:=qIF (l:=r) (a:=x) (x:=x) (.inl rfl)
     exact ⟨c,by simp [hc],h2⟩
    ·rcases List.mem_cons.1 hc with rfl | hc
     ·exact ⟨c,by simp,h2⟩
     ·obtain ⟨c',hc',h3⟩:=qIF (l:=r) (a:=a) (x:=x) (.inr ⟨c,hc,h2⟩)
      exact ⟨c',by simp [hc'],h3⟩
   ·split
    ·rename_i h1 h2
     have hab:=qbl.anti a b
     split
     ·rename_i h3
      rcases h with rfl | h
      ·exact ⟨b,by simp,by omega,h3⟩
      ·exact h
     ·rename_i h3
      have hc:=qbx.anti a b
      rcases h with rfl | ⟨c,hc',h4⟩
      ·exact ⟨x,by simp,qbl.self x,by rw [qbx.self];omega⟩
      ·rcases List.mem_cons.1 hc' with rfl | hc'
       ·exact ⟨a,by simp,qbl.eq_tr h4.1 h2,qbx.tr x c a h4.2 (by omega)⟩
       ·exact ⟨c,by simp [hc'],h4⟩
    ·rcases h with rfl | ⟨c,hc,h2⟩
     ·exact ⟨x,by simp,qbl.self x,by rw [qbx.self];omega⟩
     ·exact ⟨c,by simp only [List.mem_cons]at hc ⊢;exact .inr hc,h2⟩
theorem qSP: ∀(xs ys l:List Atm),NormOf ys l→NormOf (ys++xs) (xs.foldl qav l)
 | [],ys,l,h=>by simpa using h
 | a::xs,ys,l,h=>by
   have:NormOf (ys++[a]) (qav l a):=⟨qRv h.ord,fun x hx=>by
    rcases qpz hx with rfl | hx
    ·simp
    ·simp [h.mem x hx],fun x hx=>by
    refine qIF ?_
    rcases List.mem_append.1 hx with hx | hx
    ·exact .inr (h.top x hx)
    ·exact .inl (by simpa using hx)⟩
   have:=qSP xs (ys++[a]) (qav l a) this
   simpa using this
theorem q2y (xs:List Atm):NormOf xs (qgm xs):=by simpa [qgm] using qSP xs [] [] ⟨List.Pairwise.nil,fun a h=>by simp at h,fun a h=>by simp at h⟩
def qle (xs:List Atm):List Atm:=xs.mergeSort fun a b=>decide (qaG a b≤0)
theorem qu5 (xs:List Atm):(qle xs).Perm xs:=List.mergeSort_perm _ _
theorem qSS (xs:List Atm):(qle xs).Pairwise fun a b=>qaG a b≤0:=by
 have:=List.pairwise_mergeSort (le:=fun a b=>decide (qaG a b≤0)) (fun a b c h1 h2=>by
  simp only [decide_eq_true_eq]at*;exact qbx.tr a b c h1 h2) (fun a b=>by
  have:=qbx.anti a b
  simp only [Bool.or_eq_true,decide_eq_true_eq];omega) xs
 exact this.imp fun h=>by simpa using h
theorem qXy {xs ys:List Atm} (hx: ∀a∈xs,qlf a) (hp:ys.Perm xs) (ho:ys.Pairwise fun a b=> ¬qaG b a<0):ys=qle xs:=by
 refine List.Perm.eq_of_pairwise (le:=fun a b=>qaG a b≤0) (fun a b ha hb h1 h2=> ?_) (ho.imp fun {a b} h=>by have:=qbx.anti a b;omega) (qSS xs) (hp.trans (qu5 xs).symm)
 have:=qbx.anti a b
 exact qQW (hx a (hp.mem_iff.1 ha)) (hx b ((qu5 xs).mem_iff.1 hb)) (by omega)
def qfE (S:List Atm) (i:Nat):Bool:=decide (i+1<S.length)&&decide (way (S.getD i ([],0,false)) (S.getD (i+1) ([],0,false))=0)
def qiB (S:List Atm):List Nat:=(List.range S.length).filter fun i=> !qfE S i
theorem zaj (S:List Atm):(qiB S).Nodup:=(List.nodup_range).filter _
theorem qwY {S:List Atm} {i:Nat} (h:i∈qiB S):i<S.length:=by
 have:=(List.mem_filter.1 h).1;simpa using this
theorem qQN {a b:Atm} (h:qaG a b≤0):way a b≤0:=by
 unfold qaG at h;split at h<;>omega
theorem qXP {xs S:List Atm} (hp:S.Perm xs) (ho:S.Pairwise fun a b=>qaG a b≤0):NormOf xs ((qiB S).map fun i=>S.getD i ([],0,false)):=by
 have hat: ∀{i:Nat} (h:i<S.length),S.getD i ([],0,false)=S[i]:=fun h=>by simp [List.getD,h]
 have ho':=List.pairwise_iff_getElem.1 ho
 have ge: ∀i j (h1:i<S.length) (h2:j<S.length),i≤j→qaG S[i] S[j]≤0:=fun i j h1 h2 h=>by
  rcases Nat.lt_or_eq_of_le h with h | h
  ·exact ho' i j h1 h2 h
  ·subst h;rw [qbx.self];omega
 refine ⟨?_,fun a ha=> ?_,fun a ha=> ?_⟩
 ·rw [List.pairwise_map]
  have hlt:(qiB S).Pairwise (· < ·):=(List.pairwise_lt_range).filter _
  refine hlt.imp_of_mem fun {i j} hi hj hij=> ?_
  have h1:=qwY hi
  have h2:=qwY hj
  rw [hat h1,hat h2]
  have hk:=(List.mem_filter.1 hi).2
  simp only [qfE,Bool.not_eq_true',Bool.and_eq_false_iff,decide_eq_false_iff_not]at hk
  have h3:i+1<S.length:=by omega
  have hne:way S[i] S[i+1]≠0:=by
   rcases hk with hk | hk
   ·omega
   ·rwa [hat h1,hat h3]at hk
  have l1:=qQN (ge i (i+1) h1 h3 (by omega))
  have l2:=qQN (ge (i+1) j h3 h2 (by omega))
  exact qbl.lt_le (by omega) l2
 ·obtain ⟨i,hi,rfl⟩:=List.mem_map.1 ha
  rw [hat (qwY hi)]
  exact hp.mem_iff.1 (List.getElem_mem _)
 ·obtain ⟨i,hi,rfl⟩:=List.mem_iff_getElem.1 (hp.mem_iff.2 ha)
  have: ∀n i (hi:i<S.length),S.length - i≤n→ ∃j,∃hj:j<S.length,j∈qiB S∧i≤j∧way S[i] S[j]=0:=fun n=>by
   induction n with
   | zero=>intro i hi hn;omega
   | succ n ih=>
     intro i hi hn
     cases hk:qfE S i with
     | false=>exact ⟨i,hi,List.mem_filter.2 ⟨by simpa using hi,by simp [hk]⟩,Nat.le_refl _,qbl.self _⟩
     | true=>
       simp only [qfE,Bool.and_eq_true,decide_eq_true_eq]at hk
       obtain ⟨h1,h2⟩:=hk
       rw [hat hi,hat h1]at h2
       obtain ⟨j,hj,h3,h4,h5⟩:=ih (i+1) h1 (by omega)
       exact ⟨j,hj,h3,by omega,qbl.eq_tr h2 h5⟩
  obtain ⟨j,hj,h1,h2,h3⟩:=this _ i hi (Nat.le_refl _)
  exact ⟨S[j],List.mem_map.2 ⟨j,h1,hat hj⟩,h3,ge i j hi hj h2⟩
theorem q2O {xs:List Atm} (hx: ∀a∈xs,qlf a):((qiB (qle xs)).map fun i=>(qle xs).getD i ([],0,false))=qgm xs:=q6V hx (qXP (qu5 xs) (qSS xs)) (q2y xs)
end Go.T
/- T: functions that are handed the address of a box of their caller's. -/
namespace Go.T
open Go
structure Gb where
 t:TI
 ps:List TI
 rs:List TI
 pre:Val t.ty→qb ps→Prop
 fv:Val t.ty→qb ps→Val t.ty
 fn:Val t.ty→qb ps→qb rs
structure SoundB (P:Program) (f:FuncId) (g:Gb):Prop where
 enters:qca P f
 runs: ∀(v:Val g.t.ty) (x:qb g.ps),g.pre v x→ ∀(w:World) (b:Nat) (arr:Array Value) (ty:TypeId) (B:List Nat) (ext:Nat→Prop) (us:List Value),
  w.heap[b]?=some (.cells arr ty (0,0))→M w g.t.ty v arr.toList B→B.Nodup→b∉B→VKs w ext g.ps x us→(∀k,w.heap.size≤k→ext k)→(∀k,ext k→k<w.heap.size→k≠b∧k∉B)→
  Calls P f (Value.pointer (some ⟨b,0,none⟩)::us).toArray w fun e w'=> ∃rv,e= .returned (qbf rv)∧Fr (fun k=>k=b∨k∈B) w w'∧VKs w' (fun _=>True) g.rs (g.fn v x) rv∧
   ∃arr' ty' B',w'.heap[b]?=some (.cells arr' ty' (0,0))∧M w' g.t.ty (g.fv v x) arr'.toList B'∧B'.Nodup∧b∉B'∧ ∀k∈B',k∈B∨w.heap.size≤k
def qqt (t:TI) (ps:List TI) (ntmps:Nat) (v:Val t.ty) (x:qb ps):St:={env:= .one (.ptr 0 0 0)::((qe8 0 ps x).map LV1.lv++List.replicate (ntmps - (ps.length+1)) (.tup [])),heap:= .box (qF 1 t.ty v).1::(qF 1 t.ty v).2}
def qqb (tt:TT) (t:TI) (rs:List TI) (rvs:List ResultVar) (st:St):Option (Val t.ty×qb rs):=match qet tt st rvs with
 | some ls=>match qbd st.heap rs ls,st.heap[0]? with
   | some y,some (Blk.box cs)=>match qx st.heap t.ty cs with
     | some (v,[])=>bif qad st.heap cs&&qbu (qk cs)then some (v,y)else none
     | _=>none
   | _,_=>none
 | none=>none
section
variable {P : Program} {tt : TT} {Γ : Gam} {w0 w w' : World} {mine : Mine} {m m' : Mp} {h : List Blk} {st : St} {a : Act}
theorem qC1 {c:LC}:okC w m h (fun _=>True) c:=by
 cases c with
 | sl e t xs n=>exact fun _ _ _=>trivial
 | own id=>
   intro x _
   refine ⟨fun _ _=>trivial,?_⟩
   cases x with
   | row e t xs dp mt n=>
     cases dp with
     | true=>trivial
     | false=>exact fun _ _ _=>trivial
   | _=>trivial
 | _=>trivial
theorem q46 (hT : qQ P tt) (hΓ : ∀ f g, Γ.get f = some g → Sound P f g) (hm : P.follows .mixedOrders = true) {f : FuncId} {fn : Func} {c : Code} {g : Gb} (hf : P.funcs[f]? = some fn) (hb : fn.body = some c) (hname : (fn.name == "runtime.NumGoroutine") = false)
 (hrun: ∀(v:Val g.t.ty) (x:qb g.ps),g.pre v x→ ∃T:Tab,T.pins=true∧qj T.tr c=true∧(qbw P T.sem∧qn P T)∧qd tt Γ T c (qcl (qqb tt g.t g.rs fn.results.toList)) (qqt g.t g.ps fn.ntmps v x)=some (g.fv v x,g.fn v x)):SoundB P f g:=by
 refine ⟨⟨fn,hf,by rw [hb];rfl,hname⟩,fun v x hx w b arr ty B ext us hbl hM hB hbB hvs hext hdis=> ?_⟩
 refine calls_of_wp hf hb ?_
 obtain ⟨T,hpins,hp,hS,hrun⟩:=hrun v x hx
 have hMl:=qcN hM
 have hM1:=qHR hM
 obtain ⟨rl,hfl,rfl,hcl⟩:=qip 1 hM
 let mE:Mp:=⟨fun _=>undef,fun _=>b,fun _=>[],fun k=>ext k∨k=b∨k∈rl.flatMap qp.fp⟩
 let mine:Mine:=⟨fun k=>k=b∨k∈rl.flatMap qp.fp,fun k=>ext k∨k=b∨k∈rl.flatMap qp.fp,fun id=>if id=0 then some ((mE.rows 1 rl).val 0,b)else none⟩
 have hblt:b<w.heap.size:=(Array.getElem?_eq_some_iff.1 hbl).1
 have hmem: ∀{j:Nat} {r:qp},rl[j]?=some r→ ∀k∈r.fp,k∈rl.flatMap qp.fp:=fun hj k hk=>List.mem_flatMap.2 ⟨_,List.mem_of_getElem? hj,hk⟩
 have hget: ∀{id:Nat} {y:Blk},(Blk.box (qF 1 g.t.ty v).1::(qF 1 g.t.ty v).2)[id]?=some y→(id=0∧y= .box (qF 1 g.t.ty v).1)∨ ∃j r,id=1+j∧(qF 1 g.t.ty v).2[j]?=some y∧rl[j]?=some r∧qaR w y r∧fpB (mE.rows 1 rl) id y=r.fp∧(mE.rows 1 rl).val id=r.1∧(mE.rows 1 rl).nst id=r.2:=fun {id y} hy=>by
  cases id with
  | zero=>exact .inl ⟨rfl,by simpa using hy.symm⟩
  | succ j=>
    have hy:(qF 1 g.t.ty v).2[j]?=some y:=by simpa using hy
    obtain ⟨r,hr,hok⟩:=hfl.get hy
    obtain ⟨h1,h2⟩:=qbp (m:=mE) (n:=1) hr
    rw [Nat.add_comm]at h1 h2
    refine .inr ⟨j,r,Nat.add_comm j 1,hy,hr,hok,?_,h1,h2⟩
    obtain ⟨e,t,xs,inner,rfl,_⟩:=hok
    simp only [fpB,h1,h2,qp.fp]
 have hC:F2 (C w (mE.rows 1 rl) (Blk.box (qF 1 g.t.ty v).1::(qF 1 g.t.ty v).2)) (qF 1 g.t.ty v).1 arr.toList:=hcl.imp fun c u _ hc=>(qik (h:=[Blk.box (qF 1 g.t.ty v).1]) hfl hc).1
 have H:HR w mine w (mE.rows 1 rl) (Blk.box (qF 1 g.t.ty v).1::(qF 1 g.t.ty v).2):=by
  refine ⟨fun id y hy=> ?_,fun id y hy=> ?_,fun id y id' y' hne hy hy' k hk hk'=> ?_,fun id y hy k hk=> ?_,Fr.refl _ w,rfl,fun k hk=> ?_,fun id q hpv=> ?_⟩
  ·rcases hget hy with ⟨rfl,rfl⟩ | ⟨j,r,rfl,_,hr,hok,_,h1,h2⟩
   ·exact ⟨arr,ty,hbl,hC,hM1⟩
   ·obtain ⟨e,t,xs,inner,rfl,ho,hms⟩:=hok
    exact ⟨inner,by rw [h1];exact ho,by rw [h2];exact hms,Nat.zero_le _⟩
  ·rcases hget hy with ⟨rfl,rfl⟩ | ⟨j,r,rfl,_,hr,_,h1,_⟩
   ·simp [fpB]
   ·rw [h1];exact qgK hB hr
  ·rcases hget hy with ⟨rfl,rfl⟩ | ⟨j,r,rfl,_,hr,_,h1,_⟩
   ·rcases hget hy' with ⟨rfl,rfl⟩ | ⟨j',r',rfl,_,hr',_,h1',_⟩
    ·exact hne rfl
    ·rw [h1']at hk'
     have hk:k∈[b]:=hk
     simp only [List.mem_singleton]at hk
     subst hk
     exact hbB (hmem hr' _ hk')
   ·rw [h1]at hk
    rcases hget hy' with ⟨rfl,rfl⟩ | ⟨j',r',rfl,_,hr',_,h1',_⟩
    ·have hk':k∈[b]:=hk'
     simp only [List.mem_singleton]at hk'
     subst hk'
     exact hbB (hmem hr _ hk)
    ·rw [h1']at hk'
     exact qg0 hB (fun e=>hne (by rw [e])) hr hr' k hk hk'
  ·rcases hget hy with ⟨rfl,rfl⟩ | ⟨j,r,rfl,_,hr,_,h1,_⟩
   ·have hk:k∈[b]:=hk
    simp only [List.mem_singleton]at hk
    subst hk
    exact ⟨hblt,.inr (.inl rfl)⟩
   ·rw [h1]at hk
    exact ⟨hMl k (hmem hr k hk),.inr (.inr (hmem hr k hk))⟩
  ·rcases hk with hk | hk
   ·exact .inl (hext k hk)
   ·exact .inr hk
  ·have hpv:(if id=0 then some ((mE.rows 1 rl).val 0,b)else none)=some q:=hpv
   split at hpv
   ·rename_i e;subst e;cases hpv;exact ⟨by simp,rfl,rfl⟩
   ·simp at hpv
 have hok0: ∀k,ext k→k<w.heap.size→qw (mE.rows 1 rl) (Blk.box (qF 1 g.t.ty v).1::(qF 1 g.t.ty v).2) 0 k:=fun k hk hl=>⟨.inl hk,fun id y hy=>by
  obtain ⟨n1,n2⟩:=hdis k hk hl
  rcases hget hy with ⟨rfl,rfl⟩ | ⟨j,r,rfl,_,hr,hok,h0,h1,h2⟩
  ·exact n1
  ·have hno:k∉r.fp:=fun hm'=>n2 (hmem hr k hm')
   obtain ⟨e,t,xs,inner,rfl,_⟩:=hok
   refine ⟨fun _ ho=>hno ?_,fun _ _ hm'=>hno ?_⟩
   ·rw [h1]at ho;simp [qp.fp,ho]
   ·rw [h2]at hm';exact List.mem_append_right _ hm'⟩
 have hl:us.length=g.ps.length:=qub hvs
 have henv:F2 (V w (mE.rows 1 rl) (Blk.box (qF 1 g.t.ty v).1::(qF 1 g.t.ty v).2)) (qqt g.t g.ps fn.ntmps v x).env ((Value.pointer (some ⟨b,0,none⟩)::us).toArray++Array.replicate (fn.ntmps - (Value.pointer (some ⟨b,0,none⟩)::us).toArray.size) undef).toList:=by
  rw [Array.toList_append,Array.toList_replicate]
  have hsz:(Value.pointer (some ⟨b,0,none⟩)::us).toArray.size=g.ps.length+1:=by simp [hl]
  rw [hsz]
  refine F2.append (.cons ⟨rfl,rfl⟩ (qzS (qhm (qhZ (fun _ _ _=>rfl) hok0 hvs)))) ?_
  generalize fn.ntmps - (g.ps.length+1)=k
  induction k with
  | zero=>exact .nil
  | succ k ih=>rw [List.replicate_succ,List.replicate_succ];exact .cons ⟨#[],rfl,.nil⟩ ih
 have hR:R w mine (qqt g.t g.ps fn.ntmps v x) {tmps:=(Value.pointer (some ⟨b,0,none⟩)::us).toArray++Array.replicate (fn.ntmps - (Value.pointer (some ⟨b,0,none⟩)::us).toArray.size) undef,defers:=[]} w:=⟨rfl,_,H,henv⟩
 have fin: ∀(st:St) (a:Act) (w':World),R w mine st a w'→qqb tt g.t g.rs fn.results.toList st=some (g.fv v x,g.fn v x)→a.defers=[]∧ ∃q,(results fn a.tmps).run P w'= .ok q w'∧(∃rv,Ending.returned q= .returned (qbf rv)∧Fr (fun k=>k=b∨k∈rl.flatMap qp.fp) w w'∧VKs w' (fun _=>True) g.rs (g.fn v x) rv∧
  ∃arr' ty' B',w'.heap[b]?=some (.cells arr' ty' (0,0))∧M w' g.t.ty (g.fv v x) arr'.toList B'∧B'.Nodup∧b∉B'∧ ∀k∈B',k∈rl.flatMap qp.fp∨w.heap.size≤k):=by
  intro st a w' hr hret
  unfold qqb at hret
  split at hret
  ·rename_i ls hls
   split at hret
   ·rename_i y cs hy h0
    split at hret
    ·rename_i v' hi
     cases hbb:(qad st.heap cs&&qbu (qk cs))with
     | false=>rw [hbb]at hret;simp at hret
     | true=>
       rw [hbb]at hret
       simp only [cond_true,Option.some.injEq,Prod.mk.injEq]at hret
       obtain ⟨rfl,rfl⟩:=hret
       simp only [Bool.and_eq_true]at hbb
       obtain ⟨hdeep,hnd⟩:=hbb
       obtain ⟨hd,m',H',he⟩:=hr
       obtain ⟨vs',hrun',hV⟩:=qkb hT H' he hls
       refine ⟨hd,qbf vs',qng fn hrun',vs',rfl,H'.fr,qeB H'.br hV hy fun l _ c _=>qC1,?_⟩
       obtain ⟨arr',ty',hbl',hC',h1'⟩:=H'.br 0 _ h0
       have hblk:m'.blk 0=b:=(H'.pn 0 ((mE.rows 1 rl).val 0,b) rfl).2.2
       rw [hblk]at hbl'
       obtain ⟨v1,v2,pre,hus,hpre,hM',hrest⟩:=qee H'.br hC' hi hdeep
       cases hrest
       rw [List.append_nil]at hus hpre
       rw [←hpre]at hM'
       rw [←hus]at hM'
       have hnot:b∉qE m' st.heap (qk cs):=fun hbm=>by
        obtain ⟨id,z,hid,hz,hb'⟩:=qaM hbm
        by_cases hid0:id=0
        ·subst hid0
         rw [h0]at hz;cases hz
         have hmv:LC.own 0∈cs:=by
               simp only [qk,List.mem_filterMap]at hid
               obtain ⟨c,hc,he'⟩:=hid
               cases c<;>simp only [LC.movedId,Option.some.injEq,reduceCtorEq]at he'
               subst he';exact hc
         have:=List.all_eq_true.1 hdeep _ hmv
         simp [LC.deep,h0]at this
        ·exact H'.dj id z 0 _ hid0 hz h0 b hb' (by simp [fpB,hblk])
       refine ⟨arr',ty',_,hbl',hM',qem H' (qeq hnd),hnot,fun k hk=> ?_⟩
       obtain ⟨id,z,_,hz,hk'⟩:=qaM hk
       rcases (H'.lt id z hz k hk').2 with h3 | h3 | h3
       ·exact .inr h3
       ·subst h3;exact absurd hk hnot
       ·exact .inl h3
    ·simp at hret
   ·simp at hret
  ·simp at hret
 refine wp_mono (qdE hT hS.2 hΓ hm hS.1.at (fun h=>by rw [hpins]at h;simp at h) c hp _ _ _ _ hrun hR) fun e a w' he=> ?_
 cases e with
 | normal=>obtain ⟨st,hr,h⟩:=he;exact fin st a w' hr h
 | ret=>obtain ⟨st,hr,h⟩:=he;exact fin st a w' hr h
 | exit id=>obtain ⟨st,_,h⟩:=he;simp [qcl]at h
 | _=>exact he.elim
end
end Go.T
/- T: calls that are handed the address of a box of the call's own; calls of function values. -/
namespace Go.T
open Go
def qj6 (h:List Blk) (L:Nat) (ids:List Nat):LC→Bool
 | .sl _ _ _ n=>decide (n≤L)
 | .tptr .. =>false
 | .ptr .. =>false
 | .own id=> !ids.contains id&&match h[id]? with
   | some (Blk.row _ _ _ true _ _)=>true
   | some (Blk.row _ _ _ false _ n)=>decide (n≤L)
   | _=>false
 | _=>true
def qtR:List TI→Bool
 | []=>true
 | ti::r=>ti.ty.flat&&qtR r
def qAK (st:St) (id:Nat) (ids:List Nat) (L:Nat) (cs:List LC) (bl:List Blk) (d:Option Tmp) (l:LV):St:=
 St.put ⟨st.env.map (LV.clamp L),(kill (st.heap.map (Blk.clamp L)) ids).set id (.box cs)++bl⟩ d l
def qzW (g:Gb) (ls:List LV) (d:Option Tmp) (st:St):Res:=match ls with
 | .one (.ptr id 0 0)::args=>match st.heap[id]? with
   | some (Blk.box cs)=>if qad st.heap cs=true∧qbu (qk cs)=true∧(args.all fun l=>l.cells.all (qj6 st.heap (los st.heap st.heap.length (qk cs)) (qk cs)))=true∧qtR g.rs=true then
        match qx st.heap g.t.ty cs,qbd st.heap g.ps args with
        | some (v,[]),some x=>some (g.pre v x,qAK st id (qk cs) (los st.heap st.heap.length (qk cs)) (qF st.heap.length g.t.ty (g.fv v x)).1 (qF st.heap.length g.t.ty (g.fv v x)).2 d (qgZ (qe8 0 g.rs (g.fn v x))))
        | _,_=>none
     else none
   | _=>none
 | _=>none
section
variable {P : Program} {w0 w w' : World} {mine : Mine} {m m' : Mp} {h : List Blk} {st : St} {a : Act} {o : Oper} {next : Act → World → Prop} {Q : Exit → Act → World → Prop}
theorem qEW {w w':World} {ok ok':Nat→Prop}: ∀{t:Ty} {v:Val t} {cs:List Value},t.flat=true→K w ok t v cs→K w' ok' t v cs
 | .int _,_,_,_,h | .bool,_,_,_,h | .str,_,_,_,h | .hdr,_,_,_,h=>by rw [K]at h ⊢;exact h
 | .slice _ _,_,_,hf,_=>by simp [Ty.flat]at hf
 | .pair a b,_,_,hf,h=>by
   simp only [Ty.flat,Bool.and_eq_true]at hf
   rw [K]at h ⊢
   obtain ⟨c1,c2,rfl,h1,h2⟩:=h
   exact ⟨c1,c2,rfl,qEW hf.1 h1,qEW hf.2 h2⟩
theorem qSr {w w':World} {ok ok':Nat→Prop}: ∀{tis:List TI} {x:qb tis} {us:List Value},qtR tis=true→VKs w ok tis x us→VKs w' ok' tis x us
 | [],_,_,_,hv=>hv
 | ti::r,x,_,hf,hv=>by
   simp only [qtR,Bool.and_eq_true]at hf
   obtain ⟨u,rest,cs,rfl,hk,hw,h2⟩:=hv
   exact ⟨u,rest,cs,rfl,qEW hf.1 hk,hw,qSr hf.2 h2⟩
theorem qUK {cs:List LC} (hd:qad h cs=true) {id:Nat} (hid:id∈qk cs): ∃(e:Nat) (t:Ty) (xs:List (Val t)) (mt:Bool) (n:Nat),h[id]?=some (.row e t xs true mt n):=by
 simp only [qk,List.mem_filterMap]at hid
 obtain ⟨c,hc,he⟩:=hid
 cases c<;>simp only [LC.movedId,Option.some.injEq,reduceCtorEq]at he
 subst he
 have:=List.all_eq_true.1 hd _ hc
 simp only [LC.deep]at this
 split at this
 ·rename_i e t xs dp mt n hx
  cases dp with
  | true=>exact ⟨e,t,xs,mt,n,hx⟩
  | false=>simp at this
 ·simp at this
theorem qW7 (H:HR w0 mine w m h) {id:Nat} {cs cs':List LC} (hb:h[id]?=some (.box cs)) {ids:List Nat} (hids: ∀i∈ids,∃(e:Nat) (t:Ty) (xs:List (Val t)) (mt:Bool) (n:Nat),h[i]?=some (.row e t xs true mt n)) {bl:List Blk} {rl:List qp}
 (hfr:Fr (fun k=>k=m.blk id∨k∈qE m h ids) w w') (hf:F2 (qaR w') bl rl) (hBn:(rl.flatMap qp.fp).Nodup) (hBb:m.blk id∉rl.flatMap qp.fp) (hBm: ∀k∈rl.flatMap qp.fp,k∈qE m h ids∨w.heap.size≤k)
 {arr:Array Value} {ty:TypeId} (hbl:w'.heap[m.blk id]?=some (.cells arr ty (0,0))) (hcl:F2 (qbo h.length rl) cs' arr.toList):
 HR w0 mine w' (m.rows h.length rl) ((kill (h.map (Blk.clamp (los h h.length ids))) ids).set id (.box cs')++bl)∧Keeps w w' m (m.rows h.length rl) h ((kill (h.map (Blk.clamp (los h h.length ids))) ids).set id (.box cs')++bl) (los h h.length ids):=by
 have hidl:id<h.length:=(List.getElem?_eq_some_iff.1 hb).1
 have hnid:id∉ids:=fun hi=>by obtain ⟨e,t,xs,mt,n,hx⟩:=hids id hi;rw [hb]at hx;cases hx
 have hlen:((kill (h.map (Blk.clamp (los h h.length ids))) ids).set id (.box cs')).length=h.length:=by rw [List.length_set,qbg,List.length_map]
 have get: ∀i y,((kill (h.map (Blk.clamp (los h h.length ids))) ids).set id (.box cs')++bl)[i]?=some y→(i=id∧y= .box cs')∨(i<h.length∧i∈ids∧y= .dead)∨(i≠id∧i∉ids∧ ∃x,h[i]?=some x∧y=x.clamp (los h h.length ids))∨(∃j r,i=h.length+j∧bl[j]?=some y∧rl[j]?=some r∧qaR w' y r):=fun i y hy=>by
  by_cases hl:i<h.length
  ·rw [List.getElem?_append_left (by omega),List.getElem?_set]at hy
   split at hy
   ·rename_i e
    split at hy
    ·exact .inl ⟨e.symm,(Option.some.inj hy).symm⟩
    ·simp at hy
   ·rename_i e
    rcases qf6 _ _ _ _ hy with ⟨hi,rfl⟩ | ⟨hi,hy⟩
    ·exact .inr (.inl ⟨hl,hi,rfl⟩)
    ·rw [List.getElem?_map]at hy
     cases hx:h[i]? with
     | none=>rw [hx]at hy;simp at hy
     | some x=>rw [hx]at hy;simp at hy;exact .inr (.inr (.inl ⟨fun q=>e q.symm,hi,x,rfl,hy.symm⟩))
  ·rw [List.getElem?_append_right (by omega),hlen]at hy
   obtain ⟨r,hr,hok⟩:=hf.get hy
   exact .inr (.inr (.inr ⟨i - h.length,r,by omega,hy,hr,hok⟩))
 have vlt: ∀i,i<h.length→(m.rows h.length rl).val i=m.val i∧(m.rows h.length rl).nst i=m.nst i:=fun i hi=>by simp [Mp.rows,hi]
 have hmem: ∀{k:Nat} {r:qp},rl[k]?=some r→ ∀b∈r.fp,b∈rl.flatMap qp.fp:=fun hk b hb=>List.mem_flatMap.2 ⟨_,List.mem_of_getElem? hk,hb⟩
 have fpnew: ∀j y r,rl[j]?=some r→qaR w' y r→fpB (m.rows h.length rl) (h.length+j) y=r.fp:=fun j y r hr hok=>by
  obtain ⟨h1,h2⟩:=qbp (m:=m) (n:=h.length) hr
  obtain ⟨e,t,xs,inner,rfl,_⟩:=hok
  simp only [fpB,h1,h2,qp.fp]
 have fpold: ∀i x,i<h.length→ ∀b,b∈fpB (m.rows h.length rl) i (x.clamp (los h h.length ids))→b∈fpB m i x:=fun i x hi b hb=>by
  obtain ⟨v1,v2⟩:=vlt i hi
  cases x with
  | dead=>exact hb
  | box cs=>exact hb
  | nst F t hs vs=>exact hb
  | row e t xs dp mt k=>
    cases dp with
    | true=>
      have hb:b∈((m.rows h.length rl).val i).ownBlock.toList++(m.rows h.length rl).nst i:=hb
      rw [v1,v2]at hb;exact hb
    | false=>
      simp only [Blk.clamp]at hb
      split at hb
      ·have hb:b∈((m.rows h.length rl).val i).ownBlock.toList++[]:=hb
       rw [v1]at hb;exact hb
      ·simp [fpB]at hb
 have notB: ∀i x,i≠id→i∉ids→h[i]?=some x→ ∀b∈fpB m i x,¬(b=m.blk id∨b∈qE m h ids):=fun i x hi hni hx b hb' hB=>by
  rcases hB with hB | hB
  ·exact H.dj i x id _ hi hx hb b hb' (by simp [fpB,hB])
  ·obtain ⟨id',y,hid',hy,hb2⟩:=qaM hB
   exact H.dj i x id' y (fun e=>hni (e▸hid')) hx hy b hb' hb2
 have same: ∀i x,i≠id→i∉ids→h[i]?=some x→ ∀b∈fpB m i x,w'.heap[b]?=w.heap[b]?:=fun i x hi hni hx b hb'=>hfr.block b (H.lt i x hx b hb').1 (notB i x hi hni hx b hb')
 have K:Keeps w w' m (m.rows h.length rl) h ((kill (h.map (Blk.clamp (los h h.length ids))) ids).set id (.box cs')++bl) (los h h.length ids):=by
  refine ⟨fun n b hle hb' hl=> ?_,fun i x hx=> ?_⟩
  ·have hnb: ¬(b=m.blk id∨b∈qE m h ids):=fun h=>by
        rcases h with h | h
        ·exact hb'.2 id _ hb h
        ·exact qgF hb' hle h
   refine ⟨hfr.block b hl hnb,hb'.1,fun i y hy=> ?_⟩
   rcases get i y hy with ⟨rfl,rfl⟩ | ⟨_,_,rfl⟩ | ⟨hi,hni,x,hx,rfl⟩ | ⟨j,r,rfl,_,hr,hok⟩
   ·exact hb'.2 i _ hb
   ·trivial
   ·obtain ⟨v1,v2⟩:=vlt i (List.getElem?_eq_some_iff.1 hx).1
    have:=hb'.2 i x hx
    cases x with
    | dead=>trivial
    | box cs=>exact this
    | nst F t hs vs=>exact this
    | row e t xs dp mt k=>
      cases dp with
      | true=>exact ⟨by rw [v1];exact this.1,by rw [v2];exact this.2⟩
      | false=>
        simp only [Blk.clamp]
        split
        ·exact ⟨by rw [v1];exact this.1,fun h=>by simp at h⟩
        ·trivial
   ·have hno:b∉r.fp:=fun hm'=>by
     rcases hBm b (hmem hr b hm')with h1 | h1
     ·exact hnb (.inr h1)
     ·omega
    obtain ⟨h1,h2⟩:=qbp (m:=m) (n:=h.length) hr
    obtain ⟨e,t,xs,inner,rfl,_⟩:=hok
    refine ⟨fun _ ho=>hno ?_,fun _ _ hm'=>hno ?_⟩
    ·rw [h1]at ho;simp [qp.fp,ho]
    ·rw [h2]at hm';exact List.mem_append_right _ hm'
  ·have hl:=(List.getElem?_eq_some_iff.1 hx).1
   by_cases hi:i=id
   ·subst hi
    rw [hb]at hx;cases hx
    exact ⟨.box cs',by rw [List.getElem?_append_left (by omega),List.getElem?_set_self (by rw [qbg,List.length_map];exact hl)],rfl⟩
   ·by_cases hni:i∈ids
    ·obtain ⟨e,t,xs,mt,n,hx'⟩:=hids i hni
     rw [hx]at hx';cases hx'
     refine ⟨.dead,?_,BR.rowOne (H.br i _ hx)⟩
     rw [List.getElem?_append_left (by omega),List.getElem?_set_ne (fun q=>hi q.symm)]
     cases hk:(kill (h.map (Blk.clamp (los h h.length ids))) ids)[i]? with
     | none=>
       have:=List.getElem?_eq_none_iff.1 hk
       rw [qbg,List.length_map]at this
       omega
     | some y=>
       rcases qf6 _ _ _ _ hk with ⟨_,rfl⟩ | ⟨hi',_⟩
       ·rfl
       ·exact absurd hni hi'
    ·refine ⟨x.clamp (los h h.length ids),by rw [List.getElem?_append_left (by omega),List.getElem?_set_ne (fun q=>hi q.symm),qws _ _ _ hni,List.getElem?_map,hx];rfl,?_⟩
     obtain ⟨v1,v2⟩:=vlt i hl
     have hbr:=H.br i x hx
     cases x with
     | dead=>trivial
     | box cs=>rfl
     | nst F t hs vs=>trivial
     | row e t xs dp mt k=>
       cases dp with
       | true=>exact ⟨rfl,v1⟩
       | false=>
         simp only [Blk.clamp]
         split
         ·exact ⟨rfl,v1⟩
         ·exact BR.rowOne hbr
 refine ⟨⟨fun i y hy=> ?_,fun i y hy=> ?_,fun i y i' y' hne hy hy' b hb1 hb2=> ?_,fun i y hy b hb1=> ?_,?_,H.mx,H.nx,fun i v hp=> ?_⟩,K⟩
 ·rcases get i y hy with ⟨rfl,rfl⟩ | ⟨_,_,rfl⟩ | ⟨hi,hni,x,hx,rfl⟩ | ⟨j,r,rfl,_,hr,hok⟩
  ·have hc:F2 (fun c u=>C w' (m.rows h.length rl) ((kill (h.map (Blk.clamp (los h h.length ids))) ids).set i (.box cs')++bl) c u∧u.oneCell'=true) cs' arr.toList:=hcl.imp fun c u _ hc=>by
        have:=qik (m:=m) (h:=(kill (h.map (Blk.clamp (los h h.length ids))) ids).set i (.box cs')) hf (c:=c) (u:=u) (by rw [hlen];exact hc)
        rw [hlen]at this
        exact this
   exact ⟨arr,ty,hbl,hc.imp fun _ _ _ h=>h.1,fun u hu=>by
        obtain ⟨k,hk⟩:=List.getElem?_of_mem hu
        obtain ⟨_,_,h2⟩:=hc.get' hk
        exact h2.2⟩
  ·trivial
  ·obtain ⟨v1,v2⟩:=vlt i (List.getElem?_eq_some_iff.1 hx).1
   have hbr:=H.br i x hx
   have sm:=same i x hi hni hx
   cases x with
   | dead=>trivial
   | box cs=>
     obtain ⟨arr',ty',h1,h2,h3⟩:=hbr
     exact ⟨arr',ty',(sm (m.blk i) (by simp [fpB])).trans h1,qAs K h2,h3⟩
   | nst F t hs vs=>exact qnF hbr sm
   | row e t xs dp mt k=>
     obtain ⟨inner,h1,h2⟩:=hbr
     have ho:=qpN h1 fun b hv=>sm b (by simp [fpB,hv])
     cases dp with
     | true=>
       refine ⟨inner,by rw [v1];exact ho,?_,h2.2⟩
       rw [v2]
       exact h2.1.imp fun x c b hk hx=>qb9 hx fun k' hk'=>sm k' (by simp only [fpB];exact List.mem_append_right _ (hk k' hk'))
     | false=>
       simp only [Blk.clamp]
       split
       ·rename_i hle
        exact ⟨inner,by rw [v1];exact ho,h2.imp fun x c hk=>qap (fun b hb hlt=>(K.ok k b hle hb hlt).1) (fun b hb hlt=>(K.ok k b hle hb hlt).2) hk⟩
       ·trivial
  ·obtain ⟨h1,h2⟩:=qbp (m:=m) (n:=h.length) hr
   obtain ⟨e,t,xs,inner,rfl,ho,hms⟩:=hok
   exact ⟨inner,by rw [h1];exact ho,by rw [h2];exact hms,Nat.zero_le _⟩
 ·rcases get i y hy with ⟨rfl,rfl⟩ | ⟨_,_,rfl⟩ | ⟨hi,hni,x,hx,rfl⟩ | ⟨j,r,rfl,_,hr,hok⟩
  ·simp [fpB]
  ·exact List.nodup_nil
  ·obtain ⟨v1,v2⟩:=vlt i (List.getElem?_eq_some_iff.1 hx).1
   have:=H.nd i x hx
   cases x with
   | dead=>exact this
   | box cs=>exact this
   | nst F t hs vs=>exact this
   | row e t xs dp mt n=>
     cases dp with
     | true=>
       show (((m.rows h.length rl).val i).ownBlock.toList++(m.rows h.length rl).nst i).Nodup
       rw [v1,v2];exact this
     | false=>
       simp only [Blk.clamp]
       split
       ·show (((m.rows h.length rl).val i).ownBlock.toList++[]).Nodup
        rw [v1];exact this
       ·exact List.nodup_nil
  ·rw [fpnew j y r hr hok];exact qgK hBn hr
 ·have new: ∀i y b,((kill (h.map (Blk.clamp (los h h.length ids))) ids).set id (.box cs')++bl)[i]?=some y→b∈fpB (m.rows h.length rl) i y→(i=id∧b=m.blk id)∨(i≠id∧i∉ids∧ ∃x,h[i]?=some x∧b∈fpB m i x)∨ ∃j r,i=h.length+j∧rl[j]?=some r∧b∈r.fp:=fun i y b hy hb'=>by
   rcases get i y hy with ⟨rfl,rfl⟩ | ⟨_,_,rfl⟩ | ⟨hi,hni,x,hx,rfl⟩ | ⟨j,r,rfl,_,hr,hok⟩
   ·have hb':b∈[m.blk i]:=hb'
    exact .inl ⟨rfl,by simpa using hb'⟩
   ·simp [fpB]at hb'
   ·exact .inr (.inl ⟨hi,hni,x,hx,fpold i x (List.getElem?_eq_some_iff.1 hx).1 b hb'⟩)
   ·rw [fpnew j y r hr hok]at hb'
    exact .inr (.inr ⟨j,r,rfl,hr,hb'⟩)
  have old_new: ∀i x b,i≠id→i∉ids→h[i]?=some x→b∈fpB m i x→ ∀(j:Nat) (r:qp),rl[j]?=some r→b∉r.fp:=fun i x b hi hni hx hb' j r hr hm'=>by
   rcases hBm b (hmem hr b hm')with h1 | h1
   ·exact notB i x hi hni hx b hb' (.inr h1)
   ·have:=(H.lt i x hx b hb').1
    omega
  rcases new i y b hy hb1 with ⟨rfl,rfl⟩ | ⟨hi,hni,x,hx,hbx⟩ | ⟨j,r,rfl,hr,hbr⟩
  ·rcases new i' y' _ hy' hb2 with ⟨rfl,_⟩ | ⟨hi',hni',x',hx',hbx'⟩ | ⟨j',r',rfl,hr',hbr'⟩
   ·exact hne rfl
   ·exact notB i' x' hi' hni' hx' _ hbx' (.inl rfl)
   ·exact hBb (hmem hr' _ hbr')
  ·rcases new i' y' _ hy' hb2 with ⟨rfl,rfl⟩ | ⟨hi',hni',x',hx',hbx'⟩ | ⟨j',r',rfl,hr',hbr'⟩
   ·exact notB i x hi hni hx _ hbx (.inl rfl)
   ·exact H.dj i x i' x' hne hx hx' b hbx hbx'
   ·exact old_new i x b hi hni hx hbx j' r' hr' hbr'
  ·rcases new i' y' _ hy' hb2 with ⟨rfl,rfl⟩ | ⟨hi',hni',x',hx',hbx'⟩ | ⟨j',r',rfl,hr',hbr'⟩
   ·exact hBb (hmem hr _ hbr)
   ·exact old_new i' x' b hi' hni' hx' hbx' j r hr hbr
   ·exact qg0 hBn (fun e=>hne (by rw [e])) hr hr' b hbr hbr'
 ·rcases get i y hy with ⟨rfl,rfl⟩ | ⟨_,_,rfl⟩ | ⟨hi,hni,x,hx,rfl⟩ | ⟨j,r,rfl,_,hr,hok⟩
  ·have hb1:b∈[m.blk i]:=hb1
   have:=H.lt i _ hb b hb1
   exact ⟨Nat.lt_of_lt_of_le this.1 hfr.size,this.2⟩
  ·simp [fpB]at hb1
  ·have:=H.lt i x hx b (fpold i x (List.getElem?_eq_some_iff.1 hx).1 b hb1)
   exact ⟨Nat.lt_of_lt_of_le this.1 hfr.size,this.2⟩
  ·rw [fpnew j y r hr hok]at hb1
   rcases hBm b (hmem hr b hb1)with h1 | h1
   ·obtain ⟨id',z,_,hz,hb2⟩:=qaM h1
    have:=H.lt id' z hz b hb2
    exact ⟨Nat.lt_of_lt_of_le this.1 hfr.size,this.2⟩
   ·refine ⟨?_,.inl (Nat.le_trans H.fr.size h1)⟩
    obtain ⟨e',t',xs',inner,hy',ho,hm⟩:=hok
    rcases List.mem_append.1 hb1 with hb1 | hb1
    ·exact (ho.lt b (by simpa using hb1)).2
    ·exact qmL (fun x c b hx=>qcN hx) hm b hb1
 ·refine H.fr.trans hfr fun k hk=> ?_
  rcases hk with rfl | hk
  ·exact (H.lt id _ hb _ (by simp [fpB])).2
  ·obtain ⟨id',z,_,hz,hb2⟩:=qaM hk
   exact (H.lt id' z hz k hb2).2
 ·obtain ⟨h1,h2⟩:=H.pn i v hp
  exact ⟨by rw [List.length_append,hlen];omega,by rw [(vlt i h1).1];exact h2⟩
theorem q1y (H:HR w0 mine w m h) {id:Nat} {cs:List LC} (hb:h[id]?=some (.box cs)) {ids:List Nat} {c:LC} (hc:qj6 h (los h h.length ids) ids c=true):okC w m h (fun k=>w.heap.size≤k∨(k≠m.blk id∧k∉qE m h ids)) c:=by
 cases c with
 | sl e t xs n=>
   have hn:n≤los h h.length ids:=of_decide_eq_true hc
   exact fun b hb' _=> .inr ⟨hb'.2 id _ hb,qgF hb' hn⟩
 | own i=>
   intro x hx
   simp only [qj6,hx,Bool.and_eq_true,Bool.not_eq_true']at hc
   have hni:i∉ids:=by have:=hc.1;simpa using this
   have hne:i≠id:=fun e=>by subst e;rw [hb]at hx;cases hx;simp at hc
   refine ⟨fun b hb'=> .inr ⟨fun e=>H.dj i x id _ hne hx hb b hb' (by simp [fpB,e]),fun hm=> ?_⟩,?_⟩
   ·obtain ⟨id',y,hid',hy,hb2⟩:=qaM hm
    exact H.dj i x id' y (fun e=>hni (e▸hid')) hx hy b hb' hb2
   ·cases x with
    | row e t xs dp mt n=>
      cases dp with
      | true=>trivial
      | false=>
        have hn:n≤los h h.length ids:=of_decide_eq_true hc.2
        exact fun b hb' _=> .inr ⟨hb'.2 id _ hb,qgF hb' hn⟩
    | _=>trivial
 | _=>trivial
theorem qXV {f:FuncId} {g:Gb} (S:SoundB P f g) {c:Call} (ho:o.op= .call c) (hc:c.callee= .value (.func f)) {p:Prop} {st':St} (hs:qzW g (c.args.toList.map st.ev) o.dst st=some (p,st')) (hp:p)
 (hr:R w0 mine st a w) (hn: ∀a' w',R w0 mine st' a' w'→next a' w'):o.wp P a w next Q:=by
 obtain ⟨hd,m,H,he⟩:=hr
 have hargs:=qiM H he c.args.toList
 unfold qzW at hs
 split at hs
 ·rename_i id args els
  split at hs
  ·rename_i cs hb
   split at hs
   ·rename_i hcond
    obtain ⟨hdeep,hnd,hall,hflat⟩:=hcond
    split at hs
    ·rename_i v x hi hx
     cases hs
     rw [els]at hargs
     generalize hus:c.args.toList.map a.eval=us at hargs
     cases hargs with
     | cons hp0 hargs=>
       rename_i u us
       have hu:u= .pointer (some ⟨m.blk id,0,none⟩):=by
        have:C w m st.heap (.ptr id 0 0) u:=hp0
        simp only [C,hb]at this
        exact this.2
       subst hu
       obtain ⟨arr,ty,hbl,hC,h1⟩:=H.br id _ hb
       obtain ⟨v1,v2,pre,hvs,hpre,hM,hrest⟩:=qee H.br hC hi hdeep
       cases hrest
       rw [List.append_nil]at hvs hpre
       rw [←hpre,←hvs]at hM
       have hids:=qeq hnd
       have hB:=qem H hids
       have hrows: ∀i∈qk cs,∃(e:Nat) (t:Ty) (xs:List (Val t)) (mt:Bool) (n:Nat),st.heap[i]?=some (.row e t xs true mt n):=fun i hi=>qUK hdeep hi
       have hnot:m.blk id∉qE m st.heap (qk cs):=fun hm=>by
        obtain ⟨id',y,hid',hy,hb2⟩:=qaM hm
        obtain ⟨e,t,xs,mt,n,hx'⟩:=hrows id' hid'
        have hne:id'≠id:=fun q=>by subst q;rw [hb]at hx';cases hx'
        exact H.dj id' y id _ hne hy hb _ hb2 (by simp [fpB])
       have hvk:=qeB (ok:=fun k=>w.heap.size≤k∨(k≠m.blk id∧k∉qE m st.heap (qk cs))) H.br hargs hx fun l hl c hc=>q1y H hb (List.all_eq_true.1 (List.all_eq_true.1 hall l hl) c hc)
       unfold Oper.wp
       rw [qg4 ho hc S.enters,Oper.upon_enter]
       have hvs':c.args.map a.eval=(Value.pointer (some ⟨m.blk id,0,none⟩)::us).toArray:=by
        rw [←Array.toList_inj];simpa using hus
       rw [hvs']
       refine Calls.mono (S.runs v x hp w (m.blk id) arr ty _ _ us hbl hM hB hnot hvk (fun k hk=> .inl hk) (fun k hk hl=>by rcases hk with hk | hk;omega;exact hk)) fun e w' he'=> ?_
       obtain ⟨rv,rfl,hfr,hres,arr',ty',B',hbl',hM',hBn,hbB,hBm⟩:=he'
       obtain ⟨rl,hfl,rfl,hcl⟩:=qip st.heap.length hM'
       obtain ⟨H',K⟩:=qW7 H hb hrows hfr hfl hBn hbB hBm hbl' hcl
       refine hn _ _ ⟨by rw [qa4];exact hd,m.rows st.heap.length rl,?_,?_⟩
       ·unfold qAK;rw [St.put_heap];exact H'
       ·unfold qAK;rw [St.put_heap,St.put_env]
        exact qbm (qq2 K he) o.dst (qim (qhm (qSr hflat hres)))
    ·simp at hs
   ·simp at hs
  ·simp at hs
 ·simp at hs
end
end Go.T
/- T: function values: functions that have caught boxes; functions that are handed functions. -/
namespace Go.T
open Go
def qjr (w:World) (ext:Nat→Prop):(tis:List TI)→qb tis→List Value→Prop
 | [],_,us=>us=[]
 | ti::r,x,us=> ∃b arr ty rest,us= .pointer (some ⟨b,0,none⟩)::rest∧w.heap[b]?=some (.cells arr ty (0,0))∧ext b∧K w ext ti.ty x.1 arr.toList∧qjr w ext r x.2 rest
structure Gc (ps qs:List TI) where
 cs:List TI
 pre:qb cs→qb ps→Prop
 fn:qb cs→qb ps→qb qs
structure SoundC (P:Program) (f:FuncId) {ps qs:List TI} (g:Gc ps qs):Prop where
 enters:qca P f
 runs: ∀(c:qb g.cs) (x:qb ps),g.pre c x→ ∀(w:World) (ext:Nat→Prop) (us caps:List Value),VKs w ext ps x us→qjr w ext g.cs c caps→(∀b,w.heap.size≤b→ext b)→
  Calls P f (us++caps).toArray w fun e w'=> ∃rv,e= .returned (qbf rv)∧Fr (fun _=>False) w w'∧VKs w' ext qs (g.fn c x) rv
def qmw:(tis:List TI)→qb tis→List LV
 | [],_=>[]
 | ti::r,x=> .one (.tptr ti.ty x.1 0 0)::qmw r x.2
def qpS (ps cs:List TI) (ntmps:Nat) (c:qb cs) (x:qb ps):St:={env:=(qe8 0 ps x).map LV1.lv++(qmw cs c++List.replicate (ntmps - (ps.length+cs.length)) (.tup [])),heap:=[]}
def qE0 (P:Program) (w:World) (ext:Nat→Prop) (fv:Value) (ps qs:List TI) (pre:qb ps→Prop) (fn:qb ps→qb qs):Prop:=
 ∃(f:FuncId) (caps:List Value),fv= .func (.func f) #[] caps.toArray∧qca P f∧ ∀(w':World) (ext':Nat→Prop) (x:qb ps) (us:List Value),Fr (fun _=>False) w w'→(∀b,b<w.heap.size→ext b→ext' b)→(∀b,w'.heap.size≤b→ext' b)→pre x→VKs w' ext' ps x us→
  Calls P f (us++caps).toArray w' fun e w''=> ∃rv,e= .returned (qbf rv)∧Fr (fun _=>False) w' w''∧VKs w'' ext' qs (fn x) rv
structure Gh where
 r:TI
 ps:List TI
 qs:List TI
 rs:List TI
 pre:(qb ps→Prop)→(qb ps→qb qs)→Val r.ty→Prop
 fn:(qb ps→qb qs)→Val r.ty→qb rs
structure SoundH (P:Program) (f:FuncId) (g:Gh):Prop where
 enters:qca P f
 runs: ∀(pre:qb g.ps→Prop) (fn:qb g.ps→qb g.qs) (x:Val g.r.ty),g.pre pre fn x→ ∀(w:World) (ext:Nat→Prop) (u fv:Value) (cs:List Value),K w ext g.r.ty x cs→qal g.r.agg cs u→qE0 P w ext fv g.ps g.qs pre fn→(∀b,w.heap.size≤b→ext b)→
  Calls P f #[u,fv] w fun e w'=> ∃us,e= .returned (qbf us)∧Fr (fun _=>False) w w'∧ ∃B,VMs w' g.rs (g.fn fn x) us B∧B.Nodup∧ ∀b∈B,w.heap.size≤b
def qzP:LC→Bool
 | .sl _ _ _ n=>n==0
 | .own _=>false
 | _=>true
def qDQ (fv:Value) (ps qs:List TI) (pre:qb ps→Prop) (fn:qb ps→qb qs) (y:LV) (args:List LV) (d:Option Tmp) (st:St):Res:=match y with
 | .one (.hdr u)=>if (args.all fun l=>l.cells.all qzP)=true then match qbd st.heap ps args with
    | some x=>some (u=fv∧pre x,st.put d (qgZ (qe8 0 qs (fn x))))
    | none=>none
   else none
 | _=>none
def qs8 (fv:Value) (ps qs:List TI) (pre:qb ps→Prop) (fn:qb ps→qb qs) (S:Sem):Sem:=fun o st=>match o.op with
 | .call c=>match c.callee with
   | .value (.tmp t)=>qDQ fv ps qs pre fn (st.ev (.tmp t)) (c.args.toList.map st.ev) o.dst st
   | _=>S o st
 | _=>S o st
def ql9 (h:List Blk):List LV→Option (List Nat)
 | []=>some []
 | .one (.ptr id 0 0)::r=>match h[id]? with
   | some (.box _)=>match ql9 h r with
     | some ids=>some (id::ids)
     | none=>none
   | _=>none
 | _=>none
def qzX (f:Nat) (caught:List LV) (d:Option Tmp) (st:St):Res:=match ql9 st.heap caught with
 | some ids=>some (True,st.put d (.one (.clo f ids)))
 | none=>none
def qkV (h:List Blk):(tis:List TI)→List Nat→Option (qb tis)
 | [],[]=>some ()
 | ti::r,id::ids=>match h[id]? with
   | some (Blk.box cs)=>match qx h ti.ty cs with
     | some (v,[])=>match qkV h r ids with
       | some vs=>some (v,vs)
       | none=>none
     | _=>none
   | _=>none
 | _,_=>none
abbrev Cls (ps qs:List TI):=List (Nat×Gc ps qs)
def Cls.get {ps qs:List TI}:Cls ps qs→Nat→Option (Gc ps qs)
 | [],_=>none
 | (f,g)::r,f'=>if f=f' then some g else Cls.get r f'
def qjl:LV→Option (Nat×List Nat)
 | .one (.fn f)=>some (f,[])
 | .one (.clo f ids)=>some (f,ids)
 | _=>none
def qAy (g:Gh) (cl:Cls g.ps g.qs) (args:List LV) (d:Option Tmp) (st:St):Res:=match args with
 | [x,y]=>match qjl y with
   | some (f,ids)=>match Cls.get cl f with
     | some gc=>if x.isAgg=some g.r.agg then match qx st.heap g.r.ty x.cells,qkV st.heap gc.cs ids with
       | some (v,[]),some cx=>some (g.pre (gc.pre cx) (gc.fn cx) v,st.res d (qgZ (qcx st.heap.length g.rs (g.fn (gc.fn cx) v)).1) (st.heap++(qcx st.heap.length g.rs (g.fn (gc.fn cx) v)).2.map (Blk.up st.heap.length)))
       | _,_=>none
       else none
     | none=>none
   | none=>none
 | _=>none
abbrev Bxs:=List (Nat×Gb)
abbrev Hns:=List (Nat×(g:Gh)×Cls g.ps g.qs)
def Bxs.get:Bxs→Nat→Option Gb
 | [],_=>none
 | (f,g)::r,f'=>if f=f' then some g else Bxs.get r f'
def Hns.get:Hns→Nat→Option ((g:Gh)×Cls g.ps g.qs)
 | [],_=>none
 | (f,g)::r,f'=>if f=f' then some g else Hns.get r f'
def quA (bx:Bxs) (hn:Hns):Sem:=fun o st=>match o.op with
 | .call c=>match c.callee with
   | .value (.func f)=>match Bxs.get bx f with
     | some g=>qzW g (c.args.toList.map st.ev) o.dst st
     | none=>match Hns.get hn f with
       | some gc=>qAy gc.1 gc.2 (c.args.toList.map st.ev) o.dst st
       | none=>none
   | _=>none
 | .makeFunc (.func f) first caught=>match first.toList with
   | []=>qzX f (caught.toList.map st.ev) o.dst st
   | _=>none
 | _=>none
section
variable {P : Program} {tt : TT} {Γ : Gam} {w0 w w' : World} {mine : Mine} {m m' : Mp} {h : List Blk} {st : St} {a : Act} {o : Oper} {next : Act → World → Prop} {Q : Exit → Act → World → Prop}
theorem qUt {ext ext':Nat→Prop} (hm: ∀b,ext b→b<w.heap.size→w'.heap[b]?=w.heap[b]?) (hok: ∀b,ext b→b<w.heap.size→ext' b): ∀{tis:List TI} {x:qb tis} {us:List Value},qjr w ext tis x us→qjr w' ext' tis x us
 | [],_,_,h=>h
 | ti::r,x,_,h=>by
   obtain ⟨b,arr,ty,rest,rfl,hb,he,hk,hr⟩:=h
   have hl:=(Array.getElem?_eq_some_iff.1 hb).1
   exact ⟨b,arr,ty,rest,rfl,(hm b he hl).trans hb,hok b he hl,qap hm hok hk,qUt hm hok hr⟩
theorem qTP {ext:Nat→Prop} (hok: ∀b,ext b→qw m h 0 b): ∀{tis:List TI} {x:qb tis} {us:List Value},qjr w ext tis x us→F2 (V w m h) (qmw tis x) us
 | [],_,_,hc=>by
   have hc:_=[]:=hc
   subst hc;exact .nil
 | ti::r,x,_,hc=>by
   obtain ⟨b,arr,ty,rest,rfl,hb,he,hk,hr⟩:=hc
   refine .cons ?_ (qTP hok hr)
   exact ⟨⟨b,0,none⟩,arr.toList,rfl,qap (fun _ _ _=>rfl) (fun b hb _=>hok b hb) hk,qLC hb,hok b he⟩
theorem qUJ: ∀(tis:List TI) (x:qb tis),(qmw tis x).length=tis.length
 | [],_=>rfl
 | ti::r,x=>by simp [qmw,qUJ r x.2]
theorem q4z (H:HR w0 mine w m h) {c:LC}:okC w m h mine.ext c:=by
 have hmx:=H.mx
 cases c with
 | sl e t xs n=>exact fun b hb _=>by rw [←hmx];exact hb.1
 | own id=>
   intro y hy
   refine ⟨fun b hb=>H.nx b (H.lt id y hy b hb).2,?_⟩
   cases y with
   | row e t xs dp mt k=>
     cases dp with
     | true=>trivial
     | false=>exact fun b hb _=>by rw [←hmx];exact hb.1
   | _=>trivial
 | _=>trivial
theorem q4p (hT : qQ P tt) (hΓ : ∀ f g, Γ.get f = some g → Sound P f g) (hm : P.follows .mixedOrders = true) {f : FuncId} {fn : Func} {c : Code} {ps qs : List TI} {g : Gc ps qs} (hf : P.funcs[f]? = some fn) (hb : fn.body = some c) (hname : (fn.name == "runtime.NumGoroutine") = false)
 (hrun: ∀(cx:qb g.cs) (x:qb ps),g.pre cx x→ ∃T:Tab,qj T.tr c=true∧qbw P T.sem∧qn P T∧qd tt Γ T c (qo tt false qs fn.results.toList) (qpS ps g.cs fn.ntmps cx x)=some (g.fn cx x)):SoundC P f g:=by
 refine ⟨⟨fn,hf,by rw [hb];rfl,hname⟩,fun cx x hx w ext us caps hvs hcap hext=> ?_⟩
 refine calls_of_wp hf hb ?_
 obtain ⟨T,hp,hS,hTb,hrun⟩:=hrun cx x hx
 let mine:Mine:=⟨fun _=>False,ext,fun _=>none⟩
 let m0:Mp:=⟨fun _=>undef,fun _=>0,fun _=>[],ext⟩
 have H:HR w mine w m0 []:=⟨by simp,by simp,by simp,by simp,Fr.refl _ w,rfl,fun b hb=>hext b (by rcases hb with h | h;exact h;exact h.elim),fun id v h=>by simp [mine]at h⟩
 have hok0: ∀b,ext b→qw m0 [] 0 b:=fun b hb=>⟨hb,by simp⟩
 have henv:F2 (V w m0 []) (qpS ps g.cs fn.ntmps cx x).env ((us++caps).toArray++Array.replicate (fn.ntmps - (us++caps).toArray.size) undef).toList:=by
  have hl:us.length=ps.length:=qub hvs
  have hc:=qTP (w:=w) (m:=m0) (h:=[]) hok0 hcap
  have hl2:caps.length=g.cs.length:=by rw [←hc.len,qUJ]
  have hsz:(us++caps).toArray.size=ps.length+g.cs.length:=by simp [hl,hl2]
  rw [hsz,Array.toList_append,Array.toList_replicate]
  show F2 _ (_++(_++_)) (us++caps++_)
  rw [List.append_assoc]
  refine (qzS (qhm (qhZ (fun _ _ _=>rfl) (fun b hb _=>hok0 b hb) hvs))).append (hc.append ?_)
  generalize fn.ntmps - (ps.length+g.cs.length)=k
  induction k with
  | zero=>exact .nil
  | succ k ih=>rw [List.replicate_succ,List.replicate_succ];exact .cons ⟨#[],rfl,.nil⟩ ih
 have hR:R w mine (qpS ps g.cs fn.ntmps cx x) {tmps:=(us++caps).toArray++Array.replicate (fn.ntmps - (us++caps).toArray.size) undef,defers:=[]} w:=⟨rfl,m0,H,henv⟩
 have fin: ∀(st:St) (a:Act) (w':World),R w mine st a w'→qB tt false qs fn.results.toList st=some (g.fn cx x)→a.defers=[]∧ ∃v,(results fn a.tmps).run P w'= .ok v w'∧(∃rv,Ending.returned v= .returned (qbf rv)∧Fr (fun _=>False) w w'∧VKs w' ext qs (g.fn cx x) rv):=by
  intro st a w' hr h
  obtain ⟨hd,m,H',he⟩:=hr
  refine ⟨hd,?_⟩
  unfold qB at h
  split at h
  ·simp at h
  ·rename_i ls hls
   split at h
   ·simp at h
   ·rename_i y hy
    simp only [cond_false,Option.some.injEq]at h
    subst h
    obtain ⟨vs',hrun',hV⟩:=qkb hT H' he hls
    exact ⟨qbf vs',qng fn hrun',vs',rfl,H'.fr,qeB H'.br hV hy fun l _ c _=>q4z H'⟩
 refine wp_mono (qdE hT hTb hΓ hm hS.at (fun _ _=>rfl) c hp _ _ _ _ hrun hR) fun e a w' he=> ?_
 cases e with
 | normal=>obtain ⟨st,hr,h⟩:=he;exact fin st a w' hr h
 | ret=>obtain ⟨st,hr,h⟩:=he;exact fin st a w' hr h
 | exit id=>obtain ⟨st,_,h⟩:=he;simp [qo]at h
 | _=>exact he.elim
theorem q0x {c:Call} {t:Tmp} {f:FuncId} {caps:List Value} (ho:o.op= .call c) (hc:c.callee= .value (.tmp t)) (hv:a.eval (.tmp t)= .func (.func f) #[] caps.toArray) (hen:qca P f):(execOp a.eval o).run P w= .ok (.enter f ((c.args.map a.eval)++caps.toArray)) w:=by
 obtain ⟨fn,h1,h2,h3⟩:=hen
 have h2':fn.body≠none:=by intro e;rw [e]at h2;simp at h2
 have h3' : fn.name ≠ "runtime.NumGoroutine" := by intro e; rw [e] at h3; simp at h3
 simp only [execOp,ho,resolve,hc,hv,Deferred.ofValue,Sem.run_bind]
 simp [invoke,callFunc,h1,h2',h3']
theorem qVG {ext:Nat→Prop} {fv:Value} {ps qs:List TI} {pre:qb ps→Prop} {fn:qb ps→qb qs} {S:Sem} (hS:qbw P S) (hfv:qE0 P w0 ext fv ps qs pre fn) (hown: ∀b,¬mine.own b) (hme:mine.ext=ext):qhM P (qs8 fv ps qs pre fn S) w0 mine:=by
 intro o st p st' hs hp a w next Q hr hn
 unfold qs8 at hs
 split at hs
 ·rename_i c ho
  split at hs
  ·rename_i t hc
   obtain ⟨hd,m,H,he⟩:=hr
   have hy:=R.ev H he (.tmp t)
   unfold qDQ at hs
   split at hs
   ·rename_i u ey
    rw [ey]at hy
    split at hs
    ·rename_i hall
     split at hs
     ·rename_i x hx
      cases hs
      obtain ⟨rfl,hpre⟩:=hp
      have hyv:a.eval (.tmp t)=u:=hy.1
      obtain ⟨f,caps,rfl,hen,hcalls⟩:=hfv
      have hfr:Fr (fun _=>False) w0 w:=⟨H.fr.os,H.fr.tape,H.fr.output,H.fr.size,fun k hk _=>H.fr.block k hk (hown k),H.fr.drawn⟩
      have hargs:=qiM H he c.args.toList
      have hvs:(c.args.map a.eval).toList=c.args.toList.map a.eval:=by simp
      rw [←hvs]at hargs
      -- what is read: what was there when the call began, and what lies in no row
      have hext': ∀b,b<w0.heap.size→ext b→qw m st.heap 0 b:=fun b hb he'=>⟨by rw [H.mx,hme];exact he',fun id y hy=>by
       have hno:b∉fpB m id y:=fun hm=>by
        rcases (H.lt id y hy b hm).2 with h1 | h1
        ·omega
        ·exact hown b h1
       cases y with
       | dead=>trivial
       | box cs=>exact fun e=>hno (by simp [fpB,e])
       | nst F t hs vs=>exact hno
       | row e t xs dp mt k=>
         refine ⟨fun _ ho=>hno (by simp [fpB,ho]),fun hd _ hm=>hno ?_⟩
         subst hd
         exact List.mem_append_right _ hm⟩
      have hk:=qeB (ok:=fun b=>w.heap.size≤b∨qw m st.heap 0 b) H.br hargs hx fun l hl c' hc'=>by
       have hlow:=List.all_eq_true.1 (List.all_eq_true.1 hall l hl) c' hc'
       cases c' with
       | sl e t xs n=>
         have hn0:n=0:=by simpa [qzP] using hlow
         subst hn0
         exact fun b hb _=> .inr hb
       | own id=>simp [qzP]at hlow
       | _=>trivial
      unfold Oper.wp
      rw [q0x ho hc hyv hen,Oper.upon_enter]
      have e1:(c.args.map a.eval)++caps.toArray=((c.args.map a.eval).toList++caps).toArray:=by simp
      rw [e1]
      refine Calls.mono (hcalls w _ x _ hfr (fun b hb he'=> .inr (hext' b hb he')) (fun b hb=> .inl hb) hpre hk) fun e w' he'=> ?_
      obtain ⟨rv,rfl,hfr',hres⟩:=he'
      obtain ⟨H',hok,hsm⟩:=HR.results H hfr' (bl:=[]) (rl:=[]) .nil (by simp) (by simp)
      rw [List.append_nil]at H' hok hsm
      refine hn _ _ ⟨by rw [qa4];exact hd,m.rows st.heap.length [],?_,?_⟩
      ·rw [St.put_heap];exact H'
      ·rw [St.put_heap,St.put_env]
       refine qbm (qaH hok hsm he) o.dst (qim (qhm (n:=0) (qhZ (fun _ _ _=>rfl) (fun b hb hlt=> ?_) hres)))
       rcases hb with hb | hb
       ·-- a new block: no row of the call's
        refine ⟨by rw [H'.mx];exact H'.nx b (.inl (Nat.le_trans H.fr.size hb)),fun id y hy=> ?_⟩
        have hno:b∉fpB m id y:=fun hm=>by have:=(H.lt id y hy b hm).1;omega
        have hil:=(List.getElem?_eq_some_iff.1 hy).1
        have v1:(m.rows st.heap.length []).val id=m.val id:=by simp [Mp.rows,hil]
        have v2:(m.rows st.heap.length []).nst id=m.nst id:=by simp [Mp.rows,hil]
        cases y with
        | dead=>trivial
        | box cs=>exact fun e=>hno (by simp [fpB,e,Mp.rows])
        | nst F t hs vs=>exact hno
        | row e t xs dp mt k=>
          refine ⟨fun _ ho=>hno ?_,fun hd _ hm=>hno ?_⟩
          ·rw [v1]at ho;simp [fpB,ho]
          ·subst hd
           rw [v2]at hm
           exact List.mem_append_right _ hm
       ·by_cases hl:b<w.heap.size
        ·exact (hok 0 b hb hl).2
        ·refine ⟨by rw [H'.mx];exact H'.nx b (.inl (Nat.le_trans H.fr.size (by omega))),fun id y hy=> ?_⟩
         have hno:b∉fpB m id y:=fun hm=>by have:=(H.lt id y hy b hm).1;omega
         have hil:=(List.getElem?_eq_some_iff.1 hy).1
         have v1:(m.rows st.heap.length []).val id=m.val id:=by simp [Mp.rows,hil]
         have v2:(m.rows st.heap.length []).nst id=m.nst id:=by simp [Mp.rows,hil]
         cases y with
         | dead=>trivial
         | box cs=>exact fun e=>hno (by simp [fpB,e,Mp.rows])
         | nst F t hs vs=>exact hno
         | row e t xs dp mt k=>
           refine ⟨fun _ ho=>hno ?_,fun hd _ hm=>hno ?_⟩
           ·rw [v1]at ho;simp [fpB,ho]
           ·subst hd
            rw [v2]at hm
            exact List.mem_append_right _ hm
     ·simp at hs
    ·simp at hs
   ·simp at hs
  ·exact hS o st p st' hs hp w0 mine a w next Q hr hn
 ·exact hS o st p st' hs hp w0 mine a w next Q hr hn
def qpl (r:TI) (ntmps:Nat) (x:Val r.ty) (fv:Value):St:={env:=LV1.lv ⟨r.agg,qdt 0 r.ty x⟩:: .one (.hdr fv)::List.replicate (ntmps - 2) (.tup []),heap:=[]}
theorem q2C (hT : qQ P tt) (hΓ : ∀ f g, Γ.get f = some g → Sound P f g) (hm : P.follows .mixedOrders = true) {f : FuncId} {fn : Func} {c : Code} {g : Gh} (hf : P.funcs[f]? = some fn) (hb : fn.body = some c) (hname : (fn.name == "runtime.NumGoroutine") = false)
 (hrun: ∀(pre:qb g.ps→Prop) (gf:qb g.ps→qb g.qs) (x:Val g.r.ty) (fv:Value),g.pre pre gf x→ ∃(T:Tab) (S:Sem),qj T.tr c=true∧(T.sem=qs8 fv g.ps g.qs pre gf S∧qbw P S)∧qn P T∧qd tt Γ T c (qo tt true g.rs fn.results.toList) (qpl g.r fn.ntmps x fv)=some (g.fn gf x)):SoundH P f g:=by
 refine ⟨⟨fn,hf,by rw [hb];rfl,hname⟩,fun pre gf x hx w ext u fv cs hk hw hfv hext=> ?_⟩
 refine calls_of_wp hf hb ?_
 obtain ⟨T,S,hp,⟨hTS,hS⟩,hTb,hrun⟩:=hrun pre gf x fv hx
 let mine:Mine:=⟨fun _=>False,ext,fun _=>none⟩
 let m0:Mp:=⟨fun _=>undef,fun _=>0,fun _=>[],ext⟩
 have H:HR w mine w m0 []:=⟨by simp,by simp,by simp,by simp,Fr.refl _ w,rfl,fun b hb=>hext b (by rcases hb with h | h;exact h;exact h.elim),fun id v h=>by simp [mine]at h⟩
 have hok0: ∀b,ext b→qw m0 [] 0 b:=fun b hb=>⟨hb,by simp⟩
 have h1:fv.oneCell'=true:=by obtain ⟨f,caps,rfl,_⟩:=hfv;rfl
 have henv:F2 (V w m0 []) (qpl g.r fn.ntmps x fv).env ((#[u,fv]:Array Value)++Array.replicate (fn.ntmps - 2) undef).toList:=by
  rw [Array.toList_append,Array.toList_replicate]
  refine .cons (qmh (qSd (qap (fun _ _ _=>rfl) (fun b hb _=>hok0 b hb) hk) hw)) (.cons ⟨rfl,h1⟩ ?_)
  show F2 _ (List.replicate _ _) ([]++List.replicate _ _)
  rw [List.nil_append]
  generalize fn.ntmps - 2=k
  induction k with
  | zero=>exact .nil
  | succ k ih=>rw [List.replicate_succ,List.replicate_succ];exact .cons ⟨#[],rfl,.nil⟩ ih
 have hR:R w mine (qpl g.r fn.ntmps x fv) {tmps:=(#[u,fv]:Array Value)++Array.replicate (fn.ntmps - 2) undef,defers:=[]} w:=⟨rfl,m0,H,henv⟩
 have fin: ∀(st:St) (a:Act) (w':World),R w mine st a w'→qB tt true g.rs fn.results.toList st=some (g.fn gf x)→a.defers=[]∧ ∃v,(results fn a.tmps).run P w'= .ok v w'∧(∃us,Ending.returned v= .returned (qbf us)∧Fr (fun _=>False) w w'∧ ∃B,VMs w' g.rs (g.fn gf x) us B∧B.Nodup∧ ∀b∈B,w.heap.size≤b):=by
  intro st a w' hr h
  obtain ⟨hd,m,H',he⟩:=hr
  refine ⟨hd,?_⟩
  unfold qB at h
  split at h
  ·simp at h
  ·rename_i ls hls
   split at h
   ·simp at h
   ·rename_i y hy
    cases hbb:qj4 st.heap ls with
    | false=>rw [hbb]at h;simp at h
    | true=>
      rw [hbb]at h
      simp only [cond_true,Option.some.injEq]at h
      subst h
      simp only [qj4,Bool.and_eq_true]at hbb
      obtain ⟨vs',hrun',hV⟩:=qkb hT H' he hls
      refine ⟨qbf vs',qng fn hrun',vs',rfl,H'.fr,_,qBy H'.br hV hy hbb.1,qem H' (qeq hbb.2),fun b hb=> ?_⟩
      obtain ⟨id,z,_,hz,hb'⟩:=qaM hb
      rcases (H'.lt id z hz b hb').2 with h | h
      ·exact h
      ·exact h.elim
 have hat:qhM P T.sem w mine:=by rw [hTS];exact qVG hS hfv (fun _ h=>h) rfl
 refine wp_mono (qdE hT hTb hΓ hm hat (fun _ _=>rfl) c hp _ _ _ _ hrun hR) fun e a w' he=> ?_
 cases e with
 | normal=>obtain ⟨st,hr,h⟩:=he;exact fin st a w' hr h
 | ret=>obtain ⟨st,hr,h⟩:=he;exact fin st a w' hr h
 | exit id=>obtain ⟨st,_,h⟩:=he;simp [qo]at h
 | _=>exact he.elim
end
end Go.T
/- T: calls that hand functions on. -/
namespace Go.T
open Go
section
variable {P : Program} {tt : TT} {Γ : Gam} {w0 w w' : World} {mine : Mine} {m m' : Mp} {h : List Blk} {st : St} {a : Act} {o : Oper} {next : Act → World → Prop} {Q : Exit → Act → World → Prop}
theorem qTu (H: ∀id x,h[id]?=some x→BR w m h id x): ∀{tis:List TI} {ids:List Nat} {x:qb tis},qkV h tis ids=some x→(∀i∈ids,∃cs,h[i]?=some (.box cs))∧qjr w (fun _=>True) tis x (ids.map fun i=>Value.pointer (some ⟨m.blk i,0,none⟩))
 | [],[],_,_=>⟨by simp,rfl⟩
 | [],_::_,_,h=>by simp [qkV]at h
 | _::_,[],_,h=>by simp [qkV]at h
 | ti::r,id::ids,x,hc=>by
   simp only [qkV]at hc
   split at hc
   ·rename_i cs hb
    split at hc
    ·rename_i v hi
     split at hc
     ·rename_i vs hvs
      cases hc
      obtain ⟨h1,h2⟩:=qTu H hvs
      obtain ⟨arr,ty,hbl,hC,_⟩:=H id _ hb
      obtain ⟨v1,v2,he,hk,hr,_⟩:=qf7 (ok:=fun _=>True) H hC hi fun c _=>qC1
      cases hr
      rw [List.append_nil]at he
      refine ⟨fun i hi=> ?_,m.blk id,arr,ty,_,rfl,hbl,trivial,by rw [he];exact hk,h2⟩
      rcases List.mem_cons.1 hi with rfl | hi
      ·exact ⟨cs,hb⟩
      ·exact h1 i hi
     ·simp at hc
    ·simp at hc
   ·simp at hc
theorem qWI {ps qs:List TI} {f:FuncId} {gc:Gc ps qs} (S:SoundC P f gc) {c:qb gc.cs} {caps:List Value} (hcap:qjr w (fun _=>True) gc.cs c caps):qE0 P w (fun _=>True) (.func (.func f) #[] caps.toArray) ps qs (gc.pre c) (gc.fn c):=
 ⟨f,caps,rfl,S.enters,fun w' ext' x us hfr hext hfresh hpre hvs=>
   S.runs c x hpre w' ext' us caps hvs (qUt (fun b _ hl=>hfr.block b hl (fun h=>h)) (fun b _ hl=>hext b hl trivial) hcap) hfresh⟩
theorem q4Y {f:FuncId} {g:Gh} (S:SoundH P f g) {cl:Cls g.ps g.qs} (hcl: ∀f gc,Cls.get cl f=some gc→SoundC P f gc) {c:Call} (ho:o.op= .call c) (hc:c.callee= .value (.func f)) {p:Prop} {st':St} (hs:qAy g cl (c.args.toList.map st.ev) o.dst st=some (p,st')) (hp:p)
 (hr:R w0 mine st a w) (hn: ∀a' w',R w0 mine st' a' w'→next a' w'):o.wp P a w next Q:=by
 obtain ⟨hd,m,H,he⟩:=hr
 have hargs:=qiM H he c.args.toList
 unfold qAy at hs
 split at hs
 ·rename_i x y els
  split at hs
  ·rename_i fc ids hfi
   split at hs
   ·rename_i gc hgc
    split at hs
    ·rename_i hag
     split at hs
     ·rename_i v cx hi hcx
      cases hs
      rw [els]at hargs
      generalize hus:c.args.toList.map a.eval=us at hargs
      cases hargs with
      | cons hx hargs=>
        rename_i u us
        cases hargs with
        | cons hy hnil=>
          rename_i fv us
          cases hnil
          obtain ⟨hboxes,hcaps⟩:=qTu H.br hcx
          have hfv:fv= .func (.func fc) #[] (ids.map fun i=>Value.pointer (some ⟨m.blk i,0,none⟩)).toArray:=by
               revert hy hfi
               cases y with
               | one c'=>
                 cases c' with
                 | fn f'=>
                   intro hfi hy
                   simp only [qjl,Option.some.injEq,Prod.mk.injEq]at hfi
                   obtain ⟨rfl,rfl⟩:=hfi
                   exact hy
                 | clo f' ids'=>
                   intro hfi hy
                   simp only [qjl,Option.some.injEq,Prod.mk.injEq]at hfi
                   obtain ⟨rfl,rfl⟩:=hfi
                   exact hy.2.2 hboxes
                 | _=>intro h _;simp [qjl]at h
               | agg cs=>intro h _;simp [qjl]at h
               | tup vs=>intro h _;simp [qjl]at h
          subst hfv
          obtain ⟨cs,hf,hwr⟩: ∃cs,F2 (C w m st.heap) x.cells cs∧qal g.r.agg cs u:=by
               revert hx hag
               cases x with
               | tup=>intro h _;simp [LV.isAgg]at h
               | one c'=>
                 intro h hx
                 simp only [LV.isAgg,Option.some.injEq]at h
                 exact ⟨[u],.cons hx .nil,by rw [←h];rfl⟩
               | agg cs=>
                 intro h hx
                 simp only [LV.isAgg,Option.some.injEq]at h
                 obtain ⟨vs,hv,hf⟩:=hx
                 exact ⟨vs.toList,hf,by rw [←h,hv];simp [qal]⟩
          obtain ⟨v1,v2,hvs,hk,hrest,_⟩:=qf7 (ok:=fun _=>True) H.br hf hi fun c _=>qC1
          cases hrest
          rw [List.append_nil]at hvs
          subst hvs
          unfold Oper.wp
          rw [qg4 ho hc S.enters,Oper.upon_enter]
          have hvs':c.args.map a.eval= #[u,.func (.func fc) #[] (ids.map fun i=>Value.pointer (some ⟨m.blk i,0,none⟩)).toArray]:=by
               rw [←Array.toList_inj];simpa using hus
          rw [hvs']
          refine Calls.mono (S.runs _ _ v hp w (fun _=>True) u _ _ hk hwr (qWI (hcl fc gc hgc) hcaps) fun _ _=>trivial) fun e w' he'=> ?_
          obtain ⟨us,rfl,hfr,B,hM,hnd,hlo⟩:=he'
          obtain ⟨rl,hf,rfl,hcs⟩:=qpn st.heap.length hM
          obtain ⟨H',hok,hsm⟩:=HR.resultsUp H hfr hf hnd hlo
          refine hn _ _ ⟨by rw [qa4];exact hd,m.rows st.heap.length rl,H',?_⟩
          show F2 (V w' (m.rows st.heap.length rl) _) (st.put o.dst _).env _
          rw [St.put_env]
          refine qbm (qaH hok hsm he) o.dst (qim ?_)
          exact hcs.imp fun l u _ hl=>qMD hf hl
     ·simp at hs
    ·simp at hs
   ·simp at hs
  ·simp at hs
 ·simp at hs
theorem qQk (H: ∀id x,h[id]?=some x→BR w m h id x): ∀{ls:List LV} {vs:List Value} {ids:List Nat},F2 (V w m h) ls vs→ql9 h ls=some ids→(∀i∈ids,i<h.length)∧vs=ids.map fun i=>Value.pointer (some ⟨m.blk i,0,none⟩)
 | [],_,ids,hf,hc=>by
   cases hf
   simp only [ql9,Option.some.injEq]at hc
   subst hc
   exact ⟨by simp,rfl⟩
 | l::ls,_,ids,.cons hv hf,hc=>by
   unfold ql9 at hc
   split at hc
   ·rename_i heq;simp at heq
   ·rename_i id r heq
    simp only [List.cons.injEq]at heq
    obtain ⟨rfl,rfl⟩:=heq
    split at hc
    ·rename_i cs hb
     split at hc
     ·rename_i ids' hids
      cases hc
      obtain ⟨h1,h2⟩:=qQk H hf hids
      have hv:C w m h (.ptr id 0 0) _:=hv
      simp only [C,hb]at hv
      refine ⟨fun i hi=> ?_,by rw [h2,hv.2];rfl⟩
      rcases List.mem_cons.1 hi with rfl | hi
      ·exact (List.getElem?_eq_some_iff.1 hb).1
      ·exact h1 i hi
     ·simp at hc
    ·simp at hc
   ·simp at hc
theorem zc0 {f:FuncId} {first caught:Array Operand} (ho:o.op= .makeFunc (.func f) first caught) (hfst:first.toList=[]) {p:Prop} {st':St} (hs:qzX f (caught.toList.map st.ev) o.dst st=some (p,st'))
 (hr:R w0 mine st a w) (hn: ∀a' w',R w0 mine st' a' w'→next a' w'):o.wp P a w next Q:=by
 obtain ⟨hd,m,H,he⟩:=hr
 have hargs:=qiM H he caught.toList
 unfold qzX at hs
 split at hs
 ·rename_i ids hids
  cases hs
  obtain ⟨h1,h2⟩:=qQk H.br hargs hids
  have hfst':first= #[]:=by rw [←Array.toList_inj,hfst]
  have hrun:(execOp a.eval o).run P w= .ok (.value (.func (.func f) #[] (caught.map a.eval))) w:=by
   simp [execOp,ho,hfst',Instr.makeFunc]
  have hcm:caught.map a.eval=(ids.map fun i=>Value.pointer (some ⟨m.blk i,0,none⟩)).toArray:=by
   rw [←Array.toList_inj];simpa using h2
  refine qa6 hd H he hn hrun ?_
  exact ⟨rfl,h1,fun _=>by rw [hcm]⟩
 ·simp at hs
theorem qSj {bx:Bxs} {hns:Hns} (h1: ∀f g,Bxs.get bx f=some g→SoundB P f g) (h2: ∀f gc,Hns.get hns f=some gc→SoundH P f gc.1∧ ∀f' c,Cls.get gc.2 f'=some c→SoundC P f' c):qbw P (quA bx hns):=by
 intro o st p st' hs hp w0 mine a w next Q hr hn
 unfold quA at hs
 split at hs
 ·rename_i c ho
  split at hs
  ·rename_i f hc
   split at hs
   ·rename_i g hg
    exact qXV (h1 f g hg) ho hc hs hp hr hn
   ·split at hs
    ·rename_i gc hg
     obtain ⟨s1,s2⟩:=h2 f gc hg
     exact q4Y s1 s2 ho hc hs hp hr hn
    ·simp at hs
  ·simp at hs
 ·rename_i f first caught ho
  split at hs
  ·rename_i hfst
   exact zc0 ho hfst hs hr hn
  ·simp at hs
 ·simp at hs
end
theorem qRb {P:Program}: ∀f g,Bxs.get [] f=some g→SoundB P f g:=fun _ _ h=>by simp [Bxs.get]at h
theorem q6w {P:Program} {f0:Nat} {g0:Gb} {r:Bxs} (h0:SoundB P f0 g0) (h: ∀f g,Bxs.get r f=some g→SoundB P f g): ∀f g,Bxs.get ((f0,g0)::r) f=some g→SoundB P f g:=fun f g hg=>by
 simp only [Bxs.get]at hg
 split at hg
 ·rename_i e;cases hg;subst e;exact h0
 ·exact h f g hg
theorem qZF {P:Program} {ps qs:List TI}: ∀f (g:Gc ps qs),Cls.get [] f=some g→SoundC P f g:=fun _ _ h=>by simp [Cls.get]at h
theorem zb4 {P:Program} {ps qs:List TI} {f0:Nat} {g0:Gc ps qs} {r:Cls ps qs} (h0:SoundC P f0 g0) (h: ∀f g,Cls.get r f=some g→SoundC P f g): ∀f g,Cls.get ((f0,g0)::r) f=some g→SoundC P f g:=fun f g hg=>by
 simp only [Cls.get]at hg
 split at hg
 ·rename_i e;cases hg;subst e;exact h0
 ·exact h f g hg
theorem qUR {P:Program}: ∀f gc,Hns.get [] f=some gc→SoundH P f gc.1∧ ∀f' c,Cls.get gc.2 f'=some c→SoundC P f' c:=fun _ _ h=>by simp [Hns.get]at h
theorem q5Y {P:Program} {f0:Nat} {g0:Gh} {cl:Cls g0.ps g0.qs} {r:Hns} (h0:SoundH P f0 g0) (hc: ∀f' c,Cls.get cl f'=some c→SoundC P f' c) (h: ∀f gc,Hns.get r f=some gc→SoundH P f gc.1∧ ∀f' c,Cls.get gc.2 f'=some c→SoundC P f' c): ∀f gc,Hns.get ((f0,⟨g0,cl⟩)::r) f=some gc→SoundH P f gc.1∧ ∀f' c,Cls.get gc.2 f'=some c→SoundC P f' c:=fun f gc hg=>by
 simp only [Hns.get]at hg
 split at hg
 ·rename_i e;cases hg;subst e;exact ⟨h0,hc⟩
 ·exact h f gc hg
structure HN (ps qs:List TI) where
 n:Nat
 fv:Value
 pre:qb ps→Prop
 fn:qb ps→qb qs
instance {ps qs:List TI}:CoeOut (HN ps qs) Nat:=⟨HN.n⟩
attribute [simp] qj6 qtR qAK qzW qzP qDQ qs8 ql9 qzX qkV Cls.get qjl qAy Bxs.get Hns.get quA qmw qpS qpl qqt qqb
end Go.T
/- T: functions that take over what their first argument owns: their results may keep it. -/
namespace Go.T
open Go
structure Gw where
 t:TI
 ps:List TI
 rs:List TI
 pre:Val t.ty→qb ps→Prop
 fn:Val t.ty→qb ps→qb rs
structure SoundW (P:Program) (f:FuncId) (g:Gw):Prop where
 enters:qca P f
 runs: ∀(v:Val g.t.ty) (x:qb g.ps),g.pre v x→ ∀(w:World) (u:Value) (cs:List Value) (B:List Nat) (ext:Nat→Prop) (us:List Value),
  qal g.t.agg cs u→M w g.t.ty v cs B→B.Nodup→VKs w ext g.ps x us→(∀k,w.heap.size≤k→ext k)→(∀k,ext k→k<w.heap.size→k∉B)→
  Calls P f (u::us).toArray w fun e w'=> ∃rv B',e= .returned (qbf rv)∧Fr (fun k=>k∈B) w w'∧VMs w' g.rs (g.fn v x) rv B'∧B'.Nodup∧ ∀k∈B',k∈B∨w.heap.size≤k
def qrt (t:TI) (ps:List TI) (ntmps:Nat) (v:Val t.ty) (x:qb ps):St:={env:=(LV1.lv ⟨t.agg,(qF 0 t.ty v).1⟩)::((qe8 0 ps x).map LV1.lv++List.replicate (ntmps - (ps.length+1)) (.tup [])),heap:=(qF 0 t.ty v).2}
def qyb (g:Gw) (ls:List LV) (d:Option Tmp) (st:St):Res:=match ls with
 | l::args=>if l.isAgg=some g.t.agg∧qad st.heap l.cells=true∧qbu (qk l.cells)=true∧(args.all fun l'=>l'.cells.all (qj6 st.heap (los st.heap st.heap.length (qk l.cells)) (qk l.cells)))=true then
    match qx st.heap g.t.ty l.cells,qbd st.heap g.ps args with
    | some (v,[]),some x=>some (g.pre v x,St.put ⟨st.env.map (LV.clamp (los st.heap st.heap.length (qk l.cells))),kill (st.heap.map (Blk.clamp (los st.heap st.heap.length (qk l.cells)))) (qk l.cells)++(qcx st.heap.length g.rs (g.fn v x)).2⟩ d (qgZ (qcx st.heap.length g.rs (g.fn v x)).1))
    | _,_=>none
   else none
 | _=>none
abbrev Gws:=List (Nat×Gw)
def Gws.get:Gws→Nat→Option Gw
 | [],_=>none
 | (f,g)::r,f'=>if f=f' then some g else Gws.get r f'
def qu6 (ws:Gws) (S:Sem):Sem:=fun o st=>match o.op with
 | .call c=>match c.callee with
   | .value (.func f)=>match Gws.get ws f with
     | some g=>qyb g (c.args.toList.map st.ev) o.dst st
     | none=>S o st
   | _=>S o st
 | _=>S o st
section
variable {P : Program} {tt : TT} {Γ : Gam} {w0 w w' : World} {mine : Mine} {m m' : Mp} {h : List Blk} {st : St} {a : Act} {o : Oper} {next : Act → World → Prop} {Q : Exit → Act → World → Prop}
theorem q8d (H:HR w0 mine w m h) {ids:List Nat} (hids: ∀i∈ids,∃(e:Nat) (t:Ty) (xs:List (Val t)) (mt:Bool) (n:Nat),h[i]?=some (.row e t xs true mt n)) {bl:List Blk} {rl:List qp}
 (hfr:Fr (fun k=>k∈qE m h ids) w w') (hf:F2 (qaR w') bl rl) (hBn:(rl.flatMap qp.fp).Nodup) (hBm: ∀k∈rl.flatMap qp.fp,k∈qE m h ids∨w.heap.size≤k):
 HR w0 mine w' (m.rows h.length rl) (kill (h.map (Blk.clamp (los h h.length ids))) ids++bl)∧Keeps w w' m (m.rows h.length rl) h (kill (h.map (Blk.clamp (los h h.length ids))) ids++bl) (los h h.length ids):=by
 have hlen:(kill (h.map (Blk.clamp (los h h.length ids))) ids).length=h.length:=by rw [qbg,List.length_map]
 have get: ∀i y,(kill (h.map (Blk.clamp (los h h.length ids))) ids++bl)[i]?=some y→(i<h.length∧i∈ids∧y= .dead)∨(i∉ids∧ ∃x,h[i]?=some x∧y=x.clamp (los h h.length ids))∨(∃j r,i=h.length+j∧bl[j]?=some y∧rl[j]?=some r∧qaR w' y r):=fun i y hy=>by
  by_cases hl:i<h.length
  ·rw [List.getElem?_append_left (by omega)]at hy
   rcases qf6 _ _ _ _ hy with ⟨hi,rfl⟩ | ⟨hi,hy⟩
   ·exact .inl ⟨hl,hi,rfl⟩
   ·rw [List.getElem?_map]at hy
    cases hx:h[i]? with
    | none=>rw [hx]at hy;simp at hy
    | some x=>rw [hx]at hy;simp at hy;exact .inr (.inl ⟨hi,x,rfl,hy.symm⟩)
  ·rw [List.getElem?_append_right (by omega),hlen]at hy
   obtain ⟨r,hr,hok⟩:=hf.get hy
   exact .inr (.inr ⟨i - h.length,r,by omega,hy,hr,hok⟩)
 have vlt: ∀i,i<h.length→(m.rows h.length rl).val i=m.val i∧(m.rows h.length rl).nst i=m.nst i:=fun i hi=>by simp [Mp.rows,hi]
 have hmem: ∀{k:Nat} {r:qp},rl[k]?=some r→ ∀b∈r.fp,b∈rl.flatMap qp.fp:=fun hk b hb=>List.mem_flatMap.2 ⟨_,List.mem_of_getElem? hk,hb⟩
 have fpnew: ∀j y r,rl[j]?=some r→qaR w' y r→fpB (m.rows h.length rl) (h.length+j) y=r.fp:=fun j y r hr hok=>by
  obtain ⟨h1,h2⟩:=qbp (m:=m) (n:=h.length) hr
  obtain ⟨e,t,xs,inner,rfl,_⟩:=hok
  simp only [fpB,h1,h2,qp.fp]
 have fpold: ∀i x,i<h.length→ ∀b,b∈fpB (m.rows h.length rl) i (x.clamp (los h h.length ids))→b∈fpB m i x:=fun i x hi b hb=>by
  obtain ⟨v1,v2⟩:=vlt i hi
  cases x with
  | dead=>exact hb
  | box cs=>exact hb
  | nst F t hs vs=>exact hb
  | row e t xs dp mt k=>
    cases dp with
    | true=>
      have hb:b∈((m.rows h.length rl).val i).ownBlock.toList++(m.rows h.length rl).nst i:=hb
      rw [v1,v2]at hb;exact hb
    | false=>
      simp only [Blk.clamp]at hb
      split at hb
      ·have hb:b∈((m.rows h.length rl).val i).ownBlock.toList++[]:=hb
       rw [v1]at hb;exact hb
      ·simp [fpB]at hb
 have notB: ∀i x,i∉ids→h[i]?=some x→ ∀b∈fpB m i x,b∉qE m h ids:=fun i x hni hx b hb' hB=>by
  obtain ⟨id',y,hid',hy,hb2⟩:=qaM hB
  exact H.dj i x id' y (fun e=>hni (e▸hid')) hx hy b hb' hb2
 have same: ∀i x,i∉ids→h[i]?=some x→ ∀b∈fpB m i x,w'.heap[b]?=w.heap[b]?:=fun i x hni hx b hb'=>hfr.block b (H.lt i x hx b hb').1 (notB i x hni hx b hb')
 have K:Keeps w w' m (m.rows h.length rl) h (kill (h.map (Blk.clamp (los h h.length ids))) ids++bl) (los h h.length ids):=by
  refine ⟨fun n b hle hb' hl=> ?_,fun i x hx=> ?_⟩
  ·have hnb:b∉qE m h ids:=fun h=>qgF hb' hle h
   refine ⟨hfr.block b hl hnb,hb'.1,fun i y hy=> ?_⟩
   rcases get i y hy with ⟨_,_,rfl⟩ | ⟨hni,x,hx,rfl⟩ | ⟨j,r,rfl,_,hr,hok⟩
   ·trivial
   ·obtain ⟨v1,v2⟩:=vlt i (List.getElem?_eq_some_iff.1 hx).1
    have:=hb'.2 i x hx
    cases x with
    | dead=>trivial
    | box cs=>exact this
    | nst F t hs vs=>exact this
    | row e t xs dp mt k=>
      cases dp with
      | true=>exact ⟨by rw [v1];exact this.1,by rw [v2];exact this.2⟩
      | false=>
        simp only [Blk.clamp]
        split
        ·exact ⟨by rw [v1];exact this.1,fun h=>by simp at h⟩
        ·trivial
   ·have hno:b∉r.fp:=fun hm'=>by
     rcases hBm b (hmem hr b hm')with h1 | h1
     ·exact hnb h1
     ·omega
    obtain ⟨h1,h2⟩:=qbp (m:=m) (n:=h.length) hr
    obtain ⟨e,t,xs,inner,rfl,_⟩:=hok
    refine ⟨fun _ ho=>hno ?_,fun _ _ hm'=>hno ?_⟩
    ·rw [h1]at ho;simp [qp.fp,ho]
    ·rw [h2]at hm';exact List.mem_append_right _ hm'
  ·have hl:=(List.getElem?_eq_some_iff.1 hx).1
   by_cases hni:i∈ids
   ·obtain ⟨e,t,xs,mt,n,hx'⟩:=hids i hni
    rw [hx]at hx';cases hx'
    refine ⟨.dead,?_,BR.rowOne (H.br i _ hx)⟩
    rw [List.getElem?_append_left (by omega)]
    cases hk:(kill (h.map (Blk.clamp (los h h.length ids))) ids)[i]? with
    | none=>
      have:=List.getElem?_eq_none_iff.1 hk
      omega
    | some y=>
      rcases qf6 _ _ _ _ hk with ⟨_,rfl⟩ | ⟨hi',_⟩
      ·rfl
      ·exact absurd hni hi'
   ·refine ⟨x.clamp (los h h.length ids),by rw [List.getElem?_append_left (by omega),qws _ _ _ hni,List.getElem?_map,hx];rfl,?_⟩
    obtain ⟨v1,v2⟩:=vlt i hl
    have hbr:=H.br i x hx
    cases x with
    | dead=>trivial
    | box cs=>rfl
    | nst F t hs vs=>trivial
    | row e t xs dp mt k=>
      cases dp with
      | true=>exact ⟨rfl,v1⟩
      | false=>
        simp only [Blk.clamp]
        split
        ·exact ⟨rfl,v1⟩
        ·exact BR.rowOne hbr
 refine ⟨⟨fun i y hy=> ?_,fun i y hy=> ?_,fun i y i' y' hne hy hy' b hb1 hb2=> ?_,fun i y hy b hb1=> ?_,?_,H.mx,H.nx,fun i v hp=> ?_⟩,K⟩
 ·rcases get i y hy with ⟨_,_,rfl⟩ | ⟨hni,x,hx,rfl⟩ | ⟨j,r,rfl,_,hr,hok⟩
  ·trivial
  ·obtain ⟨v1,v2⟩:=vlt i (List.getElem?_eq_some_iff.1 hx).1
   have hbr:=H.br i x hx
   have sm:=same i x hni hx
   cases x with
   | dead=>trivial
   | box cs=>
     obtain ⟨arr',ty',h1,h2,h3⟩:=hbr
     exact ⟨arr',ty',(sm (m.blk i) (by simp [fpB])).trans h1,qAs K h2,h3⟩
   | nst F t hs vs=>exact qnF hbr sm
   | row e t xs dp mt k=>
     obtain ⟨inner,h1,h2⟩:=hbr
     have ho:=qpN h1 fun b hv=>sm b (by simp [fpB,hv])
     cases dp with
     | true=>
       refine ⟨inner,by rw [v1];exact ho,?_,h2.2⟩
       rw [v2]
       exact h2.1.imp fun x c b hk hx=>qb9 hx fun k' hk'=>sm k' (by simp only [fpB];exact List.mem_append_right _ (hk k' hk'))
     | false=>
       simp only [Blk.clamp]
       split
       ·rename_i hle
        exact ⟨inner,by rw [v1];exact ho,h2.imp fun x c hk=>qap (fun b hb hlt=>(K.ok k b hle hb hlt).1) (fun b hb hlt=>(K.ok k b hle hb hlt).2) hk⟩
       ·trivial
  ·obtain ⟨h1,h2⟩:=qbp (m:=m) (n:=h.length) hr
   obtain ⟨e,t,xs,inner,rfl,ho,hms⟩:=hok
   exact ⟨inner,by rw [h1];exact ho,by rw [h2];exact hms,Nat.zero_le _⟩
 ·rcases get i y hy with ⟨_,_,rfl⟩ | ⟨hni,x,hx,rfl⟩ | ⟨j,r,rfl,_,hr,hok⟩
  ·exact List.nodup_nil
  ·obtain ⟨v1,v2⟩:=vlt i (List.getElem?_eq_some_iff.1 hx).1
   have:=H.nd i x hx
   cases x with
   | dead=>exact this
   | box cs=>exact this
   | nst F t hs vs=>exact this
   | row e t xs dp mt n=>
     cases dp with
     | true=>
       show (((m.rows h.length rl).val i).ownBlock.toList++(m.rows h.length rl).nst i).Nodup
       rw [v1,v2];exact this
     | false=>
       simp only [Blk.clamp]
       split
       ·show (((m.rows h.length rl).val i).ownBlock.toList++[]).Nodup
        rw [v1];exact this
       ·exact List.nodup_nil
  ·rw [fpnew j y r hr hok];exact qgK hBn hr
 ·have new: ∀i y b,(kill (h.map (Blk.clamp (los h h.length ids))) ids++bl)[i]?=some y→b∈fpB (m.rows h.length rl) i y→(i∉ids∧ ∃x,h[i]?=some x∧b∈fpB m i x)∨ ∃j r,i=h.length+j∧rl[j]?=some r∧b∈r.fp:=fun i y b hy hb'=>by
   rcases get i y hy with ⟨_,_,rfl⟩ | ⟨hni,x,hx,rfl⟩ | ⟨j,r,rfl,_,hr,hok⟩
   ·simp [fpB]at hb'
   ·exact .inl ⟨hni,x,hx,fpold i x (List.getElem?_eq_some_iff.1 hx).1 b hb'⟩
   ·rw [fpnew j y r hr hok]at hb'
    exact .inr ⟨j,r,rfl,hr,hb'⟩
  have old_new: ∀i x b,i∉ids→h[i]?=some x→b∈fpB m i x→ ∀(j:Nat) (r:qp),rl[j]?=some r→b∉r.fp:=fun i x b hni hx hb' j r hr hm'=>by
   rcases hBm b (hmem hr b hm')with h1 | h1
   ·exact notB i x hni hx b hb' h1
   ·have:=(H.lt i x hx b hb').1
    omega
  rcases new i y b hy hb1 with ⟨hni,x,hx,hbx⟩ | ⟨j,r,rfl,hr,hbr⟩
  ·rcases new i' y' _ hy' hb2 with ⟨hni',x',hx',hbx'⟩ | ⟨j',r',rfl,hr',hbr'⟩
   ·exact H.dj i x i' x' hne hx hx' b hbx hbx'
   ·exact old_new i x b hni hx hbx j' r' hr' hbr'
  ·rcases new i' y' _ hy' hb2 with ⟨hni',x',hx',hbx'⟩ | ⟨j',r',rfl,hr',hbr'⟩
   ·exact old_new i' x' b hni' hx' hbx' j r hr hbr
   ·exact qg0 hBn (fun e=>hne (by rw [e])) hr hr' b hbr hbr'
 ·rcases get i y hy with ⟨_,_,rfl⟩ | ⟨hni,x,hx,rfl⟩ | ⟨j,r,rfl,_,hr,hok⟩
  ·simp [fpB]at hb1
  ·have:=H.lt i x hx b (fpold i x (List.getElem?_eq_some_iff.1 hx).1 b hb1)
   exact ⟨Nat.lt_of_lt_of_le this.1 hfr.size,this.2⟩
  ·rw [fpnew j y r hr hok]at hb1
   rcases hBm b (hmem hr b hb1)with h1 | h1
   ·obtain ⟨id',z,_,hz,hb2⟩:=qaM h1
    have:=H.lt id' z hz b hb2
    exact ⟨Nat.lt_of_lt_of_le this.1 hfr.size,this.2⟩
   ·refine ⟨?_,.inl (Nat.le_trans H.fr.size h1)⟩
    obtain ⟨e',t',xs',inner,hy',ho,hm⟩:=hok
    rcases List.mem_append.1 hb1 with hb1 | hb1
    ·exact (ho.lt b (by simpa using hb1)).2
    ·exact qmL (fun x c b hx=>qcN hx) hm b hb1
 ·refine H.fr.trans hfr fun k hk=> ?_
  obtain ⟨id',z,_,hz,hb2⟩:=qaM hk
  exact (H.lt id' z hz k hb2).2
 ·obtain ⟨h1,h2⟩:=H.pn i v hp
  exact ⟨by rw [List.length_append,hlen];omega,by rw [(vlt i h1).1];exact h2⟩
theorem zcV (H:HR w0 mine w m h) {ids:List Nat} {c:LC} (hc:qj6 h (los h h.length ids) ids c=true):okC w m h (fun k=>w.heap.size≤k∨k∉qE m h ids) c:=by
 cases c with
 | sl e t xs n=>
   have hn:n≤los h h.length ids:=of_decide_eq_true hc
   exact fun b hb' _=> .inr (qgF hb' hn)
 | own i=>
   intro x hx
   simp only [qj6,hx,Bool.and_eq_true,Bool.not_eq_true']at hc
   have hni:i∉ids:=by have:=hc.1;simpa using this
   refine ⟨fun b hb'=> .inr fun hm=> ?_,?_⟩
   ·obtain ⟨id',y,hid',hy,hb2⟩:=qaM hm
    exact H.dj i x id' y (fun e=>hni (e▸hid')) hx hy b hb' hb2
   ·cases x with
    | row e t xs dp mt n=>
      cases dp with
      | true=>trivial
      | false=>
        have hn:n≤los h h.length ids:=of_decide_eq_true hc.2
        exact fun b hb' _=> .inr (qgF hb' hn)
    | _=>trivial
 | _=>trivial
theorem qZG {f:FuncId} {g:Gw} (S:SoundW P f g) {c:Call} (ho:o.op= .call c) (hc:c.callee= .value (.func f)) {p:Prop} {st':St} (hs:qyb g (c.args.toList.map st.ev) o.dst st=some (p,st')) (hp:p)
 (hr:R w0 mine st a w) (hn: ∀a' w',R w0 mine st' a' w'→next a' w'):o.wp P a w next Q:=by
 obtain ⟨hd,m,H,he⟩:=hr
 have hargs:=qiM H he c.args.toList
 unfold qyb at hs
 split at hs
 ·rename_i l args els
  split at hs
  ·rename_i hcond
   obtain ⟨hagg,hdeep,hnd,hall⟩:=hcond
   split at hs
   ·rename_i v x hi hx
    cases hs
    rw [els]at hargs
    generalize hus:c.args.toList.map a.eval=us at hargs
    cases hargs with
    | cons hp0 hargs=>
      rename_i u us
      have hids:=qeq hnd
      have hB:=qem H hids
      have hrows: ∀i∈qk l.cells,∃(e:Nat) (t:Ty) (xs:List (Val t)) (mt:Bool) (n:Nat),st.heap[i]?=some (.row e t xs true mt n):=fun i hi=>qUK hdeep hi
      have hvk:=qeB (ok:=fun k=>w.heap.size≤k∨k∉qE m st.heap (qk l.cells)) H.br hargs hx fun l hl c hc=>zcV H (List.all_eq_true.1 (List.all_eq_true.1 hall l hl) c hc)
      have hM: ∃cs,qal g.t.agg cs u∧M w g.t.ty v cs (qE m st.heap (qk l.cells)):=by
            cases l with
            | tup=>simp [LV.isAgg]at hagg
            | one c=>
              simp only [LV.isAgg,Option.some.injEq]at hagg
              obtain ⟨v1,v2,pre,hvs',hpre,hM,hr⟩:=qee H.br (F2.cons hp0 .nil) hi hdeep
              cases hr
              rw [List.append_nil]at hvs' hpre
              refine ⟨[u],by rw [←hagg];rfl,?_⟩
              rw [hvs',show (LV.one c).cells=pre from hpre];exact hM
            | agg cs=>
              simp only [LV.isAgg,Option.some.injEq]at hagg
              obtain ⟨us',rfl,hf⟩:=hp0
              obtain ⟨v1,v2,pre,hvs',hpre,hM,hr⟩:=qee H.br hf hi hdeep
              cases hr
              rw [List.append_nil]at hvs' hpre
              refine ⟨us'.toList,by rw [←hagg];simp [qal],?_⟩
              rw [hvs',show (LV.agg cs).cells=pre from hpre];exact hM
      obtain ⟨cs,hw,hM⟩:=hM
      unfold Oper.wp
      rw [qg4 ho hc S.enters,Oper.upon_enter]
      have hvs':c.args.map a.eval=(u::us).toArray:=by
            rw [←Array.toList_inj];simpa using hus
      rw [hvs']
      refine Calls.mono (S.runs v x hp w u cs _ _ us hw hM hB hvk (fun k hk=> .inl hk) (fun k hk hl=>by rcases hk with hk | hk;omega;exact hk)) fun e w' he'=> ?_
      obtain ⟨rv,B',rfl,hfr,hres,hBn,hBm⟩:=he'
      obtain ⟨rl,hfl,rfl,hcl⟩:=qpn st.heap.length hres
      obtain ⟨H',K⟩:=q8d H hrows hfr hfl hBn hBm
      refine hn _ _ ⟨by rw [qa4];exact hd,m.rows st.heap.length rl,?_,?_⟩
      ·rw [St.put_heap];exact H'
      ·rw [St.put_heap,St.put_env]
       have hln:(kill (st.heap.map (Blk.clamp (los st.heap st.heap.length (qk l.cells)))) (qk l.cells)).length=st.heap.length:=by rw [qbg,List.length_map]
       refine qbm (qq2 K he) o.dst (qim (hcl.imp fun l1 u1 _ hv=> ?_))
       have:=qBS (m:=m) (h:=kill (st.heap.map (Blk.clamp (los st.heap st.heap.length (qk l.cells)))) (qk l.cells)) hfl (l:=l1) (u:=u1) (by rw [hln];exact hv)
       rw [hln]at this
       exact this
   ·simp at hs
  ·simp at hs
 ·simp at hs
theorem qXC {ws:Gws} {S:Sem} (h1: ∀f g,Gws.get ws f=some g→SoundW P f g) (h2:qbw P S):qbw P (qu6 ws S):=by
 intro o st p st' hs hp w0 mine a w next Q hr hn
 unfold qu6 at hs
 split at hs
 ·rename_i c hop
  split at hs
  ·rename_i f hcl
   split at hs
   ·rename_i g hg
    exact qZG (h1 f g hg) hop hcl hs hp hr hn
   ·exact h2 o st p st' hs hp w0 mine a w next Q hr hn
  ·exact h2 o st p st' hs hp w0 mine a w next Q hr hn
 ·exact h2 o st p st' hs hp w0 mine a w next Q hr hn
theorem q7v (hT : qQ P tt) (hΓ : ∀ f g, Γ.get f = some g → Sound P f g) (hm : P.follows .mixedOrders = true) {f : FuncId} {fn : Func} {c : Code} {g : Gw} (hf : P.funcs[f]? = some fn) (hb : fn.body = some c) (hname : (fn.name == "runtime.NumGoroutine") = false)
 (hrun: ∀(v:Val g.t.ty) (x:qb g.ps),g.pre v x→ ∃T:Tab,qj T.tr c=true∧(qbw P T.sem∧qn P T)∧qd tt Γ T c (qo tt true g.rs fn.results.toList) (qrt g.t g.ps fn.ntmps v x)=some (g.fn v x)):SoundW P f g:=by
 refine ⟨⟨fn,hf,by rw [hb];rfl,hname⟩,fun v x hx w u cs B ext us hwr hM hB hvs hext hdis=> ?_⟩
 refine calls_of_wp hf hb ?_
 obtain ⟨T,hp,hS,hrun⟩:=hrun v x hx
 have hMl:=qcN hM
 obtain ⟨rl,hfl,rfl,hcl⟩:=qip 0 hM
 let mE:Mp:=⟨fun _=>undef,fun _=>0,fun _=>[],fun k=>ext k∨k∈rl.flatMap qp.fp⟩
 let mine:Mine:=⟨fun k=>k∈rl.flatMap qp.fp,fun k=>ext k∨k∈rl.flatMap qp.fp,fun _=>none⟩
 have hmem: ∀{j:Nat} {r:qp},rl[j]?=some r→ ∀k∈r.fp,k∈rl.flatMap qp.fp:=fun hj k hk=>List.mem_flatMap.2 ⟨_,List.mem_of_getElem? hj,hk⟩
 have hget: ∀{id:Nat} {y:Blk},(qF 0 g.t.ty v).2[id]?=some y→ ∃r,rl[id]?=some r∧qaR w y r∧fpB (mE.rows 0 rl) id y=r.fp∧(mE.rows 0 rl).val id=r.1∧(mE.rows 0 rl).nst id=r.2:=fun {id y} hy=>by
  obtain ⟨r,hr,hok⟩:=hfl.get hy
  obtain ⟨h1,h2⟩:=qbp (m:=mE) (n:=0) hr
  rw [Nat.zero_add]at h1 h2
  refine ⟨r,hr,hok,?_,h1,h2⟩
  obtain ⟨e,t,xs,inner,rfl,_⟩:=hok
  simp only [fpB,h1,h2,qp.fp]
 have hC:F2 (C w (mE.rows 0 rl) (qF 0 g.t.ty v).2) (qF 0 g.t.ty v).1 cs:=hcl.imp fun c u _ hc=>(qik (h:=[]) hfl hc).1
 have H:HR w mine w (mE.rows 0 rl) (qF 0 g.t.ty v).2:=by
  refine ⟨fun id y hy=> ?_,fun id y hy=> ?_,fun id y id' y' hne hy hy' k hk hk'=> ?_,fun id y hy k hk=> ?_,Fr.refl _ w,rfl,fun k hk=> ?_,fun id q hpv=>by simp [mine]at hpv⟩
  ·obtain ⟨r,hr,hok,_,h1,h2⟩:=hget hy
   obtain ⟨e,t,xs,inner,rfl,ho,hms⟩:=hok
   exact ⟨inner,by rw [h1];exact ho,by rw [h2];exact hms,Nat.zero_le _⟩
  ·obtain ⟨r,hr,_,h1,_⟩:=hget hy
   rw [h1];exact qgK hB hr
  ·obtain ⟨r,hr,_,h1,_⟩:=hget hy
   obtain ⟨r',hr',_,h1',_⟩:=hget hy'
   rw [h1]at hk;rw [h1']at hk'
   exact qg0 hB hne hr hr' k hk hk'
  ·obtain ⟨r,hr,_,h1,_⟩:=hget hy
   rw [h1]at hk
   exact ⟨hMl k (hmem hr k hk),.inr (hmem hr k hk)⟩
  ·rcases hk with hk | hk
   ·exact .inl (hext k hk)
   ·exact .inr hk
 have hok0: ∀k,ext k→k<w.heap.size→qw (mE.rows 0 rl) (qF 0 g.t.ty v).2 0 k:=fun k hk hl=>⟨.inl hk,fun id y hy=>by
  have n2:=hdis k hk hl
  obtain ⟨r,hr,hok,h0,h1,h2⟩:=hget hy
  have hno:k∉r.fp:=fun hm'=>n2 (hmem hr k hm')
  obtain ⟨e,t,xs,inner,rfl,_⟩:=hok
  refine ⟨fun _ ho=>hno ?_,fun _ _ hm'=>hno ?_⟩
  ·rw [h1]at ho;simp [qp.fp,ho]
  ·rw [h2]at hm';exact List.mem_append_right _ hm'⟩
 have hl:us.length=g.ps.length:=qub hvs
 have henv:F2 (V w (mE.rows 0 rl) (qF 0 g.t.ty v).2) (qrt g.t g.ps fn.ntmps v x).env ((u::us).toArray++Array.replicate (fn.ntmps - (u::us).toArray.size) undef).toList:=by
  rw [Array.toList_append,Array.toList_replicate]
  have hsz:(u::us).toArray.size=g.ps.length+1:=by simp [hl]
  rw [hsz]
  refine F2.append (.cons (qmh (qBS (m:=mE) (h:=[]) (l:=⟨g.t.agg,(qF 0 g.t.ty v).1⟩) hfl ⟨cs,hcl,hwr⟩)) (qzS (qhm (qhZ (fun _ _ _=>rfl) hok0 hvs)))) ?_
  generalize fn.ntmps - (g.ps.length+1)=k
  induction k with
  | zero=>exact .nil
  | succ k ih=>rw [List.replicate_succ,List.replicate_succ];exact .cons ⟨#[],rfl,.nil⟩ ih
 have hR:R w mine (qrt g.t g.ps fn.ntmps v x) {tmps:=(u::us).toArray++Array.replicate (fn.ntmps - (u::us).toArray.size) undef,defers:=[]} w:=⟨rfl,_,H,henv⟩
 have fin: ∀(st:St) (a:Act) (w':World),R w mine st a w'→qg1 tt true g.rs fn.results.toList (g.fn v x) st→a.defers=[]∧ ∃q,(results fn a.tmps).run P w'= .ok q w'∧(∃rv B',Ending.returned q= .returned (qbf rv)∧Fr (fun k=>k∈rl.flatMap qp.fp) w w'∧VMs w' g.rs (g.fn v x) rv B'∧B'.Nodup∧ ∀k∈B',k∈rl.flatMap qp.fp∨w.heap.size≤k):=by
  intro st a w' hr h
  obtain ⟨hd,m,H',he⟩:=hr
  refine ⟨hd,?_⟩
  unfold qg1 at h
  split at h
  ·exact h.elim
  ·rename_i ls hls
   obtain ⟨vs',hrun,hV⟩:=qkb hT H' he hls
   obtain ⟨h1,h2⟩:=h.2 rfl
   refine ⟨qbf vs',qng fn hrun,vs',_,rfl,H'.fr,qBy H'.br hV h.1 h1,qem H' (qeq h2),fun b hb=> ?_⟩
   obtain ⟨id,y,_,hy,hb'⟩:=qaM hb
   rcases (H'.lt id y hy b hb').2 with h | h
   ·exact .inr h
   ·exact .inl h
 have hrq: ∀{e:X} {st:St},qo tt true g.rs fn.results.toList e st=some (g.fn v x)→qzH tt (⟨[],g.rs,true,fun _=>True,fun _=>g.fn v x⟩:G) fn.results.toList () e st:=fun {e st} h=>qwn (g:=⟨[],g.rs,true,fun _=>True,fun _=>g.fn v x⟩) h
 refine wp_mono (qdE hT hS.2 hΓ hm hS.1.at (fun _=>fun _=>rfl) c hp _ _ _ _ hrun hR) fun e a w' he=> ?_
 cases e with
 | normal=>obtain ⟨st,hr,h⟩:=he;exact fin st a w' hr (hrq h)
 | ret=>obtain ⟨st,hr,h⟩:=he;exact fin st a w' hr (hrq h)
 | exit id=>obtain ⟨st,hr,h⟩:=he;exact (hrq h).elim
 | _=>exact he.elim
theorem q0H: ∀f g,Gws.get [] f=some g→SoundW P f g:=fun f g h=>by simp [Gws.get]at h
theorem zbv {f0:Nat} {g0:Gw} {ws:Gws} (h0:SoundW P f0 g0) (h: ∀f g,Gws.get ws f=some g→SoundW P f g): ∀f g,Gws.get ((f0,g0)::ws) f=some g→SoundW P f g:=fun f g hg=>by
 simp only [Gws.get]at hg
 split at hg
 ·rename_i e;subst e;cases hg;exact h0
 ·exact h f g hg
attribute [simp] Gws.get qu6 qyb qrt
end
end Go.T
/- T: atoms as inequalities over the rationals: scaling, strength, normal lists, elimination of a variable. -/
namespace Go.T
def qmZ:List Int→List Rat→Rat
 | x::xs,y::ys=>(x:Rat)*y+qmZ xs ys
 | _,_=>0
def evA (a:Atm) (p:List Rat):Rat:=qmZ a.1 p+(a.2.1:Rat)
def qA9 (a:Atm) (p:List Rat):Prop:=evA a p<0∨(a.2.2=false∧evA a p=0)
def q2g (l:List Atm) (p:List Rat):Prop:= ∀a∈l,qA9 a p
theorem qOs {g x:Rat} (hg:0<g):(g*x<0↔x<0)∧(g*x=0↔x=0):=
 ⟨Rat.mul_neg_iff_of_pos_left hg,by rw [Rat.mul_eq_zero];grind⟩
theorem qO7: ∀(ls:List (Rat×Bool)),ls=[]∨ ∃m∈ls,∀x∈ls,x.1<m.1∨(x.1=m.1∧(x.2=true→m.2=true))
 | []=> .inl rfl
 | y::ls=>by
   right
   rcases qO7 ls with rfl | ⟨m,hm,h⟩
   ·exact ⟨y,by simp,fun x hx=>by simp at hx;subst hx;exact .inr ⟨rfl,id⟩⟩
   ·by_cases hc:m.1<y.1∨(m.1=y.1∧y.2=true)
    ·refine ⟨y,by simp,fun x hx=> ?_⟩
     rcases List.mem_cons.1 hx with rfl | hx
     ·exact .inr ⟨rfl,id⟩
     ·have:=h x hx;grind
    ·refine ⟨m,by simp [hm],fun x hx=> ?_⟩
     rcases List.mem_cons.1 hx with rfl | hx
     ·grind
     ·exact h x hx
theorem qYS (us:List (Rat×Bool)):us=[]∨ ∃m∈us,∀x∈us,m.1<x.1∨(x.1=m.1∧(x.2=true→m.2=true)):=by
 rcases qO7 (us.map fun u=>(-u.1,u.2))with h | ⟨m,hm,h⟩
 ·left;simpa using h
 ·right
  obtain ⟨u,hu,rfl⟩:=List.mem_map.1 hm
  refine ⟨u,hu,fun x hx=> ?_⟩
  have:=h (-x.1,x.2) (List.mem_map.2 ⟨x,hx,rfl⟩)
  grind
theorem q3d (ls us:List (Rat×Bool)) (h: ∀x∈ls,∀y∈us,x.1<y.1∨(x.2=false∧y.2=false∧x.1=y.1)):
 ∃t:Rat,(∀x∈ls,x.1<t∨(x.2=false∧x.1=t))∧ ∀y∈us,t<y.1∨(y.2=false∧t=y.1):=by
 rcases qO7 ls with rfl | ⟨m,hm,h1⟩<;>rcases qYS us with rfl | ⟨k,hk,h2⟩
 ·exact ⟨0,by simp,by simp⟩
 ·exact ⟨k.1 - 1,by simp,fun y hy=>by have:=h2 y hy;grind⟩
 ·exact ⟨m.1+1,fun x hx=>by have:=h1 x hx;grind,by simp⟩
 ·have hmk:=h m hm k hk
  refine ⟨(m.1+k.1) / 2,fun x hx=> ?_,fun y hy=> ?_⟩
  ·have:=h1 x hx;grind
  ·have:=h2 y hy;grind
theorem qQ5: ∀(xs:List Int) (p:List Rat) (v:Nat) (t:Rat),v<p.length→xs.length=p.length→qmZ xs (p.set v t)=qmZ xs p+(xs.getD v 0:Rat)*(t - p.getD v 0)
 | [],[],v,t,h,_=>by simp at h
 | [],y::ys,v,t,_,h=>by simp at h
 | x::xs,[],v,t,_,h=>by simp at h
 | x::xs,y::ys,0,t,_,_=>by simp [qmZ];grind
 | x::xs,y::ys,v+1,t,h,hl=>by
   simp only [List.set_cons_succ,qmZ,List.getD_cons_succ]
   rw [qQ5 xs ys v t (by simpa using h) (by simpa using hl)]
   grind
theorem qVW {a:Atm} {p:List Rat} {v:Nat} {t:Rat} (hv:v<p.length) (hl:a.1.length=p.length):evA a (p.set v t)=evA a p+(a.1.getD v 0:Rat)*(t - p.getD v 0):=by
 unfold evA
 rw [qQ5 _ _ _ _ hv hl]
 grind
theorem zab {e c t q:Rat} (hc:0<c):(e+c*(t - q)<0↔t<q - e / c)∧(e+c*(t - q)=0↔t=q - e / c):=by
 have h1:c≠0:=by grind
 have h2:e / c*c=e:=Rat.div_mul_cancel h1
 generalize e / c=z at*
 subst h2
 have h3:z*c+c*(t - q)=c*(t - (q - z)):=by grind
 rw [h3]
 obtain ⟨e1,e2⟩:=qOs (x:=t - (q - z)) hc
 rw [e1,e2]
 constructor<;>grind
theorem q6a {e c t q:Rat} (hc:c<0):(e+c*(t - q)<0↔q - e / c<t)∧(e+c*(t - q)=0↔q - e / c=t):=by
 have h1:c≠0:=by grind
 have h2:e / c*c=e:=Rat.div_mul_cancel h1
 generalize e / c=z at*
 subst h2
 have h3:z*c+c*(t - q)=(-c)*((q - z) - t):=by grind
 rw [h3]
 obtain ⟨e1,e2⟩:=qOs (g:= -c) (x:=(q - z) - t) (by grind)
 rw [e1,e2]
 constructor<;>grind
theorem q7b {A B ca cb q:Rat} {sa sb:Bool} (ha:0<ca) (hb:cb<0) (h: -cb*A+ca*B<0∨(sa=false∧sb=false∧ -cb*A+ca*B=0)):q - B / cb<q - A / ca∨(sb=false∧sa=false∧q - B / cb=q - A / ca):=by
 have na:ca≠0:=by grind
 have nb:cb≠0:=by grind
 have ea:A / ca*ca=A:=Rat.div_mul_cancel na
 have eb:B / cb*cb=B:=Rat.div_mul_cancel nb
 generalize A / ca=za at*
 generalize B / cb=zb at*
 subst ea eb
 have e: -cb*(za*ca)+ca*(zb*cb)=(-cb*ca)*(za - zb):=by grind
 rw [e]at h
 have hp:0< -cb*ca:=Rat.mul_pos (by grind) ha
 obtain ⟨e1,e2⟩:=qOs (x:=za - zb) hp
 rw [e1,e2]at h
 rcases h with h | ⟨h1,h2,h3⟩
 ·left;grind
 ·right;exact ⟨h2,h1,by grind⟩
theorem elim {l:List Atm} {v:Nat} {p:List Rat} (hv:v<p.length) (hl: ∀a∈l,a.1.length=p.length) (hz: ∀a∈l,a.1.getD v 0=0→qA9 a p)
 (hm: ∀a∈l,∀b∈l,0<a.1.getD v 0→b.1.getD v 0<0→((-(b.1.getD v 0:Int):Int):Rat)*evA a p+((a.1.getD v 0:Int):Rat)*evA b p<0∨(a.2.2=false∧b.2.2=false∧((-(b.1.getD v 0:Int):Int):Rat)*evA a p+((a.1.getD v 0:Int):Rat)*evA b p=0)): ∃t,q2g l (p.set v t):=by
 obtain ⟨t,h1,h2⟩:=q3d ((l.filter fun a=>decide (a.1.getD v 0<0)).map fun a=>(p.getD v 0 - evA a p / ((a.1.getD v 0:Int):Rat),a.2.2)) ((l.filter fun a=>decide (0<a.1.getD v 0)).map fun a=>(p.getD v 0 - evA a p / ((a.1.getD v 0:Int):Rat),a.2.2)) fun x hx y hy=>by
  obtain ⟨b,hb,rfl⟩:=List.mem_map.1 hx
  obtain ⟨a,ha,rfl⟩:=List.mem_map.1 hy
  simp only [List.mem_filter,decide_eq_true_eq]at ha hb
  have hab:=hm a ha.1 b hb.1 ha.2 hb.2
  rw [Rat.intCast_neg]at hab
  exact q7b (Rat.intCast_pos.2 ha.2) (Rat.intCast_neg_iff.2 hb.2) hab
 refine ⟨t,fun a ha=> ?_⟩
 unfold qA9
 rw [qVW hv (hl a ha)]
 rcases Int.lt_trichotomy (a.1.getD v 0) 0 with hc | hc | hc
 ·have hx:=h1 (p.getD v 0 - evA a p / ((a.1.getD v 0:Int):Rat),a.2.2) (List.mem_map.2 ⟨a,by simp only [List.mem_filter,decide_eq_true_eq];exact ⟨ha,hc⟩,rfl⟩)
  obtain ⟨e1,e2⟩:=q6a (e:=evA a p) (t:=t) (q:=p.getD v 0) (Rat.intCast_neg_iff.2 hc)
  rw [e1,e2]
  exact hx
 ·have:=hz a ha hc
  rw [hc]
  unfold qA9 at this
  have e:evA a p+((0:Int):Rat)*(t - p.getD v 0)=evA a p:=by grind
  rw [e];exact this
 ·have hx:=h2 (p.getD v 0 - evA a p / ((a.1.getD v 0:Int):Rat),a.2.2) (List.mem_map.2 ⟨a,by simp only [List.mem_filter,decide_eq_true_eq];exact ⟨ha,hc⟩,rfl⟩)
  obtain ⟨e1,e2⟩:=zab (e:=evA a p) (t:=t) (q:=p.getD v 0) (Rat.intCast_pos.2 hc)
  rw [e1,e2]
  exact hx
end Go.T
