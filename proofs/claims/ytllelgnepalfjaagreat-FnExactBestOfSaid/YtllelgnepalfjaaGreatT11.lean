import Derived.Test.YtllelgnepalfjaaGreatT10
import Derived.Shelf.Spec.SlicesGrow
import Derived.KernelRfl
set_option linter.unusedSimpArgs false
set_option linter.unusedVariables false
namespace Go.T
open Go Go.Proofs Go.Shelf Go.RowKit Go.Lib
end Go.T
namespace Go.T
structure Cmp {α:Type} (c:α->α->Int):Prop where
 anti: ∀x y,c x y= - c y x
 tr: ∀x y z,c x y<=0->c y z<=0->c x z<=0
namespace Cmp
variable {α : Type} {c d : α -> α -> Int}
theorem self (h:Cmp c) (x:α):c x x=0:=by have:=h.anti x x;omega
theorem lt_le (h:Cmp c) {x y z:α} (h1:c x y<0) (h2:c y z<=0):c x z<0:=by
 have b:=h.tr x y z (by omega) h2
 rcases Int.lt_or_eq_of_le b with a | a
 ·exact a
 ·have d:=h.anti x z
  have e:=h.tr y z x h2 (by omega)
  have f:=h.anti x y
  omega
theorem le_lt (h:Cmp c) {x y z:α} (h1:c x y<=0) (h2:c y z<0):c x z<0:=by
 have b:=h.tr x y z h1 (by omega)
 rcases Int.lt_or_eq_of_le b with a | a
 ·exact a
 ·have d:=h.anti x z
  have e:=h.tr z x y (by omega) h1
  have f:=h.anti y z
  omega
theorem eq_tr (h:Cmp c) {x y z:α} (h1:c x y=0) (h2:c y z=0):c x z=0:=by
 have a:=h.tr x y z (by omega) (by omega)
 have b:=h.anti x y
 have d:=h.anti y z
 have e:=h.tr z y x (by omega) (by omega)
 have f:=h.anti x z
 omega
theorem lex (h:Cmp c) (g:Cmp d):Cmp fun x y=>if c x y=0 then d x y else c x y:=by
 refine ⟨fun x y=> ?_,fun x y z h1 h2=> ?_⟩
 ·have:=h.anti x y
  have:=g.anti x y
  split<;>split<;>omega
 ·have a:c x y<=0:=by split at h1<;>omega
  have b:c y z<=0:=by split at h2<;>omega
  have e3:=h.tr x y z a b
  split
  ·rename_i e4
   have e5:=h.anti x z
   have e6:=h.tr y z x b (by omega)
   have e7:=h.anti x y
   have e8:=h.tr z x y (by omega) a
   have e9:=h.anti y z
   rw [if_pos (by omega)]at h1 h2
   exact g.tr x y z h1 h2
  ·exact e3
theorem on {β:Type} (h:Cmp c) (f:β->α):Cmp fun x y=>c (f x) (f y):=⟨fun _ _=>h.anti _ _,fun _ _ _=>h.tr _ _ _⟩
end Cmp
def cB:List Int->List Int->Int
 | [],[]=>0
 | [],_::_=> -1
 | _::_,[]=>1
 | x::xs,y::ys=>if x<y then -1 else if y<x then 1 else cB xs ys
theorem KI: ∀x y,cB x y= - cB y x
 | [],[]=>rfl
 | [],_::_=>rfl
 | _::_,[]=>rfl
 | x::xs,y::ys=>by
   have:=KI xs ys
   simp only [cB]
   split<;>split<;>(try split)<;>omega
theorem KJ: ∀x y z,cB x y<=0->cB y z<=0->cB x z<=0
 | [],_,[],_,_=>by simp [cB]
 | [],_,_::_,_,_=>by simp [cB]
 | _::_,[],_,h,_=>by simp [cB]at h
 | _::_,_::_,[],_,h=>by simp [cB]at h
 | x::xs,y::ys,z::f,h1,h2=>by
   simp only [cB]at*
   have e:=KJ xs ys f
   by_cases a:x<y
   ·by_cases b:y<z
    ·rw [if_pos (by omega)];omega
    ·rw [if_neg b]at h2
     by_cases c:z<y
     ·rw [if_pos c]at h2;omega
     ·rw [if_pos (by omega)];omega
   ·rw [if_neg a]at h1
    by_cases d:y<x
    ·rw [if_pos d]at h1;omega
    ·rw [if_neg d]at h1
     by_cases b:y<z
     ·rw [if_pos (by omega)];omega
     ·rw [if_neg b]at h2
      by_cases c:z<y
      ·rw [if_pos c]at h2;omega
      ·rw [if_neg c]at h2
       rw [if_neg (by omega),if_neg (by omega)]
       exact e h1 h2
theorem Wr:Cmp cB:=⟨KI,KJ⟩
theorem ze: ∀{x y:List Int},cB x y=0->x=y
 | [],[],_=>rfl
 | [],_::_,h=>by simp [cB]at h
 | _::_,[],h=>by simp [cB]at h
 | x::xs,y::ys,h=>by
   simp only [cB]at h
   split at h
   ·omega
   ·split at h
    ·omega
    ·rw [ze h,show x=y by omega]
def gL:Nat->List Int->Nat
 | g,[]=>g
 | g,x::r=>gL (Nat.gcd g x.natAbs) r
theorem nW: ∀(xs:List Int) (a b:Nat),gL (Nat.gcd a b) xs=Nat.gcd (gL a xs) b
 | [],_,_=>rfl
 | x::r,a,b=>by
   simp only [gL]
   rw [<-nW r]
   congr 1
   rw [Nat.gcd_assoc,Nat.gcd_comm b,<-Nat.gcd_assoc]
theorem j1: ∀(xs:List Int) (g:Nat),gL g xs ∣ g/\ ∀x∈xs,gL g xs ∣ x.natAbs
 | [],g=>⟨Nat.dvd_refl g,fun x b=>by simp at b⟩
 | x::r,g=>by
   obtain ⟨h1,h2⟩:=j1 r (Nat.gcd g x.natAbs)
   refine ⟨Nat.dvd_trans h1 (Nat.gcd_dvd_left _ _),fun y a=> ?_⟩
   rcases List.mem_cons.1 a with rfl | a
   ·exact Nat.dvd_trans h1 (Nat.gcd_dvd_right _ _)
   ·exact h2 y a
theorem mg {xs:List Int}:gL 0 xs=0↔ ∀x∈xs,x=0:=by
 constructor
 ·intro h x b
  have:=(j1 xs 0).2 x b
  rw [h]at this
  have:=Nat.eq_zero_of_zero_dvd this
  omega
 ·intro h
  induction xs with
  | nil=>rfl
  | cons x r d=>
    have a:=h x (by simp)
    subst a
    exact d fun y c=>h y (by simp [c])
abbrev Atm:=List Int×Int×Bool
def gS (a:Atm):Nat:=max 1 (gL 0 a.1)
def iw (a:Atm):List Int:=a.1.map fun x=>x.tdiv (gS a:Int)
def sgI (n:Int):Int:=if n<0 then -1 else if 0<n then 1 else 0
def way (a b:Atm):Int:=cB (iw a) (iw b)
def eC (a b:Atm):Int:=sgI (a.2.1*gS b - b.2.1*gS a)
def stc (a b:Atm):Int:=if a.2.2=b.2.2 then 0 else if a.2.2 then 1 else -1
def cf (a b:Atm):Int:=if way a b=0 then (if eC a b=0 then stc a b else eC a b)else way a b
theorem eh (a:Atm):(0:Int)<gS a:=by unfold gS;omega
theorem cR:Cmp way:=Wr.on iw
theorem Ws:Cmp eC:=by
 refine ⟨fun a b=> ?_,fun a b c h1 h2=> ?_⟩
 ·unfold eC sgI
  split<;>split<;>(try split)<;>(try split)<;>omega
 ·have le: ∀x:Int,sgI x<=0↔x<=0:=fun x=>by unfold sgI;split<;>(try split)<;>omega
  unfold eC at*
  rw [le]at*
  have g:=eh a;have d:=eh b;have gc:=eh c
  generalize (gS a:Int)=p at*
  generalize (gS b:Int)=q at*
  generalize (gS c:Int)=r at*
  have h1:a.2.1*q<=b.2.1*p:=by omega
  have h2:b.2.1*r<=c.2.1*q:=by omega
  have e:(a.2.1*q)*r<=(b.2.1*p)*r:=Int.mul_le_mul_of_nonneg_right h1 (by omega)
  have f:(b.2.1*r)*p<=(c.2.1*q)*p:=Int.mul_le_mul_of_nonneg_right h2 (by omega)
  have e3:(b.2.1*p)*r=(b.2.1*r)*p:=by rw [Int.mul_assoc,Int.mul_comm p r,<-Int.mul_assoc]
  have e4:(a.2.1*r)*q<=(c.2.1*p)*q:=by
   have:(a.2.1*r)*q=(a.2.1*q)*r:=by rw [Int.mul_assoc,Int.mul_comm r q,<-Int.mul_assoc]
   have:(c.2.1*p)*q=(c.2.1*q)*p:=by rw [Int.mul_assoc,Int.mul_comm p q,<-Int.mul_assoc]
   omega
  have:=Int.le_of_mul_le_mul_right e4 d
  omega
theorem Wt:Cmp stc:=by
 refine ⟨fun a b=> ?_,fun a b c=> ?_⟩
 ·unfold stc;cases a.2.2<;>cases b.2.2<;>decide
 ·unfold stc;cases a.2.2<;>cases b.2.2<;>cases c.2.2<;>decide
theorem df:Cmp cf:=cR.lex (Ws.lex Wt)
def j2 (a:Atm):Prop:=gL 0 a.1≠0/\gL a.2.1.natAbs a.1<=1
theorem zf {a:Atm}:a.1=(iw a).map fun x=>x*(gS a:Int):=by
 unfold iw
 rw [List.map_map]
 conv=>lhs;rw [<-List.map_id a.1]
 apply List.map_congr_left
 intro x d
 have hd:((gS a:Nat):Int) ∣ x:=by
  have h:=(j1 a.1 0).2 x d
  have c:gS a ∣ x.natAbs:=by
   unfold gS
   by_cases b:gL 0 a.1=0
   ·rw [b];exact Nat.one_dvd _
   ·rw [Nat.max_eq_right (by omega)];exact h
  exact Int.ofNat_dvd_left.2 c
 exact (Int.tdiv_mul_cancel hd).symm
theorem KK {a b:Atm} (k:j2 a) (l:j2 b) (h:cf a b=0):a=b:=by
 unfold cf at h
 split at h
 ·rename_i h1
  split at h
  ·rename_i h2
   have hd:=ze h1
   have hs:a.2.2=b.2.2:=by
        unfold stc at h
        split at h
        ·assumption
        ·split at h<;>omega
   have e:a.2.1*gS b=b.2.1*gS a:=by
        unfold eC sgI at h2
        split at h2
        ·omega
        ·split at h2<;>omega
   have d: ∀x:Atm,j2 x->Nat.gcd (gS x) x.2.1.natAbs=1:=fun x c=>by
        have f:gL x.2.1.natAbs x.1=Nat.gcd (gL 0 x.1) x.2.1.natAbs:=by rw [<-nW,Nat.gcd_zero_left]
        have i:gS x=gL 0 x.1:=Nat.max_eq_right (by have:=c.1;omega)
        rw [i,<-f]
        have h1:=c.2
        have h2:gL x.2.1.natAbs x.1≠0:=by
         rw [f];intro j
         exact c.1 (Nat.eq_zero_of_gcd_eq_zero_left j)
        omega
   have e':a.2.1.natAbs*gS b=b.2.1.natAbs*gS a:=by
        have:=congrArg Int.natAbs e
        simpa [Int.natAbs_mul] using this
   have d1:gS a ∣ gS b:=by
        have:gS a ∣ a.2.1.natAbs*gS b:=⟨b.2.1.natAbs,by rw [e',Nat.mul_comm]⟩
        exact (Nat.Coprime.dvd_of_dvd_mul_left (d a k) this)
   have d2:gS b ∣ gS a:=by
        have:gS b ∣ b.2.1.natAbs*gS a:=⟨a.2.1.natAbs,by rw [<-e',Nat.mul_comm]⟩
        exact (Nat.Coprime.dvd_of_dvd_mul_left (d b l) this)
   have g:gS a=gS b:=Nat.dvd_antisymm d1 d2
   have m:a.2.1=b.2.1:=by
        rw [g]at e
        exact Int.eq_of_mul_eq_mul_right (by have:=eh b;omega) e
   have h1:a.1=b.1:=by rw [zf (a:=a),zf (a:=b),g,hd]
   exact Prod.ext h1 (Prod.ext m hs)
  ·rename_i h2;exact absurd h h2
 ·rename_i h1;exact absurd h h1
structure NormOf (xs l:List Atm):Prop where
 ord:l.Pairwise fun a b=>way a b<0
 mem: ∀a∈l,a∈xs
 top: ∀a∈xs,∃b∈l,way a b=0/\cf a b<=0
theorem Wu {l:List Atm} (h:l.Pairwise fun a b=>way a b<0) {a b:Atm} (f:a∈l) (g:b∈l) (e:way a b=0):a=b:=by
 obtain ⟨i,c,rfl⟩:=List.mem_iff_getElem.1 f
 obtain ⟨j,d,rfl⟩:=List.mem_iff_getElem.1 g
 rw [List.pairwise_iff_getElem]at h
 rcases Nat.lt_trichotomy i j with h1 | h1 | h1
 ·have:=h i j c d h1;omega
 ·subst h1;rfl
 ·have:=h j i d c h1
  have:=cR.anti l[i] l[j]
  omega
theorem KL: ∀{l l':List Atm},l.Pairwise (fun a b=>way a b<0)->l'.Pairwise (fun a b=>way a b<0)->(∀a,a∈l↔a∈l')->l=l'
 | [],[],_,_,_=>rfl
 | [],b::k,_,_,h=>by have:=(h b).2 (by simp);simp at this
 | a::r,[],_,_,h=>by have:=(h a).1 (by simp);simp at this
 | a::r,b::k,h1,h2,h=>by
   obtain ⟨d,i⟩:=List.pairwise_cons.1 h1
   obtain ⟨g,j⟩:=List.pairwise_cons.1 h2
   have e:a=b:=by
    rcases List.mem_cons.1 ((h a).1 (by simp))with e | e
    ·exact e
    ·rcases List.mem_cons.1 ((h b).2 (by simp))with f | f
     ·exact f.symm
     ·have:=d b f
      have:=g a e
      have:=cR.anti a b
      omega
   subst e
   rw [KL i j fun x=> ?_]
   have:=h x
   constructor
   ·intro c
    rcases List.mem_cons.1 (this.1 (by simp [c]))with e | e
    ·subst e
     have:=d x c
     have:=cR.self x
     omega
    ·exact e
   ·intro c
    rcases List.mem_cons.1 (this.2 (by simp [c]))with e | e
    ·subst e
     have:=g x c
     have:=cR.self x
     omega
    ·exact e
theorem Wv {xs l l':List Atm} (g: ∀a∈xs,j2 a) (h:NormOf xs l) (h':NormOf xs l'):l=l':=by
 have half: ∀{l l':List Atm},NormOf xs l->NormOf xs l'-> ∀a∈l,a∈l':=fun {l l'} h h' a d=>by
  obtain ⟨b,f,j,c1⟩:=h'.top a (h.mem a d)
  obtain ⟨c,i,k,c2⟩:=h.top b (h'.mem b f)
  have:a=c:=Wu h.ord d i (cR.eq_tr j k)
  subst this
  have e:cf a b=0:=by have:=df.anti a b;omega
  rw [KK (g a (h.mem a d)) (g b (h'.mem b f)) e]
  exact f
 exact KL h.ord h'.ord fun a=>⟨half h h' a,half h' h a⟩
def cg:List Atm->Atm->List Atm
 | [],a=>[a]
 | b::r,a=>if way b a<0 then b::cg r a else if way b a=0 then (if cf a b<=0 then b::r else a::r)else a::b::r
def eD (xs:List Atm):List Atm:=xs.foldl cg []
theorem nX: ∀{l:List Atm} {a x:Atm},x∈cg l a->x=a∨x∈l
 | [],a,x,h=>by simp [cg]at h;exact .inl h
 | b::r,a,x,h=>by
   simp only [cg]at h
   split at h
   ·rcases List.mem_cons.1 h with e | e
    ·exact .inr (by simp [e])
    ·rcases nX e with e | e
     ·exact .inl e
     ·exact .inr (by simp [e])
   ·split at h
    ·split at h
     ·exact .inr h
     ·rcases List.mem_cons.1 h with e | e
      ·exact .inl e
      ·exact .inr (by simp [e])
    ·rcases List.mem_cons.1 h with e | e
     ·exact .inl e
     ·exact .inr e
theorem KM: ∀{l:List Atm} {a:Atm},l.Pairwise (fun a b=>way a b<0)->(cg l a).Pairwise (fun a b=>way a b<0)
 | [],a,_=>by simp [cg]
 | b::r,a,h=>by
   obtain ⟨d,e⟩:=List.pairwise_cons.1 h
   simp only [cg]
   split
   ·rename_i h1
    refine List.pairwise_cons.2 ⟨fun x c=> ?_,KM e⟩
    rcases nX c with rfl | c
    ·exact h1
    ·exact d x c
   ·split
    ·rename_i h1 h2
     split
     ·exact h
     ·refine List.pairwise_cons.2 ⟨fun x c=> ?_,e⟩
      have:=cR.anti a b
      exact cR.le_lt (by omega) (d x c)
    ·rename_i h1 h2
     have:=cR.anti a b
     refine List.pairwise_cons.2 ⟨fun x c=> ?_,h⟩
     rcases List.mem_cons.1 c with rfl | c
     ·omega
     ·exact cR.lt_le (by omega) (Int.le_of_lt (d x c))
theorem zg: ∀{l:List Atm} {a x:Atm},(x=a∨ ∃b∈l,way x b=0/\cf x b<=0)-> ∃b∈cg l a,way x b=0/\cf x b<=0
 | [],a,x,h=>by
   rcases h with rfl | ⟨b,j,_⟩
   ·exact ⟨x,by simp [cg],cR.self x,by rw [df.self];omega⟩
   ·simp at j
 | b::r,a,x,h=>by
   simp only [cg]
   split
   ·rename_i h1
    rcases h with rfl | ⟨c,d,h2⟩
    ·obtain ⟨c,d,h2⟩:=zg (l:=r) (a:=x) (x:=x) (.inl rfl)
     exact ⟨c,by simp [d],h2⟩
    ·rcases List.mem_cons.1 d with rfl | d
     ·exact ⟨c,by simp,h2⟩
     ·obtain ⟨i,e,f⟩:=zg (l:=r) (a:=a) (x:=x) (.inr ⟨c,d,h2⟩)
      exact ⟨i,by simp [e],f⟩
   ·split
    ·rename_i h1 h2
     have k:=cR.anti a b
     split
     ·rename_i f
      rcases h with rfl | h
      ·exact ⟨b,by simp,by omega,f⟩
      ·exact h
     ·rename_i f
      have d:=df.anti a b
      rcases h with rfl | ⟨c,e,g⟩
      ·exact ⟨x,by simp,cR.self x,by rw [df.self];omega⟩
      ·rcases List.mem_cons.1 e with rfl | e
       ·exact ⟨a,by simp,cR.eq_tr g.1 h2,df.tr x c a g.2 (by omega)⟩
       ·exact ⟨c,by simp [e],g⟩
    ·rcases h with rfl | ⟨c,d,h2⟩
     ·exact ⟨x,by simp,cR.self x,by rw [df.self];omega⟩
     ·exact ⟨c,by simp only [List.mem_cons]at d ⊢;exact .inr d,h2⟩
theorem KN: ∀(xs ys l:List Atm),NormOf ys l->NormOf (ys++xs) (xs.foldl cg l)
 | [],ys,l,h=>by simpa using h
 | a::xs,ys,l,h=>by
   have:NormOf (ys++[a]) (cg l a):=⟨KM h.ord,fun x b=>by
    rcases nX b with rfl | b
    ·simp
    ·simp [h.mem x b],fun x b=>by
    refine zg ?_
    rcases List.mem_append.1 b with b | b
    ·exact .inr (h.top x b)
    ·exact .inl (by simpa using b)⟩
   have:=KN xs (ys++[a]) (cg l a) this
   simpa using this
theorem zh (xs:List Atm):NormOf xs (eD xs):=by simpa [eD] using KN xs [] [] ⟨List.Pairwise.nil,fun a h=>by simp at h,fun a h=>by simp at h⟩
def j3 (xs:List Atm):List Atm:=xs.mergeSort fun a b=>decide (cf a b<=0)
theorem sa (xs:List Atm):(j3 xs).Perm xs:=List.mergeSort_perm _ _
theorem KO (xs:List Atm):(j3 xs).Pairwise fun a b=>cf a b<=0:=by
 have:=List.pairwise_mergeSort (le:=fun a b=>decide (cf a b<=0)) (fun a b c h1 h2=>by
  simp only [decide_eq_true_eq]at*;exact df.tr a b c h1 h2) (fun a b=>by
  have:=df.anti a b
  simp only [Bool.or_eq_true,decide_eq_true_eq];omega) xs
 exact this.imp fun h=>by simpa using h
theorem Ww {xs ys:List Atm} (d: ∀a∈xs,j2 a) (c:ys.Perm xs) (g:ys.Pairwise fun a b=> ¬cf b a<0):ys=j3 xs:=by
 refine List.Perm.eq_of_pairwise (le:=fun a b=>cf a b<=0) (fun a b e f h1 h2=> ?_) (g.imp fun {a b} h=>by have:=df.anti a b;omega) (KO xs) (c.trans (sa xs).symm)
 have:=df.anti a b
 exact KK (d a (c.mem_iff.1 e)) (d b ((sa xs).mem_iff.1 f)) (by omega)
def gh (S:List Atm) (i:Nat):Bool:=decide (i+1<S.length)&&decide (way (S.getD i ([],0,false)) (S.getD (i+1) ([],0,false))=0)
def iy (S:List Atm):List Nat:=(List.range S.length).filter fun i=> !gh S i
theorem Wx (S:List Atm):(iy S).Nodup:=(List.nodup_range).filter _
theorem sb {S:List Atm} {i:Nat} (h:i∈iy S):i<S.length:=by
 have:=(List.mem_filter.1 h).1;simpa using this
theorem KP {a b:Atm} (h:cf a b<=0):way a b<=0:=by
 unfold cf at h;split at h<;>omega
theorem Wy {xs S:List Atm} (k:S.Perm xs) (p:S.Pairwise fun a b=>cf a b<=0):NormOf xs ((iy S).map fun i=>S.getD i ([],0,false)):=by
 have d: ∀{i:Nat} (h:i<S.length),S.getD i ([],0,false)=S[i]:=fun h=>by simp [List.getD,h]
 have q:=List.pairwise_iff_getElem.1 p
 have ge: ∀i j (h1:i<S.length) (h2:j<S.length),i<=j->cf S[i] S[j]<=0:=fun i j h1 h2 h=>by
  rcases Nat.lt_or_eq_of_le h with h | h
  ·exact q i j h1 h2 h
  ·subst h;rw [df.self];omega
 refine ⟨?_,fun a g=> ?_,fun a g=> ?_⟩
 ·rw [List.pairwise_map]
  have m:(iy S).Pairwise (· < ·):=(List.pairwise_lt_range).filter _
  refine m.imp_of_mem fun {i j} c f u=> ?_
  have h1:=sb c
  have h2:=sb f
  rw [d h1,d h2]
  have hk:=(List.mem_filter.1 c).2
  simp only [gh,Bool.not_eq_true',Bool.and_eq_false_iff,decide_eq_false_iff_not]at hk
  have e:i+1<S.length:=by omega
  have v:way S[i] S[i+1]≠0:=by
   rcases hk with hk | hk
   ·omega
   ·rwa [d h1,d e]at hk
  have w:=KP (ge i (i+1) h1 e (by omega))
  have s:=KP (ge (i+1) j e h2 (by omega))
  exact cR.lt_le (by omega) s
 ·obtain ⟨i,c,rfl⟩:=List.mem_map.1 g
  rw [d (sb c)]
  exact k.mem_iff.1 (List.getElem_mem _)
 ·obtain ⟨i,c,rfl⟩:=List.mem_iff_getElem.1 (k.mem_iff.2 g)
  have: ∀n i (c:i<S.length),S.length - i<=n-> ∃j,∃f:j<S.length,j∈iy S/\i<=j/\way S[i] S[j]=0:=fun n=>by
   induction n with
   | zero=>intro i c o;omega
   | succ n r=>
     intro i c o
     cases hk:gh S i with
     | false=>exact ⟨i,c,List.mem_filter.2 ⟨by simpa using c,by simp [hk]⟩,Nat.le_refl _,cR.self _⟩
     | true=>
       simp only [gh,Bool.and_eq_true,decide_eq_true_eq]at hk
       obtain ⟨h1,h2⟩:=hk
       rw [d c,d h1]at h2
       obtain ⟨j,f,e,t,l⟩:=r (i+1) h1 (by omega)
       exact ⟨j,f,e,by omega,cR.eq_tr h2 l⟩
  obtain ⟨j,f,h1,h2,e⟩:=this _ i c (Nat.le_refl _)
  exact ⟨S[j],List.mem_map.2 ⟨j,h1,d f⟩,e,ge i j c f h2⟩
theorem Wz {xs:List Atm} (b: ∀a∈xs,j2 a):((iy (j3 xs)).map fun i=>(j3 xs).getD i ([],0,false))=eD xs:=Wv b (Wy (sa xs) (KO xs)) (zh xs)
end Go.T
namespace Go.T
open Go
structure Gb where
 t:TI
 ps:List TI
 rs:List TI
 pre:Val t.ty->qb ps->Prop
 fv:Val t.ty->qb ps->Val t.ty
 fn:Val t.ty->qb ps->qb rs
structure SoundB (P:Program) (f:FuncId) (g:Gb):Prop where
 enters:ez P f
 runs: ∀(v:Val g.t.ty) (x:qb g.ps),g.pre v x-> ∀(w:World) (b:Nat) (arr:Array Value) (ty:TypeId) (B:List Nat) (ext:Nat->Prop) (us:List Value),
  w.heap[b]?=some (.cells arr ty (0,0))->M w g.t.ty v arr.toList B->B.Nodup->b∉B->VKs w ext g.ps x us->(∀k,w.heap.size<=k->ext k)->(∀k,ext k->k<w.heap.size->k≠b/\k∉B)->
  Calls P f (Value.pointer (some ⟨b,0,none⟩)::us).toArray w fun e w'=> ∃rv,e= .returned (fw rv)/\Fr (fun k=>k=b∨k∈B) w w'/\VKs w' (fun _=>True) g.rs (g.fn v x) rv/\
   ∃arr' ty' B',w'.heap[b]?=some (.cells arr' ty' (0,0))/\M w' g.t.ty (g.fv v x) arr'.toList B'/\B'.Nodup/\b∉B'/\ ∀k∈B',k∈B∨w.heap.size<=k
def WA (t:TI) (ps:List TI) (ntmps:Nat) (v:Val t.ty) (x:qb ps):St:={env:= .one (.ptr 0 0 0)::((fx 0 ps x).map LV1.lv++List.replicate (ntmps - (ps.length+1)) (.tup [])),heap:= .box (q9 1 t.ty v).1::(q9 1 t.ty v).2}
def WB (tt:TT) (t:TI) (rs:List TI) (a:List ResultVar) (st:St):Option (Val t.ty×qb rs):=match eX tt st a with
 | some ls=>match cQ st.heap rs ls,st.heap[0]? with
   | some y,some (Blk.box cs)=>match qL st.heap t.ty cs with
     | some (v,[])=>bif bR st.heap cs&&dc (qG cs)then some (v,y)else none
     | _=>none
   | _,_=>none
 | none=>none
section
variable {P : Program} {tt : TT} {Γ : Gam} {w0 w w' : World} {mine : Mine} {m m' : Mp} {h : List Blk} {st : St} {a : Act}
end
end Go.T
namespace Go.T
open Go
def zi (h:List Blk) (L:Nat) (ids:List Nat):LC->Bool
 | .sl _ _ _ n=>decide (n<=L)
 | .tptr .. =>false
 | .ptr .. =>false
 | .own id=> !ids.contains id&&match h[id]? with
   | some (Blk.row _ _ _ true _ _)=>true
   | some (Blk.row _ _ _ false _ n)=>decide (n<=L)
   | _=>false
 | _=>true
def zj:List TI->Bool
 | []=>true
 | ti::r=>ti.ty.flat&&zj r
def KQ (st:St) (id:Nat) (ids:List Nat) (L:Nat) (cs:List LC) (bl:List Blk) (d:Option Tmp) (l:LV):St:=
 St.put ⟨st.env.map (LV.clamp L),(kill (st.heap.map (Blk.clamp L)) ids).set id (.box cs)++bl⟩ d l
def KR (g:Gb) (ls:List LV) (d:Option Tmp) (st:St):Res:=match ls with
 | .one (.ptr id 0 0)::args=>match st.heap[id]? with
   | some (Blk.box cs)=>if bR st.heap cs=true/\dc (qG cs)=true/\(args.all fun l=>l.cells.all (zi st.heap (los st.heap st.heap.length (qG cs)) (qG cs)))=true/\zj g.rs=true then
        match qL st.heap g.t.ty cs,cQ st.heap g.ps args with
        | some (v,[]),some x=>some (g.pre v x,KQ st id (qG cs) (los st.heap st.heap.length (qG cs)) (q9 st.heap.length g.t.ty (g.fv v x)).1 (q9 st.heap.length g.t.ty (g.fv v x)).2 d (gW (fx 0 g.rs (g.fn v x))))
        | _,_=>none
     else none
   | _=>none
 | _=>none
section
variable {P : Program} {w0 w w' : World} {mine : Mine} {m m' : Mp} {h : List Blk} {st : St} {a : Act} {o : Oper} {next : Act -> World -> Prop} {Q : Exit -> Act -> World -> Prop}
end
end Go.T
namespace Go.T
open Go
def KS (w:World) (ext:Nat->Prop):(a:List TI)->qb a->List Value->Prop
 | [],_,us=>us=[]
 | ti::r,x,us=> ∃b arr ty rest,us= .pointer (some ⟨b,0,none⟩)::rest/\w.heap[b]?=some (.cells arr ty (0,0))/\ext b/\K w ext ti.ty x.1 arr.toList/\KS w ext r x.2 rest
structure Gc (ps qs:List TI) where
 cs:List TI
 pre:qb cs->qb ps->Prop
 fn:qb cs->qb ps->qb qs
structure SoundC (P:Program) (f:FuncId) {ps qs:List TI} (g:Gc ps qs):Prop where
 enters:ez P f
 runs: ∀(c:qb g.cs) (x:qb ps),g.pre c x-> ∀(w:World) (ext:Nat->Prop) (us caps:List Value),VKs w ext ps x us->KS w ext g.cs c caps->(∀b,w.heap.size<=b->ext b)->
  Calls P f (us++caps).toArray w fun e w'=> ∃rv,e= .returned (fw rv)/\Fr (fun _=>False) w w'/\VKs w' ext qs (g.fn c x) rv
def zk:(a:List TI)->qb a->List LV
 | [],_=>[]
 | ti::r,x=> .one (.tptr ti.ty x.1 0 0)::zk r x.2
def WC (ps cs:List TI) (ntmps:Nat) (c:qb cs) (x:qb ps):St:={env:=(fx 0 ps x).map LV1.lv++(zk cs c++List.replicate (ntmps - (ps.length+cs.length)) (.tup [])),heap:=[]}
def WD (P:Program) (w:World) (ext:Nat->Prop) (fv:Value) (ps qs:List TI) (pre:qb ps->Prop) (fn:qb ps->qb qs):Prop:=
 ∃(f:FuncId) (caps:List Value),fv= .func (.func f) #[] caps.toArray/\ez P f/\ ∀(w':World) (ext':Nat->Prop) (x:qb ps) (us:List Value),Fr (fun _=>False) w w'->(∀b,b<w.heap.size->ext b->ext' b)->(∀b,w'.heap.size<=b->ext' b)->pre x->VKs w' ext' ps x us->
  Calls P f (us++caps).toArray w' fun e a=> ∃rv,e= .returned (fw rv)/\Fr (fun _=>False) w' a/\VKs a ext' qs (fn x) rv
structure Gh where
 r:TI
 ps:List TI
 qs:List TI
 rs:List TI
 pre:(qb ps->Prop)->(qb ps->qb qs)->Val r.ty->Prop
 fn:(qb ps->qb qs)->Val r.ty->qb rs
structure SoundH (P:Program) (f:FuncId) (g:Gh):Prop where
 enters:ez P f
 runs: ∀(pre:qb g.ps->Prop) (fn:qb g.ps->qb g.qs) (x:Val g.r.ty),g.pre pre fn x-> ∀(w:World) (ext:Nat->Prop) (u fv:Value) (cs:List Value),K w ext g.r.ty x cs->cb g.r.agg cs u->WD P w ext fv g.ps g.qs pre fn->(∀b,w.heap.size<=b->ext b)->
  Calls P f #[u,fv] w fun e w'=> ∃us,e= .returned (fw us)/\Fr (fun _=>False) w w'/\ ∃B,VMs w' g.rs (g.fn fn x) us B/\B.Nodup/\ ∀b∈B,w.heap.size<=b
def KT:LC->Bool
 | .sl _ _ _ n=>n==0
 | .own _=>false
 | _=>true
def KU (fv:Value) (ps qs:List TI) (pre:qb ps->Prop) (fn:qb ps->qb qs) (y:LV) (args:List LV) (d:Option Tmp) (st:St):Res:=match y with
 | .one (.hdr u)=>if (args.all fun l=>l.cells.all KT)=true then match cQ st.heap ps args with
    | some x=>some (u=fv/\pre x,st.put d (gW (fx 0 qs (fn x))))
    | none=>none
   else none
 | _=>none
def WE (fv:Value) (ps qs:List TI) (pre:qb ps->Prop) (fn:qb ps->qb qs) (S:Sem):Sem:=fun o st=>match o.op with
 | .call c=>match c.callee with
   | .value (.tmp t)=>KU fv ps qs pre fn (st.ev (.tmp t)) (c.args.toList.map st.ev) o.dst st
   | _=>S o st
 | _=>S o st
def zl (h:List Blk):List LV->Option (List Nat)
 | []=>some []
 | .one (.ptr id 0 0)::r=>match h[id]? with
   | some (.box _)=>match zl h r with
     | some ids=>some (id::ids)
     | none=>none
   | _=>none
 | _=>none
def KV (f:Nat) (a:List LV) (d:Option Tmp) (st:St):Res:=match zl st.heap a with
 | some ids=>some (True,st.put d (.one (.clo f ids)))
 | none=>none
def zm (h:List Blk):(a:List TI)->List Nat->Option (qb a)
 | [],[]=>some ()
 | ti::r,id::ids=>match h[id]? with
   | some (Blk.box cs)=>match qL h ti.ty cs with
     | some (v,[])=>match zm h r ids with
       | some vs=>some (v,vs)
       | none=>none
     | _=>none
   | _=>none
 | _,_=>none
abbrev Cls (ps qs:List TI):=List (Nat×Gc ps qs)
def Cls.get {ps qs:List TI}:Cls ps qs->Nat->Option (Gc ps qs)
 | [],_=>none
 | (f,g)::r,a=>if f=a then some g else Cls.get r a
def KW:LV->Option (Nat×List Nat)
 | .one (.fn f)=>some (f,[])
 | .one (.clo f ids)=>some (f,ids)
 | _=>none
def KX (g:Gh) (cl:Cls g.ps g.qs) (args:List LV) (d:Option Tmp) (st:St):Res:=match args with
 | [x,y]=>match KW y with
   | some (f,ids)=>match Cls.get cl f with
     | some gc=>if x.isAgg=some g.r.agg then match qL st.heap g.r.ty x.cells,zm st.heap gc.cs ids with
       | some (v,[]),some a=>some (g.pre (gc.pre a) (gc.fn a) v,st.res d (gW (eA st.heap.length g.rs (g.fn (gc.fn a) v)).1) (st.heap++(eA st.heap.length g.rs (g.fn (gc.fn a) v)).2.map (Blk.up st.heap.length)))
       | _,_=>none
       else none
     | none=>none
   | none=>none
 | _=>none
abbrev Bxs:=List (Nat×Gb)
abbrev Hns:=List (Nat×(g:Gh)×Cls g.ps g.qs)
def Bxs.get:Bxs->Nat->Option Gb
 | [],_=>none
 | (f,g)::r,a=>if f=a then some g else Bxs.get r a
def Hns.get:Hns->Nat->Option ((g:Gh)×Cls g.ps g.qs)
 | [],_=>none
 | (f,g)::r,a=>if f=a then some g else Hns.get r a
def WG (a:Bxs) (d:Hns):Sem:=fun o st=>match o.op with
 | .call c=>match c.callee with
   | .value (.func f)=>match Bxs.get a f with
     | some g=>KR g (c.args.toList.map st.ev) o.dst st
     | none=>match Hns.get d f with
       | some gc=>KX gc.1 gc.2 (c.args.toList.map st.ev) o.dst st
       | none=>none
   | _=>none
 | .makeFunc (.func f) first b=>match first.toList with
   | []=>KV f (b.toList.map st.ev) o.dst st
   | _=>none
 | _=>none
section
variable {P : Program} {tt : TT} {Γ : Gam} {w0 w w' : World} {mine : Mine} {m m' : Mp} {h : List Blk} {st : St} {a : Act} {o : Oper} {next : Act -> World -> Prop} {Q : Exit -> Act -> World -> Prop}
def WH (r:TI) (ntmps:Nat) (x:Val r.ty) (fv:Value):St:={env:=LV1.lv ⟨r.agg,eu 0 r.ty x⟩:: .one (.hdr fv)::List.replicate (ntmps - 2) (.tup []),heap:=[]}
end
end Go.T
namespace Go.T
open Go
section
variable {P : Program} {tt : TT} {Γ : Gam} {w0 w w' : World} {mine : Mine} {m m' : Mp} {h : List Blk} {st : St} {a : Act} {o : Oper} {next : Act -> World -> Prop} {Q : Exit -> Act -> World -> Prop}
end
structure HN (ps qs:List TI) where
 n:Nat
 fv:Value
 pre:qb ps->Prop
 fn:qb ps->qb qs
instance {ps qs:List TI}:CoeOut (HN ps qs) Nat:=⟨HN.n⟩
attribute [simp] zi zj KQ KR KT KU WE zl KV zm Cls.get KW KX Bxs.get Hns.get WG zk WC WH WA WB
end Go.T
namespace Go.T
open Go
structure Gw where
 j:Nat:=0
 t:TI
 ps:List TI
 rs:List TI
 pre:Val t.ty->qb ps->Prop
 fn:Val t.ty->qb ps->qb rs
def insJ {α:Type} (j:Nat) (a:α) (xs:List α):List α:=xs.take j++a::xs.drop j
def KY {α:Type} (j:Nat) (xs:List α):Option (α×List α):=match xs.drop j with
 | a::r=>some (a,xs.take j++r)
 | []=>none
theorem F2.insJ {α β:Type} {R:α->β->Prop} (j:Nat) {a:α} {b:β} {a_s:List α} {bs:List β} (c:R a b) (h:F2 R a_s bs):F2 R (insJ j a a_s) (insJ j b bs):=(h.take j).append (.cons c (h.drop j))
structure SoundW (P:Program) (f:FuncId) (g:Gw):Prop where
 enters:ez P f
 runs: ∀(v:Val g.t.ty) (x:qb g.ps),g.pre v x-> ∀(w:World) (u:Value) (cs:List Value) (B:List Nat) (ext:Nat->Prop) (us:List Value),
  cb g.t.agg cs u->M w g.t.ty v cs B->B.Nodup->VKs w ext g.ps x us->(∀k,w.heap.size<=k->ext k)->(∀k,ext k->k<w.heap.size->k∉B)->
  Calls P f (insJ g.j u us).toArray w fun e w'=> ∃rv B',e= .returned (fw rv)/\Fr (fun k=>k∈B) w w'/\VMs w' g.rs (g.fn v x) rv B'/\B'.Nodup/\ ∀k∈B',k∈B∨w.heap.size<=k
def WI (j:Nat) (t:TI) (ps:List TI) (ntmps:Nat) (v:Val t.ty) (x:qb ps):St:={env:=insJ j (LV1.lv ⟨t.agg,(q9 0 t.ty v).1⟩) ((fx 0 ps x).map LV1.lv)++List.replicate (ntmps - (ps.length+1)) (.tup []),heap:=(q9 0 t.ty v).2}
def KZ (g:Gw) (ls:List LV) (d:Option Tmp) (st:St):Res:=match KY g.j ls with
 | some (l,args)=>if l.isAgg=some g.t.agg/\bR st.heap l.cells=true/\dc (qG l.cells)=true/\(args.all fun l'=>l'.cells.all (zi st.heap (los st.heap st.heap.length (qG l.cells)) (qG l.cells)))=true then
    match qL st.heap g.t.ty l.cells,cQ st.heap g.ps args with
    | some (v,[]),some x=>some (g.pre v x,St.put ⟨st.env.map (LV.clamp (los st.heap st.heap.length (qG l.cells))),kill (st.heap.map (Blk.clamp (los st.heap st.heap.length (qG l.cells)))) (qG l.cells)++(eA st.heap.length g.rs (g.fn v x)).2⟩ d (gW (eA st.heap.length g.rs (g.fn v x)).1))
    | _,_=>none
   else none
 | none=>none
abbrev Gws:=List (Nat×Gw)
def Gws.get:Gws->Nat->Option Gw
 | [],_=>none
 | (f,g)::r,a=>if f=a then some g else Gws.get r a
def WJ (ws:Gws) (S:Sem):Sem:=fun o st=>match o.op with
 | .call c=>match c.callee with
   | .value (.func f)=>match Gws.get ws f with
     | some g=>KZ g (c.args.toList.map st.ev) o.dst st
     | none=>S o st
   | _=>S o st
 | _=>S o st
section
variable {P : Program} {tt : TT} {Γ : Gam} {w0 w w' : World} {mine : Mine} {m m' : Mp} {h : List Blk} {st : St} {a : Act} {o : Oper} {next : Act -> World -> Prop} {Q : Exit -> Act -> World -> Prop}
attribute [simp] Gws.get WJ KZ WI insJ KY
end
end Go.T
namespace Go.T
def q7:List Int->List Rat->Rat
 | x::xs,y::ys=>(x:Rat)*y+q7 xs ys
 | _,_=>0
def evA (a:Atm) (p:List Rat):Rat:=q7 a.1 p+(a.2.1:Rat)
def bQ (a:Atm) (p:List Rat):Prop:=evA a p<0∨(a.2.2=false/\evA a p=0)
def zn (l:List Atm) (p:List Rat):Prop:= ∀a∈l,bQ a p
theorem sc (g:Int): ∀(xs:List Int) (p:List Rat),q7 (xs.map fun x=>x*g) p=(g:Rat)*q7 xs p
 | [],p=>by simp [q7]
 | x::xs,[]=>by simp [q7]
 | x::xs,y::ys=>by
   simp only [List.map_cons,q7,sc g xs ys,Rat.intCast_mul]
   grind
theorem WK {a b:Atm} {g:Int} {p:List Rat} (h1:a.1=b.1.map fun x=>x*g) (h2:a.2.1=b.2.1*g):evA a p=(g:Rat)*evA b p:=by
 unfold evA
 rw [h1,h2,sc,Rat.intCast_mul]
 grind
theorem fa {g x:Rat} (a:0<g):(g*x<0↔x<0)/\(g*x=0↔x=0):=
 ⟨Rat.mul_neg_iff_of_pos_left a,by rw [Rat.mul_eq_zero];grind⟩
theorem WL {a b:Atm} {g:Int} {p:List Rat} (f:0<g) (h1:a.1=b.1.map fun x=>x*g) (h2:a.2.1=b.2.1*g) (e:a.2.2=b.2.2):bQ a p↔bQ b p:=by
 unfold bQ
 obtain ⟨c,d⟩:=fa (x:=evA b p) (Rat.intCast_pos.2 f)
 rw [WK h1 h2,e,c,d]
theorem K0 (a:Atm) (p:List Rat):evA a p=((gS a:Int):Rat)*q7 (iw a) p+(a.2.1:Rat):=by
 unfold evA
 rw [<-sc,<-zf]
theorem WM {x b:Atm} {p:List Rat} (hw:way x b=0) (a:cf x b<=0) (h:bQ b p):bQ x p:=by
 have hd:iw x=iw b:=ze hw
 have ex:=K0 x p
 have c:=K0 b p
 have f:(0:Rat)<((gS x:Int):Rat):=Rat.intCast_pos.2 (eh x)
 have d:(0:Rat)<((gS b:Int):Rat):=Rat.intCast_pos.2 (eh b)
 unfold cf at a
 rw [if_pos hw]at a
 rw [hd]at ex
 have key:((gS b:Int):Rat)*evA x p=((gS x:Int):Rat)*evA b p+((x.2.1*gS b - b.2.1*gS x:Int):Rat):=by
  rw [ex,c,Rat.intCast_sub,Rat.intCast_mul,Rat.intCast_mul]
  grind
 obtain ⟨l,m⟩:=fa (x:=evA x p) d
 obtain ⟨j,k⟩:=fa (x:=evA b p) f
 unfold bQ at h ⊢
 rw [<-l,<-m,key]
 rw [<-j,<-k]at h
 generalize hu:((gS x:Int):Rat)*evA b p=u at*
 have i:(x.2.1*gS b - b.2.1*gS x:Int)<=0:=by
  rcases Int.lt_trichotomy (x.2.1*gS b - b.2.1*gS x:Int) 0 with hs | hs | hs
  ·omega
  ·omega
  ·have:eC x b=1:=by unfold eC sgI;rw [if_neg (by omega),if_pos hs]
   rw [this]at a
   simp at a
 have n:((x.2.1*gS b - b.2.1*gS x:Int):Rat)<=0:=Rat.intCast_nonpos.2 i
 by_cases hs:(x.2.1*gS b - b.2.1*gS x:Int)=0
 ·have g:eC x b=0:=by unfold eC sgI;simp [hs]
  rw [if_pos g]at a
  rw [hs]
  unfold stc at a
  rcases h with h | ⟨h1,h2⟩
  ·left;grind
  ·right
   refine ⟨?_,by grind⟩
   split at a
   ·rename_i e;rw [e];exact h1
   ·split at a
    ·simp at a
    ·rename_i e;simpa using e
 ·left
  have:((x.2.1*gS b - b.2.1*gS x:Int):Rat)<0:=Rat.intCast_neg_iff.2 (by omega)
  rcases h with h | ⟨_,h⟩<;>grind
theorem WN (xs:List Atm) (p:List Rat):zn (eD xs) p↔zn xs p:=
 ⟨fun h x a=>by
   obtain ⟨b,c,hw,d⟩:=(zh xs).top x a
   exact WM hw d (h b c),fun h x a=>h x ((zh xs).mem x a)⟩
theorem zo: ∀(ls:List (Rat×Bool)),ls=[]∨ ∃m∈ls,∀x∈ls,x.1<m.1∨(x.1=m.1/\(x.2=true->m.2=true))
 | []=> .inl rfl
 | y::ls=>by
   right
   rcases zo ls with rfl | ⟨m,hm,h⟩
   ·exact ⟨y,by simp,fun x a=>by simp at a;subst a;exact .inr ⟨rfl,id⟩⟩
   ·by_cases b:m.1<y.1∨(m.1=y.1/\y.2=true)
    ·refine ⟨y,by simp,fun x a=> ?_⟩
     rcases List.mem_cons.1 a with rfl | a
     ·exact .inr ⟨rfl,id⟩
     ·have:=h x a;grind
    ·refine ⟨m,by simp [hm],fun x a=> ?_⟩
     rcases List.mem_cons.1 a with rfl | a
     ·grind
     ·exact h x a
theorem WO (us:List (Rat×Bool)):us=[]∨ ∃m∈us,∀x∈us,m.1<x.1∨(x.1=m.1/\(x.2=true->m.2=true)):=by
 rcases zo (us.map fun u=>(-u.1,u.2))with h | ⟨m,hm,h⟩
 ·left;simpa using h
 ·right
  obtain ⟨u,hu,rfl⟩:=List.mem_map.1 hm
  refine ⟨u,hu,fun x a=> ?_⟩
  have:=h (-x.1,x.2) (List.mem_map.2 ⟨x,a,rfl⟩)
  grind
theorem WQ (ls us:List (Rat×Bool)) (h: ∀x∈ls,∀y∈us,x.1<y.1∨(x.2=false/\y.2=false/\x.1=y.1)):
 ∃t:Rat,(∀x∈ls,x.1<t∨(x.2=false/\x.1=t))/\ ∀y∈us,t<y.1∨(y.2=false/\t=y.1):=by
 rcases zo ls with rfl | ⟨m,hm,h1⟩<;>rcases WO us with rfl | ⟨k,hk,h2⟩
 ·exact ⟨0,by simp,by simp⟩
 ·exact ⟨k.1 - 1,by simp,fun y b=>by have:=h2 y b;grind⟩
 ·exact ⟨m.1+1,fun x a=>by have:=h1 x a;grind,by simp⟩
 ·have c:=h m hm k hk
  refine ⟨(m.1+k.1) / 2,fun x a=> ?_,fun y b=> ?_⟩
  ·have:=h1 x a;grind
  ·have:=h2 y b;grind
theorem K1: ∀(xs:List Int) (p:List Rat) (v:Nat) (t:Rat),v<p.length->xs.length=p.length->q7 xs (p.set v t)=q7 xs p+(xs.getD v 0:Rat)*(t - p.getD v 0)
 | [],[],v,t,h,_=>by simp at h
 | [],y::ys,v,t,_,h=>by simp at h
 | x::xs,[],v,t,_,h=>by simp at h
 | x::xs,y::ys,0,t,_,_=>by simp [q7];grind
 | x::xs,y::ys,v+1,t,h,a=>by
   simp only [List.set_cons_succ,q7,List.getD_cons_succ]
   rw [K1 xs ys v t (by simpa using h) (by simpa using a)]
   grind
theorem K2 {a:Atm} {p:List Rat} {v:Nat} {t:Rat} (c:v<p.length) (b:a.1.length=p.length):evA a (p.set v t)=evA a p+(a.1.getD v 0:Rat)*(t - p.getD v 0):=by
 unfold evA
 rw [K1 _ _ _ _ c b]
 grind
theorem WR {e c t q:Rat} (f:0<c):(e+c*(t - q)<0↔t<q - e / c)/\(e+c*(t - q)=0↔t=q - e / c):=by
 have h1:c≠0:=by grind
 have h2:e / c*c=e:=Rat.div_mul_cancel h1
 generalize e / c=z at*
 subst h2
 have d:z*c+c*(t - q)=c*(t - (q - z)):=by grind
 rw [d]
 obtain ⟨a,b⟩:=fa (x:=t - (q - z)) f
 rw [a,b]
 constructor<;>grind
theorem WS {e c t q:Rat} (f:c<0):(e+c*(t - q)<0↔q - e / c<t)/\(e+c*(t - q)=0↔q - e / c=t):=by
 have h1:c≠0:=by grind
 have h2:e / c*c=e:=Rat.div_mul_cancel h1
 generalize e / c=z at*
 subst h2
 have d:z*c+c*(t - q)=(-c)*((q - z) - t):=by grind
 rw [d]
 obtain ⟨a,b⟩:=fa (g:= -c) (x:=(q - z) - t) (by grind)
 rw [a,b]
 constructor<;>grind
theorem WT {A B a b q:Rat} {f g:Bool} (m:0<a) (s:b<0) (h: -b*A+a*B<0∨(f=false/\g=false/\ -b*A+a*B=0)):q - B / b<q - A / a∨(g=false/\f=false/\q - B / b=q - A / a):=by
 have o:a≠0:=by grind
 have p:b≠0:=by grind
 have k:A / a*a=A:=Rat.div_mul_cancel o
 have l:B / b*b=B:=Rat.div_mul_cancel p
 generalize A / a=c at*
 generalize B / b=d at*
 subst k l
 have e: -b*(c*a)+a*(d*b)=(-b*a)*(c - d):=by grind
 rw [e]at h
 have n:0< -b*a:=Rat.mul_pos (by grind) m
 obtain ⟨i,j⟩:=fa (x:=c - d) n
 rw [i,j]at h
 rcases h with h | ⟨h1,h2,r⟩
 ·left;grind
 ·right;exact ⟨h2,h1,by grind⟩
theorem elim {l:List Atm} {v:Nat} {p:List Rat} (m:v<p.length) (k: ∀a∈l,a.1.length=p.length) (o: ∀a∈l,a.1.getD v 0=0->bQ a p)
 (hm: ∀a∈l,∀b∈l,0<a.1.getD v 0->b.1.getD v 0<0->((-(b.1.getD v 0:Int):Int):Rat)*evA a p+((a.1.getD v 0:Int):Rat)*evA b p<0∨(a.2.2=false/\b.2.2=false/\((-(b.1.getD v 0:Int):Int):Rat)*evA a p+((a.1.getD v 0:Int):Rat)*evA b p=0)): ∃t,zn l (p.set v t):=by
 obtain ⟨t,h1,h2⟩:=WQ ((l.filter fun a=>decide (a.1.getD v 0<0)).map fun a=>(p.getD v 0 - evA a p / ((a.1.getD v 0:Int):Rat),a.2.2)) ((l.filter fun a=>decide (0<a.1.getD v 0)).map fun a=>(p.getD v 0 - evA a p / ((a.1.getD v 0:Int):Rat),a.2.2)) fun x f y n=>by
  obtain ⟨b,g,rfl⟩:=List.mem_map.1 f
  obtain ⟨a,c,rfl⟩:=List.mem_map.1 n
  simp only [List.mem_filter,decide_eq_true_eq]at c g
  have j:=hm a c.1 b g.1 c.2 g.2
  rw [Rat.intCast_neg]at j
  exact WT (Rat.intCast_pos.2 c.2) (Rat.intCast_neg_iff.2 g.2) j
 refine ⟨t,fun a c=> ?_⟩
 unfold bQ
 rw [K2 m (k a c)]
 rcases Int.lt_trichotomy (a.1.getD v 0) 0 with d | d | d
 ·have f:=h1 (p.getD v 0 - evA a p / ((a.1.getD v 0:Int):Rat),a.2.2) (List.mem_map.2 ⟨a,by simp only [List.mem_filter,decide_eq_true_eq];exact ⟨c,d⟩,rfl⟩)
  obtain ⟨h,i⟩:=WS (e:=evA a p) (t:=t) (q:=p.getD v 0) (Rat.intCast_neg_iff.2 d)
  rw [h,i]
  exact f
 ·have:=o a c d
  rw [d]
  unfold bQ at this
  have e:evA a p+((0:Int):Rat)*(t - p.getD v 0)=evA a p:=by grind
  rw [e];exact this
 ·have f:=h2 (p.getD v 0 - evA a p / ((a.1.getD v 0:Int):Rat),a.2.2) (List.mem_map.2 ⟨a,by simp only [List.mem_filter,decide_eq_true_eq];exact ⟨c,d⟩,rfl⟩)
  obtain ⟨h,i⟩:=WR (e:=evA a p) (t:=t) (q:=p.getD v 0) (Rat.intCast_pos.2 d)
  rw [h,i]
  exact f
end Go.T
