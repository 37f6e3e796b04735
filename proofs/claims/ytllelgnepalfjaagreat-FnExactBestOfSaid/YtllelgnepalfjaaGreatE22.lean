import Derived.Test.YtllelgnepalfjaaGreatE38
import Derived.Test.YtllelgnepalfjaaGreatE20
import Derived.Test.YtllelgnepalfjaaGreatB10n
import Derived.Test.YtllelgnepalfjaaGreatT13
import Derived.Test.YtllelgnepalfjaaGreatB8
set_option linter.unusedSimpArgs false
set_option linter.unusedVariables false
namespace Go.T
noncomputable section
open Go Go.Proofs
set_option maxHeartbeats 4000000
set_option maxRecDepth 100000
def cp (a b:(Zh)):(Zh):=bif qh a&&qh b then qT ((a.1:Int)*b.1) ((a.2:Int)*b.2)else noR
def bG (b:(Zk)):(Zh):=bif b.1 then (bif b.2.2.2.1 then cp (bF b.2.1 b.2.2.2.2.1) ((1:Int),(2:Int))else bF b.2.1 ((1:Int),(1:Int)))else bif b.2.2.2.1 then bF b.2.2.2.2.1 ((-1:Int),(1:Int))else ((0:Int),(1:Int))
def eo:Nat->Zg->(Zf)->Option (Zf)
 | _,[],a=>some a
 | i,r::p,a=>bif (bL a i r).2 then eo (i+1) p (bL a i r).1 else none
def cW (p:Zg):Ze->Option (Ze)
 | []=>some []
 | a::l=>match eo 0 p a with
   | some b=>(match cW p l with
     | some l'=>some (b::l')
     | none=>none)
   | none=>none
def dQ:Zi->Nat->Zg->Option (Zg)
 | [],_,p=>some p
 | c::cs,v,p=>match cW p c.2 with
   | some l=>bif qh (bG (qO (c.1,l) v))then dQ cs (v+1) (p++[bG (qO (c.1,l) v)])else none
   | none=>none
def o0 (L:Zi):Zg×Int:=bif decide ((0:Int)<(List.length (α:=(Zf)) (L.getD 0 ((0:Int),[])).2:Int))then ([],1)else match dQ (L.drop 1) 0 []with
 | some p=>(p,0)
 | none=>([],2)
def q4 (c:(Zj)):Zg×Int:=bif qI c then (match cV (c.1:Int).toNat (qS c.1 c.2)with
 | some L=>o0 L
 | none=>([],2))else ([],2)
theorem vv:qh noR=false:=by decide
theorem OL {n d:Int} (h:qh (qT n d)=true):qH (qT n d)*((d:Int):Rat)=((n:Int):Rat):=by
 obtain ⟨c,b⟩:=fI h
 have a:=N0 h
 rw [<-Rat.intCast_inj,Rat.intCast_mul,Rat.intCast_mul,<-b]at a
 generalize qH (qT n d)=q at*
 generalize (((qT n d).2:Int):Rat)=u at*
 have:u*(q*((d:Int):Rat) - ((n:Int):Rat))=0:=by grind
 rcases Rat.mul_eq_zero.1 this with h | h<;>grind
theorem Di {a b:(Zh)} (h:qh (bF a b)=true):(qh a=true/\qh b=true)/\qH (bF a b)=qH a+qH b:=by
 unfold bF at*
 cases c:qh a with
 | false=>rw [c]at h;exact absurd (show qh noR=true from h) (by rw [vv];decide)
 | true=>
 cases d:qh b with
 | false=>rw [c,d]at h;exact absurd (show qh noR=true from h) (by rw [vv];decide)
 | true=>
   rw [c,d]at h
   simp only [Bool.and_self,cond_true]at h ⊢
   obtain ⟨f,a2⟩:=fI c
   obtain ⟨g,i⟩:=fI d
   have e:=OL h
   refine ⟨⟨trivial,trivial⟩,?_⟩
   rw [Rat.intCast_add,Rat.intCast_mul,Rat.intCast_mul,Rat.intCast_mul,<-a2,<-i]at e
   generalize qH (qT ((a.1:Int)*b.2+(b.1:Int)*a.2) ((a.2:Int)*b.2))=q at*
   generalize ((a.2:Int):Rat)=x at*
   generalize ((b.2:Int):Rat)=y at*
   have j:=Rat.mul_pos f g
   have:(x*y)*(q - (qH a+qH b))=0:=by grind
   rcases Rat.mul_eq_zero.1 this with h | h<;>grind
theorem qXk {a b:(Zh)} (h:qh (cp a b)=true):(qh a=true/\qh b=true)/\qH (cp a b)=qH a*qH b:=by
 unfold cp at*
 cases c:qh a with
 | false=>rw [c]at h;exact absurd (show qh noR=true from h) (by rw [vv];decide)
 | true=>
 cases d:qh b with
 | false=>rw [c,d]at h;exact absurd (show qh noR=true from h) (by rw [vv];decide)
 | true=>
   rw [c,d]at h
   simp only [Bool.and_self,cond_true]at h ⊢
   obtain ⟨f,a2⟩:=fI c
   obtain ⟨g,i⟩:=fI d
   have e:=OL h
   refine ⟨⟨trivial,trivial⟩,?_⟩
   rw [Rat.intCast_mul,Rat.intCast_mul,<-a2,<-i]at e
   generalize qH (qT ((a.1:Int)*b.1) ((a.2:Int)*b.2))=q at*
   generalize ((a.2:Int):Rat)=x at*
   generalize ((b.2:Int):Rat)=y at*
   have j:=Rat.mul_pos f g
   have:(x*y)*(q - (qH a*qH b))=0:=by grind
   rcases Rat.mul_eq_zero.1 this with h | h<;>grind
theorem q1n:qH ((1:Int),(1:Int))=1/\qH ((-1:Int),(1:Int))= -1/\qH ((1:Int),(2:Int))=1 / 2:=by unfold qH;refine ⟨?_,?_,rfl⟩<;>grind
theorem q0W {b:(Zk)} (h:qh (bG b)=true) (he: ∃t,inB b t):inB b (qH (bG b)):=by
 obtain ⟨t,h1,h2⟩:=he
 obtain ⟨d,l,lo,c,g,a,em⟩:=b
 change d=true->qH l<t∨(lo=false/\qH l=t)at h1
 change c=true->t<qH g∨(a=false/\t=qH g)at h2
 show (d=true->qH l<_∨(lo=false/\qH l=_))/\(c=true->_<qH g∨(a=false/\_=qH g))
 obtain ⟨f,i,j⟩:=q1n
 cases d with
 | true=>
   have h1:=h1 rfl
   cases c with
   | true=>
     have h2:=h2 rfl
     change qh (cp (bF l g) ((1:Int),(2:Int)))=true at h
     obtain ⟨⟨m1,_⟩,m2⟩:=qXk h
     obtain ⟨_,m3⟩:=Di m1
     have e:qH (bG (true,l,lo,true,g,a,em))=(qH l+qH g)*(1 / 2):=by
        show qH (cp (bF l g) ((1:Int),(2:Int)))=_
        rw [m2,m3,j]
     rw [e]
     refine ⟨fun _=> ?_,fun _=> ?_⟩<;>grind
   | false=>
     change qh (bF l ((1:Int),(1:Int)))=true at h
     obtain ⟨_,m3⟩:=Di h
     have e:qH (bG (true,l,lo,false,g,a,em))=qH l+1:=by
        show qH (bF l ((1:Int),(1:Int)))=_
        rw [m3,f]
     rw [e]
     refine ⟨fun _=> ?_,fun h=>by simp at h⟩
     left;grind
 | false=>
   cases c with
   | true=>
     change qh (bF g ((-1:Int),(1:Int)))=true at h
     obtain ⟨_,m3⟩:=Di h
     have e:qH (bG (false,l,lo,true,g,a,em))=qH g+ -1:=by
        show qH (bF g ((-1:Int),(1:Int)))=_
        rw [m3,i]
     rw [e]
     refine ⟨fun h=>by simp at h,fun _=> ?_⟩
     left;grind
   | false=>exact ⟨fun h=>by simp at h,fun h=>by simp at h⟩
theorem qYT {d v:Int} {a:(Zf)} {r:(Zh)} {P:List Rat} (f:okD d a) (o:(P.length:Int)=d) (h:(bL a v r).2=true) (i:P.getD v.toNat 0=qH r):bQ (atm (bL a v r).1) P↔bQ (atm a) P:=by
 unfold bL at*
 cases b:(qy a&&qh r&&decide (0<=v/\v<(List.length (α:=Int) a.1:Int)))with
 | false=>rw [b]at h;simp at h
 | true=>
   rw [b]at h
   simp only [cond_true]at h ⊢
   simp only [Bool.and_eq_true,decide_eq_true_eq]at b
   obtain ⟨⟨_,j⟩,p⟩:=b
   have n:(List.length (α:=Int) a.1:Int)=d:=f.2
   rw [NT h]
   obtain ⟨l,m⟩:=fI j
   have e:evA ((c7 a.1 v.toNat r.2,(a.2.1:Int)*r.2+(List.getD (α:=Int) a.1 v.toNat 0)*r.1,(a.2.2:Bool)):Atm) P=((r.2:Int):Rat)*evA (atm a) P:=by
    unfold evA c7
    simp only
    have k:v.toNat<(List.map (α:=Int) (fun x=>x*r.2) a.1).length:=by rw [List.length_map];omega
    rw [N6 _ P _ _ k (by omega),sc]
    have g:(List.map (α:=Int) (fun x=>x*r.2) a.1).getD v.toNat 0=(List.getD (α:=Int) a.1 v.toNat 0)*r.2:=by
        have:v.toNat<List.length (α:=Int) a.1:=by omega
        simp [List.getD,List.getElem?_eq_getElem this]
    rw [g,i,Rat.intCast_add,Rat.intCast_mul,Rat.intCast_mul,Rat.intCast_mul,<-m]
    have c:((0:Int):Rat)=0:=rfl
    rw [c]
    grind
   unfold bQ
   rw [e]
   obtain ⟨s1,s2⟩:=fa (x:=evA (atm a) P) l
   rw [s1,s2]
theorem OM {v w:Int} {a:(Zf)} {r:(Zh)} (h:(bL a v r).2=true) (hw:w=v∨cfV w a=0):cfV w (bL a v r).1=0:=by
 unfold bL at*
 cases b:(qy a&&qh r&&decide (0<=v/\v<(List.length (α:=Int) a.1:Int)))with
 | false=>rw [b]at h;simp at h
 | true=>
   simp only [cond_true]
   simp only [Bool.and_eq_true,decide_eq_true_eq]at b
   obtain ⟨_,f⟩:=b
   refine NY ?_
   unfold c7
   by_cases c:v.toNat=w.toNat
   ·rw [c,List.getD_eq_getElem?_getD]
    by_cases d:w.toNat<(List.map (α:=Int) (fun x=>x*r.2) a.1).length
    ·rw [List.getElem?_set_self d];rfl
    ·rw [List.getElem?_eq_none (by rw [List.length_set];omega)];rfl
   ·rw [List.getD_eq_getElem?_getD,List.getElem?_set_ne c]
    rcases hw with hw | hw
    ·omega
    ·unfold cfV at hw
     rw [List.getD_eq_getElem?_getD]at hw
     rw [List.getElem?_map]
     cases e:(a.1:List Int)[w.toNat]? with
     | none=>rfl
     | some x=>
       rw [e]at hw
       have hw:x=0:=hw
       subst hw
       simp
theorem ON {d:Int}: ∀(p:Zg) (i:Nat) {a b:(Zf)},okD d a->eo i p a=some b->okD d b/\(∀w,(cfV w a=0∨((i:Int)<=w/\w<i+p.length))->cfV w b=0)/\ ∀P:List Rat,(P.length:Int)=d->(∀j (f:j<p.length),P.getD (i+j) 0=qH p[j])->(bQ (atm b) P↔bQ (atm a) P)
 | [],i,a,b,e,h=>by
   simp only [eo,Option.some.injEq]at h
   subst h
   refine ⟨e,fun w hw=> ?_,fun _ _ _=>Iff.rfl⟩
   rcases hw with hw | hw
   ·exact hw
   ·simp at hw;omega
 | r::p,i,a,b,e,h=>by
   rw [eo]at h
   cases c:(bL a i r).2 with
   | false=>rw [c]at h;simp at h
   | true=>
     rw [c]at h
     simp only [cond_true]at h
     obtain ⟨g1,g2,g3⟩:=ON p (i+1) (OK e c) h
     refine ⟨g1,fun w hw=>g2 w ?_,fun P g f=> ?_⟩
     ·rcases hw with hw | hw
      ·exact .inl (OM c (.inr hw))
      ·by_cases k:w=i
       ·exact .inl (OM c (.inl k))
       ·right
        simp only [List.length_cons]at hw
        omega
     ·rw [g3 P g fun j l=>by
       have:=f (j+1) (by simp;omega)
       rw [show i+1+j=i+(j+1) by omega]
       simpa using this]
      refine qYT e g c ?_
      have:=f 0 (by simp)
      simpa using this
theorem Dj {d:Int} {p:Zg}: ∀(l:Ze) {l':Ze},(∀a∈l,okD d a)->cW p l=some l'->l'.length=l.length/\(∀a∈l',okD d a)/\(∀w,((∀a∈l,cfV w a=0)∨(0<=w/\w<p.length))-> ∀a∈l',cfV w a=0)/\ ∀P:List Rat,(P.length:Int)=d->(∀j (i:j<p.length),P.getD j 0=qH p[j])->((∀a∈l',bQ (atm a) P)↔ ∀a∈l,bQ (atm a) P)
 | [],l',_,h=>by
   simp only [cW,Option.some.injEq]at h
   subst h
   simp
 | a::l,l',hd,h=>by
   rw [cW]at h
   cases f:eo 0 p a with
   | none=>rw [f]at h;simp at h
   | some r=>
     cases g:cW p l with
     | none=>rw [f,g]at h;simp at h
     | some s=>
       rw [f,g]at h
       simp only [Option.some.injEq]at h
       subst h
       obtain ⟨f1,f2,f3⟩:=ON p 0 (hd a (by simp)) f
       obtain ⟨g1,g2,g3,g4⟩:=Dj l (fun b e=>hd b (by simp [e])) g
       refine ⟨by simp [g1],fun b e=> ?_,fun w hw b e=> ?_,fun P k i=> ?_⟩
       ·rcases List.mem_cons.1 e with rfl | e
        ·exact f1
        ·exact g2 b e
       ·rcases List.mem_cons.1 e with rfl | e
        ·refine f2 w ?_
         rcases hw with hw | hw
         ·exact .inl (hw a (by simp))
         ·exact .inr (by omega)
        ·refine g3 w ?_ b e
         rcases hw with hw | hw
         ·exact .inl fun c o=>hw c (by simp [o])
         ·exact .inr hw
       ·have m:=f3 P k fun j q=>by rw [Nat.zero_add];exact i j q
        have n:=g4 P k i
        simp only [List.mem_cons,forall_eq_or_imp]
        rw [m,n]
theorem Dk {d:Int}: ∀(k:Nat) {x:(Zj)} {L:Zi},okN d x->(k:Int)<=d->(∀w,(k:Int)<=w->w<d->en w x)->cV k x=some L->L.length=k+1/\(∀i (a:i<L.length),okN d L[i]/\ ∀w,(i:Int)<=w->w<d->en w L[i])/\(∀i (a:i+1<L.length),(qW L[i+1] i).2=true/\L[i]=(qW L[i+1] i).1)/\ ∀h:k<L.length,L[k]=x
 | 0,x,L,e,_,hw,h=>by
   simp only [cV,Option.some.injEq]at h
   subst h
   refine ⟨rfl,fun i a=> ?_,fun i a=>by simp at a,fun _=>rfl⟩
   have:i=0:=by simp at a;omega
   subst this
   exact ⟨e,fun w h1 h2=>hw w h1 h2⟩
 | k+1,x,L,e,hk,hw,h=>by
   rw [cV]at h
   cases hm:(qW x k).2 with
   | false=>rw [hm]at h;simp at h
   | true=>
     rw [hm]at h
     simp only [cond_true]at h
     cases c:cV k (qW x k).1 with
     | none=>rw [c]at h;simp at h
     | some l=>
       rw [c]at h
       simp only [Option.some.injEq]at h
       subst h
       obtain ⟨g,r,j⟩:=e
       have f:=kp g hm
       rw [j]at f
       have n: ∀w,(k:Int)<=w->w<d->en w (qW x k).1:=fun w h1 h2=>by
        by_cases q:w=k
        ·exact vc hm (.inl q)
        ·exact vc hm (.inr (hw w (by omega) h2))
       obtain ⟨g1,g2,g3,g4⟩:=Dk k f (by omega) n c
       refine ⟨by simp [g1],fun i a=> ?_,fun i a=> ?_,fun _=>by simp [<-g1]⟩
       ·by_cases b:i<l.length
        ·rw [List.getElem_append_left b];exact g2 i b
        ·have:i=l.length:=by simp at a;omega
         subst this
         simp only [List.getElem_concat_length]
         exact ⟨⟨g,r,j⟩,fun w h1 h2=>hw w (by omega) h2⟩
       ·by_cases b:i+1<l.length
        ·rw [List.getElem_append_left b,List.getElem_append_left (show i<l.length by omega)]
         exact g3 i b
        ·have o:i+1=l.length:=by simp at a;omega
         have m:(l++[x])[i+1]=x:=by simp [o]
         have p:i=k:=by omega
         subst p
         rw [m,List.getElem_append_left (show i<l.length by omega)]
         exact ⟨hm,g4 (by omega)⟩
def o1:Zi->Nat->Zg->Option (Zg)
 | [],_,p=>some p
 | c::cs,v,p=>match cW p c.2 with
   | some l=>bif qh (bG (bX (c.1,l) v))then o1 cs (v+1) (p++[bG (bX (c.1,l) v)])else none
   | none=>none
def mE (d:Int) (p:Zg) (c:(Zj)):Prop:= ∀P:List Rat,(P.length:Int)=d->(∀j (a:j<p.length),P.getD j 0=qH p[j])->cS c P
theorem qXB {d:Int} {c y:(Zj)} {v:Nat} {p:Zg} {l:Ze} (z:okN d c) (A: ∀w,((v+1:Nat):Int)<=w->w<d->en w c) (I:(v:Int)<d) (hm:(qW c v).2=true) (J:y=(qW c v).1) (L:p.length=v) (h:mE d p y) (D:cW p c.2=some l):
 bX (c.1,l) v=qO (c.1,l) v/\(qh (bG (qO (c.1,l) v))=true->mE d (p++[bG (qO (c.1,l) v)]) c):=by
 obtain ⟨c1,c2,i⟩:=z
 obtain ⟨_,_,q⟩:=bB c1
 have hd: ∀a∈(c.2:Ze),okD d a:=fun a n=>⟨(q a n).1,(q a n).2.trans i⟩
 obtain ⟨_,f2,f3,f4⟩:=Dj c.2 hd D
 have F:oQ d v ((c.1,l):(Zj)):=fun w w0 K N=>by
  refine f3 w ?_
  by_cases M:w<v
  ·exact .inr ⟨w0,by omega⟩
  ·exact .inl (A w (by omega) K)
 obtain ⟨s1,s2⟩:=N5 (y:=((c.1,l):(Zj))) f2 F
 have f:((p.map qH++List.replicate (d.toNat - v) (0:Rat)).length:Int)=d:=by simp;omega
 have k: ∀j (b:j<p.length),(p.map qH++List.replicate (d.toNat - v) (0:Rat)).getD j 0=qH p[j]:=fun j b=>by
  rw [List.getD_eq_getElem?_getD,List.getElem?_append_left (by simpa using b),List.getElem?_map,List.getElem?_eq_getElem b];rfl
 generalize p.map qH++List.replicate (d.toNat - v) (0:Rat)=g at f k
 have r:=h g f k
 rw [J]at r
 obtain ⟨t,H⟩:=(NX c1 ⟨by omega,by rw [i];exact I⟩ (by rw [i];exact f) hm).1 r
 have x: ∀j (b:j<p.length),(g.set v t).getD j 0=qH p[j]:=fun j b=>by
  rw [List.getD_eq_getElem?_getD,List.getElem?_set_ne (by omega),<-List.getD_eq_getElem?_getD];exact k j b
 have E:=(f4 (g.set v t) (by rw [List.length_set];exact f) x).2 H
 cases he:((bX ((c.1,l):(Zj)) v).2.2.2.2.2.2:Bool)with
 | true=>exact absurd E (s1 he _ (by rw [List.length_set];exact f))
 | false=>
   obtain ⟨e,o,s3⟩:=s2 he
   refine ⟨e,fun G P m b=> ?_⟩
   rw [e]at o s3
   have B:=q0W G o
   have s: ∀j (b:j<p.length),P.getD j 0=qH p[j]:=fun j C=>by
    have:=b j (by simp;omega)
    rw [List.getElem_append_left C]at this
    exact this
   have u:P.getD v 0=qH (bG (qO (c.1,l) v)):=by
    have:=b v (by simp;omega)
    rw [List.getElem_append_right (by omega)]at this
    simpa using this
   refine (f4 P m s).1 ((s3 P m).2 ?_)
   show inB _ (P.getD ((v:Int)).toNat 0)
   rw [Int.toNat_natCast,u]
   exact B
theorem Dl {d:Int} {L:Zi} (o:(L.length:Int)=d+1) (h1: ∀i (s:i<L.length),okN d L[i]/\ ∀w,(i:Int)<=w->w<d->en w L[i]) (h2: ∀i (s:i+1<L.length),(qW L[i+1] i).2=true/\L[i]=(qW L[i+1] i).1):
 ∀(k v:Nat) (p:Zg),((v+k:Nat):Int)=d->p.length=v->(∀r∈p,qh r=true)-> ∀n:v<L.length,mE d p L[v]->
  o1 (L.drop (v+1)) v p=dQ (L.drop (v+1)) v p/\ ∀a,dQ (L.drop (v+1)) v p=some a->(a.length:Int)=d/\(∀r∈a,qh r=true)/\ ∀h:d.toNat<L.length,mE d a L[d.toNat]
 | 0,v,p,hd,g,j,n,f=>by
   have e:L.drop (v+1)=[]:=List.drop_eq_nil_of_le (by omega)
   rw [e]
   refine ⟨rfl,fun a b=> ?_⟩
   simp only [dQ,Option.some.injEq]at b
   subst b
   have:d.toNat=v:=by omega
   exact ⟨by omega,j,fun _=>by simp only [this];exact f⟩
 | k+1,v,p,hd,g,j,n,f=>by
   have c:v+1<L.length:=by omega
   rw [List.drop_eq_getElem_cons c,o1,dQ]
   cases q:cW p L[v+1].2 with
   | none=>exact ⟨rfl,fun a b=>by simp at b⟩
   | some l=>
     obtain ⟨g1,g2⟩:=h1 (v+1) c
     obtain ⟨g3,g4⟩:=h2 v c
     obtain ⟨e,hs⟩:=qXB g1 g2 (by omega) g3 g4 g f q
     simp only [e]
     cases m:qh (bG (qO (L[v+1].1,l) v))with
     | false=>exact ⟨rfl,fun a b=>by simp at b⟩
     | true=>
       simp only [cond_true]
       refine Dl o h1 h2 k (v+1) _ (by omega) (by simp [g]) (fun r t=> ?_) c (hs m)
       rcases List.mem_append.1 t with h | h
       ·exact j r h
       ·rw [List.mem_singleton.1 h];exact m
theorem qSA {c:(Zj)} {p:Zg} (h:q4 c=(p,0)): ∃P:List Rat,(P.length:Int)=(c.1:Int)/\cS c P:=by
 unfold q4 at h
 cases f:qI c with
 | false=>rw [f]at h;simp at h
 | true=>
   rw [f]at h
   simp only [cond_true]at h
   obtain ⟨hd,_,_⟩:=bB f
   obtain ⟨_,q⟩:=iS f
   cases g:cV (c.1:Int).toNat (qS c.1 c.2)with
   | none=>rw [g]at h;simp at h
   | some L=>
     rw [g]at h
     simp only at h
     have b:(((c.1:Int).toNat:Nat):Int)=(c.1:Int):=Int.toNat_of_nonneg hd.1
     obtain ⟨g1,g2,g3,g4⟩:=Dk (c.1:Int).toNat q (Int.le_of_eq b) (fun w w0 u=>by
        rw [b]at w0
        exact absurd (Int.lt_of_lt_of_le u w0) (Int.lt_irrefl _)) g
     have o:((L.length:Nat):Int)=(c.1:Int)+1:=by rw [g1];show (((c.1:Int).toNat:Nat):Int)+1=_;rw [b]
     unfold o0 at h
     cases e:decide ((0:Int)<(List.length (α:=(Zf)) (L.getD 0 ((0:Int),[])).2:Int))with
     | true=>rw [e]at h;simp at h
     | false=>
       rw [e]at h
       simp only [cond_false]at h
       have k:0<L.length:=by omega
       have n:L.getD 0 ((0:Int),[])=L[0]:=by simp [List.getD,k]
       rw [n]at e
       have s:mE (c.1:Int) [] L[0]:=fun P _ _ a l=>by
        simp only [decide_eq_false_iff_not]at e
        have:L[0].2=[]:=List.length_eq_zero_iff.1 (by omega)
        rw [this]at l
        simp at l
       cases hw:dQ (L.drop 1) 0 []with
       | none=>rw [hw]at h;simp at h
       | some i=>
         obtain ⟨_,k2⟩:=Dl (d:=(c.1:Int)) o g2 g3 (c.1:Int).toNat 0 [] (by rw [Nat.zero_add];exact b) rfl (by simp) k s
         obtain ⟨m,k4,t⟩:=k2 i hw
         have hk:(c.1:Int).toNat<L.length:=by omega
         refine ⟨i.map qH,by simpa using m,?_⟩
         have:=t hk (i.map qH) (by simpa using m) fun j r=>by
            rw [List.getD_eq_getElem?_getD,List.getElem?_map,List.getElem?_eq_getElem r];rfl
         rw [g4 hk]at this
         exact vb.1 this
def ep (i:Nat) (r:(Zh)):Ze->Option (Ze)
 | []=>some []
 | a::l=>bif (bL a i r).2 then (match ep i r l with
   | some l'=>some ((bL a i r).1::l')
   | none=>none)else none
def mF:Nat->Zg->Ze->Option (Ze)
 | _,[],l=>some l
 | i,r::p,l=>match ep i r l with
   | some l'=>mF (i+1) p l'
   | none=>none
def gF (i:Nat) (p:Zg):Ze->Option (Ze)
 | []=>some []
 | a::l=>match eo i p a with
   | some b=>(match gF i p l with
     | some l'=>some (b::l')
     | none=>none)
   | none=>none
theorem OO (p:Zg): ∀l:Ze,cW p l=gF 0 p l
 | []=>rfl
 | a::l=>by
   rw [cW,gF,OO p l]
   try (cases eo 0 p a with
   | none=>rfl
   | some b=>cases gF 0 p l<;>rfl)
theorem OP (i:Nat): ∀l:Ze,gF i [] l=some l
 | []=>rfl
 | a::l=>by rw [gF,eo,OP i l]
theorem OQ (i:Nat) (r:(Zh)) (p:Zg): ∀l:Ze,gF i (r::p) l=(match ep i r l with
 | some l'=>gF (i+1) p l'
 | none=>none)
 | []=>rfl
 | a::l=>by
   rw [gF,ep,eo,OQ i r p l]
   cases (bL a i r).2 with
   | false=>rfl
   | true=>
     simp only [cond_true]
     cases hw:ep i r l with
     | none=>cases eo (i+1) p (bL a i r).1<;>rfl
     | some l'=>rfl
theorem OR: ∀(p:Zg) (i:Nat) (l:Ze),mF i p l=gF i p l
 | [],i,l=>by rw [mF,OP]
 | r::p,i,l=>by
   rw [mF,OQ]
   cases ep i r l with
   | none=>rfl
   | some l'=>exact OR p (i+1) l'
def g85:G:={ps:=[i35],rs:=[i35],dp:=true,pre:=fun x=>fM x.1,fn:=fun x=>(cpC x.1,())}
def kx (N:Nat) (b:Ze) (d e f:Int) (k0:(Ze)->ZO [i35]):Nat->Int->(Ze)->ZO [i35]
 | 0,_,_=>none
 | n+1,a,c=>bif (decide (a<d))then (chk (0<=a/\a<(b.length:Int)) (chk (cx (b.getD a.toNat (qa Y68))) (chk (c.length+([(idA (b.getD a.toNat (qa Y68)))]:Ze).length<=1048576) (kx N b d e f k0 n (IntKind.i64.wrap (a+(1:Int))) (c++([(idA (b.getD a.toNat (qa Y68)))]:Ze))))))else (k0 c)
def m85 (N:Nat) (a:Zj):ZO [i35]:=chk (0<=(0:Int)/\(0:Int)<=((a.2:Ze).length:Int)/\((a.2:Ze).length:Int)<=1048576) (kx N (a.2:Ze) ((a.2:Ze).length:Int) (0:Int) (a.1:Int) (fun (b:Ze)=>some (((a.1:Int),b),())) N (0:Int) (List.replicate (0:Int).toNat (qa Y68)))
def Γ85:Gam:=[(95,g95)]
theorem qTS:Gam.get Γ85 95=some g95:=rfl
def vw:List Bool:=[O,O,I,I,O,O,O,O,O,O,O,O,O,O,I,I,I]
def Dm:Nm:=⟨vw,[],false⟩
theorem OS:NmS Dm vw [] false:=nmS
def Dn:List Bool:=[O,O,I,I]
def OT:Nm:=⟨Dn,[],false⟩
theorem qY7:NmS OT Dn [] false:=nmS
def Dp:List Bool:=[O,I,I,I]
def OU:Nm:=⟨Dp,[],false⟩
theorem qPv:NmS OU Dp [] false:=nmS
def Dq:List Bool:=[O,O,I,I,O,O,O,O,O,O,O,O,O,O,I,I,I]
def OV:Nm:=⟨Dq,[],false⟩
theorem qW0:NmS OV Dq [] false:=nmS
def o2:Nat->Tree:=fun i=>if i=1 then .grow 0 (.grow 1 (.grow 2 (.grow 3 (.grow 4 (.alt 5 (.first 6 (.alt 7 (.alt 8 .done .stop) .stop)) (.alt 7 (.alt 5 (.quiet 6 (.alt 8 .done .stop)) .stop) .stop))))))else if i=5 then .quiet 2 (.alt 0 (.alt 1 (.alt 3 (.alt 4 (.alt 5 (.quiet 6 (.alt 7 .done .stop)) .stop) .stop) .stop) (.alt 3 (.alt 1 (.alt 4 (.alt 5 (.quiet 6 (.alt 7 .done .stop)) .stop) .stop) (.alt 4 (.quiet 1 (.alt 5 (.quiet 6 (.alt 7 .done .stop)) .stop)) .stop)) .stop)) (.alt 3 (.alt 0 (.alt 1 (.alt 4 (.alt 5 (.quiet 6 (.alt 7 .done .stop)) .stop) .stop) (.alt 4 (.quiet 1 (.alt 5 (.quiet 6 (.alt 7 .done .stop)) .stop)) .stop)) (.alt 4 (.quiet 0 (.quiet 1 (.alt 5 (.quiet 6 (.alt 7 .done .stop)) .stop))) .stop)) .stop))else .done
def Dr:Nat->Nm:=fun i=>if i=3 then Dm else ⟨[],[],false⟩
def Ds:Nat->Option Nm:=fun i=>if i=0 then some OT else none
def o3:Nat->Option Nm:=fun i=>if i=1 then some OU else if i=5 then some OV else none
theorem p85:qi o2 (Tryz.f85.body.getD .skip)=true:=by kernel_rfl
def T85 (N:Nat):Tab:={tr:=o2,lp:=Dr,ex:=Ds,rg:=o3,jn:=jn0,fuel:=N}
theorem q0G (N:Nat):qj Tryz.prog (T85 N):=qn fun _=>rfl
theorem Dt (N:Nat):qr (T85 N) o2 Dr Ds o3 jn0 N false:=qt
def OW:Code:=cut [I,I,O,I,I,I] (Tryz.f85.body.getD .skip)
theorem qVa (N:Nat) (f:Ze) (g b d:Int) {k0:(Ze)->ZO [i35]} {Q:ZQ [i35]} {c:Code} (j:c=OW) (l: ∀st,Q .ret st=qz tt true [i35] [.cell 2 35] st) (i: ∀(h:Ze),Q (.exit 0) ⟨[u,u,.one (.ptr 0 0 0),.one (.ptr 1 0 0),u,u,u,u,u,u,u,u,u,u,u,u,u,u,u,u,u,u,u,u,u,u,u,u,u],[.box [.int .i64 b,.nils],.box [.int .i64 d,.own 2],.row 68 Y68 h true true 0]⟩=k0 h): ∀(n:Nat) (a:Int) (e:Ze),qw (qd tt Γ85 (T85 N) c) false Dm Q n ⟨[u,u,.one (.ptr 0 0 0),.one (.ptr 1 0 0),u,u,u,u,u,u,u,u,u,u,.one (.sl 68 Y68 f 3),.one (.int .i64 g),.one (.int .i64 a),u,u,u,u,u,u,u,u,u,u,u,u],[.box [.int .i64 b,.nils],.box [.int .i64 d,.own 2],.row 68 Y68 e true true 0]⟩=kx N f g b d k0 n a e:=by
 intro n;induction n with
 | zero=>intros;rfl
 | succ n k=>
   intro a e
   rw [qD,qE j,kx];unfold OW Tryz.f85
   simp -implicitDefEqProofs [Dt,o2,Ds,o3,OS,vw,qY7,Dn,qW0,Dq,qTS,g95,i,k]
theorem qYX (N:Nat) (a:Zj):qd tt Γ85 (T85 N) (Tryz.f85.body.getD .skip) (qk tt true [i35] [.cell 2 35]) (qm [i35] 29 (a,()))=m85 N a:=by
 unfold Tryz.f85
 simp -implicitDefEqProofs [Dt,o2,Dr,o3,OS,vw,qPv,Dp]
 rewrite [qVa (k0:=(fun (b:Ze)=>some (((a.1:Int),b),()))) N _ _ _ _ ?_ ?_ ?_]
 ·rewrite [m85];first | rfl | simp -implicitDefEqProofs []
 ·rfl
 ·intro;simp only [qA,qC,qJ]
 ·intro b;simp -implicitDefEqProofs [Dt,o3]
theorem e85 (c:Zj) (h:fM c): ∃N,m85 N c=some (cpC c,()):=⟨List.length (α:=Zf) c.2+1,by
 obtain ⟨d,xs⟩:=c
 change Int at d
 change List (Zf)at xs
 obtain ⟨-,h1,h2⟩:=h
 replace h1:xs.length<=1048576:=h1
 rw [m85,cpC,qc (by show 0<=(0:Int)/\(0:Int)<=(xs.length:Int)/\(xs.length:Int)<=1048576;omega)]
 refine (bp (F:=fun n i s=>kx _ xs xs.length 0 d _ n i s) (step:=fun _ x s K=>chk (s.length+[x].length<=1048576) (K (s++[x]))) (k:=fun s=>some ((d,s),())) h1 (fun n i s a=> ?_) (fun n i s a=> ?_) _ [] (Nat.lt_succ_self _)).trans ?_
 ·rw [kx,qg (by omega),qc (by omega),qB a,qc (show cx _ from (h2 _ (List.getElem_mem a)).1.1)]
  rfl
 ·rw [kx,qf (by omega)]
 ·exact (mf (f:=fun x=>x) xs 0 [] (by simpa using h1)).trans (by simp)⟩
theorem s85:Sound Tryz.prog 85 g85:=qo (tt:=tt) (Γ:=Γ85) hT (qe s95 ql) hm (fn:=Tryz.f85) Tryz.func85 (c:=Tryz.f85.body.getD .skip) (by kernel_rfl) (by kernel_rfl) fun x a=>by
 obtain ⟨N,h⟩:=e85 x.1 a
 exact ⟨T85 N,p85,qp _,q0G N,(qYX N x.1).trans h⟩
theorem OX {c:Zj} (h:qI c=true):Bd Y35 c:=by
 obtain ⟨h1,h2,a⟩:=bB h
 obtain ⟨d,l⟩:=c
 exact Ox (d:=d) a (by have:List.length (α:=Zf) l<=16:=h2;omega)
end
end Go.T
