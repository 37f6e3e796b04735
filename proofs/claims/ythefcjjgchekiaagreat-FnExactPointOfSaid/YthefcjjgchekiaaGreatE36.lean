/- Witnesses: a point that is chosen value by value is one (plain). -/
import Derived.Test.YthefcjjgchekiaaGreatE35
import Derived.Test.YthefcjjgchekiaaGreatB21
import Derived.Test.YthefcjjgchekiaaGreatE20
import Derived.Test.YthefcjjgchekiaaGreatE1
set_option linter.unusedSimpArgs false
set_option linter.unusedVariables false
namespace Go.T
open Go Go.Proofs
set_option maxHeartbeats 4000000
set_option maxRecDepth 100000
def qco (a b:(Val Y28)):(Val Y28):=bif qi a&&qi b then qQ ((a.1:Int)*b.1) ((a.2:Int)*b.2)else noR
def q5 (b:(Val qad)):(Val Y28):=bif b.1 then (bif b.2.2.2.1 then qco (qaf b.2.1 b.2.2.2.2.1) ((1:Int),(2:Int))else qaf b.2.1 ((1:Int),(1:Int)))else bif b.2.2.2.1 then qaf b.2.2.2.2.1 ((-1:Int),(1:Int))else ((0:Int),(1:Int))
def qcD:Nat→List (Val Y28)→(Val qa)→Option (Val qa)
 | _,[],a=>some a
 | i,r::p,a=>bif (qak a i r).2 then qcD (i+1) p (qak a i r).1 else none
def qbL (p:List (Val Y28)):List (Val qa)→Option (List (Val qa))
 | []=>some []
 | a::l=>match qcD 0 p a with
   | some a'=>(match qbL p l with
     | some l'=>some (a'::l')
     | none=>none)
   | none=>none
def qcV:List (Val Y33)→Nat→List (Val Y28)→Option (List (Val Y28))
 | [],_,p=>some p
 | c::cs,v,p=>match qbL p c.2 with
   | some l=>bif qi (q5 (qf (c.1,l) v))then qcV cs (v+1) (p++[q5 (qf (c.1,l) v)])else none
   | none=>none
def qEV (L:List (Val Y33)):List (Val Y28)×Int:=bif decide ((0:Int)<(List.length (α:=(Val qa)) (L.getD 0 ((0:Int),[])).2:Int))then ([],1)else match qcV (L.drop 1) 0 []with
 | some p=>(p,0)
 | none=>([],2)
def qbh (c:(Val Y33)):List (Val Y28)×Int:=bif qH c then (match qbS (c.1:Int).toNat (qO c.1 c.2)with
 | some L=>qEV L
 | none=>([],2))else ([],2)
theorem qyZ:qi noR=false:=by decide
theorem q25 {n d:Int} (h:qi (qQ n d)=true):qC (qQ n d)*((d:Int):Rat)=((n:Int):Rat):=by
 obtain ⟨r1,r2⟩:=qeT h
 have hv:=q0p h
 rw [←Rat.intCast_inj,Rat.intCast_mul,Rat.intCast_mul,←r2]at hv
 generalize qC (qQ n d)=q at*
 generalize (((qQ n d).2:Int):Rat)=u at*
 have:u*(q*((d:Int):Rat) - ((n:Int):Rat))=0:=by grind
 rcases Rat.mul_eq_zero.1 this with h | h<;>grind
theorem qSk {a b:(Val Y28)} (h:qi (qaf a b)=true):(qi a=true∧qi b=true)∧qC (qaf a b)=qC a+qC b:=by
 unfold qaf at*
 cases ha:qi a with
 | false=>rw [ha]at h;exact absurd (show qi noR=true from h) (by rw [qyZ];decide)
 | true=>
 cases hb:qi b with
 | false=>rw [ha,hb]at h;exact absurd (show qi noR=true from h) (by rw [qyZ];decide)
 | true=>
   rw [ha,hb]at h
   simp only [Bool.and_self,cond_true]at h ⊢
   obtain ⟨a1,a2⟩:=qeT ha
   obtain ⟨b1,b2⟩:=qeT hb
   have e:=q25 h
   refine ⟨⟨trivial,trivial⟩,?_⟩
   rw [Rat.intCast_add,Rat.intCast_mul,Rat.intCast_mul,Rat.intCast_mul,←a2,←b2]at e
   generalize qC (qQ ((a.1:Int)*b.2+(b.1:Int)*a.2) ((a.2:Int)*b.2))=q at*
   generalize ((a.2:Int):Rat)=x at*
   generalize ((b.2:Int):Rat)=y at*
   have hxy:=Rat.mul_pos a1 b1
   have:(x*y)*(q - (qC a+qC b))=0:=by grind
   rcases Rat.mul_eq_zero.1 this with h | h<;>grind
theorem ziQ {a b:(Val Y28)} (h:qi (qco a b)=true):(qi a=true∧qi b=true)∧qC (qco a b)=qC a*qC b:=by
 unfold qco at*
 cases ha:qi a with
 | false=>rw [ha]at h;exact absurd (show qi noR=true from h) (by rw [qyZ];decide)
 | true=>
 cases hb:qi b with
 | false=>rw [ha,hb]at h;exact absurd (show qi noR=true from h) (by rw [qyZ];decide)
 | true=>
   rw [ha,hb]at h
   simp only [Bool.and_self,cond_true]at h ⊢
   obtain ⟨a1,a2⟩:=qeT ha
   obtain ⟨b1,b2⟩:=qeT hb
   have e:=q25 h
   refine ⟨⟨trivial,trivial⟩,?_⟩
   rw [Rat.intCast_mul,Rat.intCast_mul,←a2,←b2]at e
   generalize qC (qQ ((a.1:Int)*b.1) ((a.2:Int)*b.2))=q at*
   generalize ((a.2:Int):Rat)=x at*
   generalize ((b.2:Int):Rat)=y at*
   have hxy:=Rat.mul_pos a1 b1
   have:(x*y)*(q - (qC a*qC b))=0:=by grind
   rcases Rat.mul_eq_zero.1 this with h | h<;>grind
theorem zoh:qC ((1:Int),(1:Int))=1∧qC ((-1:Int),(1:Int))= -1∧qC ((1:Int),(2:Int))=1 / 2:=by unfold qC;refine ⟨?_,?_,rfl⟩<;>grind
theorem znD {b:(Val qad)} (h:qi (q5 b)=true) (he: ∃t,inB b t):inB b (qC (q5 b)):=by
 obtain ⟨t,h1,h2⟩:=he
 obtain ⟨hl,l,lo,hh,g,ho,em⟩:=b
 change hl=true→qC l<t∨(lo=false∧qC l=t)at h1
 change hh=true→t<qC g∨(ho=false∧t=qC g)at h2
 show (hl=true→qC l<_∨(lo=false∧qC l=_))∧(hh=true→_<qC g∨(ho=false∧_=qC g))
 obtain ⟨q1,q2,q3⟩:=zoh
 cases hl with
 | true=>
   have h1:=h1 rfl
   cases hh with
   | true=>
     have h2:=h2 rfl
     change qi (qco (qaf l g) ((1:Int),(2:Int)))=true at h
     obtain ⟨⟨m1,_⟩,m2⟩:=ziQ h
     obtain ⟨_,m3⟩:=qSk m1
     have e:qC (q5 (true,l,lo,true,g,ho,em))=(qC l+qC g)*(1 / 2):=by
        show qC (qco (qaf l g) ((1:Int),(2:Int)))=_
        rw [m2,m3,q3]
     rw [e]
     refine ⟨fun _=> ?_,fun _=> ?_⟩<;>grind
   | false=>
     change qi (qaf l ((1:Int),(1:Int)))=true at h
     obtain ⟨_,m3⟩:=qSk h
     have e:qC (q5 (true,l,lo,false,g,ho,em))=qC l+1:=by
        show qC (qaf l ((1:Int),(1:Int)))=_
        rw [m3,q1]
     rw [e]
     refine ⟨fun _=> ?_,fun h=>by simp at h⟩
     left;grind
 | false=>
   cases hh with
   | true=>
     change qi (qaf g ((-1:Int),(1:Int)))=true at h
     obtain ⟨_,m3⟩:=qSk h
     have e:qC (q5 (false,l,lo,true,g,ho,em))=qC g+ -1:=by
        show qC (qaf g ((-1:Int),(1:Int)))=_
        rw [m3,q2]
     rw [e]
     refine ⟨fun h=>by simp at h,fun _=> ?_⟩
     left;grind
   | false=>exact ⟨fun h=>by simp at h,fun h=>by simp at h⟩
theorem zkD {d v:Int} {a:(Val qa)} {r:(Val Y28)} {P:List Rat} (ha:okD d a) (hp:(P.length:Int)=d) (h:(qak a v r).2=true) (hr:P.getD v.toNat 0=qC r):qaz (atm (qak a v r).1) P↔qaz (atm a) P:=by
 unfold qak at*
 cases hc:(qG a&&qi r&&decide (0≤v∧v<(List.length (α:=Int) a.1:Int)))with
 | false=>rw [hc]at h;simp at h
 | true=>
   rw [hc]at h
   simp only [cond_true]at h ⊢
   simp only [Bool.and_eq_true,decide_eq_true_eq]at hc
   obtain ⟨⟨_,hrr⟩,hv⟩:=hc
   have hl:(List.length (α:=Int) a.1:Int)=d:=ha.2
   rw [qEh h]
   obtain ⟨r1,r2⟩:=qeT hrr
   have e:evA ((qbY a.1 v.toNat r.2,(a.2.1:Int)*r.2+(List.getD (α:=Int) a.1 v.toNat 0)*r.1,(a.2.2:Bool)):Atm) P=((r.2:Int):Rat)*evA (atm a) P:=by
    unfold evA qbY
    simp only
    have l1:v.toNat<(List.map (α:=Int) (fun x=>x*r.2) a.1).length:=by rw [List.length_map];omega
    rw [qCC _ P _ _ l1 (by omega),qyG]
    have g:(List.map (α:=Int) (fun x=>x*r.2) a.1).getD v.toNat 0=(List.getD (α:=Int) a.1 v.toNat 0)*r.2:=by
        have:v.toNat<List.length (α:=Int) a.1:=by omega
        simp [List.getD,List.getElem?_eq_getElem this]
    rw [g,hr,Rat.intCast_add,Rat.intCast_mul,Rat.intCast_mul,Rat.intCast_mul,←r2]
    have e0:((0:Int):Rat)=0:=rfl
    rw [e0]
    grind
   unfold qaz
   rw [e]
   obtain ⟨s1,s2⟩:=qea (x:=evA (atm a) P) r1
   rw [s1,s2]
theorem q1g {v w:Int} {a:(Val qa)} {r:(Val Y28)} (h:(qak a v r).2=true) (hw:w=v∨cfV w a=0):cfV w (qak a v r).1=0:=by
 unfold qak at*
 cases hc:(qG a&&qi r&&decide (0≤v∧v<(List.length (α:=Int) a.1:Int)))with
 | false=>rw [hc]at h;simp at h
 | true=>
   simp only [cond_true]
   simp only [Bool.and_eq_true,decide_eq_true_eq]at hc
   obtain ⟨_,hv⟩:=hc
   refine q3X ?_
   unfold qbY
   by_cases hwv:v.toNat=w.toNat
   ·rw [hwv,List.getD_eq_getElem?_getD]
    by_cases hl:w.toNat<(List.map (α:=Int) (fun x=>x*r.2) a.1).length
    ·rw [List.getElem?_set_self hl];rfl
    ·rw [List.getElem?_eq_none (by rw [List.length_set];omega)];rfl
   ·rw [List.getD_eq_getElem?_getD,List.getElem?_set_ne hwv]
    rcases hw with hw | hw
    ·omega
    ·unfold cfV at hw
     rw [List.getD_eq_getElem?_getD]at hw
     rw [List.getElem?_map]
     cases hq:(a.1:List Int)[w.toNat]? with
     | none=>rfl
     | some x=>
       rw [hq]at hw
       have hw:x=0:=hw
       subst hw
       simp
theorem q30 {d:Int}: ∀(p:List (Val Y28)) (i:Nat) {a a':(Val qa)},okD d a→qcD i p a=some a'→okD d a'∧(∀w,(cfV w a=0∨((i:Int)≤w∧w<i+p.length))→cfV w a'=0)∧ ∀P:List Rat,(P.length:Int)=d→(∀j (hj:j<p.length),P.getD (i+j) 0=qC p[j])→(qaz (atm a') P↔qaz (atm a) P)
 | [],i,a,a',ha,h=>by
   simp only [qcD,Option.some.injEq]at h
   subst h
   refine ⟨ha,fun w hw=> ?_,fun _ _ _=>Iff.rfl⟩
   rcases hw with hw | hw
   ·exact hw
   ·simp at hw;omega
 | r::p,i,a,a',ha,h=>by
   rw [qcD]at h
   cases hf:(qak a i r).2 with
   | false=>rw [hf]at h;simp at h
   | true=>
     rw [hf]at h
     simp only [cond_true]at h
     obtain ⟨g1,g2,g3⟩:=q30 p (i+1) (qOM ha hf) h
     refine ⟨g1,fun w hw=>g2 w ?_,fun P hP hj=> ?_⟩
     ·rcases hw with hw | hw
      ·exact .inl (q1g hf (.inr hw))
      ·by_cases hwi:w=i
       ·exact .inl (q1g hf (.inl hwi))
       ·right
        simp only [List.length_cons]at hw
        omega
     ·rw [g3 P hP fun j hj'=>by
       have:=hj (j+1) (by simp;omega)
       rw [show i+1+j=i+(j+1) by omega]
       simpa using this]
      refine zkD ha hP hf ?_
      have:=hj 0 (by simp)
      simpa using this
theorem qII {d:Int} {p:List (Val Y28)}: ∀(l:List (Val qa)) {l':List (Val qa)},(∀a∈l,okD d a)→qbL p l=some l'→l'.length=l.length∧(∀a∈l',okD d a)∧(∀w,((∀a∈l,cfV w a=0)∨(0≤w∧w<p.length))→ ∀a∈l',cfV w a=0)∧ ∀P:List Rat,(P.length:Int)=d→(∀j (hj:j<p.length),P.getD j 0=qC p[j])→((∀a∈l',qaz (atm a) P)↔ ∀a∈l,qaz (atm a) P)
 | [],l',_,h=>by
   simp only [qbL,Option.some.injEq]at h
   subst h
   simp
 | a::l,l',hd,h=>by
   rw [qbL]at h
   cases hf:qcD 0 p a with
   | none=>rw [hf]at h;simp at h
   | some a1=>
     cases hg:qbL p l with
     | none=>rw [hf,hg]at h;simp at h
     | some l1=>
       rw [hf,hg]at h
       simp only [Option.some.injEq]at h
       subst h
       obtain ⟨f1,f2,f3⟩:=q30 p 0 (hd a (by simp)) hf
       obtain ⟨g1,g2,g3,g4⟩:=qII l (fun b hb=>hd b (by simp [hb])) hg
       refine ⟨by simp [g1],fun b hb=> ?_,fun w hw b hb=> ?_,fun P hP hj=> ?_⟩
       ·rcases List.mem_cons.1 hb with rfl | hb
        ·exact f1
        ·exact g2 b hb
       ·rcases List.mem_cons.1 hb with rfl | hb
        ·refine f2 w ?_
         rcases hw with hw | hw
         ·exact .inl (hw a (by simp))
         ·exact .inr (by omega)
        ·refine g3 w ?_ b hb
         rcases hw with hw | hw
         ·exact .inl fun c hc=>hw c (by simp [hc])
         ·exact .inr hw
       ·have e1:=f3 P hP fun j hj'=>by rw [Nat.zero_add];exact hj j hj'
        have e2:=g4 P hP hj
        simp only [List.mem_cons,forall_eq_or_imp]
        rw [e1,e2]
theorem q0z {d:Int}: ∀(k:Nat) {x:(Val Y33)} {L:List (Val Y33)},okN d x→(k:Int)≤d→(∀w,(k:Int)≤w→w<d→qcX w x)→qbS k x=some L→L.length=k+1∧(∀i (hi:i<L.length),okN d L[i]∧ ∀w,(i:Int)≤w→w<d→qcX w L[i])∧(∀i (hi:i+1<L.length),(qU L[i+1] i).2=true∧L[i]=(qU L[i+1] i).1)∧ ∀h:k<L.length,L[k]=x
 | 0,x,L,hx,_,hw,h=>by
   simp only [qbS,Option.some.injEq]at h
   subst h
   refine ⟨rfl,fun i hi=> ?_,fun i hi=>by simp at hi,fun _=>rfl⟩
   have:i=0:=by simp at hi;omega
   subst this
   exact ⟨hx,fun w h1 h2=>hw w h1 h2⟩
 | k+1,x,L,hx,hk,hw,h=>by
   rw [qbS]at h
   cases hm:(qU x k).2 with
   | false=>rw [hm]at h;simp at h
   | true=>
     rw [hm]at h
     simp only [cond_true]at h
     cases hp:qbS k (qU x k).1 with
     | none=>rw [hp]at h;simp at h
     | some l=>
       rw [hp]at h
       simp only [Option.some.injEq]at h
       subst h
       obtain ⟨hx1,hx2,hx3⟩:=hx
       have hN:=qmA hx1 hm
       rw [hx3]at hN
       have hfr: ∀w,(k:Int)≤w→w<d→qcX w (qU x k).1:=fun w h1 h2=>by
        by_cases hwk:w=k
        ·exact qxw hm (.inl hwk)
        ·exact qxw hm (.inr (hw w (by omega) h2))
       obtain ⟨g1,g2,g3,g4⟩:=q0z k hN (by omega) hfr hp
       refine ⟨by simp [g1],fun i hi=> ?_,fun i hi=> ?_,fun _=>by simp [←g1]⟩
       ·by_cases hil:i<l.length
        ·rw [List.getElem_append_left hil];exact g2 i hil
        ·have:i=l.length:=by simp at hi;omega
         subst this
         simp only [List.getElem_concat_length]
         exact ⟨⟨hx1,hx2,hx3⟩,fun w h1 h2=>hw w (by omega) h2⟩
       ·by_cases hil:i+1<l.length
        ·rw [List.getElem_append_left hil,List.getElem_append_left (show i<l.length by omega)]
         exact g3 i hil
        ·have hi':i+1=l.length:=by simp at hi;omega
         have e1:(l++[x])[i+1]=x:=by simp [hi']
         have hik:i=k:=by omega
         subst hik
         rw [e1,List.getElem_append_left (show i<l.length by omega)]
         exact ⟨hm,g4 (by omega)⟩
def qvY:List (Val Y33)→Nat→List (Val Y28)→Option (List (Val Y28))
 | [],_,p=>some p
 | c::cs,v,p=>match qbL p c.2 with
   | some l=>bif qi (q5 (qm (c.1,l) v))then qvY cs (v+1) (p++[q5 (qm (c.1,l) v)])else none
   | none=>none
def qrs (d:Int) (p:List (Val Y28)) (c:(Val Y33)):Prop:= ∀P:List Rat,(P.length:Int)=d→(∀j (hj:j<p.length),P.getD j 0=qC p[j])→qcd c P
theorem zi8 {d:Int} {c y:(Val Y33)} {v:Nat} {p:List (Val Y28)} {l:List (Val qa)} (hc:okN d c) (hf: ∀w,((v+1:Nat):Int)≤w→w<d→qcX w c) (hv:(v:Int)<d) (hm:(qU c v).2=true) (hy:y=(qU c v).1) (hp:p.length=v) (h:qrs d p y) (hl:qbL p c.2=some l):
 qm (c.1,l) v=qf (c.1,l) v∧(qi (q5 (qf (c.1,l) v))=true→qrs d (p++[q5 (qf (c.1,l) v)]) c):=by
 obtain ⟨c1,c2,c3⟩:=hc
 obtain ⟨_,_,hok⟩:=qaJ c1
 have hd: ∀a∈(c.2:List (Val qa)),okD d a:=fun a ha=>⟨(hok a ha).1,(hok a ha).2.trans c3⟩
 obtain ⟨_,f2,f3,f4⟩:=qII c.2 hd hl
 have hpure:qvb d v ((c.1,l):(Val Y33)):=fun w w0 w1 w2=>by
  refine f3 w ?_
  by_cases hwv:w<v
  ·exact .inr ⟨w0,by omega⟩
  ·exact .inl (hf w (by omega) w1)
 obtain ⟨s1,s2⟩:=qZN (y:=((c.1,l):(Val Y33))) f2 hpure
 have hP0:((p.map qC++List.replicate (d.toNat - v) (0:Rat)).length:Int)=d:=by simp;omega
 have hag: ∀j (hj:j<p.length),(p.map qC++List.replicate (d.toNat - v) (0:Rat)).getD j 0=qC p[j]:=fun j hj=>by
  rw [List.getD_eq_getElem?_getD,List.getElem?_append_left (by simpa using hj),List.getElem?_map,List.getElem?_eq_getElem hj];rfl
 generalize p.map qC++List.replicate (d.toNat - v) (0:Rat)=P0 at hP0 hag
 have hy0:=h P0 hP0 hag
 rw [hy]at hy0
 obtain ⟨t,ht⟩:=(qYr c1 ⟨by omega,by rw [c3];exact hv⟩ (by rw [c3];exact hP0) hm).1 hy0
 have hag': ∀j (hj:j<p.length),(P0.set v t).getD j 0=qC p[j]:=fun j hj=>by
  rw [List.getD_eq_getElem?_getD,List.getElem?_set_ne (by omega),←List.getD_eq_getElem?_getD];exact hag j hj
 have hl0:=(f4 (P0.set v t) (by rw [List.length_set];exact hP0) hag').2 ht
 cases he:((qm ((c.1,l):(Val Y33)) v).2.2.2.2.2.2:Bool)with
 | true=>exact absurd hl0 (s1 he _ (by rw [List.length_set];exact hP0))
 | false=>
   obtain ⟨e,hne,s3⟩:=s2 he
   refine ⟨e,fun hr P hP hj=> ?_⟩
   rw [e]at hne s3
   have hin:=znD hr hne
   have hPp: ∀j (hj:j<p.length),P.getD j 0=qC p[j]:=fun j hj'=>by
    have:=hj j (by simp;omega)
    rw [List.getElem_append_left hj']at this
    exact this
   have hPv:P.getD v 0=qC (q5 (qf (c.1,l) v)):=by
    have:=hj v (by simp;omega)
    rw [List.getElem_append_right (by omega)]at this
    simpa using this
   refine (f4 P hP hPp).1 ((s3 P hP).2 ?_)
   show inB _ (P.getD ((v:Int)).toNat 0)
   rw [Int.toNat_natCast,hPv]
   exact hin
theorem q2u {d:Int} {L:List (Val Y33)} (hL:(L.length:Int)=d+1) (h1: ∀i (hi:i<L.length),okN d L[i]∧ ∀w,(i:Int)≤w→w<d→qcX w L[i]) (h2: ∀i (hi:i+1<L.length),(qU L[i+1] i).2=true∧L[i]=(qU L[i+1] i).1):
 ∀(k v:Nat) (p:List (Val Y28)),((v+k:Nat):Int)=d→p.length=v→(∀r∈p,qi r=true)→ ∀hv:v<L.length,qrs d p L[v]→
  qvY (L.drop (v+1)) v p=qcV (L.drop (v+1)) v p∧ ∀p',qcV (L.drop (v+1)) v p=some p'→(p'.length:Int)=d∧(∀r∈p',qi r=true)∧ ∀h:d.toNat<L.length,qrs d p' L[d.toNat]
 | 0,v,p,hd,hp,hr,hv,hl=>by
   have e:L.drop (v+1)=[]:=List.drop_eq_nil_of_le (by omega)
   rw [e]
   refine ⟨rfl,fun p' hp'=> ?_⟩
   simp only [qcV,Option.some.injEq]at hp'
   subst hp'
   have:d.toNat=v:=by omega
   exact ⟨by omega,hr,fun _=>by simp only [this];exact hl⟩
 | k+1,v,p,hd,hp,hr,hv,hl=>by
   have hv1:v+1<L.length:=by omega
   rw [List.drop_eq_getElem_cons hv1,qvY,qcV]
   cases hf:qbL p L[v+1].2 with
   | none=>exact ⟨rfl,fun p' hp'=>by simp at hp'⟩
   | some l=>
     obtain ⟨g1,g2⟩:=h1 (v+1) hv1
     obtain ⟨g3,g4⟩:=h2 v hv1
     obtain ⟨e,hs⟩:=zi8 g1 g2 (by omega) g3 g4 hp hl hf
     simp only [e]
     cases hq:qi (q5 (qf (L[v+1].1,l) v))with
     | false=>exact ⟨rfl,fun p' hp'=>by simp at hp'⟩
     | true=>
       simp only [cond_true]
       refine q2u hL h1 h2 k (v+1) _ (by omega) (by simp [hp]) (fun r hr'=> ?_) hv1 (hs hq)
       rcases List.mem_append.1 hr' with h | h
       ·exact hr r h
       ·rw [List.mem_singleton.1 h];exact hq
def qcY (i:Nat) (r:(Val Y28)):List (Val qa)→Option (List (Val qa))
 | []=>some []
 | a::l=>bif (qak a i r).2 then (match qcY i r l with
   | some l'=>some ((qak a i r).1::l')
   | none=>none)else none
def qnM:Nat→List (Val Y28)→List (Val qa)→Option (List (Val qa))
 | _,[],l=>some l
 | i,r::p,l=>match qcY i r l with
   | some l'=>qnM (i+1) p l'
   | none=>none
def qgh (i:Nat) (p:List (Val Y28)):List (Val qa)→Option (List (Val qa))
 | []=>some []
 | a::l=>match qcD i p a with
   | some a'=>(match qgh i p l with
     | some l'=>some (a'::l')
     | none=>none)
   | none=>none
theorem q2z (p:List (Val Y28)): ∀l:List (Val qa),qbL p l=qgh 0 p l
 | []=>rfl
 | a::l=>by
   rw [qbL,qgh,q2z p l]
   try (cases qcD 0 p a with
   | none=>rfl
   | some a'=>cases qgh 0 p l<;>rfl)
theorem qZg (i:Nat): ∀l:List (Val qa),qgh i [] l=some l
 | []=>rfl
 | a::l=>by rw [qgh,qcD,qZg i l]
theorem qY8 (i:Nat) (r:(Val Y28)) (p:List (Val Y28)): ∀l:List (Val qa),qgh i (r::p) l=(match qcY i r l with
  | some l'=>qgh (i+1) p l'
  | none=>none)
 | []=>rfl
 | a::l=>by
   rw [qgh,qcY,qcD,qY8 i r p l]
   cases (qak a i r).2 with
   | false=>rfl
   | true=>
     simp only [cond_true]
     cases hw:qcY i r l with
     | none=>cases qcD (i+1) p (qak a i r).1<;>rfl
     | some l'=>rfl
theorem q02: ∀(p:List (Val Y28)) (i:Nat) (l:List (Val qa)),qnM i p l=qgh i p l
 | [],i,l=>by rw [qnM,qZg]
 | r::p,i,l=>by
   rw [qnM,qY8]
   cases qcY i r l with
   | none=>rfl
   | some l'=>exact q02 p (i+1) l'
end Go.T
