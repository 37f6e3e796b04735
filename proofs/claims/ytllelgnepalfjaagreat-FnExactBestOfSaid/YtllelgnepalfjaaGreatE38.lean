import Derived.Test.YtllelgnepalfjaaGreatB16
import Derived.Test.YtllelgnepalfjaaGreatT13
set_option linter.unusedSimpArgs false
set_option linter.unusedVariables false
namespace Go.T
open Go Go.Proofs
set_option maxHeartbeats 4000000
set_option maxRecDepth 100000
def cS (c:(Zj)) (p:List Rat):Prop:= ∀a∈(c.2:Ze),bQ (atm a) p
theorem mB {x:Int} {g:Nat} (h:g ∣ x.natAbs):x.tdiv (g:Int)*(g:Int)=x:=Int.tdiv_mul_cancel (Int.ofNat_dvd_left.2 h)
theorem va {co:List Int} {k:Int}:(∀x∈co,max 1 (gL k.natAbs co) ∣ x.natAbs)/\max 1 (gL k.natAbs co) ∣ k.natAbs:=by
 by_cases a:gL k.natAbs co=0
 ·rw [a];exact ⟨fun x _=>Nat.one_dvd _,Nat.one_dvd _⟩
 ·rw [Nat.max_eq_right (by omega)];exact ⟨(j1 co k.natAbs).2,(j1 co k.natAbs).1⟩
theorem NT {co:List Int} {k:Int} {s:Bool} {p:List Rat} (h:(qx co k s).2=true):bQ (atm (qx co k s).1) p↔bQ (co,k,s) p:=by
 obtain ⟨hd,hk⟩:=va (co:=co) (k:=k)
 unfold qx at*
 have e:0<max 1 (gL k.natAbs co):=by omega
 generalize max 1 (gL k.natAbs co)=g at*
 unfold ff at*
 cases c:qy (List.map (α:=Int) (fun x=>x.tdiv (g:Int)) co,k.tdiv (g:Int),s)with
 | false=>rw [c]at h;simp at h
 | true=>
   simp only [cond_true]
   refine (WL (a:=(co,k,s)) (b:=(List.map (α:=Int) (fun x=>x.tdiv (g:Int)) co,k.tdiv (g:Int),s)) (g:=(g:Int)) (by omega) ?_ (mB hk).symm rfl).symm
   show co=List.map (fun x=>x*(g:Int)) (List.map (α:=Int) (fun x=>x.tdiv (g:Int)) co)
   rw [List.map_map]
   exact ((List.map_congr_left (g:=id) fun x d=>mB (hd x d)).trans (List.map_id co)).symm
theorem NU (p q:Int): ∀(xs ys:List Int) (P:List Rat),xs.length=ys.length->q7 (qu p q xs ys) P=(p:Rat)*q7 xs P+(q:Rat)*q7 ys P
 | [],[],P,_=>by simp [qu,q7];grind
 | x::xs,y::ys,[],_=>by simp [qu,q7];grind
 | x::xs,y::ys,t::P,h=>by
   have a:=NU p q xs ys P (by simpa using h)
   show q7 ((p*x+q*y)::qu p q xs ys) (t::P)=_
   simp only [q7,a,Rat.intCast_add,Rat.intCast_mul];grind
 | [],_::_,_,h=>by simp at h
 | _::_,[],_,h=>by simp at h
theorem NV {a b:(Zf)} {p q:Int} {P:List Rat} (f:0<p) (g:0<q) (h:(bt a p b q).2=true):
 bQ (atm (bt a p b q).1) P↔((p:Rat)*evA (atm a) P+(q:Rat)*evA (atm b) P<0∨((a.2.2:Bool)=false/\(b.2.2:Bool)=false/\(p:Rat)*evA (atm a) P+(q:Rat)*evA (atm b) P=0)):=by
 unfold bt at*
 cases c:(qy a&&qy b&&decide (List.length (α:=Int) a.1=List.length (α:=Int) b.1)&&inR p 0 400000000&&inR q 0 400000000)with
 | false=>rw [c]at h;simp at h
 | true=>
   rw [c]at h
   simp only [cond_true]at h ⊢
   rw [NT h]
   simp only [Bool.and_eq_true,decide_eq_true_eq]at c
   have d:=c.1.1.2
   have e:evA ((qu p q a.1 b.1,p*(a.2.1:Int)+q*(b.2.1:Int),((a.2.2:Bool)&&decide (0<p))||((b.2.2:Bool)&&decide (0<q))):Atm) P=(p:Rat)*evA (atm a) P+(q:Rat)*evA (atm b) P:=by
    unfold evA
    simp only
    rw [NU p q _ _ P d,Rat.intCast_add,Rat.intCast_mul,Rat.intCast_mul]
    grind
   unfold bQ
   rw [e]
   simp only [decide_eq_true f,decide_eq_true g,Bool.and_true,Bool.or_eq_false_iff,and_assoc]
theorem CC: ∀(xs:List Int) (P:List Rat),(∀x∈xs,x=0)->q7 xs P=0
 | [],_,_=>by simp [q7]
 | _::_,[],_=>by simp [q7]
 | x::xs,t::P,h=>by
   have a:=h x (by simp)
   subst a
   simp only [q7,CC xs P fun y b=>h y (by simp [b])]
   grind
theorem oP {a:(Zf)} {P:List Rat} (h:bo a=false):bQ (atm a) P↔bU a=false:=by
 have b:gL 0 (atm a).1=0:=by
  unfold bo at h
  simpa using h
 have e:evA (atm a) P=((a.2.1:Int):Rat):=by
  unfold evA
  rw [CC _ P (mg.1 b)]
  show 0+((a.2.1:Int):Rat)=_
  grind
 unfold bQ bU
 rw [e,h]
 obtain ⟨l,k,s⟩:=a
 change Int at k
 show ((k:Rat)<0∨s=false/\(k:Rat)=0)↔(!false&&(decide (0<k)||(decide (k=0)&&s)))=false
 rw [Rat.intCast_neg_iff,show ((k:Rat)=0↔k=0) from ⟨fun h=>by exact_mod_cast h,fun h=>by rw [h];rfl⟩]
 rcases Int.lt_trichotomy k 0 with h1 | h1 | h1
 ·have: ¬0<k:=by omega
  have: ¬k=0:=by omega
  simp [*]
 ·subst h1;cases s<;>simp
 ·have: ¬k<0:=by omega
  have: ¬k=0:=by omega
  simp [*]
theorem vb {d:Int} {l:Ze} {P:List Rat}:cS (qS d l) P↔ ∀a∈l,bQ (atm a) P:=by
 unfold qS cS
 cases e:l.any bU with
 | true=>
   constructor
   ·intro h
    have:=h (List.replicate d.toNat (0:Int),(1:Int),false) (by show _∈[_];simp)
    rw [oP (uV d)]at this
    unfold bU at this
    rw [uV]at this
    simp at this
   ·intro h
    obtain ⟨a,b,h1⟩:=List.any_eq_true.1 e
    have h2:=h a b
    have c:bo a=false:=by
        unfold bU at h1
        cases c:bo a with
        | false=>rfl
        | true=>rw [c]at h1;simp at h1
    rw [oP c,h1]at h2
    simp at h2
 | false=>
   show (∀a∈eD (l.filter bo),bQ (atm a) P)↔_
   refine (show (∀a∈eD (l.filter bo),bQ (atm a) P)↔_ from WN (l.filter bo) P).trans ?_
   constructor
   ·intro h a b
    cases c:bo a with
    | true=>exact h a (List.mem_filter.2 ⟨b,c⟩)
    | false=>
      rw [oP c]
      have:=List.any_eq_false.1 e a b
      simpa using this
   ·intro h a b
    exact h a (List.mem_filter.1 b).1
theorem CD {v:Int} {a:(Zf)} {Q:(Zf)->Prop}: ∀{xs s g:Ze},dm v a xs s=some g->((∀m∈g,Q m)↔(∀m∈s,Q m)/\ ∀b∈xs,cfV v b<0->(bt a (-cfV v b) b (cfV v a)).2=true/\Q (bt a (-cfV v b) b (cfV v a)).1)
 | [],s,g,h=>by simp only [dm,Option.some.injEq]at h;subst h;simp
 | b::r,s,g,h=>by
   simp only [dm]at h
   by_cases f:cfV v b<0
   ·rw [decide_eq_true f]at h
    cases hm:(bt a (-cfV v b) b (cfV v a)).2 with
    | false=>rw [hm]at h;simp at h
    | true=>
      rw [hm]at h
      simp only [cond_true]at h
      rw [CD h]
      simp only [List.mem_append,List.mem_cons,List.not_mem_nil,or_false]
      constructor
      ·rintro ⟨h1,h2⟩
       refine ⟨fun m hm=>h1 m (.inl hm),fun c d e=> ?_⟩
       rcases d with rfl | d
       ·exact ⟨hm,h1 _ (.inr rfl)⟩
       ·exact h2 c d e
      ·rintro ⟨h1,h2⟩
       refine ⟨fun m hm=> ?_,fun c d e=>h2 c (.inr d) e⟩
       rcases hm with hm | rfl
       ·exact h1 m hm
       ·exact (h2 b (.inl rfl) f).2
   ·rw [decide_eq_false f]at h
    simp only [cond_false]at h
    rw [CD h]
    simp only [List.mem_cons]
    constructor
    ·rintro ⟨h1,h2⟩
     refine ⟨h1,fun c d e=> ?_⟩
     rcases d with rfl | d
     ·exact absurd e f
     ·exact h2 c d e
    ·rintro ⟨h1,h2⟩
     exact ⟨h1,fun c d e=>h2 c (.inr d) e⟩
theorem CE {v:Int} {l:Ze} {Q:(Zf)->Prop}: ∀{xs s g:Ze},c5 v l xs s=some g->((∀m∈g,Q m)↔(∀m∈s,Q m)/\ ∀a∈xs,0<cfV v a-> ∀b∈l,cfV v b<0->(bt a (-cfV v b) b (cfV v a)).2=true/\Q (bt a (-cfV v b) b (cfV v a)).1)
 | [],s,g,h=>by simp only [c5,Option.some.injEq]at h;subst h;simp
 | a::r,s,g,h=>by
   simp only [c5]at h
   by_cases f:0<cfV v a
   ·rw [decide_eq_true f]at h
    simp only [cond_true]at h
    cases hm:dm v a l s with
    | none=>rw [hm]at h;simp at h
    | some s1=>
      rw [hm]at h
      rw [CE h,CD hm]
      simp only [List.mem_cons]
      constructor
      ·rintro ⟨⟨h1,h2⟩,i⟩
       refine ⟨h1,fun c d e=> ?_⟩
       rcases d with rfl | d
       ·exact h2
       ·exact i c d e
      ·rintro ⟨h1,h2⟩
       exact ⟨⟨h1,h2 a (.inl rfl) f⟩,fun c d e=>h2 c (.inr d) e⟩
   ·rw [decide_eq_false f]at h
    simp only [cond_false]at h
    rw [CE h]
    simp only [List.mem_cons]
    constructor
    ·rintro ⟨h1,h2⟩
     refine ⟨h1,fun c d e=> ?_⟩
     rcases d with rfl | d
     ·exact absurd e f
     ·exact h2 c d e
    ·rintro ⟨h1,h2⟩
     exact ⟨h1,fun c d e=>h2 c (.inr d) e⟩
theorem qZ4 {d:Int} {l:Ze} (h:(dk d l).2=true):(dk d l).1=qS d l:=by
 unfold dk at*
 cases a:decide ((16:Int)<(List.length (α:=(Zf)) (qS d l).2:Int))with
 | true=>rw [a]at h;simp at h
 | false=>rfl
theorem NW {c:(Zj)} {v:Int} (h:(qW c v).2=true): ∃s,(qW c v).1=qS c.1 s/\ ∀Q:(Zf)->Prop,(∀m∈s,Q m)↔(∀a∈(c.2:Ze),cfV v a=0->Q a)/\ ∀a∈(c.2:Ze),0<cfV v a-> ∀b∈(c.2:Ze),cfV v b<0->(bt a (-cfV v b) b (cfV v a)).2=true/\Q (bt a (-cfV v b) b (cfV v a)).1:=by
 unfold qW at*
 cases hm:c5 v c.2 c.2 (List.filter (α:=(Zf)) (fun a=>decide (cfV v a=0)) c.2)with
 | none=>rw [hm]at h;simp at h
 | some s=>
   rw [hm]at h
   refine ⟨s,qZ4 h,fun Q=> ?_⟩
   rw [CE hm]
   simp only [List.mem_filter,decide_eq_true_eq,and_imp]
theorem CF {a:(Zf)} {P:List Rat} {v:Int} {t:Rat} {d:Int} (b:okD d a) (e:(P.length:Int)=d) (f:0<=v/\v<d):evA (atm a) (P.set v.toNat t)=evA (atm a) P+((cfV v a:Int):Rat)*(t - P.getD v.toNat 0):=by
 have c:(List.length (α:=Int) a.1:Int)=d:=b.2
 exact K2 (a:=atm a) (by omega) (show List.length (α:=Int) a.1=P.length by omega)
theorem NX {c:(Zj)} {v:Int} {P:List Rat} (E:qI c=true) (r:0<=v/\v<(c.1:Int)) (o:(P.length:Int)=(c.1:Int)) (h:(qW c v).2=true):cS (qW c v).1 P↔ ∃t,cS c (P.set v.toNat t):=by
 obtain ⟨s,e,hs⟩:=NW h
 obtain ⟨_,_,n⟩:=bB E
 rw [e,vb,hs (fun a=>bQ (atm a) P)]
 constructor
 ·rintro ⟨h1,h2⟩
  refine elim (l:=c.2) (v:=v.toNat) (p:=P) (by omega) (fun a d=> ?_) (fun a d w=>h1 a d w) fun a d b j i m=> ?_
  ·have:(List.length (α:=Int) a.1:Int)=(c.1:Int):=(n a d).2
   omega
  ·obtain ⟨g1,g2⟩:=h2 a d i b j m
   have F:cfV v b<0:=m
   exact (NV (by omega) i g1).1 g2
 ·rintro ⟨t,q⟩
  refine ⟨fun a d w=> ?_,fun a d i b j m=> ?_⟩
  ·have:=q a d
   unfold bQ at this ⊢
   rw [CF (n a d) o r,w]at this
   have z:evA (atm a) P+((0:Int):Rat)*(t - P.getD v.toNat 0)=evA (atm a) P:=by grind
   rw [z]at this
   exact this
  ·have g1:(bt a (-cfV v b) b (cfV v a)).2=true:=by
        have:=(hs fun _=>True).1 (fun _ _=>trivial)
        exact (this.2 a d i b j m).1
   refine ⟨g1,(NV (by omega) i g1).2 ?_⟩
   have f:=q a d
   have g:=q b j
   unfold bQ at f g
   rw [CF (n a d) o r]at f
   rw [CF (n b j) o r]at g
   have H:(0:Rat)<((cfV v a:Int):Rat):=Rat.intCast_pos.2 i
   have F:((cfV v b:Int):Rat)<0:=Rat.intCast_neg_iff.2 m
   rw [Rat.intCast_neg]
   change _∨((a.2.2:Bool)=false/\_)at f
   change _∨((b.2.2:Bool)=false/\_)at g
   generalize ((cfV v a:Int):Rat)=x at*
   generalize ((cfV v b:Int):Rat)=y at*
   generalize evA (atm a) P=A at*
   generalize evA (atm b) P=B at*
   generalize t - P.getD v.toNat 0=u at*
   have k: -y*A+x*B= -y*(A+x*u)+x*(B+y*u):=by grind
   rw [k]
   have G:0< -y:=by grind
   obtain ⟨I,J⟩:=fa (x:=A+x*u) G
   obtain ⟨K,L⟩:=fa (x:=B+y*u) H
   rw [<-I,<-J]at f
   rw [<-K,<-L]at g
   generalize -y*(A+x*u)=X at*
   generalize x*(B+y*u)=Y at*
   rcases f with f | ⟨C,M⟩<;>rcases g with g | ⟨D,N⟩
   ·left;grind
   ·left;grind
   ·left;grind
   ·right;exact ⟨C,D,by grind⟩
theorem CG {d v:Int}: ∀(k:Nat) {x y:(Zj)} {P:List Rat},okN d x->(k:Int)<=d->(P.length:Int)=d->cO v k x=some y->(cS y P↔ ∃a:List Rat,a.length=P.length/\(∀i:Nat,k<=i∨(i:Int)=v->a.getD i 0=P.getD i 0)/\cS x a)
 | 0,x,y,P,f,hk,e,h=>by
   simp only [cO,Option.some.injEq]at h
   subst h
   constructor
   ·exact fun h=>⟨P,rfl,fun _ _=>rfl,h⟩
   ·rintro ⟨a,h1,h2,b⟩
    have:a=P:=List.ext_getElem h1 fun i c p=>by
        have:=h2 i (.inl (Nat.zero_le _))
        simpa [List.getD,List.getElem?_eq_getElem c,List.getElem?_eq_getElem p] using this
    exact this▸b
 | k+1,x,y,P,f,hk,e,h=>by
   rw [cO]at h
   by_cases m:(k:Int)=v
   ·rw [if_pos m]at h
    rw [CG k f (by omega) e h]
    constructor
    ·rintro ⟨a,h1,h2,b⟩
     exact ⟨a,h1,fun i c=>h2 i (by omega),b⟩
    ·rintro ⟨a,h1,h2,b⟩
     exact ⟨a,h1,fun i c=>h2 i (by omega),b⟩
   ·rw [if_neg m]at h
    cases hm:(qW x k).2 with
    | false=>rw [hm]at h;simp at h
    | true=>
      rw [hm]at h
      simp only [cond_true]at h
      obtain ⟨n,u,g⟩:=f
      have j:=kp n hm
      rw [g]at j
      rw [CG k j (by omega) e h]
      have s:0<=(k:Int)/\(k:Int)<(x.1:Int):=⟨by omega,by rw [g];omega⟩
      have key: ∀a:List Rat,a.length=P.length->(cS (qW x k).1 a↔ ∃t,cS x (a.set k t)):=fun a o=>NX n s (by rw [g,o];exact e) hm
      constructor
      ·rintro ⟨a,h1,h2,b⟩
       obtain ⟨t,r⟩:=(key a h1).1 b
       refine ⟨a.set k t,by rw [List.length_set,h1],fun i c=> ?_,r⟩
       rw [<-h2 i (by omega)]
       have:k≠i:=by omega
       simp [List.getD,List.getElem?_set_ne this]
      ·rintro ⟨a,h1,h2,b⟩
       refine ⟨a.set k (P.getD k 0),by rw [List.length_set,h1],fun i c=> ?_,?_⟩
       ·by_cases l:k=i
        ·subst l
         have:k<a.length:=by omega
         simp [List.getD,this]
        ·rw [<-h2 i (by omega)]
         simp [List.getD,List.getElem?_set_ne l]
       ·rw [key _ (by rw [List.length_set,h1])]
        refine ⟨a.getD k 0,?_⟩
        have q:k<a.length:=by omega
        rw [List.set_set]
        have:a.set k (a.getD k 0)=a:=by
         simp [List.getD,List.getElem?_eq_getElem q]
        rw [this];exact b
def en (w:Int) (c:(Zj)):Prop:= ∀a∈(c.2:Ze),cfV w a=0
theorem qNa (w d:Int):en w (eF d):=fun a b=>by
 have b:a∈([(List.replicate d.toNat (0:Int),(1:Int),false)]:Ze):=b
 rw [List.mem_singleton.1 b]
 show List.getD (List.replicate d.toNat (0:Int)) w.toNat 0=0
 by_cases h:w.toNat<d.toNat
 ·simp [List.getD,h]
 ·simp [List.getD,h]
theorem qU2 {w d:Int} {l:Ze} (h: ∀a∈l,cfV w a=0):en w (qS d l):=fun a b=>by
 unfold qS at b
 cases c:l.any bU with
 | true=>rw [c]at b;exact qNa w d a b
 | false=>
   rw [c]at b
   have b:a∈eD (l.filter bo):=b
   exact h a (List.mem_filter.1 (BT b)).1
theorem NY {w:Int} {co:List Int} {k:Int} {s:Bool} (h:co.getD w.toNat 0=0):cfV w (qx co k s).1=0:=by
 unfold qx ff
 generalize max 1 (gL k.natAbs co)=g
 cases qy (List.map (α:=Int) (fun x=>x.tdiv (g:Int)) co,k.tdiv (g:Int),s)with
 | false=>simp [cfV]
 | true=>
   show (List.map (α:=Int) (fun x=>x.tdiv (g:Int)) co).getD w.toNat 0=0
   by_cases hw:w.toNat<co.length
   ·simp [List.getD,hw]at h ⊢
    rw [h];simp
   ·simp [List.getD,List.getElem?_eq_none (show co.length<=w.toNat by omega)]
theorem qOe {w p q:Int} {a b:(Zf)} (h:p*cfV w a+q*cfV w b=0):cfV w (bt a p b q).1=0:=by
 unfold bt
 cases c:(qy a&&qy b&&decide (List.length (α:=Int) a.1=List.length (α:=Int) b.1)&&inR p 0 400000000&&inR q 0 400000000)with
 | false=>simp [cfV]
 | true=>
   simp only [cond_true]
   simp only [Bool.and_eq_true,decide_eq_true_eq]at c
   have d:=c.1.1.2
   refine NY ?_
   by_cases hw:w.toNat<List.length (α:=Int) a.1
   ·have e:w.toNat<List.length (α:=Int) b.1:=by omega
    simp only [cfV,List.getD,List.getElem?_eq_getElem hw,List.getElem?_eq_getElem e,Option.getD_some]at h
    have:w.toNat<(qu p q a.1 b.1).length:=by rw [dz d];exact hw
    simp only [List.getD,List.getElem?_eq_getElem this,Option.getD_some]
    simpa [qu] using h
   ·have:(qu p q a.1 b.1).length<=w.toNat:=by rw [dz d];omega
    simp [List.getD,List.getElem?_eq_none this]
theorem vc {c:(Zj)} {v w:Int} (h:(qW c v).2=true) (hw:w=v∨en w c):en w (qW c v).1:=by
 obtain ⟨s,e,hs⟩:=NW h
 rw [e]
 refine qU2 ((hs fun a=>cfV w a=0).2 ⟨fun a d g=> ?_,fun a d j b f i=> ?_⟩)
 ·rcases hw with rfl | hw
  ·exact g
  ·exact hw a d
 ·have:=(hs fun _=>True).1 (fun _ _=>trivial)
  refine ⟨(this.2 a d j b f i).1,qOe ?_⟩
  rcases hw with rfl | hw
  ·rw [Int.mul_comm (cfV w a),Int.neg_mul];omega
  ·rw [hw a d,hw b f];simp
theorem CH {v w:Int}: ∀(k:Nat) {x y:(Zj)},cO v k x=some y->(en w x∨0<=w/\w<k/\w≠v)->en w y
 | 0,x,y,h,hw=>by
   simp only [cO,Option.some.injEq]at h
   subst h
   rcases hw with hw | hw
   ·exact hw
   ·omega
 | k+1,x,y,h,hw=>by
   rw [cO]at h
   by_cases a:(k:Int)=v
   ·rw [if_pos a]at h
    refine CH k h ?_
    rcases hw with hw | hw
    ·exact .inl hw
    ·exact .inr (by omega)
   ·rw [if_neg a]at h
    cases hm:(qW x k).2 with
    | false=>rw [hm]at h;simp at h
    | true=>
      rw [hm]at h
      simp only [cond_true]at h
      refine CH k h ?_
      rcases hw with hw | hw
      ·exact .inl (vc hm (.inr hw))
      ·by_cases b:w=k
       ·exact .inl (vc hm (.inl b))
       ·exact .inr (by omega)
def qH (r:(Zh)):Rat:=((r.1:Int):Rat) / ((r.2:Int):Rat)
theorem fI {r:(Zh)} (h:qh r=true):(0:Rat)<((r.2:Int):Rat)/\qH r*((r.2:Int):Rat)=((r.1:Int):Rat):=by
 have h1:1<=(r.2:Int):=(Cm h).1
 have h2:(0:Rat)<((r.2:Int):Rat):=Rat.intCast_pos.2 (Int.lt_of_lt_of_le (by decide) h1)
 exact ⟨h2,Rat.div_mul_cancel (by grind)⟩
theorem mC {a b:(Zh)} (j:qh a=true) (k:qh b=true):bD a b=true↔qH a<qH b:=by
 obtain ⟨f,a2⟩:=fI j
 obtain ⟨g,i⟩:=fI k
 unfold bD
 rw [decide_eq_true_eq,<-Rat.intCast_lt_intCast,Rat.intCast_mul,Rat.intCast_mul,<-a2,<-i]
 generalize qH a=x at*
 generalize qH b=y at*
 generalize ((a.2:Int):Rat)=c at*
 generalize ((b.2:Int):Rat)=d at*
 have e:x*c*d - y*d*c=(c*d)*(x - y):=by grind
 obtain ⟨s,_⟩:=fa (x:=x - y) (Rat.mul_pos f g)
 rw [<-e]at s
 constructor
 ·intro h;have:=s.1 (by grind);grind
 ·intro h;have:=s.2 (by grind);grind
theorem vd {a b:(Zh)} (c:qh a=true) (d:qh b=true) (h:qH a=qH b):a=b:=by
 obtain ⟨f,a2⟩:=fI c
 obtain ⟨g,e⟩:=fI d
 refine NI c d ?_
 rw [<-Rat.intCast_inj,Rat.intCast_mul,Rat.intCast_mul,<-a2,<-e,h]
 grind
theorem NZ {m e:Int} (h:qh (gy m e)=true):(gy m e).1*e=m*(gy m e).2:=by
 unfold gy at*
 cases c:qh (m.tdiv (qR m e),e.tdiv (qR m e))with
 | false=>rw [c]at h;simp [qh,inR]at h
 | true=>
   simp only [cond_true]
   have h1:qR m e ∣ m:=by unfold qR;exact Int.ofNat_dvd_left.2 (Nat.gcd_dvd_left _ _)
   have h2:qR m e ∣ e:=by unfold qR;exact Int.ofNat_dvd_left.2 (Nat.gcd_dvd_right _ _)
   have a:=Int.tdiv_mul_cancel h1
   have b:=Int.tdiv_mul_cancel h2
   generalize qR m e=g at*
   generalize m.tdiv g=x at*
   generalize e.tdiv g=y at*
   show x*e=m*y
   rw [<-a,<-b];grind
theorem N0 {n d:Int} (h:qh (qT n d)=true):(qT n d).1*d=n*(qT n d).2:=by
 unfold qT at*
 by_cases a:d=0
 ·rw [if_pos a]at h;simp [qh,inR]at h
 ·rw [if_neg a]at h ⊢
  by_cases h1:d<0
  ·rw [if_pos h1]at h ⊢
   have:=NZ h
   rw [Int.mul_neg,Int.neg_mul]at this
   exact Int.neg_inj.1 this
  ·rw [if_neg h1]at h ⊢
   exact NZ h
theorem N1 {a:(Zf)} {v:Int} (b:okA a) (g:cfV v a≠0):((a.2.1:Int):Rat)= -((cfV v a:Int):Rat)*qH (qF (-(a.2.1:Int)) (cfV v a)):=by
 have d:=mA b g
 obtain ⟨k,j⟩:=fI d
 have c:=fg b
 have i:=oH (v:=v) b
 have e:qF (-(a.2.1:Int)) (cfV v a)=qT (-(a.2.1:Int)) (cfV v a):=Cn ⟨Int.neg_le_neg c.2,by have:=Int.neg_le_neg c.1;exact this⟩ i
 have f:=N0 (e▸d)
 rw [<-e]at f
 rw [<-Rat.intCast_inj,Rat.intCast_mul,Rat.intCast_mul,Rat.intCast_neg,<-j]at f
 generalize qH (qF (-(a.2.1:Int)) (cfV v a))=q at*
 generalize (((qF (-(a.2.1:Int)) (cfV v a)).2:Int):Rat)=u at*
 have:u*(-((a.2.1:Int):Rat) - ((cfV v a:Int):Rat)*q)=0:=by grind
 rcases Rat.mul_eq_zero.1 this with h | h<;>grind
def inB (b:(Zk)) (t:Rat):Prop:=
 ((b.1:Bool)=true->qH b.2.1<t∨((b.2.2.1:Bool)=false/\qH b.2.1=t))/\((b.2.2.2.1:Bool)=true->t<qH b.2.2.2.2.1∨((b.2.2.2.2.2.1:Bool)=false/\t=qH b.2.2.2.2.1))
def atV (v:Int) (a:(Zf)) (t:Rat):Prop:=((cfV v a:Int):Rat)*t+((a.2.1:Int):Rat)<0∨((a.2.2:Bool)=false/\((cfV v a:Int):Rat)*t+((a.2.1:Int):Rat)=0)
theorem qUo {a:(Zf)} {v:Int} {t:Rat} (c:okA a) (b:0<cfV v a):atV v a t↔t<qH (qF (-(a.2.1:Int)) (cfV v a))∨((a.2.2:Bool)=false/\t=qH (qF (-(a.2.1:Int)) (cfV v a))):=by
 have e:=N1 c (show cfV v a≠0 by omega)
 unfold atV
 rw [e]
 generalize qH (qF (-(a.2.1:Int)) (cfV v a))=q at*
 have d:(0:Rat)<((cfV v a:Int):Rat):=Rat.intCast_pos.2 b
 obtain ⟨s1,s2⟩:=fa (x:=t - q) d
 rw [show ((cfV v a:Int):Rat)*t+ -((cfV v a:Int):Rat)*q=((cfV v a:Int):Rat)*(t - q) by grind,s1,s2]
 rw [show (t - q<0↔t<q) by constructor<;>grind,show (t - q=0↔t=q) by constructor<;>grind]
theorem qYY {a:(Zf)} {v:Int} {t:Rat} (c:okA a) (b:cfV v a<0):atV v a t↔qH (qF (-(a.2.1:Int)) (cfV v a))<t∨((a.2.2:Bool)=false/\qH (qF (-(a.2.1:Int)) (cfV v a))=t):=by
 have e:=N1 c (show cfV v a≠0 by omega)
 unfold atV
 rw [e]
 generalize qH (qF (-(a.2.1:Int)) (cfV v a))=q at*
 have d:((cfV v a:Int):Rat)<0:=Rat.intCast_neg_iff.2 b
 obtain ⟨s1,s2⟩:=fa (g:= -((cfV v a:Int):Rat)) (x:=q - t) (by grind)
 rw [show ((cfV v a:Int):Rat)*t+ -((cfV v a:Int):Rat)*q= -((cfV v a:Int):Rat)*(q - t) by grind,s1,s2]
 rw [show (q - t<0↔q<t) by constructor<;>grind,show (q - t=0↔q=t) by constructor<;>grind]
theorem qOM {b:(Zk)} {a:(Zf)} {v:Int} {t:Rat} (u:c6 b) (i:okA a) (o:cfV v a≠0):inB (bO b a v) t↔inB b t/\atV v a t:=by
 have e:=mA i o
 obtain ⟨q,l,lo,p,g,w,em⟩:=b
 obtain ⟨⟨_,bl⟩,_,n⟩:=u
 change q=true->qh l=true at bl
 change p=true->qh g=true at n
 unfold bO
 rcases Int.lt_or_gt_of_ne o with f | f
 ·rw [decide_eq_false (show ¬0<cfV v a by omega),decide_eq_true f,qYY i f]
  generalize qF (-(a.2.1:Int)) (cfV v a)=r at*
  simp only [cond_false,cond_true]
  generalize hs:(a.2.2:Bool)=s
  cases q with
  | false=>
    simp only [Bool.not_false,Bool.true_or,cond_true]
    unfold inB
    simp only [Bool.false_eq_true,false_imp_iff,true_imp_iff,true_and]
    exact and_comm
  | true=>
    have m:=bl rfl
    simp only [Bool.not_true,Bool.false_or]
    by_cases c:(bD l r||(decide (r=l)&&s))=true
    ·rw [c]
     unfold inB
     simp only [cond_true,true_imp_iff]
     simp only [Bool.or_eq_true,Bool.and_eq_true,decide_eq_true_eq,mC m e]at c
     rcases c with c | ⟨rfl,rfl⟩
     ·constructor
      ·rintro ⟨h1,h2⟩;exact ⟨⟨by grind,h2⟩,h1⟩
      ·rintro ⟨⟨h1,h2⟩,d⟩;exact ⟨d,h2⟩
     ·constructor
      ·rintro ⟨h1,h2⟩;exact ⟨⟨by grind,h2⟩,h1⟩
      ·rintro ⟨⟨h1,h2⟩,d⟩;exact ⟨d,h2⟩
    ·have j:(bD l r||(decide (r=l)&&s))=false:=by simpa using c
     rw [j]
     unfold inB
     simp only [cond_false,true_imp_iff]
     simp only [Bool.or_eq_true,Bool.and_eq_true,decide_eq_true_eq,mC m e,not_or,not_and]at c
     obtain ⟨c1,c2⟩:=c
     constructor
     ·rintro ⟨h1,h2⟩
      refine ⟨⟨h1,h2⟩,?_⟩
      by_cases he:qH r=qH l
      ·have:=c2 (vd e m he)
       have:s=false:=by simpa using this
       grind
      ·left;grind
     ·exact fun h=>h.1
 ·rw [decide_eq_true f,qUo i f]
  generalize qF (-(a.2.1:Int)) (cfV v a)=r at*
  simp only [cond_true]
  generalize hs:(a.2.2:Bool)=s
  cases p with
  | false=>
    simp only [Bool.not_false,Bool.true_or,cond_true]
    unfold inB
    simp only [Bool.false_eq_true,false_imp_iff,true_imp_iff,and_true]
  | true=>
    have k:=n rfl
    simp only [Bool.not_true,Bool.false_or]
    by_cases c:(bD r g||(decide (r=g)&&s))=true
    ·rw [c]
     unfold inB
     simp only [cond_true,true_imp_iff]
     simp only [Bool.or_eq_true,Bool.and_eq_true,decide_eq_true_eq,mC e k]at c
     rcases c with c | ⟨rfl,rfl⟩
     ·constructor
      ·rintro ⟨h1,h2⟩;exact ⟨⟨h1,by grind⟩,h2⟩
      ·rintro ⟨⟨h1,h2⟩,d⟩;exact ⟨h1,d⟩
     ·constructor
      ·rintro ⟨h1,h2⟩;exact ⟨⟨h1,by grind⟩,h2⟩
      ·rintro ⟨⟨h1,h2⟩,d⟩;exact ⟨h1,d⟩
    ·have j:(bD r g||(decide (r=g)&&s))=false:=by simpa using c
     rw [j]
     unfold inB
     simp only [cond_false,true_imp_iff]
     simp only [Bool.or_eq_true,Bool.and_eq_true,decide_eq_true_eq,mC e k,not_or,not_and]at c
     obtain ⟨c1,c2⟩:=c
     constructor
     ·rintro ⟨h1,h2⟩
      refine ⟨⟨h1,h2⟩,?_⟩
      by_cases he:qH r=qH g
      ·have:=c2 (vd e k he)
       have:s=false:=by simpa using this
       grind
      ·left;grind
     ·exact fun h=>h.1
theorem qOL {b:(Zk)} {a:(Zf)} {v:Int} (c:cfV v a=0):bO b a v=b:=by
 unfold bO
 rw [c]
 rfl
theorem N2 {v:Int} {t:Rat}: ∀(l:Ze) {b:(Zk)},c6 b->(∀a∈l,okA a)->(inB (l.foldl (fun b a=>bO b a v) b) t↔inB b t/\ ∀a∈l,cfV v a≠0->atV v a t)
 | [],b,_,_=>by simp
 | a::l,b,e,h=>by
   have d:=h a (by simp)
   rw [List.foldl_cons,N2 l (u6 e d) fun x f=>h x (by simp [f])]
   by_cases c:cfV v a=0
   ·rw [qOL c]
    simp [c]
   ·rw [qOM e d c]
    simp [and_assoc,c]
theorem qXA (t:Rat):inB noB t:=⟨fun h=>by simp [noB]at h,fun h=>by simp [noB]at h⟩
def oQ (d v:Int) (c:(Zj)):Prop:= ∀w,0<=w->w<d->w≠v->en w c
theorem N3: ∀(xs:List Int) (P:List Rat) (v:Nat),(∀i,i≠v->xs.getD i 0=0)->q7 xs P=((xs.getD v 0:Int):Rat)*P.getD v 0∨P.length<xs.length
 | [],P,v,_=>by left;simp [q7]
 | x::xs,[],v,_=>by right;simp
 | x::xs,y::P,0,h=>by
   left
   have a: ∀z∈xs,z=0:=fun z a=>by
    obtain ⟨i,b,rfl⟩:=List.mem_iff_getElem.1 a
    have:=h (i+1) (by omega)
    simpa [List.getD,List.getElem?_eq_getElem b] using this
   simp only [q7,CC xs P a,List.getD_cons_zero];grind
 | x::xs,y::P,v+1,h=>by
   have c:x=0:=by simpa using h 0 (by omega)
   subst c
   rcases N3 xs P v fun i b=>by simpa using h (i+1) (by omega)with e | e
   ·left
    simp only [q7,e,List.getD_cons_succ];grind
   ·right;simpa using e
theorem N4 {d v:Int} {c:(Zj)} {P:List Rat} (hd: ∀a∈(c.2:Ze),okD d a) (k:(P.length:Int)=d) (h:oQ d v c) {a:(Zf)} (b:a∈(c.2:Ze)):bQ (atm a) P↔atV v a (P.getD v.toNat 0):=by
 have j:(List.length (α:=Int) a.1:Int)=d:=(hd a b).2
 have e:evA (atm a) P=((cfV v a:Int):Rat)*P.getD v.toNat 0+((a.2.1:Int):Rat):=by
  unfold evA
  have key:=N3 a.1 P v.toNat fun i g=>by
   by_cases f:(i:Int)<d
   ·exact h i (by omega) f (by omega) a b
   ·have:List.length (α:=Int) a.1<=i:=by omega
    simp [List.getD,List.getElem?_eq_none this]
  rcases key with e | e
  ·show q7 a.1 P+_=_
   rw [e];rfl
  ·omega
 unfold bQ atV
 rw [e]
theorem qXq {d v:Int} {c:(Zj)} (hd: ∀a∈(c.2:Ze),okD d a) (h:oQ d v c) {a:(Zf)} (b:a∈(c.2:Ze)) (k:cfV v a=0):bo a=false:=by
 have:gL 0 (atm a).1=0:=mg.2 fun x j=>by
  obtain ⟨i,g,rfl⟩:=List.mem_iff_getElem.1 j
  have l:(List.length (α:=Int) a.1:Int)=d:=(hd a b).2
  have e:i<List.length (α:=Int) a.1:=g
  by_cases f:(i:Int)=v
  ·have:cfV (i:Int) a=0:=by rw [f];exact k
   simpa [cfV,List.getD,List.getElem?_eq_getElem e] using this
  ·have:=h i (by omega) (by omega) f a b
   simpa [cfV,List.getD,List.getElem?_eq_getElem e] using this
 unfold bo
 simp [this]
theorem qTe {a:(Zf)} (h:bU a=true):bo a=false:=by
 unfold bU at h
 cases b:bo a with
 | false=>rfl
 | true=>rw [b]at h;simp at h
theorem N5 {d v:Int} {y:(Zj)} (hd: ∀a∈(y.2:Ze),okD d a) (h:oQ d v y):
 (((bX y v).2.2.2.2.2.2:Bool)=true-> ∀P:List Rat,(P.length:Int)=d-> ¬cS y P)/\
 (((bX y v).2.2.2.2.2.2:Bool)=false->bX y v=qO y v/\(∃t,inB (bX y v) t)/\ ∀P:List Rat,(P.length:Int)=d->(cS y P↔inB (bX y v) (P.getD v.toNat 0))):=by
 unfold bX
 cases r:List.any (α:=(Zf)) y.2 bU with
 | true=>
   refine ⟨fun _ P f e=> ?_,fun h=>by simp [gB]at h⟩
   obtain ⟨a,c,k⟩:=List.any_eq_true.1 r
   have:=e a c
   rw [oP (qTe k),k]at this
   simp at this
 | false=>
   have k:c6 (qO y v):=oO gD fun a c=>(hd a c).1
   have p:((qO y v).2.2.2.2.2.2:Bool)=false:=Co y.2 noB
   have u: ∀t,inB (qO y v) t↔ ∀a∈(y.2:Ze),cfV v a≠0->atV v a t:=fun t=>by
    refine (N2 y.2 gD fun a c=>(hd a c).1).trans ?_
    simp [qXA]
   have f: ∀P:List Rat,(P.length:Int)=d->(cS y P↔inB (qO y v) (P.getD v.toNat 0)):=fun P f=>by
    rw [u]
    constructor
    ·exact fun e a c _=>(N4 hd f h c).1 (e a c)
    ·intro e a c
     by_cases n:cfV v a=0
     ·rw [oP (qXq hd h c n)]
      have:=List.any_eq_false.1 r a c
      simpa using this
     ·exact (N4 hd f h c).2 (e a c n)
   simp only [cond_false]
   generalize qO y v=b at*
   obtain ⟨q,l,lo,e,g,j,em⟩:=b
   change em=false at p
   subst p
   obtain ⟨⟨_,bl⟩,_,m⟩:=k
   change q=true->qh l=true at bl
   change e=true->qh g=true at m
   unfold oM
   cases q with
   | false=>
     simp only [Bool.false_and,cond_false]
     refine ⟨fun h=>by simp at h,fun _=>⟨trivial,?_,f⟩⟩
     refine ⟨qH g - 1,fun h=>by simp at h,fun _=> .inl ?_⟩
     show qH g - 1<qH g
     grind
   | true=>
     cases e with
     | false=>
       simp only [Bool.and_false,Bool.false_and,cond_false]
       refine ⟨fun h=>by simp at h,fun _=>⟨trivial,?_,f⟩⟩
       refine ⟨qH l+1,fun _=> .inl ?_,fun h=>by simp at h⟩
       show qH l<qH l+1
       grind
     | true=>
       have rl:=bl rfl
       have rg:=m rfl
       simp only [Bool.true_and]
       cases i:bD g l||(decide (g=l)&&(lo||j))with
       | true=>
         simp only [cond_true]
         refine ⟨fun _ P s e=> ?_,fun h=>by simp [gB]at h⟩
         obtain ⟨h1,h2⟩:=(f P s).1 e
         have h1:=h1 rfl
         have h2:=h2 rfl
         change qH l<_∨(lo=false/\qH l=_)at h1
         change _<qH g∨(j=false/\_=qH g)at h2
         simp only [Bool.or_eq_true,Bool.and_eq_true,decide_eq_true_eq,mC rg rl]at i
         rcases i with i | ⟨rfl,i⟩
         ·grind
         ·rcases i with rfl | rfl<;>grind
       | false=>
         simp only [cond_false]
         refine ⟨fun h=>by simp at h,fun _=>⟨trivial,?_,f⟩⟩
         have o: ¬(bD g l||(decide (g=l)&&(lo||j)))=true:=by rw [i];simp
         simp only [Bool.or_eq_true,Bool.and_eq_true,decide_eq_true_eq,mC rg rl,not_or,not_and]at o
         obtain ⟨c1,c2⟩:=o
         refine ⟨(qH l+qH g) / 2,fun _=> ?_,fun _=> ?_⟩
         ·show qH l<_∨(lo=false/\qH l=_)
          by_cases he:qH g=qH l
          ·have:=c2 (vd rg rl he)
           have:lo=false:=by simpa using this.1
           grind
          ·left;grind
         ·show _<qH g∨(j=false/\_=qH g)
          by_cases he:qH g=qH l
          ·have:=c2 (vd rg rl he)
           have:j=false:=by simpa using this.2
           grind
          ·left;grind
theorem qZk {c:(Zj)} {v:Int} (h:(b9 c v).2=true):qI c=true/\(0<=v/\v<(c.1:Int))/\
 (((b9 c v).1.2.2.2.2.2.2:Bool)=true-> ∀P:List Rat,(P.length:Int)=(c.1:Int)-> ¬cS c P)/\
 (((b9 c v).1.2.2.2.2.2.2:Bool)=false->(∃t,inB (b9 c v).1 t)/\ ∀t,(inB (b9 c v).1 t↔ ∃P:List Rat,(P.length:Int)=(c.1:Int)/\P.getD v.toNat 0=t/\cS c P)):=by
 unfold b9 at*
 cases e:qI c with
 | false=>rw [e]at h;simp at h
 | true=>
 by_cases f:0<=v/\v<(c.1:Int)
 rotate_left
 ·rw [e,decide_eq_false f]at h;simp at h
 rw [e,decide_eq_true f]at h
 rw [decide_eq_true f]
 simp only [Bool.and_self,cond_true]at h ⊢
 obtain ⟨hd,_,_⟩:=bB e
 obtain ⟨x,k⟩:=iS e
 cases hm:cO v (c.1:Int).toNat (qS c.1 c.2)with
 | none=>rw [hm]at h;simp at h
 | some y=>
   simp only
   have j:=mv _ k hm
   have r:oQ c.1 v y:=fun w w0 B u=>CH _ hm (.inr ⟨w0,by omega,u⟩)
   have n: ∀P:List Rat,(P.length:Int)=(c.1:Int)->(cS y P↔ ∃b:List Rat,(b.length:Int)=(c.1:Int)/\b.getD v.toNat 0=P.getD v.toNat 0/\cS c b):=fun P d=>by
    rw [CG _ k (by omega) d hm]
    constructor
    ·rintro ⟨b,h1,h2,g⟩
     exact ⟨b,by omega,h2 _ (.inr (by omega)),vb.1 g⟩
    ·rintro ⟨b,h1,h2,g⟩
     refine ⟨b,by omega,fun i z=> ?_,vb.2 g⟩
     by_cases A:(i:Int)=v
     ·have:i=v.toNat:=by omega
      rw [this];exact h2
     ·have o:b.length<=i:=by omega
      have p:P.length<=i:=by omega
      simp [List.getD,List.getElem?_eq_none o,List.getElem?_eq_none p]
   have s: ∀a∈(y.2:Ze),okD c.1 a:=fun a l=>⟨((bB j.1).2.2 a l).1,((bB j.1).2.2 a l).2.trans j.2.2⟩
   obtain ⟨s1,s2⟩:=N5 s r
   refine ⟨trivial,f,fun he P d q=> ?_,fun he=> ?_⟩
   ·exact s1 he P d ((n P d).2 ⟨P,d,rfl,q⟩)
   ·obtain ⟨_,s3,s4⟩:=s2 he
    refine ⟨s3,fun t=> ?_⟩
    have hlen:((List.replicate (c.1:Int).toNat t).length:Int)=(c.1:Int):=by rw [List.length_replicate];omega
    have m:(List.replicate (c.1:Int).toNat t).getD v.toNat 0=t:=by
        have:v.toNat<(c.1:Int).toNat:=by omega
        simp [List.getD,this]
    have:=s4 _ hlen
    rw [m]at this
    rw [<-this,n _ hlen,m]
theorem N6: ∀(xs:List Int) (P:List Rat) (i:Nat) (z:Int),i<xs.length->i<P.length->q7 (xs.set i z) P=q7 xs P+(((z:Int):Rat) - ((xs.getD i 0:Int):Rat))*P.getD i 0
 | [],P,i,z,h,_=>by simp at h
 | x::xs,[],i,z,_,h=>by simp at h
 | x::xs,y::P,0,z,_,_=>by simp [q7];grind
 | x::xs,y::P,i+1,z,h,h'=>by
   simp only [List.set_cons_succ,q7,List.getD_cons_succ]
   rw [N6 xs P i z (by simpa using h) (by simpa using h')]
   grind
def dN (s:List Int) (g:Nat):List Int:=bif decide (0<(g:Int))then s.map (fun x=>x.tdiv (g:Int))else s
def cmb (x:List Int) (p:Int) (y:List Int) (q:Int):List Int×Bool:=bif (dN (qu p q x y) (gL 0 (qu p q x y))).all qq then (dN (qu p q x y) (gL 0 (qu p q x y)),true)else ([],false)
def cAt (v:Int) (x:List Int):Int:=x.getD v.toNat 0
def fi (v:Int) (x:List Int):List (List Int)->List (List Int)->Option (List (List Int))
 | [],s=>some s
 | y::r,s=>bif decide (cAt v y<0)then (bif (cmb x (-cAt v y) y (cAt v x)).2&&decide ((s.length:Int)<64)then fi v x r (s++[(cmb x (-cAt v y) y (cAt v x)).1])else none)else fi v x r s
def fJ (v:Int) (l:List (List Int)):List (List Int)->List (List Int)->Option (List (List Int))
 | [],s=>some s
 | x::r,s=>bif decide (0<cAt v x)then (match fi v x l s with
   | some a=>fJ v l r a
   | none=>none)else fJ v l r s
def iW (v:Int) (l:List (List Int)):Option (List (List Int)):=fJ v l l (l.filter fun x=>decide (cAt v x=0))
def fK:Nat->List (List Int)->Option (List (List Int))
 | 0,l=>some l
 | k+1,l=>match iW k l with
   | some l'=>fK k l'
   | none=>none
abbrev Mxd:=List Int×Int×Bool×List Int
def enc (m:Mxd):List Int:=m.1++m.2.1::m.2.2.2
def jnG (s:List Int) (k:Int) (b:Bool) (t:List Int) (g:Nat):Mxd×Bool:=((s.map (fun x=>x.tdiv (g:Int)),k.tdiv (g:Int),b,t.map (fun x=>x.tdiv (g:Int))),qq (k.tdiv (g:Int))&&(s.map (fun x=>x.tdiv (g:Int))).all qq&&(t.map (fun x=>x.tdiv (g:Int))).all qq)
def jn (a:Mxd) (p:Int) (b:Mxd) (q:Int):Mxd×Bool:=jnG (qu p q a.1 b.1) (p*a.2.1+q*b.2.1) (a.2.2.1||b.2.2.1) (qu p q a.2.2.2 b.2.2.2) (max 1 (gL (p*a.2.1+q*b.2.1).natAbs (qu p q a.1 b.1++qu p q a.2.2.2 b.2.2.2)))
def cT (v:Int) (x:Mxd):List Mxd->List Mxd->Option (List Mxd)
 | [],s=>some s
 | y::r,s=>bif decide (cAt v y.1<0)then (bif (jn x (-cAt v y.1) y (cAt v x.1)).2&&decide ((s.length:Int)<64)then cT v x r (s++[(jn x (-cAt v y.1) y (cAt v x.1)).1])else none)else cT v x r s
def dO (v:Int) (l:List Mxd):List Mxd->List Mxd->Option (List Mxd)
 | [],s=>some s
 | x::r,s=>bif decide (0<cAt v x.1)then (match cT v x l s with
   | some a=>dO v l r a
   | none=>none)else dO v l r s
def gE (v:Int) (l:List Mxd):Option (List Mxd):=dO v l l (l.filter fun x=>decide (cAt v x.1=0))
def eI:Nat->List Mxd->Option (List Mxd)
 | 0,l=>some l
 | k+1,l=>match gE k l with
   | some l'=>eI k l'
   | none=>none
def qQ (f:(Zf)->Int):List Int->Ze->Int
 | n::m,a::l=>n*f a+qQ f m l
 | _,_=>0
def bq:List Int->Ze->Bool
 | n::m,a::l=>(decide (0<n)&&a.2.2)||bq m l
 | _,_=>false
structure CmbOf (d:Nat) (l:Ze) (m:Mxd):Prop where
 ls:m.1.length=d
 lt:m.2.2.2.length=l.length
 nn: ∀x∈m.2.2.2,0<=x/\qq x=true
 cs: ∀v:Nat,v<d->cAt v m.1=qQ (cfV v) m.2.2.2 l
 ck:m.2.1=qQ (fun a=>a.2.1) m.2.2.2 l
 st:m.2.2.1=bq m.2.2.2 l
theorem CI: ∀(xs ys:List Int) (g:Nat),gL g (xs++ys)=gL (gL g xs) ys
 | [],_,_=>rfl
 | x::xs,ys,g=>by rw [List.cons_append,gL,gL];exact CI xs ys _
theorem q27 (s t:List Int) (k:Int):gL 0 (s++k::t)=gL k.natAbs (s++t):=by
 rw [CI,CI,gL,<-nW,Nat.gcd_zero_left]
theorem qPd {p q:Int} {a b c e:List Int} (h:a.length=b.length):qu p q (a++c) (b++e)=qu p q a b++qu p q c e:=by
 unfold qu
 rw [List.zip_append h,List.map_append]
theorem qM7 {p q:Int} {a b:Mxd} (h1:a.1.length=b.1.length):cmb (enc a) p (enc b) q=bif (jn a p b q).2 then (enc (jn a p b q).1,true)else ([],false):=by
 have e:qu p q (enc a) (enc b)=qu p q a.1 b.1++(p*a.2.1+q*b.2.1)::qu p q a.2.2.2 b.2.2.2:=by
  unfold enc
  rw [qPd h1]
  rfl
 unfold cmb jn
 rw [e,q27]
 generalize qu p q a.1 b.1=s
 generalize qu p q a.2.2.2 b.2.2.2=t
 generalize p*a.2.1+q*b.2.1=k
 have h:dN (s++k::t) (gL k.natAbs (s++t))=(s++k::t).map (fun x=>x.tdiv ((max 1 (gL k.natAbs (s++t)):Nat):Int)):=by
  unfold dN
  by_cases f:gL k.natAbs (s++t)=0
  ·rw [f]
   simp
  ·rw [decide_eq_true (show (0:Int)<((gL k.natAbs (s++t):Nat):Int) by omega),Nat.max_eq_right (by omega)]
   rfl
 rw [h]
 generalize max 1 (gL k.natAbs (s++t))=g
 unfold jnG
 have c:((s++k::t).map fun x=>x.tdiv (g:Int)).all qq=(qq (k.tdiv (g:Int))&&(s.map (fun x=>x.tdiv (g:Int))).all qq&&(t.map (fun x=>x.tdiv (g:Int))).all qq):=by
  rw [List.map_append,List.all_append,List.map_cons,List.all_cons]
  cases (s.map (fun x=>x.tdiv (g:Int))).all qq<;>cases qq (k.tdiv (g:Int))<;>rfl
 rw [c]
 have d:((s++k::t).map fun x=>x.tdiv (g:Int))=enc (s.map (fun x=>x.tdiv (g:Int)),k.tdiv (g:Int),a.2.2.1||b.2.2.1,t.map (fun x=>x.tdiv (g:Int))):=by
  unfold enc
  rw [List.map_append,List.map_cons]
 rw [d]
theorem CJ (f:(Zf)->Int) (p q:Int): ∀(t u:List Int) (l:Ze),t.length=u.length->qQ f (qu p q t u) l=p*qQ f t l+q*qQ f u l
 | [],[],l,_=>by simp [qu,qQ]
 | x::t,y::u,[],_=>by simp [qu,qQ]
 | x::t,y::u,a::l,h=>by
   have b:=CJ f p q t u l (by simpa using h)
   show (p*x+q*y)*f a+qQ f (qu p q t u) l=p*(x*f a+qQ f t l)+q*(y*f a+qQ f u l)
   rw [b];grind
 | [],_::_,_,h=>by simp at h
 | _::_,[],_,h=>by simp at h
theorem CK (f:(Zf)->Int) {g:Nat}: ∀(t:List Int) (l:Ze),(∀x∈t,g ∣ x.natAbs)->qQ f (t.map fun x=>x.tdiv (g:Int)) l*g=qQ f t l
 | [],l,_=>by simp [qQ]
 | x::t,[],_=>by simp [qQ]
 | x::t,a::l,h=>by
   have c:=CK f t l fun y b=>h y (by simp [b])
   have e:=mB (h x (by simp))
   show (x.tdiv (g:Int)*f a+qQ f (t.map fun x=>x.tdiv (g:Int)) l)*g=x*f a+qQ f t l
   rw [<-c]
   conv=>rhs;rw [<-e]
   grind
theorem N7 {p q:Int} (b:0<p) (c:0<q): ∀(t u:List Int) (l:Ze),t.length=u.length->(∀x∈t,0<=x)->(∀x∈u,0<=x)->bq (qu p q t u) l=(bq t l||bq u l)
 | [],[],l,_,_,_=>by simp [qu,bq]
 | x::t,y::u,[],_,_,_=>by simp [qu,bq]
 | x::t,y::u,a::l,h,h1,h2=>by
   have k:=N7 b c t u l (by simpa using h) (fun z d=>h1 z (by simp [d])) fun z d=>h2 z (by simp [d])
   show ((decide (0<p*x+q*y)&&a.2.2)||bq (qu p q t u) l)=(((decide (0<x)&&a.2.2)||bq t l)||((decide (0<y)&&a.2.2)||bq u l))
   rw [k]
   have m:=h1 x (by simp)
   have n:=h2 y (by simp)
   have e:decide (0<p*x+q*y)=(decide (0<x)||decide (0<y)):=by
    have g1:=Int.mul_nonneg (Int.le_of_lt b) m
    have g2:=Int.mul_nonneg (Int.le_of_lt c) n
    by_cases f:0<x
    ·have:=Int.mul_pos b f
     simp [f];omega
    ·by_cases g:0<y
     ·have:=Int.mul_pos c g
      simp [g];omega
     ·have i:x=0:=by omega
      have j:y=0:=by omega
      subst i;subst j;simp
   rw [e]
   cases decide (0<x)<;>cases decide (0<y)<;>cases a.2.2<;>cases bq t l<;>cases bq u l<;>rfl
 | [],_::_,_,h,_,_=>by simp at h
 | _::_,[],_,h,_,_=>by simp at h
theorem N8 {g:Nat} (c:0<g): ∀(t:List Int) (l:Ze),(∀x∈t,g ∣ x.natAbs/\0<=x)->bq (t.map fun x=>x.tdiv (g:Int)) l=bq t l
 | [],l,_=>by simp [bq]
 | x::t,[],_=>by simp [bq]
 | x::t,a::l,h=>by
   have f:=N8 c t l fun y d=>h y (by simp [d])
   have e:=mB (h x (by simp)).1
   have i:=(h x (by simp)).2
   show ((decide (0<x.tdiv (g:Int))&&a.2.2)||bq (t.map fun x=>x.tdiv (g:Int)) l)=((decide (0<x)&&a.2.2)||bq t l)
   rw [f]
   have:decide (0<x.tdiv (g:Int))=decide (0<x):=by
    generalize x.tdiv (g:Int)=z at*
    rw [decide_eq_decide,<-e]
    have b:(0:Int)<(g:Int):=by omega
    constructor
    ·exact fun h=>Int.mul_pos h b
    ·intro h
     exact Int.pos_of_mul_pos_left h b |> id
   rw [this]
theorem N9 {v p q:Int} {a b:List Int} (h:a.length=b.length):cAt v (qu p q a b)=p*cAt v a+q*cAt v b:=by
 unfold cAt
 by_cases c:v.toNat<a.length
 ·have d:v.toNat<b.length:=by omega
  have hm:v.toNat<(qu p q a b).length:=by rw [dz h];exact c
  simp only [List.getD,List.getElem?_eq_getElem c,List.getElem?_eq_getElem d,List.getElem?_eq_getElem hm,Option.getD_some]
  simp [qu]
 ·have hm:(qu p q a b).length<=v.toNat:=by rw [dz h];omega
  simp [List.getD,List.getElem?_eq_none hm,List.getElem?_eq_none (show a.length<=v.toNat by omega),List.getElem?_eq_none (show b.length<=v.toNat by omega)]
theorem Oa {v:Int} {g:Nat} {s:List Int} (h: ∀x∈s,g ∣ x.natAbs):cAt v (s.map fun x=>x.tdiv (g:Int))*g=cAt v s:=by
 unfold cAt
 by_cases a:v.toNat<s.length
 ·simp only [List.getD,List.getElem?_map,List.getElem?_eq_getElem a,Option.map_some,Option.getD_some]
  exact mB (h _ (List.getElem_mem a))
 ·simp [List.getD,List.getElem?_eq_none (show s.length<=v.toNat by omega)]
theorem qRI {d:Nat} {l:Ze} {a b:Mxd} {p q:Int} (f:CmbOf d l a) (i:CmbOf d l b) (u:0<p) (w:0<q) (h:(jn a p b q).2=true):CmbOf d l (jn a p b q).1:=by
 have hs:a.1.length=b.1.length:=by rw [f.ls,i.ls]
 have j:a.2.2.2.length=b.2.2.2.length:=by rw [f.lt,i.lt]
 obtain ⟨g1,g2⟩:=va (co:=qu p q a.1 b.1++qu p q a.2.2.2 b.2.2.2) (k:=p*a.2.1+q*b.2.1)
 have E:(qu p q a.1 b.1).length=d:=by rw [dz hs,f.ls]
 have G:(qu p q a.2.2.2 b.2.2.2).length=l.length:=by rw [dz j,f.lt]
 have D: ∀v:Nat,v<d->cAt v (qu p q a.1 b.1)=qQ (cfV v) (qu p q a.2.2.2 b.2.2.2) l:=fun v m=>by
  rw [N9 hs,CJ _ _ _ _ _ _ j,f.cs v m,i.cs v m]
 have C:p*a.2.1+q*b.2.1=qQ (fun a=>a.2.1) (qu p q a.2.2.2 b.2.2.2) l:=by
  rw [CJ _ _ _ _ _ _ j,f.ck,i.ck]
 have F:(a.2.2.1||b.2.2.1)=bq (qu p q a.2.2.2 b.2.2.2) l:=by
  rw [N7 u w _ _ _ j (fun x e=>(f.nn x e).1) fun x e=>(i.nn x e).1,f.st,i.st]
 have r: ∀x∈qu p q a.2.2.2 b.2.2.2,0<=x:=fun x e=>by
  obtain ⟨z,I,rfl⟩:=List.mem_map.1 e
  obtain ⟨K,z2⟩:=List.of_mem_zip I
  have h1:=Int.mul_nonneg (Int.le_of_lt u) (f.nn _ K).1
  have h2:=Int.mul_nonneg (Int.le_of_lt w) (i.nn _ z2).1
  show 0<=p*z.1+q*z.2
  omega
 unfold jn at*
 have B:0<max 1 (gL (p*a.2.1+q*b.2.1).natAbs (qu p q a.1 b.1++qu p q a.2.2.2 b.2.2.2)):=by omega
 generalize max 1 (gL (p*a.2.1+q*b.2.1).natAbs (qu p q a.1 b.1++qu p q a.2.2.2 b.2.2.2))=g at*
 generalize qu p q a.1 b.1=s at*
 generalize qu p q a.2.2.2 b.2.2.2=t at*
 generalize p*a.2.1+q*b.2.1=k at*
 generalize (a.2.2.1||b.2.2.1)=c at*
 unfold jnG at*
 simp only [Bool.and_eq_true,List.all_eq_true]at h
 obtain ⟨⟨L,M⟩,J⟩:=h
 have A: ∀x∈s,g ∣ x.natAbs:=fun x e=>g1 x (by simp [e])
 have n: ∀x∈t,g ∣ x.natAbs:=fun x e=>g1 x (by simp [e])
 have o:((g:Nat):Int)≠0:=by omega
 refine ⟨by simp [E],by simp [G],fun x e=>⟨?_,J x e⟩,fun v m=> ?_,?_,?_⟩
 ·obtain ⟨y,H,rfl⟩:=List.mem_map.1 e
  exact Int.tdiv_nonneg (r y H) (by omega)
 ·refine Int.eq_of_mul_eq_mul_right o ?_
  show cAt v (s.map fun x=>x.tdiv (g:Int))*g=qQ (cfV v) (t.map fun x=>x.tdiv (g:Int)) l*g
  rw [Oa A,CK _ _ _ n]
  exact D v m
 ·refine Int.eq_of_mul_eq_mul_right o ?_
  show k.tdiv (g:Int)*g=qQ _ (t.map fun x=>x.tdiv (g:Int)) l*g
  rw [mB g2,CK _ _ _ n]
  exact C
 ·show c=bq (t.map fun x=>x.tdiv (g:Int)) l
  rw [N8 B _ _ fun x e=>⟨n x e,r x e⟩]
  exact F
theorem ve {d:Nat} {l:Ze} {m:Mxd} (h:CmbOf d l m) {v:Nat} (a:v<d):cAt v (enc m)=cAt v m.1:=by
 unfold cAt enc
 have:v<m.1.length:=by rw [h.ls];exact a
 rw [Int.toNat_natCast,List.getD_eq_getElem?_getD,List.getElem?_append_left this,<-List.getD_eq_getElem?_getD]
theorem CL {d:Nat} {A:Ze} {v:Nat} (c:v<d) {x:Mxd} (b:CmbOf d A x) (f:0<cAt v x.1): ∀(xs s:List Mxd),(∀m∈xs,CmbOf d A m)->(∀m∈s,CmbOf d A m)->
 fi v (enc x) (xs.map enc) (s.map enc)=(cT v x xs s).map (List.map enc)/\ ∀a,cT v x xs s=some a->(∀m∈a,CmbOf d A m)/\(s.length<=64->a.length<=64)
 | [],s,_,hs=>⟨rfl,fun a h=>by simp only [cT,Option.some.injEq]at h;subst h;exact ⟨hs,id⟩⟩
 | y::r,s,l,hs=>by
   have g:=l y (by simp)
   have k:=fun m hm=>l m (List.mem_cons_of_mem y hm)
   rw [List.map_cons,fi,cT,ve b c,ve g c]
   by_cases j:cAt v y.1<0
   ·rw [decide_eq_true j]
    simp only [cond_true]
    rw [qM7 (by rw [b.ls,g.ls]),List.length_map]
    cases n:(jn x (-cAt v y.1) y (cAt v x.1)).2 with
    | false=>exact ⟨rfl,fun a h=>by simp at h⟩
    | true=>
      by_cases i:(s.length:Int)<64
      ·rw [decide_eq_true i]
       simp only [cond_true,Bool.and_self]
       have e:=CL c b f r (s++[(jn x (-cAt v y.1) y (cAt v x.1)).1]) k fun m hm=>by
        rcases List.mem_append.1 hm with hm | hm
        ·exact hs m hm
        ·rw [List.mem_singleton.1 hm];exact qRI b g (by omega) f n
       rw [List.map_append]at e
       exact ⟨e.1,fun a h=>⟨(e.2 a h).1,fun _=>(e.2 a h).2 (by simp;omega)⟩⟩
      ·rw [decide_eq_false i]
       exact ⟨rfl,fun a h=>by simp at h⟩
   ·rw [decide_eq_false j]
    exact CL c b f r s k hs
theorem CM {d:Nat} {A:Ze} {v:Nat} (b:v<d) {l:List Mxd} (c: ∀m∈l,CmbOf d A m): ∀(xs s:List Mxd),(∀m∈xs,CmbOf d A m)->(∀m∈s,CmbOf d A m)->
 fJ v (l.map enc) (xs.map enc) (s.map enc)=(dO v l xs s).map (List.map enc)/\ ∀a,dO v l xs s=some a->(∀m∈a,CmbOf d A m)/\(s.length<=64->a.length<=64)
 | [],s,_,hs=>⟨rfl,fun a h=>by simp only [dO,Option.some.injEq]at h;subst h;exact ⟨hs,id⟩⟩
 | x::r,s,j,hs=>by
   have i:=j x (by simp)
   have g:=fun m hm=>j m (List.mem_cons_of_mem x hm)
   rw [List.map_cons,fJ,dO,ve i b]
   by_cases f:0<cAt v x.1
   ·rw [decide_eq_true f]
    simp only [cond_true]
    obtain ⟨e,h2⟩:=CL b i f l s c hs
    rw [e]
    cases n:cT v x l s with
    | none=>exact ⟨rfl,fun a h=>by simp at h⟩
    | some s1=>
      obtain ⟨k1,k2⟩:=h2 s1 n
      obtain ⟨i1,i2⟩:=CM b c r s1 g k1
      exact ⟨i1,fun a h=>⟨(i2 a h).1,fun k=>(i2 a h).2 (k2 k)⟩⟩
   ·rw [decide_eq_false f]
    exact CM b c r s g hs
theorem qXx {d:Nat} {A:Ze} {v:Nat} (c:v<d) {l:List Mxd} (b: ∀m∈l,CmbOf d A m):iW v (l.map enc)=(gE v l).map (List.map enc)/\ ∀a,gE v l=some a->(∀m∈a,CmbOf d A m)/\(l.length<=64->a.length<=64):=by
 unfold iW gE
 have e:(l.map enc).filter (fun x=>decide (cAt v x=0))=(l.filter fun x=>decide (cAt v x.1=0)).map enc:=by
  rw [List.filter_map]
  congr 1
  exact List.filter_congr fun m hm=>by show decide (cAt v (enc m)=0)=_;rw [ve (b m hm) c]
 rw [e]
 obtain ⟨h1,h2⟩:=CM c b l (l.filter fun x=>decide (cAt v x.1=0)) b fun m hm=>b m (List.mem_filter.1 hm).1
 refine ⟨h1,fun a h=>⟨(h2 a h).1,fun f=>(h2 a h).2 ?_⟩⟩
 have:=List.length_filter_le (fun x:Mxd=>decide (cAt v x.1=0)) l
 omega
theorem qXK {w:Int} {a b:Mxd} {p q:Int} (hs:a.1.length=b.1.length) (h:p*cAt w a.1+q*cAt w b.1=0):cAt w (jn a p b q).1.1=0:=by
 obtain ⟨g1,_⟩:=va (co:=qu p q a.1 b.1++qu p q a.2.2.2 b.2.2.2) (k:=p*a.2.1+q*b.2.1)
 rw [<-N9 hs]at h
 unfold jn jnG
 have d:0<max 1 (gL (p*a.2.1+q*b.2.1).natAbs (qu p q a.1 b.1++qu p q a.2.2.2 b.2.2.2)):=by omega
 generalize max 1 (gL (p*a.2.1+q*b.2.1).natAbs (qu p q a.1 b.1++qu p q a.2.2.2 b.2.2.2))=g at*
 have:=Oa (v:=w) (g:=g) (s:=qu p q a.1 b.1) fun x c=>g1 x (by simp [c])
 rw [h]at this
 show cAt w ((qu p q a.1 b.1).map fun x=>x.tdiv (g:Int))=0
 rcases Int.mul_eq_zero.1 this with h | h
 ·exact h
 ·omega
theorem CN {d:Nat} {A:Ze} {v w:Int} {x:Mxd} (b:CmbOf d A x) (hw:w=v∨cAt w x.1=0): ∀(xs s a:List Mxd),(∀m∈xs,CmbOf d A m/\(w=v∨cAt w m.1=0))->(∀m∈s,cAt w m.1=0)->cT v x xs s=some a-> ∀m∈a,cAt w m.1=0
 | [],s,a,_,hs,h=>by simp only [cT,Option.some.injEq]at h;subst h;exact hs
 | y::r,s,a,g,hs,h=>by
   have i:=g y (by simp)
   have f:=fun m hm=>g m (List.mem_cons_of_mem y hm)
   rw [cT]at h
   by_cases e:cAt v y.1<0
   ·rw [decide_eq_true e]at h
    simp only [cond_true]at h
    cases c:(jn x (-cAt v y.1) y (cAt v x.1)).2&&decide ((s.length:Int)<64)with
    | false=>rw [c]at h;simp at h
    | true=>
      rw [c]at h
      refine CN b hw r _ a f (fun m hm=> ?_) h
      rcases List.mem_append.1 hm with hm | hm
      ·exact hs m hm
      ·rw [List.mem_singleton.1 hm]
       refine qXK (by rw [b.ls,i.1.ls]) ?_
       rcases hw with rfl | hw
       ·rw [Int.mul_comm (cAt w x.1),Int.neg_mul];omega
       ·rcases i.2 with rfl | j
        ·rw [Int.mul_comm (cAt w x.1),Int.neg_mul];omega
        ·rw [hw,j];simp
   ·rw [decide_eq_false e]at h
    exact CN b hw r s a f hs h
theorem CO {d:Nat} {A:Ze} {v w:Int} {l:List Mxd} (c: ∀m∈l,CmbOf d A m/\(w=v∨cAt w m.1=0)): ∀(xs s a:List Mxd),(∀m∈xs,CmbOf d A m/\(w=v∨cAt w m.1=0))->(∀m∈s,cAt w m.1=0)->dO v l xs s=some a-> ∀m∈a,cAt w m.1=0
 | [],s,a,_,hs,h=>by simp only [dO,Option.some.injEq]at h;subst h;exact hs
 | x::r,s,a,i,hs,h=>by
   have g:=i x (by simp)
   have f:=fun m hm=>i m (List.mem_cons_of_mem x hm)
   rw [dO]at h
   cases e:decide (0<cAt v x.1)with
   | true=>
     rw [e]at h
     simp only [cond_true]at h
     cases b:cT v x l s with
     | none=>rw [b]at h;simp at h
     | some s1=>
       rw [b]at h
       exact CO c r s1 a f (CN g.1 g.2 l s s1 c hs b) h
   | false=>
     rw [e]at h
     exact CO c r s a f hs h
theorem Ob {d:Nat} {A:Ze}: ∀(k:Nat) {l:List Mxd},k<=d->(∀m∈l,CmbOf d A m/\ ∀w:Nat,k<=w->w<d->cAt w m.1=0)->fK k (l.map enc)=(eI k l).map (List.map enc)/\ ∀a,eI k l=some a-> ∀m∈a,CmbOf d A m/\ ∀w:Nat,w<d->cAt w m.1=0
 | 0,l,_,h=>⟨rfl,fun a hs=>by
    simp only [eI,Option.some.injEq]at hs
    subst hs
    exact fun m hm=>⟨(h m hm).1,fun w hw=>(h m hm).2 w (by omega) hw⟩⟩
 | k+1,l,hk,h=>by
   rw [fK,eI]
   obtain ⟨e,h2⟩:=qXx (A:=A) (show k<d by omega) fun m hm=>(h m hm).1
   rw [e]
   cases c:gE k l with
   | none=>exact ⟨rfl,fun a h=>by simp at h⟩
   | some g=>
     obtain ⟨k1,_⟩:=h2 g c
     refine Ob k (by omega) fun m hm=>⟨k1 m hm,fun w hw i=> ?_⟩
     have b: ∀m∈l,CmbOf d A m/\((w:Int)=(k:Int)∨cAt w m.1=0):=fun m hm=>⟨(h m hm).1,by
      by_cases j:w=k
      ·left;omega
      ·exact .inr ((h m hm).2 w (by omega) i)⟩
     unfold gE at c
     refine CO b l _ g b (fun m hm=> ?_) c m hm
     have f:=List.mem_filter.1 hm
     rcases (b m f.1).2 with e | e
     ·rw [e];simpa using f.2
     ·exact e
def bP (c:(Zj)) (m:Zb):Bool:=bif qI c&&decide ((m.length:Int)=(List.length (α:=(Zf)) c.2:Int))then m.all (fun x=>inR x 0 400000000)&&((List.range (c.1:Int).toNat).all fun v=>decide (qQ (cfV (v:Int)) m c.2=0))&&(decide (0<qQ (fun a=>a.2.1) m c.2)||(decide (qQ (fun a=>a.2.1) m c.2=0)&&bq m c.2))else false
def dP (n i:Nat):List Int:=(List.replicate n (0:Int)).set i 1
def mx0 (l:Ze) (i:Nat) (a:(Zf)):Mxd:=(a.1,a.2.1,a.2.2,dP l.length i)
def cU (l:Ze):List Mxd:=l.mapIdx fun i a=>mx0 l i a
def mD:Zb×Bool:=([],false)
def cj (c:(Zj)):Zb×Bool:=bif qI c then (match fK (c.1:Int).toNat ((cU c.2).map enc)with
 | some L=>(match L.find? fun x=>bP c (x.drop ((c.1:Int).toNat+1))with
   | some x=>(x.drop ((c.1:Int).toNat+1),true)
   | none=>mD)
 | none=>mD)else mD
def mxT (m:Mxd):Bool:=decide (0<m.2.1)||(decide (m.2.1=0)&&m.2.2.1)
def dA (c:(Zj)):Zb×Bool:=bif qI c then (match eI (c.1:Int).toNat (cU c.2)with
 | some L=>(match L.find? mxT with
   | some m=>(m.2.2.2,true)
   | none=>mD)
 | none=>mD)else mD
theorem Oc (f:(Zf)->Int): ∀(n:Nat) (l:Ze),qQ f (List.replicate n (0:Int)) l=0
 | 0,_=>by simp [qQ]
 | n+1,[]=>by simp [qQ]
 | n+1,a::l=>by rw [List.replicate_succ,qQ,Oc f n l];simp
theorem Od: ∀(n:Nat) (l:Ze),bq (List.replicate n (0:Int)) l=false
 | 0,_=>by simp [bq]
 | n+1,[]=>by simp [bq]
 | n+1,a::l=>by rw [List.replicate_succ,bq,Od n l];simp
theorem CP (f:(Zf)->Int): ∀(n i:Nat) (l:Ze) (h:i<l.length),i<n->qQ f (dP n i) l=f l[i]
 | n,i,[],h,_=>by simp at h
 | 0,i,_::_,_,h=>by omega
 | n+1,0,a::l,_,_=>by
   show (1:Int)*f a+qQ f (List.replicate n (0:Int)) l=f a
   rw [Oc];simp
 | n+1,i+1,a::l,h,h'=>by
   have b:i<l.length:=by simpa using h
   show (0:Int)*f a+qQ f (dP n i) l=f l[i]
   rw [CP f n i l b (by omega)];simp
theorem Oe: ∀(n i:Nat) (l:Ze) (h:i<l.length),i<n->bq (dP n i) l=l[i].2.2
 | n,i,[],h,_=>by simp at h
 | 0,i,_::_,_,h=>by omega
 | n+1,0,a::l,_,_=>by
   show ((decide ((0:Int)<1)&&a.2.2)||bq (List.replicate n (0:Int)) l)=a.2.2
   rw [Od];simp
 | n+1,i+1,a::l,h,h'=>by
   have b:i<l.length:=by simpa using h
   show ((decide ((0:Int)<0)&&a.2.2)||bq (dP n i) l)=l[i].2.2
   rw [Oe n i l b (by omega)];simp
theorem qQ3 {d:Int} {l:Ze} (hd: ∀a∈l,okD d a) {m:Mxd} (hm:m∈cU l):CmbOf d.toNat l m:=by
 unfold cU at hm
 obtain ⟨i,b,rfl⟩:=List.mem_mapIdx.1 hm
 have c:=hd _ (List.getElem_mem b)
 have f:(List.length (α:=Int) l[i].1:Int)=d:=c.2
 refine ⟨?_,by simp [mx0,dP],fun x e=> ?_,fun v g=> ?_,?_,?_⟩
 ·show List.length (α:=Int) l[i].1=d.toNat
  omega
 ·rcases List.mem_or_eq_of_mem_set (show x∈(List.replicate l.length (0:Int)).set i 1 from e)with h | h
  ·rw [(List.mem_replicate.1 h).2];exact ⟨by decide,by decide⟩
  ·rw [h];exact ⟨by decide,by decide⟩
 ·show cAt v l[i].1=qQ (cfV v) (dP l.length i) l
  rw [CP _ _ _ _ b b];rfl
 ·exact (CP (fun a=>a.2.1) _ _ _ b b).symm
 ·exact (Oe _ _ _ b b).symm
theorem Of {α:Type} {p q:α->Bool}: ∀{l:List α},(∀x∈l,p x=q x)->l.find? p=l.find? q
 | [],_=>rfl
 | x::l,h=>by
   rw [List.find?_cons,List.find?_cons,h x (by simp),Of fun y a=>h y (by simp [a])]
theorem CQ (c:(Zj)):cj c=dA c:=by
 unfold cj dA
 cases d:qI c with
 | false=>rfl
 | true=>
   obtain ⟨hd,_,l⟩:=bB d
   simp only [cond_true]
   have h: ∀m∈cU c.2,CmbOf (c.1:Int).toNat c.2 m/\ ∀w:Nat,(c.1:Int).toNat<=w->w<(c.1:Int).toNat->cAt w m.1=0:=fun m hm=>⟨qQ3 l hm,fun w h1 h2=>by omega⟩
   obtain ⟨e,h2⟩:=Ob (A:=c.2) (c.1:Int).toNat (Nat.le_refl _) h
   rw [e]
   cases k:eI (c.1:Int).toNat (cU c.2)with
   | none=>rfl
   | some L=>
     have b:=h2 L k
     have hdr: ∀m∈L,(enc m).drop ((c.1:Int).toNat+1)=m.2.2.2:=fun m hm=>by
        unfold enc
        have:=(b m hm).1.ls
        rw [<-this,List.drop_append]
        simp
     have n: ∀m∈L,bP c m.2.2.2=mxT m:=fun m hm=>by
        obtain ⟨g,p⟩:=b m hm
        unfold bP mxT
        rw [d,decide_eq_true (show (m.2.2.2.length:Int)=(List.length (α:=(Zf)) c.2:Int) by rw [g.lt])]
        have f:m.2.2.2.all (fun x=>inR x 0 400000000)=true:=List.all_eq_true.2 fun x o=>by
         have:=g.nn x o
         have i:=cH this.2
         exact decide_eq_true ⟨this.1,i.2⟩
        have a2:((List.range (c.1:Int).toNat).all fun v=>decide (qQ (cfV (v:Int)) m.2.2.2 c.2=0))=true:=List.all_eq_true.2 fun v a=>by
         have a:=List.mem_range.1 a
         rw [<-g.cs v a,p v a];rfl
        rw [f,a2,<-g.ck,<-g.st]
        rfl
     simp only [Option.map_some]
     rw [List.find?_map]
     have e3:L.find? ((fun x=>bP c (x.drop ((c.1:Int).toNat+1)))∘enc)=L.find? mxT:=Of fun m hm=>by
        show bP c ((enc m).drop ((c.1:Int).toNat+1))=mxT m
        rw [hdr m hm];exact n m hm
     rw [e3]
     cases j:L.find? mxT with
     | none=>rfl
     | some m=>
       simp only [Option.map_some]
       rw [hdr m (List.mem_of_find?_eq_some j)]
def cD (n:Int) (s co:List Int):List Int:=List.zipWith (fun y x=>y+n*x) s co
def dB:List Int->List Int->Ze->List Int
 | s,n::m,a::l=>dB (cD n s a.1) m l
 | s,_,_=>s
theorem oR {n:Int} {s co:List Int} (h:s.length=co.length):(cD n s co).length=s.length:=by simp [cD,h]
theorem qYz {n:Int} {s co:List Int} (h:s.length=co.length) (v:Nat):(cD n s co).getD v 0=s.getD v 0+n*co.getD v 0:=by
 by_cases b:v<s.length
 ·have c:v<co.length:=by omega
  have a:v<(cD n s co).length:=by rw [oR h];exact b
  simp only [List.getD,List.getElem?_eq_getElem b,List.getElem?_eq_getElem c,List.getElem?_eq_getElem a,Option.getD_some]
  simp [cD]
 ·have a:(cD n s co).length<=v:=by rw [oR h];omega
  simp [List.getD,List.getElem?_eq_none a,List.getElem?_eq_none (show s.length<=v by omega),List.getElem?_eq_none (show co.length<=v by omega)]
theorem vf {d:Nat}: ∀(m:List Int) (l:Ze) (s:List Int),(∀a∈l,a.1.length=d)->s.length=d->(dB s m l).length=d/\ ∀v:Nat,(dB s m l).getD v 0=s.getD v 0+qQ (cfV v) m l
 | [],l,s,_,hs=>by simp [dB,qQ,hs]
 | n::m,[],s,_,hs=>by simp [dB,qQ,hs]
 | n::m,a::l,s,h,hs=>by
   have c:=h a (by simp)
   obtain ⟨g1,g2⟩:=vf m l (cD n s a.1) (fun b e=>h b (by simp [e])) (by rw [oR (by rw [hs,c]),hs])
   refine ⟨g1,fun v=> ?_⟩
   refine (g2 v).trans ?_
   rw [qYz (by rw [hs,c])]
   show s.getD v 0+n*a.1.getD v 0+_=s.getD v 0+(n*a.1.getD (v:Int).toNat 0+_)
   rw [Int.toNat_natCast,Int.add_assoc]
theorem qYP {d:Nat} {m:List Int} {l:Ze} (h: ∀a∈l,a.1.length=d):(dB (List.replicate d 0) m l).all (fun x=>decide (x=0))=(List.range d).all fun v=>decide (qQ (cfV (v:Int)) m l=0):=by
 obtain ⟨g1,g2⟩:=vf (d:=d) m l (List.replicate d 0) h (by simp)
 have e: ∀v:Nat,v<d->(dB (List.replicate d 0) m l).getD v 0=qQ (cfV v) m l:=fun v b=>by
  rw [g2];simp [List.getD,b]
 rw [Bool.eq_iff_iff,List.all_eq_true,List.all_eq_true]
 constructor
 ·intro c v b
  have b:=List.mem_range.1 b
  rw [<-e v b,List.getD_eq_getElem?_getD,List.getElem?_eq_getElem (by omega)]
  exact c _ (List.getElem_mem _)
 ·intro c x f
  obtain ⟨v,b,rfl⟩:=List.mem_iff_getElem.1 f
  have:=c v (List.mem_range.2 (by omega))
  rw [<-e v (by omega),List.getD_eq_getElem?_getD,List.getElem?_eq_getElem b]at this
  exact this
theorem Og {k n x:Int} {i:Nat} (hk:k.natAbs<=i*160000000000000000) (a:0<=n/\n<=400000000) (b: -400000000<=x/\x<=400000000):(n*x).natAbs<=160000000000000000/\(k+n*x).natAbs<=(i+1)*160000000000000000:=by
 have h1:(n*x).natAbs<=400000000*400000000:=by rw [Int.natAbs_mul];exact Nat.mul_le_mul (by omega) (by omega)
 generalize n*x=z at*
 omega
end Go.T
