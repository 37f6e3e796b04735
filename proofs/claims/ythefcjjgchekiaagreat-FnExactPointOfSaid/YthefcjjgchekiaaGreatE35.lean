/- Exact: what dropping variables does to the points of a cell, and what bounds say (over the rationals; plain). -/
import Derived.Test.YthefcjjgchekiaaGreatB16
import Derived.Test.YthefcjjgchekiaaGreatT13
set_option linter.unusedSimpArgs false
set_option linter.unusedVariables false
namespace Go.T
open Go Go.Proofs
set_option maxHeartbeats 4000000
set_option maxRecDepth 100000
def qcd (c:(Val Y33)) (p:List Rat):Prop:= ∀a∈(c.2:List (Val qa)),qaz (atm a) p
theorem q4j {x:Int} {g:Nat} (h:g ∣ x.natAbs):x.tdiv (g:Int)*(g:Int)=x:=Int.tdiv_mul_cancel (Int.ofNat_dvd_left.2 h)
theorem zi2 {co:List Int} {k:Int}:(∀x∈co,max 1 (gL k.natAbs co) ∣ x.natAbs)∧max 1 (gL k.natAbs co) ∣ k.natAbs:=by
 by_cases h0:gL k.natAbs co=0
 ·rw [h0];exact ⟨fun x _=>Nat.one_dvd _,Nat.one_dvd _⟩
 ·rw [Nat.max_eq_right (by omega)];exact ⟨(qkJ co k.natAbs).2,(qkJ co k.natAbs).1⟩
theorem qEh {co:List Int} {k:Int} {s:Bool} {p:List Rat} (h:(qh co k s).2=true):qaz (atm (qh co k s).1) p↔qaz (co,k,s) p:=by
 obtain ⟨hd,hk⟩:=zi2 (co:=co) (k:=k)
 unfold qh at*
 have hg1:0<max 1 (gL k.natAbs co):=by omega
 generalize max 1 (gL k.natAbs co)=g at*
 unfold qjD at*
 cases hi:qG (List.map (α:=Int) (fun x=>x.tdiv (g:Int)) co,k.tdiv (g:Int),s)with
 | false=>rw [hi]at h;simp at h
 | true=>
   simp only [cond_true]
   refine (q6V (a:=(co,k,s)) (b:=(List.map (α:=Int) (fun x=>x.tdiv (g:Int)) co,k.tdiv (g:Int),s)) (g:=(g:Int)) (by omega) ?_ (q4j hk).symm rfl).symm
   show co=List.map (fun x=>x*(g:Int)) (List.map (α:=Int) (fun x=>x.tdiv (g:Int)) co)
   rw [List.map_map]
   exact ((List.map_congr_left (g:=id) fun x hx=>q4j (hd x hx)).trans (List.map_id co)).symm
theorem qYR (p q:Int): ∀(xs ys:List Int) (P:List Rat),xs.length=ys.length→qaA (qbz p q xs ys) P=(p:Rat)*qaA xs P+(q:Rat)*qaA ys P
 | [],[],P,_=>by simp [qbz,qaA];grind
 | x::xs,y::ys,[],_=>by simp [qbz,qaA];grind
 | x::xs,y::ys,t::P,h=>by
   have ih:=qYR p q xs ys P (by simpa using h)
   show qaA ((p*x+q*y)::qbz p q xs ys) (t::P)=_
   simp only [qaA,ih,Rat.intCast_add,Rat.intCast_mul];grind
 | [],_::_,_,h=>by simp at h
 | _::_,[],_,h=>by simp at h
theorem qYs {a b:(Val qa)} {p q:Int} {P:List Rat} (hp:0<p) (hq:0<q) (h:(q4 a p b q).2=true):
 qaz (atm (q4 a p b q).1) P↔((p:Rat)*evA (atm a) P+(q:Rat)*evA (atm b) P<0∨((a.2.2:Bool)=false∧(b.2.2:Bool)=false∧(p:Rat)*evA (atm a) P+(q:Rat)*evA (atm b) P=0)):=by
 unfold q4 at*
 cases hc:(qG a&&qG b&&decide (List.length (α:=Int) a.1=List.length (α:=Int) b.1)&&inR p 0 400000000&&inR q 0 400000000)with
 | false=>rw [hc]at h;simp at h
 | true=>
   rw [hc]at h
   simp only [cond_true]at h ⊢
   rw [qEh h]
   simp only [Bool.and_eq_true,decide_eq_true_eq]at hc
   have hl:=hc.1.1.2
   have e:evA ((qbz p q a.1 b.1,p*(a.2.1:Int)+q*(b.2.1:Int),((a.2.2:Bool)&&decide (0<p))||((b.2.2:Bool)&&decide (0<q))):Atm) P=(p:Rat)*evA (atm a) P+(q:Rat)*evA (atm b) P:=by
    unfold evA
    simp only
    rw [qYR p q _ _ P hl,Rat.intCast_add,Rat.intCast_mul,Rat.intCast_mul]
    grind
   unfold qaz
   rw [e]
   simp only [decide_eq_true hp,decide_eq_true hq,Bool.and_true,Bool.or_eq_false_iff,and_assoc]
theorem qDr: ∀(xs:List Int) (P:List Rat),(∀x∈xs,x=0)→qaA xs P=0
 | [],_,_=>by simp [qaA]
 | _::_,[],_=>by simp [qaA]
 | x::xs,t::P,h=>by
   have h0:=h x (by simp)
   subst h0
   simp only [qaA,qDr xs P fun y hy=>h y (by simp [hy])]
   grind
theorem qtI {a:(Val qa)} {P:List Rat} (h:q8 a=false):qaz (atm a) P↔qaB a=false:=by
 have h0:gL 0 (atm a).1=0:=by
  unfold q8 at h
  simpa using h
 have e:evA (atm a) P=((a.2.1:Int):Rat):=by
  unfold evA
  rw [qDr _ P (qpr.1 h0)]
  show 0+((a.2.1:Int):Rat)=_
  grind
 unfold qaz qaB
 rw [e,h]
 obtain ⟨l,k,s⟩:=a
 change Int at k
 show ((k:Rat)<0∨s=false∧(k:Rat)=0)↔(!false&&(decide (0<k)||(decide (k=0)&&s)))=false
 rw [Rat.intCast_neg_iff,show ((k:Rat)=0↔k=0) from ⟨fun h=>by exact_mod_cast h,fun h=>by rw [h];rfl⟩]
 rcases Int.lt_trichotomy k 0 with h1 | h1 | h1
 ·have: ¬0<k:=by omega
  have: ¬k=0:=by omega
  simp [*]
 ·subst h1;cases s<;>simp
 ·have: ¬k<0:=by omega
  have: ¬k=0:=by omega
  simp [*]
theorem qSt {d:Int} {l:List (Val qa)} {P:List Rat}:qcd (qO d l) P↔ ∀a∈l,qaz (atm a) P:=by
 unfold qO qcd
 cases hb:l.any qaB with
 | true=>
   constructor
   ·intro h
    have:=h (List.replicate d.toNat (0:Int),(1:Int),false) (by show _∈[_];simp)
    rw [qtI (qCf d)]at this
    unfold qaB at this
    rw [qCf]at this
    simp at this
   ·intro h
    obtain ⟨a,ha,h1⟩:=List.any_eq_true.1 hb
    have h2:=h a ha
    have hv:q8 a=false:=by
        unfold qaB at h1
        cases hv:q8 a with
        | false=>rfl
        | true=>rw [hv]at h1;simp at h1
    rw [qtI hv,h1]at h2
    simp at h2
 | false=>
   show (∀a∈qdr (l.filter q8),qaz (atm a) P)↔_
   refine (show (∀a∈qdr (l.filter q8),qaz (atm a) P)↔_ from zjr (l.filter q8) P).trans ?_
   constructor
   ·intro h a ha
    cases hv:q8 a with
    | true=>exact h a (List.mem_filter.2 ⟨ha,hv⟩)
    | false=>
      rw [qtI hv]
      have:=List.any_eq_false.1 hb a ha
      simpa using this
   ·intro h a ha
    exact h a (List.mem_filter.1 ha).1
theorem qOa {v:Int} {a:(Val qa)} {Q:(Val qa)→Prop}: ∀{xs s s':List (Val qa)},qb1 v a xs s=some s'→((∀m∈s',Q m)↔(∀m∈s,Q m)∧ ∀b∈xs,cfV v b<0→(q4 a (-cfV v b) b (cfV v a)).2=true∧Q (q4 a (-cfV v b) b (cfV v a)).1)
 | [],s,s',h=>by simp only [qb1,Option.some.injEq]at h;subst h;simp
 | b::r,s,s',h=>by
   simp only [qb1]at h
   by_cases hn:cfV v b<0
   ·rw [decide_eq_true hn]at h
    cases hm:(q4 a (-cfV v b) b (cfV v a)).2 with
    | false=>rw [hm]at h;simp at h
    | true=>
      rw [hm]at h
      simp only [cond_true]at h
      rw [qOa h]
      simp only [List.mem_append,List.mem_cons,List.not_mem_nil,or_false]
      constructor
      ·rintro ⟨h1,h2⟩
       refine ⟨fun m hm=>h1 m (.inl hm),fun c hc hcn=> ?_⟩
       rcases hc with rfl | hc
       ·exact ⟨hm,h1 _ (.inr rfl)⟩
       ·exact h2 c hc hcn
      ·rintro ⟨h1,h2⟩
       refine ⟨fun m hm=> ?_,fun c hc hcn=>h2 c (.inr hc) hcn⟩
       rcases hm with hm | rfl
       ·exact h1 m hm
       ·exact (h2 b (.inl rfl) hn).2
   ·rw [decide_eq_false hn]at h
    simp only [cond_false]at h
    rw [qOa h]
    simp only [List.mem_cons]
    constructor
    ·rintro ⟨h1,h2⟩
     refine ⟨h1,fun c hc hcn=> ?_⟩
     rcases hc with rfl | hc
     ·exact absurd hcn hn
     ·exact h2 c hc hcn
    ·rintro ⟨h1,h2⟩
     exact ⟨h1,fun c hc hcn=>h2 c (.inr hc) hcn⟩
theorem qOm {v:Int} {l:List (Val qa)} {Q:(Val qa)→Prop}: ∀{xs s s':List (Val qa)},qbQ v l xs s=some s'→((∀m∈s',Q m)↔(∀m∈s,Q m)∧ ∀a∈xs,0<cfV v a→ ∀b∈l,cfV v b<0→(q4 a (-cfV v b) b (cfV v a)).2=true∧Q (q4 a (-cfV v b) b (cfV v a)).1)
 | [],s,s',h=>by simp only [qbQ,Option.some.injEq]at h;subst h;simp
 | a::r,s,s',h=>by
   simp only [qbQ]at h
   by_cases hn:0<cfV v a
   ·rw [decide_eq_true hn]at h
    simp only [cond_true]at h
    cases hm:qb1 v a l s with
    | none=>rw [hm]at h;simp at h
    | some s1=>
      rw [hm]at h
      rw [qOm h,qOa hm]
      simp only [List.mem_cons]
      constructor
      ·rintro ⟨⟨h1,h2⟩,h3⟩
       refine ⟨h1,fun c hc hcn=> ?_⟩
       rcases hc with rfl | hc
       ·exact h2
       ·exact h3 c hc hcn
      ·rintro ⟨h1,h2⟩
       exact ⟨⟨h1,h2 a (.inl rfl) hn⟩,fun c hc hcn=>h2 c (.inr hc) hcn⟩
   ·rw [decide_eq_false hn]at h
    simp only [cond_false]at h
    rw [qOm h]
    simp only [List.mem_cons]
    constructor
    ·rintro ⟨h1,h2⟩
     refine ⟨h1,fun c hc hcn=> ?_⟩
     rcases hc with rfl | hc
     ·exact absurd hcn hn
     ·exact h2 c hc hcn
    ·rintro ⟨h1,h2⟩
     exact ⟨h1,fun c hc hcn=>h2 c (.inr hc) hcn⟩
theorem zmj {d:Int} {l:List (Val qa)} (h:(qbi d l).2=true):(qbi d l).1=qO d l:=by
 unfold qbi at*
 cases hc:decide ((16:Int)<(List.length (α:=(Val qa)) (qO d l).2:Int))with
 | true=>rw [hc]at h;simp at h
 | false=>rfl
theorem qZk {c:(Val Y33)} {v:Int} (h:(qU c v).2=true): ∃s,(qU c v).1=qO c.1 s∧ ∀Q:(Val qa)→Prop,(∀m∈s,Q m)↔(∀a∈(c.2:List (Val qa)),cfV v a=0→Q a)∧ ∀a∈(c.2:List (Val qa)),0<cfV v a→ ∀b∈(c.2:List (Val qa)),cfV v b<0→(q4 a (-cfV v b) b (cfV v a)).2=true∧Q (q4 a (-cfV v b) b (cfV v a)).1:=by
 unfold qU at*
 cases hm:qbQ v c.2 c.2 (List.filter (α:=(Val qa)) (fun a=>decide (cfV v a=0)) c.2)with
 | none=>rw [hm]at h;simp at h
 | some s=>
   rw [hm]at h
   refine ⟨s,zmj h,fun Q=> ?_⟩
   rw [qOm hm]
   simp only [List.mem_filter,decide_eq_true_eq,and_imp]
theorem qIg {a:(Val qa)} {P:List Rat} {v:Int} {t:Rat} {d:Int} (ha:okD d a) (hp:(P.length:Int)=d) (hv:0≤v∧v<d):evA (atm a) (P.set v.toNat t)=evA (atm a) P+((cfV v a:Int):Rat)*(t - P.getD v.toNat 0):=by
 have hl:(List.length (α:=Int) a.1:Int)=d:=ha.2
 exact q2L (a:=atm a) (by omega) (show List.length (α:=Int) a.1=P.length by omega)
theorem qYr {c:(Val Y33)} {v:Int} {P:List Rat} (hc:qH c=true) (hv:0≤v∧v<(c.1:Int)) (hp:(P.length:Int)=(c.1:Int)) (h:(qU c v).2=true):qcd (qU c v).1 P↔ ∃t,qcd c (P.set v.toNat t):=by
 obtain ⟨s,e,hs⟩:=qZk h
 obtain ⟨_,_,hok⟩:=qaJ hc
 rw [e,qSt,hs (fun a=>qaz (atm a) P)]
 constructor
 ·rintro ⟨h1,h2⟩
  refine elim (l:=c.2) (v:=v.toNat) (p:=P) (by omega) (fun a ha=> ?_) (fun a ha hz=>h1 a ha hz) fun a ha b hb pa nb=> ?_
  ·have:(List.length (α:=Int) a.1:Int)=(c.1:Int):=(hok a ha).2
   omega
  ·obtain ⟨g1,g2⟩:=h2 a ha pa b hb nb
   have nb':cfV v b<0:=nb
   exact (qYs (by omega) pa g1).1 g2
 ·rintro ⟨t,ht⟩
  refine ⟨fun a ha hz=> ?_,fun a ha pa b hb nb=> ?_⟩
  ·have:=ht a ha
   unfold qaz at this ⊢
   rw [qIg (hok a ha) hp hv,hz]at this
   have e0:evA (atm a) P+((0:Int):Rat)*(t - P.getD v.toNat 0)=evA (atm a) P:=by grind
   rw [e0]at this
   exact this
  ·have g1:(q4 a (-cfV v b) b (cfV v a)).2=true:=by
        have:=(hs fun _=>True).1 (fun _ _=>trivial)
        exact (this.2 a ha pa b hb nb).1
   refine ⟨g1,(qYs (by omega) pa g1).2 ?_⟩
   have ea:=ht a ha
   have eb:=ht b hb
   unfold qaz at ea eb
   rw [qIg (hok a ha) hp hv]at ea
   rw [qIg (hok b hb) hp hv]at eb
   have pa':(0:Rat)<((cfV v a:Int):Rat):=Rat.intCast_pos.2 pa
   have nb':((cfV v b:Int):Rat)<0:=Rat.intCast_neg_iff.2 nb
   rw [Rat.intCast_neg]
   change _∨((a.2.2:Bool)=false∧_)at ea
   change _∨((b.2.2:Bool)=false∧_)at eb
   generalize ((cfV v a:Int):Rat)=x at*
   generalize ((cfV v b:Int):Rat)=y at*
   generalize evA (atm a) P=A at*
   generalize evA (atm b) P=B at*
   generalize t - P.getD v.toNat 0=u at*
   have k: -y*A+x*B= -y*(A+x*u)+x*(B+y*u):=by grind
   rw [k]
   have ny:0< -y:=by grind
   obtain ⟨sa1,sa2⟩:=qea (x:=A+x*u) ny
   obtain ⟨sb1,sb2⟩:=qea (x:=B+y*u) pa'
   rw [←sa1,←sa2]at ea
   rw [←sb1,←sb2]at eb
   generalize -y*(A+x*u)=X at*
   generalize x*(B+y*u)=Y at*
   rcases ea with ea | ⟨ea1,ea2⟩<;>rcases eb with eb | ⟨eb1,eb2⟩
   ·left;grind
   ·left;grind
   ·left;grind
   ·right;exact ⟨ea1,eb1,by grind⟩
theorem qMR {d v:Int}: ∀(k:Nat) {x y:(Val Y33)} {P:List Rat},okN d x→(k:Int)≤d→(P.length:Int)=d→qbp v k x=some y→(qcd y P↔ ∃P':List Rat,P'.length=P.length∧(∀i:Nat,k≤i∨(i:Int)=v→P'.getD i 0=P.getD i 0)∧qcd x P')
 | 0,x,y,P,hx,hk,hp,h=>by
   simp only [qbp,Option.some.injEq]at h
   subst h
   constructor
   ·exact fun h=>⟨P,rfl,fun _ _=>rfl,h⟩
   ·rintro ⟨P',h1,h2,h3⟩
    have:P'=P:=List.ext_getElem h1 fun i hi hi'=>by
        have:=h2 i (.inl (Nat.zero_le _))
        simpa [List.getD,List.getElem?_eq_getElem hi,List.getElem?_eq_getElem hi'] using this
    exact this▸h3
 | k+1,x,y,P,hx,hk,hp,h=>by
   rw [qbp]at h
   by_cases hkv:(k:Int)=v
   ·rw [if_pos hkv]at h
    rw [qMR k hx (by omega) hp h]
    constructor
    ·rintro ⟨P',h1,h2,h3⟩
     exact ⟨P',h1,fun i hi=>h2 i (by omega),h3⟩
    ·rintro ⟨P',h1,h2,h3⟩
     exact ⟨P',h1,fun i hi=>h2 i (by omega),h3⟩
   ·rw [if_neg hkv]at h
    cases hm:(qU x k).2 with
    | false=>rw [hm]at h;simp at h
    | true=>
      rw [hm]at h
      simp only [cond_true]at h
      obtain ⟨hx1,hx2,hx3⟩:=hx
      have hN:=qmA hx1 hm
      rw [hx3]at hN
      rw [qMR k hN (by omega) hp h]
      have hv:0≤(k:Int)∧(k:Int)<(x.1:Int):=⟨by omega,by rw [hx3];omega⟩
      have key: ∀P':List Rat,P'.length=P.length→(qcd (qU x k).1 P'↔ ∃t,qcd x (P'.set k t)):=fun P' hP'=>qYr hx1 hv (by rw [hx3,hP'];exact hp) hm
      constructor
      ·rintro ⟨P',h1,h2,h3⟩
       obtain ⟨t,ht⟩:=(key P' h1).1 h3
       refine ⟨P'.set k t,by rw [List.length_set,h1],fun i hi=> ?_,ht⟩
       rw [←h2 i (by omega)]
       have:k≠i:=by omega
       simp [List.getD,List.getElem?_set_ne this]
      ·rintro ⟨P',h1,h2,h3⟩
       refine ⟨P'.set k (P.getD k 0),by rw [List.length_set,h1],fun i hi=> ?_,?_⟩
       ·by_cases hik:k=i
        ·subst hik
         have:k<P'.length:=by omega
         simp [List.getD,this]
        ·rw [←h2 i (by omega)]
         simp [List.getD,List.getElem?_set_ne hik]
       ·rw [key _ (by rw [List.length_set,h1])]
        refine ⟨P'.getD k 0,?_⟩
        have hk':k<P'.length:=by omega
        rw [List.set_set]
        have:P'.set k (P'.getD k 0)=P':=by
         simp [List.getD,List.getElem?_eq_getElem hk']
        rw [this];exact h3
def qcX (w:Int) (c:(Val Y33)):Prop:= ∀a∈(c.2:List (Val qa)),cfV w a=0
theorem q4x (w d:Int):qcX w (qbJ d):=fun a ha=>by
 have ha:a∈([(List.replicate d.toNat (0:Int),(1:Int),false)]:List (Val qa)):=ha
 rw [List.mem_singleton.1 ha]
 show List.getD (List.replicate d.toNat (0:Int)) w.toNat 0=0
 by_cases h:w.toNat<d.toNat
 ·simp [List.getD,h]
 ·simp [List.getD,h]
theorem zfA {w d:Int} {l:List (Val qa)} (h: ∀a∈l,cfV w a=0):qcX w (qO d l):=fun a ha=>by
 unfold qO at ha
 cases hb:l.any qaB with
 | true=>rw [hb]at ha;exact q4x w d a ha
 | false=>
   rw [hb]at ha
   have ha:a∈qdr (l.filter q8):=ha
   exact h a (List.mem_filter.1 (qT2 ha)).1
theorem q3X {w:Int} {co:List Int} {k:Int} {s:Bool} (h:co.getD w.toNat 0=0):cfV w (qh co k s).1=0:=by
 unfold qh qjD
 generalize max 1 (gL k.natAbs co)=g
 cases qG (List.map (α:=Int) (fun x=>x.tdiv (g:Int)) co,k.tdiv (g:Int),s)with
 | false=>simp [cfV]
 | true=>
   show (List.map (α:=Int) (fun x=>x.tdiv (g:Int)) co).getD w.toNat 0=0
   by_cases hw:w.toNat<co.length
   ·simp [List.getD,hw]at h ⊢
    rw [h];simp
   ·simp [List.getD,List.getElem?_eq_none (show co.length≤w.toNat by omega)]
theorem q5U {w p q:Int} {a b:(Val qa)} (h:p*cfV w a+q*cfV w b=0):cfV w (q4 a p b q).1=0:=by
 unfold q4
 cases hc:(qG a&&qG b&&decide (List.length (α:=Int) a.1=List.length (α:=Int) b.1)&&inR p 0 400000000&&inR q 0 400000000)with
 | false=>simp [cfV]
 | true=>
   simp only [cond_true]
   simp only [Bool.and_eq_true,decide_eq_true_eq]at hc
   have hl:=hc.1.1.2
   refine q3X ?_
   by_cases hw:w.toNat<List.length (α:=Int) a.1
   ·have hw':w.toNat<List.length (α:=Int) b.1:=by omega
    simp only [cfV,List.getD,List.getElem?_eq_getElem hw,List.getElem?_eq_getElem hw',Option.getD_some]at h
    have:w.toNat<(qbz p q a.1 b.1).length:=by rw [qtD hl];exact hw
    simp only [List.getD,List.getElem?_eq_getElem this,Option.getD_some]
    simpa [qbz] using h
   ·have:(qbz p q a.1 b.1).length≤w.toNat:=by rw [qtD hl];omega
    simp [List.getD,List.getElem?_eq_none this]
theorem qxw {c:(Val Y33)} {v w:Int} (h:(qU c v).2=true) (hw:w=v∨qcX w c):qcX w (qU c v).1:=by
 obtain ⟨s,e,hs⟩:=qZk h
 rw [e]
 refine zfA ((hs fun a=>cfV w a=0).2 ⟨fun a ha hz=> ?_,fun a ha pa b hb nb=> ?_⟩)
 ·rcases hw with rfl | hw
  ·exact hz
  ·exact hw a ha
 ·have:=(hs fun _=>True).1 (fun _ _=>trivial)
  refine ⟨(this.2 a ha pa b hb nb).1,q5U ?_⟩
  rcases hw with rfl | hw
  ·rw [Int.mul_comm (cfV w a),Int.neg_mul];omega
  ·rw [hw a ha,hw b hb];simp
theorem qXF {v w:Int}: ∀(k:Nat) {x y:(Val Y33)},qbp v k x=some y→(qcX w x∨0≤w∧w<k∧w≠v)→qcX w y
 | 0,x,y,h,hw=>by
   simp only [qbp,Option.some.injEq]at h
   subst h
   rcases hw with hw | hw
   ·exact hw
   ·omega
 | k+1,x,y,h,hw=>by
   rw [qbp]at h
   by_cases hkv:(k:Int)=v
   ·rw [if_pos hkv]at h
    refine qXF k h ?_
    rcases hw with hw | hw
    ·exact .inl hw
    ·exact .inr (by omega)
   ·rw [if_neg hkv]at h
    cases hm:(qU x k).2 with
    | false=>rw [hm]at h;simp at h
    | true=>
      rw [hm]at h
      simp only [cond_true]at h
      refine qXF k h ?_
      rcases hw with hw | hw
      ·exact .inl (qxw hm (.inr hw))
      ·by_cases hwk:w=k
       ·exact .inl (qxw hm (.inl hwk))
       ·exact .inr (by omega)
def qC (r:(Val Y28)):Rat:=((r.1:Int):Rat) / ((r.2:Int):Rat)
theorem qeT {r:(Val Y28)} (h:qi r=true):(0:Rat)<((r.2:Int):Rat)∧qC r*((r.2:Int):Rat)=((r.1:Int):Rat):=by
 have h1:1≤(r.2:Int):=(qnt h).1
 have h2:(0:Rat)<((r.2:Int):Rat):=Rat.intCast_pos.2 (Int.lt_of_lt_of_le (by decide) h1)
 exact ⟨h2,Rat.div_mul_cancel (by grind)⟩
theorem qn5 {a b:(Val Y28)} (ha:qi a=true) (hb:qi b=true):qab a b=true↔qC a<qC b:=by
 obtain ⟨a1,a2⟩:=qeT ha
 obtain ⟨b1,b2⟩:=qeT hb
 unfold qab
 rw [decide_eq_true_eq,←Rat.intCast_lt_intCast,Rat.intCast_mul,Rat.intCast_mul,←a2,←b2]
 generalize qC a=x at*
 generalize qC b=y at*
 generalize ((a.2:Int):Rat)=c at*
 generalize ((b.2:Int):Rat)=d at*
 have e:x*c*d - y*d*c=(c*d)*(x - y):=by grind
 obtain ⟨s,_⟩:=qea (x:=x - y) (Rat.mul_pos a1 b1)
 rw [←e]at s
 constructor
 ·intro h;have:=s.1 (by grind);grind
 ·intro h;have:=s.2 (by grind);grind
theorem qA7 {a b:(Val Y28)} (ha:qi a=true) (hb:qi b=true) (h:qC a=qC b):a=b:=by
 obtain ⟨a1,a2⟩:=qeT ha
 obtain ⟨b1,b2⟩:=qeT hb
 refine q3U ha hb ?_
 rw [←Rat.intCast_inj,Rat.intCast_mul,Rat.intCast_mul,←a2,←b2,h]
 grind
theorem qZz {m e:Int} (h:qi (qfE m e)=true):(qfE m e).1*e=m*(qfE m e).2:=by
 unfold qfE at*
 cases hr:qi (m.tdiv (qS m e),e.tdiv (qS m e))with
 | false=>rw [hr]at h;simp [qi,inR]at h
 | true=>
   simp only [cond_true]
   have h1:qS m e ∣ m:=by unfold qS;exact Int.ofNat_dvd_left.2 (Nat.gcd_dvd_left _ _)
   have h2:qS m e ∣ e:=by unfold qS;exact Int.ofNat_dvd_left.2 (Nat.gcd_dvd_right _ _)
   have e1:=Int.tdiv_mul_cancel h1
   have e2:=Int.tdiv_mul_cancel h2
   generalize qS m e=g at*
   generalize m.tdiv g=x at*
   generalize e.tdiv g=y at*
   show x*e=m*y
   rw [←e1,←e2];grind
theorem q0p {n d:Int} (h:qi (qQ n d)=true):(qQ n d).1*d=n*(qQ n d).2:=by
 unfold qQ at*
 by_cases h0:d=0
 ·rw [if_pos h0]at h;simp [qi,inR]at h
 ·rw [if_neg h0]at h ⊢
  by_cases h1:d<0
  ·rw [if_pos h1]at h ⊢
   have:=qZz h
   rw [Int.mul_neg,Int.neg_mul]at this
   exact Int.neg_inj.1 this
  ·rw [if_neg h1]at h ⊢
   exact qZz h
theorem q0U {a:(Val qa)} {v:Int} (ha:okA a) (h0:cfV v a≠0):((a.2.1:Int):Rat)= -((cfV v a:Int):Rat)*qC (ql (-(a.2.1:Int)) (cfV v a)):=by
 have hr:=qnr ha h0
 obtain ⟨r1,r2⟩:=qeT hr
 have hc:=qfI ha
 have hx:=qtp (v:=v) ha
 have e:ql (-(a.2.1:Int)) (cfV v a)=qQ (-(a.2.1:Int)) (cfV v a):=qFG ⟨Int.neg_le_neg hc.2,by have:=Int.neg_le_neg hc.1;exact this⟩ hx
 have hv:=q0p (e▸hr)
 rw [←e]at hv
 rw [←Rat.intCast_inj,Rat.intCast_mul,Rat.intCast_mul,Rat.intCast_neg,←r2]at hv
 generalize qC (ql (-(a.2.1:Int)) (cfV v a))=q at*
 generalize (((ql (-(a.2.1:Int)) (cfV v a)).2:Int):Rat)=u at*
 have:u*(-((a.2.1:Int):Rat) - ((cfV v a:Int):Rat)*q)=0:=by grind
 rcases Rat.mul_eq_zero.1 this with h | h<;>grind
def inB (b:(Val qad)) (t:Rat):Prop:=
 ((b.1:Bool)=true→qC b.2.1<t∨((b.2.2.1:Bool)=false∧qC b.2.1=t))∧((b.2.2.2.1:Bool)=true→t<qC b.2.2.2.2.1∨((b.2.2.2.2.2.1:Bool)=false∧t=qC b.2.2.2.2.1))
def atV (v:Int) (a:(Val qa)) (t:Rat):Prop:=((cfV v a:Int):Rat)*t+((a.2.1:Int):Rat)<0∨((a.2.2:Bool)=false∧((cfV v a:Int):Rat)*t+((a.2.1:Int):Rat)=0)
theorem zeH {a:(Val qa)} {v:Int} {t:Rat} (ha:okA a) (h0:0<cfV v a):atV v a t↔t<qC (ql (-(a.2.1:Int)) (cfV v a))∨((a.2.2:Bool)=false∧t=qC (ql (-(a.2.1:Int)) (cfV v a))):=by
 have e:=q0U ha (show cfV v a≠0 by omega)
 unfold atV
 rw [e]
 generalize qC (ql (-(a.2.1:Int)) (cfV v a))=q at*
 have hp:(0:Rat)<((cfV v a:Int):Rat):=Rat.intCast_pos.2 h0
 obtain ⟨s1,s2⟩:=qea (x:=t - q) hp
 rw [show ((cfV v a:Int):Rat)*t+ -((cfV v a:Int):Rat)*q=((cfV v a:Int):Rat)*(t - q) by grind,s1,s2]
 rw [show (t - q<0↔t<q) by constructor<;>grind,show (t - q=0↔t=q) by constructor<;>grind]
theorem zkH {a:(Val qa)} {v:Int} {t:Rat} (ha:okA a) (h0:cfV v a<0):atV v a t↔qC (ql (-(a.2.1:Int)) (cfV v a))<t∨((a.2.2:Bool)=false∧qC (ql (-(a.2.1:Int)) (cfV v a))=t):=by
 have e:=q0U ha (show cfV v a≠0 by omega)
 unfold atV
 rw [e]
 generalize qC (ql (-(a.2.1:Int)) (cfV v a))=q at*
 have hp:((cfV v a:Int):Rat)<0:=Rat.intCast_neg_iff.2 h0
 obtain ⟨s1,s2⟩:=qea (g:= -((cfV v a:Int):Rat)) (x:=q - t) (by grind)
 rw [show ((cfV v a:Int):Rat)*t+ -((cfV v a:Int):Rat)*q= -((cfV v a:Int):Rat)*(q - t) by grind,s1,s2]
 rw [show (q - t<0↔q<t) by constructor<;>grind,show (q - t=0↔q=t) by constructor<;>grind]
theorem q6A {b:(Val qad)} {a:(Val qa)} {v:Int} {t:Rat} (hb:qbM b) (ha:okA a) (h0:cfV v a≠0):inB (qay b a v) t↔inB b t∧atV v a t:=by
 have hr:=qnr ha h0
 obtain ⟨hl,l,lo,hh,g,ho,em⟩:=b
 obtain ⟨⟨_,bl⟩,_,bh⟩:=hb
 change hl=true→qi l=true at bl
 change hh=true→qi g=true at bh
 unfold qay
 rcases Int.lt_or_gt_of_ne h0 with hn | hn
 ·rw [decide_eq_false (show ¬0<cfV v a by omega),decide_eq_true hn,zkH ha hn]
  generalize ql (-(a.2.1:Int)) (cfV v a)=r at*
  simp only [cond_false,cond_true]
  generalize hs:(a.2.2:Bool)=s
  cases hl with
  | false=>
    simp only [Bool.not_false,Bool.true_or,cond_true]
    unfold inB
    simp only [Bool.false_eq_true,false_imp_iff,true_imp_iff,true_and]
    exact and_comm
  | true=>
    have hl':=bl rfl
    simp only [Bool.not_true,Bool.false_or]
    by_cases hc:(qab l r||(decide (r=l)&&s))=true
    ·rw [hc]
     unfold inB
     simp only [cond_true,true_imp_iff]
     simp only [Bool.or_eq_true,Bool.and_eq_true,decide_eq_true_eq,qn5 hl' hr]at hc
     rcases hc with hc | ⟨rfl,rfl⟩
     ·constructor
      ·rintro ⟨h1,h2⟩;exact ⟨⟨by grind,h2⟩,h1⟩
      ·rintro ⟨⟨h1,h2⟩,h3⟩;exact ⟨h3,h2⟩
     ·constructor
      ·rintro ⟨h1,h2⟩;exact ⟨⟨by grind,h2⟩,h1⟩
      ·rintro ⟨⟨h1,h2⟩,h3⟩;exact ⟨h3,h2⟩
    ·have hc':(qab l r||(decide (r=l)&&s))=false:=by simpa using hc
     rw [hc']
     unfold inB
     simp only [cond_false,true_imp_iff]
     simp only [Bool.or_eq_true,Bool.and_eq_true,decide_eq_true_eq,qn5 hl' hr,not_or,not_and]at hc
     obtain ⟨c1,c2⟩:=hc
     constructor
     ·rintro ⟨h1,h2⟩
      refine ⟨⟨h1,h2⟩,?_⟩
      by_cases he:qC r=qC l
      ·have:=c2 (qA7 hr hl' he)
       have:s=false:=by simpa using this
       grind
      ·left;grind
     ·exact fun h=>h.1
 ·rw [decide_eq_true hn,zeH ha hn]
  generalize ql (-(a.2.1:Int)) (cfV v a)=r at*
  simp only [cond_true]
  generalize hs:(a.2.2:Bool)=s
  cases hh with
  | false=>
    simp only [Bool.not_false,Bool.true_or,cond_true]
    unfold inB
    simp only [Bool.false_eq_true,false_imp_iff,true_imp_iff,and_true]
  | true=>
    have hg':=bh rfl
    simp only [Bool.not_true,Bool.false_or]
    by_cases hc:(qab r g||(decide (r=g)&&s))=true
    ·rw [hc]
     unfold inB
     simp only [cond_true,true_imp_iff]
     simp only [Bool.or_eq_true,Bool.and_eq_true,decide_eq_true_eq,qn5 hr hg']at hc
     rcases hc with hc | ⟨rfl,rfl⟩
     ·constructor
      ·rintro ⟨h1,h2⟩;exact ⟨⟨h1,by grind⟩,h2⟩
      ·rintro ⟨⟨h1,h2⟩,h3⟩;exact ⟨h1,h3⟩
     ·constructor
      ·rintro ⟨h1,h2⟩;exact ⟨⟨h1,by grind⟩,h2⟩
      ·rintro ⟨⟨h1,h2⟩,h3⟩;exact ⟨h1,h3⟩
    ·have hc':(qab r g||(decide (r=g)&&s))=false:=by simpa using hc
     rw [hc']
     unfold inB
     simp only [cond_false,true_imp_iff]
     simp only [Bool.or_eq_true,Bool.and_eq_true,decide_eq_true_eq,qn5 hr hg',not_or,not_and]at hc
     obtain ⟨c1,c2⟩:=hc
     constructor
     ·rintro ⟨h1,h2⟩
      refine ⟨⟨h1,h2⟩,?_⟩
      by_cases he:qC r=qC g
      ·have:=c2 (qA7 hr hg' he)
       have:s=false:=by simpa using this
       grind
      ·left;grind
     ·exact fun h=>h.1
theorem q6z {b:(Val qad)} {a:(Val qa)} {v:Int} (h0:cfV v a=0):qay b a v=b:=by
 unfold qay
 rw [h0]
 rfl
theorem q1o {v:Int} {t:Rat}: ∀(l:List (Val qa)) {b:(Val qad)},qbM b→(∀a∈l,okA a)→(inB (l.foldl (fun b a=>qay b a v) b) t↔inB b t∧ ∀a∈l,cfV v a≠0→atV v a t)
 | [],b,_,_=>by simp
 | a::l,b,hb,h=>by
   have ha:=h a (by simp)
   rw [List.foldl_cons,q1o l (qBD hb ha) fun x hx=>h x (by simp [hx])]
   by_cases h0:cfV v a=0
   ·rw [q6z h0]
    simp [h0]
   ·rw [q6A hb ha h0]
    simp [and_assoc,h0]
theorem zi5 (t:Rat):inB noB t:=⟨fun h=>by simp [noB]at h,fun h=>by simp [noB]at h⟩
def qvb (d v:Int) (c:(Val Y33)):Prop:= ∀w,0≤w→w<d→w≠v→qcX w c
theorem q3r: ∀(xs:List Int) (P:List Rat) (v:Nat),(∀i,i≠v→xs.getD i 0=0)→qaA xs P=((xs.getD v 0:Int):Rat)*P.getD v 0∨P.length<xs.length
 | [],P,v,_=>by left;simp [qaA]
 | x::xs,[],v,_=>by right;simp
 | x::xs,y::P,0,h=>by
   left
   have hz: ∀z∈xs,z=0:=fun z hz=>by
    obtain ⟨i,hi,rfl⟩:=List.mem_iff_getElem.1 hz
    have:=h (i+1) (by omega)
    simpa [List.getD,List.getElem?_eq_getElem hi] using this
   simp only [qaA,qDr xs P hz,List.getD_cons_zero];grind
 | x::xs,y::P,v+1,h=>by
   have h0:x=0:=by simpa using h 0 (by omega)
   subst h0
   rcases q3r xs P v fun i hi=>by simpa using h (i+1) (by omega)with e | e
   ·left
    simp only [qaA,e,List.getD_cons_succ];grind
   ·right;simpa using e
theorem q0X {d v:Int} {c:(Val Y33)} {P:List Rat} (hd: ∀a∈(c.2:List (Val qa)),okD d a) (hp:(P.length:Int)=d) (h:qvb d v c) {a:(Val qa)} (ha:a∈(c.2:List (Val qa))):qaz (atm a) P↔atV v a (P.getD v.toNat 0):=by
 have hl:(List.length (α:=Int) a.1:Int)=d:=(hd a ha).2
 have e:evA (atm a) P=((cfV v a:Int):Rat)*P.getD v.toNat 0+((a.2.1:Int):Rat):=by
  unfold evA
  have key:=q3r a.1 P v.toNat fun i hi=>by
   by_cases hid:(i:Int)<d
   ·exact h i (by omega) hid (by omega) a ha
   ·have:List.length (α:=Int) a.1≤i:=by omega
    simp [List.getD,List.getElem?_eq_none this]
  rcases key with e | e
  ·show qaA a.1 P+_=_
   rw [e];rfl
  ·omega
 unfold qaz atV
 rw [e]
theorem ziV {d v:Int} {c:(Val Y33)} (hd: ∀a∈(c.2:List (Val qa)),okD d a) (h:qvb d v c) {a:(Val qa)} (ha:a∈(c.2:List (Val qa))) (hz:cfV v a=0):q8 a=false:=by
 have:gL 0 (atm a).1=0:=qpr.2 fun x hx=>by
  obtain ⟨i,hi,rfl⟩:=List.mem_iff_getElem.1 hx
  have hl:(List.length (α:=Int) a.1:Int)=d:=(hd a ha).2
  have hi':i<List.length (α:=Int) a.1:=hi
  by_cases hiv:(i:Int)=v
  ·have:cfV (i:Int) a=0:=by rw [hiv];exact hz
   simpa [cfV,List.getD,List.getElem?_eq_getElem hi'] using this
  ·have:=h i (by omega) (by omega) hiv a ha
   simpa [cfV,List.getD,List.getElem?_eq_getElem hi'] using this
 unfold q8
 simp [this]
theorem zcM {a:(Val qa)} (h:qaB a=true):q8 a=false:=by
 unfold qaB at h
 cases hv:q8 a with
 | false=>rfl
 | true=>rw [hv]at h;simp at h
theorem qZN {d v:Int} {y:(Val Y33)} (hd: ∀a∈(y.2:List (Val qa)),okD d a) (h:qvb d v y):
 (((qm y v).2.2.2.2.2.2:Bool)=true→ ∀P:List Rat,(P.length:Int)=d→ ¬qcd y P)∧
 (((qm y v).2.2.2.2.2.2:Bool)=false→qm y v=qf y v∧(∃t,inB (qm y v) t)∧ ∀P:List Rat,(P.length:Int)=d→(qcd y P↔inB (qm y v) (P.getD v.toNat 0))):=by
 unfold qm
 cases hn:List.any (α:=(Val qa)) y.2 qaB with
 | true=>
   refine ⟨fun _ P hP hh=> ?_,fun h=>by simp [qfq]at h⟩
   obtain ⟨a,ha,hb⟩:=List.any_eq_true.1 hn
   have:=hh a ha
   rw [qtI (zcM hb),hb]at this
   simp at this
 | false=>
   have hb:qbM (qf y v):=qpy qeC fun a ha=>(hd a ha).1
   have hem:((qf y v).2.2.2.2.2.2:Bool)=false:=qTm y.2 noB
   have hin: ∀t,inB (qf y v) t↔ ∀a∈(y.2:List (Val qa)),cfV v a≠0→atV v a t:=fun t=>by
    refine (q1o y.2 qeC fun a ha=>(hd a ha).1).trans ?_
    simp [zi5]
   have hP: ∀P:List Rat,(P.length:Int)=d→(qcd y P↔inB (qf y v) (P.getD v.toNat 0)):=fun P hP=>by
    rw [hin]
    constructor
    ·exact fun hh a ha _=>(q0X hd hP h ha).1 (hh a ha)
    ·intro hh a ha
     by_cases h0:cfV v a=0
     ·rw [qtI (ziV hd h ha h0)]
      have:=List.any_eq_false.1 hn a ha
      simpa using this
     ·exact (q0X hd hP h ha).2 (hh a ha h0)
   simp only [cond_false]
   generalize qf y v=b at*
   obtain ⟨hl,l,lo,hh,g,ho,em⟩:=b
   change em=false at hem
   subst hem
   obtain ⟨⟨_,bl⟩,_,bh⟩:=hb
   change hl=true→qi l=true at bl
   change hh=true→qi g=true at bh
   unfold qqc
   cases hl with
   | false=>
     simp only [Bool.false_and,cond_false]
     refine ⟨fun h=>by simp at h,fun _=>⟨trivial,?_,hP⟩⟩
     refine ⟨qC g - 1,fun h=>by simp at h,fun _=> .inl ?_⟩
     show qC g - 1<qC g
     grind
   | true=>
     cases hh with
     | false=>
       simp only [Bool.and_false,Bool.false_and,cond_false]
       refine ⟨fun h=>by simp at h,fun _=>⟨trivial,?_,hP⟩⟩
       refine ⟨qC l+1,fun _=> .inl ?_,fun h=>by simp at h⟩
       show qC l<qC l+1
       grind
     | true=>
       have rl:=bl rfl
       have rg:=bh rfl
       simp only [Bool.true_and]
       cases hc:qab g l||(decide (g=l)&&(lo||ho))with
       | true=>
         simp only [cond_true]
         refine ⟨fun _ P hPl hh=> ?_,fun h=>by simp [qfq]at h⟩
         obtain ⟨h1,h2⟩:=(hP P hPl).1 hh
         have h1:=h1 rfl
         have h2:=h2 rfl
         change qC l<_∨(lo=false∧qC l=_)at h1
         change _<qC g∨(ho=false∧_=qC g)at h2
         simp only [Bool.or_eq_true,Bool.and_eq_true,decide_eq_true_eq,qn5 rg rl]at hc
         rcases hc with hc | ⟨rfl,hc⟩
         ·grind
         ·rcases hc with rfl | rfl<;>grind
       | false=>
         simp only [cond_false]
         refine ⟨fun h=>by simp at h,fun _=>⟨trivial,?_,hP⟩⟩
         have hc': ¬(qab g l||(decide (g=l)&&(lo||ho)))=true:=by rw [hc];simp
         simp only [Bool.or_eq_true,Bool.and_eq_true,decide_eq_true_eq,qn5 rg rl,not_or,not_and]at hc'
         obtain ⟨c1,c2⟩:=hc'
         refine ⟨(qC l+qC g) / 2,fun _=> ?_,fun _=> ?_⟩
         ·show qC l<_∨(lo=false∧qC l=_)
          by_cases he:qC g=qC l
          ·have:=c2 (qA7 rg rl he)
           have:lo=false:=by simpa using this.1
           grind
          ·left;grind
         ·show _<qC g∨(ho=false∧_=qC g)
          by_cases he:qC g=qC l
          ·have:=c2 (qA7 rg rl he)
           have:ho=false:=by simpa using this.2
           grind
          ·left;grind
theorem zlg {c:(Val Y33)} {v:Int} (h:(qA c v).2=true):qH c=true∧(0≤v∧v<(c.1:Int))∧
 (((qA c v).1.2.2.2.2.2.2:Bool)=true→ ∀P:List Rat,(P.length:Int)=(c.1:Int)→ ¬qcd c P)∧
 (((qA c v).1.2.2.2.2.2.2:Bool)=false→(∃t,inB (qA c v).1 t)∧ ∀t,(inB (qA c v).1 t↔ ∃P:List Rat,(P.length:Int)=(c.1:Int)∧P.getD v.toNat 0=t∧qcd c P)):=by
 unfold qA at*
 cases hc:qH c with
 | false=>rw [hc]at h;simp at h
 | true=>
 by_cases hv:0≤v∧v<(c.1:Int)
 rotate_left
 ·rw [hc,decide_eq_false hv]at h;simp at h
 rw [hc,decide_eq_true hv]at h
 rw [decide_eq_true hv]
 simp only [Bool.and_self,cond_true]at h ⊢
 obtain ⟨hd,_,_⟩:=qaJ hc
 obtain ⟨hL,hN⟩:=qil hc
 cases hm:qbp v (c.1:Int).toNat (qO c.1 c.2)with
 | none=>rw [hm]at h;simp at h
 | some y=>
   simp only
   have hy:=qnq _ hN hm
   have hp:qvb c.1 v y:=fun w w0 w1 w2=>qXF _ hm (.inr ⟨w0,by omega,w2⟩)
   have hh: ∀P:List Rat,(P.length:Int)=(c.1:Int)→(qcd y P↔ ∃P':List Rat,(P'.length:Int)=(c.1:Int)∧P'.getD v.toNat 0=P.getD v.toNat 0∧qcd c P'):=fun P hP=>by
    rw [qMR _ hN (by omega) hP hm]
    constructor
    ·rintro ⟨P',h1,h2,h3⟩
     exact ⟨P',by omega,h2 _ (.inr (by omega)),qSt.1 h3⟩
    ·rintro ⟨P',h1,h2,h3⟩
     refine ⟨P',by omega,fun i hi=> ?_,qSt.2 h3⟩
     by_cases hiv:(i:Int)=v
     ·have:i=v.toNat:=by omega
      rw [this];exact h2
     ·have h4:P'.length≤i:=by omega
      have h5:P.length≤i:=by omega
      simp [List.getD,List.getElem?_eq_none h4,List.getElem?_eq_none h5]
   have hyd: ∀a∈(y.2:List (Val qa)),okD c.1 a:=fun a ha=>⟨((qaJ hy.1).2.2 a ha).1,((qaJ hy.1).2.2 a ha).2.trans hy.2.2⟩
   obtain ⟨s1,s2⟩:=qZN hyd hp
   refine ⟨trivial,hv,fun he P hP hcP=> ?_,fun he=> ?_⟩
   ·exact s1 he P hP ((hh P hP).2 ⟨P,hP,rfl,hcP⟩)
   ·obtain ⟨_,s3,s4⟩:=s2 he
    refine ⟨s3,fun t=> ?_⟩
    have hlen:((List.replicate (c.1:Int).toNat t).length:Int)=(c.1:Int):=by rw [List.length_replicate];omega
    have hg:(List.replicate (c.1:Int).toNat t).getD v.toNat 0=t:=by
        have:v.toNat<(c.1:Int).toNat:=by omega
        simp [List.getD,this]
    have:=s4 _ hlen
    rw [hg]at this
    rw [←this,hh _ hlen,hg]
theorem qCC: ∀(xs:List Int) (P:List Rat) (i:Nat) (z:Int),i<xs.length→i<P.length→qaA (xs.set i z) P=qaA xs P+(((z:Int):Rat) - ((xs.getD i 0:Int):Rat))*P.getD i 0
 | [],P,i,z,h,_=>by simp at h
 | x::xs,[],i,z,_,h=>by simp at h
 | x::xs,y::P,0,z,_,_=>by simp [qaA];grind
 | x::xs,y::P,i+1,z,h,h'=>by
   simp only [List.set_cons_succ,qaA,List.getD_cons_succ]
   rw [qCC xs P i z (by simpa using h) (by simpa using h')]
   grind
end Go.T
