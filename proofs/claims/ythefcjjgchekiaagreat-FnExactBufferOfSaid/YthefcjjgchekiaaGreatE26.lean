/- Regions widened: atoms over more and over fewer variables. -/
import Derived.Test.YthefcjjgchekiaaGreatE25
set_option linter.unusedSimpArgs false
set_option linter.unusedVariables false
namespace Go.T
open Go Go.Proofs
set_option maxHeartbeats 4000000
set_option maxRecDepth 100000
theorem qPs (xs:List Int): ∀(k g:Nat),gL g (List.replicate k (0:Int)++xs)=gL g xs
 | 0,g=>rfl
 | k+1,g=>by
   rw [List.replicate_succ,List.cons_append,gL]
   simp only [Int.natAbs_zero,Nat.gcd_zero_right]
   exact qPs xs k g
theorem qRA (k:Nat): ∀(xs:List Int) (g:Nat),gL g (xs++List.replicate k (0:Int))=gL g xs
 | [],g=>by
   have:=qPs [] k g
   rwa [List.append_nil]at this
 | x::xs,g=>by
   rw [List.cons_append,gL,gL]
   exact qRA k xs _
theorem qy2 {a:Val qa}:qA a=true↔List.length (α:=Int) a.1≤4∧qX a.2.1=true∧(∀x∈(a.1:List Int),qX x=true)∧gL (Int.natAbs a.2.1) a.1≤1:=by
 unfold qA
 simp only [Bool.and_eq_true,decide_eq_true_eq,List.all_eq_true,and_assoc]
 constructor
 ·exact fun ⟨h1,h2,h3,h4⟩=>⟨h1,h2,h3,by omega⟩
 ·exact fun ⟨h1,h2,h3,h4⟩=>⟨h1,h2,h3,by omega⟩
theorem q7j {n:Int} {a:Val qa} (hn:1≤n∧n≤2) (h:okD n a):okD (2*n) (qbv n a):=by
 obtain ⟨h1,h2⟩:=h
 obtain ⟨g1,g2,g3,g4⟩:=qy2.1 h1
 have hl:List.length (α:=Int) (qbv n a).1=n.toNat+List.length (α:=Int) a.1:=by
  show (List.replicate n.toNat (0:Int)++(a.1:List Int)).length=_
  rw [List.length_append,List.length_replicate]
 have h2:(List.length (α:=Int) a.1:Int)=n:=h2
 refine ⟨qy2.2 ⟨by omega,g2,fun x hx=> ?_,?_⟩,by show (List.length (α:=Int) (qbv n a).1:Int)=_;omega⟩
 ·rcases List.mem_append.1 (show x∈List.replicate n.toNat (0:Int)++(a.1:List Int) from hx)with hx | hx
  ·rw [(List.mem_replicate.1 hx).2];rfl
  ·exact g3 x hx
 ·show gL (Int.natAbs a.2.1) (List.replicate n.toNat (0:Int)++(a.1:List Int))≤1
  rw [qPs];exact g4
theorem qUh {n:Int} {a:Val qa} (hn:1≤n∧n≤2) (h:okD (2*n) a) (hz: ∀w:Int,n≤w→w<2*n→cfV w a=0):okD n (qbP n a)∧qh (List.take n.toNat (a.1:List Int)) a.2.1 a.2.2=(qbP n a,true):=by
 obtain ⟨h1,h2⟩:=h
 obtain ⟨g1,g2,g3,g4⟩:=qy2.1 h1
 have h2:(List.length (α:=Int) a.1:Int)=2*n:=h2
 have hd:List.drop n.toNat (a.1:List Int)=List.replicate n.toNat (0:Int):=by
  rw [List.eq_replicate_iff]
  refine ⟨by rw [List.length_drop];omega,fun b hb=> ?_⟩
  obtain ⟨i,hi,rfl⟩:=List.getElem_of_mem hb
  rw [List.length_drop]at hi
  have:=hz (n+i) (by omega) (by omega)
  unfold cfV at this
  have e:(n+(i:Int)).toNat=n.toNat+i:=by omega
  rw [e,qek (by omega)]at this
  rw [List.getElem_drop];exact this
 have e:gL (Int.natAbs a.2.1) (List.take n.toNat (a.1:List Int))=gL (Int.natAbs a.2.1) a.1:=by
  have e0:(a.1:List Int)=List.take n.toNat (a.1:List Int)++List.replicate n.toNat (0:Int):=by rw [←hd,List.take_append_drop]
  conv=>rhs;rw [e0]
  rw [qRA]
 have hl:(List.take n.toNat (a.1:List Int)).length=n.toNat:=by rw [List.length_take];omega
 have ha:qA (qbP n a)=true:=qy2.2 ⟨by show (List.take n.toNat (a.1:List Int)).length≤4;omega,g2,fun x hx=>g3 x (List.mem_of_mem_take hx),by show gL (Int.natAbs a.2.1) (List.take n.toNat (a.1:List Int))≤1;rw [e];exact g4⟩
 refine ⟨⟨ha,by show ((List.take n.toNat (a.1:List Int)).length:Int)=n;omega⟩,?_⟩
 have hg:max 1 (gL (Int.natAbs a.2.1) (List.take n.toNat (a.1:List Int)))=1:=by rw [e];omega
 unfold qh
 rw [hg]
 unfold quC
 have e1:List.map (α:=Int) (fun x=>x.tdiv ((1:Nat):Int)) (List.take n.toNat (a.1:List Int))=List.take n.toNat (a.1:List Int):=by
  have:(fun x:Int=>x.tdiv ((1:Nat):Int))=id:=by funext x;exact Int.tdiv_one x
  rw [this,List.map_id]
 have e2:(a.2.1:Int).tdiv ((1:Nat):Int)=a.2.1:=Int.tdiv_one _
 rw [e1,e2]
 rw [show qA ((List.take n.toNat (a.1:List Int),(a.2.1:Int),a.2.2):Val qa)=true from ha]
 rfl
def zat (w:Int) (l:List (Val qa)):Prop:= ∀a∈l,cfV w a=0
theorem q4F {co:List Int} {k:Int} {s:Bool} {w:Int} (h:(qh co k s).2=true) (hw:co.getD w.toNat 0=0):cfV w (qh co k s).1=0:=by
 unfold qh quC at*
 generalize max 1 (gL k.natAbs co)=g at*
 cases hb:qA (List.map (α:=Int) (fun x=>x.tdiv (g:Int)) co,k.tdiv (g:Int),s)with
 | true=>
   show (List.map (α:=Int) (fun x=>x.tdiv (g:Int)) co).getD w.toNat 0=0
   rw [List.getD_eq_getElem?_getD,List.getElem?_map]at*
   cases hc:co[w.toNat]? with
   | none=>rfl
   | some x=>
     rw [hc]at hw
     have hw:x=0:=hw
     subst hw
     show (0:Int).tdiv (g:Int)=0
     exact Int.zero_tdiv _
 | false=>rw [hb]at h;simp at h
theorem qYs {p q:Int} {xs ys:List Int} (h:xs.length=ys.length) (i:Nat):(qbO p q xs ys).getD i 0=p*xs.getD i 0+q*ys.getD i 0:=by
 by_cases hi:i<xs.length
 ·have hi2:i<(qbO p q xs ys).length:=by rw [qqT h];exact hi
  rw [qek hi2,qek hi,qek (by omega)]
  simp only [qbO,List.getElem_map,List.getElem_zip]
 ·have hi2: ¬i<(qbO p q xs ys).length:=by rw [qqT h];exact hi
  rw [List.getD_eq_getElem?_getD,List.getD_eq_getElem?_getD,List.getD_eq_getElem?_getD,List.getElem?_eq_none (by omega),List.getElem?_eq_none (by omega),List.getElem?_eq_none (by omega)]
  simp
theorem q72 {a b:Val qa} {p q w:Int} (h:(qT a p b q).2=true) (hz:p*cfV w a+q*cfV w b=0):cfV w (qT a p b q).1=0:=by
 unfold qT at*
 cases hc:(qA a&&qA b&&decide (List.length (α:=Int) a.1=List.length (α:=Int) b.1)&&inR p 0 400000000&&inR q 0 400000000)with
 | false=>rw [hc]at h;simp at h
 | true=>
   rw [hc]at h
   simp only [Bool.and_eq_true,decide_eq_true_eq]at hc
   exact q4F h ((qYs hc.1.1.2 _).trans hz)
theorem qIp {v w:Int} {a:Val qa}: ∀{xs s s':List (Val qa)},(∀b∈xs, -cfV v b*cfV w a+cfV v a*cfV w b=0)→zat w s→qbz v a xs s=some s'→zat w s'
 | [],s,s',_,hs,h=>by simp only [qbz,Option.some.injEq]at h;subst h;exact hs
 | b::r,s,s',hx,hs,h=>by
   simp only [qbz]at h
   cases hn:decide (cfV v b<0)with
   | false=>rw [hn]at h;exact qIp (fun b hb=>hx b (by simp [hb])) hs h
   | true=>
     rw [hn]at h
     cases hm:(qT a (-cfV v b) b (cfV v a)).2 with
     | false=>rw [hm]at h;simp at h
     | true=>
       rw [hm]at h
       refine qIp (fun b hb=>hx b (by simp [hb])) (fun c hc=> ?_) h
       rcases List.mem_append.1 hc with hc | hc
       ·exact hs c hc
       ·obtain rfl:=List.mem_singleton.1 hc
        exact q72 hm (hx b (by simp))
theorem qwH {v w:Int} {l:List (Val qa)}: ∀{xs s s':List (Val qa)},(∀a∈xs,∀b∈l, -cfV v b*cfV w a+cfV v a*cfV w b=0)→zat w s→qbr v l xs s=some s'→zat w s'
 | [],s,s',_,hs,h=>by simp only [qbr,Option.some.injEq]at h;subst h;exact hs
 | a::r,s,s',hx,hs,h=>by
   simp only [qbr]at h
   cases hn:decide (0<cfV v a)with
   | false=>rw [hn]at h;exact qwH (fun b hb=>hx b (by simp [hb])) hs h
   | true=>
     rw [hn]at h
     simp only [cond_true]at h
     cases hm:qbz v a l s with
     | none=>rw [hm]at h;simp at h
     | some s1=>
       rw [hm]at h
       exact qwH (fun b hb=>hx b (by simp [hb])) (qIp (hx a (by simp)) hs hm) h
theorem q5w {d w:Int} {l:List (Val qa)} (h:zat w l):zat w (qm d l).2:=by
 intro a ha
 unfold qm at ha
 cases hb:l.any qbU with
 | true=>
   rw [hb]at ha
   have ha:a∈([(List.replicate d.toNat (0:Int),(1:Int),false)]:List (Val qa)):=ha
   simp only [List.mem_singleton]at ha
   subst ha
   unfold cfV
   rw [List.getD_eq_getElem?_getD]
   show ((List.replicate d.toNat (0:Int))[w.toNat]?).getD 0=0
   rw [List.getElem?_replicate]
   split<;>rfl
 | false=>
   rw [hb]at ha
   have ha:a∈qgm (l.filter q6):=ha
   exact h a (List.mem_filter.1 (qOP ha)).1
theorem qRp {d w:Int} {l:List (Val qa)} (h:zat w l):zat w (qay d l).1.2:=by
 unfold qay
 cases decide ((16:Int)<(List.length (α:=Val qa) (qm d l).2:Int))with
 | true=>exact fun a ha=>by cases ha
 | false=>exact q5w h
theorem qX5 {x:Val Y33} {v:Int}:zat v (qR x v).1.2∧ ∀w,zat w x.2→zat w (qR x v).1.2:=by
 unfold qR
 cases hm:qbr v x.2 x.2 (List.filter (α:=Val qa) (fun a=>decide (cfV v a=0)) x.2)with
 | none=>
   have e: ∀w:Int,zat w ((((0:Int),[]):Val Y33).2:List (Val qa)):=fun w a ha=>by cases ha
   exact ⟨e _,fun w _=>e w⟩
 | some l=>
   refine ⟨qRp (qwH (fun a _ b _=> ?_) (fun a ha=>by simpa using (List.mem_filter.1 ha).2) hm),fun w hw=>qRp (qwH (fun a ha b hb=> ?_) (fun a ha=>hw a (List.mem_filter.1 ha).1) hm)⟩
   ·rw [Int.neg_mul,Int.mul_comm (cfV v a)];omega
   ·rw [hw a ha,hw b hb];simp
theorem qQR {n:Int} (hn:1≤n∧n≤2): ∀(k:Nat) {x y:Val Y33},(k:Int)≤n→okN (2*n) x→qce n k x=some y→okN (2*n) y∧(∀w:Int,n≤w→w<n+k→zat w y.2)∧ ∀w,zat w x.2→zat w y.2
 | 0,x,y,_,hx,h=>by
   simp only [qce,Option.some.injEq]at h
   subst h
   exact ⟨hx,fun w h1 h2=>by omega,fun _ h=>h⟩
 | k+1,x,y,hk,hx,h=>by
   simp only [qce]at h
   cases hm:(qR x (n+k)).2 with
   | false=>rw [hm]at h;simp at h
   | true=>
     rw [hm]at h
     have hN:=qwo hx.1 hm
     rw [hx.2.2]at hN
     obtain ⟨g1,g2,g3⟩:=qQR hn k (by omega) hN h
     obtain ⟨z1,z2⟩:=qX5 (x:=x) (v:=n+k)
     refine ⟨g1,fun w h1 h2=> ?_,fun w hw=>g3 w (z2 w hw)⟩
     by_cases e:w=n+k
     ·subst e;exact g3 _ z1
     ·exact g2 w h1 (by omega)
theorem qRR {n i s:Int} {d:Val Y28} (hn:1≤n∧n≤2) (h:(qaq n i s d).2=true):okD (2*n) (qaq n i s d).1:=by
 obtain ⟨g1,g2⟩:=qSo h
 refine ⟨g1,?_⟩
 show (List.length (α:=Int) (qh (qqR n i s d.2) (-(d.1:Int)) false).1.1:Int)=2*n
 rw [g2]
 show ((((List.replicate (2*n).toNat (0:Int)).set i.toNat (s*(d.2:Int))).set (n+i).toNat (-s*(d.2:Int))).length:Int)=2*n
 rw [List.length_set,List.length_set,List.length_replicate]
 omega
theorem qZu {n i:Int} {d:Val Y28} (hn:1≤n∧n≤2) {l l':List (Val qa)} (hl: ∀a∈l,okD (2*n) a) (h:qej n i d l=some l'):(∀a∈l',okD (2*n) a)∧l'.length=l.length+2:=by
 unfold qej at h
 cases h1:(qaq n i 1 d).2 with
 | false=>rw [h1]at h;simp at h
 | true=>
   cases h2:(qaq n i (-1) d).2 with
   | false=>rw [h1,h2]at h;simp at h
   | true=>
     rw [h1,h2]at h
     simp only [cond_true,Option.some.injEq]at h
     subst h
     refine ⟨fun a ha=> ?_,by simp⟩
     rcases List.mem_append.1 ha with ha | ha
     ·rcases List.mem_append.1 ha with ha | ha
      ·exact hl a ha
      ·obtain rfl:=List.mem_singleton.1 ha;exact qRR hn h1
     ·obtain rfl:=List.mem_singleton.1 ha;exact qRR hn h2
theorem qQA {n:Int} {d:Val Y28} (hn:1≤n∧n≤2): ∀(k i:Nat) {l l':List (Val qa)},(∀a∈l,okD (2*n) a)→qcd n d k i l=some l'→(∀a∈l',okD (2*n) a)∧l'.length=l.length+2*k
 | 0,i,l,l',hl,h=>by simp only [qcd,Option.some.injEq]at h;subst h;exact ⟨hl,rfl⟩
 | k+1,i,l,l',hl,h=>by
   simp only [qcd]at h
   cases hm:qej n i d l with
   | none=>rw [hm]at h;simp at h
   | some l1=>
     rw [hm]at h
     obtain ⟨g1,g2⟩:=qZu hn hl hm
     obtain ⟨k1,k2⟩:=qQA hn k (i+1) g1 h
     exact ⟨k1,by omega⟩
theorem q4e {a b:Nat} {n:Int} (h:a=b+2*n.toNat) (hb:b≤16) (hn:n≤2):a≤20:=by omega
theorem q0n {n:Int} (hn:1≤n∧n≤2):0≤n∧n≤4:=by omega
theorem qOb {c:Val Y33} {d:Val Y28} (h:qjz c d) {l:List (Val qa)} (hl:qcd c.1 d (c.1:Int).toNat 0 (List.map (α:=Val qa) (qbv c.1) c.2)=some l):(∀a∈l,okD (2*(c.1:Int)) a)∧l.length≤20:=by
 obtain ⟨hc,hn,_⟩:=h
 obtain ⟨h1,h2,h3⟩:=qaD hc
 obtain ⟨g1,g2⟩:=qQA hn (c.1:Int).toNat 0 (l:=List.map (α:=Val qa) (qbv c.1) c.2) (fun a ha=>by
  obtain ⟨b,hb,rfl⟩:=List.mem_map.1 ha
  exact q7j hn (h3 b hb)) hl
 rw [List.length_map]at g2
 have h2':List.length (α:=Val qa) c.2≤16:=h2
 have hn2:(c.1:Int)≤2:=hn.2
 exact ⟨g1,q4e g2 h2' hn2⟩
theorem qNz {n:Int} (hn:1≤n∧n≤2) {l:List (Val qa)} (hl: ∀a∈l,okD (2*n) a) (h16:l.length≤16) {x:Val Y33} (hx:qce n n.toNat (qm (2*n) l)=some x):okN (2*n) x∧ ∀a∈(x.2:List (Val qa)),okD (2*n) a∧ ∀w:Int,n≤w→w<2*n→cfV w a=0:=by
 have hL:okL (2*n) l:=⟨by omega,by omega,hl⟩
 have hN:=qtU hL (qzv h16)
 obtain ⟨g1,g2,_⟩:=qQR hn n.toNat (by omega) hN hx
 obtain ⟨k1,k2,k3⟩:=qaD g1.1
 refine ⟨g1,fun a ha=>⟨?_,fun w h1 h2=>g2 w h1 (by omega) a ha⟩⟩
 have:=k3 a ha
 rw [g1.2.2]at this
 exact this
theorem qX2 {c:Val Y33} {d:Val Y28} (h:qjz c d) (h2:(qbX c d).2=true):qD (qbX c d).1=true:=by
 have hm:= @qOb c d h
 obtain ⟨hc,hn,_⟩:=h
 unfold qbX at h2 ⊢
 cases hl:qcd c.1 d (c.1:Int).toNat 0 (List.map (α:=Val qa) (qbv c.1) c.2)with
 | none=>rw [hl]at h2;exact absurd h2 (by simp)
 | some l=>
   rw [hl]at h2
   obtain ⟨m1,m2⟩:=hm hl
   simp only at h2 ⊢
   by_cases h16:(16:Int)<(l.length:Int)
   ·rw [decide_eq_true h16]at h2;exact absurd h2 (by simp)
   ·rw [decide_eq_false h16]at h2 ⊢
    simp only [cond_false]at h2 ⊢
    cases hx:qce c.1 (c.1:Int).toNat (qm (2*(c.1:Int)) l)with
    | none=>rw [hx]at h2;exact absurd h2 (by simp)
    | some x=>
      obtain ⟨g1,g2⟩:=qNz hn m1 (by omega) hx
      obtain ⟨k1,k2,k3⟩:=qaD g1.1
      refine qsG (q0n hn) (by show (List.map (α:=Val qa) (qbP c.1) x.2).length≤16;rw [List.length_map];exact k2) fun a ha=> ?_
      obtain ⟨b,hb,rfl⟩:=List.mem_map.1 (show a∈List.map (α:=Val qa) (qbP c.1) x.2 from ha)
      exact (qUh hn (g2 b hb).1 (g2 b hb).2).1
end Go.T
