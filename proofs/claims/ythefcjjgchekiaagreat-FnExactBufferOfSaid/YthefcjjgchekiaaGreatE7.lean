/- Regions: cells that are added. What the functions compute. -/
import Derived.Test.YthefcjjgchekiaaGreatE6
set_option linter.unusedSimpArgs false
set_option linter.unusedVariables false
namespace Go.T
open Go Go.Proofs
set_option maxHeartbeats 4000000
set_option maxRecDepth 100000
theorem q4D (N:Nat) (d:Int) (xs:List (Val Y33)) (K:Unit→Option (qb [i4])) (hl:xs.length≤1048576) (hp: ∀c∈xs,qcg c) (n:Nat) (hn:xs.length<n):qh5 N d xs K n 0=bif xs.all (fun c=>qD c&&decide ((c.1:Int)=d))then K ()else some (false,()):=
 (qaj (F:=fun n i (_:Unit)=>qh5 N d xs K n i) (step:=fun _ x _ K=>bif (qD x&&decide ((x.1:Int)=d))then K ()else some (false,())) (k:=K) hl (fun n i s hi=>by
   rw [qh5,ql (by omega),qe (by omega),qH hi,qe (show qcg _ from hp _ (List.getElem_mem hi)),qe (show (0:Int)≤i∧(i:Int)<xs.length by omega)]
   cases qD xs[i]<;>simp [qaO]) (fun n i s hi=>by rw [qh5,qi (by omega)]) n () hn).trans (qhr xs 0)
theorem q9U (N:Nat) (d:Int) (xs ys:List (Val Y33)) (K:Unit→Option (qb [i4])) (hl:xs.length≤1048576) (n:Nat) (hn:xs.length<n):qie N xs xs.length d ys K n 0=bif xs.all (fun c=>qD c&&decide ((c.1:Int)=d))then K ()else some (false,()):=
 (qaj (F:=fun n i (_:Unit)=>qie N xs xs.length d ys K n i) (step:=fun _ x _ K=>bif (qD x&&decide ((x.1:Int)=d))then K ()else some (false,())) (k:=K) hl (fun n i s hi=>by
   rw [qie,ql (by omega),qe (by omega),qH hi]
   cases qD xs[i]<;>simp [qaO]) (fun n i s hi=>by rw [qie,qi (by omega)]) n () hn).trans (qhr xs 0)
theorem q5s (r:Val Y50) (h:qm2 r): ∃N,qxX N r=some (qcc r,()):=⟨List.length (α:=Val Y33) r.2+1,by
 obtain ⟨d,xs⟩:=r
 change Int at d
 change List (Val Y33)at xs
 rw [qxX,qcc]
 dsimp only
 rw [q4D _ _ _ _ h.1 h.2 _ (Nat.lt_succ_self _)]
 simp only [inR]
 cases List.all xs _<;>cases decide (0≤d∧d≤4)<;>simp⟩
theorem q6i:Sound Tryz.prog 117 qbQ:=qu (tt:=tt) (Γ:=qlo) hT (qf qON (qf qmH qq)) hm (fn:=Tryz.f117) Tryz.func117 (c:=Tryz.f117.body.getD .skip) (by kernel_rfl) (by kernel_rfl) fun x hx=>by
 obtain ⟨N,h⟩:=q5s x.1 hx
 exact ⟨qdA N,qX0,qv _,q1z N,(q7q N x.1).trans h⟩
theorem q63 (r:Val Y50): ∃N,qzn N r=some (qcc r,()):=⟨List.length (α:=Val Y33) r.2+1,by
 obtain ⟨d,xs⟩:=r
 change Int at d
 change List (Val Y33)at xs
 rw [qzn,qcc]
 dsimp only
 by_cases h1:d<0
 ·have: ¬(0≤d∧d≤4):=by omega
  simp [h1,this]
 ·by_cases h2:4<d
  ·have: ¬(0≤d∧d≤4):=by omega
   simp [h1,h2,this]
  ·have:0≤d∧d≤4:=by omega
   by_cases h3:(12:Int)<xs.length
   ·have h3': ¬(xs.length:Int)≤12:=by omega
    simp only [h1,h2,h3,h3',decide_true,decide_false,cond_true,cond_false,Bool.and_false,Bool.false_and]
   ·have h3':(xs.length:Int)≤12:=by omega
    rw [q9U _ _ _ _ _ (by omega) _ (Nat.lt_succ_self _)]
    simp only [h1,h2,h3,h3',this,decide_true,decide_false,cond_true,cond_false,Bool.true_and,and_self]
    cases List.all xs _<;>rfl⟩
theorem q37:Sound Tryz.prog 124 qBh:=qu (tt:=tt) (Γ:=ql4) hT (qf qrl qq) hm (fn:=Tryz.f124) Tryz.func124 (c:=Tryz.f124.body.getD .skip) (by kernel_rfl) (by kernel_rfl) fun x hx=>by
 obtain ⟨N,h⟩:=q63 x.1
 exact ⟨qcG N,q9h,qv _,q3T N,(q2i N x.1).trans h⟩
theorem qCC {r:Val Y50} (h:qcc r=true):(0≤(r.1:Int)∧(r.1:Int)≤4)∧List.length (α:=Val Y33) r.2≤12∧ ∀c∈(r.2:List (Val Y33)),qD c=true∧(c.1:Int)=(r.1:Int):=by
 unfold qcc at h
 simp only [Bool.and_eq_true,decide_eq_true_eq]at h
 obtain ⟨⟨h1,h2⟩,h3⟩:=h
 refine ⟨h1,by omega,fun a ha=> ?_⟩
 have:=List.all_eq_true.1 h3 a ha
 simp only [Bool.and_eq_true,decide_eq_true_eq]at this
 exact this
theorem qIM (d:Int): ∀(n i:Nat) (l:List (Val qa)) {r:List (Val qa)},qbF d n i l=some r→r.Sublist l
 | 0,_,l,r,h=>by simp only [qbF,Option.some.injEq]at h;subst h;exact List.Sublist.refl _
 | n+1,i,l,r,h=>by
   simp only [qbF]at h
   by_cases hi:i<l.length
   ·rw [if_pos hi]at h
    generalize qas (d,l.take i++l.drop (i+1)) (l.getD i dA)=q at h
    cases hq:q.2 with
    | false=>rw [hq]at h;simp at h
    | true=>
      rw [hq]at h
      cases hq1:q.1 with
      | true=>rw [hq1]at h;exact (qIM d n i _ h).trans (qva l i)
      | false=>rw [hq1]at h;exact qIM d n (i+1) l h
   ·rw [if_neg hi]at h
    simp only [Option.some.injEq]at h
    subst h;exact List.Sublist.refl _
theorem qX7 {d:Int} (hd:0≤d∧d≤4):qD (qaW d)=true:=
 qsG hd (by show 1≤16;omega) fun a ha=>by
  obtain rfl:a=((List.replicate d.toNat (0:Int),(1:Int),false):Val qa):=List.mem_singleton.1 ha
  exact qTZ hd
theorem qUw {d:Int} {x:Val Y33} (hx:okN d x) (h2:(q3 x).2=true):okN d (q3 x).1:=by
 obtain ⟨h,hF,hd⟩:=hx
 obtain ⟨hb,hl,hok⟩:=qaD h
 unfold q3 at h2 ⊢
 cases hk:(qat x).2 with
 | false=>rw [hk]at h2;exact absurd h2 (by simp)
 | true=>
   rw [hk]at h2
   cases he:(qat x).1 with
   | true=>
     simp only [cond_true]
     exact ⟨qX7 hb,.inl rfl,hd⟩
   | false=>
     rw [he]at h2
     simp only [cond_true,cond_false]at h2 ⊢
     cases hm:qbF x.1 (List.length (α:=Val qa) x.2+1) 0 x.2 with
     | none=>rw [hm]at h2;exact absurd h2 (by simp)
     | some l=>
       have hs:=qIM _ _ _ _ hm
       refine ⟨qsG hb (by have:=hs.length_le;show List.length (α:=Val qa) l≤16;omega) fun a ha=>hok a (hs.subset ha),?_,hd⟩
       rcases hF with hF | hF
       ·have e2:x.2=(qaW x.1).2:=by rw [←hF]
        have hs:l.Sublist [((List.replicate (x.1:Int).toNat (0:Int),(1:Int),false):Val qa)]:=by rw [e2]at hs;exact hs
        cases hs with
        | cons _ h=>
          cases h
          exact .inr fun a ha=>by cases ha
        | cons_cons _ h=>
          cases h
          exact .inl rfl
       ·exact .inr fun a ha=>hF a (hs.subset ha)
theorem qTD {c:Val Y33} (h2:(qam c).2=true):qD c=true∧okN c.1 (qam c).1:=by
 unfold qam at h2 ⊢
 cases hc:qD c with
 | false=>rw [hc]at h2;exact absurd h2 (by simp)
 | true=>
   rw [hc]at h2
   exact ⟨rfl,qUw (qm3 hc).2 h2⟩
theorem qZj {m:Val Y33} (h:qPf m):(decide (List.length (α:=Val qa) m.2=1)&&qbN (List.getD (α:=Val qa) m.2 0 dA))=qb1 m:=by
 rcases h with h | h
 ·rw [q2h h,h]
  show (true&& !q6 ((List.replicate (m.1:Int).toNat (0:Int),(1:Int),false):Val qa))=true
  rw [qUF];rfl
 ·rw [qW1 h]
  obtain ⟨d,l⟩:=m
  change List (Val qa)at l
  show (decide (l.length=1)&&qbN (l.getD 0 dA))=false
  match l,h with
  | [],_=>rfl
  | [a],h=>
    show (true&& !q6 a)=false
    rw [h a (by simp)];rfl
  | a::b::r,_=>simp
theorem q7J (r:Val Y50) (c:Val Y33) (h:qAM r c): ∃N,qxE N r c=some (qrV r c,(qvj r c,())):=⟨0,by
 replace h:List.length (α:=Val Y33) r.2≤12:=h
 rw [qxE]
 unfold qrV qvj qbb
 cases hm:(qam c).2 with
 | false=>rfl
 | true=>
   have hn:=(qTD hm).2
   simp only [Bool.not_true,cond_false,cond_true]
   rw [qe (show qBr _ from hn.1)]
   show (bif qb1 (qam c).1 then _ else _)=_
   cases qb1 (qam c).1 with
   | true=>rfl
   | false=>
     simp only [cond_false]
     by_cases hl:(12:Int)≤(List.length (α:=Val Y33) r.2:Int)
     ·rw [ql hl,decide_eq_true hl];rfl
     ·rw [qi hl,decide_eq_false hl,qe (by simp only [List.length_singleton];omega)];rfl⟩
theorem q8T:SoundB Tryz.prog 222 qpo:=q46 (tt:=tt) (Γ:=qzk) hT (qf q2G (qf q9X qq)) hm (fn:=Tryz.f222) Tryz.func222 (c:=Tryz.f222.body.getD .skip) (by kernel_rfl) (by kernel_rfl) fun v x hx=>by
 obtain ⟨N,h⟩:=q7J v x.1 hx
 exact ⟨qf1 N,rfl,qZ1,⟨qv _,q9M N⟩,(zaK N v x.1).trans h⟩
theorem q3H (r:Val Y50) (c:Val Y33) (h:qgO r c): ∃N,qxv N r c=some ((qax r c).1,(qax r c).2,()):=⟨0,by
 obtain ⟨hc,hl⟩:=h
 obtain ⟨hL,hN⟩:=qm3 hc
 rw [qxv,qe (show qaK c.1 c.2 from hL),qe (show qzy _ from hN.1)]
 unfold qax
 cases hm:(q3 (qm c.1 c.2)).2 with
 | false=>rfl
 | true=>
   have hn:=qUw hN hm
   generalize (q3 (qm c.1 c.2)).1=m at*
   obtain ⟨hb,hml,hmo⟩:=qaD hn.1
   have hci:=qZj hn.2.1
   simp only [Bool.not_true,cond_false,cond_true]
   rw [qi (by omega),←hci]
   have e0: ∀x:List (Val Y33),([]:List (Val Y33))++x=x:=fun x=>List.nil_append x
   have hfin:(chk (([]:List (Val Y33)).length+List.length (α:=Val Y33) r.2≤1048576) (chk ((([]:List (Val Y33))++(r.2:List (Val Y33))).length+([m]:List (Val Y33)).length≤1048576) (some (((r.1,(([]:List (Val Y33))++(r.2:List (Val Y33)))++[m]):Val Y50),decide ((((([]:List (Val Y33))++(r.2:List (Val Y33)))++([m]:List (Val Y33))).length:Int)≤(12:Int)),()))):Option (qb [i50,i4]))=some (((r.1,(r.2:List (Val Y33))++[m]):Val Y50),decide ((List.length (α:=Val Y33) r.2:Int)+1≤12),()):=by
    rw [qe (by simp only [List.length_nil];omega),e0,qe (by simp only [List.length_singleton];omega)]
    simp only [List.length_append,List.length_singleton,Int.natCast_add];rfl
   by_cases h1:List.length (α:=Val qa) m.2=1
   ·rw [ql (by omega),qe (by omega),qe (by show 0<_;omega)]
    have ha:okA (List.getD (α:=Val qa) m.2 0 dA):=by
        rw [qek (by omega)]
        exact (hmo _ (List.getElem_mem _)).1
    rw [qe (show qnf (List.getD (α:=Val qa) m.2 (Int.toNat 0) (qc qa)) from ha),decide_eq_true h1]
    show (bif qbN (List.getD (α:=Val qa) m.2 0 dA)then _ else _)=_
    cases qbN (List.getD (α:=Val qa) m.2 0 dA)with
    | true=>rfl
    | false=>exact hfin
   ·rw [qi (by omega),decide_eq_false h1]
    exact hfin⟩
theorem q3e {r:Val Y50} (h:Bd Y50 r):qm2 r:=⟨h.2.1,fun c hc=>(h.2.2 c hc).2.1⟩
end Go.T
