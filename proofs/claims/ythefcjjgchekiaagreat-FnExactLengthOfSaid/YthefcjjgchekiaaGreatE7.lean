/- Regions: cells that are added. What the functions compute. -/
import Derived.Test.YthefcjjgchekiaaGreatE6
set_option linter.unusedSimpArgs false
set_option linter.unusedVariables false
namespace Go.T
open Go Go.Proofs
set_option maxHeartbeats 4000000
set_option maxRecDepth 100000
theorem ztw (N:Nat) (d:Int) (xs:List (Val Y33)) (K:Unit→Option (qc [i4])) (hl:xs.length≤1048576) (hp: ∀c∈xs,qbf c) (n:Nat) (hn:xs.length<n):qiN N d xs K n 0=bif xs.all (fun c=>qz c&&decide ((c.1:Int)=d))then K ()else some (false,()):=
 (qaZ (F:=fun n i (_:Unit)=>qiN N d xs K n i) (step:=fun _ x _ K=>bif (qz x&&decide ((x.1:Int)=d))then K ()else some (false,())) (k:=K) hl (fun n i s hi=>by
   rw [qiN,qj (by omega),qe (by omega),qI hi,qe (show qbf _ from hp _ (List.getElem_mem hi)),qe (show (0:Int)≤i∧(i:Int)<xs.length by omega)]
   cases qz xs[i]<;>simp [qbi]) (fun n i s hi=>by rw [qiN,qi (by omega)]) n () hn).trans (qgM xs 0)
theorem zzy (N:Nat) (d:Int) (xs ys:List (Val Y33)) (K:Unit→Option (qc [i4])) (hl:xs.length≤1048576) (n:Nat) (hn:xs.length<n):qh0 N xs xs.length d ys K n 0=bif xs.all (fun c=>qz c&&decide ((c.1:Int)=d))then K ()else some (false,()):=
 (qaZ (F:=fun n i (_:Unit)=>qh0 N xs xs.length d ys K n i) (step:=fun _ x _ K=>bif (qz x&&decide ((x.1:Int)=d))then K ()else some (false,())) (k:=K) hl (fun n i s hi=>by
   rw [qh0,qj (by omega),qe (by omega),qI hi]
   cases qz xs[i]<;>simp [qbi]) (fun n i s hi=>by rw [qh0,qi (by omega)]) n () hn).trans (qgM xs 0)
theorem zdy (r:Val Y50) (h:qbs r): ∃N,qzF N r=some (q7 r,()):=⟨List.length (α:=Val Y33) r.2+1,by
 obtain ⟨d,xs⟩:=r
 change Int at d
 change List (Val Y33)at xs
 rw [qzF,q7]
 dsimp only
 rw [ztw _ _ _ _ h.1 h.2 _ (Nat.lt_succ_self _)]
 simp only [inR]
 cases List.all xs _<;>cases decide (0≤d∧d≤4)<;>simp⟩
theorem qnf:Sound Tryz.prog 117 qaX:=qr (tt:=tt) (Γ:=qjv) hT (qg qsA (qg qgN qn)) hm (fn:=Tryz.f117) Tryz.func117 (c:=Tryz.f117.body.getD .skip) (by kernel_rfl) (by kernel_rfl) fun x hx=>by
 obtain ⟨N,h⟩:=zdy x.1 hx
 exact ⟨qee N,zgX,qu _,zcq N,(zrx N x.1).trans h⟩
theorem ziB (r:Val Y50): ∃N,qzT N r=some (q7 r,()):=⟨List.length (α:=Val Y33) r.2+1,by
 obtain ⟨d,xs⟩:=r
 change Int at d
 change List (Val Y33)at xs
 rw [qzT,q7]
 dsimp only
 by_cases h1:d<0
 ·have: ¬(0≤d∧d≤4):=by omega
  simp [h1,this]
 ·by_cases h2:4<d
  ·have: ¬(0≤d∧d≤4):=by omega
   simp [h1,h2,this]
  ·have:0≤d∧d≤4:=by omega
   by_cases h3:(12:Int)<xs.length
   ·have h3': ¬(xs.length:Int)≤12:=by omega
    simp only [h1,h2,h3,h3',decide_true,decide_false,cond_true,cond_false,Bool.and_false,Bool.false_and]
   ·have h3':(xs.length:Int)≤12:=by omega
    rw [zzy _ _ _ _ _ (by omega) _ (Nat.lt_succ_self _)]
    simp only [h1,h2,h3,h3',this,decide_true,decide_false,cond_true,cond_false,Bool.true_and,and_self]
    cases List.all xs _<;>rfl⟩
theorem qr1:Sound Tryz.prog 124 qbW:=qr (tt:=tt) (Γ:=qpC) hT (qg qjP qn) hm (fn:=Tryz.f124) Tryz.func124 (c:=Tryz.f124.body.getD .skip) (by kernel_rfl) (by kernel_rfl) fun x hx=>by
 obtain ⟨N,h⟩:=ziB x.1
 exact ⟨qdj N,zi1,qu _,zwJ N,(zdI N x.1).trans h⟩
theorem qbG {r:Val Y50} (h:q7 r=true):(0≤(r.1:Int)∧(r.1:Int)≤4)∧List.length (α:=Val Y33) r.2≤12∧ ∀c∈(r.2:List (Val Y33)),qz c=true∧(c.1:Int)=(r.1:Int):=by
 unfold q7 at h
 simp only [Bool.and_eq_true,decide_eq_true_eq]at h
 obtain ⟨⟨h1,h2⟩,h3⟩:=h
 refine ⟨h1,by omega,fun a ha=> ?_⟩
 have:=List.all_eq_true.1 h3 a ha
 simp only [Bool.and_eq_true,decide_eq_true_eq]at this
 exact this
theorem qLK (d:Int): ∀(n i:Nat) (l:List (Val qa)) {r:List (Val qa)},qcn d n i l=some r→r.Sublist l
 | 0,_,l,r,h=>by simp only [qcn,Option.some.injEq]at h;subst h;exact List.Sublist.refl _
 | n+1,i,l,r,h=>by
   simp only [qcn]at h
   by_cases hi:i<l.length
   ·rw [if_pos hi]at h
    generalize qa3 (d,l.take i++l.drop (i+1)) (l.getD i dA)=q at h
    cases hq:q.2 with
    | false=>rw [hq]at h;simp at h
    | true=>
      rw [hq]at h
      cases hq1:q.1 with
      | true=>rw [hq1]at h;exact (qLK d n i _ h).trans (qFa l i)
      | false=>rw [hq1]at h;exact qLK d n (i+1) l h
   ·rw [if_neg hi]at h
    simp only [Option.some.injEq]at h
    subst h;exact List.Sublist.refl _
theorem q7Z {d:Int} (hd:0≤d∧d≤4):qz (qa8 d)=true:=
 qDM hd (by show 1≤16;omega) fun a ha=>by
  obtain rfl:a=((List.replicate d.toNat (0:Int),(1:Int),false):Val qa):=List.mem_singleton.1 ha
  exact q5o hd
theorem qQc {d:Int} {x:Val Y33} (hx:okN d x) (h2:(qaj x).2=true):okN d (qaj x).1:=by
 obtain ⟨h,hF,hd⟩:=hx
 obtain ⟨hb,hl,hok⟩:=qaG h
 unfold qaj at h2 ⊢
 cases hk:(qar x).2 with
 | false=>rw [hk]at h2;exact absurd h2 (by simp)
 | true=>
   rw [hk]at h2
   cases he:(qar x).1 with
   | true=>
     simp only [cond_true]
     exact ⟨q7Z hb,.inl rfl,hd⟩
   | false=>
     rw [he]at h2
     simp only [cond_true,cond_false]at h2 ⊢
     cases hm:qcn x.1 (List.length (α:=Val qa) x.2+1) 0 x.2 with
     | none=>rw [hm]at h2;exact absurd h2 (by simp)
     | some l=>
       have hs:=qLK _ _ _ _ hm
       refine ⟨qDM hb (by have:=hs.length_le;show List.length (α:=Val qa) l≤16;omega) fun a ha=>hok a (hs.subset ha),?_,hd⟩
       rcases hF with hF | hF
       ·have e2:x.2=(qa8 x.1).2:=by rw [←hF]
        have hs:l.Sublist [((List.replicate (x.1:Int).toNat (0:Int),(1:Int),false):Val qa)]:=by rw [e2]at hs;exact hs
        cases hs with
        | cons _ h=>
          cases h
          exact .inr fun a ha=>by cases ha
        | cons_cons _ h=>
          cases h
          exact .inl rfl
       ·exact .inr fun a ha=>hF a (hs.subset ha)
theorem qGG {c:Val Y33} (h2:(qU c).2=true):qz c=true∧okN c.1 (qU c).1:=by
 unfold qU at h2 ⊢
 cases hc:qz c with
 | false=>rw [hc]at h2;exact absurd h2 (by simp)
 | true=>
   rw [hc]at h2
   exact ⟨rfl,qQc (qe4 hc).2 h2⟩
theorem zk4 {m:Val Y33} (h:qzr m):(decide (List.length (α:=Val qa) m.2=1)&&qbJ (List.getD (α:=Val qa) m.2 0 dA))=qbM m:=by
 rcases h with h | h
 ·rw [q92 h,h]
  show (true&& !qaz ((List.replicate (m.1:Int).toNat (0:Int),(1:Int),false):Val qa))=true
  rw [qTB];rfl
 ·rw [q8R h]
  obtain ⟨d,l⟩:=m
  change List (Val qa)at l
  show (decide (l.length=1)&&qbJ (l.getD 0 dA))=false
  match l,h with
  | [],_=>rfl
  | [a],h=>
    show (true&& !qaz a)=false
    rw [h a (by simp)];rfl
  | a::b::r,_=>simp
theorem zmr (r:Val Y50) (c:Val Y33) (h:qkD r c): ∃N,qAV N r c=some (qkt r c,(qyj r c,())):=⟨0,by
 replace h:List.length (α:=Val Y33) r.2≤12:=h
 rw [qAV]
 unfold qkt qyj qag
 cases hm:(qU c).2 with
 | false=>rfl
 | true=>
   have hn:=(qGG hm).2
   simp only [Bool.not_true,cond_false,cond_true]
   rw [qe (show qlW _ from hn.1)]
   show (bif qbM (qU c).1 then _ else _)=_
   cases qbM (qU c).1 with
   | true=>rfl
   | false=>
     simp only [cond_false]
     by_cases hl:(12:Int)≤(List.length (α:=Val Y33) r.2:Int)
     ·rw [qj hl,decide_eq_true hl];rfl
     ·rw [qi hl,decide_eq_false hl,qe (by simp only [List.length_singleton];omega)];rfl⟩
theorem q6J:SoundB Tryz.prog 222 qeP:=zvc (tt:=tt) (Γ:=qCK) hT (qg q6L (qg q6V qn)) hm (fn:=Tryz.f222) Tryz.func222 (c:=Tryz.f222.body.getD .skip) (by kernel_rfl) (by kernel_rfl) fun v x hx=>by
 obtain ⟨N,h⟩:=zmr v x.1 hx
 exact ⟨qfD N,rfl,zwF,⟨qu _,zia N⟩,(zgT N v x.1).trans h⟩
theorem q9O (r:Val Y50) (c:Val Y33) (h:qfp r c): ∃N,qoJ N r c=some ((qa1 r c).1,(qa1 r c).2,()):=⟨0,by
 obtain ⟨hc,hl⟩:=h
 obtain ⟨hL,hN⟩:=qe4 hc
 rw [qoJ,qe (show qaF c.1 c.2 from hL),qe (show qne _ from hN.1)]
 unfold qa1
 cases hm:(qaj (qv c.1 c.2)).2 with
 | false=>rfl
 | true=>
   have hn:=qQc hN hm
   generalize (qaj (qv c.1 c.2)).1=m at*
   obtain ⟨hb,hml,hmo⟩:=qaG hn.1
   have hci:=zk4 hn.2.1
   simp only [Bool.not_true,cond_false,cond_true]
   rw [qi (by omega),←hci]
   have e0: ∀x:List (Val Y33),([]:List (Val Y33))++x=x:=fun x=>List.nil_append x
   have hfin:(chk (([]:List (Val Y33)).length+List.length (α:=Val Y33) r.2≤1048576) (chk ((([]:List (Val Y33))++(r.2:List (Val Y33))).length+([m]:List (Val Y33)).length≤1048576) (some (((r.1,(([]:List (Val Y33))++(r.2:List (Val Y33)))++[m]):Val Y50),decide ((((([]:List (Val Y33))++(r.2:List (Val Y33)))++([m]:List (Val Y33))).length:Int)≤(12:Int)),()))):Option (qc [i50,i4]))=some (((r.1,(r.2:List (Val Y33))++[m]):Val Y50),decide ((List.length (α:=Val Y33) r.2:Int)+1≤12),()):=by
    rw [qe (by simp only [List.length_nil];omega),e0,qe (by simp only [List.length_singleton];omega)]
    simp only [List.length_append,List.length_singleton,Int.natCast_add];rfl
   by_cases h1:List.length (α:=Val qa) m.2=1
   ·rw [qj (by omega),qe (by omega),qe (by show 0<_;omega)]
    have ha:okA (List.getD (α:=Val qa) m.2 0 dA):=by
        rw [qen (by omega)]
        exact (hmo _ (List.getElem_mem _)).1
    rw [qe (show qgY (List.getD (α:=Val qa) m.2 (Int.toNat 0) (qb qa)) from ha),decide_eq_true h1]
    show (bif qbJ (List.getD (α:=Val qa) m.2 0 dA)then _ else _)=_
    cases qbJ (List.getD (α:=Val qa) m.2 0 dA)with
    | true=>rfl
    | false=>exact hfin
   ·rw [qi (by omega),decide_eq_false h1]
    exact hfin⟩
theorem zaG:Sound Tryz.prog 143 qdM:=qr (tt:=tt) (Γ:=qyi) hT (qg qhd (qg qPd (qg qBQ qn))) hm (fn:=Tryz.f143) Tryz.func143 (c:=Tryz.f143.body.getD .skip) (by kernel_rfl) (by kernel_rfl) fun x hx=>by
 obtain ⟨N,h⟩:=q9O x.1 x.2.1 hx
 exact ⟨qfh N,zxs,qu _,zkb N,(zyt N x.1 x.2.1).trans h⟩
theorem qfo {r:Val Y50} (h:Bd Y50 r):qbs r:=⟨h.2.1,fun c hc=>(h.2.2 c hc).2.1⟩
end Go.T
