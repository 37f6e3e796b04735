/- Regions: cells that are added. What the functions compute. -/
import Derived.Test.YthefcjjgchekiaaGreatE6
set_option linter.unusedSimpArgs false
set_option linter.unusedVariables false
namespace Go.T
open Go Go.Proofs
set_option maxHeartbeats 4000000
set_option maxRecDepth 100000
theorem zak (N:Nat) (d:Int) (xs:List (Val Y33)) (K:Unit→Option (qc [i4])) (hl:xs.length≤1048576) (hp: ∀c∈xs,qci c) (n:Nat) (hn:xs.length<n):qiQ N d xs K n 0=bif xs.all (fun c=>qH c&&decide ((c.1:Int)=d))then K ()else some (false,()):=
 (qaP (F:=fun n i (_:Unit)=>qiQ N d xs K n i) (step:=fun _ x _ K=>bif (qH x&&decide ((x.1:Int)=d))then K ()else some (false,())) (k:=K) hl (fun n i s hi=>by
   rw [qiQ,qk (by omega),qd (by omega),qF hi,qd (show qci _ from hp _ (List.getElem_mem hi)),qd (show (0:Int)≤i∧(i:Int)<xs.length by omega)]
   cases qH xs[i]<;>simp [qaG]) (fun n i s hi=>by rw [qiQ,qj (by omega)]) n () hn).trans (qdd xs 0)
theorem zfb (N:Nat) (d:Int) (xs ys:List (Val Y33)) (K:Unit→Option (qc [i4])) (hl:xs.length≤1048576) (n:Nat) (hn:xs.length<n):qij N xs xs.length d ys K n 0=bif xs.all (fun c=>qH c&&decide ((c.1:Int)=d))then K ()else some (false,()):=
 (qaP (F:=fun n i (_:Unit)=>qij N xs xs.length d ys K n i) (step:=fun _ x _ K=>bif (qH x&&decide ((x.1:Int)=d))then K ()else some (false,())) (k:=K) hl (fun n i s hi=>by
   rw [qij,qk (by omega),qd (by omega),qF hi]
   cases qH xs[i]<;>simp [qaG]) (fun n i s hi=>by rw [qij,qj (by omega)]) n () hn).trans (qdd xs 0)
theorem zjU (r:Val Y50) (h:qhO r): ∃N,qB4 N r=some (qba r,()):=⟨List.length (α:=Val Y33) r.2+1,by
 obtain ⟨d,xs⟩:=r
 change Int at d
 change List (Val Y33)at xs
 rw [qB4,qba]
 dsimp only
 rw [zak _ _ _ _ h.1 h.2 _ (Nat.lt_succ_self _)]
 simp only [inR]
 cases List.all xs _<;>cases decide (0≤d∧d≤4)<;>simp⟩
theorem q0D:Sound Tryz.prog 117 qe2:=qx (tt:=tt) (Γ:=qkq) hT (qg qDI (qg qh1 qu)) hm (fn:=Tryz.f117) Tryz.func117 (c:=Tryz.f117.body.getD .skip) (by kernel_rfl) (by kernel_rfl) fun x hx=>by
 obtain ⟨N,h⟩:=zjU x.1 hx
 exact ⟨qdj N,zfR,qy _,q72 N,(zfN N x.1).trans h⟩
theorem q5H (r:Val Y50): ∃N,qzA N r=some (qba r,()):=⟨List.length (α:=Val Y33) r.2+1,by
 obtain ⟨d,xs⟩:=r
 change Int at d
 change List (Val Y33)at xs
 rw [qzA,qba]
 dsimp only
 by_cases h1:d<0
 ·have: ¬(0≤d∧d≤4):=by omega
  simp [h1,this]
 ·by_cases h2:4<d
  ·have: ¬(0≤d∧d≤4):=by omega
   simp [h1,h2,this]
  ·have:0≤d∧d≤4:=by omega
   by_cases h3:(12:Int)<xs.length
   ·have h3': ¬(xs.length:Int)≤12:=by omega
    simp only [h1,h2,h3,h3',decide_true,decide_false,cond_true,cond_false,Bool.and_false,Bool.false_and]
   ·have h3':(xs.length:Int)≤12:=by omega
    rw [zfb _ _ _ _ _ (by omega) _ (Nat.lt_succ_self _)]
    simp only [h1,h2,h3,h3',this,decide_true,decide_false,cond_true,cond_false,Bool.true_and,and_self]
    cases List.all xs _<;>rfl⟩
theorem q3C:Sound Tryz.prog 124 qeO:=qx (tt:=tt) (Γ:=qoR) hT (qg qv0 qu) hm (fn:=Tryz.f124) Tryz.func124 (c:=Tryz.f124.body.getD .skip) (by kernel_rfl) (by kernel_rfl) fun x hx=>by
 obtain ⟨N,h⟩:=q5H x.1
 exact ⟨qdl N,zj0,qy _,zmL N,(zf3 N x.1).trans h⟩
theorem qAY {r:Val Y50} (h:qba r=true):(0≤(r.1:Int)∧(r.1:Int)≤4)∧List.length (α:=Val Y33) r.2≤12∧ ∀c∈(r.2:List (Val Y33)),qH c=true∧(c.1:Int)=(r.1:Int):=by
 unfold qba at h
 simp only [Bool.and_eq_true,decide_eq_true_eq]at h
 obtain ⟨⟨h1,h2⟩,h3⟩:=h
 refine ⟨h1,by omega,fun a ha=> ?_⟩
 have:=List.all_eq_true.1 h3 a ha
 simp only [Bool.and_eq_true,decide_eq_true_eq]at this
 exact this
theorem qFD (d:Int): ∀(n i:Nat) (l:List (Val qa)) {r:List (Val qa)},qjX d n i l=some r→r.Sublist l
 | 0,_,l,r,h=>by simp only [qjX,Option.some.injEq]at h;subst h;exact List.Sublist.refl _
 | n+1,i,l,r,h=>by
   simp only [qjX]at h
   by_cases hi:i<l.length
   ·rw [if_pos hi]at h
    generalize qEZ (d,l.take i++l.drop (i+1)) (l.getD i dA)=q at h
    cases hq:q.2 with
    | false=>rw [hq]at h;simp at h
    | true=>
      rw [hq]at h
      cases hq1:q.1 with
      | true=>rw [hq1]at h;exact (qFD d n i _ h).trans (zgJ l i)
      | false=>rw [hq1]at h;exact qFD d n (i+1) l h
   ·rw [if_neg hi]at h
    simp only [Option.some.injEq]at h
    subst h;exact List.Sublist.refl _
theorem q7S {d:Int} (hd:0≤d∧d≤4):qH (qbJ d)=true:=
 qAF hd (by show 1≤16;omega) fun a ha=>by
  obtain rfl:a=((List.replicate d.toNat (0:Int),(1:Int),false):Val qa):=List.mem_singleton.1 ha
  exact q15 hd
theorem q7E {d:Int} {x:Val Y33} (hx:okN d x) (h2:(qe7 x).2=true):okN d (qe7 x).1:=by
 obtain ⟨h,hF,hd⟩:=hx
 obtain ⟨hb,hl,hok⟩:=qaJ h
 unfold qe7 at h2 ⊢
 cases hk:(qp8 x).2 with
 | false=>rw [hk]at h2;exact absurd h2 (by simp)
 | true=>
   rw [hk]at h2
   cases he:(qp8 x).1 with
   | true=>
     simp only [cond_true]
     exact ⟨q7S hb,.inl rfl,hd⟩
   | false=>
     rw [he]at h2
     simp only [cond_true,cond_false]at h2 ⊢
     cases hm:qjX x.1 (List.length (α:=Val qa) x.2+1) 0 x.2 with
     | none=>rw [hm]at h2;exact absurd h2 (by simp)
     | some l=>
       have hs:=qFD _ _ _ _ hm
       refine ⟨qAF hb (by have:=hs.length_le;show List.length (α:=Val qa) l≤16;omega) fun a ha=>hok a (hs.subset ha),?_,hd⟩
       rcases hF with hF | hF
       ·have e2:x.2=(qbJ x.1).2:=by rw [←hF]
        have hs:l.Sublist [((List.replicate (x.1:Int).toNat (0:Int),(1:Int),false):Val qa)]:=by rw [e2]at hs;exact hs
        cases hs with
        | cons _ h=>
          cases h
          exact .inr fun a ha=>by cases ha
        | cons_cons _ h=>
          cases h
          exact .inl rfl
       ·exact .inr fun a ha=>hF a (hs.subset ha)
theorem q4p {c:Val Y33} (h2:(qaD c).2=true):qH c=true∧okN c.1 (qaD c).1:=by
 unfold qaD at h2 ⊢
 cases hc:qH c with
 | false=>rw [hc]at h2;exact absurd h2 (by simp)
 | true=>
   rw [hc]at h2
   exact ⟨rfl,q7E (qil hc).2 h2⟩
theorem q0Q {r:Val Y50} (h:Bd Y50 r):qhO r:=⟨h.2.1,fun c hc=>(h.2.2 c hc).2.1⟩
end Go.T
