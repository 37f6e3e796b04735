/- Neat regions: what the functions compute. -/
import Derived.Test.YthefcjjgchekiaaGreatE8
set_option linter.unusedSimpArgs false
set_option linter.unusedVariables false
namespace Go.T
open Go Go.Proofs
set_option maxHeartbeats 4000000
set_option maxRecDepth 100000
theorem qCL (r:Val Y50) (c:Val Y33):List.length (α:=Val Y33) (qbb r c).1.2≤List.length (α:=Val Y33) r.2+1:=by
 unfold qbb
 cases (qam c).2 with
 | false=>exact Nat.le_succ _
 | true=>
   cases qb1 (qam c).1 with
   | true=>exact Nat.le_succ _
   | false=>
     cases decide (12≤(List.length (α:=Val Y33) r.2:Int))with
     | true=>exact Nat.le_succ _
     | false=>exact Nat.le_of_eq (List.length_append ..)
theorem qN7 (f:qb [i33]→qb [i33,i4]): ∀(cs:List (Val Y33)) (r:Val Y50),(bif (qbt f cs r).2 then some ((qbt f cs r).1,true,())else some (((0:Int),([]:List (Val Y33))),false,()):Option (qb [i50,i4]))=some ((qbt f cs r).1,(qbt f cs r).2,())
 | [],r=>rfl
 | c::cs,r=>by
   simp only [qbt]
   cases (f (c,())).2.1 with
   | false=>rfl
   | true=>
     cases (qbb r (f (c,())).1).2 with
     | false=>rfl
     | true=>exact qN7 f cs _
theorem qSv (N:HN [i33] [i33,i4]) (xs:List (Val Y33)) (v4:Int) (K:Int→List (Val Y33)→Option (qb [i50,i4])) (hl:xs.length≤12) (hp: ∀c∈xs,N.pre (c,())): ∀(k i:Nat),i+k=xs.length→ ∀n,k<n→ ∀(r:Val Y50),List.length (α:=Val Y33) r.2≤i→
 qje N xs xs.length v4 K n (i:Int) r.1 r.2=bif (qbt N.fn (xs.drop i) r).2 then K (qbt N.fn (xs.drop i) r).1.1 (qbt N.fn (xs.drop i) r).1.2 else some (((0:Int),[]),false,())
 | 0,i,hi,n+1,_,r,_=>by
   rw [qje,qi (by omega),List.drop_eq_nil_of_le (by omega)]
   rfl
 | k+1,i,hi,n+1,hn,r,hr=>by
   have h1:i<xs.length:=by omega
   rw [qje,ql (by omega),qe (by omega),qH h1,qe (hp _ (List.getElem_mem h1)),qfh h1 (by omega),qgg h1]
   simp only [qbt]
   cases (N.fn (xs[i],())).2.1 with
   | false=>rfl
   | true=>
     simp only [Bool.not_true,cond_false,cond_true]
     rw [qe (show qAM r _ from by show _≤12;omega)]
     show (bif !(qbb r (N.fn (xs[i],())).1).2 then _ else _)=_
     cases (qbb r (N.fn (xs[i],())).1).2 with
     | false=>rfl
     | true=>
       simp only [Bool.not_true,cond_false,cond_true]
       exact qSv N xs v4 K hl hp k (i+1) (by omega) n (by omega) (qbb r (N.fn (xs[i],())).1).1 (by have:=qCL r (N.fn (xs[i],())).1;omega)
theorem q1g (pre:qb [i33]→Prop) (gf:qb [i33]→qb [i33,i4]) (x:Val Y50) (fv:Value) (hx:qAb pre gf x): ∃n,qvb ⟨n,fv,pre,gf⟩ x=some ((qii gf x).1,(qii gf x).2,()):=⟨List.length (α:=Val Y33) x.2+1,by
 rw [qvb]
 exact (qSv ⟨_,fv,pre,gf⟩ x.2 0 _ hx.1 hx.2 (List.length (α:=Val Y33) x.2) 0 (by omega) _ (Nat.lt_succ_self _) (x.1,[]) (by simp)).trans (qN7 gf x.2 (x.1,[]))⟩
theorem qXM:SoundH Tryz.prog 144 qI2:=q2C (tt:=tt) (Γ:=ql6) hT qq hm (fn:=Tryz.f144) Tryz.func144 (c:=Tryz.f144.body.getD .skip) (by kernel_rfl) (by kernel_rfl) fun pre gf x fv hx=>by
 obtain ⟨n,h⟩:=q1g pre gf x fv hx
 exact ⟨qcs ⟨n,fv,pre,gf⟩,_,zaa,⟨rfl,qSj (q6w q8T qRb) qUR⟩,q7c _,(qVB ⟨n,fv,pre,gf⟩ x).trans h⟩
theorem q8g {c:Val Y33} (h:qD c=true) (r:Val Y50):(qax r c).2=(qbb r c).2∧((qbb r c).2=true→(qax r c).1=(qbb r c).1):=by
 have e:qam c=q3 (qm c.1 c.2):=by unfold qam;rw [h];rfl
 unfold qax qbb
 rw [e]
 cases (q3 (qm c.1 c.2)).2 with
 | false=>exact ⟨rfl,fun h=>absurd h (by simp)⟩
 | true=>
   cases qb1 (q3 (qm c.1 c.2)).1 with
   | true=>exact ⟨rfl,fun _=>rfl⟩
   | false=>
     simp only [cond_true,cond_false]
     by_cases hl:(12:Int)≤(List.length (α:=Val Y33) r.2:Int)
     ·rw [decide_eq_true hl,decide_eq_false (by omega)]
      exact ⟨rfl,fun h=>absurd h (by simp)⟩
     ·rw [decide_eq_false hl,decide_eq_true (by omega)]
      exact ⟨rfl,fun _=>rfl⟩
end Go.T
