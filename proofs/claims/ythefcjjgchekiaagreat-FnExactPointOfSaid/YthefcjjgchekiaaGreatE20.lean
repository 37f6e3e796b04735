/- Slices of cells and regions. Run. -/
import Derived.Test.YthefcjjgchekiaaGreatE18
import Derived.Test.YthefcjjgchekiaaGreatE7
import Derived.Test.YthefcjjgchekiaaGreatT13
set_option linter.unusedSimpArgs false
set_option linter.unusedVariables false
namespace Go.T
open Go Go.Proofs
set_option maxHeartbeats 4000000
set_option maxRecDepth 100000
def qec (v:Int) (r:Val Y28):List (Val qa)→List (Val qa)→List (Val qa)×Bool
 | [],l=>(l,true)
 | a::as',l=>bif (qak a v r).2 then qec v r as' (l++[(qak a v r).1])else ([],false)
def qcn (c:Val Y33) (v:Int) (r:Val Y28):Val Y33×Bool:=bif qH c&&decide (0≤v∧v<(c.1:Int))&&qi r then (bif (qec v r c.2 []).2 then (qO c.1 (qec v r c.2 []).1,true)else quO)else quO
def q0F (c:Val Y33) (_:Int) (_:Val Y28):Prop:=qci c
def qCr (v:Int) (q:Val Y28) (x:qc [i33]):qc [i33,i4]:=((qcn x.1 v q).1,(qcn x.1 v q).2,())
noncomputable def qqj (N:Nat) (v3:Int) (v5:Int) (v6:List (Val Y33)) (v7:Int) (v8:Int) (v9:Int) (k0:Int→(List (Val Y33))→Option (qc [i50,i4])):Nat→Int→Int→(List (Val Y33))→Option (qc [i50,i4])
 | 0,_,_,_=>none
 | n+1,v4,v10,v11=>bif (decide (v4<(v6.length:Int)))then (chk (0≤v4∧v4<(v6.length:Int)) (chk (q0F (v6.getD v4.toNat (qb Y33)) v3 (v7,v8)) (bif (!((qcn (v6.getD v4.toNat (qb Y33)) v3 (v7,v8)).2:Bool))then (some (((0:Int),([]:List (Val Y33))),false,()))else (chk (qMa (v10,v11) ((qcn (v6.getD v4.toNat (qb Y33)) v3 (v7,v8)).1)) (bif (!((qhQ (v10,v11) ((qcn (v6.getD v4.toNat (qb Y33)) v3 (v7,v8)).1)).2:Bool))then (some (((0:Int),([]:List (Val Y33))),false,()))else (qqj N v3 v5 v6 v7 v8 v9 k0 n (IntKind.i64.wrap (v4+(1:Int))) (((qhQ (v10,v11) ((qcn (v6.getD v4.toNat (qb Y33)) v3 (v7,v8)).1)).1).1:Int) (((qhQ (v10,v11) ((qcn (v6.getD v4.toNat (qb Y33)) v3 (v7,v8)).1)).1).2:List (Val Y33))))))))else (k0 v10 v11)
end Go.T
/- Slices of cells and regions: what the functions compute. -/
set_option linter.unusedSimpArgs false
set_option linter.unusedVariables false
namespace Go.T
open Go Go.Proofs
set_option maxHeartbeats 4000000
set_option maxRecDepth 100000
theorem qOM {d v:Int} {a:Val qa} {r:Val Y28} (h:okD d a) (h2:(qak a v r).2=true):okD d (qak a v r).1:=by
 unfold qak at h2 ⊢
 cases hc:(qG a&&qi r&&decide (0≤v∧v<(List.length (α:=Int) a.1:Int)))with
 | false=>rw [hc]at h2;exact absurd h2 (by simp)
 | true=>
   rw [hc]at h2
   obtain ⟨g1,g2⟩:=q1q h2
   refine ⟨g1,?_⟩
   have h3:(List.length (α:=Int) a.1:Int)=d:=h.2
   have h4:(qbY a.1 v.toNat r.2).length=List.length (α:=Int) a.1:=qp0 _ _ _
   show (List.length (α:=Int) (qh (qbY a.1 v.toNat r.2) _ _).1.1:Int)=d
   rw [g2]
   have h5:List.length (α:=Int) (qbY a.1 v.toNat r.2)=List.length (α:=Int) a.1:=h4
   rw [h5];exact h3
theorem q2l {d v:Int} {r:Val Y28}: ∀(xs l:List (Val qa)),(∀a∈xs,okD d a)→(∀a∈l,okD d a)→(qec v r xs l).2=true→(∀a∈(qec v r xs l).1,okD d a)∧(qec v r xs l).1.length=l.length+xs.length
 | [],l,_,hl,_=>⟨hl,rfl⟩
 | a::xs,l,hx,hl,h=>by
   simp only [qec]at h ⊢
   cases hf:(qak a v r).2 with
   | false=>rw [hf]at h;exact absurd h (by simp)
   | true=>
     rw [hf]at h
     obtain ⟨g1,g2⟩:=q2l xs (l++[(qak a v r).1]) (fun x hm=>hx x (by simp [hm])) (fun x hm=>by
        rcases List.mem_append.1 hm with hm | hm
        ·exact hl x hm
        ·obtain rfl:=List.mem_singleton.1 hm
         exact qOM (hx a (by simp)) hf) h
     exact ⟨g1,g2.trans (by simp;omega)⟩
theorem q9d {c:Val Y33} {v:Int} {r:Val Y28} (hc:qH c=true) (h:(qec v r c.2 []).2=true):okL c.1 (qec v r c.2 []).1∧(qec v r c.2 []).1.length≤16:=by
 obtain ⟨hb,hl,ho⟩:=qaJ hc
 obtain ⟨g1,g2⟩:=q2l (d:=c.1) c.2 [] ho (fun a h=>by cases h) h
 have g2:(qec v r c.2 []).1.length=0+List.length (α:=Val qa) c.2:=g2
 exact ⟨⟨hb,by omega,g1⟩,by omega⟩
theorem q4Q {c:Val Y33} {v:Int} {r:Val Y28} (h:(qcn c v r).2=true):okN c.1 (qcn c v r).1:=by
 unfold qcn at h ⊢
 cases hc:qH c with
 | false=>rw [hc]at h;exact absurd h (by simp)
 | true=>
   cases hb:(decide (0≤v∧v<(c.1:Int))&&qi r)with
   | false=>rw [hc,Bool.true_and,hb]at h;exact absurd h (by simp)
   | true=>
     rw [hc,Bool.true_and,hb]at h
     rw [Bool.true_and,hb]
     cases hf:(qec v r c.2 []).2 with
     | false=>rw [hf]at h;exact absurd h (by simp)
     | true=>
       obtain ⟨g1,g2⟩:=q9d hc hf
       exact qHY g1 (q2a g2)
theorem t50 (N:Nat) (v d:Int) (xs:List (Val Y33)) (q:Val Y28) (z:Int) (K:Int→List (Val Y33)→Option (qc [i50,i4])) (hl:xs.length≤12) (hp: ∀c∈xs,qci c): ∀(k i:Nat),i+k=xs.length→ ∀n,k<n→ ∀(r:Val Y50),List.length (α:=Val Y33) r.2≤i→
 qqj N v d xs q.1 q.2 z K n (i:Int) r.1 r.2=bif (qxp (qCr v q) (xs.drop i) r).2 then K (qxp (qCr v q) (xs.drop i) r).1.1 (qxp (qCr v q) (xs.drop i) r).1.2 else some (((0:Int),[]),false,())
 | 0,i,hi,n+1,_,r,_=>by
   rw [qqj,qj (by omega),List.drop_eq_nil_of_le (by omega)]
   rfl
 | k+1,i,hi,n+1,hn,r,hr=>by
   have h1:i<xs.length:=by omega
   rw [qqj,qk (by omega),qd (by omega),qF h1,qd (show q0F _ _ _ from hp _ (List.getElem_mem h1)),qa2 h1 (by omega),qbo h1]
   simp only [qxp,qCr]
   have hN:= @q4Q xs[i] v q
   show (bif !(qcn xs[i] v q).2 then _ else chk (qMa r (qcn xs[i] v q).1) (bif !(qhQ r (qcn xs[i] v q).1).2 then _ else qqj N v d xs q.1 q.2 z K n _ (qhQ r (qcn xs[i] v q).1).1.1 (qhQ r (qcn xs[i] v q).1).1.2))=_
   generalize qcn xs[i] v q=p at hN ⊢
   cases hs:p.2 with
   | false=>rfl
   | true=>
     have hc:=(hN hs).1
     obtain ⟨e1,e2⟩:=zoe hc r
     simp only [Bool.not_true,cond_false,cond_true]
     rw [qd (show qMa r p.1 from ⟨hc,by omega⟩),e1]
     cases ha:(qcz r p.1).2 with
     | false=>rfl
     | true=>
       simp only [Bool.not_true,cond_false,cond_true]
       rw [e2 ha]
       exact t50 N v d xs q z K hl hp k (i+1) (by omega) n (by omega) (qcz r p.1).1 (by have:=zb1 r p.1;omega)
end Go.T
