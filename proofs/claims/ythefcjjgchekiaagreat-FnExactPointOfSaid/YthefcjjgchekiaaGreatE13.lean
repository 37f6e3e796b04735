/- Neat regions: run. -/
import Derived.Test.YthefcjjgchekiaaGreatE7
import Derived.Test.YthefcjjgchekiaaGreatB6n
set_option linter.unusedSimpArgs false
set_option linter.unusedVariables false
namespace Go.T
open Go Go.Proofs
set_option maxHeartbeats 4000000
set_option maxRecDepth 100000
def qxp (f:qc [i33]→qc [i33,i4]):List (Val Y33)→Val Y50→Val Y50×Bool
 | [],r=>(r,true)
 | c::cs,r=>bif (f (c,())).2.1 then (bif (qcz r (f (c,())).1).2 then qxp f cs (qcz r (f (c,())).1).1 else qiy)else qiy
end Go.T
/- Neat regions: what the functions compute. -/
set_option linter.unusedSimpArgs false
set_option linter.unusedVariables false
namespace Go.T
open Go Go.Proofs
set_option maxHeartbeats 4000000
set_option maxRecDepth 100000
theorem zb1 (r:Val Y50) (c:Val Y33):List.length (α:=Val Y33) (qcz r c).1.2≤List.length (α:=Val Y33) r.2+1:=by
 unfold qcz
 cases (qaD c).2 with
 | false=>exact Nat.le_succ _
 | true=>
   cases qcK (qaD c).1 with
   | true=>exact Nat.le_succ _
   | false=>
     cases decide (12≤(List.length (α:=Val Y33) r.2:Int))with
     | true=>exact Nat.le_succ _
     | false=>exact Nat.le_of_eq (List.length_append ..)
theorem zoe {c:Val Y33} (h:qH c=true) (r:Val Y50):(qhQ r c).2=(qcz r c).2∧((qcz r c).2=true→(qhQ r c).1=(qcz r c).1):=by
 have e:qaD c=qe7 (qO c.1 c.2):=by unfold qaD;rw [h];rfl
 unfold qhQ qcz
 rw [e]
 cases (qe7 (qO c.1 c.2)).2 with
 | false=>exact ⟨rfl,fun h=>absurd h (by simp)⟩
 | true=>
   cases qcK (qe7 (qO c.1 c.2)).1 with
   | true=>exact ⟨rfl,fun _=>rfl⟩
   | false=>
     simp only [cond_true,cond_false]
     by_cases hl:(12:Int)≤(List.length (α:=Val Y33) r.2:Int)
     ·rw [decide_eq_true hl,decide_eq_false (by omega)]
      exact ⟨rfl,fun h=>absurd h (by simp)⟩
     ·rw [decide_eq_false hl,decide_eq_true (by omega)]
      exact ⟨rfl,fun _=>rfl⟩
end Go.T
/- A cell taken from a region: run. -/
set_option linter.unusedSimpArgs false
set_option linter.unusedVariables false
namespace Go.T
open Go Go.Proofs
set_option maxHeartbeats 4000000
set_option maxRecDepth 100000
def qrI (d:Int) (l:List (Val qa)) (k:Nat):Val Y33:=(d,l.take k++[(qEH (l.getD k dA)).1])
def qmN (d:Int) (l:List (Val qa)) (c:Val Y33):Nat→Nat→Val Y50→Val Y50×Bool
 | 0,_,r=>(r,true)
 | n+1,k,r=>bif (qgB c (qrI d l k)).2 then (bif (qcz r (qgB c (qrI d l k)).1).2 then qmN d l c n (k+1) (qcz r (qgB c (qrI d l k)).1).1 else qiy)else qiy
def qwR (d:Int) (l:List (Val qa)):List (Val Y33)→Val Y50→Val Y50×Bool
 | [],r=>(r,true)
 | c::cs,r=>bif (qmN d l c l.length 0 r).2 then qwR d l cs (qmN d l c l.length 0 r).1 else qiy
def qeR (r:Val Y50) (m:Val Y33):Val Y50×Bool:=qwR r.1 m.2 r.2 (r.1,[])
def q2c (r:Val Y50) (m:Val Y33):Prop:=qba r=true∧qH m=true∧(m.1:Int)=(r.1:Int)
end Go.T
/- A cell taken from a region: what the functions compute. -/
set_option linter.unusedSimpArgs false
set_option linter.unusedVariables false
namespace Go.T
open Go Go.Proofs
set_option maxHeartbeats 4000000
set_option maxRecDepth 100000
theorem q5f {a b:Val Y33} (h:(qgB a b).2=true):okN a.1 (qgB a b).1:=by
 unfold qgB at h ⊢
 cases ha:qH a with
 | false=>rw [ha]at h;exact absurd h (by simp)
 | true=>
   cases hb:qH b with
   | false=>rw [ha,hb]at h;exact absurd h (by simp)
   | true=>
     by_cases hd:(a.1:Int)=(b.1:Int)
     ·rw [ha,hb,decide_eq_true hd]at h
      rw [decide_eq_true hd]
      exact q4m (zqC ha hb hd).1 h
     ·rw [ha,hb,decide_eq_false hd]at h;exact absurd h (by simp)
end Go.T
/- Differences of regions: run. -/
set_option linter.unusedSimpArgs false
set_option linter.unusedVariables false
namespace Go.T
open Go Go.Proofs
set_option maxHeartbeats 4000000
set_option maxRecDepth 100000
def qwZ:List (Val Y33)→Val Y50→Val Y50×Bool
 | [],r=>(r,true)
 | c::cs,r=>bif (qaD c).2 then (bif (qeR r (qaD c).1).2 then qwZ cs (qeR r (qaD c).1).1 else qiy)else qiy
noncomputable def qud (N:Nat) (v2:List (Val Y33)) (v3:Int) (v5:Int) (k0:Int→(List (Val Y33))→Option (qc [i50,i4])):Nat→Int→Int→(List (Val Y33))→Option (qc [i50,i4])
 | 0,_,_,_=>none
 | n+1,v4,v6,v7=>bif (decide (v4<v3))then (chk (0≤v4∧v4<(v2.length:Int)) (bif (!((qaD (v2.getD v4.toNat (qb Y33))).2:Bool))then (some (((0:Int),([]:List (Val Y33))),false,()))else (chk (q2c (v6,v7) ((((qaD (v2.getD v4.toNat (qb Y33))).1).1:Int),(((qaD (v2.getD v4.toNat (qb Y33))).1).2:List (Val qa)))) (bif (!((qeR (v6,v7) ((((qaD (v2.getD v4.toNat (qb Y33))).1).1:Int),(((qaD (v2.getD v4.toNat (qb Y33))).1).2:List (Val qa)))).2:Bool))then (some (((0:Int),([]:List (Val Y33))),false,()))else (qud N v2 v3 v5 k0 n (IntKind.i64.wrap (v4+(1:Int))) (((qeR (v6,v7) ((((qaD (v2.getD v4.toNat (qb Y33))).1).1:Int),(((qaD (v2.getD v4.toNat (qb Y33))).1).2:List (Val qa)))).1).1:Int) (((qeR (v6,v7) ((((qaD (v2.getD v4.toNat (qb Y33))).1).1:Int),(((qaD (v2.getD v4.toNat (qb Y33))).1).2:List (Val qa)))).1).2:List (Val Y33)))))))else (k0 v6 v7)
end Go.T
/- Differences of regions: what the functions compute. -/
set_option linter.unusedSimpArgs false
set_option linter.unusedVariables false
namespace Go.T
open Go Go.Proofs
set_option maxHeartbeats 4000000
set_option maxRecDepth 100000
theorem qZK {r:Val Y50} (h1:0≤(r.1:Int)∧(r.1:Int)≤4) (h2:List.length (α:=Val Y33) r.2≤12) (h3: ∀c∈(r.2:List (Val Y33)),qH c=true∧(c.1:Int)=(r.1:Int)):qba r=true:=by
 unfold qba
 simp only [Bool.and_eq_true,decide_eq_true_eq]
 refine ⟨⟨h1,by omega⟩,?_⟩
 rw [List.all_eq_true]
 intro a ha
 obtain ⟨g1,g2⟩:=h3 a ha
 simp only [Bool.and_eq_true,decide_eq_true_eq]
 exact ⟨g1,g2⟩
def okR (d:Int) (r:Val Y50):Prop:=qba r=true∧(r.1:Int)=d
theorem q7v {d:Int} {r:Val Y50} (h:okR d r):okR d ((r.1,[]):Val Y50):=
 ⟨qZK (qAY h.1).1 (Nat.zero_le _) (fun c hc=>by cases hc),h.2⟩
theorem zb4 {d:Int} {r:Val Y50} {c:Val Y33} (h:okR d r) (hc:(c.1:Int)=d):okR d (qcz r c).1:=by
 have hm:= @q4p c
 unfold qcz
 cases h2:(qaD c).2 with
 | false=>exact h
 | true=>
   cases qcK (qaD c).1 with
   | true=>exact h
   | false=>
     simp only [cond_true,cond_false]
     obtain ⟨r1,r2,r3⟩:=qAY h.1
     by_cases hl:(12:Int)≤(List.length (α:=Val Y33) r.2:Int)
     ·rw [decide_eq_true hl];exact h
     ·rw [decide_eq_false hl]
      refine ⟨qZK r1 ?_ ?_,h.2⟩
      ·refine Nat.le_trans (Nat.le_of_eq (List.length_append ..)) ?_
       show List.length (α:=Val Y33) r.2+1≤12
       omega
      ·intro x hx
       rcases List.mem_append.1 (show x∈(r.2:List (Val Y33))++[(qaD c).1] from hx)with hx | hx
       ·exact r3 x hx
       ·obtain rfl:=List.mem_singleton.1 hx
        obtain ⟨_,g1,_,g3⟩:=hm h2
        exact ⟨g1,g3.trans (hc.trans h.2.symm)⟩
theorem qZ2 {d:Int} (l:List (Val qa)) {c:Val Y33} (hc:(c.1:Int)=d): ∀(n k:Nat) (r:Val Y50),okR d r→(qmN d l c n k r).2=true→okR d (qmN d l c n k r).1
 | 0,_,_,h,_=>h
 | n+1,k,r,h,h2=>by
   simp only [qmN]at h2 ⊢
   have hm:= @q5f c (qrI d l k)
   generalize qgB c (qrI d l k)=m at hm h2 ⊢
   cases hm2:m.2 with
   | false=>rw [hm2]at h2;exact absurd h2 (by simp)
   | true=>
     rw [hm2]at h2
     have hA:=zb4 h ((hm hm2).2.2.trans hc)
     cases ha:(qcz r m.1).2 with
     | false=>rw [ha]at h2;exact absurd h2 (by simp)
     | true=>rw [ha]at h2;exact qZ2 l hc n (k+1) _ hA h2
theorem qZB {d:Int} (l:List (Val qa)): ∀(cs:List (Val Y33)) (r:Val Y50),okR d r→(∀c∈cs,(c.1:Int)=d)→(qwR d l cs r).2=true→okR d (qwR d l cs r).1
 | [],_,h,_,_=>h
 | c::cs,r,h,hc,h2=>by
   simp only [qwR]at h2 ⊢
   have hK:=qZ2 l (hc c (by simp)) l.length 0 r h
   cases ha:(qmN d l c l.length 0 r).2 with
   | false=>rw [ha]at h2;exact absurd h2 (by simp)
   | true=>rw [ha]at h2;exact qZB l cs _ (hK ha) (fun x hx=>hc x (by simp [hx])) h2
theorem zmA {d:Int} {r:Val Y50} {m:Val Y33} (h:okR d r) (h2:(qeR r m).2=true):okR d (qeR r m).1:=by
 obtain rfl:=h.2
 exact qZB m.2 r.2 (r.1,[]) (q7v h) (fun c hc=>((qAY h.1).2.2 c hc).2) h2
theorem t45 (N:Nat) (d:Int) (xs:List (Val Y33)) (v5:Int) (K:Int→List (Val Y33)→Option (qc [i50,i4])) (hx:xs.length≤12) (hd: ∀c∈xs,(c.1:Int)=d): ∀(k i:Nat),i+k=xs.length→ ∀n,k<n→ ∀(r:Val Y50),okR d r→
 qud N xs xs.length v5 K n (i:Int) r.1 r.2=bif (qwZ (xs.drop i) r).2 then K (qwZ (xs.drop i) r).1.1 (qwZ (xs.drop i) r).1.2 else some (((0:Int),[]),false,())
 | 0,i,hi,n+1,_,r,_=>by
   rw [qud,qj (by omega),List.drop_eq_nil_of_le (by omega)]
   rfl
 | k+1,i,hi,n+1,hn,r,hr=>by
   have h1:i<xs.length:=by omega
   have hm:= @q4p xs[i]
   rw [qud,qk (by omega),qd (by omega),qF h1,qa2 h1 (by omega),qbo h1]
   simp only [qwZ]
   cases h2:(qaD xs[i]).2 with
   | false=>rfl
   | true=>
     obtain ⟨_,g1,_,g3⟩:=hm h2
     simp only [Bool.not_true,cond_false,cond_true]
     rw [qd (show q2c r (qaD xs[i]).1 from ⟨hr.1,g1,g3.trans ((hd _ (List.getElem_mem h1)).trans hr.2.symm)⟩)]
     show (bif !(qeR r (qaD xs[i]).1).2 then _ else qud N xs xs.length v5 K n _ (qeR r (qaD xs[i]).1).1.1 (qeR r (qaD xs[i]).1).1.2)=_
     have hL:= @zmA d r (qaD xs[i]).1 hr
     cases h3:(qeR r (qaD xs[i]).1).2 with
     | false=>rfl
     | true=>
       simp only [Bool.not_true,cond_false,cond_true]
       exact t45 N d xs v5 K hx hd k (i+1) (by omega) n (by omega) _ (hL h3)
end Go.T
