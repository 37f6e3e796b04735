/- Slices of cells and regions: what the functions compute. -/
import Derived.Test.YthefcjjgchekiaaGreatE19
set_option linter.unusedSimpArgs false
set_option linter.unusedVariables false
namespace Go.T
open Go Go.Proofs
set_option maxHeartbeats 4000000
set_option maxRecDepth 100000
theorem q8n {a v:Int} (h1: ¬v<0) (h2: ¬a≤v):0≤v∧v<a:=by omega
theorem q6U {a v:Int} (h2:a≤v): ¬(0≤v∧v<a):=by omega
theorem q6W {a:Int} (h:0≤a∧a≤4):IntKind.i64.wrap (a - 1)=a - 1:=qaC (by omega) (by omega)
theorem q8q {a v:Int} (h:0≤v∧v<a):0≤v∧v≤a - 1:=by omega
theorem q90 {a v:Int} (h: ¬(0≤v∧v<a)): ¬(0≤v∧v≤a - 1):=by omega
theorem zlK {d v:Int} {a:Val qa} {r:Val Y28} (h:okD d a) (h2:(qav a v r).2=true):okD d (qav a v r).1:=by
 unfold qav at h2 ⊢
 cases hc:(qP a&&qE r&&decide (0≤v∧v<(List.length (α:=Int) a.1:Int)))with
 | false=>rw [hc]at h2;exact absurd h2 (by simp)
 | true=>
   rw [hc]at h2
   obtain ⟨g1,g2⟩:=q7t h2
   refine ⟨g1,?_⟩
   have h3:(List.length (α:=Int) a.1:Int)=d:=h.2
   have h4:(qcG a.1 v.toNat r.2).length=List.length (α:=Int) a.1:=qtO _ _ _
   show (List.length (α:=Int) (qw (qcG a.1 v.toNat r.2) _ _).1.1:Int)=d
   rw [g2]
   have h5:List.length (α:=Int) (qcG a.1 v.toNat r.2)=List.length (α:=Int) a.1:=h4
   rw [h5];exact h3
theorem q5L {d v:Int} {r:Val Y28}: ∀(xs l:List (Val qa)),(∀a∈xs,okD d a)→(∀a∈l,okD d a)→(qbS v r xs l).2=true→(∀a∈(qbS v r xs l).1,okD d a)∧(qbS v r xs l).1.length=l.length+xs.length
 | [],l,_,hl,_=>⟨hl,rfl⟩
 | a::xs,l,hx,hl,h=>by
   simp only [qbS]at h ⊢
   cases hf:(qav a v r).2 with
   | false=>rw [hf]at h;exact absurd h (by simp)
   | true=>
     rw [hf]at h
     obtain ⟨g1,g2⟩:=q5L xs (l++[(qav a v r).1]) (fun x hm=>hx x (by simp [hm])) (fun x hm=>by
        rcases List.mem_append.1 hm with hm | hm
        ·exact hl x hm
        ·obtain rfl:=List.mem_singleton.1 hm
         exact zlK (hx a (by simp)) hf) h
     exact ⟨g1,g2.trans (by simp;omega)⟩
theorem qYt {c:Val Y33} {v:Int} {r:Val Y28} (hc:qz c=true) (h:(qbS v r c.2 []).2=true):okL c.1 (qbS v r c.2 []).1∧(qbS v r c.2 []).1.length≤16:=by
 obtain ⟨hb,hl,ho⟩:=qaG hc
 obtain ⟨g1,g2⟩:=q5L (d:=c.1) c.2 [] ho (fun a h=>by cases h) h
 have g2:(qbS v r c.2 []).1.length=0+List.length (α:=Val qa) c.2:=g2
 exact ⟨⟨hb,by omega,g1⟩,by omega⟩
theorem zwV {c:Val Y33} {v:Int} {r:Val Y28} (h:(qaU c v r).2=true):okN c.1 (qaU c v r).1:=by
 unfold qaU at h ⊢
 cases hc:qz c with
 | false=>rw [hc]at h;exact absurd h (by simp)
 | true=>
   cases hb:(decide (0≤v∧v<(c.1:Int))&&qE r)with
   | false=>rw [hc,Bool.true_and,hb]at h;exact absurd h (by simp)
   | true=>
     rw [hc,Bool.true_and,hb]at h
     rw [Bool.true_and,hb]
     cases hf:(qbS v r c.2 []).2 with
     | false=>rw [hf]at h;exact absurd h (by simp)
     | true=>
       obtain ⟨g1,g2⟩:=qYt hc hf
       exact qYU g1 (q63 g2)
theorem q91 (N:Nat) (v:Int) (xs:List (Val qa)) (d:Int) (ys:List (Val qa)) (r:Val Y28) (z:Int) (K:List (Val qa)→Option (qc [i33,i4])) (hx:xs.length≤16): ∀(k i:Nat),i+k=xs.length→ ∀n,k<n→ ∀(l:List (Val qa)),l.length≤i→
 qhX N v xs xs.length d ys r.1 r.2 z K n (i:Int) l=bif (qbS v r (xs.drop i) l).2 then K (qbS v r (xs.drop i) l).1 else some (((0:Int),[]),false,())
 | 0,i,hi,n+1,_,l,_=>by
   rw [qhX,qi (by omega),List.drop_eq_nil_of_le (by omega)]
   rfl
 | k+1,i,hi,n+1,hn,l,hl=>by
   have h1:i<xs.length:=by omega
   rw [qhX,qj (by omega),qe (by omega),qI h1,qbr h1 (by omega),qbE h1]
   simp only [qbS]
   show (bif !(qav xs[i] v r).2 then _ else chk (l.length+[(qav xs[i] v r).1].length≤1048576) (qhX N v xs xs.length d ys r.1 r.2 z K n _ (l++[(qav xs[i] v r).1])))=_
   cases (qav xs[i] v r).2 with
   | false=>rfl
   | true=>
     simp only [Bool.not_true,cond_false,cond_true]
     rw [qe (by simp only [List.length_singleton];omega)]
     exact q91 N v xs d ys r z K hx k (i+1) (by omega) n (by omega) _ (by rw [List.length_append];simp only [List.length_singleton];omega)
theorem zyn (c:Val Y33) (v:Int) (r:Val Y28): ∃N,qFX N c v r=some ((qaU c v r).1,(qaU c v r).2,()):=⟨30,by
 rw [qFX]
 unfold qaU
 cases hc:qz c with
 | false=>rfl
 | true=>
   simp only [Bool.not_true,cond_false,Bool.true_and]
   by_cases h1:v<0
   ·rw [qj h1,decide_eq_false (by omega)];rfl
   ·rw [qi h1]
    by_cases h2:(c.1:Int)≤v
    ·rw [qj h2,decide_eq_false (q6U h2)];rfl
    ·rw [qi h2,decide_eq_true (q8n h1 h2)]
     cases hr:qE r with
     | false=>rfl
     | true=>
       simp only [Bool.not_true,cond_false,Bool.and_self,cond_true]
       obtain ⟨_,hl,_⟩:=qaG hc
       refine (q91 30 v c.2 c.1 c.2 r 0 _ hl (List.length (α:=Val qa) c.2) 0 (by omega) 30 (by omega) [] (by simp)).trans ?_
       rw [List.drop_zero]
       cases hf:(qbS v r c.2 []).2 with
       | false=>rfl
       | true=>exact qe (show qaF _ _ from (qYt hc hf).1)⟩
theorem ztt:Sound Tryz.prog 146 qzh:=qr (tt:=tt) (Γ:=qho) hT (qg qiK (qg qjP (qg zuE (qg qrK qn)))) hm (fn:=Tryz.f146) Tryz.func146 (c:=Tryz.f146.body.getD .skip) (by kernel_rfl) (by kernel_rfl) fun x hx=>by
 obtain ⟨N,h⟩:=zyn x.1 x.2.1 x.2.2.1
 exact ⟨qdU N,zx9,qu _,zqA N,(zyk N x.1 x.2.1 x.2.2.1).trans h⟩
theorem q8T (N:Nat) (v d:Int) (xs:List (Val qa)) (r:Val Y28) (z:Int) (K:List (Val qa)→Option (qc [i33,i4])) (hx:xs.length≤16) (ho: ∀a∈xs,okD d a): ∀(k i:Nat),i+k=xs.length→ ∀n,k<n→ ∀(l:List (Val qa)),l.length≤i→
 qiz N v d xs r.1 r.2 z K n (i:Int) l=bif (qbS v r (xs.drop i) l).2 then K (qbS v r (xs.drop i) l).1 else some (((0:Int),[]),false,())
 | 0,i,hi,n+1,_,l,_=>by
   rw [qiz,qi (by omega),List.drop_eq_nil_of_le (by omega)]
   rfl
 | k+1,i,hi,n+1,hn,l,hl=>by
   have h1:i<xs.length:=by omega
   rw [qiz,qj (by omega),qe (by omega),qI h1,qe (show qzn _ _ _ from q5z (ho _ (List.getElem_mem h1))),qbr h1 (by omega),qbE h1]
   simp only [qbS]
   show (bif !(qav xs[i] v r).2 then _ else chk (l.length+[(qav xs[i] v r).1].length≤1048576) (qiz N v d xs r.1 r.2 z K n _ (l++[(qav xs[i] v r).1])))=_
   cases (qav xs[i] v r).2 with
   | false=>rfl
   | true=>
     simp only [Bool.not_true,cond_false,cond_true]
     rw [qe (by simp only [List.length_singleton];omega)]
     exact q8T N v d xs r z K hx ho k (i+1) (by omega) n (by omega) _ (by rw [List.length_append];simp only [List.length_singleton];omega)
theorem zuo (c:Val Y33) (v:Int) (r:Val Y28) (h:qCe c v r): ∃N,qzm N c v r=some ((qaU c v r).1,(qaU c v r).2,()):=⟨30,by
 rw [qzm,qe (show qbf c from h)]
 unfold qaU
 cases hc:qz c with
 | false=>rfl
 | true=>
   obtain ⟨hb,hl,ho⟩:=qaG hc
   have ew:IntKind.i64.wrap ((c.1:Int) - 1)=(c.1:Int) - 1:=q6W hb
   simp only [Bool.not_true,cond_false,Bool.true_and]
   rw [ew]
   by_cases hv:0≤v∧v<(c.1:Int)
   ·rw [qe0 (q8q hv),decide_eq_true hv]
    simp only [Bool.not_true,cond_false]
    cases hr:qE r with
    | false=>rfl
    | true=>
      simp only [Bool.not_true,cond_false,Bool.and_self,cond_true]
      refine (q8T 30 v c.1 c.2 r 0 _ hl ho (List.length (α:=Val qa) c.2) 0 (by omega) 30 (by omega) [] (by simp)).trans ?_
      rw [List.drop_zero]
      cases hf:(qbS v r c.2 []).2 with
      | false=>rfl
      | true=>exact qe (show qaF _ _ from (qYt hc hf).1)
   ·rw [qfl (q90 hv),decide_eq_false hv];rfl⟩
theorem zdL:Sound Tryz.prog 142 qnw:=qr (tt:=tt) (Γ:=qgf) hT (qg qsA (qg qms (qg qgN (qg qhd (qg zoD qn))))) hm (fn:=Tryz.f142) Tryz.func142 (c:=Tryz.f142.body.getD .skip) (by kernel_rfl) (by kernel_rfl) fun x hx=>by
 obtain ⟨N,h⟩:=zuo x.1 x.2.1 x.2.2.1 hx
 exact ⟨qdd N,zub,qu _,zt6 N,(zpR N x.1 x.2.1 x.2.2.1).trans h⟩
theorem zjb (v:Int) (r:Val Y28) (c:Val Y33) (_:True): ∃N,qQ5 N c v r=some ((qEV v r c).1,(qEV v r c).2,()):=⟨0,rfl⟩
theorem zdA:SoundC Tryz.prog 145 qib:=q5i (tt:=tt) (Γ:=qQo) hT (qg ztt qn) hm (fn:=Tryz.f145) Tryz.func145 (c:=Tryz.f145.body.getD .skip) (by kernel_rfl) (by kernel_rfl) fun c x hx=>by
 obtain ⟨N,h⟩:=zjb c.1 c.2.1 x.1 hx
 exact ⟨qf2 N,zpo,qu _,zgc N,(ze3 N x.1 c.1 c.2.1).trans h⟩
theorem e52 (r:Val Y50) (v:Int) (q:Val Y28): ∃N,m52 N r v q=some ((qbu r v q).1,(qbu r v q).2,()):=⟨0,by
 rw [m52]
 unfold qbu
 cases hc:q7 r with
 | false=>rfl
 | true=>
   simp only [Bool.not_true,cond_false,Bool.true_and]
   by_cases h1:v<0
   ·rw [qj h1,decide_eq_false (by omega)];rfl
   ·rw [qi h1]
    by_cases h2:(r.1:Int)≤v
    ·rw [qj h2,decide_eq_false (q6U h2)];rfl
    ·rw [qi h2,decide_eq_true (q8n h1 h2)]
     cases hr:qE q with
     | false=>rfl
     | true=>
       simp only [Bool.not_true,cond_false,Bool.and_self,cond_true]
       obtain ⟨_,hl,_⟩:=qbG hc
       exact qe (show qm8 _ _ r from ⟨hl,fun _ _=>trivial⟩)⟩
theorem s52:Sound Tryz.prog 52 g52:=qr (tt:=tt) (Γ:=Γ52) hT (qg qiK (qg qr1 qn)) hm (fn:=Tryz.f52) Tryz.func52 (c:=Tryz.f52.body.getD .skip) (by kernel_rfl) (by kernel_rfl) fun x hx=>by
 obtain ⟨N,h⟩:=e52 x.1 x.2.1 x.2.2.1
 exact ⟨T52 N,p52,qzW qBw (q75 q8d (q7J zdA zaC) qBT),zv7 N,(zgZ N x.1 x.2.1 x.2.2.1).trans h⟩
theorem t50 (N:Nat) (v d:Int) (xs:List (Val Y33)) (q:Val Y28) (z:Int) (K:Int→List (Val Y33)→Option (qc [i50,i4])) (hl:xs.length≤12) (hp: ∀c∈xs,qbf c): ∀(k i:Nat),i+k=xs.length→ ∀n,k<n→ ∀(r:Val Y50),List.length (α:=Val Y33) r.2≤i→
 qhP N v d xs q.1 q.2 z K n (i:Int) r.1 r.2=bif (qaY (qmZ v q) (xs.drop i) r).2 then K (qaY (qmZ v q) (xs.drop i) r).1.1 (qaY (qmZ v q) (xs.drop i) r).1.2 else some (((0:Int),[]),false,())
 | 0,i,hi,n+1,_,r,_=>by
   rw [qhP,qi (by omega),List.drop_eq_nil_of_le (by omega)]
   rfl
 | k+1,i,hi,n+1,hn,r,hr=>by
   have h1:i<xs.length:=by omega
   rw [qhP,qj (by omega),qe (by omega),qI h1,qe (show qCe _ _ _ from hp _ (List.getElem_mem h1)),qbr h1 (by omega),qbE h1]
   simp only [qaY,qmZ]
   have hN:= @zwV xs[i] v q
   show (bif !(qaU xs[i] v q).2 then _ else chk (qfp r (qaU xs[i] v q).1) (bif !(qa1 r (qaU xs[i] v q).1).2 then _ else qhP N v d xs q.1 q.2 z K n _ (qa1 r (qaU xs[i] v q).1).1.1 (qa1 r (qaU xs[i] v q).1).1.2))=_
   generalize qaU xs[i] v q=p at hN ⊢
   cases hs:p.2 with
   | false=>rfl
   | true=>
     have hc:=(hN hs).1
     obtain ⟨e1,e2⟩:=qTL hc r
     simp only [Bool.not_true,cond_false,cond_true]
     rw [qe (show qfp r p.1 from ⟨hc,by omega⟩),e1]
     cases ha:(qag r p.1).2 with
     | false=>rfl
     | true=>
       simp only [Bool.not_true,cond_false,cond_true]
       rw [e2 ha]
       exact t50 N v d xs q z K hl hp k (i+1) (by omega) n (by omega) (qag r p.1).1 (by have:=qA7 r p.1;omega)
theorem e50 (r:Val Y50) (v:Int) (q:Val Y28) (h:qBX r v q): ∃N,m50 N r v q=some ((qbu r v q).1,(qbu r v q).2,()):=⟨30,by
 rw [m50,qe (show qbs r from h)]
 unfold qbu
 cases hc:q7 r with
 | false=>rfl
 | true=>
   obtain ⟨hb,hl,_⟩:=qbG hc
   have ew:IntKind.i64.wrap ((r.1:Int) - 1)=(r.1:Int) - 1:=q6W hb
   simp only [Bool.not_true,cond_false,Bool.true_and]
   rw [ew]
   by_cases hv:0≤v∧v<(r.1:Int)
   ·rw [qe0 (q8q hv),decide_eq_true hv]
    simp only [Bool.not_true,cond_false]
    cases hr:qE q with
    | false=>rfl
    | true=>
      simp only [Bool.not_true,cond_false,Bool.and_self,cond_true]
      exact (t50 30 v r.1 r.2 q 0 _ hl h.2 (List.length (α:=Val Y33) r.2) 0 (by omega) 30 (by omega) (r.1,[]) (by simp)).trans (qG2 (qmZ v q) r.2 (r.1,[]))
   ·rw [qfl (q90 hv),decide_eq_false hv];rfl⟩
theorem s50:Sound Tryz.prog 50 g50:=qr (tt:=tt) (Γ:=Γ50) hT (qg qms (qg qnf (qg qgN (qg zdL qn)))) hm (fn:=Tryz.f50) Tryz.func50 (c:=Tryz.f50.body.getD .skip) (by kernel_rfl) (by kernel_rfl) fun x hx=>by
 obtain ⟨N,h⟩:=e50 x.1 x.2.1 x.2.2.1 hx
 exact ⟨T50 N,p50,q5D (q7P zap q7d) (qu _),zn7 N,(zck N x.1 x.2.1 x.2.2.1).trans h⟩
end Go.T
