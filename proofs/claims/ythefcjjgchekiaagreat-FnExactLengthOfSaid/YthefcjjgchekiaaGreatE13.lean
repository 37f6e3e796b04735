/- Differences of regions: what the functions compute. -/
import Derived.Test.YthefcjjgchekiaaGreatE12
set_option linter.unusedSimpArgs false
set_option linter.unusedVariables false
namespace Go.T
open Go Go.Proofs
set_option maxHeartbeats 4000000
set_option maxRecDepth 100000
theorem zaH {r:Val Y50} (h1:0≤(r.1:Int)∧(r.1:Int)≤4) (h2:List.length (α:=Val Y33) r.2≤12) (h3: ∀c∈(r.2:List (Val Y33)),qz c=true∧(c.1:Int)=(r.1:Int)):q7 r=true:=by
 unfold q7
 simp only [Bool.and_eq_true,decide_eq_true_eq]
 refine ⟨⟨h1,by omega⟩,?_⟩
 rw [List.all_eq_true]
 intro a ha
 obtain ⟨g1,g2⟩:=h3 a ha
 simp only [Bool.and_eq_true,decide_eq_true_eq]
 exact ⟨g1,g2⟩
def okR (d:Int) (r:Val Y50):Prop:=q7 r=true∧(r.1:Int)=d
theorem q6F {d:Int} {r:Val Y50} (h:okR d r):okR d ((r.1,[]):Val Y50):=
 ⟨zaH (qbG h.1).1 (Nat.zero_le _) (fun c hc=>by cases hc),h.2⟩
theorem q9n {d:Int} {r:Val Y50} {c:Val Y33} (h:okR d r) (hc:(c.1:Int)=d):okR d (qag r c).1:=by
 have hm:= @qGG c
 unfold qag
 cases h2:(qU c).2 with
 | false=>exact h
 | true=>
   cases qbM (qU c).1 with
   | true=>exact h
   | false=>
     simp only [cond_true,cond_false]
     obtain ⟨r1,r2,r3⟩:=qbG h.1
     by_cases hl:(12:Int)≤(List.length (α:=Val Y33) r.2:Int)
     ·rw [decide_eq_true hl];exact h
     ·rw [decide_eq_false hl]
      refine ⟨zaH r1 ?_ ?_,h.2⟩
      ·refine Nat.le_trans (Nat.le_of_eq (List.length_append ..)) ?_
       show List.length (α:=Val Y33) r.2+1≤12
       omega
      ·intro x hx
       rcases List.mem_append.1 (show x∈(r.2:List (Val Y33))++[(qU c).1] from hx)with hx | hx
       ·exact r3 x hx
       ·obtain rfl:=List.mem_singleton.1 hx
        obtain ⟨_,g1,_,g3⟩:=hm h2
        exact ⟨g1,g3.trans (hc.trans h.2.symm)⟩
theorem q5H {d:Int}: ∀(cs:List (Val Y33)) (r:Val Y50),okR d r→(∀c∈cs,(c.1:Int)=d)→(qaY idF cs r).2=true→okR d (qaY idF cs r).1
 | [],r,h,_,_=>h
 | c::cs,r,h,hc,h2=>by
   have hA:=q9n h (hc c (by simp))
   change (bif (qag r c).2 then qaY idF cs (qag r c).1 else qa5).2=true at h2
   show okR d (bif (qag r c).2 then qaY idF cs (qag r c).1 else qa5).1
   cases ha:(qag r c).2 with
   | false=>rw [ha]at h2;exact absurd h2 (by simp)
   | true=>rw [ha]at h2;exact q5H cs _ hA (fun x hx=>hc x (by simp [hx])) h2
theorem qnE {r:Val Y50} (h2:(qY r).2=true):q7 r=true∧okR r.1 (qY r).1:=by
 unfold qY at h2 ⊢
 cases h:q7 r with
 | false=>rw [h]at h2;exact absurd h2 (by simp)
 | true=>
   rw [h]at h2
   exact ⟨rfl,q5H r.2 (r.1,[]) (q6F ⟨h,rfl⟩) (fun c hc=>((qbG h).2.2 c hc).2) h2⟩
theorem q68 {d:Int} (l:List (Val qa)) {c:Val Y33} (hc:(c.1:Int)=d): ∀(n k:Nat) (r:Val Y50),okR d r→(qbV d l c n k r).2=true→okR d (qbV d l c n k r).1
 | 0,_,_,h,_=>h
 | n+1,k,r,h,h2=>by
   simp only [qbV]at h2 ⊢
   have hm:= @q7K c (qcd d l k)
   generalize qZ c (qcd d l k)=m at hm h2 ⊢
   cases hm2:m.2 with
   | false=>rw [hm2]at h2;exact absurd h2 (by simp)
   | true=>
     rw [hm2]at h2
     have hA:=q9n h ((hm hm2).2.2.trans hc)
     cases ha:(qag r m.1).2 with
     | false=>rw [ha]at h2;exact absurd h2 (by simp)
     | true=>rw [ha]at h2;exact q68 l hc n (k+1) _ hA h2
theorem q8i {d:Int} (l:List (Val qa)): ∀(cs:List (Val Y33)) (r:Val Y50),okR d r→(∀c∈cs,(c.1:Int)=d)→(qb9 d l cs r).2=true→okR d (qb9 d l cs r).1
 | [],_,h,_,_=>h
 | c::cs,r,h,hc,h2=>by
   simp only [qb9]at h2 ⊢
   have hK:=q68 l (hc c (by simp)) l.length 0 r h
   cases ha:(qbV d l c l.length 0 r).2 with
   | false=>rw [ha]at h2;exact absurd h2 (by simp)
   | true=>rw [ha]at h2;exact q8i l cs _ (hK ha) (fun x hx=>hc x (by simp [hx])) h2
theorem qKn {d:Int} {r:Val Y50} {m:Val Y33} (h:okR d r) (h2:(qbL r m).2=true):okR d (qbL r m).1:=by
 obtain rfl:=h.2
 exact q8i m.2 r.2 (r.1,[]) (q6F h) (fun c hc=>((qbG h.1).2.2 c hc).2) h2
theorem q7N {d:Int}: ∀(cs:List (Val Y33)) (r:Val Y50),okR d r→(qbC cs r).2=true→okR d (qbC cs r).1
 | [],_,h,_=>h
 | c::cs,r,h,h2=>by
   simp only [qbC]at h2 ⊢
   cases hm:(qU c).2 with
   | false=>rw [hm]at h2;exact absurd h2 (by simp)
   | true=>
     rw [hm]at h2
     have hL:= @qKn d r (qU c).1 h
     cases hl:(qbL r (qU c).1).2 with
     | false=>rw [hl]at h2;exact absurd h2 (by simp)
     | true=>rw [hl]at h2;exact q7N cs _ (hL hl) h2
theorem zaV {a b:Val Y50} (h2:(qH a b).2=true):okR a.1 (qH a b).1:=by
 unfold qH at h2 ⊢
 cases hb:(q7 a&&q7 b&&decide ((a.1:Int)=(b.1:Int)))with
 | false=>rw [hb]at h2;exact absurd h2 (by simp)
 | true=>
   rw [hb]at h2
   cases hn:(qY a).2 with
   | false=>rw [hn]at h2;exact absurd h2 (by simp)
   | true=>rw [hn]at h2;exact q7N b.2 _ (qnE hn).2 h2
theorem qPF: ∀(cs:List (Val Y33)) (r:Val Y50),(bif (qbC cs r).2 then some ((qbC cs r).1,true,())else some (((0:Int),([]:List (Val Y33))),false,()):Option (qc [i50,i4]))=some ((qbC cs r).1,(qbC cs r).2,())
 | [],r=>rfl
 | c::cs,r=>by
   simp only [qbC]
   cases (qU c).2 with
   | false=>rfl
   | true=>
     cases (qbL r (qU c).1).2 with
     | false=>rfl
     | true=>exact qPF cs _
theorem t45 (N:Nat) (d:Int) (xs:List (Val Y33)) (v5:Int) (K:Int→List (Val Y33)→Option (qc [i50,i4])) (hx:xs.length≤12) (hd: ∀c∈xs,(c.1:Int)=d): ∀(k i:Nat),i+k=xs.length→ ∀n,k<n→ ∀(r:Val Y50),okR d r→
 qis N xs xs.length v5 K n (i:Int) r.1 r.2=bif (qbC (xs.drop i) r).2 then K (qbC (xs.drop i) r).1.1 (qbC (xs.drop i) r).1.2 else some (((0:Int),[]),false,())
 | 0,i,hi,n+1,_,r,_=>by
   rw [qis,qi (by omega),List.drop_eq_nil_of_le (by omega)]
   rfl
 | k+1,i,hi,n+1,hn,r,hr=>by
   have h1:i<xs.length:=by omega
   have hm:= @qGG xs[i]
   rw [qis,qj (by omega),qe (by omega),qI h1,qbr h1 (by omega),qbE h1]
   simp only [qbC]
   cases h2:(qU xs[i]).2 with
   | false=>rfl
   | true=>
     obtain ⟨_,g1,_,g3⟩:=hm h2
     simp only [Bool.not_true,cond_false,cond_true]
     rw [qe (show qDN r (qU xs[i]).1 from ⟨hr.1,g1,g3.trans ((hd _ (List.getElem_mem h1)).trans hr.2.symm)⟩)]
     show (bif !(qbL r (qU xs[i]).1).2 then _ else qis N xs xs.length v5 K n _ (qbL r (qU xs[i]).1).1.1 (qbL r (qU xs[i]).1).1.2)=_
     have hL:= @qKn d r (qU xs[i]).1 hr
     cases h3:(qbL r (qU xs[i]).1).2 with
     | false=>rfl
     | true=>
       simp only [Bool.not_true,cond_false,cond_true]
       exact t45 N d xs v5 K hx hd k (i+1) (by omega) n (by omega) _ (hL h3)
theorem e45 (a b:Val Y50): ∃N,m45 N a b=some ((qH a b).1,(qH a b).2,()):=⟨30,by
 rw [m45]
 unfold qH
 cases ha:q7 a with
 | false=>rfl
 | true=>
   cases hb:q7 b with
   | false=>rfl
   | true=>
     simp only [Bool.not_true,cond_false,Bool.true_and]
     by_cases hd:(a.1:Int)=(b.1:Int)
     ·rw [decide_eq_true hd]
      simp only [Bool.not_true,cond_false,cond_true]
      cases hn:(qY a).2 with
      | false=>rfl
      | true=>
        simp only [Bool.not_true,cond_false,cond_true]
        obtain ⟨_,hb2,hb3⟩:=qbG hb
        exact (t45 30 a.1 b.2 0 _ hb2 (fun c hc=>((hb3 c hc).2).trans hd.symm) (List.length (α:=Val Y33) b.2) 0 (by omega) 30 (by omega) (qY a).1 (qnE hn).2).trans (qPF b.2 (qY a).1)
     ·rw [decide_eq_false hd]
      rfl⟩
theorem s45:Sound Tryz.prog 45 g45:=qr (tt:=tt) (Γ:=Γ45) hT (qg qr1 (qg zaf (qg q6L (qg zxY qn)))) hm (fn:=Tryz.f45) Tryz.func45 (c:=Tryz.f45.body.getD .skip) (by kernel_rfl) (by kernel_rfl) fun x hx=>by
 obtain ⟨N,h⟩:=e45 x.1 x.2.1
 exact ⟨T45 N,p45,qu _,zrg N,(zjq N x.1 x.2.1).trans h⟩
theorem q9w: ∀(cs:List (Val Y33)) (r:Val Y50),(qbC cs r).2=false→(qbC cs r).1=(((0:Int),[]):Val Y50)
 | [],_,h=>absurd h (by simp [qbC])
 | c::cs,r,h=>by
   simp only [qbC]at h ⊢
   cases hm:(qU c).2 with
   | false=>rfl
   | true=>
     rw [hm]at h
     cases hl:(qbL r (qU c).1).2 with
     | false=>rfl
     | true=>rw [hl]at h;exact q9w cs _ h
theorem zAw {a b:Val Y50} (h:(qH a b).2=false):(qH a b).1=(((0:Int),[]):Val Y50):=by
 unfold qH at h ⊢
 cases hb:(q7 a&&q7 b&&decide ((a.1:Int)=(b.1:Int)))with
 | false=>rfl
 | true=>
   rw [hb]at h
   cases hn:(qY a).2 with
   | false=>rfl
   | true=>rw [hn]at h;exact q9w b.2 _ h
theorem qzA (a b:Val Y50):List.length (α:=Val Y33) (qH a b).1.2≤12∧ ∀c∈((qH a b).1.2:List (Val Y33)),qz c=true:=by
 cases h:(qH a b).2 with
 | true=>
   obtain ⟨_,h2,h3⟩:=qbG (zaV h).1
   exact ⟨h2,fun c hc=>(h3 c hc).1⟩
 | false=>
   rw [zAw h]
   exact ⟨Nat.zero_le _,fun c hc=>by cases hc⟩
theorem zpA {c:Val Y33} (h:qz c=true) (r:Val Y50):qdC r c=bif (qU c).2 then qbL r (qU c).1 else qa5:=by
 have e:qU c=qaj (qv c.1 c.2):=by unfold qU;rw [h];rfl
 unfold qdC
 rw [e]
theorem t44 (N:Nat) (d v3:Int) (xs:List (Val Y33)) (v5:Int) (K:Int→List (Val Y33)→Option (qc [i50,i4])) (hx:xs.length≤12) (hd: ∀c∈xs,qz c=true∧(c.1:Int)=d): ∀(k i:Nat),i+k=xs.length→ ∀n,k<n→ ∀(r:Val Y50),okR d r→
 qjb N v3 xs v5 K n (i:Int) r.1 r.2=bif (qbC (xs.drop i) r).2 then K (qbC (xs.drop i) r).1.1 (qbC (xs.drop i) r).1.2 else some (((0:Int),[]),false,())
 | 0,i,hi,n+1,_,r,_=>by
   rw [qjb,qi (by omega),List.drop_eq_nil_of_le (by omega)]
   rfl
 | k+1,i,hi,n+1,hn,r,hr=>by
   have h1:i<xs.length:=by omega
   obtain ⟨hc,hcd⟩:=hd _ (List.getElem_mem h1)
   rw [qjb,qj (by omega),qe (by omega),qI h1,qbr h1 (by omega),qbE h1]
   rw [qe (show qDs r xs[i] from ⟨hr.1,hc,hcd.trans hr.2.symm⟩)]
   simp only [qbC]
   show (bif !(qdC r xs[i]).2 then _ else qjb N v3 xs v5 K n _ (qdC r xs[i]).1.1 (qdC r xs[i]).1.2)=_
   rw [zpA hc]
   cases h2:(qU xs[i]).2 with
   | false=>rfl
   | true=>
     simp only [cond_true]
     have hL:= @qKn d r (qU xs[i]).1 hr
     cases h3:(qbL r (qU xs[i]).1).2 with
     | false=>rfl
     | true=>
       simp only [Bool.not_true,cond_false,cond_true]
       exact t44 N d v3 xs v5 K hx hd k (i+1) (by omega) n (by omega) _ (hL h3)
theorem e44 (a b:Val Y50) (h:qeE a b): ∃N,m44 N a b=some ((qH a b).1,(qH a b).2,()):=⟨30,by
 rw [m44,qe (show qmh a from h.1)]
 unfold qH
 cases hn:(qY a).2 with
 | false=>
   cases q7 a&&q7 b&&decide ((a.1:Int)=(b.1:Int))<;>rfl
 | true=>
   obtain ⟨ha,hR⟩:=qnE hn
   simp only [Bool.not_true,cond_false,cond_true]
   rw [qe (show qbs b from h.2),ha]
   cases hb:q7 b with
   | false=>rfl
   | true=>
     simp only [Bool.not_true,cond_false,Bool.true_and]
     by_cases hd:(a.1:Int)=(b.1:Int)
     ·rw [decide_eq_true hd]
      simp only [Bool.not_true,cond_false,cond_true]
      obtain ⟨_,hb2,hb3⟩:=qbG hb
      exact (t44 30 a.1 b.1 b.2 0 _ hb2 (fun c hc=>⟨(hb3 c hc).1,((hb3 c hc).2).trans hd.symm⟩) (List.length (α:=Val Y33) b.2) 0 (by omega) 30 (by omega) (qY a).1 hR).trans (qPF b.2 (qY a).1)
     ·rw [decide_eq_false hd]
      rfl⟩
theorem s44:Sound Tryz.prog 44 g44:=qr (tt:=tt) (Γ:=Γ44) hT (qg qnf (qg zpU (qg zoF qn))) hm (fn:=Tryz.f44) Tryz.func44 (c:=Tryz.f44.body.getD .skip) (by kernel_rfl) (by kernel_rfl) fun x hx=>by
 obtain ⟨N,h⟩:=e44 x.1 x.2.1 hx
 exact ⟨T44 N,p44,qu _,ze4 N,(zoq N x.1 x.2.1).trans h⟩
end Go.T
