/- Neat regions: what the functions compute. -/
import Derived.Test.YthefcjjgchekiaaGreatE8
set_option linter.unusedSimpArgs false
set_option linter.unusedVariables false
namespace Go.T
open Go Go.Proofs
set_option maxHeartbeats 4000000
set_option maxRecDepth 100000
theorem qA7 (r:Val Y50) (c:Val Y33):List.length (α:=Val Y33) (qag r c).1.2≤List.length (α:=Val Y33) r.2+1:=by
 unfold qag
 cases (qU c).2 with
 | false=>exact Nat.le_succ _
 | true=>
   cases qbM (qU c).1 with
   | true=>exact Nat.le_succ _
   | false=>
     cases decide (12≤(List.length (α:=Val Y33) r.2:Int))with
     | true=>exact Nat.le_succ _
     | false=>exact Nat.le_of_eq (List.length_append ..)
theorem qG2 (f:qc [i33]→qc [i33,i4]): ∀(cs:List (Val Y33)) (r:Val Y50),(bif (qaY f cs r).2 then some ((qaY f cs r).1,true,())else some (((0:Int),([]:List (Val Y33))),false,()):Option (qc [i50,i4]))=some ((qaY f cs r).1,(qaY f cs r).2,())
 | [],r=>rfl
 | c::cs,r=>by
   simp only [qaY]
   cases (f (c,())).2.1 with
   | false=>rfl
   | true=>
     cases (qag r (f (c,())).1).2 with
     | false=>rfl
     | true=>exact qG2 f cs _
theorem q5X (N:HN [i33] [i33,i4]) (xs:List (Val Y33)) (v4:Int) (K:Int→List (Val Y33)→Option (qc [i50,i4])) (hl:xs.length≤12) (hp: ∀c∈xs,N.pre (c,())): ∀(k i:Nat),i+k=xs.length→ ∀n,k<n→ ∀(r:Val Y50),List.length (α:=Val Y33) r.2≤i→
 qjw N xs xs.length v4 K n (i:Int) r.1 r.2=bif (qaY N.fn (xs.drop i) r).2 then K (qaY N.fn (xs.drop i) r).1.1 (qaY N.fn (xs.drop i) r).1.2 else some (((0:Int),[]),false,())
 | 0,i,hi,n+1,_,r,_=>by
   rw [qjw,qi (by omega),List.drop_eq_nil_of_le (by omega)]
   rfl
 | k+1,i,hi,n+1,hn,r,hr=>by
   have h1:i<xs.length:=by omega
   rw [qjw,qj (by omega),qe (by omega),qI h1,qe (hp _ (List.getElem_mem h1)),qbr h1 (by omega),qbE h1]
   simp only [qaY]
   cases (N.fn (xs[i],())).2.1 with
   | false=>rfl
   | true=>
     simp only [Bool.not_true,cond_false,cond_true]
     rw [qe (show qkD r _ from by show _≤12;omega)]
     show (bif !(qag r (N.fn (xs[i],())).1).2 then _ else _)=_
     cases (qag r (N.fn (xs[i],())).1).2 with
     | false=>rfl
     | true=>
       simp only [Bool.not_true,cond_false,cond_true]
       exact q5X N xs v4 K hl hp k (i+1) (by omega) n (by omega) (qag r (N.fn (xs[i],())).1).1 (by have:=qA7 r (N.fn (xs[i],())).1;omega)
theorem zdv (pre:qc [i33]→Prop) (gf:qc [i33]→qc [i33,i4]) (x:Val Y50) (fv:Value) (hx:qm8 pre gf x): ∃n,qBM ⟨n,fv,pre,gf⟩ x=some ((qep gf x).1,(qep gf x).2,()):=⟨List.length (α:=Val Y33) x.2+1,by
 rw [qBM]
 exact (q5X ⟨_,fv,pre,gf⟩ x.2 0 _ hx.1 hx.2 (List.length (α:=Val Y33) x.2) 0 (by omega) _ (Nat.lt_succ_self _) (x.1,[]) (by simp)).trans (qG2 gf x.2 (x.1,[]))⟩
theorem q8d:SoundH Tryz.prog 144 qqw:=zcr (tt:=tt) (Γ:=qmY) hT qn hm (fn:=Tryz.f144) Tryz.func144 (c:=Tryz.f144.body.getD .skip) (by kernel_rfl) (by kernel_rfl) fun pre gf x fv hx=>by
 obtain ⟨n,h⟩:=zdv pre gf x fv hx
 exact ⟨qc1 ⟨n,fv,pre,gf⟩,_,zvo,⟨rfl,qzW (q9i q6J qBw) qBT⟩,zk1 _,(zjj ⟨n,fv,pre,gf⟩ x).trans h⟩
theorem zxc (c:Val Y33) (_:True): ∃N,qHO N c=some ((idC c).1,(idC c).2,()):=⟨0,rfl⟩
theorem ze8:SoundC Tryz.prog 211 qiR:=q5i (tt:=tt) (Γ:=q81) hT qn hm (fn:=Tryz.f211) Tryz.func211 (c:=Tryz.f211.body.getD .skip) (by kernel_rfl) (by kernel_rfl) fun c x hx=>by
 obtain ⟨N,h⟩:=zxc x.1 hx
 exact ⟨qgo N,zpj,qu _,znY N,(zwk N x.1).trans h⟩
theorem zvg (r:Val Y50): ∃N,qAW N r=some ((qY r).1,(qY r).2,()):=⟨0,by
 rw [qAW]
 unfold qY
 cases h:q7 r with
 | false=>rfl
 | true=>
   simp only [Bool.not_true,cond_false,cond_true]
   obtain ⟨_,h2,_⟩:=qbG h
   exact qe (show qm8 _ _ r from ⟨h2,fun _ _=>trivial⟩)⟩
theorem zaf:Sound Tryz.prog 133 qe2:=qr (tt:=tt) (Γ:=qFy) hT (qg qr1 qn) hm (fn:=Tryz.f133) Tryz.func133 (c:=Tryz.f133.body.getD .skip) (by kernel_rfl) (by kernel_rfl) fun x hx=>by
 obtain ⟨N,h⟩:=zvg x.1
 exact ⟨qe3 N,zuI,qzW qBw (q75 q8d (q7J ze8 zaC) qBT),znB N,(zpm N x.1).trans h⟩
theorem qTL {c:Val Y33} (h:qz c=true) (r:Val Y50):(qa1 r c).2=(qag r c).2∧((qag r c).2=true→(qa1 r c).1=(qag r c).1):=by
 have e:qU c=qaj (qv c.1 c.2):=by unfold qU;rw [h];rfl
 unfold qa1 qag
 rw [e]
 cases (qaj (qv c.1 c.2)).2 with
 | false=>exact ⟨rfl,fun h=>absurd h (by simp)⟩
 | true=>
   cases qbM (qaj (qv c.1 c.2)).1 with
   | true=>exact ⟨rfl,fun _=>rfl⟩
   | false=>
     simp only [cond_true,cond_false]
     by_cases hl:(12:Int)≤(List.length (α:=Val Y33) r.2:Int)
     ·rw [decide_eq_true hl,decide_eq_false (by omega)]
      exact ⟨rfl,fun h=>absurd h (by simp)⟩
     ·rw [decide_eq_false hl,decide_eq_true (by omega)]
      exact ⟨rfl,fun _=>rfl⟩
theorem q5u (N:Nat) (d:Int) (xs:List (Val Y33)) (v4:Int) (K:Int→List (Val Y33)→Option (qc [i50,i4])) (hl:xs.length≤12) (hp: ∀c∈xs,qz c=true): ∀(k i:Nat),i+k=xs.length→ ∀n,k<n→ ∀(r:Val Y50),List.length (α:=Val Y33) r.2≤i→
 qgc N d xs v4 K n (i:Int) r.1 r.2=bif (qaY idF (xs.drop i) r).2 then K (qaY idF (xs.drop i) r).1.1 (qaY idF (xs.drop i) r).1.2 else some (((0:Int),[]),false,())
 | 0,i,hi,n+1,_,r,_=>by
   rw [qgc,qi (by omega),List.drop_eq_nil_of_le (by omega)]
   rfl
 | k+1,i,hi,n+1,hn,r,hr=>by
   have h1:i<xs.length:=by omega
   have hc:=hp _ (List.getElem_mem h1)
   obtain ⟨e1,e2⟩:=qTL hc r
   rw [qgc,qj (by omega),qe (by omega),qI h1,qe (show qfp r xs[i] from ⟨hc,by omega⟩),qbr h1 (by omega),qbE h1]
   show (bif !(qa1 r xs[i]).2 then _ else qgc N d xs v4 K n _ (qa1 r xs[i]).1.1 (qa1 r xs[i]).1.2)=_
   rw [e1]
   simp only [qaY]
   show _=bif (bif (qag r xs[i]).2 then qaY idF (xs.drop (i+1)) (qag r xs[i]).1 else qa5).2 then K (bif (qag r xs[i]).2 then qaY idF (xs.drop (i+1)) (qag r xs[i]).1 else qa5).1.1 (bif (qag r xs[i]).2 then qaY idF (xs.drop (i+1)) (qag r xs[i]).1 else qa5).1.2 else _
   cases ha:(qag r xs[i]).2 with
   | false=>rfl
   | true=>
     simp only [Bool.not_true,cond_false,cond_true]
     rw [e2 ha]
     exact q5u N d xs v4 K hl hp k (i+1) (by omega) n (by omega) (qag r xs[i]).1 (by have:=qA7 r xs[i];omega)
theorem q6j (r:Val Y50) (h:qmh r): ∃N,qn5 N r=some ((qY r).1,(qY r).2,()):=⟨List.length (α:=Val Y33) r.2+1,by
 rw [qn5,qe (show qbs r from h)]
 unfold qY
 cases hr:q7 r with
 | false=>rfl
 | true=>
   simp only [Bool.not_true,cond_false,cond_true]
   obtain ⟨_,h2,h3⟩:=qbG hr
   exact (q5u _ r.1 r.2 0 _ h2 (fun c hc=>(h3 c hc).1) (List.length (α:=Val Y33) r.2) 0 (by omega) _ (Nat.lt_succ_self _) (r.1,[]) (by simp)).trans (qG2 idF r.2 (r.1,[]))⟩
theorem zpU:Sound Tryz.prog 131 qnh:=qr (tt:=tt) (Γ:=qlQ) hT (qg qnf (qg zaG qn)) hm (fn:=Tryz.f131) Tryz.func131 (c:=Tryz.f131.body.getD .skip) (by kernel_rfl) (by kernel_rfl) fun x hx=>by
 obtain ⟨N,h⟩:=q6j x.1 hx
 exact ⟨qdb N,zd2,qu _,zbL N,(zwx N x.1).trans h⟩
end Go.T
