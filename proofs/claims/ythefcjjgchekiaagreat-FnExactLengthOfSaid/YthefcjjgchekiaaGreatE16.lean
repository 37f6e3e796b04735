/- Regions split: what the functions compute. -/
import Derived.Test.YthefcjjgchekiaaGreatE15
set_option linter.unusedSimpArgs false
set_option linter.unusedVariables false
namespace Go.T
open Go Go.Proofs
set_option maxHeartbeats 4000000
set_option maxRecDepth 100000
theorem zaF {a b:Val Y50} (h:(qH a b).2=true):List.length (α:=Val Y33) (qH a b).1.2≤12:=(qbG (zaV h).1).2.1
theorem qVc (d:Int) (xs:List (Val Y33)): ∀(n i:Nat) (l:List (Val Y33)),(bif (qcA d xs n i l).2 then some (((d,(qcA d xs n i l).1.2):Val Y50),true,())else some (((0:Int),([]:List (Val Y33))),false,()):Option (qc [i50,i4]))=some ((qcA d xs n i l).1,(qcA d xs n i l).2,())
 | 0,_,_=>rfl
 | n+1,i,l=>by
   simp only [qcA]
   cases (qH (qbv (xs.getD i dC)) (d,xs.take i)).2 with
   | false=>rfl
   | true=>
     simp only [cond_true]
     cases decide ((12:Int)<(l.length:Int)+(List.length (α:=Val Y33) (qH (qbv (xs.getD i dC)) (d,xs.take i)).1.2:Int))with
     | true=>rfl
     | false=>exact qVc d xs n (i+1) _
theorem t58 (N:Nat) (d:Int) (xs:List (Val Y33)) (v6 v7:Int) (K:List (Val Y33)→Option (qc [i50,i4])) (hx:xs.length≤12): ∀(k i:Nat),i+k=xs.length→ ∀n,k<n→ ∀(l:List (Val Y33)),l.length≤12→
 qlw N xs xs.length d xs v6 v7 K n (i:Int) l=bif (qcA d xs k i l).2 then K (qcA d xs k i l).1.2 else some (((0:Int),[]),false,())
 | 0,i,hi,n+1,_,l,_=>by
   rw [qlw,qi (by omega)]
   rfl
 | k+1,i,hi,n+1,hn,l,hl=>by
   have h1:i<xs.length:=by omega
   have et:(xs.take (i:Int).toNat).drop (0:Int).toNat=xs.take i:=by
    show (xs.take i).drop 0=_
    rw [List.drop_zero]
   rw [qlw,qj (by omega),qe (by omega),qI h1,qe (by omega),qbr h1 (by omega),et]
   simp only [qcA]
   rw [show xs.getD i dC=xs[i] from qen h1 _]
   have hp:= @zaF (qbv xs[i]) (d,xs.take i)
   generalize qH (qbv xs[i]) (d,xs.take i)=p at hp ⊢
   cases h2:p.2 with
   | false=>rfl
   | true=>
     have h12:=hp h2
     simp only [Bool.not_true,cond_false,cond_true]
     rw [qaC (by omega) (by omega)]
     by_cases h3:(12:Int)<(l.length:Int)+(List.length (α:=Val Y33) p.1.2:Int)
     ·rw [decide_eq_true h3];rfl
     ·rw [decide_eq_false h3]
      simp only [cond_false]
      rw [qe (by omega)]
      exact t58 N d xs v6 v7 K hx k (i+1) (by omega) n (by omega) _ (by rw [List.length_append];omega)
theorem e58 (r:Val Y50): ∃N,m58 N r=some ((qX r).1,(qX r).2,()):=⟨30,by
 rw [m58]
 unfold qX
 cases h:q7 r with
 | false=>rfl
 | true=>
   simp only [Bool.not_true,cond_false,cond_true]
   obtain ⟨_,h2,_⟩:=qbG h
   exact (t58 30 r.1 r.2 0 r.1 _ h2 (List.length (α:=Val Y33) r.2) 0 (by omega) 30 (by omega) [] (by simp)).trans (qVc r.1 r.2 _ 0 [])⟩
theorem s58:Sound Tryz.prog 58 g58:=qr (tt:=tt) (Γ:=Γ58) hT (qg s45 (qg qr1 (qg q58 qn))) hm (fn:=Tryz.f58) Tryz.func58 (c:=Tryz.f58.body.getD .skip) (by kernel_rfl) (by kernel_rfl) fun x hx=>by
 obtain ⟨N,h⟩:=e58 x.1
 exact ⟨T58 N,p58,qu _,ztr N,(zfS N x.1).trans h⟩
theorem t57 (N:Nat) (d:Int) (xs:List (Val Y33)) (v6 v7:Int) (K:List (Val Y33)→Option (qc [i50,i4])) (hx:xs.length≤12) (hc: ∀c∈xs,qbf c∧(c.1:Int)=d): ∀(k i:Nat),i+k=xs.length→ ∀n,k<n→ ∀(l:List (Val Y33)),l.length≤12→
 qjp N d xs v6 v7 K n (i:Int) l=bif (qcA d xs k i l).2 then K (qcA d xs k i l).1.2 else some (((0:Int),[]),false,())
 | 0,i,hi,n+1,_,l,_=>by
   rw [qjp,qi (by omega)]
   rfl
 | k+1,i,hi,n+1,hn,l,hl=>by
   have h1:i<xs.length:=by omega
   have et:(xs.take (i:Int).toNat).drop (0:Int).toNat=xs.take i:=by
    show (xs.take i).drop 0=_
    rw [List.drop_zero]
   obtain ⟨hcp,hcd⟩:=hc _ (List.getElem_mem h1)
   have eo:((d,([xs[i]]:List (Val Y33))):Val Y50)=qbv xs[i]:=by unfold qbv;rw [hcd]
   rw [qjp,qj (by omega),qe (by omega),qI h1,qe (by omega),qbr h1 (by omega),et,eo]
   rw [qe (show qeE (qbv xs[i]) (d,xs.take i) from ⟨⟨by show 1≤1048576;omega,fun c hc=>by
    obtain rfl:=List.mem_singleton.1 (show c∈[xs[i]] from hc)
    exact hcp⟩,⟨by show (xs.take i).length≤1048576;rw [List.length_take];omega,fun c h=>(hc c (List.mem_of_mem_take h)).1⟩⟩)]
   simp only [qcA]
   rw [show xs.getD i dC=xs[i] from qen h1 _]
   have hp:= @zaF (qbv xs[i]) (d,xs.take i)
   generalize qH (qbv xs[i]) (d,xs.take i)=p at hp ⊢
   cases h2:p.2 with
   | false=>rfl
   | true=>
     have h12:=hp h2
     simp only [Bool.not_true,cond_false,cond_true]
     rw [qaC (by omega) (by omega)]
     by_cases h3:(12:Int)<(l.length:Int)+(List.length (α:=Val Y33) p.1.2:Int)
     ·rw [decide_eq_true h3];rfl
     ·rw [decide_eq_false h3]
      simp only [cond_false]
      rw [qe (by omega)]
      exact t57 N d xs v6 v7 K hx hc k (i+1) (by omega) n (by omega) _ (by rw [List.length_append];omega)
theorem e57 (r:Val Y50) (h:qoh r): ∃N,m57 N r=some ((qX r).1,(qX r).2,()):=⟨30,by
 rw [m57,qe (show qbs r from h)]
 unfold qX
 cases hr:q7 r with
 | false=>rfl
 | true=>
   simp only [Bool.not_true,cond_false,cond_true]
   obtain ⟨_,h2,h3⟩:=qbG hr
   exact (t57 30 r.1 r.2 0 r.1 _ h2 (fun c hc=>⟨h.2 c hc,(h3 c hc).2⟩) (List.length (α:=Val Y33) r.2) 0 (by omega) 30 (by omega) [] (by simp)).trans (qVc r.1 r.2 _ 0 [])⟩
theorem s57:Sound Tryz.prog 57 g57:=qr (tt:=tt) (Γ:=Γ57) hT (qg s44 (qg qnf qn)) hm (fn:=Tryz.f57) Tryz.func57 (c:=Tryz.f57.body.getD .skip) (by kernel_rfl) (by kernel_rfl) fun x hx=>by
 obtain ⟨N,h⟩:=e57 x.1 hx
 exact ⟨T57 N,p57,qu _,zb4 N,(zdb N x.1).trans h⟩
theorem q89 (d:Int) (xs:List (Val Y33)): ∀(n i:Nat) (l:List (Val Y33)),l.length≤12→(∀c∈l,qz c=true)→List.length (α:=Val Y33) (qcA d xs n i l).1.2≤12∧ ∀c∈((qcA d xs n i l).1.2:List (Val Y33)),qz c=true
 | 0,_,_,h,hc=>⟨h,hc⟩
 | n+1,i,l,h,hc=>by
   simp only [qcA]
   have hp:=qzA (qbv (xs.getD i dC)) (d,xs.take i)
   generalize qH (qbv (xs.getD i dC)) (d,xs.take i)=p at hp ⊢
   cases p.2 with
   | false=>exact ⟨Nat.zero_le _,fun c hc=>by cases hc⟩
   | true=>
     simp only [cond_true]
     by_cases h3:(12:Int)<(l.length:Int)+(List.length (α:=Val Y33) p.1.2:Int)
     ·rw [decide_eq_true h3];exact ⟨Nat.zero_le _,fun c hc=>by cases hc⟩
     ·rw [decide_eq_false h3]
      refine q89 d xs n (i+1) _ (by rw [List.length_append];omega) fun c hm=> ?_
      rcases List.mem_append.1 hm with hm | hm
      ·exact hc c hm
      ·exact hp.2 c hm
theorem qSR (a:Val Y50):List.length (α:=Val Y33) (qX a).1.2≤12∧ ∀c∈((qX a).1.2:List (Val Y33)),qz c=true:=by
 unfold qX
 cases q7 a with
 | true=>exact q89 _ _ _ _ _ (by simp) (fun c hc=>by cases hc)
 | false=>exact ⟨Nat.zero_le _,fun c hc=>by cases hc⟩
end Go.T
