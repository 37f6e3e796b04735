/- A cell taken from a region: what the functions compute. -/
import Derived.Test.YthefcjjgchekiaaGreatE10
set_option linter.unusedSimpArgs false
set_option linter.unusedVariables false
namespace Go.T
open Go Go.Proofs
set_option maxHeartbeats 4000000
set_option maxRecDepth 100000
theorem q01 {r:Val Y50} (c:Val Y33) (h:List.length (α:=Val Y33) r.2≤12):List.length (α:=Val Y33) (qag r c).1.2≤12:=by
 unfold qag
 cases (qU c).2 with
 | false=>exact h
 | true=>
   cases qbM (qU c).1 with
   | true=>exact h
   | false=>
     simp only [cond_true,cond_false]
     by_cases hl:(12:Int)≤(List.length (α:=Val Y33) r.2:Int)
     ·rw [decide_eq_true hl];exact h
     ·rw [decide_eq_false hl]
      refine Nat.le_trans (Nat.le_of_eq (List.length_append ..)) ?_
      show List.length (α:=Val Y33) r.2+1≤12
      omega
theorem qNj (d:Int) (l:List (Val qa)) (c:Val Y33): ∀(n k:Nat) (r:Val Y50),List.length (α:=Val Y33) r.2≤12→List.length (α:=Val Y33) (qbV d l c n k r).1.2≤12
 | 0,_,_,h=>h
 | n+1,k,r,h=>by
   simp only [qbV]
   cases (qZ c (qcd d l k)).2 with
   | false=>exact Nat.zero_le _
   | true=>
     cases (qag r (qZ c (qcd d l k)).1).2 with
     | false=>exact Nat.zero_le _
     | true=>exact qNj d l c n (k+1) _ (q01 _ h)
theorem qJf (d:Int) (l:List (Val qa)): ∀(cs:List (Val Y33)) (r:Val Y50),(bif (qb9 d l cs r).2 then some ((qb9 d l cs r).1,true,())else some (((0:Int),([]:List (Val Y33))),false,()):Option (qc [i50,i4]))=some ((qb9 d l cs r).1,(qb9 d l cs r).2,())
 | [],r=>rfl
 | c::cs,r=>by
   simp only [qb9]
   cases (qbV d l c l.length 0 r).2 with
   | false=>rfl
   | true=>exact qJf d l cs _
theorem q5l {d:Int} {l:List (Val qa)} {i:Nat} (h:i<l.length):((d,([]:List (Val qa))++(l.take (i:Int).toNat).drop (0:Int).toNat++[(((qt l[i]).1.1:List (Val (.int .i64))),((qt l[i]).1.2.1:Int),((qt l[i]).1.2.2:Bool))]):Val Y33)=qcd d l i:=by
 unfold qcd
 rw [qen h]
 show ((d,([]:List (Val qa))++(l.take i).drop 0++[(qt l[i]).1]):Val Y33)=_
 rw [List.drop_zero,List.nil_append]
theorem zkm {a:Val qa} (h:qP a=true):(qt a).2=true:=by unfold qt;rw [h];rfl
theorem q6k (N:Nat) (a:List (Val Y33)) (b e:Int) (l:List (Val qa)) (d:Int) (f:List (Val Y33)) (g h:Int) (c:Val Y33) (K:Int→List (Val Y33)→Option (qc [i50,i4])) (hl:l.length≤16) (ha: ∀x∈l,qP x=true): ∀(k i:Nat),i+k=l.length→ ∀n,k<n→ ∀(r:Val Y50),List.length (α:=Val Y33) r.2≤12→
 qix N a b e l l.length d f g l h c.1 c.2 K n (i:Int) r.1 r.2=bif (qbV d l c k i r).2 then K (qbV d l c k i r).1.1 (qbV d l c k i r).1.2 else some (((0:Int),[]),false,())
 | 0,i,hi,n+1,_,r,_=>by
   rw [qix,qi (by omega)]
   rfl
 | k+1,i,hi,n+1,hn,r,hr=>by
   have h1:i<l.length:=by omega
   have htl:((l.take (i:Int).toNat).drop (0:Int).toNat).length≤16:=by
    show ((l.take i).drop 0).length≤16
    rw [List.drop_zero,List.length_take];omega
   rw [qix,qj (by omega),qe (by omega),qI h1,zkm (ha _ (List.getElem_mem h1)),qbr h1 (by omega)]
   simp only [Bool.not_true,cond_false]
   rw [qe (by omega),qe (by simp only [List.length_nil];omega),qe (by simp only [List.length_append,List.length_nil,List.length_singleton];omega),q5l h1]
   simp only [qbV]
   show (bif !(qZ c (qcd d l i)).2 then _ else chk (qkD r (qZ c (qcd d l i)).1) (bif !(qag r (qZ c (qcd d l i)).1).2 then _ else qix N a b e l l.length d f g l h c.1 c.2 K n _ (qag r (qZ c (qcd d l i)).1).1.1 (qag r (qZ c (qcd d l i)).1).1.2))=_
   generalize qZ c (qcd d l i)=m
   cases m.2 with
   | false=>rfl
   | true=>
     simp only [Bool.not_true,cond_false,cond_true]
     rw [qe (show qkD r m.1 from hr)]
     cases (qag r m.1).2 with
     | false=>rfl
     | true=>
       simp only [Bool.not_true,cond_false,cond_true]
       exact q6k N a b e l d f g h c K hl ha k (i+1) (by omega) n (by omega) (qag r m.1).1 (q01 _ hr)
theorem q9p (N:Nat) (xs:List (Val Y33)) (d:Int) (f:List (Val Y33)) (g:Int) (l:List (Val qa)) (h:Int) (K:Int→List (Val Y33)→Option (qc [i50,i4])) (hx:xs.length≤12) (hl:l.length≤16) (hN:16<N) (ha: ∀x∈l,qP x=true): ∀(k i:Nat),i+k=xs.length→ ∀n,k<n→ ∀(r:Val Y50),List.length (α:=Val Y33) r.2≤12→
 qh4 N xs xs.length d f g l h K n (i:Int) r.1 r.2=bif (qb9 d l (xs.drop i) r).2 then K (qb9 d l (xs.drop i) r).1.1 (qb9 d l (xs.drop i) r).1.2 else some (((0:Int),[]),false,())
 | 0,i,hi,n+1,_,r,_=>by
   rw [qh4,qi (by omega),List.drop_eq_nil_of_le (by omega)]
   rfl
 | k+1,i,hi,n+1,hn,r,hr=>by
   have h1:i<xs.length:=by omega
   rw [qh4,qj (by omega),qe (by omega),qI h1,qbr h1 (by omega),qbE h1]
   refine (q6k N xs xs.length i l d f g h xs[i] _ hl ha l.length 0 (by omega) N (by omega) r hr).trans ?_
   simp only [qb9]
   cases (qbV d l xs[i] l.length 0 r).2 with
   | false=>rfl
   | true=>
     simp only [cond_true]
     exact q9p N xs d f g l h K hx hl hN ha k (i+1) (by omega) n (by omega) _ (qNj d l xs[i] _ _ r hr)
theorem zza (r:Val Y50) (m:Val Y33) (h:qDN r m): ∃N,qEi N r m=some ((qbL r m).1,(qbL r m).2,()):=⟨30,by
 obtain ⟨h1,h2,h3⟩:=h
 obtain ⟨_,hl,_⟩:=qbG h1
 obtain ⟨_,ml,mo⟩:=qaG h2
 rw [qEi]
 exact (q9p 30 r.2 r.1 r.2 m.1 m.2 0 _ hl ml (by omega) (fun x hx=>(mo x hx).1) (List.length (α:=Val Y33) r.2) 0 (by omega) 30 (by omega) (r.1,[]) (by simp)).trans (qJf r.1 m.2 r.2 (r.1,[]))⟩
theorem zxY:Sound Tryz.prog 139 qnG:=qr (tt:=tt) (Γ:=qe5) hT (qg zai (qg q7H qn)) hm (fn:=Tryz.f139) Tryz.func139 (c:=Tryz.f139.body.getD .skip) (by kernel_rfl) (by kernel_rfl) fun x hx=>by
 obtain ⟨N,h⟩:=zza x.1 x.2.1 hx
 exact ⟨qcq N,zsB,qzW (q9i q6J qBw) qBT,zrj N,(zvb N x.1 x.2.1).trans h⟩
theorem q7K {a b:Val Y33} (h:(qZ a b).2=true):okN a.1 (qZ a b).1:=by
 unfold qZ at h ⊢
 cases ha:qz a with
 | false=>rw [ha]at h;exact absurd h (by simp)
 | true=>
   cases hb:qz b with
   | false=>rw [ha,hb]at h;exact absurd h (by simp)
   | true=>
     by_cases hd:(a.1:Int)=(b.1:Int)
     ·rw [ha,hb,decide_eq_true hd]at h
      rw [decide_eq_true hd]
      exact qZL (qGR ha hb hd).1 h
     ·rw [ha,hb,decide_eq_false hd]at h;exact absurd h (by simp)
theorem q5j (N:Nat) (j:Nat) (d:Int) (xs:List (Val Y33)) (f g:Int) (l:List (Val qa)) (K:Int→List (Val Y33)→Option (qc [i50,i4])) (hj:j<xs.length) (hx:xs.length≤12) (hc: ∀c∈xs,qz c=true) (hl:l.length≤16) (ha: ∀x∈l,qP x=true): ∀(k i:Nat),i+k=l.length→ ∀n,k<n→ ∀(r:Val Y50),List.length (α:=Val Y33) r.2≤12→
 qi4 N (j:Int) d xs f g l K n (i:Int) r.1 r.2=bif (qbV d l xs[j] k i r).2 then K (qbV d l xs[j] k i r).1.1 (qbV d l xs[j] k i r).1.2 else some (((0:Int),[]),false,())
 | 0,i,hi,n+1,_,r,_=>by
   rw [qi4,qi (by omega)]
   rfl
 | k+1,i,hi,n+1,hn,r,hr=>by
   have h1:i<l.length:=by omega
   have htl:((l.take (i:Int).toNat).drop (0:Int).toNat).length≤16:=by
    show ((l.take i).drop 0).length≤16
    rw [List.drop_zero,List.length_take];omega
   have hat:=ha _ (List.getElem_mem h1)
   have hcj:=hc _ (List.getElem_mem hj)
   rw [qi4,qj (by omega),qe (by omega),qe (show (i:Int).toNat<l.length from h1),qI h1,qe (show qoI l[i] from by have:=(qbb hat).1;show List.length (α:=Int) _≤1048576;omega),qbr h1 (by omega)]
   rw [qe (by omega),qe (by simp only [List.length_nil];omega),qe (by simp only [List.length_append,List.length_nil,List.length_singleton];omega),q5l h1,qe (by omega),qI hj]
   rw [qe (show qnz xs[j] (qcd d l i) from ⟨by have:=(qaG hcj).2.1;show _≤1048576;omega,by show (l.take i++[_]).length≤1048576;simp only [List.length_append,List.length_take,List.length_singleton];omega⟩)]
   simp only [qbV]
   have hm:= @q7K xs[j] (qcd d l i)
   generalize qZ xs[j] (qcd d l i)=m at hm ⊢
   cases h2:m.2 with
   | false=>rfl
   | true=>
     have hmc:=(hm h2).1
     obtain ⟨e1,e2⟩:=qTL hmc r
     simp only [Bool.not_true,cond_false,cond_true]
     rw [qe (show qfp (r.1,r.2) m.1 from ⟨hmc,hr⟩)]
     show (bif !(qa1 r m.1).2 then _ else qi4 N (j:Int) d xs f g l K n _ (qa1 r m.1).1.1 (qa1 r m.1).1.2)=_
     rw [e1]
     cases h3:(qag r m.1).2 with
     | false=>rfl
     | true=>
       simp only [Bool.not_true,cond_false,cond_true]
       rw [e2 h3]
       exact q5j N j d xs f g l K hj hx hc hl ha k (i+1) (by omega) n (by omega) (qag r m.1).1 (q01 _ hr)
theorem q7k (N:Nat) (d:Int) (xs:List (Val Y33)) (f g:Int) (l:List (Val qa)) (K:Int→List (Val Y33)→Option (qc [i50,i4])) (hx:xs.length≤12) (hc: ∀c∈xs,qz c=true) (hl:l.length≤16) (hN:16<N) (ha: ∀x∈l,qP x=true): ∀(k i:Nat),i+k=xs.length→ ∀n,k<n→ ∀(r:Val Y50),List.length (α:=Val Y33) r.2≤12→
 qif N d xs f g l K n (i:Int) r.1 r.2=bif (qb9 d l (xs.drop i) r).2 then K (qb9 d l (xs.drop i) r).1.1 (qb9 d l (xs.drop i) r).1.2 else some (((0:Int),[]),false,())
 | 0,i,hi,n+1,_,r,_=>by
   rw [qif,qi (by omega),List.drop_eq_nil_of_le (by omega)]
   rfl
 | k+1,i,hi,n+1,hn,r,hr=>by
   have h1:i<xs.length:=by omega
   rw [qif,qj (by omega),qbr h1 (by omega),qbE h1]
   refine (q5j N i d xs f g l _ h1 hx hc hl ha l.length 0 (by omega) N (by omega) r hr).trans ?_
   simp only [qb9]
   cases (qbV d l xs[i] l.length 0 r).2 with
   | false=>rfl
   | true=>
     simp only [cond_true]
     exact q7k N d xs f g l K hx hc hl hN ha k (i+1) (by omega) n (by omega) _ (qNj d l xs[i] _ _ r hr)
theorem zdW (r:Val Y50) (c:Val Y33) (h:qDs r c): ∃N,qCP N r c=some ((qdC r c).1,(qdC r c).2,()):=⟨30,by
 obtain ⟨hr,hc,hd⟩:=h
 obtain ⟨_,hl,ho⟩:=qbG hr
 obtain ⟨hL,hN⟩:=qe4 hc
 rw [qCP,qe (show qaF c.1 c.2 from hL),qe (show qne _ from hN.1)]
 unfold qdC
 cases hm:(qaj (qv c.1 c.2)).2 with
 | false=>rfl
 | true=>
   have hn:=qQc hN hm
   generalize (qaj (qv c.1 c.2)).1=m at*
   obtain ⟨_,ml,mo⟩:=qaG hn.1
   simp only [Bool.not_true,cond_false,cond_true]
   exact (q7k 30 r.1 r.2 0 m.1 m.2 _ hl (fun c hc=>(ho c hc).1) ml (by omega) (fun x hx=>(mo x hx).1) (List.length (α:=Val Y33) r.2) 0 (by omega) 30 (by omega) (r.1,[]) (by simp)).trans (qJf r.1 m.2 r.2 (r.1,[]))⟩
theorem zoF:Sound Tryz.prog 137 qoM:=qr (tt:=tt) (Γ:=qda) hT (qg zaG (qg qhd (qg q8V (qg qPd (qg q6Q qn))))) hm (fn:=Tryz.f137) Tryz.func137 (c:=Tryz.f137.body.getD .skip) (by kernel_rfl) (by kernel_rfl) fun x hx=>by
 obtain ⟨N,h⟩:=zdW x.1 x.2.1 hx
 exact ⟨qcw N,zja,qu _,ztg N,(zlS N x.1 x.2.1).trans h⟩
end Go.T
