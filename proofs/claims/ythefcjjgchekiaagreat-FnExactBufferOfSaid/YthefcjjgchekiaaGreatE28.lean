/- Regions widened: the whole. -/
import Derived.Test.YthefcjjgchekiaaGreatE27
set_option linter.unusedSimpArgs false
set_option linter.unusedVariables false
namespace Go.T
open Go Go.Proofs
set_option maxHeartbeats 4000000
set_option maxRecDepth 100000
theorem qXe (d:Val Y28) (c:Val Y33) (h:qQg d c): ∃N,qxi N c d=some ((qAW d c).1,(qAW d c).2,()):=⟨0,by
 rw [qxi]
 exact qe h⟩
theorem zbA:SoundC Tryz.prog 152 qgL:=q4p (tt:=tt) (Γ:=qCp) hT (qf q6C qq) hm (fn:=Tryz.f152) Tryz.func152 (c:=Tryz.f152.body.getD .skip) (by kernel_rfl) (by kernel_rfl) fun c x hx=>by
 obtain ⟨N,h⟩:=qXe c.1 x.1 hx
 exact ⟨qfL N,q3w,qv _,q7z N,(q1H N x.1 c.1).trans h⟩
theorem e56 (r:Val Y50) (d:Val Y28): ∃N,m56 N r d=some ((qaP r d).1,(qaP r d).2,()):=⟨0,by
 rw [m56]
 unfold qaP
 cases hc:qcc r with
 | false=>rfl
 | true=>
   simp only [Bool.not_true,cond_false,Bool.true_and]
   by_cases h1:(r.1:Int)<1
   ·rw [ql h1,decide_eq_false (fun h=>absurd h.1 (Int.not_le.2 h1))];rfl
   ·rw [qi h1]
    by_cases h2:(2:Int)<(r.1:Int)
    ·rw [ql h2,decide_eq_false (fun h=>absurd h.2 (Int.not_le.2 h2))];rfl
    ·have hn:1≤(r.1:Int)∧(r.1:Int)≤2:=⟨Int.not_lt.1 h1,Int.not_lt.1 h2⟩
     rw [qi h2,decide_eq_true hn]
     cases hr:qaQ d with
     | false=>rfl
     | true=>
       simp only [Bool.not_true,cond_false,Bool.true_and]
       by_cases h3:(d.1:Int)<0
       ·rw [ql h3,decide_eq_false (Int.not_le.2 h3)];rfl
       ·rw [qi h3,decide_eq_true (Int.not_lt.1 h3)]
        simp only [cond_true]
        obtain ⟨_,hl,hx⟩:=qCC hc
        exact qe (show qAb (qgL.pre (d,())) _ r from ⟨hl,fun c h=>⟨(hx c h).1,by rw [(hx c h).2];exact hn,hr⟩⟩)⟩
theorem s56:Sound Tryz.prog 56 g56:=qu (tt:=tt) (Γ:=Γ56) hT (qf q0d (qf q37 qq)) hm (fn:=Tryz.f56) Tryz.func56 (c:=Tryz.f56.body.getD .skip) (by kernel_rfl) (by kernel_rfl) fun x hx=>by
 obtain ⟨N,h⟩:=e56 x.1 x.2.1
 exact ⟨T56 N,p56,qSj qRb (q5Y qXM (zb4 zbA qZF) qUR),zdj N,(zdp N x.1 x.2.1).trans h⟩
abbrev qnz:Option (qb [i50,i4]):=some (((0:Int),([]:List (Val Y33))),false,())
section
variable (N : Nat) {n : Int} {d : Val Y28} (xs ys : List (Val Y33)) (v7 v8 v9 : Int)
theorem q3f (hn:1≤n∧n≤2) {j:Nat} (hj:j<xs.length) (K:List (Val qa)→Option (qb [i50,i4])) (hl:List.length (α:=Val qa) xs[j].2≤16) (h: ∀a∈(xs[j].2:List (Val qa)),okD n a) (m:Nat) (hm:List.length (α:=Val qa) xs[j].2<m):
 qhQ N (j:Int) n xs d.1 d.2 v7 v8 v9 ys K m 0 []=K (List.map (α:=Val qa) (qbv n) xs[j].2):=by
 refine (qaj (xs:=(xs[j].2:List (Val qa))) (F:=fun m i s=>qhQ N (j:Int) n xs d.1 d.2 v7 v8 v9 ys K m i s) (step:=fun _ x s K=>chk (s.length+[qbv n x].length≤1048576) (K (s++[qbv n x]))) (k:=K) (by omega) (fun m i s hi=> ?_) (fun m i s hi=> ?_) _ [] hm).trans ?_
 ·have ha:=(h _ (List.getElem_mem hi)).1
  have h4:=(qaN ha).1
  rw [qhQ,qe (by omega),qH hj,ql (by omega),qe (by omega),qe (by omega),qH hi,qe (by omega),qe (by rw [List.length_replicate];show _+List.length (α:=Int) (xs[j].2:List (Val qa))[i].1≤_;omega)]
  rfl
 ·rw [qhQ,qe (by omega),qH hj,qi (by omega)]
 ·exact (qnV (f:=qbv n) (xs[j].2:List (Val qa)) 0 [] (by simp;omega)).trans (by simp)
theorem qRO {i s:Int} (hn:1≤n∧n≤2) (hi:0≤i∧i<n) (hs:s=1∨s= -1) (hd:qaQ d=true) (v6:Int) (K:List (Val qa)→Option (qb [i50,i4])) (m:Nat) (l:List (Val qa)) (hl:l.length≤1000):
 qgE N v6 i n xs d.1 d.2 v7 v8 v9 ys K (m+1) s l=bif (qaq n i s d).2 then qgE N v6 i n xs d.1 d.2 v7 v8 v9 ys K m (s - 2) (l++[(qaq n i s d).1])else qnz:=by
 obtain ⟨e1,e2,e3,e4,e5,hp⟩:=qxZ hn hi hs hd
 have es:IntKind.i64.wrap (s - 2)=s - 2:=by rcases hs with rfl | rfl<;>exact qaf (by omega) (by omega)
 have r1:(List.replicate (2*n).toNat (qc (.int .i64))).length=(2*n).toNat:=List.length_replicate
 rw [qgE,ql (by omega),e1,e2,e3,e4,e5,es,qe (by omega),qe (by rw [r1];omega),qe (by rw [r1];omega),qe (by rw [List.length_set,r1];omega),qe (by rw [List.length_set,r1];omega)]
 rw [qe (show qac (((List.replicate (2*n).toNat (qc (.int .i64))).set i.toNat (s*d.2)).set (n+i).toNat (-s*d.2)) (-(d.1:Int)) false from hp)]
 show (bif !(qaq n i s d).2 then qnz else chk (l.length+[(qaq n i s d).1].length≤1048576) (qgE N v6 i n xs d.1 d.2 v7 v8 v9 ys K m (s - 2) (l++[(qaq n i s d).1])))=_
 cases (qaq n i s d).2 with
 | false=>rfl
 | true=>
   simp only [Bool.not_true,cond_false,cond_true]
   rw [qe (by simp only [List.length_singleton];omega)]
theorem qUZ {i:Int} (hn:1≤n∧n≤2) (hi:0≤i∧i<n) (hd:qaQ d=true) (v6:Int) (K:List (Val qa)→Option (qb [i50,i4])) (m:Nat) (hm:3≤m) (l:List (Val qa)) (hl:l.length≤100):
 qgE N v6 i n xs d.1 d.2 v7 v8 v9 ys K m 1 l=match qej n i d l with
  | some l'=>K l'
  | none=>qnz:=by
 obtain ⟨m,rfl⟩: ∃k,m=k+1+1+1:=⟨m - 3,by omega⟩
 refine (qRO N xs ys v7 v8 v9 (s:=1) hn hi (.inl rfl) hd v6 K (m+1+1) l (by omega)).trans ?_
 unfold qej
 cases (qaq n i 1 d).2 with
 | false=>rfl
 | true=>
   simp only [cond_true]
   refine (qRO N xs ys v7 v8 v9 (s:= -1) hn hi (.inr rfl) hd v6 K (m+1) _ (by simp;omega)).trans ?_
   cases (qaq n i (-1) d).2 with
   | false=>rfl
   | true=>
     simp only [cond_true]
     rw [qgE,qi (by decide)]
theorem qSA (hN:3≤N) (hn:1≤n∧n≤2) (hd:qaQ d=true) (v6:Int) (K:List (Val qa)→Option (qb [i50,i4])): ∀(k i:Nat),(i:Int)+k=n→ ∀(m:Nat),k<m→ ∀(l:List (Val qa)),l.length≤16+2*i→
 qhD N v6 n xs d.1 d.2 v7 v8 v9 ys K m (i:Int) l=match qcd n d k i l with
  | some l'=>K l'
  | none=>qnz
 | 0,i,hi,m+1,_,l,_=>by
   rw [qhD,qi (by omega)]
   rfl
 | k+1,i,hi,m+1,hm,l,hl=>by
   have hi':(i:Int)+k+1=n:=by omega
   rw [qhD,ql (by omega)]
   refine (qUZ N xs ys v7 v8 v9 (i:=i) hn ⟨by omega,by omega⟩ hd v6 _ N hN l (by omega)).trans ?_
   simp only [qcd]
   cases hq:qej n i d l with
   | none=>rfl
   | some l'=>
     have hlen:l'.length=l.length+2:=by
      unfold qej at hq
      cases h1:(qaq n i 1 d).2 with
      | false=>rw [h1]at hq;simp at hq
      | true=>
        cases h2:(qaq n i (-1) d).2 with
        | false=>rw [h1,h2]at hq;simp at hq
        | true=>
          rw [h1,h2]at hq
          simp only [cond_true,Option.some.injEq]at hq
          subst hq;simp
     simp only
     rw [qfh (n:=2) (by omega) (by omega)]
     exact qSA hN hn hd v6 K k (i+1) (by omega) m (by omega) l' (by omega)
theorem qSg (hn:1≤n∧n≤2) (v6:Int) (K:Int→List (Val qa)→Option (qb [i50,i4])): ∀(k:Nat) (x:Val Y33),okN (2*n) x→(k:Int)≤n→ ∀m,k<m→
 qhl N v6 n xs d.1 d.2 v7 v8 ys K m (n+k - 1) x.1 x.2=match qce n k x with
  | some y=>K y.1 y.2
  | none=>qnz
 | 0,x,_,_,m+1,_=>by
   rw [qhl,qi (by omega)]
   rfl
 | k+1,x,hx,hk,m+1,hm=>by
   have e:n+((k+1:Nat):Int) - 1=n+k:=by omega
   have e2:IntKind.i64.wrap (n+(k:Int) - 1)=n+k - 1:=qaf (by omega) (by omega)
   have ex:(((x.1:Int),(x.2:List (Val qa))):Val Y33)=x:=rfl
   have hx1:(x.1:Int)=2*n:=hx.2.2
   rw [e,qhl,ql (by omega),e2,ex,qce,qe (show qnv x (n+k) from ⟨hx.1,by omega,by rw [hx1];omega⟩)]
   cases hm2:(qR x (n+k)).2 with
   | false=>rfl
   | true=>
     have hN:=qwo hx.1 hm2
     rw [hx.2.2]at hN
     simp only [Bool.not_true,cond_false,cond_true]
     exact qSg hn v6 K k _ hN (by omega) m (by omega)
theorem qXk (hn:1≤n∧n≤2) (l:List (Val qa)) (v6 v10 v11:Int) (K:List (Val qa)→Option (qb [i50,i4])) (hl:l.length≤16) (h: ∀a∈l,okD (2*n) a∧ ∀w:Int,n≤w→w<2*n→cfV w a=0) (m:Nat) (hm:l.length<m):
 qeH N v6 n xs d.1 d.2 v7 v8 v10 l v11 ys K m 0 []=K (l.map (qbP n)):=by
 refine (qaj (F:=fun m i s=>qeH N v6 n xs d.1 d.2 v7 v8 v10 l v11 ys K m i s) (step:=fun _ x s K=>chk (s.length+[qbP n x].length≤1048576) (K (s++[qbP n x]))) (k:=K) (by omega) (fun m i s hi=> ?_) (fun m i s hi=> ?_) _ [] hm).trans ?_
 ·obtain ⟨⟨ha,had⟩,hz⟩:=h _ (List.getElem_mem hi)
  obtain ⟨_,ec⟩:=qUh hn ⟨ha,had⟩ hz
  obtain ⟨h4,h5,h6⟩:=qaN ha
  have had:(List.length (α:=Int) l[i].1:Int)=2*n:=had
  have e:((List.take n.toNat (l[i].1:List Int)).drop (0:Int).toNat)=List.take n.toNat (l[i].1:List Int):=by
   show (List.take n.toNat (l[i].1:List Int)).drop 0=_
   rw [List.drop_zero]
  rw [qeH,ql (by omega),qe (by omega),qH hi,qe (show 0≤(0:Int)∧(0:Int)≤n∧n≤(List.length (α:=Int) l[i].1:Int) by omega),qe (by omega),qe (by omega),e,ec,qe (show qac (List.take n.toNat (l[i].1:List Int)) l[i].2.1 l[i].2.2 from ⟨by rw [List.length_take];omega,h5,fun x hx=>by
   have:=h6 x (List.mem_of_mem_take hx)
   exact ⟨Int.le_trans (by decide) this.1,Int.le_trans this.2 (by decide)⟩⟩)]
  all_goals rfl
 ·rw [qeH,qi (by omega)]
 ·exact (qnV (f:=qbP n) l 0 [] (by simp;omega)).trans (by simp)
end
theorem t55 (N:Nat) (hN:30≤N) {n:Int} (hn:1≤n∧n≤2) (d:Val Y28) (hd:qaQ d=true) (xs:List (Val Y33)) (v7:Int) (K:Int→List (Val Y33)→Option (qb [i50,i4])) (hl:xs.length≤12) (hp: ∀c∈xs,qD c=true∧(c.1:Int)=n): ∀(k i:Nat),i+k=xs.length→ ∀m,k<m→ ∀(r:Val Y50),List.length (α:=Val Y33) r.2≤i→
 qep N n xs d.1 d.2 v7 K m (i:Int) r.1 r.2=bif (qbt (qmB d) (xs.drop i) r).2 then K (qbt (qmB d) (xs.drop i) r).1.1 (qbt (qmB d) (xs.drop i) r).1.2 else qnz
 | 0,i,hi,m+1,_,r,_=>by
   rw [qep,qi (by omega),List.drop_eq_nil_of_le (by omega)]
   rfl
 | k+1,i,hi,m+1,hm,r,hr=>by
   have h1:i<xs.length:=by omega
   obtain ⟨hc,hcn⟩:=hp _ (List.getElem_mem h1)
   have ew:IntKind.i64.wrap ((2:Int)*n)=2*n:=(qxZ (i:=0) hn ⟨by omega,hn.1⟩ (.inl rfl) hd).1
   have ih:=fun r hr=>t55 N hN hn d hd xs v7 K hl hp k (i+1) (by omega) m (by omega) r hr
   subst hcn
   have hw:qjz xs[i] d:=⟨hc,hn,hd⟩
   obtain ⟨g1,g2,g3⟩:=qaD hc
   have hcell:= @qX2 xs[i] d hw
   rw [qep,ql (by omega),ew,qgg h1,qfh h1 (by omega)]
   simp only [qbt,qmB]
   refine (q3f N xs r.2 v7 r.1 _ hn h1 _ g2 g3 N (by omega)).trans ?_
   refine (qSA N xs r.2 v7 r.1 _ (by omega) hn hd _ _ (xs[i].1:Int).toNat 0 (qRD hn) N (Nat.lt_of_lt_of_le (qA3 hn) hN) _ (by rw [List.length_map];omega)).trans ?_
   have hmid:= @qOb xs[i] d hw
   have hwc:qbX xs[i] d=(match qcd xs[i].1 d (xs[i].1:Int).toNat 0 (List.map (α:=Val qa) (qbv xs[i].1) xs[i].2)with
    | none=>qb7
    | some l=>bif decide ((16:Int)<(l.length:Int))then qb7 else match qce xs[i].1 (xs[i].1:Int).toNat (qm (2*(xs[i].1:Int)) l)with
      | none=>qb7
      | some x=>((xs[i].1,List.map (α:=Val qa) (qbP xs[i].1) x.2),true)):=rfl
   cases hl2:qcd xs[i].1 d (xs[i].1:Int).toNat 0 (List.map (α:=Val qa) (qbv xs[i].1) xs[i].2)with
   | none=>rw [hl2]at hwc;rw [hwc];rfl
   | some l=>
     obtain ⟨m1,m2⟩:=hmid hl2
     rw [hl2]at hwc
     simp only at hwc ⊢
     by_cases h16:(16:Int)<(l.length:Int)
     ·rw [decide_eq_true h16]at hwc ⊢
      rw [hwc];rfl
     ·have h16':l.length≤16:=by omega
      rw [decide_eq_false h16]at hwc ⊢
      have hL:okL (2*(xs[i].1:Int)) l:=⟨qKI hn,by omega,m1⟩
      have ewp:IntKind.i64.wrap (2*(xs[i].1:Int) - 1)=(xs[i].1:Int)+((xs[i].1:Int).toNat:Int) - 1:=qUm hn
      simp only [cond_false]at hwc ⊢
      rw [ewp,qe (show qaK (2*(xs[i].1:Int)) l from hL)]
      refine (qSg N xs r.2 v7 r.1 hn _ _ (xs[i].1:Int).toNat _ (qtU hL (qzv h16')) (qTb hn) N (Nat.lt_of_lt_of_le (qA3 hn) hN)).trans ?_
      cases hx:qce xs[i].1 (xs[i].1:Int).toNat (qm (2*(xs[i].1:Int)) l)with
      | none=>rw [hx]at hwc;rw [hwc];rfl
      | some x=>
        rw [hx]at hwc
        obtain ⟨k1,k2⟩:=qNz hn m1 h16' hx
        have k3:=(qaD k1.1).2.1
        simp only at hwc ⊢
        refine (qXk N xs r.2 v7 r.1 hn x.2 _ _ _ _ k3 k2 N (by omega)).trans ?_
        rw [hwc]at hcell ⊢
        have hcc:=hcell rfl
        simp only [cond_true]
        generalize (((xs[i].1:Int),List.map (α:=Val qa) (qbP xs[i].1) x.2):Val Y33)=y at hcc ⊢
        obtain ⟨e1,e2⟩:=q8g hcc r
        show chk (qgO r y) (bif !(qax r y).2 then _ else qep N _ xs d.1 d.2 v7 K m _ (qax r y).1.1 (qax r y).1.2)=_
        rw [qe (show qgO r y from ⟨hcc,by omega⟩),e1]
        cases ha:(qbb r y).2 with
        | false=>rfl
        | true=>
          simp only [Bool.not_true,cond_false,cond_true]
          rw [e2 ha]
          exact ih (qbb r y).1 (by have:=qCL r y;omega)
theorem e55 (r:Val Y50) (d:Val Y28) (h:qAO r d): ∃N,m55 N r d=some ((qaP r d).1,(qaP r d).2,()):=⟨30,by
 rw [m55,qe (show qm2 r from h)]
 unfold qaP
 cases hc:qcc r with
 | false=>rfl
 | true=>
   obtain ⟨_,hl,hx⟩:=qCC hc
   simp only [Bool.not_true,cond_false,Bool.true_and]
   by_cases hn:1≤(r.1:Int)∧(r.1:Int)≤2
   ·rw [qjq hn,decide_eq_true hn]
    simp only [Bool.not_true,cond_false,Bool.true_and]
    cases hr:qaQ d with
    | false=>rfl
    | true=>
      simp only [Bool.not_true,cond_false,Bool.true_and]
      by_cases h3:(d.1:Int)<0
      ·rw [ql h3,decide_eq_false (Int.not_le.2 h3)];rfl
      ·rw [qi h3,decide_eq_true (Int.not_lt.1 h3)]
       simp only [cond_true]
       exact (t55 30 (by omega) hn d hr r.2 0 _ hl hx (List.length (α:=Val Y33) r.2) 0 (by omega) 30 (by omega) (r.1,[]) (by simp)).trans (qN7 (qmB d) r.2 (r.1,[]))
   ·rw [qkC hn,decide_eq_false hn];rfl⟩
theorem s55:Sound Tryz.prog 55 g55:=qu (tt:=tt) (Γ:=Γ55) hT (qf qWk (qf q6i (qf qmH (qf qRh (qf qtd (qf qQd qq)))))) hm (fn:=Tryz.f55) Tryz.func55 (c:=Tryz.f55.body.getD .skip) (by kernel_rfl) (by kernel_rfl) fun x hx=>by
 obtain ⟨N,h⟩:=e55 x.1 x.2.1 hx
 exact ⟨T55 N,p55,qXC (zbv zbU q0H) (qv _),q6l N,(q0j N x.1 x.2.1).trans h⟩
end Go.T
