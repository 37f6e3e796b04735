/- Regions widened: what the functions compute. -/
import Derived.Test.YthefcjjgchekiaaGreatE26
set_option linter.unusedSimpArgs false
set_option linter.unusedVariables false
namespace Go.T
open Go Go.Proofs
set_option maxHeartbeats 4000000
set_option maxRecDepth 100000
theorem qRD {n:Int} (hn:1≤n∧n≤2):((0:Nat):Int)+(n.toNat:Int)=n:=by omega
theorem qTb {n:Int} (hn:1≤n∧n≤2):(n.toNat:Int)≤n:=by omega
theorem qA3 {n:Int} (hn:1≤n∧n≤2):n.toNat<30:=by omega
theorem qKI {n:Int} (hn:1≤n∧n≤2):0≤2*n∧2*n≤4:=by omega
theorem qUm {n:Int} (hn:1≤n∧n≤2):IntKind.i64.wrap (2*n - 1)=n+(n.toNat:Int) - 1:=by
 rw [qaf (by omega) (by omega)];omega
abbrev qnb:Option (qb [i33,i4]):=some (((0:Int),([]:List (Val qa))),false,())
theorem qZe (N:Nat) (n:Int) (hn:1≤n∧n≤2) (xs:List (Val qa)) (v6 v7 v8 v9:Int) (K:List (Val qa)→Option (qb [i33,i4])) (hl:xs.length≤16) (h: ∀a∈xs,okD n a) (m:Nat) (hm:xs.length<m):
 qiu N n xs xs.length v6 v7 v8 v9 K m 0 []=K (xs.map (qbv n)):=by
 refine (qaj (F:=fun m i s=>qiu N n xs xs.length v6 v7 v8 v9 K m i s) (step:=fun _ x s K=>chk (s.length+[qbv n x].length≤1048576) (K (s++[qbv n x]))) (k:=K) (by omega) (fun m i s hi=> ?_) (fun m i s hi=> ?_) _ [] hm).trans ?_
 ·have ha:=(h _ (List.getElem_mem hi)).1
  have h4:=(qaN ha).1
  rw [qiu,ql (by omega),qe (by omega),qH hi,qe (show qa3 _ from by show _≤1048576;omega),qe (by omega),qe (by rw [List.length_replicate];show _+List.length (α:=Int) xs[i].1≤_;omega)]
  rfl
 ·rw [qiu,qi (by omega)]
 ·exact (qnV (f:=qbv n) xs 0 [] (by simp;omega)).trans (by simp)
theorem qVT (N:Nat) (n:Int) (hn:1≤n∧n≤2) (xs:List (Val qa)) (v6 v7:Int) (K:List (Val qa)→Option (qb [i33,i4])) (hl:xs.length≤16) (h: ∀a∈xs,okD (2*n) a) (m:Nat) (hm:xs.length<m):
 qe3 N n xs.length v6 v7 xs K m 0 []=K (xs.map (qbP n)):=by
 refine (qaj (F:=fun m i s=>qe3 N n xs.length v6 v7 xs K m i s) (step:=fun _ x s K=>chk (s.length+[qbP n x].length≤1048576) (K (s++[qbP n x]))) (k:=K) (by omega) (fun m i s hi=> ?_) (fun m i s hi=> ?_) _ [] hm).trans ?_
 ·obtain ⟨ha,had⟩:=h _ (List.getElem_mem hi)
  have h4:=(qaN ha).1
  have had:(List.length (α:=Int) xs[i].1:Int)=2*n:=had
  have e:((List.take n.toNat (xs[i].1:List Int)).drop (0:Int).toNat)=List.take n.toNat (xs[i].1:List Int):=by
   show (List.take n.toNat (xs[i].1:List Int)).drop 0=_
   rw [List.drop_zero]
  rw [qe3,ql (by omega),qe (by omega),qe (by omega),qH hi,qe (show 0≤(0:Int)∧(0:Int)≤n∧n≤(List.length (α:=Int) xs[i].1:Int) by omega),e,qe (show qkl (List.take n.toNat (xs[i].1:List Int)) from by show (List.take n.toNat (xs[i].1:List Int)).length≤1048576;rw [List.length_take];omega)]
  rfl
 ·rw [qe3,qi (by omega)]
 ·exact (qnV (f:=qbP n) xs 0 [] (by simp;omega)).trans (by simp)
theorem q4V {n i s e k:Int} (hn:1≤n∧n≤2) (hi:0≤i∧i<n) (hs:s=1∨s= -1) (he:0≤e∧e≤400000000) (hk: -400000000≤k∧k≤400000000):
 IntKind.i64.wrap (2*n)=2*n∧IntKind.i64.wrap (n+i)=n+i∧IntKind.i64.wrap (s*e)=s*e∧IntKind.i64.wrap (IntKind.i64.wrap (0 - s)*e)= -s*e∧IntKind.i64.wrap (0 - k)= -k∧qac (qqR n i s e) (-k) false:=by
 have hin: ∀x∈qqR n i s e,inI x:=by
  intro x hx
  rcases List.mem_or_eq_of_mem_set hx with hx | hx
  ·rcases List.mem_or_eq_of_mem_set hx with hx | hx
   ·rw [(List.mem_replicate.1 hx).2];exact ⟨by decide,by decide⟩
   ·subst hx
    show -9223372036854775807≤s*e∧s*e≤9223372036854775807
    rcases hs with rfl | rfl<;>omega
  ·subst hx
   show -9223372036854775807≤ -s*e∧ -s*e≤9223372036854775807
   rcases hs with rfl | rfl<;>omega
 refine ⟨qaf (by omega) (by omega),qaf (by omega) (by omega),?_,?_,by rw [Int.zero_sub];exact qaf (by omega) (by omega),?_,?_,hin⟩
 ·rcases hs with rfl | rfl<;>exact qaf (by omega) (by omega)
 ·have e:IntKind.i64.wrap (0 - s)= -s:=by rw [Int.zero_sub];rcases hs with rfl | rfl<;>exact qaf (by omega) (by omega)
  rw [e]
  rcases hs with rfl | rfl<;>exact qaf (by omega) (by omega)
 ·show (((List.replicate (2*n).toNat (0:Int)).set i.toNat (s*e)).set (n+i).toNat (-s*e)).length≤1048576
  rw [List.length_set,List.length_set,List.length_replicate];omega
 ·unfold inI;omega
theorem qxZ {n i s:Int} {d:Val Y28} (hn:1≤n∧n≤2) (hi:0≤i∧i<n) (hs:s=1∨s= -1) (hd:qaQ d=true):
 IntKind.i64.wrap (2*n)=2*n∧IntKind.i64.wrap (n+i)=n+i∧IntKind.i64.wrap (s*(d.2:Int))=s*d.2∧IntKind.i64.wrap (IntKind.i64.wrap (0 - s)*(d.2:Int))= -s*d.2∧IntKind.i64.wrap (0 - (d.1:Int))= -(d.1:Int)∧qac (qqR n i s d.2) (-(d.1:Int)) false:=
 q4V hn hi hs (qR3 hd).2 (qR3 hd).1
abbrev qeS:List (Val (.int .i64)):=[(1:Int),(-1:Int)]
theorem qQ9 (N:Nat) {n i s:Int} {d:Val Y28} (v38 v39:Int) (hn:1≤n∧n≤2) (hi:0≤i∧i<n) (hs:s=1∨s= -1) (hd:qaQ d=true) {j:Nat} (hj:j<2) (hy:List.getD (α:=Val (.int .i64)) qeS (Int.toNat (j:Int)) (qc (.int .i64))=s) (K:List (Val qa)→Option (qb [i33,i4])) (m:Nat) (l:List (Val qa)) (hl:l.length≤1000):
 qgr N n i (qeS.length:Int) d.1 d.2 v38 v39 qeS K (m+1) (j:Int) l=bif (qaq n i s d).2 then qgr N n i (qeS.length:Int) d.1 d.2 v38 v39 qeS K m ((j+1:Nat):Int) (l++[(qaq n i s d).1])else qnb:=by
 obtain ⟨e1,e2,e3,e4,e5,hp⟩:=qxZ hn hi hs hd
 have el:qeS.length=2:=rfl
 have r1:(List.replicate (2*n).toNat (qc (.int .i64))).length=(2*n).toNat:=List.length_replicate
 rw [qgr,ql (by omega),qe (by omega),qe (by omega),hy,e1,e2,e3,e4,e5,qe (by omega),qe (by rw [r1];omega),qe (by rw [r1];omega),qe (by rw [List.length_set,r1];omega),qe (by rw [List.length_set,r1];omega)]
 rw [qe (show qac (((List.replicate (2*n).toNat (qc (.int .i64))).set i.toNat (s*d.2)).set (n+i).toNat (-s*d.2)) (-(d.1:Int)) false from hp),qfh hj (by omega)]
 show (bif !(qaq n i s d).2 then qnb else chk (l.length+[(qaq n i s d).1].length≤1048576) (qgr N n i (qeS.length:Int) d.1 d.2 v38 v39 qeS K m ((j+1:Nat):Int) (l++[(qaq n i s d).1])))=_
 cases (qaq n i s d).2 with
 | false=>rfl
 | true=>
   simp only [Bool.not_true,cond_false,cond_true]
   rw [qe (by simp only [List.length_singleton];omega)]
theorem q7Y (N:Nat) {n i:Int} {d:Val Y28} (v38 v39:Int) (hn:1≤n∧n≤2) (hi:0≤i∧i<n) (hd:qaQ d=true) (K:List (Val qa)→Option (qb [i33,i4])) (m:Nat) (hm:3≤m) (l:List (Val qa)) (hl:l.length≤100):
 qgr N n i (qeS.length:Int) d.1 d.2 v38 v39 qeS K m 0 l=match qej n i d l with
  | some l'=>K l'
  | none=>qnb:=by
 obtain ⟨m,rfl⟩: ∃k,m=k+1+1+1:=⟨m - 3,by omega⟩
 have t1:=qQ9 N (s:=1) (d:=d) v38 v39 hn hi (.inl rfl) hd (j:=0) (by omega) rfl K (m+1+1) l (by omega)
 refine t1.trans ?_
 unfold qej
 cases (qaq n i 1 d).2 with
 | false=>rfl
 | true=>
   simp only [cond_true]
   refine (qQ9 N (s:= -1) (d:=d) v38 v39 hn hi (.inr rfl) hd (j:=1) (by omega) rfl K (m+1) _ (by simp;omega)).trans ?_
   cases (qaq n i (-1) d).2 with
   | false=>rfl
   | true=>
     simp only [cond_true]
     rw [qgr,qi (by show ¬((1+1:Nat):Int)<(qeS.length:Int);decide)]
theorem qS1 (N:Nat) (hN:3≤N) {n:Int} {d:Val Y28} (v38 v39:Int) (hn:1≤n∧n≤2) (hd:qaQ d=true) (K:List (Val qa)→Option (qb [i33,i4])): ∀(k i:Nat),(i:Int)+k=n→ ∀(m:Nat),k<m→ ∀(l:List (Val qa)),l.length≤16+2*i→
 qhK N n d.1 d.2 v38 v39 K m (i:Int) l=match qcd n d k i l with
  | some l'=>K l'
  | none=>qnb
 | 0,i,hi,m+1,_,l,_=>by
   rw [qhK,qi (by omega)]
   rfl
 | k+1,i,hi,m+1,hm,l,hl=>by
   have hi':(i:Int)+k+1=n:=by omega
   rw [qhK,ql (by omega)]
   refine (q7Y N (n:=n) (i:=i) (d:=d) v38 v39 hn ⟨by omega,by omega⟩ hd _ N hN l (by omega)).trans ?_
   simp only [qcd]
   cases hq:qej n i d l with
   | none=>rfl
   | some l'=>
     have hlen:l'.length=l.length+2:=by
      unfold qej at hq
      cases h1:(qaq n i 1 d).2 with
      | false=>rw [h1]at hq;simp at hq
      | true=>
        cases h2:(qaq n i (-1) d).2 with
        | false=>rw [h1,h2]at hq;simp at hq
        | true=>
          rw [h1,h2]at hq
          simp only [cond_true,Option.some.injEq]at hq
          subst hq;simp
     simp only
     rw [qfh (n:=2) (by omega) (by omega)]
     exact qS1 N hN v38 v39 hn hd K k (i+1) (by omega) m (by omega) l' (by omega)
theorem q2o {d:Int} {x:Val Y33} {v:Int} (hx:okN d x) (hv:0≤v∧v<d):qbZ x v=qR x v:=by
 unfold qbZ
 rw [hx.1,hx.2.2,decide_eq_true hv];rfl
theorem qQO (N:Nat) {n:Int} (hn:1≤n∧n≤2) (v49:Int) (K:Bool→Int→List (Val qa)→Option (qb [i33,i4])) (hK: ∀a b,K false a b=qnb): ∀(k:Nat) (x:Val Y33),okN (2*n) x→(k:Int)≤n→ ∀m,k<m→
 qeT N n v49 K m true (n+k - 1) x.1 x.2=match qce n k x with
  | some y=>K true y.1 y.2
  | none=>qnb
 | 0,x,_,_,m+1,_=>by
   rw [qeT,qi (by omega)]
   rfl
 | k+1,x,hx,hk,m+1,hm=>by
   have e:n+((k+1:Nat):Int) - 1=n+k:=by omega
   have e2:IntKind.i64.wrap (n+(k:Int) - 1)=n+k - 1:=qaf (by omega) (by omega)
   have ex:(((x.1:Int),(x.2:List (Val qa))):Val Y33)=x:=rfl
   rw [e,qeT,ql (by omega),cond_true,e2,ex,q2o hx ⟨by omega,by omega⟩,qce]
   cases hm2:(qR x (n+k)).2 with
   | false=>
     obtain ⟨m,rfl⟩: ∃j,m=j+1:=⟨m - 1,by omega⟩
     simp only [cond_false]
     rw [qeT]
     by_cases hc:n≤n+(k:Int) - 1
     ·rw [ql hc];exact hK _ _
     ·rw [qi hc];exact hK _ _
   | true=>
     have hN:=qwo hx.1 hm2
     rw [hx.2.2]at hN
     simp only [cond_true]
     exact qQO N hn v49 K hK k _ hN (by omega) m (by omega)
theorem q82 (c:Val Y33) (d:Val Y28) (h:qjz c d): ∃N,qxn N c d=some ((qbX c d).1,(qbX c d).2,()):=⟨30,by
 have hmid:= @qOb c d h
 obtain ⟨hc,hn,hd⟩:=h
 obtain ⟨h1,h2,h3⟩:=qaD hc
 have ew:IntKind.i64.wrap ((2:Int)*(c.1:Int))=2*(c.1:Int):=(qxZ (i:=0) hn ⟨by omega,hn.1⟩ (.inl rfl) hd).1
 rw [qxn,ew]
 refine (qZe 30 c.1 hn c.2 d.1 d.2 0 _ _ h2 h3 30 (by omega)).trans ?_
 refine (qS1 30 (by omega) (d:=d) 0 _ hn hd _ (c.1:Int).toNat 0 (qRD hn) 30 (qA3 hn) _ (by rw [List.length_map];omega)).trans ?_
 unfold qbX
 cases hl:qcd c.1 d (c.1:Int).toNat 0 (List.map (α:=Val qa) (qbv c.1) c.2)with
 | none=>rfl
 | some l=>
   obtain ⟨m1,m2⟩:=hmid hl
   simp only
   have hL:okL (2*(c.1:Int)) l:=⟨qKI hn,by omega,m1⟩
   have ewp:IntKind.i64.wrap (2*(c.1:Int) - 1)=(c.1:Int)+((c.1:Int).toNat:Int) - 1:=qUm hn
   rw [ewp]
   by_cases h16:(16:Int)<(l.length:Int)
   ·have en:qV ((2*(c.1:Int),l):Val Y33)=qb7:=by
        unfold qV
        have:qD ((2*(c.1:Int),l):Val Y33)=false:=by
         rw [Bool.eq_false_iff]
         intro hq
         have:=(qaD hq).2.1
         have this:l.length≤16:=this
         omega
        rw [this];rfl
    rw [en,decide_eq_true h16]
    rw [show (30:Nat)=29+1 from rfl,qeT]
    cases decide ((c.1:Int)≤(c.1:Int)+((c.1:Int).toNat:Int) - 1)<;>rfl
   ·have h16':l.length≤16:=by omega
    have hci:qD ((2*(c.1:Int),l):Val Y33)=true:=qsG (qKI hn) h16' m1
    have en:qV ((2*(c.1:Int),l):Val Y33)=(qm (2*(c.1:Int)) l,true):=by unfold qV;rw [hci];rfl
    rw [en,decide_eq_false h16]
    have hN:=qtU hL (qzv h16')
    refine (qQO 30 hn 0 _ (fun _ _=>rfl) (c.1:Int).toNat (qm (2*(c.1:Int)) l) hN (qTb hn) 30 (qA3 hn)).trans ?_
    simp only [cond_false]
    cases hx:qce c.1 (c.1:Int).toNat (qm (2*(c.1:Int)) l)with
    | none=>rfl
    | some x=>
      obtain ⟨g1,g2⟩:=qNz hn m1 h16' hx
      simp only [Bool.not_true,cond_false]
      exact qVT 30 c.1 hn x.2 0 c.1 _ (qaD g1.1).2.1 (fun a ha=>(g2 a ha).1) 30 (by have:=(qaD g1.1).2.1;omega)⟩
theorem q6C:Sound Tryz.prog 153 qwg:=qu (tt:=tt) (Γ:=qaV) hT (qf qTe (qf qTd (qf qRo (qf qUO (qf qRz qq))))) hm (fn:=Tryz.f153) Tryz.func153 (c:=Tryz.f153.body.getD .skip) (by kernel_rfl) (by kernel_rfl) fun x hx=>by
 obtain ⟨N,h⟩:=q82 x.1 x.2.1 hx
 exact ⟨qaC N,q7e,qv _,zcz N,(q89 N x.1 x.2.1).trans h⟩
end Go.T
