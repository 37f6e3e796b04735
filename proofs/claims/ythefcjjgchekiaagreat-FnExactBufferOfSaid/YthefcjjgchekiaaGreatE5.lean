/- Minimal cells: what the functions compute. -/
import Derived.Test.YthefcjjgchekiaaGreatE4
set_option linter.unusedSimpArgs false
set_option linter.unusedVariables false
namespace Go.T
open Go Go.Proofs
set_option maxHeartbeats 4000000
set_option maxRecDepth 100000
theorem qRY {α β:Type} (f:α→β) (l:List α) (i:Nat):(l.map f).take i++(l.map f).drop (i+1)=(l.take i++l.drop (i+1)).map f:=by
 rw [List.map_append,List.map_take,List.map_drop]
theorem qP4 {α β:Type} (f:α→β) (l:List α) (i:Nat) (h:i<l.length) (d:β) (d':α):(l.map f).getD i d=f (l.getD i d'):=by
 simp [List.getD,h]
theorem qva {α:Type} (l:List α) (i:Nat):(l.take i++l.drop (i+1)).Sublist l:=by
 rw [←List.eraseIdx_eq_take_drop_succ]
 exact List.eraseIdx_sublist ..
theorem qQV {α:Type} (l:List α) (i:Nat) (h:i<l.length):(l.take i++l.drop (i+1)).length+1=l.length:=by
 simp;omega
theorem qCF (d:Int) (vs:List (Val qa)): ∀(n i:Nat) (is:List Nat),(qcj d vs n i is).map (fun l=>l.map fun j=>vs.getD j dA)=qbF d n i (is.map fun j=>vs.getD j dA)
 | 0,_,_=>rfl
 | n+1,i,is=>by
   simp only [qcj,qbF]
   rw [List.length_map]
   by_cases h:i<is.length
   ·rw [if_pos h,if_pos h,qRY,qP4 (fun j=>vs.getD j dA) is i h dA 0]
    generalize qas (d,(is.take i++is.drop (i+1)).map fun j=>vs.getD j dA) (vs.getD (is.getD i 0) dA)=r
    cases r.2 with
    | false=>rfl
    | true=>
      cases r.1 with
      | true=>exact qCF d vs n i _
      | false=>exact qCF d vs n (i+1) is
   ·rw [if_neg h,if_neg h];rfl
theorem qLT (d:Int) (vs:List (Val qa)): ∀(n i:Nat) (is:List Nat) {r:List Nat},qcj d vs n i is=some r→r.Sublist is
 | 0,_,is,r,h=>by simp only [qcj,Option.some.injEq]at h;subst h;exact List.Sublist.refl _
 | n+1,i,is,r,h=>by
   simp only [qcj]at h
   by_cases hi:i<is.length
   ·rw [if_pos hi]at h
    generalize qas (d,(is.take i++is.drop (i+1)).map fun j=>vs.getD j dA) (vs.getD (is.getD i 0) dA)=q at h
    cases hq:q.2 with
    | false=>rw [hq]at h;simp at h
    | true=>
      rw [hq]at h
      cases hq1:q.1 with
      | true=>rw [hq1]at h;exact (qLT d vs n i _ h).trans (qva is i)
      | false=>rw [hq1]at h;exact qLT d vs n (i+1) is h
   ·rw [if_neg hi]at h
    simp only [Option.some.injEq]at h
    subst h;exact List.Sublist.refl _
theorem q6s (c:Val Y33): ∃N,qx7 N c=some ((qV c).1,(qV c).2,()):=⟨0,by
 rw [qx7]
 unfold qV
 cases hc:qD c with
 | false=>rfl
 | true=>
   simp only [Bool.not_true,cond_false,cond_true]
   rw [qe (show qaK c.1 c.2 from (qm3 hc).1)]⟩
theorem qTd:Sound Tryz.prog 215 qaX:=qu (tt:=tt) (Γ:=qAa) hT (qf qrl (qf qIW qq)) hm (fn:=Tryz.f215) Tryz.func215 (c:=Tryz.f215.body.getD .skip) (by kernel_rfl) (by kernel_rfl) fun x hx=>by
 obtain ⟨N,h⟩:=q6s x.1
 exact ⟨qgi N,q5V,qv _,qWP N,(qY5 N x.1).trans h⟩
abbrev gH (hs:List (Val (hd qa))) (j:Nat):Val (hd qa):=hs.getD j (qc (hd qa))
abbrev qJH:Option (qb [i33,i4]):=some (((0:Int),([]:List (Val qa))),false,())
theorem qKC (N:Nat) (hs:List (Val (hd qa))) (vs:List (Val qa)) (d:Int) (v5:List (Val qa)) (v6:Int) (K:Int→List (Val (hd qa))→Option (qb [i33,i4])) (hp:qdZ qa hs vs) (hl:vs.length≤16): ∀(n i:Nat) (is:List Nat),(∀j∈is,j<vs.length)→is.length≤16→i≤is.length→is.length - i<n→
 qgQ N hs vs d v5 v6 K n (i:Int) d (is.map (gH hs))=match qcj d vs n i is with
  | some r=>K d (r.map (gH hs))
  | none=>qJH
 | 0,_,_,_,_,_,h=>by omega
 | n+1,i,is,hin,h16,hi,hn=>by
   have hl2:hs.length=vs.length:=hp.1
   have e1:IntKind.i64.wrap ((i:Int)+1)=((i+1:Nat):Int):=by rw [qaf (by omega) (by omega)];omega
   have hlm:(is.map (gH hs)).length=is.length:=List.length_map ..
   rw [qgQ,qcj,e1,hlm]
   by_cases h:i<is.length
   ·have ec:ql8 ([((is.map (gH hs)).take (i:Int).toNat).drop (0:Int).toNat,((is.map (gH hs)).take ((is.length:Nat):Int).toNat).drop (((i+1:Nat):Int)).toNat]:List (Val (.slice 108 (hd qa))))=(is.take i++is.drop (i+1)).map (gH hs):=by
     rw [←qRY]
     unfold ql8
     have a1:((i:Nat):Int).toNat=i:=rfl
     have a2:((is.length:Nat):Int).toNat=is.length:=rfl
     have a3:(((i+1:Nat):Int)).toNat=i+1:=rfl
     rw [a1,a2,a3,show (0:Int).toNat=0 from rfl,List.drop_zero,←hlm,List.take_length]
     simp
    have hmem: ∀j∈is,gH hs j∈hs:=fun j hj=>by
     have hj':j<hs.length:=by rw [hl2];exact hin j hj
     show hs.getD j _∈hs
     rw [qek hj']
     exact List.getElem_mem hj'
    have hlk: ∀j∈is,lk qa hs vs (gH hs j)=vs.getD j dA:=fun j hj=>qTp hp (hin j hj)
    have hsub:=qva is i
    have eg:(is.map (gH hs)).getD (i:Int).toNat (qc (hd qa))=gH hs (is.getD i 0):=qP4 (gH hs) is i h _ 0
    have hgi:is.getD i 0∈is:=by rw [qek h];exact List.getElem_mem h
    have em:((is.take i++is.drop (i+1)).map (gH hs)).map (lk qa hs vs)=(is.take i++is.drop (i+1)).map fun j=>vs.getD j dA:=by
     rw [List.map_map]
     exact List.map_congr_left fun j hj=>hlk j (hsub.subset hj)
    have htl:=qQV is i h
    rw [ql (by omega),if_pos h,qzV,e1,hlm,qe (by omega),qe (by omega),ec]
    rw [qe (show qwI _ from ⟨by show 2≤1048576;decide,by rw [ec,List.length_map];omega⟩),qe (by omega),qe (show (i:Int).toNat<is.length from h),eg]
    rw [qe ⟨hp.2.1,fun y hy=>by
     obtain ⟨j,hj,rfl⟩:=List.mem_map.1 hy
     exact hmem j (hsub.subset hj),hmem _ hgi⟩]
    rw [show lk qa hs vs (gH hs (is.getD i 0))=vs.getD (is.getD i 0) dA from hlk _ hgi,em]
    generalize qas (d,(is.take i++is.drop (i+1)).map fun j=>vs.getD j dA) (vs.getD (is.getD i 0) dA)=r
    cases r.2 with
    | false=>rfl
    | true=>
      cases r.1 with
      | true=>exact qKC N hs vs d v5 v6 K hp hl n i _ (fun j hj=>hin j (hsub.subset hj)) (by omega) (by omega) (by omega)
      | false=>exact qKC N hs vs d v5 v6 K hp hl n (i+1) is hin h16 (by omega) (by omega)
   ·rw [qi (by omega),if_neg h]
theorem qWz {d:Int} {vs:List (Val qa)} (h: ∀a∈vs,(List.length (α:=Int) a.1:Int)=d):qcj (qLm vs) vs (vs.length+1) 0 (List.range vs.length)=qcj d vs (vs.length+1) 0 (List.range vs.length):=by
 cases vs with
 | nil=>rfl
 | cons a r=>
   have:qLm (a::r)=d:=h a (by simp)
   rw [this]
theorem qR6 {α:Type} (vs:List α) (d:α):(List.range vs.length).map (fun j=>vs.getD j d)=vs:=by
 apply List.ext_getElem
 ·simp
 ·intro i h1 h2
  simp [List.getD,h2]
theorem qVe (c:Val Y33): ∃N,qAA N c=some ((qam c).1,(qam c).2,()):=⟨List.length (α:=Val qa) (qm c.1 c.2).2+1,by
 rw [qAA]
 unfold qV qam q3
 cases hc:qD c with
 | false=>rfl
 | true=>
 obtain ⟨hd,hl,hok⟩:=qaD hc
 obtain ⟨hL,hN⟩:=qm3 hc
 obtain ⟨d,xs⟩:=c
 change Int at d
 change List (Val qa)at xs
 change 0≤d∧d≤4 at hd
 change okN d (qm d xs)at hN
 have edim:((qm d xs).1:Int)=d:=hN.2.2
 have ex:((((qm d xs).1:Int),((qm d xs).2:List (Val qa))):Val Y33)=qm d xs:=rfl
 simp only [Bool.not_true,cond_false,cond_true]
 rw [ex]
 obtain ⟨_,hnl,hnok⟩:=qaD hN.1
 generalize hx:qm d xs=x at*
 obtain ⟨dx,vs⟩:=x
 change Int at dx
 change List (Val qa)at vs
 obtain rfl:dx=d:=edim
 change vs.length≤16 at hnl
 have hdl: ∀a∈vs,(List.length (α:=Int) a.1:Int)=dx:=fun a ha=>(hnok a ha).2
 cases hk:(qat (dx,vs)).2 with
 | false=>rfl
 | true=>
   cases he:(qat (dx,vs)).1 with
   | true=>
     simp only [Bool.not_true,cond_false,cond_true]
     rw [qe (show qc8 dx from ⟨hd.1,by omega⟩)]
     first | done | rfl
   | false=>
     simp only [Bool.not_true,cond_false,cond_true]
     have hmi:=qWz hdl
     have hmm:=qCF dx vs (vs.length+1) 0 (List.range vs.length)
     rw [qR6]at hmm
     have hr:=fun r h=>qLT dx vs (vs.length+1) 0 (List.range vs.length) (r:=r) h
     obtain ⟨hs0,g0⟩:=qRJ qa vs
     refine qyp ⟨([],hs0),g0⟩ fun p hp=> ?_
     obtain ⟨F,hs⟩:=p
     have hp:qdZ qa hs vs:=hp
     have hl2:hs.length=vs.length:=hp.1
     have est:(List.range vs.length).map (gH hs)=hs:=by rw [←hl2];exact qR6 hs _
     have t:=fun K=>qKC (vs.length+1) hs vs dx xs 0 K hp hnl (vs.length+1) 0 (List.range vs.length) (fun j hj=>List.mem_range.1 hj) (by simp;omega) (by simp) (by simp)
     rw [est]at t
     refine (t _).trans ?_
     have em:qbF dx (vs.length+1) 0 vs=(qcj dx vs (vs.length+1) 0 (List.range vs.length)).map (fun l=>l.map fun j=>vs.getD j dA):=hmm.symm
     show _=some ((match qbF dx (vs.length+1) 0 vs with | some l=>((dx,l),true) | none=>qb7).1,(match qbF dx (vs.length+1) 0 vs with | some l=>((dx,l),true) | none=>qb7).2,())
     rw [em]
     cases hm:qcj dx vs (vs.length+1) 0 (List.range vs.length)with
     | none=>rfl
     | some r=>
       have hsub:=hr r hm
       have hS:qeE vs=r:=by unfold qeE;rw [hmi,hm];rfl
       dsimp only [Option.map_some]
       rw [hS,qe ⟨rfl,hsub.nodup List.nodup_range,fun i hi=>List.mem_range.1 (hsub.subset hi),hp.2.1,hl2⟩]⟩
theorem q2G:Sound Tryz.prog 138 qw7:=qu (tt:=tt) (Γ:=qcE) hT (qf qRQ (qf qT1 (qf qTd (qf qWu (qf q4P qq))))) hm (fn:=Tryz.f138) Tryz.func138 (c:=Tryz.f138.body.getD .skip) (by kernel_rfl) (by kernel_rfl) fun x hx=>by
 obtain ⟨N,h⟩:=qVe x.1
 exact ⟨qbJ N,qXj,qv _,q8S N,(q9j N x.1).trans h⟩
theorem q8H (c:Val Y33) (h:qlh c): ∃N,qAx N c=some (cpC c,()):=⟨List.length (α:=Val qa) c.2+1,by
 obtain ⟨d,xs⟩:=c
 change Int at d
 change List (Val qa)at xs
 obtain ⟨-,h1,h2⟩:=h
 replace h1:xs.length≤1048576:=h1
 rw [qAx,cpC]
 refine (qaj (F:=fun n i s=>qlr _ d xs 0 d _ n i s) (step:=fun _ x s K=>chk (s.length+[x].length≤1048576) (K (s++[x]))) (k:=fun s=>some ((d,s),())) h1 (fun n i s hi=> ?_) (fun n i s hi=> ?_) _ [] (Nat.lt_succ_self _)).trans ?_
 ·rw [qlr,ql (by omega),qe (by omega),qH hi,qe (show qa3 _ from (h2 _ (List.getElem_mem hi)).1.1)]
  rfl
 ·rw [qlr,qi (by omega)]
 ·exact (qnV (f:=fun x=>x) xs 0 [] (by simpa using h1)).trans (by simp)⟩
theorem q81:Sound Tryz.prog 210 qiE:=qu (tt:=tt) (Γ:=qm4) hT (qf qQi qq) hm (fn:=Tryz.f210) Tryz.func210 (c:=Tryz.f210.body.getD .skip) (by kernel_rfl) (by kernel_rfl) fun x hx=>by
 obtain ⟨N,h⟩:=q8H x.1 hx
 exact ⟨qdJ N,qYw,qv _,qZV N,(q1v N x.1).trans h⟩
theorem qTT {d:Int} {l:List (Val qa)} (h: ∀a∈l,okD d a) (hl:l.length≤1048576):Bd Y33 ((d,l):Val Y33):=
 ⟨trivial,hl,fun a ha=>⟨⟨by have:=(qaN (h a ha).1).1;show List.length (α:=Int) a.1≤1048576;omega,fun _ _=>trivial⟩,trivial,trivial⟩⟩
theorem qYd {d:Int} {a:Val qa} (h:okD d a):qa3 a:=by
 have:=(qaN h.1).1
 show List.length (α:=Int) a.1≤1048576
 omega
theorem qPe (N:Nat) (d:Int) (v3:List (Val qa)) (v4:Int) (K:Int→List (Val qa)→Option (qb [i33,i4])): ∀(n i:Nat) (l:List (Val qa)),(∀a∈l,okD d a)→l.length≤16→i≤l.length→l.length - i<n→
 qgU N d v3 v4 K n (i:Int) d l=match qbF d n i l with
  | some r=>K d r
  | none=>qJH
 | 0,_,_,_,_,_,h=>by omega
 | n+1,i,l,hok,h16,hi,hn=>by
   have e1:IntKind.i64.wrap ((i:Int)+1)=((i+1:Nat):Int):=by rw [qaf (by omega) (by omega)];omega
   rw [qgU,qbF,e1]
   by_cases h:i<l.length
   ·have a1:((i:Nat):Int).toNat=i:=rfl
    have a2:((l.length:Nat):Int).toNat=l.length:=rfl
    have a3:(((i+1:Nat):Int)).toNat=i+1:=rfl
    have ec:([]:List (Val qa))++(l.take i).drop 0++(l.take l.length).drop (i+1)=l.take i++l.drop (i+1):=by
     rw [List.take_length,List.drop_zero,List.nil_append]
    have hsub:=qva l i
    have htl:=qQV l i h
    have hok': ∀a∈l.take i++l.drop (i+1),okD d a:=fun a ha=>hok a (hsub.subset ha)
    have hgi:l.getD i dA∈l:=by rw [qek h];exact List.getElem_mem h
    have hlen1:(l.take i).length≤16:=by rw [List.length_take];omega
    have hlen2:(l.drop (i+1)).length≤16:=by rw [List.length_drop];omega
    rw [ql (by omega),if_pos h,qx2,e1,a1,a2,a3,show (0:Int).toNat=0 from rfl,qe (by omega),qe (by rw [List.drop_zero,List.length_nil];omega),qe (by omega),qe (by rw [List.take_length,List.drop_zero,List.nil_append];omega),ec,qe (by omega),qe h]
    rw [qe (show qqI (d,l.take i++l.drop (i+1)) (l.getD i dA) from ⟨by show List.length (α:=Val qa) (l.take i++l.drop (i+1))≤1048576;omega,qYd (hok _ hgi)⟩)]
    rw [qe (show qlh (d,l.take i++l.drop (i+1)) from qTT hok' (by omega))]
    show _=match (bif (qas (d,l.take i++l.drop (i+1)) (l.getD i dA)).2 then _ else _)with | some r=>K d r | none=>qJH
    generalize hr:qas (d,l.take i++l.drop (i+1)) (l.getD i dA)=r
    cases r.2 with
    | false=>rfl
    | true=>
      cases r.1 with
      | true=>exact qPe N d v3 v4 K n i (l.take i++l.drop (i+1)) hok' (by omega) (by omega) (by omega)
      | false=>exact qPe N d v3 v4 K n (i+1) l hok h16 (by omega) (by omega)
   ·rw [qi (by omega),if_neg h]
theorem q9B (x:Val Y33) (h:qzy x): ∃N,qxg N x=some ((q3 x).1,(q3 x).2,()):=⟨List.length (α:=Val qa) x.2+1,by
 have h:qD x=true:=h
 obtain ⟨hd,hl,hok⟩:=qaD h
 obtain ⟨d,l⟩:=x
 change Int at d
 change List (Val qa)at l
 change 0≤d∧d≤4 at hd
 change l.length≤16 at hl
 rw [qxg,qe (show qrw (d,l) from by show l.length≤1048576;omega)]
 unfold q3
 cases hk:(qat (d,l)).2 with
 | false=>rfl
 | true=>
   cases he:(qat (d,l)).1 with
   | true=>
     simp only [Bool.not_true,cond_false,cond_true]
     rw [qe (show qc8 d from ⟨hd.1,by omega⟩)]
     first | done | rfl
   | false=>
     simp only [Bool.not_true,cond_false,cond_true]
     rw [qe (show qlh (d,l) from qTT hok (by omega))]
     refine (qPe _ d l 0 _ (l.length+1) 0 l hok hl (by omega) (by omega)).trans ?_
     show _=some ((match qbF d (l.length+1) 0 l with | some l=>((d,l),true) | none=>qb7).1,(match qbF d (l.length+1) 0 l with | some l=>((d,l),true) | none=>qb7).2,())
     cases qbF d (l.length+1) 0 l<;>rfl⟩
theorem q7B:Sound Tryz.prog 217 qyN:=qu (tt:=tt) (Γ:=qen) hT (qf qS7 (qf qSn (qf q81 (qf q7u qq)))) hm (fn:=Tryz.f217) Tryz.func217 (c:=Tryz.f217.body.getD .skip) (by kernel_rfl) (by kernel_rfl) fun x hx=>by
 obtain ⟨N,h⟩:=q9B x.1 hx
 exact ⟨qbL N,q4T,qv _,q5B N,(q4c N x.1).trans h⟩
end Go.T
