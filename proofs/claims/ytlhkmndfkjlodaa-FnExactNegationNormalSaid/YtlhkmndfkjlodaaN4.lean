/- Negations pushed: the recursions. -/
import Derived.Test.YtlhkmndfkjlodaaN3
set_option linter.unusedSimpArgs false
set_option linter.unusedVariables false
namespace Go.T
open Go Go.Proofs
set_option maxHeartbeats 4000000
set_option maxRecDepth 100000
theorem qJY {s:ByteArray} (h:isE s=true):s=eB:=by
 unfold isE at h
 have h:ByteArray.toList s=ByteArray.toList (ByteArray.mk #[]):=by simpa using h
 have h0:ByteArray.toList (ByteArray.mk #[])=[]:=by unfold ByteArray.toList ByteArray.toList.loop;rfl
 rw [h0]at h
 unfold ByteArray.toList at h
 unfold ByteArray.toList.loop at h
 split at h
 ·rename_i hs
  exfalso
  have: ∀i r,r≠[]→ByteArray.toList.loop s i r≠[]:=by
   intro i
   induction hk:s.size - i generalizing i with
   | zero=>intro r hr;unfold ByteArray.toList.loop;rw [if_neg (by omega)];simpa using hr
   | succ k ih=>intro r hr;unfold ByteArray.toList.loop;rw [if_pos (by omega)];exact ih (i+1) (by omega) _ (by simp)
  exact this _ _ (by simp) h
 ·rename_i hs
  apply ByteArray.ext
  apply Array.eq_empty_of_size_eq_zero
  show s.size=0
  omega
theorem qS5 {a:Val Y83} (h:qcN a=true):a=noA:=by
 obtain ⟨co,c,s⟩:=a
 unfold qcN at h
 simp only [Bool.and_eq_true,decide_eq_true_eq,Bool.not_eq_true']at h
 obtain ⟨⟨h1,h2⟩,h3⟩:=h
 have h1:co=[]:=List.eq_nil_of_length_eq_zero (Int.ofNat_inj.1 h1)
 have h2:c=(0:Int):=h2
 have h3:s=false:=h3
 rw [h1,h2,h3]
theorem qgJ {K vr A B:Int} {a:Val Y83} {nm lb:ByteArray} {vs:List (Val (.int .i64))} (hb:Bd qa ((K,a,nm,lb,vs,vr,A,B):Nd)) (h1:0≤K∧K≤6) (h2:K=0→nm=eB∧lb=eB∧vs=[]∧vr=0∧A=0∧B=0)
 (h3:1<K→a=noA∧nm=eB∧lb=eB∧vs=[]) (h4:K=3∨K=4→vr=0) (h5:K=5∨K=6→B=0) (h6:K=1→A=0∧B=0):ndZ ((K,a,nm,lb,vs,vr,A,B):Nd):=by
 refine ⟨hb,h1,fun h=> ?_,fun h=> ?_,h4,h5,h6⟩
 ·have h:K=0:=h
  obtain ⟨e1,e2,e3,e4,e5,e6⟩:=h2 h
  rw [h,e1,e2,e3,e4,e5,e6]
 ·obtain ⟨e1,e2,e3,e4⟩:=h3 h
  rw [e1,e2,e3,e4]
theorem qP3 {db:List (Val qe)} {n:Nd} (hb:Bd qa n) (hn:qdy db n=true):ndZ n:=by
 obtain ⟨K,a,nm,lb,vs,vr,A,B⟩:=n
 change Int at K
 change Int at vr
 change Int at A
 change Int at B
 unfold qdy qfA qg3 at hn
 simp only [Bool.and_eq_true]at hn
 obtain ⟨⟨⟨hno,hel⟩,hbd⟩,hab⟩:=hn
 have hno:(decide (K=0)||qcN a)=true:=hno
 have hel:(decide (K=1)||(isE nm&&isE lb&& !decide ((0:Int)<(vs.length:Int))))=true:=hel
 have hbd:qhA db K a nm lb vs vr=true:=hbd
 have hab:abN K A B=true:=hab
 unfold qhA at hbd
 unfold abN at hab
 have hE: ¬K=1→nm=eB∧lb=eB∧vs=[]:=fun h1=>by
  rw [decide_eq_false h1,Bool.false_or]at hel
  simp only [Bool.and_eq_true,Bool.not_eq_true',decide_eq_false_iff_not]at hel
  obtain ⟨⟨e1,e2⟩,e3⟩:=hel
  refine ⟨qJY e1,qJY e2,List.eq_nil_of_length_eq_zero ?_⟩
  have e3: ¬(0:Int)<((List.length (α:=Int) vs:Nat):Int):=e3
  show List.length (α:=Int) vs=0
  omega
 have hA: ¬K=0→a=noA:=fun h0=>by
  rw [decide_eq_false h0,Bool.false_or]at hno
  exact qS5 hno
 rcases qjb K with rfl | rfl | rfl | rfl | rfl | rfl | rfl | ⟨k0,k1,k2,k3,k4,k5,k6⟩
 ·have hbd:(decide (vr=0)&&qfF a)=true:=hbd
  have hab:(decide (A=0)&&decide (B=0))=true:=hab
  simp only [Bool.and_eq_true,decide_eq_true_eq]at hbd hab
  obtain ⟨e1,e2,e3⟩:=hE (by decide)
  exact qgJ hb (by decide) (fun _=>⟨e1,e2,e3,hbd.1,hab⟩) (fun h=>absurd h (by decide)) (fun h=>absurd h (by decide)) (fun h=>absurd h (by decide)) (fun h=>absurd h (by decide))
 ·have hab:(decide (A=0)&&decide (B=0))=true:=hab
  simp only [Bool.and_eq_true,decide_eq_true_eq]at hab
  exact qgJ hb (by decide) (fun h=>absurd h (by decide)) (fun h=>absurd h (by decide)) (fun h=>absurd h (by decide)) (fun h=>absurd h (by decide)) (fun _=>hab)
 ·exact qgJ hb (by decide) (fun h=>absurd h (by decide)) (fun _=>⟨hA (by decide),hE (by decide)⟩) (fun h=>absurd h (by decide)) (fun h=>absurd h (by decide)) (fun h=>absurd h (by decide))
 ·have hbd:decide (vr=0)=true:=hbd
  exact qgJ hb (by decide) (fun h=>absurd h (by decide)) (fun _=>⟨hA (by decide),hE (by decide)⟩) (fun _=>of_decide_eq_true hbd) (fun h=>absurd h (by decide)) (fun h=>absurd h (by decide))
 ·have hbd:decide (vr=0)=true:=hbd
  exact qgJ hb (by decide) (fun h=>absurd h (by decide)) (fun _=>⟨hA (by decide),hE (by decide)⟩) (fun _=>of_decide_eq_true hbd) (fun h=>absurd h (by decide)) (fun h=>absurd h (by decide))
 ·have hab:decide (B=0)=true:=hab
  exact qgJ hb (by decide) (fun h=>absurd h (by decide)) (fun _=>⟨hA (by decide),hE (by decide)⟩) (fun h=>absurd h (by decide)) (fun _=>of_decide_eq_true hab) (fun h=>absurd h (by decide))
 ·have hab:decide (B=0)=true:=hab
  exact qgJ hb (by decide) (fun h=>absurd h (by decide)) (fun _=>⟨hA (by decide),hE (by decide)⟩) (fun h=>absurd h (by decide)) (fun _=>of_decide_eq_true hab) (fun h=>absurd h (by decide))
 ·rw [decide_eq_false k0,decide_eq_false k1,decide_eq_false k2,decide_eq_false k3,decide_eq_false k4,decide_eq_false k5,decide_eq_false k6]at hab
  have hab:false=true:=hab
  cases hab
theorem qIR {db:List (Val qe)}: ∀(t:List Nd) (i:Nat) (r:List Int),(∀n∈t,Bd qa n)→goF db t i r=true→ ∀n∈t,ndZ n
 | [],_,_,_,_,n,h=>by simp at h
 | x::t,i,r,hb,hg,n,h=>by
   rw [goF]at hg
   cases hn:qdy db x with
   | false=>rw [hn]at hg;cases hg
   | true=>
     rw [hn,cond_true]at hg
     split at hg
     ·rename_i r' hs
      rcases List.mem_cons.1 h with rfl | h
      ·exact qP3 (hb _ (by simp)) hn
      ·exact qIR t (i+1) r' (fun n hn=>hb n (by simp [hn])) hg n h
     ·cases hg
theorem qFH {db:List (Val qe)} {f:List Nd} (hp:qcK db f) (h:qb4 db f=true):nOk f∧1≤f.length:=by
 obtain ⟨h1,h2⟩:=qPX hp h
 refine ⟨⟨h1,?_⟩,h2⟩
 unfold qb4 at h
 simp only [Bool.and_eq_true]at h
 exact qIR f 0 [] hp.2.2 h.2
theorem qMv (n:Nd):qcj [] [n]=[n]:=by
 show []++[shN 0 n]=[n]
 rw [qHw];rfl
theorem qLP {K:Int} (h:K=3∨K=4∨K=5∨K=6):(0≤IntKind.i64.wrap (K - 3)∧IntKind.i64.wrap (K - 3)<(([(4:Int),(3:Int),(6:Int),(5:Int)]:List (Val (.int .i64))).length:Int))∧(IntKind.i64.wrap (K - 3)).toNat<([(4:Int),(3:Int),(6:Int),(5:Int)]:List (Val (.int .i64))).length∧ ∀d,([(4:Int),(3:Int),(6:Int),(5:Int)]:List (Val (.int .i64))).getD (IntKind.i64.wrap (K - 3)).toNat d=qer K:=by
 rcases h with rfl | rfl | rfl | rfl<;>exact ⟨by decide,by decide,fun _=>rfl⟩
theorem qI3 {K:Int} (h:K=3∨K=4∨K=5∨K=6) (b:Bool):(qcf (qeL b K)=2)↔(K=3∨K=4):=by
 rcases h with rfl | rfl | rfl | rfl<;>cases b<;>decide
theorem qcW (l:List Nd) (x:Nd) (h:l.length≤1000000):l.length+[x].length≤1048576:=by
 show l.length+1≤1048576
 omega
theorem e88 (k:Nat) (f:List Nd) (i:Int) (neg:Bool) (h:qeJ (k+1) f i neg): ∃n,m88 ⟨n,k⟩ f i neg=some (qq f i neg,()):=⟨0,by
 obtain ⟨hf,h0,hl,hk⟩:=h
 have hi:i.toNat<f.length:=by omega
 obtain ⟨ho,hz⟩:=nk hf hi
 rw [qvk hf neg h0 hl hi,m88,qd ⟨h0,hl⟩,qgM hi]
 generalize f[i.toNat]=n at ho hz
 obtain ⟨K,a,nm,lb,vs,vr,A,B⟩:=n
 change Int at K
 change Int at vr
 change Int at A
 change Int at B
 have hb:=hz.1
 unfold qfY
 dsimp only
 by_cases c0:K=0
 ·rw [qj c0,qj c0,qd (show qeG a from hb.2.1.1.1)]
  cases neg with
  | true=>rw [cond_true,qd (show qsZ a from hb.2.1.1.1)];rfl
  | false=>rfl
 by_cases c1:K=1
 ·obtain ⟨zA,zB⟩:=hz.2.2.2.2.2.2 c1
  have zA:A=0:=zA
  have zB:B=0:=zB
  rw [qh c0,qh c0,qj c1,qj c1,qd (show qhp [] [_] from ⟨by show 0+1≤1048576;omega,fun n hn=>by
   rw [List.mem_singleton.1 hn]
   exact ⟨hb,(show 0≤A∧A≤1048576 by omega),(show 0≤B∧B≤1048576 by omega)⟩⟩),qMv]
  cases neg with
  | true=>rw [cond_true,qd (by show 1+1≤1048576;omega)];rfl
  | false=>rfl
 rw [qh c0,qh c0,qh c1,qh c1]
 obtain ⟨hA,hB,_⟩:=qg4 ho c0 c1
 have hA:0≤A∧A<(i.toNat:Int):=hA
 have pA: ∀b,qeJ k f A b:=fun b=>⟨hf,hA.1,by omega,by omega⟩
 by_cases c2:K=2
 ·rw [qj c2,qj c2,qd (pA _)]
 rw [qh c2,qh c2]
 obtain ⟨gA,gA8⟩:=qgL hf neg hA.1 (show A<f.length by omega)
 have lA:=gA.2.1
 have hK:K=3∨K=4∨K=5∨K=6:=by have:0≤K∧K≤6:=hz.2.1;omega
 obtain ⟨w1,w2,w3⟩:=qLP hK
 by_cases c56:K=5∨K=6
 ·have e56:(decide (K=5)||decide (K=6))=true:=by rcases c56 with h | h<;>simp [h]
  rw [e56,cond_true]
  cases neg with
  | true=>
    rw [cond_true,qd w1,qd w2,qd (pA _)]
    generalize qq f A true=r at gA lA ⊢
    have hr1:=gA.1
    rcases c56 with c | c
    ·rw [qj c,w3,qew hr1 (by omega),qd (qcW _ _ (by omega))]
     rfl
    ·rw [qh (show ¬K=5 by omega),qj c,w3,qew hr1 (by omega),qd (qcW _ _ (by omega))]
     rfl
  | false=>
    rw [cond_false,qd (pA _)]
    generalize qq f A false=r at gA lA ⊢
    have hr1:=gA.1
    rcases c56 with c | c
    ·rw [qj c,qew hr1 (by omega),qd (qcW _ _ (by omega))]
     rfl
    ·rw [qh (show ¬K=5 by omega),qj c,qew hr1 (by omega),qd (qcW _ _ (by omega))]
     rfl
 ·have c5: ¬K=5:=fun h=>c56 (.inl h)
  have c6: ¬K=6:=fun h=>c56 (.inr h)
  have hB:0≤B∧B<(i.toNat:Int):=hB (k34 hz.2.1 c0 c1 c2 c5 c6)
  have pB: ∀b,qeJ k f B b:=fun b=>⟨hf,hB.1,by omega,by omega⟩
  obtain ⟨gB,gB8⟩:=qgL hf neg hB.1 (show B<f.length by omega)
  have lB:=gB.2.1
  have hap:=qRU gA gB gA8 gB8
  have e56:(decide (K=5)||decide (K=6))=false:=by rw [decide_eq_false c5,decide_eq_false c6];rfl
  rw [e56,cond_false]
  have fin: ∀(r q:List Nd),r.length+1≤8192→1≤r.length→q.length+1≤8192→1≤q.length→IntKind.i64.wrap (((qcj r q).length:Int) - 1)=(r.length:Int)+(q.length:Int) - 1∧(qcj r q).length≤1000000:=fun r q h1 h2 h3 h4=>by
   have e:(qcj r q).length=r.length+q.length:=by unfold qcj;rw [List.length_append,List.length_map]
   rw [e]
   exact ⟨(qew (by omega) (by omega)).trans (by omega),by omega⟩
  cases neg with
  | true=>
    rw [cond_true,qd w1,qd w2,qd (pA _),qh c5,qh c6,qd (pB _),qd hap]
    generalize qq f A true=r at gA lA ⊢
    generalize qq f B true=q at gB lB ⊢
    obtain ⟨f1,f2⟩:=fin r q (by omega) gA.1 (by omega) gB.1
    rw [w3,qew gA.1 (by omega),f1,qd (qcW _ _ f2)]
    rfl
  | false=>
    rw [cond_false,qd (pA _),qh c5,qh c6,qd (pB _),qd hap]
    generalize qq f A false=r at gA lA ⊢
    generalize qq f B false=q at gB lB ⊢
    obtain ⟨f1,f2⟩:=fin r q (by omega) gA.1 (by omega) gB.1
    rw [qew gA.1 (by omega),f1,qd (qcW _ _ f2)]
    rfl⟩
theorem quS: ∀k,Sound Try.prog 88 (qsO k)
 | 0=>qOY (fn:=Try.f88) Try.func88 (c:=Try.f88.body.getD .skip) (by kernel_rfl) (by kernel_rfl) fun x hx=>qWQ x.1 x.2.1 x.2.2.1 hx
 | k+1=>qz (tt:=tt) (Γ:=Γ88 k) hT (ql (quS k) (ql qHA (ql qUy qp))) hm (fn:=Try.f88) Try.func88 (c:=Try.f88.body.getD .skip) (by kernel_rfl) (by kernel_rfl) fun x hx=>by
   obtain ⟨n,h⟩:=e88 k x.1 x.2.1 x.2.2.1 hx
   exact ⟨T88 ⟨n,k⟩,p88,qVB hT (qCA (qGC qQP qzJ) (qx _)),qTV ⟨n,k⟩,(qLp ⟨n,k⟩ x.1 x.2.1 x.2.2.1).trans h⟩
theorem s88:Sound Try.prog 88 g88:=⟨(quS 0).enters,fun x hx=>by
 obtain ⟨k,hk⟩:=qRN x.1 x.2.1 x.2.2.1 hx
 exact (quS k).runs x hk⟩
end Go.T
