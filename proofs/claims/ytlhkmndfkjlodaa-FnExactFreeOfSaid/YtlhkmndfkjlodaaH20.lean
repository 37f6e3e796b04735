/- Free variables of a formula. -/
import Derived.Test.YtlhkmndfkjlodaaH9
import Derived.Test.YtlhkmndfkjlodaaT12
set_option linter.unusedSimpArgs false
set_option linter.unusedVariables false
namespace Go.T
open Go Go.Proofs
set_option maxHeartbeats 4000000
set_option maxRecDepth 100000
abbrev B4:=Val qHV
def qfs (i:Nat) (n:Val qb):Prop:=
 bif decide ((n.1:Int)=0)then (List.length (α:=Int) n.2.1.1=4)else
 bif decide ((n.1:Int)=1)then ((List.length (α:=Int) n.2.2.2.2.1≤1048576)∧ ∀v∈(n.2.2.2.2.1:List Int),0≤v∧v<4)else
 ((0≤(n.2.2.2.2.2.2.1:Int)∧(n.2.2.2.2.2.2.1:Int)<i)∧(bif decide ((n.1:Int)=3)||decide ((n.1:Int)=4)then 0≤(n.2.2.2.2.2.2.2:Int)∧(n.2.2.2.2.2.2.2:Int)<i else True)∧0≤(n.2.2.2.2.2.1:Int)∧(n.2.2.2.2.2.1:Int)<4)
def fOk (f:List (Val qb)):Prop:=f.length≤12∧ ∀(i:Nat) (h:i<f.length),qfs i f[i]
def b4 (p:Nat→Bool):B4:=(p 0,p 1,p 2,p 3)
def at4 (x:B4) (k:Nat):Bool:=qcc k 0 [x.1,x.2.1,x.2.2.1,x.2.2.2]
def qeN (f:List (Val qb)):Nat→Int→B4
 | 0,_=>b4 fun _=>false
 | k+1,i=>
   let n:=f.getD i.toNat (qa qb)
   bif decide ((n.1:Int)=0)then b4 fun v=> !decide ((List.getD (α:=Int) n.2.1.1 v 0)=0)else
   bif decide ((n.1:Int)=1)then b4 fun v=>List.any (α:=Int) n.2.2.2.2.1 fun x=>decide (x=(v:Int))else
   bif decide ((n.1:Int)=3)||decide ((n.1:Int)=4)then b4 fun v=>at4 (qeN f k n.2.2.2.2.2.2.1) v||at4 (qeN f k n.2.2.2.2.2.2.2) v else
   bif decide ((n.1:Int)=2)then qeN f k n.2.2.2.2.2.2.1 else b4 fun v=>at4 (qeN f k n.2.2.2.2.2.2.1) v&& !decide ((v:Int)=(n.2.2.2.2.2.1:Int))
def qu (f:List (Val qb)) (i:Int):B4:=qeN f (i.toNat+1) i
theorem qtQ {p q:Nat→Bool} (h: ∀k,k<4→p k=q k):b4 p=b4 q:=by unfold b4;rw [h 0 (by omega),h 1 (by omega),h 2 (by omega),h 3 (by omega)]
def pk (p:Nat→Bool) (j:Nat) (v:Bool):Nat→Bool:=fun k=>qao j v k (p k)
theorem qv6 (p:Nat→Bool) (j:Nat) (v:Bool) (k:Nat):pk p j v k=if j=k then v else p k:=by
 unfold pk qao
 by_cases h:j=k<;>simp [h]
theorem qsH (p:Nat→Bool) {k:Nat} (h:k<4):qcc k 0 [p 0,p 1,p 2,p 3]=p k:=by
 rcases (by omega:k=0∨k=1∨k=2∨k=3)with rfl | rfl | rfl | rfl<;>rfl
theorem qPN (p:Nat→Bool) {k:Nat} (h:k<4):at4 (b4 p) k=p k:=qsH p h
theorem qNH {i K A B:Int} {r r':List Int} (h0:0≤i) (h:stF i K A B r=some r') (hr: ∀x∈r,0≤x∧x<i):(1<K→0≤A∧A<i)∧(K=3∨K=4→0≤B∧B<i)∧ ∀x∈r',0≤x∧x<i+1:=by
 unfold stF at h
 by_cases h34:K=3∨K=4
 ·have e:(decide (K=3)||decide (K=4))=true:=by rcases h34 with h | h<;>simp [h]
  rw [e,cond_true]at h
  match r,h,hr with
  | b::a::q,h,hr=>
    by_cases hb:b=B
    ·by_cases ha:a=A
     ·have h:(bif decide (b=B)&&decide (a=A)then some (i::q)else none)=some r':=h
      rw [decide_eq_true hb,decide_eq_true ha]at h
      have h:some (i::q)=some r':=h
      cases h
      subst hb;subst ha
      refine ⟨fun _=>hr a (by simp),fun _=>hr b (by simp),fun x hx=> ?_⟩
      rcases List.mem_cons.1 hx with rfl | hx
      ·omega
      ·have:=hr x (by simp [hx]);omega
     ·have h:(bif decide (b=B)&&decide (a=A)then some (i::q)else none)=some r':=h
      rw [decide_eq_false ha,Bool.and_false]at h
      have h:(none:Option (List Int))=some r':=h
      cases h
    ·have h:(bif decide (b=B)&&decide (a=A)then some (i::q)else none)=some r':=h
     rw [decide_eq_false hb]at h
     have h:(none:Option (List Int))=some r':=h
     cases h
  | [_],h,_=>have h:(none:Option (List Int))=some r':=h;cases h
  | [],h,_=>have h:(none:Option (List Int))=some r':=h;cases h
 ·have e:(decide (K=3)||decide (K=4))=false:=by
   rw [decide_eq_false (fun h=>h34 (.inl h)),decide_eq_false (fun h=>h34 (.inr h))];rfl
  rw [e,cond_false]at h
  by_cases h1:1<K
  ·rw [decide_eq_true h1,cond_true]at h
   match r,h,hr with
   | a::q,h,hr=>
     by_cases ha:a=A
     ·have h:(bif decide (a=A)then some (i::q)else none)=some r':=h
      rw [decide_eq_true ha]at h
      have h:some (i::q)=some r':=h
      cases h
      subst ha
      refine ⟨fun _=>hr a (by simp),fun h=>absurd h h34,fun x hx=> ?_⟩
      rcases List.mem_cons.1 hx with rfl | hx
      ·omega
      ·have:=hr x (by simp [hx]);omega
     ·have h:(bif decide (a=A)then some (i::q)else none)=some r':=h
      rw [decide_eq_false ha]at h
      have h:(none:Option (List Int))=some r':=h
      cases h
   | [],h,_=>have h:(none:Option (List Int))=some r':=h;cases h
  ·rw [decide_eq_false h1,cond_false]at h
   cases h
   refine ⟨fun h=>absurd h h1,fun h=>absurd h h34,fun x hx=> ?_⟩
   rcases List.mem_cons.1 hx with rfl | hx
   ·omega
   ·have:=hr x hx;omega
theorem qLM {db:List (Val qf)} {n:Val qb} {i:Nat} {r r':List Int} (hb:Bd qb n) (hn:qfA db n=true) (h:stF (i:Int) n.1 n.2.2.2.2.2.2.1 n.2.2.2.2.2.2.2 r=some r') (hr: ∀x∈r,0≤x∧x<(i:Int)):qfs i n∧ ∀x∈r',0≤x∧x<(i:Int)+1:=by
 obtain ⟨K,a,nm,lb,vs,vr,A,B⟩:=n
 change Int at K
 change Int at vr
 change Int at A
 change Int at B
 obtain ⟨h1,h2,h3⟩:=qNH (Int.natCast_nonneg i) h hr
 refine ⟨?_,h3⟩
 unfold qfA qgB at hn
 simp only [Bool.and_eq_true]at hn
 obtain ⟨⟨_,hbd⟩,hab⟩:=hn
 unfold qnP at hbd
 unfold qfs
 dsimp only at h1 h2 hbd hab ⊢
 have hvl:List.length (α:=Int) vs≤1048576:=hb.2.2.2.2.1.1
 rcases qnk K with rfl | rfl | rfl | rfl | rfl | rfl | rfl | ⟨k0,k1,k2,k3,k4,k5,k6⟩
 ·have hbd:(decide (vr=0)&&qgJ a)=true:=hbd
  unfold qgJ at hbd
  simp only [Bool.and_eq_true,decide_eq_true_eq]at hbd
  show List.length (α:=Int) a.1=4
  exact Int.ofNat_inj.1 hbd.2.2
 ·have hbd:(decide (vr=0)&&qiz db nm lb vs)=true:=hbd
  unfold qiz at hbd
  simp only [Bool.and_eq_true]at hbd
  show (List.length (α:=Int) vs≤1048576)∧ ∀v∈(vs:List Int),0≤v∧v<4
  refine ⟨hvl,fun v hv=> ?_⟩
  have:=List.all_eq_true.1 hbd.2.2 v hv
  unfold q3 at this
  simpa using this
 ·have hbd:decide (vr=0)=true:=hbd
  have hbd:=of_decide_eq_true hbd
  show (0≤A∧A<i)∧True∧0≤vr∧vr<4
  exact ⟨h1 (by decide),trivial,by omega,by omega⟩
 ·have hbd:decide (vr=0)=true:=hbd
  have hbd:=of_decide_eq_true hbd
  show (0≤A∧A<i)∧(0≤B∧B<i)∧0≤vr∧vr<4
  exact ⟨h1 (by decide),h2 (.inl rfl),by omega,by omega⟩
 ·have hbd:decide (vr=0)=true:=hbd
  have hbd:=of_decide_eq_true hbd
  show (0≤A∧A<i)∧(0≤B∧B<i)∧0≤vr∧vr<4
  exact ⟨h1 (by decide),h2 (.inr rfl),by omega,by omega⟩
 ·have hbd:q3 vr=true:=hbd
  unfold q3 at hbd
  show (0≤A∧A<i)∧True∧0≤vr∧vr<4
  exact ⟨h1 (by decide),trivial,by simpa using hbd⟩
 ·have hbd:q3 vr=true:=hbd
  unfold q3 at hbd
  show (0≤A∧A<i)∧True∧0≤vr∧vr<4
  exact ⟨h1 (by decide),trivial,by simpa using hbd⟩
 ·unfold abN at hab
  rw [decide_eq_false k0,decide_eq_false k1,decide_eq_false k2,decide_eq_false k3,decide_eq_false k4,decide_eq_false k5,decide_eq_false k6]at hab
  have hab:false=true:=hab
  cases hab
theorem qI6 {db:List (Val qf)}: ∀(t:List (Val qb)) (i:Nat) (r:List Int),(∀n∈t,Bd qb n)→goF db t i r=true→(∀x∈r,0≤x∧x<(i:Int))→ ∀(j:Nat) (h:j<t.length),qfs (i+j) t[j]
 | [],_,_,_,_,_,j,h=>by simp at h
 | n::t,i,r,hb,hg,hr,j,h=>by
   rw [goF]at hg
   cases hn:qfA db n with
   | false=>rw [hn]at hg;cases hg
   | true=>
     rw [hn,cond_true]at hg
     cases hs:stF (i:Int) n.1 n.2.2.2.2.2.2.1 n.2.2.2.2.2.2.2 r with
     | none=>rw [hs]at hg;cases hg
     | some r'=>
       rw [hs]at hg
       obtain ⟨h1,h2⟩:=qLM (hb n (by simp)) hn hs hr
       cases j with
       | zero=>exact h1
       | succ j=>
         have:=qI6 t (i+1) r' (fun n hn=>hb n (by simp [hn])) hg (fun x hx=>by have:=h2 x hx;omega) j (by simpa using h)
         rw [show i+1+j=i+(j+1) by omega]at this
         exact this
theorem qGT {db:List (Val qf)} {f:List (Val qb)} (hp:qfx db f) (h:qcM db f=true):fOk f∧1≤f.length:=by
 unfold qcM at h
 simp only [Bool.and_eq_true]at h
 obtain ⟨⟨_,h1⟩,h2⟩:=h
 have h1:1≤(f.length:Int)∧(f.length:Int)≤12:=of_decide_eq_true h1
 refine ⟨⟨by omega,fun i hi=> ?_⟩,by omega⟩
 have:=qI6 f 0 [] hp.2.2 h2 (fun x hx=>by simp at hx) i hi
 rwa [Nat.zero_add]at this
theorem qGA {i:Nat} {n:Val qb} (h:qfs i n) (hk:(n.1:Int)=0):List.length (α:=Int) n.2.1.1=4:=by
 unfold qfs at h
 rw [decide_eq_true hk]at h;exact h
theorem qJo {i:Nat} {n:Val qb} (h:qfs i n) (hk:(n.1:Int)=1):(List.length (α:=Int) n.2.2.2.2.1≤1048576)∧ ∀v∈(n.2.2.2.2.1:List Int),0≤v∧v<4:=by
 unfold qfs at h
 rw [decide_eq_false (fun h0=>absurd (h0.symm.trans hk) (by decide)),decide_eq_true hk]at h;exact h
theorem qqs {i:Nat} {n:Val qb} (h:qfs i n) (h0: ¬(n.1:Int)=0) (h1: ¬(n.1:Int)=1):(0≤(n.2.2.2.2.2.2.1:Int)∧(n.2.2.2.2.2.2.1:Int)<i)∧((n.1:Int)=3∨(n.1:Int)=4→0≤(n.2.2.2.2.2.2.2:Int)∧(n.2.2.2.2.2.2.2:Int)<i)∧0≤(n.2.2.2.2.2.1:Int)∧(n.2.2.2.2.2.1:Int)<4:=by
 unfold qfs at h
 rw [decide_eq_false h0,decide_eq_false h1]at h
 obtain ⟨a,b,c⟩:=h
 refine ⟨a,fun h34=> ?_,c⟩
 have e:(decide ((n.1:Int)=3)||decide ((n.1:Int)=4))=true:=by rcases h34 with h | h<;>simp [h]
 rw [e]at b;exact b
theorem qqP {f:List (Val qb)} (hf:fOk f): ∀(k k':Nat) (i:Int),0≤i→i<f.length→i<k→i<k'→qeN f k i=qeN f k' i
 | 0,_,i,h0,_,h,_=>by omega
 | k+1,0,i,h0,_,_,h=>by omega
 | k+1,k'+1,i,h0,hl,h1,h2=>by
   have hi:i.toNat<f.length:=by omega
   have ho:=hf.2 i.toNat hi
   rw [qeN,qeN]
   rw [qhl hi]
   generalize f[i.toNat]=n at ho
   obtain ⟨K,a,nm,lb,vs,vr,A,B⟩:=n
   change Int at K
   change Int at vr
   change Int at A
   change Int at B
   try dsimp only
   by_cases c0:K=0
   ·rw [qj c0,qj c0]
   by_cases c1:K=1
   ·rw [qh c0,qh c0,qj c1,qj c1]
   obtain ⟨hA,hB,_⟩:=qqs ho c0 c1
   have hA:0≤A∧A<(i.toNat:Int):=hA
   have eA:=qqP hf k k' A hA.1 (by omega) (by omega) (by omega)
   rw [eA]
   by_cases c34:K=3∨K=4
   ·have hB:0≤B∧B<(i.toNat:Int):=hB c34
    have eB:=qqP hf k k' B hB.1 (by omega) (by omega) (by omega)
    rw [eB]
   ·have e:(decide (K=3)||decide (K=4))=false:=by
     rw [decide_eq_false (fun h=>c34 (.inl h)),decide_eq_false (fun h=>c34 (.inr h))];rfl
    rw [e,cond_false,cond_false]
theorem qFK {f:List (Val qb)} (hf:fOk f) {i:Int} (h0:0≤i) (hl:i<f.length):qu f i=
 let n:=f.getD i.toNat (qa qb)
 bif decide ((n.1:Int)=0)then b4 fun v=> !decide ((List.getD (α:=Int) n.2.1.1 v 0)=0)else
 bif decide ((n.1:Int)=1)then b4 fun v=>List.any (α:=Int) n.2.2.2.2.1 fun x=>decide (x=(v:Int))else
 bif decide ((n.1:Int)=3)||decide ((n.1:Int)=4)then b4 fun v=>at4 (qu f n.2.2.2.2.2.2.1) v||at4 (qu f n.2.2.2.2.2.2.2) v else
 bif decide ((n.1:Int)=2)then qu f n.2.2.2.2.2.2.1 else b4 fun v=>at4 (qu f n.2.2.2.2.2.2.1) v&& !decide ((v:Int)=(n.2.2.2.2.2.1:Int)):=by
 have hi:i.toNat<f.length:=by omega
 have ho:=hf.2 i.toNat hi
 rw [qu,qeN]
 rw [qhl hi]
 generalize f[i.toNat]=n at ho
 obtain ⟨K,a,nm,lb,vs,vr,A,B⟩:=n
 change Int at K
 change Int at vr
 change Int at A
 change Int at B
 try dsimp only
 by_cases c0:K=0
 ·rw [qj c0,qj c0]
 by_cases c1:K=1
 ·rw [qh c0,qh c0,qj c1,qj c1]
 obtain ⟨hA,hB,_⟩:=qqs ho c0 c1
 have hA:0≤A∧A<(i.toNat:Int):=hA
 have eA:qeN f i.toNat A=qu f A:=qqP hf _ _ _ hA.1 (by omega) (by omega) (by omega)
 rw [eA]
 by_cases c34:K=3∨K=4
 ·have hB:0≤B∧B<(i.toNat:Int):=hB c34
  have eB:qeN f i.toNat B=qu f B:=qqP hf _ _ _ hB.1 (by omega) (by omega) (by omega)
  rw [eB]
 ·have e:(decide (K=3)||decide (K=4))=false:=by
   rw [decide_eq_false (fun h=>c34 (.inl h)),decide_eq_false (fun h=>c34 (.inr h))];rfl
  rw [e,cond_false,cond_false]
end Go.T
