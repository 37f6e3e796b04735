/- Free variables of a formula. -/
import Derived.Test.YtlhkmndfkjlodaaH9
import Derived.Test.YtlhkmndfkjlodaaT12
set_option linter.unusedSimpArgs false
set_option linter.unusedVariables false
namespace Go.T
open Go Go.Proofs
set_option maxHeartbeats 4000000
set_option maxRecDepth 100000
def qg2 (i:Nat) (n:Val qa):Prop:=
 bif decide ((n.1:Int)=0)then (List.length (α:=Int) n.2.1.1=4)else
 bif decide ((n.1:Int)=1)then ((List.length (α:=Int) n.2.2.2.2.1≤1048576)∧ ∀v∈(n.2.2.2.2.1:List Int),0≤v∧v<4)else
 ((0≤(n.2.2.2.2.2.2.1:Int)∧(n.2.2.2.2.2.2.1:Int)<i)∧(bif decide ((n.1:Int)=3)||decide ((n.1:Int)=4)then 0≤(n.2.2.2.2.2.2.2:Int)∧(n.2.2.2.2.2.2.2:Int)<i else True)∧0≤(n.2.2.2.2.2.1:Int)∧(n.2.2.2.2.2.1:Int)<4)
def fOk (f:List (Val qa)):Prop:=f.length≤12∧ ∀(i:Nat) (h:i<f.length),qg2 i f[i]
theorem qPQ {i K A B:Int} {r r':List Int} (h0:0≤i) (h:stF i K A B r=some r') (hr: ∀x∈r,0≤x∧x<i):(1<K→0≤A∧A<i)∧(K=3∨K=4→0≤B∧B<i)∧ ∀x∈r',0≤x∧x<i+1:=by
 unfold stF at h
 by_cases h34:K=3∨K=4
 ·have e:(decide (K=3)||decide (K=4))=true:=by rcases h34 with h | h<;>simp [h]
  rw [e,cond_true]at h
  match r,h,hr with
  | b::a::q,h,hr=>
    by_cases hb:b=B
    ·by_cases ha:a=A
     ·have h:(bif decide (b=B)&&decide (a=A)then some (i::q)else none)=some r':=h
      rw [decide_eq_true hb,decide_eq_true ha]at h
      have h:some (i::q)=some r':=h
      cases h
      subst hb;subst ha
      refine ⟨fun _=>hr a (by simp),fun _=>hr b (by simp),fun x hx=> ?_⟩
      rcases List.mem_cons.1 hx with rfl | hx
      ·omega
      ·have:=hr x (by simp [hx]);omega
     ·have h:(bif decide (b=B)&&decide (a=A)then some (i::q)else none)=some r':=h
      rw [decide_eq_false ha,Bool.and_false]at h
      have h:(none:Option (List Int))=some r':=h
      cases h
    ·have h:(bif decide (b=B)&&decide (a=A)then some (i::q)else none)=some r':=h
     rw [decide_eq_false hb]at h
     have h:(none:Option (List Int))=some r':=h
     cases h
  | [_],h,_=>have h:(none:Option (List Int))=some r':=h;cases h
  | [],h,_=>have h:(none:Option (List Int))=some r':=h;cases h
 ·have e:(decide (K=3)||decide (K=4))=false:=by
   rw [decide_eq_false (fun h=>h34 (.inl h)),decide_eq_false (fun h=>h34 (.inr h))];rfl
  rw [e,cond_false]at h
  by_cases h1:1<K
  ·rw [decide_eq_true h1,cond_true]at h
   match r,h,hr with
   | a::q,h,hr=>
     by_cases ha:a=A
     ·have h:(bif decide (a=A)then some (i::q)else none)=some r':=h
      rw [decide_eq_true ha]at h
      have h:some (i::q)=some r':=h
      cases h
      subst ha
      refine ⟨fun _=>hr a (by simp),fun h=>absurd h h34,fun x hx=> ?_⟩
      rcases List.mem_cons.1 hx with rfl | hx
      ·omega
      ·have:=hr x (by simp [hx]);omega
     ·have h:(bif decide (a=A)then some (i::q)else none)=some r':=h
      rw [decide_eq_false ha]at h
      have h:(none:Option (List Int))=some r':=h
      cases h
   | [],h,_=>have h:(none:Option (List Int))=some r':=h;cases h
  ·rw [decide_eq_false h1,cond_false]at h
   cases h
   refine ⟨fun h=>absurd h h1,fun h=>absurd h h34,fun x hx=> ?_⟩
   rcases List.mem_cons.1 hx with rfl | hx
   ·omega
   ·have:=hr x hx;omega
theorem qNF {db:List (Val qe)} {n:Val qa} {i:Nat} {r r':List Int} (hb:Bd qa n) (hn:qdy db n=true) (h:stF (i:Int) n.1 n.2.2.2.2.2.2.1 n.2.2.2.2.2.2.2 r=some r') (hr: ∀x∈r,0≤x∧x<(i:Int)):qg2 i n∧ ∀x∈r',0≤x∧x<(i:Int)+1:=by
 obtain ⟨K,a,nm,lb,vs,vr,A,B⟩:=n
 change Int at K
 change Int at vr
 change Int at A
 change Int at B
 obtain ⟨h1,h2,h3⟩:=qPQ (Int.natCast_nonneg i) h hr
 refine ⟨?_,h3⟩
 unfold qdy qfA at hn
 simp only [Bool.and_eq_true]at hn
 obtain ⟨⟨_,hbd⟩,hab⟩:=hn
 unfold qhA at hbd
 unfold qg2
 dsimp only at h1 h2 hbd hab ⊢
 have hvl:List.length (α:=Int) vs≤1048576:=hb.2.2.2.2.1.1
 rcases qjb K with rfl | rfl | rfl | rfl | rfl | rfl | rfl | ⟨k0,k1,k2,k3,k4,k5,k6⟩
 ·have hbd:(decide (vr=0)&&qfF a)=true:=hbd
  unfold qfF at hbd
  simp only [Bool.and_eq_true,decide_eq_true_eq]at hbd
  show List.length (α:=Int) a.1=4
  exact Int.ofNat_inj.1 hbd.2.2
 ·have hbd:(decide (vr=0)&&qhL db nm lb vs)=true:=hbd
  unfold qhL at hbd
  simp only [Bool.and_eq_true]at hbd
  show (List.length (α:=Int) vs≤1048576)∧ ∀v∈(vs:List Int),0≤v∧v<4
  refine ⟨hvl,fun v hv=> ?_⟩
  have:=List.all_eq_true.1 hbd.2.2 v hv
  unfold qaa at this
  simpa using this
 ·have hbd:decide (vr=0)=true:=hbd
  have hbd:=of_decide_eq_true hbd
  show (0≤A∧A<i)∧True∧0≤vr∧vr<4
  exact ⟨h1 (by decide),trivial,by omega,by omega⟩
 ·have hbd:decide (vr=0)=true:=hbd
  have hbd:=of_decide_eq_true hbd
  show (0≤A∧A<i)∧(0≤B∧B<i)∧0≤vr∧vr<4
  exact ⟨h1 (by decide),h2 (.inl rfl),by omega,by omega⟩
 ·have hbd:decide (vr=0)=true:=hbd
  have hbd:=of_decide_eq_true hbd
  show (0≤A∧A<i)∧(0≤B∧B<i)∧0≤vr∧vr<4
  exact ⟨h1 (by decide),h2 (.inr rfl),by omega,by omega⟩
 ·have hbd:qaa vr=true:=hbd
  unfold qaa at hbd
  show (0≤A∧A<i)∧True∧0≤vr∧vr<4
  exact ⟨h1 (by decide),trivial,by simpa using hbd⟩
 ·have hbd:qaa vr=true:=hbd
  unfold qaa at hbd
  show (0≤A∧A<i)∧True∧0≤vr∧vr<4
  exact ⟨h1 (by decide),trivial,by simpa using hbd⟩
 ·unfold abN at hab
  rw [decide_eq_false k0,decide_eq_false k1,decide_eq_false k2,decide_eq_false k3,decide_eq_false k4,decide_eq_false k5,decide_eq_false k6]at hab
  have hab:false=true:=hab
  cases hab
theorem qKt {db:List (Val qe)}: ∀(t:List (Val qa)) (i:Nat) (r:List Int),(∀n∈t,Bd qa n)→goF db t i r=true→(∀x∈r,0≤x∧x<(i:Int))→ ∀(j:Nat) (h:j<t.length),qg2 (i+j) t[j]
 | [],_,_,_,_,_,j,h=>by simp at h
 | n::t,i,r,hb,hg,hr,j,h=>by
   rw [goF]at hg
   cases hn:qdy db n with
   | false=>rw [hn]at hg;cases hg
   | true=>
     rw [hn,cond_true]at hg
     cases hs:stF (i:Int) n.1 n.2.2.2.2.2.2.1 n.2.2.2.2.2.2.2 r with
     | none=>rw [hs]at hg;cases hg
     | some r'=>
       rw [hs]at hg
       obtain ⟨h1,h2⟩:=qNF (hb n (by simp)) hn hs hr
       cases j with
       | zero=>exact h1
       | succ j=>
         have:=qKt t (i+1) r' (fun n hn=>hb n (by simp [hn])) hg (fun x hx=>by have:=h2 x hx;omega) j (by simpa using h)
         rw [show i+1+j=i+(j+1) by omega]at this
         exact this
theorem qPX {db:List (Val qe)} {f:List (Val qa)} (hp:qcK db f) (h:qb4 db f=true):fOk f∧1≤f.length:=by
 unfold qb4 at h
 simp only [Bool.and_eq_true]at h
 obtain ⟨⟨_,h1⟩,h2⟩:=h
 have h1:1≤(f.length:Int)∧(f.length:Int)≤12:=of_decide_eq_true h1
 refine ⟨⟨by omega,fun i hi=> ?_⟩,by omega⟩
 have:=qKt f 0 [] hp.2.2 h2 (fun x hx=>by simp at hx) i hi
 rwa [Nat.zero_add]at this
theorem qg4 {i:Nat} {n:Val qa} (h:qg2 i n) (h0: ¬(n.1:Int)=0) (h1: ¬(n.1:Int)=1):(0≤(n.2.2.2.2.2.2.1:Int)∧(n.2.2.2.2.2.2.1:Int)<i)∧((n.1:Int)=3∨(n.1:Int)=4→0≤(n.2.2.2.2.2.2.2:Int)∧(n.2.2.2.2.2.2.2:Int)<i)∧0≤(n.2.2.2.2.2.1:Int)∧(n.2.2.2.2.2.1:Int)<4:=by
 unfold qg2 at h
 rw [decide_eq_false h0,decide_eq_false h1]at h
 obtain ⟨a,b,c⟩:=h
 refine ⟨a,fun h34=> ?_,c⟩
 have e:(decide ((n.1:Int)=3)||decide ((n.1:Int)=4))=true:=by rcases h34 with h | h<;>simp [h]
 rw [e]at b;exact b
end Go.T
