/- Negations pushed: the functions do it. -/
import Derived.Test.YtlhkmndfkjlodaaN2
set_option linter.unusedSimpArgs false
set_option linter.unusedVariables false
namespace Go.T
open Go Go.Proofs
set_option maxHeartbeats 4000000
set_option maxRecDepth 100000
theorem qHR {A:Int} {s:Nat} (h:0≤A∧A≤1048576) (hs:s≤1048576):IntKind.i64.wrap (A+(s:Int))=A+s:=qax (by omega) (by omega)
theorem qK3 (out f:List Nd) (h:qhp out f): ∃N,qqR N out f=some (qcj out f,()):=⟨f.length+1,by
 obtain ⟨hl,hf⟩:=h
 rw [qqR,qcj]
 refine (qbA (xs:=f) (F:=fun n i s=>qep _ f (out.length:Int) _ n i s) (step:=fun _ x (s:List Nd) K=>chk (s.length+[shN out.length x].length≤1048576) (K (s++[shN out.length x]))) (k:=fun (s:List Nd)=>some (s,())) (by omega) (fun n i s hi=> ?_) (fun n i s hi=> ?_) _ out (Nat.lt_succ_self _)).trans (qDq (f:=shN out.length) (k:=fun (s:List Nd)=>(some (s,()):Option (qc [i65]))) f 0 out hl)
 ·obtain ⟨hb,hA,hB⟩:=hf _ (List.getElem_mem hi)
  rw [qep,qj (by omega),qd (by omega),qE hi,qd (by omega),qd (show qeG _ from hb.2.1.1.1),qd (by omega),qd (by rw [List.length_nil,Nat.zero_add];exact hb.2.2.2.2.1.1)]
  generalize f[i]=x at hb hA hB
  obtain ⟨K,a,nm,lb,vs,vr,A,B⟩:=x
  change Int at K
  change Int at A
  change Int at B
  have hA:0≤A∧A≤1048576:=hA
  have hB:0≤B∧B≤1048576:=hB
  unfold shN idA
  dsimp only
  rw [List.nil_append,qHR hA (by omega),qHR hB (by omega)]
  by_cases h1:1<K
  ·by_cases h3:K=3
   ·simp only [h1,h3,decide_true,cond_true,Bool.true_or]
    try rfl
   ·by_cases h4:K=4
    ·simp only [h1,h3,h4,decide_true,decide_false,cond_true,cond_false,Bool.or_true]
     try rfl
    ·simp only [h1,h3,h4,decide_true,decide_false,cond_true,cond_false,Bool.or_false]
     try rfl
  ·have h3: ¬K=3:=by omega
   have h4: ¬K=4:=by omega
   simp only [h1,h3,h4,decide_false,cond_false,Bool.or_false]
   try rfl
 ·rw [qep,qh (by omega)]⟩
theorem qQP:SoundW Try.prog 127 qCF:=qHC (tt:=tt) (Γ:=qjO) hT (ql qHA qp) hm (fn:=Try.f127) Try.func127 (c:=Try.f127.body.getD .skip) (by kernel_rfl) (by kernel_rfl) fun v x hx=>by
 obtain ⟨N,h⟩:=qK3 v x.1 hx
 exact ⟨qdX N,qWT,⟨qx _,qLn N⟩,(qSq N v x.1).trans h⟩
theorem qHw (n:Nd):shN 0 n=n:=by
 obtain ⟨K,a,nm,lb,vs,vr,A,B⟩:=n
 change Int at A
 change Int at B
 unfold shN
 dsimp only
 have eA:(A+((0:Nat):Int))=A:=by omega
 have eB:(B+((0:Nat):Int))=B:=by omega
 rw [eA,eB]
 cases decide (1<(K:Int))<;>cases (decide ((K:Int)=3)||decide ((K:Int)=4))<;>rfl
theorem qZe (s t:Nat) (n:Nd):shN s (shN t n)=shN (s+t) n:=by
 obtain ⟨K,a,nm,lb,vs,vr,A,B⟩:=n
 change Int at A
 change Int at B
 unfold shN
 dsimp only
 have eA:(A+((s+t:Nat):Int))=A+(t:Int)+(s:Int):=by omega
 have eB:(B+((s+t:Nat):Int))=B+(t:Int)+(s:Int):=by omega
 rw [eA,eB]
 cases decide (1<(K:Int))<;>cases (decide ((K:Int)=3)||decide ((K:Int)=4))<;>rfl
theorem qUf (s t:Nat) (l:List Nd):(l.map (shN t)).map (shN s)=l.map (shN (s+t)):=by
 rw [List.map_map]
 exact List.map_congr_left fun n _=>qZe s t n
theorem qXj (l:List Nd):l.map (shN 0)=l:=by
 rw [List.map_congr_left fun n _=>qHw n];exact List.map_id' l
def qfY (n:Nd) (neg:Bool) (r q:List Nd) (g:List Nd):List Nd:=
 bif decide ((n.1:Int)=0)then [((0:Int),(bif neg then (qbX n.2.1).1 else n.2.1),eB,eB,[],(0:Int),(0:Int),(0:Int))]else
 bif decide ((n.1:Int)=1)then (bif neg then [n,qoS 0]else [n])else
 bif decide ((n.1:Int)=2)then g else
 bif decide ((n.1:Int)=5)||decide ((n.1:Int)=6)then r++[(qeL neg n.1,noA,eB,eB,[],n.2.2.2.2.2.1,(r.length:Int) - 1,(0:Int))]else
 (r++q.map (shN r.length))++[(qeL neg n.1,noA,eB,eB,[],(0:Int),(r.length:Int) - 1,(r.length:Int)+(q.length:Int) - 1)]
theorem qx7 (f:List Nd) (k:Nat) (i:Int) (neg:Bool):qaq f (k+1) i neg=qfY (f.getD i.toNat (qb qa)) neg (qaq f k (f.getD i.toNat (qb qa)).2.2.2.2.2.2.1 neg) (qaq f k (f.getD i.toNat (qb qa)).2.2.2.2.2.2.2 neg) (qaq f k (f.getD i.toNat (qb qa)).2.2.2.2.2.2.1 (!neg)):=rfl
theorem qHm {n:Nd} {neg:Bool} {r q g r' q' g':List Nd} (hr: ¬(n.1:Int)=0→ ¬(n.1:Int)=1→r=r') (hg: ¬(n.1:Int)=0→ ¬(n.1:Int)=1→g=g') (hq: ¬(n.1:Int)=0→ ¬(n.1:Int)=1→ ¬(n.1:Int)=2→ ¬(n.1:Int)=5→ ¬(n.1:Int)=6→q=q'):qfY n neg r q g=qfY n neg r' q' g':=by
 unfold qfY
 by_cases c0:(n.1:Int)=0
 ·rw [qj c0,qj c0]
 by_cases c1:(n.1:Int)=1
 ·rw [qh c0,qh c0,qj c1,qj c1]
 rw [hr c0 c1,hg c0 c1]
 by_cases c2:(n.1:Int)=2
 ·rw [qh c0,qh c0,qh c1,qh c1,qj c2,qj c2]
 by_cases c5:(n.1:Int)=5
 ·rw [decide_eq_true c5,Bool.true_or,cond_true,cond_true]
 by_cases c6:(n.1:Int)=6
 ·rw [decide_eq_true c6,Bool.or_true,cond_true,cond_true]
 rw [hq c0 c1 c2 c5 c6]
theorem nk {f:List Nd} (hf:nOk f) {i:Nat} (hi:i<f.length):qg2 i f[i]∧ndZ f[i]:=⟨hf.1.2 i hi,hf.2 _ (List.getElem_mem hi)⟩
theorem k34 {K:Int} (h:0≤K∧K≤6) (c0: ¬K=0) (c1: ¬K=1) (c2: ¬K=2) (c5: ¬K=5) (c6: ¬K=6):K=3∨K=4:=by omega
theorem qjr {f:List Nd} (hf:nOk f): ∀(k k':Nat) (i:Int) (neg:Bool),0≤i→i<f.length→i<k→i<k'→qaq f k i neg=qaq f k' i neg
 | 0,_,i,_,h0,_,h,_=>by omega
 | k+1,0,i,_,h0,_,_,h=>by omega
 | k+1,k'+1,i,neg,h0,hl,h1,h2=>by
   have hi:i.toNat<f.length:=by omega
   obtain ⟨ho,hz⟩:=nk hf hi
   rw [qx7,qx7,qgM hi]
   generalize f[i.toNat]=n at ho hz
   obtain ⟨K,a,nm,lb,vs,vr,A,B⟩:=n
   change Int at K
   change Int at A
   change Int at B
   have pA: ∀c0 c1,0≤A∧A<(i.toNat:Int):=fun (c0: ¬K=0) (c1: ¬K=1)=>(qg4 ho c0 c1).1
   refine qHm (fun c0 c1=> ?_) (fun c0 c1=> ?_) (fun c0 c1 c2 c5 c6=> ?_)
   ·have:=pA c0 c1
    show qaq f k A neg=qaq f k' A neg
    exact qjr hf k k' A neg this.1 (by omega) (by omega) (by omega)
   ·have:=pA c0 c1
    show qaq f k A (!neg)=qaq f k' A (!neg)
    exact qjr hf k k' A (!neg) this.1 (by omega) (by omega) (by omega)
   ·show qaq f k B neg=qaq f k' B neg
    have hB:0≤B∧B<(i.toNat:Int):=(qg4 ho c0 c1).2.1 (k34 hz.2.1 c0 c1 c2 c5 c6)
    exact qjr hf k k' B neg hB.1 (by omega) (by omega) (by omega)
theorem qvk {f:List Nd} (hf:nOk f) {i:Int} (neg:Bool) (h0:0≤i) (hl:i<f.length) (hi:i.toNat<f.length):qq f i neg=qfY f[i.toNat] neg (qq f f[i.toNat].2.2.2.2.2.2.1 neg) (qq f f[i.toNat].2.2.2.2.2.2.2 neg) (qq f f[i.toNat].2.2.2.2.2.2.1 (!neg)):=by
 obtain ⟨ho,hz⟩:=nk hf hi
 rw [qq,qx7,qgM hi]
 generalize f[i.toNat]=n at ho hz
 obtain ⟨K,a,nm,lb,vs,vr,A,B⟩:=n
 change Int at K
 change Int at A
 change Int at B
 have pA: ∀c0 c1,0≤A∧A<(i.toNat:Int):=fun (c0: ¬K=0) (c1: ¬K=1)=>(qg4 ho c0 c1).1
 refine qHm (fun c0 c1=> ?_) (fun c0 c1=> ?_) (fun c0 c1 c2 c5 c6=> ?_)
 ·have:=pA c0 c1
  show qaq f i.toNat A neg=qaq f (A.toNat+1) A neg
  exact qjr hf _ _ A neg this.1 (by omega) (by omega) (by omega)
 ·have:=pA c0 c1
  show qaq f i.toNat A (!neg)=qaq f (A.toNat+1) A (!neg)
  exact qjr hf _ _ A (!neg) this.1 (by omega) (by omega) (by omega)
 ·show qaq f i.toNat B neg=qaq f (B.toNat+1) B neg
  have hB:0≤B∧B<(i.toNat:Int):=(qg4 ho c0 c1).2.1 (k34 hz.2.1 c0 c1 c2 c5 c6)
  exact qjr hf _ _ B neg hB.1 (by omega) (by omega) (by omega)
def ndB (m:Int) (n:Nd):Prop:=Bd qa n∧(0≤(n.2.2.2.2.2.2.1:Int)∧(n.2.2.2.2.2.2.1:Int)≤m)∧0≤(n.2.2.2.2.2.2.2:Int)∧(n.2.2.2.2.2.2.2:Int)≤m
theorem qsL {m:Int} {K:Int} {a:Val Y83} {vr A B:Int} (ha:List.length (α:=Int) a.1≤1048576) (hA:0≤A∧A≤m) (hB:0≤B∧B≤m):ndB m ((K,a,eB,eB,[],vr,A,B):Nd):=
 ⟨⟨trivial,⟨⟨ha,fun _ _=>trivial⟩,trivial,trivial⟩,(show (0:Nat)≤1048576 by decide),(show (0:Nat)≤1048576 by decide),⟨Nat.zero_le _,fun x hx=>by simp at hx⟩,trivial,trivial,trivial⟩,hA,hB⟩
theorem qM8 {m m':Int} {s:Nat} {n:Nd} (h:ndB m n) (hm:m+s≤m'):ndB m' (shN s n):=by
 obtain ⟨K,a,nm,lb,vs,vr,A,B⟩:=n
 change Int at A
 change Int at B
 obtain ⟨hb,hA,hB⟩:=h
 have hA:0≤A∧A≤m:=hA
 have hB:0≤B∧B≤m:=hB
 refine ⟨hb,?_,?_⟩
 ·show 0≤(bif decide (1<(K:Int))then A+(s:Int)else A)∧(bif decide (1<(K:Int))then A+(s:Int)else A)≤m'
  cases decide (1<(K:Int))<;>(simp only [cond_true,cond_false];omega)
 ·show 0≤(bif decide ((K:Int)=3)||decide ((K:Int)=4)then B+(s:Int)else B)∧(bif decide ((K:Int)=3)||decide ((K:Int)=4)then B+(s:Int)else B)≤m'
  cases decide ((K:Int)=3)||decide ((K:Int)=4)<;>(simp only [cond_true,cond_false];omega)
theorem qBW {m m':Int} {n:Nd} (h:ndB m n) (hm:m≤m'):ndB m' n:=by
 obtain ⟨K,a,nm,lb,vs,vr,A,B⟩:=n
 change Int at A
 change Int at B
 obtain ⟨hb,hA,hB⟩:=h
 have hA:0≤A∧A≤m:=hA
 have hB:0≤B∧B≤m:=hB
 exact ⟨hb,(show 0≤A∧A≤m' by omega),(show 0≤B∧B≤m' by omega)⟩
def qqT (m:Nat) (l:List Nd):Prop:=1≤l.length∧l.length+1≤m∧ ∀n∈l,ndB (m:Int) n
theorem qRW (a:Val Y83) (h:List.length (α:=Int) a.1≤1048576):List.length (α:=Int) (qbX a).1.1≤1048576:=by
 unfold qbX
 cases qai a with
 | false=>exact Nat.zero_le _
 | true=>
   show (List.map (α:=Int) (fun x=> -x) a.1).length≤_
   rw [List.length_map];exact h
theorem qhC {a b:Nat} (h:a≤b):2 ^ a≤2 ^ b:=Nat.pow_le_pow_right (by decide) h
theorem qzs {f:List Nd} (hf:nOk f): ∀(k:Nat) (i:Int) (neg:Bool),0≤i→i<f.length→i<k→qqT (2 ^ (i.toNat+2)) (qq f i neg)
 | 0,i,_,h0,_,h=>by omega
 | k+1,i,neg,h0,hl,hk=>by
   have hi:i.toNat<f.length:=by omega
   obtain ⟨ho,hz⟩:=nk hf hi
   have h4:4≤2 ^ (i.toNat+2):=qhC (a:=2) (by omega)
   rw [qvk hf neg h0 hl hi]
   generalize f[i.toNat]=n at ho hz
   obtain ⟨K,a,nm,lb,vs,vr,A,B⟩:=n
   change Int at K
   change Int at A
   change Int at B
   have hb:=hz.1
   have ha:List.length (α:=Int) a.1≤1048576:=hb.2.1.1.1
   unfold qfY
   dsimp only
   by_cases c0:K=0
   ·rw [qj c0]
    refine ⟨Nat.le_refl _,by show 1+1≤_;omega,fun n hn=> ?_⟩
    rw [List.mem_singleton.1 hn]
    refine qsL ?_ (by omega) (by omega)
    cases neg with
    | false=>exact ha
    | true=>exact qRW a ha
   by_cases c1:K=1
   ·rw [qh c0,qj c1]
    obtain ⟨zA,zB⟩:=hz.2.2.2.2.2.2 c1
    have zA:A=0:=zA
    have zB:B=0:=zB
    have g1:ndB ((2 ^ (i.toNat+2):Nat):Int) ((K,a,nm,lb,vs,vr,A,B):Nd):=⟨hb,(show 0≤A∧A≤_ by omega),(show 0≤B∧B≤_ by omega)⟩
    cases neg with
    | false=>
      refine ⟨Nat.le_refl _,by show 1+1≤_;omega,fun n hn=> ?_⟩
      rw [List.mem_singleton.1 hn];exact g1
    | true=>
      refine ⟨by show 1≤2;omega,by show 2+1≤_;omega,fun n hn=> ?_⟩
      rcases List.mem_cons.1 hn with rfl | hn
      ·exact g1
      ·rw [List.mem_singleton.1 hn]
       exact qsL (Nat.zero_le _) (by omega) (by omega)
   rw [qh c0,qh c1]
   obtain ⟨hA,hB,_⟩:=qg4 ho c0 c1
   have hA:0≤A∧A<(i.toNat:Int):=hA
   have gA:=fun b=>qzs hf k A b hA.1 (by omega) (by omega)
   have e2:2 ^ (i.toNat+2)=2*2 ^ (i.toNat+1):=by rw [show i.toNat+2=(i.toNat+1)+1 by omega,Nat.pow_succ];omega
   have lA:2 ^ (A.toNat+2)≤2 ^ (i.toNat+1):=qhC (by omega)
   by_cases c2:K=2
   ·rw [qj c2]
    obtain ⟨h1,h2,h3⟩:=gA (!neg)
    exact ⟨h1,by omega,fun n hn=>qBW (h3 n hn) (by omega)⟩
   rw [qh c2]
   obtain ⟨h1,h2,h3⟩:=gA neg
   generalize qq f A neg=r at h1 h2 h3
   by_cases c56:K=5∨K=6
   ·have e56:(decide (K=5)||decide (K=6))=true:=by rcases c56 with h | h<;>simp [h]
    rw [e56,cond_true]
    refine ⟨by rw [List.length_append];omega,by rw [List.length_append,List.length_singleton];omega,fun n hn=> ?_⟩
    rcases List.mem_append.1 hn with hn | hn
    ·exact qBW (h3 n hn) (by omega)
    ·rw [List.mem_singleton.1 hn]
     exact qsL (Nat.zero_le _) (by omega) (by omega)
   ·have e56:(decide (K=5)||decide (K=6))=false:=by
     rw [decide_eq_false (fun h=>c56 (.inl h)),decide_eq_false (fun h=>c56 (.inr h))];rfl
    rw [e56,cond_false]
    have hB:0≤B∧B<(i.toNat:Int):=hB (k34 hz.2.1 c0 c1 c2 (fun h=>c56 (.inl h)) (fun h=>c56 (.inr h)))
    have lB:2 ^ (B.toNat+2)≤2 ^ (i.toNat+1):=qhC (by omega)
    obtain ⟨b1,b2,b3⟩:=qzs hf k B neg hB.1 (by omega) (by omega)
    generalize qq f B neg=q at b1 b2 b3
    refine ⟨by rw [List.length_append];simp,by rw [List.length_append,List.length_append,List.length_map,List.length_singleton];omega,fun n hn=> ?_⟩
    rcases List.mem_append.1 hn with hn | hn
    ·rcases List.mem_append.1 hn with hn | hn
     ·exact qBW (h3 n hn) (by omega)
     ·obtain ⟨n',hn',rfl⟩:=List.mem_map.1 hn
      exact qM8 (b3 n' hn') (by omega)
    ·rw [List.mem_singleton.1 hn]
     exact qsL (Nat.zero_le _) (by omega) (by omega)
theorem qgL {f:List Nd} (hf:nOk f) {i:Int} (neg:Bool) (h0:0≤i) (hl:i<f.length):qqT (2 ^ (i.toNat+2)) (qq f i neg)∧2 ^ (i.toNat+2)≤8192:=by
 have:=hf.1.1
 exact ⟨qzs hf (i.toNat+1) i neg h0 hl (by omega),qhC (b:=13) (by omega)⟩
theorem qRU {m m':Nat} {r q:List Nd} (hr:qqT m r) (hq:qqT m' q) (h1:m≤8192) (h2:m'≤8192):qhp r q:=by
 refine ⟨by have:=hr.2.1;have:=hq.2.1;omega,fun n hn=> ?_⟩
 obtain ⟨hb,hA,hB⟩:=hq.2.2 n hn
 obtain ⟨K,a,nm,lb,vs,vr,A,B⟩:=n
 change Int at A
 change Int at B
 have hA:0≤A∧A≤(m':Int):=hA
 have hB:0≤B∧B≤(m':Int):=hB
 exact ⟨hb,(show 0≤A∧A≤1048576 by omega),(show 0≤B∧B≤1048576 by omega)⟩
theorem qew {n:Nat} (h1:1≤n) (h:n≤1048576):IntKind.i64.wrap ((n:Int) - 1)=(n:Int) - 1:=qax (by omega) (by omega)
end Go.T
