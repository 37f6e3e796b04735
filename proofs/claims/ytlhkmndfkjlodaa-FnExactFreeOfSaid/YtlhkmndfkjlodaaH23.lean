/- Free variables: the reference's function gives them. -/
import Derived.Test.YtlhkmndfkjlodaaH22
set_option linter.unusedSimpArgs false
set_option linter.unusedVariables false
namespace Go.T
open Go Go.Proofs
set_option maxHeartbeats 4000000
set_option maxRecDepth 100000
abbrev LB:=List (Val .bool)
def bl (p:Nat→Bool):LB:=[p 0,p 1,p 2,p 3]
def blB (x:B4):LB:=bl (at4 x)
theorem qqM (p:Nat→Bool) {k:Nat} (h:k<4) (d:Val .bool):(bl p).getD k d=p k:=by
 rcases (by omega:k=0∨k=1∨k=2∨k=3)with rfl | rfl | rfl | rfl<;>rfl
theorem quU (p:Nat→Bool) {k:Nat} (h:k<(bl p).length):(bl p)[k]=p k:=by
 have h4:k<4:=h
 rcases (by omega:k=0∨k=1∨k=2∨k=3)with rfl | rfl | rfl | rfl<;>rfl
theorem qKm (p:Nat→Bool) {k:Nat} (h:k<4) (v:Bool):(bl p).set k v=bl (pk p k v):=by
 rcases (by omega:k=0∨k=1∨k=2∨k=3)with rfl | rfl | rfl | rfl<;>rfl
theorem qrO {p q:Nat→Bool} (h: ∀k,k<4→p k=q k):bl p=bl q:=by unfold bl;rw [h 0 (by omega),h 1 (by omega),h 2 (by omega),h 3 (by omega)]
theorem qkY (p:Nat→Bool):blB (b4 p)=bl p:=qrO fun k hk=>qPN p hk
def frA (f:List (Val qb)) (i:Nat):List LB:=(List.range f.length).map fun j=>bif decide (j<i)then blB (qu f (j:Int))else []
theorem qpN (f:List (Val qb)) (i:Nat):(frA f i).length=f.length:=by simp [frA]
theorem qsz {f:List (Val qb)} {i j:Nat} (h:j<i) (hl:j<f.length) (d:LB):(frA f i).getD j d=blB (qu f (j:Int)):=by
 unfold frA
 rw [qhl (by simpa using hl)]
 simp [h]
theorem qRX {f:List (Val qb)} {i:Nat} (hl:i<f.length):(frA f i).set i (blB (qu f (i:Int)))=frA f (i+1):=by
 apply List.ext_getElem
 ·simp [frA]
 ·intro k h1 h2
  rw [List.getElem_set]
  have hk:k<f.length:=by simpa [frA] using h2
  by_cases e:i=k
  ·subst e
   simp [frA]
  ·rw [if_neg e]
   simp only [frA,List.getElem_map,List.getElem_range]
   by_cases hlt:k<i
   ·rw [decide_eq_true hlt,decide_eq_true (show k<i+1 by omega)]
   ·rw [decide_eq_false hlt,decide_eq_false (show ¬k<i+1 by omega)]
theorem qJJ (f:List (Val qb)):frA f 0=List.replicate f.length []:=by
 apply List.ext_getElem
 ·simp [frA]
 ·intro k h1 h2
  simp [frA]
theorem qLp (N:Nat) (f:List (Val qb)) (i:Nat) (hi:i<f.length) (fr:List LB) (K:LB→Option (qc [i27,i4])) (hc:List.length (α:=Int) f[i].2.1.1=4) (n:Nat) (hn:4<n):
 qgD N f (i:Int) fr K n 0 (List.replicate 4 (qa .bool))=K (bl fun v=> !decide ((List.getD (α:=Int) f[i].2.1.1 v 0)=0)):=by
 refine qha (xs:=bl fun v=> !decide ((List.getD (α:=Int) f[i].2.1.1 v 0)=0)) (F:=fun n i' s=>qgD N f (i:Int) fr K n i' s) (k:=K) (qa .bool) (show (4:Nat)≤1048576 by decide) (fun n k s hk hs=> ?_) (fun n k s hk=> ?_) n hn
 ·have hk4:k<4:=hk
  have hs4:s.length=4:=hs
  rw [quU]
  generalize hf:f[i]=x at hc ⊢
  obtain ⟨Kd,a,nm,lb,vs,vr,A,B⟩:=x
  rw [qgD,qj (by omega),qd (by omega),qA hi,hf]
  dsimp only
  have hc:List.length (α:=Int) a.1=4:=hc
  rw [qd (show 0≤(k:Int)∧(k:Int)<(List.length (α:=Int) a.1:Int) by omega),qd (by omega),qd (by omega),Int.toNat_natCast]
  rfl
 ·have hk4:4≤k:=hk
  rw [qgD,qh (by omega)]
theorem qR9 (N:Nat) (f:List (Val qb)) (i:Nat) (hi:i<f.length) (fr:List LB) (K:LB→Option (qc [i27,i4])) (hv:(List.length (α:=Int) f[i].2.2.2.2.1≤1048576)∧ ∀v∈(f[i].2.2.2.2.1:List Int),0≤v∧v<4) (n:Nat) (hn:List.length (α:=Int) f[i].2.2.2.2.1<n):
 qgN N f (i:Int) fr K n 0 (List.replicate 4 (qa .bool))=K (bl fun v=>List.any (α:=Int) f[i].2.2.2.2.1 fun x=>decide (x=(v:Int))):=by
 generalize hf:f[i]=x at hv hn ⊢
 obtain ⟨Kd,a,nm,lb,vs,vr,A,B⟩:=x
 have hvl:vs.length≤1048576:=hv.1
 have hvx: ∀v∈(vs:List Int),0≤v∧v<4:=hv.2
 have hn:vs.length<n:=hn
 have e:(List.replicate 4 (qa .bool):LB)=bl fun _=>false:=rfl
 rw [e]
 dsimp only
 refine (qam (xs:=(vs:List (Val (.int .i64)))) (F:=fun n i' (p:Nat→Bool)=>qgN N f (i:Int) fr K n i' (bl p)) (step:=fun _ x p K'=>K' (pk p (Int.toNat x) true)) (k:=fun q=>K (bl q)) hvl (fun n j p hj=> ?_) (fun n j p hj=> ?_) n (fun _=>false) hn).trans ((qxA (f:=fun (p:Nat→Bool) (x:Val (.int .i64))=>pk p (Int.toNat x) true) vs 0 _).trans ?_)
 ·have hb:0≤(vs[j]:Int)∧(vs[j]:Int)<(4:Int):=hvx vs[j] (List.getElem_mem hj)
  rw [qgN,qd (by omega),qA hi,hf]
  dsimp only
  rw [qj (by omega),qd (by omega),qd (by omega),qA hj]
  generalize vs[j]=x at hb
  change Int at x
  have hb:0≤x∧x<4:=hb
  have hlen:(bl p).length=4:=rfl
  rw [qd (show 0≤x∧x<((bl p).length:Int) by omega),qd (show x.toNat<(bl p).length by omega),qKm p (by omega)]
 ·rw [qgN,qd (by omega),qA hi,hf]
  dsimp only
  rw [qh (by omega)]
 ·show K _=K _
  congr 1
  exact qrO fun k hk=>(qDT vs (fun _=>false) k fun x h=>(hvx x h).1).trans (Bool.false_or _)
theorem qTN (N:Nat) (f:List (Val qb)) (i:Nat) (hi:i<f.length) (K:LB→Option (qc [i27,i4])) (hA:0≤(f[i].2.2.2.2.2.2.1:Int)∧(f[i].2.2.2.2.2.2.1:Int)<(i:Int)) (hB:0≤(f[i].2.2.2.2.2.2.2:Int)∧(f[i].2.2.2.2.2.2.2:Int)<(i:Int)) (n:Nat) (hn:4<n):
 qfo N f (i:Int) (frA f i) K n 0 (List.replicate 4 (qa .bool))=K (bl fun v=>at4 (qu f f[i].2.2.2.2.2.2.1) v||at4 (qu f f[i].2.2.2.2.2.2.2) v):=by
 generalize hf:f[i]=x at hA hB ⊢
 obtain ⟨Kd,a,nm,lb,vs,vr,A,B⟩:=x
 change Int at A
 change Int at B
 have hA:0≤A∧A<(i:Int):=hA
 have hB:0≤B∧B<(i:Int):=hB
 dsimp only
 refine qha (xs:=bl fun v=>at4 (qu f A) v||at4 (qu f B) v) (F:=fun n i' s=>qfo N f (i:Int) (frA f i) K n i' s) (k:=K) (qa .bool) (show (4:Nat)≤1048576 by decide) (fun n k s hk hs=> ?_) (fun n k s hk=> ?_) n hn
 ·have hk4:k<4:=hk
  have hs4:s.length=4:=hs
  have hl:=qpN f i
  have gA: ∀d,(frA f i).getD A.toNat d=blB (qu f A):=fun d=>by
   have:=qsz (f:=f) (i:=i) (j:=A.toNat) (by omega) (by omega) d
   rwa [Int.toNat_of_nonneg hA.1]at this
  have gB: ∀d,(frA f i).getD B.toNat d=blB (qu f B):=fun d=>by
   have:=qsz (f:=f) (i:=i) (j:=B.toNat) (by omega) (by omega) d
   rwa [Int.toNat_of_nonneg hB.1]at this
  have l4: ∀x:B4,(blB x).length=4:=fun _=>rfl
  rw [quU,qfo,qj (by omega),qd (by omega),qA hi,hf]
  dsimp only
  rw [qd (show 0≤A∧A<((frA f i).length:Int) by omega),qd (show A.toNat<(frA f i).length by omega),gA,qd (show 0≤(k:Int)∧(k:Int)<((blB (qu f A)).length:Int) by rw [l4];omega),Int.toNat_natCast,blB,qqM _ hk4]
  cases e:at4 (qu f A) k with
  | true=>
    rw [cond_true,qd (by omega),qd (by omega)];rfl
  | false=>
    rw [cond_false,qd (by omega),qd (show 0≤B∧B<((frA f i).length:Int) by omega),qd (show B.toNat<(frA f i).length by omega),gB,qd (show 0≤(k:Int)∧(k:Int)<((blB (qu f B)).length:Int) by rw [l4];omega),qd (by omega),qd (by omega),blB,qqM _ hk4]
    rfl
 ·have hk4:4≤k:=hk
  rw [qfo,qh (by omega)]
theorem qOF (N:Nat) (f:List (Val qb)) (i:Nat) (hi:i<f.length) (K:LB→Option (qc [i27,i4])) (hA:0≤(f[i].2.2.2.2.2.2.1:Int)∧(f[i].2.2.2.2.2.2.1:Int)<(i:Int)) (n:Nat) (hn:4<n):
 qfh N f (i:Int) (frA f i) K n 0 (List.replicate 4 (qa .bool))=K (bl fun v=>at4 (qu f f[i].2.2.2.2.2.2.1) v&&(decide ((f[i].1:Int)=(2:Int))|| !decide ((v:Int)=(f[i].2.2.2.2.2.1:Int)))):=by
 generalize hf:f[i]=x at hA ⊢
 obtain ⟨Kd,a,nm,lb,vs,vr,A,B⟩:=x
 change Int at A
 change Int at Kd
 change Int at vr
 have hA:0≤A∧A<(i:Int):=hA
 dsimp only
 refine qha (xs:=bl fun v=>at4 (qu f A) v&&(decide (Kd=(2:Int))|| !decide ((v:Int)=vr))) (F:=fun n i' s=>qfh N f (i:Int) (frA f i) K n i' s) (k:=K) (qa .bool) (show (4:Nat)≤1048576 by decide) (fun n k s hk hs=> ?_) (fun n k s hk=> ?_) n hn
 ·have hk4:k<4:=hk
  have hs4:s.length=4:=hs
  have hl:=qpN f i
  have gA: ∀d,(frA f i).getD A.toNat d=blB (qu f A):=fun d=>by
   have:=qsz (f:=f) (i:=i) (j:=A.toNat) (by omega) (by omega) d
   rwa [Int.toNat_of_nonneg hA.1]at this
  have l4: ∀x:B4,(blB x).length=4:=fun _=>rfl
  rw [quU,qfh,qj (by omega),qd (by omega),qA hi,hf]
  dsimp only
  rw [qd (show 0≤A∧A<((frA f i).length:Int) by omega),qd (show A.toNat<(frA f i).length by omega),gA,qd (show 0≤(k:Int)∧(k:Int)<((blB (qu f A)).length:Int) by rw [l4];omega),Int.toNat_natCast,blB,qqM _ hk4]
  cases e:at4 (qu f A) k with
  | true=>
    rw [cond_true,qd (by omega)]
    by_cases c2:Kd=2
    ·rw [qj c2,qd (by omega),qd (by omega),decide_eq_true c2];rfl
    ·rw [qh c2,qd (by omega),qd (by omega),qd (by omega),decide_eq_false c2];rfl
  | false=>
    rw [cond_false,qd (by omega),qd (by omega)];rfl
 ·have hk4:4≤k:=hk
  rw [qfh,qh (by omega)]
theorem qII (N:Nat) (hN:1048577≤N) (f:List (Val qb)) (hf:fOk f) (K:List LB→Option (qc [i27,i4])): ∀(k i:Nat),i+k=f.length→ ∀n,k<n→
 qco N f K n (i:Int) (frA f i)=K (frA f f.length)
 | 0,i,hi,n+1,_=>by
   have e:i=f.length:=by omega
   subst e
   rw [qco,qh (by omega)]
 | k+1,i,hi,n+1,hn=>by
   have hlt:i<f.length:=by omega
   have h12:=hf.1
   have ho:=hf.2 i hlt
   have ih:=qII N hN f hf K k (i+1) (by omega) n (by omega)
   have hlen:=qpN f i
   have e4:(List.replicate (4:Int).toNat (qa .bool):LB)=List.replicate 4 (qa .bool):=rfl
   have hfr:=qFK hf (i:=(i:Int)) (by omega) (by omega)
   have fin: ∀l:LB,blB (qu f (i:Int))=l→chk (0≤(i:Int)∧(i:Int)<((frA f i).length:Int)) (chk ((i:Int).toNat<(frA f i).length) (qco N f K n (IntKind.i64.wrap ((i:Int)+1)) ((frA f i).set (i:Int).toNat l)))=K (frA f f.length):=fun l hl=>by
    rw [qd (by omega),qd (by rw [Int.toNat_natCast];omega),qhb hlt (by omega),Int.toNat_natCast,←hl,qRX hlt]
    exact ih
   rw [qco,qj (by omega),qd (by decide),qd (by omega),qA hlt,e4]
   rw [qA hlt]at hfr
   have tA:=qLp N f i hlt (frA f i)
   have tB:=qR9 N f i hlt (frA f i)
   have tC:=qTN N f i hlt
   have tD:=qOF N f i hlt
   generalize hx:f[i]=x at ho hfr tA tB tC tD ⊢
   obtain ⟨Kd,a,nm,lb,vs,vr,A,B⟩:=x
   change Int at Kd
   change Int at vr
   change Int at A
   change Int at B
   dsimp only at hfr tA tB tC tD ⊢
   by_cases c0:Kd=0
   ·rw [qj c0]
    rw [qj c0]at hfr
    refine (tA _ (qGA ho c0) N (by omega)).trans (fin _ ?_)
    rw [hfr,qkY]
   rw [qh c0]
   rw [qh c0]at hfr
   by_cases c1:Kd=1
   ·rw [qj c1]
    rw [qj c1]at hfr
    have hv:=qJo ho c1
    have hvl:List.length (α:=Int) vs≤1048576:=hv.1
    refine (tB _ hv N (by omega)).trans (fin _ ?_)
    rw [hfr,qkY]
   rw [qh c1]
   rw [qh c1]at hfr
   obtain ⟨hA,hB,hv⟩:=qqs ho c0 c1
   by_cases c3:Kd=3
   ·rw [qj c3]
    rw [decide_eq_true c3,Bool.true_or,cond_true]at hfr
    refine (tC _ hA (hB (.inl c3)) N (by omega)).trans (fin _ ?_)
    rw [hfr,qkY]
   by_cases c4:Kd=4
   ·rw [qh c3,qj c4]
    rw [decide_eq_true c4,Bool.or_true,cond_true]at hfr
    refine (tC _ hA (hB (.inr c4)) N (by omega)).trans (fin _ ?_)
    rw [hfr,qkY]
   rw [qh c3,qh c4]
   rw [decide_eq_false c3,decide_eq_false c4,Bool.or_false,cond_false]at hfr
   refine (tD _ hA N (by omega)).trans (fin _ ?_)
   by_cases c2:Kd=2
   ·rw [qj c2]at hfr
    rw [hfr]
    exact qrO fun k hk=>by rw [decide_eq_true c2,Bool.true_or,Bool.and_true]
   ·rw [qh c2]at hfr
    rw [hfr,qkY]
    exact qrO fun k hk=>by rw [decide_eq_false c2,Bool.false_or]
theorem qTz (N:Nat) (f:List (Val qb)) (hf:fOk f) (h1:1≤f.length) (K:List (Val (.int .i64))→Option (qc [i27,i4])) (n:Nat) (hn:4<n):qfn N f (frA f f.length) K n 0 []=K (qmB (qu f ((f.length:Int) - 1))):=by
 have h12:=hf.1
 have hw:IntKind.i64.wrap ((f.length:Int) - 1)=(f.length:Int) - 1:=qb4 (by omega) (by omega)
 have hlen:=qpN f f.length
 have gA: ∀d,(frA f f.length).getD ((f.length:Int) - 1).toNat d=blB (qu f ((f.length:Int) - 1)):=fun d=>by
  have:=qsz (f:=f) (i:=f.length) (j:=((f.length:Int) - 1).toNat) (by omega) (by omega) d
  rwa [Int.toNat_of_nonneg (by omega)]at this
 generalize hp:at4 (qu f ((f.length:Int) - 1))=p
 have h:=qam (xs:=List.range 4) (F:=fun n i (s:List (Val (.int .i64)))=>qfn N f (frA f f.length) K n i s) (step:=fun i x s K'=>bif p i then (chk (s.length+[((i:Nat):Int)].length≤1048576) (K' (s++[((i:Nat):Int)])))else K' s) (k:=K) (by simp) (fun n i s hi=>by
  have hi:i<4:=by simpa using hi
  rw [qfn,qj (by omega),hw,qd (by omega),qd (by omega),gA,blB,hp,qd (show 0≤(i:Int)∧(i:Int)<((bl p).length:Int) from ⟨by omega,by show (i:Int)<4;omega⟩),Int.toNat_natCast,qqM _ hi]) (fun n i p hi=>by
  have hi:4≤i:=by simpa using hi
  rw [qfn,qh (by omega)]) n [] (by simpa using hn)
 refine h.trans ?_
 show qaK _ 0 [0,1,2,3] _ _=_
 unfold qmB
 rw [hp]
 simp only [qaK]
 cases h0:p 0<;>cases h1:p 1<;>cases h2:p 2<;>cases h3:p 3<;>simp [h0,h1,h2,h3,qd]
theorem e25 (db:List (Val qf)) (f:List (Val qb)) (h:qgX db f): ∃N,m25 N db f=some ((q4 db f).1,(q4 db f).2,()):=⟨1048577,by
 rw [m25,qd (show qfx db f from h),q4]
 cases hf:qcM db f with
 | false=>rfl
 | true=>
   obtain ⟨ho,h1⟩:=qGT h hf
   have hl:=ho.1
   simp only [Bool.not_true,cond_false,cond_true]
   rw [qd (qjk (by omega)),Int.toNat_natCast]
   have e0:(List.replicate f.length (qa (.slice 4 .bool)):List LB)=frA f 0:=(qJJ f).symm
   rw [e0]
   refine (qII 1048577 (by omega) f ho _ f.length 0 (by omega) 1048577 (by omega)).trans ?_
   exact qTz 1048577 f ho h1 _ 1048577 (by omega)⟩
theorem s25:Sound Try.prog 25 g25:=qz (tt:=tt) (Γ:=Γ25) hT (ql s79 qt) hm (fn:=Try.f25) Try.func25 (c:=Try.f25.body.getD .skip) (by kernel_rfl) (by kernel_rfl) fun x hx=>by
 obtain ⟨N,h⟩:=e25 x.1 x.2.1 hx
 exact ⟨T25 N,p25,qy _,qQO N,(qPh N x.1 x.2.1).trans h⟩
end Go.T
