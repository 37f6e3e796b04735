/- Free variables: the program's functions give them. -/
import Derived.Test.YtlhkmndfkjlodaaH21
set_option linter.unusedSimpArgs false
set_option linter.unusedVariables false
namespace Go.T
open Go Go.Proofs
set_option maxHeartbeats 4000000
set_option maxRecDepth 100000
theorem qVM (N:RN) (xs:List (Val (.int .i64))) (hl:xs.length=4) (u1 u2 u3 u4:Bool) (K:Bool→Bool→Bool→Bool→Option (qc [qae])) (n:Nat) (hn:4<n) (p:Nat→Bool):
 ∃q:Nat→Bool,(∀k,k<4→q k= !decide ((List.getD (α:=Int) xs k 0)=0))∧qgQ N xs (xs.length:Int) u1 u2 u3 u4 K n 0 (p 0) (p 1) (p 2) (p 3)=K (q 0) (q 1) (q 2) (q 3):=by
 have h:=qam (xs:=(xs:List (Val (.int .i64)))) (F:=fun n i (p:Nat→Bool)=>qgQ N xs (xs.length:Int) u1 u2 u3 u4 K n i (p 0) (p 1) (p 2) (p 3)) (step:=fun i x p K'=>K' (pk p i (!decide ((x:Int)=(0:Int))))) (k:=fun q=>K (q 0) (q 1) (q 2) (q 3)) (by omega) (fun n i p hi=>by
  rw [qgQ,qj (by omega),qd (by omega),qd (by omega),qd (by omega),qA hi]
  rfl) (fun n i p hi=>by rw [qgQ,qh (by omega)]) n p (by omega)
 match xs,hl with
 | [a,b,c,d],_=>
   refine ⟨_,fun k hk=> ?_,h⟩
   rcases (by omega:k=0∨k=1∨k=2∨k=3)with rfl | rfl | rfl | rfl<;>simp [qv6]<;>rfl
theorem qDT: ∀(xs:List Int) (p:Nat→Bool) (k:Nat),(∀x∈xs,0≤x)→(xs.foldl (fun p x=>pk p x.toNat true) p) k=(p k||xs.any fun x=>decide (x=(k:Int)))
 | [],p,k,_=>by simp
 | x::xs,p,k,h=>by
   rw [List.foldl_cons,qDT xs _ k fun y hy=>h y (by simp [hy]),qv6,List.any_cons]
   have hx:=h x (by simp)
   by_cases e:x.toNat=k
   ·rw [if_pos e,decide_eq_true (show x=(k:Int) by omega)];simp
   ·rw [if_neg e,decide_eq_false (show ¬x=(k:Int) by omega)];simp
theorem qL6 (N:RN) (xs:List (Val (.int .i64))) (hl:xs.length≤1048576) (hx: ∀v∈(xs:List Int),0≤v∧v<4) (u1 u2 u3 u4:Bool) (K:Bool→Bool→Bool→Bool→Option (qc [qae])) (n:Nat) (hn:xs.length<n) (p:Nat→Bool):
 ∃q:Nat→Bool,(∀k,k<4→q k=(p k||List.any (α:=Int) xs fun x=>decide (x=(k:Int))))∧qgH N xs (xs.length:Int) u1 u2 u3 u4 K n 0 (p 0) (p 1) (p 2) (p 3)=K (q 0) (q 1) (q 2) (q 3):=by
 refine ⟨List.foldl (α:=Nat→Bool) (β:=Int) (fun p x=>pk p x.toNat true) p xs,fun k hk=>qDT xs p k fun x h=>(hx x h).1,?_⟩
 refine (qam (xs:=(xs:List (Val (.int .i64)))) (F:=fun n i (p:Nat→Bool)=>qgH N xs (xs.length:Int) u1 u2 u3 u4 K n i (p 0) (p 1) (p 2) (p 3)) (step:=fun _ x p K'=>K' (pk p (Int.toNat x) true)) (k:=fun q=>K (q 0) (q 1) (q 2) (q 3)) hl (fun n i p hi=> ?_) (fun n i p hi=>by rw [qgH,qh (by omega)]) n p hn).trans (qxA (f:=fun (p:Nat→Bool) (x:Val (.int .i64))=>pk p (Int.toNat x) true) xs 0 p)
 have hb:0≤(xs[i]:Int)∧(xs[i]:Int)<(4:Int):=hx xs[i] (List.getElem_mem hi)
 rw [qgH,qj (by omega),qd (by omega),qA hi]
 generalize xs[i]=x at hb
 change Int at x
 have hb:0≤x∧x<4:=hb
 rw [qd (show 0≤x∧x<4 from hb),qd (show x.toNat<4 by omega)]
 rfl
theorem qHU (N:RN) (q:Nat→Bool) (u1 u2 u3 u4:Bool) (K:Bool→Bool→Bool→Bool→Option (qc [qae])) (n:Nat) (hn:4<n) (p:Nat→Bool):
 qfz N (q 0) (q 1) (q 2) (q 3) u1 u2 u3 u4 K n 0 (p 0) (p 1) (p 2) (p 3)=K (p 0||q 0) (p 1||q 1) (p 2||q 2) (p 3||q 3):=by
 have h:=qam (xs:=List.range 4) (F:=fun n i (p:Nat→Bool)=>qfz N (q 0) (q 1) (q 2) (q 3) u1 u2 u3 u4 K n i (p 0) (p 1) (p 2) (p 3)) (step:=fun i x p K'=>K' (pk p i (p i||q i))) (k:=fun q=>K (q 0) (q 1) (q 2) (q 3)) (by simp) (fun n i p hi=>by
  have hi:i<4:=by simpa using hi
  rw [qfz,qj (by omega),qd (by omega),qd (by omega),qd (by omega),Int.toNat_natCast,qsH p hi]
  cases e:p i with
  | true=>rw [cond_true,qd (by omega),qd (by omega)];rfl
  | false=>rw [cond_false,qd (by omega),qd (by omega),qsH q hi];rfl) (fun n i p hi=>by
  have hi:4≤i:=by simpa using hi
  rw [qfz,qh (by omega)]) n p (by simpa using hn)
 refine h.trans ?_
 show K _ _ _ _=_
 congr 1
theorem qUF (p:Nat→Bool):(some ((p 0,p 1,p 2,p 3),()):Option (qc [qae]))=some (b4 p,()):=rfl
theorem e83 (k:Nat) (f:List (Val qb)) (i:Int) (h:qdv (k+1) f i): ∃n,m83 ⟨n,k⟩ f i=some (qu f i,()):=⟨1048577,by
 obtain ⟨hf,h0,hl,hk⟩:=h
 have hi:i.toNat<f.length:=by omega
 have ho:=hf.2 i.toNat hi
 rw [qFK hf h0 hl,m83,qd ⟨h0,hl⟩,qhl hi]
 generalize f[i.toNat]=n at ho
 obtain ⟨K,a,nm,lb,vs,vr,A,B⟩:=n
 change Int at K
 change Int at vr
 change Int at A
 change Int at B
 dsimp only
 by_cases c0:K=0
 ·rw [qj c0,qj c0]
  obtain ⟨q,hq,e⟩:=qVM ⟨1048577,k⟩ a.1 (qGA ho c0) false false false false (fun (v17:Bool) (v18:Bool) (v19:Bool) (v20:Bool)=>some ((v17,v18,v19,v20),())) 1048577 (by omega) (fun _=>false)
  refine e.trans ?_
  rw [←qtQ hq];rfl
 by_cases c1:K=1
 ·rw [qh c0,qh c0,qj c1,qj c1]
  obtain ⟨hv,hx⟩:=qJo ho c1
  obtain ⟨q,hq,e⟩:=qL6 ⟨1048577,k⟩ vs hv hx false false false false (fun (v17:Bool) (v18:Bool) (v19:Bool) (v20:Bool)=>some ((v17,v18,v19,v20),())) 1048577 (by have hv:vs.length≤1048576:=hv;omega) (fun _=>false)
  refine e.trans ?_
  rw [show (b4 fun v=>List.any (α:=Int) vs fun x=>decide (x=(v:Int)))=b4 q from qtQ fun k hk=>by rw [hq k hk,Bool.false_or]];rfl
 rw [qh c0,qh c0,qh c1,qh c1]
 obtain ⟨hA,hB,hv⟩:=qqs ho c0 c1
 have hA:0≤A∧A<(i.toNat:Int):=hA
 have hv:0≤vr∧vr<4:=hv
 have pA:qdv k f A:=⟨hf,hA.1,by omega,by omega⟩
 by_cases c3:K=3
 ·have hB:0≤B∧B<(i.toNat:Int):=hB (.inl c3)
  rw [qj c3,decide_eq_true c3,Bool.true_or,cond_true,qd pA,qd (show qdv k f B from ⟨hf,hB.1,by omega,by omega⟩)]
  exact qHU ⟨1048577,k⟩ (at4 (qu f B)) false false false false (fun (v17:Bool) (v18:Bool) (v19:Bool) (v20:Bool)=>some ((v17,v18,v19,v20),())) 1048577 (by omega) (at4 (qu f A))
 by_cases c4:K=4
 ·have hB:0≤B∧B<(i.toNat:Int):=hB (.inr c4)
  rw [qh c3,qj c4,decide_eq_true c4,Bool.or_true,cond_true,qd pA,qd (show qdv k f B from ⟨hf,hB.1,by omega,by omega⟩)]
  exact qHU ⟨1048577,k⟩ (at4 (qu f B)) false false false false (fun (v17:Bool) (v18:Bool) (v19:Bool) (v20:Bool)=>some ((v17,v18,v19,v20),())) 1048577 (by omega) (at4 (qu f A))
 rw [qh c3,qh c4,decide_eq_false c3,decide_eq_false c4,Bool.or_false,cond_false]
 by_cases c2:K=2
 ·rw [qj c2,qj c2,qd pA]
 ·rw [qh c2,qh c2,qd pA,qd hv,qd (by omega)]
  refine (qUF (pk (at4 (qu f A)) vr.toNat false)).trans ?_
  rw [qtQ (p:=pk (at4 (qu f A)) vr.toNat false) (q:=fun v=>at4 (qu f A) v&& !decide ((v:Int)=vr)) fun k hk=> ?_]
  rw [qv6]
  by_cases e:vr.toNat=k
  ·rw [if_pos e,decide_eq_true (show (k:Int)=vr by omega)];simp
  ·rw [if_neg e,decide_eq_false (show ¬(k:Int)=vr by omega)];simp⟩
theorem qtq: ∀k,Sound Try.prog 83 (qfH k)
 | 0=>qMX (fn:=Try.f83) Try.func83 (c:=Try.f83.body.getD .skip) (by kernel_rfl) (by kernel_rfl) fun x hx=>qQ0 x.1 x.2.1 hx
 | k+1=>qz (tt:=tt) (Γ:=Γ83 k) hT (ql (qtq k) qt) hm (fn:=Try.f83) Try.func83 (c:=Try.f83.body.getD .skip) (by kernel_rfl) (by kernel_rfl) fun x hx=>by
   obtain ⟨n,h⟩:=e83 k x.1 x.2.1 hx
   exact ⟨T83 ⟨n,k⟩,p83,qF7 hT (show qjZ _ [(126,4)]=true by kernel_rfl) (qy _),qUZ ⟨n,k⟩,(qTK ⟨n,k⟩ x.1 x.2.1).trans h⟩
theorem s83:Sound Try.prog 83 g83:=⟨(qtq 0).enters,fun x hx=>by
 obtain ⟨k,hk⟩:=qJ0 x.1 x.2.1 hx
 exact (qtq k).runs x hk⟩
theorem t28 (N:Nat) (p:Nat→Bool) (K:List (Val (.int .i64))→Option (qc [i27,i4])) (n:Nat) (hn:4<n):qga N (p 0) (p 1) (p 2) (p 3) K n 0 []=K ((List.filter p [0,1,2,3]).map fun (k:Nat)=>(k:Int)):=by
 have h:=qam (xs:=List.range 4) (F:=fun n i (s:List (Val (.int .i64)))=>qga N (p 0) (p 1) (p 2) (p 3) K n i s) (step:=fun i x s K'=>bif p i then (chk (s.length+[((i:Nat):Int)].length≤1048576) (K' (s++[((i:Nat):Int)])))else K' s) (k:=K) (by simp) (fun n i s hi=>by
  have hi:i<4:=by simpa using hi
  rw [qga,qj (by omega),qd (by omega),Int.toNat_natCast,qsH p hi]) (fun n i p hi=>by
  have hi:4≤i:=by simpa using hi
  rw [qga,qh (by omega)]) n [] (by simpa using hn)
 refine h.trans ?_
 show qaK _ 0 [0,1,2,3] _ _=_
 simp only [qaK]
 cases h0:p 0<;>cases h1:p 1<;>cases h2:p 2<;>cases h3:p 3<;>simp [h0,h1,h2,h3,qd]
theorem e28 (db:List (Val qf)) (f:List (Val qb)) (h:qgX db f): ∃N,m28 N db f=some ((q4 db f).1,(q4 db f).2,()):=⟨5,by
 rw [m28,qd (show qfx db f from h),q4]
 cases hf:qcM db f with
 | false=>rfl
 | true=>
   obtain ⟨ho,h1⟩:=qGT h hf
   have hl:=ho.1
   have hw:IntKind.i64.wrap ((f.length:Int) - 1)=(f.length:Int) - 1:=qb4 (by omega) (by omega)
   rw [hw]
   simp only [Bool.not_true,cond_false,cond_true]
   rw [qd (show qrx f ((f.length:Int) - 1) from ⟨ho,by omega,by omega⟩)]
   exact t28 5 (at4 (qu f ((f.length:Int) - 1))) _ 5 (by omega)⟩
theorem s28:Sound Try.prog 28 g28:=qz (tt:=tt) (Γ:=Γ28) hT (ql s82 (ql s83 qt)) hm (fn:=Try.f28) Try.func28 (c:=Try.f28.body.getD .skip) (by kernel_rfl) (by kernel_rfl) fun x hx=>by
 obtain ⟨N,h⟩:=e28 x.1 x.2.1 hx
 exact ⟨T28 N,p28,qF7 hT (show qjZ _ [(126,4)]=true by kernel_rfl) (qy _),qPv N,(qOJ N x.1 x.2.1).trans h⟩
end Go.T
