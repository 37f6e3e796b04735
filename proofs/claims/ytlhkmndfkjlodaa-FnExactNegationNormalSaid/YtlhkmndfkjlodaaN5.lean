/- Negations pushed: the program's recursion; NegationNormal. -/
import Derived.Test.YtlhkmndfkjlodaaN4
set_option linter.unusedSimpArgs false
set_option linter.unusedVariables false
namespace Go.T
open Go Go.Proofs
set_option maxHeartbeats 4000000
set_option maxRecDepth 100000
theorem qzO {s:Nat} {K:Int} {a:Val Y83} {nm lb:ByteArray} {vs:List (Val (.int .i64))} {vr A B:Int} (h: ¬1<K):shN s ((K,a,nm,lb,vs,vr,A,B):Nd)=(K,a,nm,lb,vs,vr,A,B):=by
 unfold shN
 dsimp only
 rw [qh h,decide_eq_false (show ¬K=3 by omega),decide_eq_false (show ¬K=4 by omega)]
 rfl
theorem qXU {s:Nat} {K:Int} {a:Val Y83} {nm lb:ByteArray} {vs:List (Val (.int .i64))} {vr A B:Int} (h:K=3∨K=4):shN s ((K,a,nm,lb,vs,vr,A,B):Nd)=(K,a,nm,lb,vs,vr,A+(s:Int),B+(s:Int)):=by
 unfold shN
 dsimp only
 rw [qj (show 1<K by omega)]
 have e:(decide (K=3)||decide (K=4))=true:=by rcases h with h | h<;>simp [h]
 rw [e];rfl
theorem qJL {s:Nat} {K:Int} {a:Val Y83} {nm lb:ByteArray} {vs:List (Val (.int .i64))} {vr A B:Int} (h:1<K) (h3: ¬K=3) (h4: ¬K=4):shN s ((K,a,nm,lb,vs,vr,A,B):Nd)=(K,a,nm,lb,vs,vr,A+(s:Int),B):=by
 unfold shN
 dsimp only
 rw [qj h,decide_eq_false h3,decide_eq_false h4]
 rfl
theorem qHs {K:Int} (b:Bool):(K=3∨K=4→qeL b K=3∨qeL b K=4)∧(K=5∨K=6→qeL b K=5∨qeL b K=6):=by
 constructor<;>intro h<;>rcases h with rfl | rfl<;>cases b<;>decide
theorem qJk (out f:List Nd) (i:Int) (b:Bool):(qJ out f i b).length=out.length+(qq f i b).length:=by
 unfold qJ;rw [List.length_append,List.length_map]
theorem qUo {K vr A B:Int} {a:Val Y83} {nm lb:ByteArray} {vs:List (Val (.int .i64))} (h:ndZ ((K,a,nm,lb,vs,vr,A,B):Nd)) (h1:1<K):a=noA∧nm=eB∧lb=eB∧vs=[]:=by
 have e:=h.2.2.2.1 h1
 have e2:=(Prod.mk.inj e).2
 have e3:=(Prod.mk.inj e2).2
 have e4:=(Prod.mk.inj e3).2
 have e5:=(Prod.mk.inj e4).2
 exact ⟨(Prod.mk.inj e2).1,(Prod.mk.inj e3).1,(Prod.mk.inj e4).1,(Prod.mk.inj e5).1⟩
theorem qTw {K vr A B:Int} {a:Val Y83} {nm lb:ByteArray} {vs:List (Val (.int .i64))} (h:ndZ ((K,a,nm,lb,vs,vr,A,B):Nd)) (h1:K=0):nm=eB∧lb=eB∧vs=[]∧vr=0∧A=0∧B=0:=by
 have e:=h.2.2.1 h1
 have e3:=(Prod.mk.inj (Prod.mk.inj e).2).2
 have e4:=(Prod.mk.inj e3).2
 have e5:=(Prod.mk.inj e4).2
 have e6:=(Prod.mk.inj e5).2
 have e7:=(Prod.mk.inj e6).2
 exact ⟨(Prod.mk.inj e3).1,(Prod.mk.inj e4).1,(Prod.mk.inj e5).1,(Prod.mk.inj e6).1,(Prod.mk.inj e7).1,(Prod.mk.inj e7).2⟩
theorem qYk {out r q:List Nd} {K':Int} (hK:K'=3∨K'=4):(out++r.map (shN out.length))++q.map (shN (out.length+r.length))++[((K',noA,eB,eB,[],(0:Int),(out.length:Int)+(r.length:Int) - 1,(out.length:Int)+(r.length:Int)+(q.length:Int) - 1):Nd)]=
 out++((r++q.map (shN r.length))++[((K',noA,eB,eB,[],(0:Int),(r.length:Int) - 1,(r.length:Int)+(q.length:Int) - 1):Nd)]).map (shN out.length):=by
 rw [List.map_append,List.map_append,qUf,List.map_singleton,qXU hK]
 have e1:(r.length:Int) - 1+(out.length:Int)=(out.length:Int)+(r.length:Int) - 1:=by omega
 have e2:(r.length:Int)+(q.length:Int) - 1+(out.length:Int)=(out.length:Int)+(r.length:Int)+(q.length:Int) - 1:=by omega
 rw [e1,e2]
 simp only [List.append_assoc]
theorem qYs {out r:List Nd} {K' vr:Int} (hK:K'=5∨K'=6):(out++r.map (shN out.length))++[((K',noA,eB,eB,[],vr,(out.length:Int)+(r.length:Int) - 1,(0:Int)):Nd)]=
 out++(r++[((K',noA,eB,eB,[],vr,(r.length:Int) - 1,(0:Int)):Nd)]).map (shN out.length):=by
 rw [List.map_append,List.map_singleton,qJL (by omega) (by omega) (by omega)]
 have e1:(r.length:Int) - 1+(out.length:Int)=(out.length:Int)+(r.length:Int) - 1:=by omega
 rw [e1]
 simp only [List.append_assoc]
theorem e89 (k:Nat) (out f:List Nd) (i:Int) (neg:Bool) (h:qeK (k+1) out f i neg): ∃n,qsW ⟨n,k⟩ out f i neg=some (qJ out f i neg,()):=⟨0,by
 obtain ⟨hf,h0,hl,hk,hlen⟩:=h
 have hi:i.toNat<f.length:=by omega
 obtain ⟨ho,hz⟩:=nk hf hi
 have h4:4≤2 ^ (i.toNat+2):=qhC (a:=2) (by omega)
 rw [qJ,qvk hf neg h0 hl hi,qsW,qd ⟨h0,hl⟩,qgM hi]
 generalize f[i.toNat]=n at ho hz
 obtain ⟨K,a,nm,lb,vs,vr,A,B⟩:=n
 change Int at K
 change Int at vr
 change Int at A
 change Int at B
 have hb:=hz.1
 rw [qd (show qpz _ from hb)]
 unfold qfY idN
 dsimp only
 by_cases c0:K=0
 ·rw [qh (show ¬K=2 by omega),qj c0,qj c0]
  obtain ⟨e1,e2,e3,e4,e5,e6⟩:=qTw hz c0
  subst e1 e2 e3 e4 e5 e6
  rw [c0,List.map_singleton,qzO (by decide)]
  cases neg with
  | true=>rw [cond_true,cond_true,qd (qcW _ _ (by omega))]
  | false=>rw [cond_false,cond_false,qd (qcW _ _ (by omega))]
 by_cases c1:K=1
 ·rw [qh (show ¬K=2 by omega),qh c0,qh c0,qj c1,qj c1,qd (qcW _ _ (by omega))]
  cases neg with
  | true=>
    have e:((out++[((K,a,nm,lb,vs,vr,A,B):Nd)]).length:Nat)=out.length+1:=by rw [List.length_append];rfl
    have ew:IntKind.i64.wrap (((out++[((K,a,nm,lb,vs,vr,A,B):Nd)]).length:Int) - 1)=0+(out.length:Int):=by rw [e,qew (by omega) (by omega)];omega
    rw [cond_true,cond_true]
    rw [show ((out++[((K,(a.1,a.2.1,a.2.2),nm,lb,vs,vr,A,B):Nd)]).length:Nat)=(out++[((K,a,nm,lb,vs,vr,A,B):Nd)]).length from rfl,ew,qd (qcW _ _ (by rw [e];omega))]
    show some ((out++[_])++[_],())=some (out++[shN out.length _,shN out.length (qoS 0)],())
    rw [qzO (by omega)]
    unfold qoS
    rw [qJL (by decide) (by decide) (by decide),List.append_assoc]
    rfl
  | false=>
    rw [cond_false,cond_false,List.map_singleton,qzO (by omega)]
 rw [qh c0,qh c0,qh c1,qh c1]
 obtain ⟨hA,hB,_⟩:=qg4 ho c0 c1
 have hA:0≤A∧A<(i.toNat:Int):=hA
 have e2:2 ^ (i.toNat+2)=2*2 ^ (i.toNat+1):=by rw [show i.toNat+2=(i.toNat+1)+1 by omega,Nat.pow_succ];omega
 have lA:2 ^ (A.toNat+2)≤2 ^ (i.toNat+1):=qhC (by omega)
 have pA: ∀b,qeK k out f A b:=fun b=>⟨hf,hA.1,by omega,by omega,by omega⟩
 by_cases c2:K=2
 ·rw [qj c2,qj c2,qd (pA _)];rfl
 rw [qh c2,qh c2]
 obtain ⟨gA,gA8⟩:=qgL hf neg hA.1 (show A<f.length by omega)
 have gA2:=gA.2.1
 have hK06:0≤K∧K≤6:=hz.2.1
 have hK:K=3∨K=4∨K=5∨K=6:=by omega
 obtain ⟨q1,q2,q3,q4⟩:=qUo hz (by omega)
 subst q1 q2 q3 q4
 have lenA:=qJk out f A neg
 have wA:IntKind.i64.wrap (((qJ out f A neg).length:Int) - 1)=(out.length:Int)+((qq f A neg).length:Int) - 1:=by
  rw [lenA,qew (by have:=gA.1;omega) (by omega)];omega
 by_cases c56:K=5∨K=6
 ·have e56:(decide (K=5)||decide (K=6))=true:=by rcases c56 with h | h<;>simp [h]
  have zB:B=0:=hz.2.2.2.2.2.1 c56
  have hp: ∀b,¬qcf (qeL b K)=2:=fun b h=>by
   have:=(qI3 hK b).1 h
   omega
  rw [e56,cond_true,←qYs ((qHs neg).2 c56),zB]
  cases neg with
  | true=>
    rw [cond_true,qd (pA _),qh (show ¬qcf (qer K)=2 from hp true),wA,qd (qcW _ _ (by omega))]
    rfl
  | false=>
    rw [cond_false,qd (pA _),qh (show ¬qcf K=2 from hp false),wA,qd (qcW _ _ (by omega))]
    rfl
 ·have c5: ¬K=5:=fun h=>c56 (.inl h)
  have c6: ¬K=6:=fun h=>c56 (.inr h)
  have c34:K=3∨K=4:=k34 hK06 c0 c1 c2 c5 c6
  have hB:0≤B∧B<(i.toNat:Int):=hB c34
  have lB:2 ^ (B.toNat+2)≤2 ^ (i.toNat+1):=qhC (by omega)
  obtain ⟨gB,gB8⟩:=qgL hf neg hB.1 (show B<f.length by omega)
  have gB2:=gB.2.1
  have zv:vr=0:=hz.2.2.2.2.1 c34
  have e56:(decide (K=5)||decide (K=6))=false:=by rw [decide_eq_false c5,decide_eq_false c6];rfl
  have hp: ∀b,qcf (qeL b K)=2:=fun b=>(qI3 hK b).2 c34
  have pB:qeK k (qJ out f A neg) f B neg:=⟨hf,hB.1,by omega,by omega,by rw [lenA];omega⟩
  have lenB:=qJk (qJ out f A neg) f B neg
  have wB:IntKind.i64.wrap (((qJ (qJ out f A neg) f B neg).length:Int) - 1)=(out.length:Int)+((qq f A neg).length:Int)+((qq f B neg).length:Int) - 1:=by
   rw [lenB,lenA,qew (by have:=gA.1;omega) (by omega)];omega
  have ll:(qJ (qJ out f A neg) f B neg).length≤1000000:=by rw [lenB,lenA];omega
  have eP:qJ (qJ out f A neg) f B neg=(out++(qq f A neg).map (shN out.length))++(qq f B neg).map (shN (out.length+(qq f A neg).length)):=by
   rw [qJ,lenA];rfl
  rw [e56,cond_false,←qYk ((qHs neg).1 c34),zv,←eP]
  cases neg with
  | true=>
    rw [cond_true,qd (pA _),qj (show qcf (qer K)=2 from hp true),qd pB,wA,wB,qd (qcW _ _ ll)]
    rfl
  | false=>
    rw [cond_false,qd (pA _),qj (show qcf K=2 from hp false),qd pB,wA,wB,qd (qcW _ _ ll)]
    rfl⟩
theorem qzY: ∀k,SoundW Try.prog 89 (qu3 k)
 | 0=>qQ6 (fn:=Try.f89) Try.func89 (c:=Try.f89.body.getD .skip) (by kernel_rfl) (by kernel_rfl) fun v x hx=>qU8 v x.1 x.2.1 x.2.2.1 hx
 | k+1=>qHC (tt:=tt) (Γ:=qhb k) hT (ql qKn (ql qL4 (ql qRs (ql qNB qp)))) hm (fn:=Try.f89) Try.func89 (c:=Try.f89.body.getD .skip) (by kernel_rfl) (by kernel_rfl) fun v x hx=>by
   obtain ⟨n,h⟩:=e89 k v x.1 x.2.1 x.2.2.1 hx
   exact ⟨qeH ⟨n,k⟩,qLl,⟨qCA (qGC (qzY k) qzJ) (qx _),qOo ⟨n,k⟩⟩,(qMn ⟨n,k⟩ v x.1 x.2.1 x.2.2.1).trans h⟩
theorem qQK:SoundW Try.prog 89 qDC:=⟨(qzY 0).enters,fun v x hx=>by
 obtain ⟨k,hk⟩:=qYK v x.1 x.2.1 x.2.2.1 hx
 exact (qzY k).runs v x hk⟩
theorem qFd {f:List Nd} (hf:nOk f) {i:Int} {b:Bool} (h0:0≤i) (hl:i<f.length):Bd (.slice 120 qa) (qq f i b):=by
 obtain ⟨g,g8⟩:=qgL hf b h0 hl
 exact ⟨by have:=g.2.1;omega,fun n hn=>(g.2.2 n hn).1⟩
theorem qY4 (f:List Nd) (i:Int) (b:Bool):qJ [] f i b=qq f i b:=by
 show []++(qq f i b).map (shN 0)=_
 rw [qXj];rfl
theorem e36 (db:List (Val qe)) (f:List Nd) (h:qfN db f): ∃N,m36 N db f=some ((nnV db f).1,(nnV db f).2,()):=⟨0,by
 rw [m36,qd (show qcK db f from h),nnV]
 cases hf:qb4 db f with
 | false=>rfl
 | true=>
   obtain ⟨ho,h1⟩:=qFH h hf
   have hl:=ho.1.1
   have hw:IntKind.i64.wrap ((f.length:Int) - 1)=(f.length:Int) - 1:=qew h1 (by omega)
   rw [hw]
   simp only [Bool.not_true,cond_false,Bool.true_and]
   have g8:=(qgL ho (i:=(f.length:Int) - 1) false (by omega) (by omega)).2
   rw [qd (show qrh [] f ((f.length:Int) - 1) false from ⟨ho,by omega,by omega,by show 0+_≤_;omega⟩),qY4,qd (show qcK db (qq f ((f.length:Int) - 1) false) from ⟨h.1,qFd ho (by omega) (by omega)⟩)]
   cases qb4 db (qq f ((f.length:Int) - 1) false)<;>rfl⟩
theorem s36:Sound Try.prog 36 g36:=qz (tt:=tt) (Γ:=Γ36) hT (ql s82 qp) hm (fn:=Try.f36) Try.func36 (c:=Try.f36.body.getD .skip) (by kernel_rfl) (by kernel_rfl) fun x hx=>by
 obtain ⟨N,h⟩:=e36 x.1 x.2.1 hx
 exact ⟨T36 N,p36,qCA (qGC qQK qzJ) (qx _),qWD N,(qLB N x.1 x.2.1).trans h⟩
theorem e35 (db:List (Val qe)) (f:List Nd) (h:qfN db f): ∃N,m35 N db f=some ((nnV db f).1,(nnV db f).2,()):=⟨0,by
 rw [m35,qd (show qcK db f from h),nnV]
 cases hf:qb4 db f with
 | false=>rfl
 | true=>
   obtain ⟨ho,h1⟩:=qFH h hf
   have hl:=ho.1.1
   have hw:IntKind.i64.wrap ((f.length:Int) - 1)=(f.length:Int) - 1:=qew h1 (by omega)
   rw [hw]
   simp only [Bool.not_true,cond_false,Bool.true_and]
   rw [qd (show qsS f ((f.length:Int) - 1) false from ⟨ho,by omega,by omega⟩),qd (show qcK db (qq f ((f.length:Int) - 1) false) from ⟨h.1,qFd ho (by omega) (by omega)⟩)]
   cases qb4 db (qq f ((f.length:Int) - 1) false)<;>rfl⟩
theorem s35:Sound Try.prog 35 g35:=qz (tt:=tt) (Γ:=Γ35) hT (ql s79 (ql s88 qp)) hm (fn:=Try.f35) Try.func35 (c:=Try.f35.body.getD .skip) (by kernel_rfl) (by kernel_rfl) fun x hx=>by
 obtain ⟨N,h⟩:=e35 x.1 x.2.1 hx
 exact ⟨T35 N,p35,qx _,qWp N,(qQl N x.1 x.2.1).trans h⟩
end Go.T
