/- Marks of relations and regions. -/
import Derived.Test.YtlhkmndfkjlodaaA7
set_option linter.unusedSimpArgs false
set_option linter.unusedVariables false
namespace Go.T
open Go Go.Proofs
set_option maxHeartbeats 4000000
set_option maxRecDepth 100000
theorem qUk {n:Int} (h1:0≤n) (h2:n≤255):IntKind.u8.wrap n=n:=by
 rw [IntKind.wrap_u8];omega
noncomputable def qhJ (N:Nat) (k0:ByteArray→Option (qc [i9])):Nat→Int→ByteArray→Option (qc [i9])
 | 0,_,_=>none
 | n+1,v1,v2=>bif (decide ((0:Int)<v1))then (chk ((10:Int)≠0) (chk ((qfJ ([(IntKind.u8.wrap (IntKind.i64.wrap ((48:Int)+(v1.tmod (10:Int)))))]:List (Val (.int .u8)))).size+v2.size<4611686018427387904) (chk ((10:Int)≠0) (qhJ N k0 n (IntKind.i64.wrap (v1.tdiv (10:Int))) ((qfJ ([(IntKind.u8.wrap (IntKind.i64.wrap ((48:Int)+(v1.tmod (10:Int)))))]:List (Val (.int .u8))))++v2)))))else (k0 v2)
noncomputable def m86 (N:Nat) (v0:Int):Option (qc [i9]):=bif (decide (v0≤(0:Int)))then (some ((ByteArray.mk #[109,48]),()))else (qhJ N (fun (v4:ByteArray)=>chk ((ByteArray.mk #[109]).size+v4.size<4611686018427387904) (some (((ByteArray.mk #[109])++v4),()))) N v0 (ByteArray.mk #[]))
def Γ86:Gam:=[]
def qkW:Nm:=⟨[true,false,false,true],[],false⟩
theorem qDu:qkW.zero=false:=rfl
theorem qFC:qkW.fix=[]:=rfl
theorem qzm:qkW.keep=[true,false,false,true]:=rfl
def qqe:Nm:=⟨[false,false,false,true],[],false⟩
theorem qyu:qqe.zero=false:=rfl
theorem qDh:qqe.fix=[]:=rfl
theorem qGb:qqe.keep=[false,false,false,true]:=rfl
def qjn:Nat→Tree:=fun _=> .done
def qnw:Nat→Nm:=fun i=>if i=4 then qkW else ⟨[],[],false⟩
def qnT:Nat→Option Jn:=fun _=>none
def qj2:Nat→Option Nm:=fun i=>if i=0 then some qqe else none
def qoG:Nat→Option Nm:=fun _=>none
theorem p86:qm qjn (Try.f86.body.getD .skip)=true:=by kernel_rfl
def T86 (N:Nat):Tab:={tr:=qjn,lp:=qnw,ex:=qj2,rg:=qoG,jn:=qnT,fuel:=N}
theorem qBZ (N:Nat):(T86 N).pins=false:=rfl
theorem qWn (N:Nat):qn Try.prog (T86 N):=qt fun _=>rfl
theorem qEO (N:Nat) (i:Nat):(T86 N).tr i=qjn i:=rfl
theorem qGm (N:Nat) (i:Nat):(T86 N).lp i=qnw i:=rfl
theorem qC2 (N:Nat) (i:Nat):(T86 N).ex i=qj2 i:=rfl
theorem qyv (N:Nat) (i:Nat):(T86 N).rg i=qoG i:=rfl
theorem qCa (N:Nat) (i:Nat):(T86 N).jn i=qnT i:=rfl
theorem qwV (N:Nat):(T86 N).fuel=N:=rfl
noncomputable def qHd:Code:=cut [true,true,true,false,true,true] (Try.f86.body.getD .skip)
theorem qNy {N:Nat} {Q:X→St→Option (qc [i9])} {e:List LV} {h:List Blk}:qf tt Γ86 (T86 N) qHd Q ⟨e,h⟩=qf tt Γ86 (T86 N) (cut [true,true,true,false,true,true] (Try.f86.body.getD .skip)) Q ⟨e,h⟩:=rfl
theorem qTa (N:Nat) {k0:ByteArray→Option (qc [i9])} {Q:X→St→Option (qc [i9])} {c:Code} (hc:c=qHd) (hret: ∀st,Q .ret st=qN tt true [i9] [.tmp 2] st) (h0: ∀(v3:ByteArray),Q (.exit 0) ⟨[u,u,u,.one (.str v3),u,u,u,u,u,u,u,u,u,u,u,u,u,u,u,u],[]⟩=k0 v3): ∀(n:Nat) (v1:Int) (v2:ByteArray),qI (qf tt Γ86 (T86 N) c) false qkW Q n ⟨[.one (.int .i64 v1),u,u,.one (.str v2),u,u,u,u,u,u,u,u,u,u,u,u,u,u,u,u],[]⟩=qhJ N k0 n v1 v2:=by
 subst hc;intro n;induction n with
 | zero=>intros;rfl
 | succ n ih=>
   intro v1 v2
   rw [qS,qNy,qhJ];unfold Try.f86
   simp (maxSteps:=10000000) -implicitDefEqProofs [qEO,qjn,qGm,qnw,qC2,qj2,qyv,qoG,qCa,qnT,qwV,qBZ,qFC,qzm,qDu,qDh,qGb,qyu,hret,h0,ih]
theorem qRz (N:Nat) (v0:Int):qf tt Γ86 (T86 N) (Try.f86.body.getD .skip) (qo tt true [i9] [.tmp 2]) (qv [i3] 20 (v0,()))=m86 N v0:=by
 unfold Try.f86
 simp (maxSteps:=10000000) -implicitDefEqProofs [qEO,qjn,qGm,qnw,qC2,qj2,qyv,qoG,qCa,qnT,qwV,qBZ,qFC,qzm,qDu,qDh,qGb,qyu]
 rewrite [qTa (k0:=(fun (v4:ByteArray)=>chk ((ByteArray.mk #[109]).size+v4.size<4611686018427387904) (some (((ByteArray.mk #[109])++v4),())))) N ?_ ?_ ?_]
 ·rewrite [m86];first | rfl | simp (maxSteps:=10000000) -implicitDefEqProofs []
 ·rfl
 ·intro;simp only [qQ,qR,qT,qr]
 ·intro v4;simp (maxSteps:=10000000) -implicitDefEqProofs [qEO,qjn,qGm,qnw,qC2,qj2,qyv,qoG,qCa,qnT,qwV,qBZ,qFC,qzm,qDu,qDh,qGb,qyu]
def qcF (k:Int):Prop:=k≤9223372036854775807
theorem t86 (N:Nat) (K:ByteArray→Option (qc [i9])): ∀(f n k:Nat) (acc:ByteArray),k<10 ^ f→f<n→k≤9223372036854775807→acc.size+f≤1000→qhJ N K n (k:Int) acc=K (qfo f k acc)
 | 0,0,_,_,_,h,_,_=>by omega
 | 0,n+1,k,acc,hk,_,_,_=>by
   have:k=0:=by simp at hk;exact hk
   subst this
   rw [qhJ,qh (by omega)];rfl
 | f+1,0,_,_,_,h,_,_=>by omega
 | f+1,n+1,k,acc,hk,hn,hb,ha=>by
   rw [qhJ,qfo]
   by_cases h0:k=0
   ·subst h0;rw [qh (by omega),if_pos rfl]
   ·rw [qj (by omega),if_neg h0]
    have e1:((k:Int).tmod 10)=((k % 10:Nat):Int):=by rw [Int.tmod_eq_emod_of_nonneg (by omega)];rfl
    have e2:((k:Int).tdiv 10)=((k / 10:Nat):Int):=by rw [Int.tdiv_eq_ediv_of_nonneg (by omega)];rfl
    have e3:IntKind.i64.wrap ((48:Int)+((k % 10:Nat):Int))=((48+k % 10:Nat):Int):=by rw [qax (by omega) (by omega)];omega
    have e4:IntKind.u8.wrap ((48+k % 10:Nat):Int)=((48+k % 10:Nat):Int):=by
     have:k % 10<10:=Nat.mod_lt _ (by omega)
     exact qUk (by omega) (by omega)
    have e5:IntKind.i64.wrap ((k / 10:Nat):Int)=((k / 10:Nat):Int):=qax (by omega) (by omega)
    have e6:qfJ ([((48+k % 10:Nat):Int)]:List (Val (.int .u8)))=ByteArray.mk #[UInt8.ofNat (48+k % 10)]:=rfl
    rw [e1,e2,e3,e4,e5,e6,qd (by decide),qd (by have e:(ByteArray.mk #[UInt8.ofNat (48+k % 10)]).size=1:=rfl;omega),qd (by decide)]
    have hsz:(ByteArray.mk #[UInt8.ofNat (48+k % 10)]++acc).size=1+acc.size:=by rw [ByteArray.size_append];rfl
    exact t86 N K f n (k / 10) _ (by rw [Nat.pow_succ]at hk;omega) (by omega) (by omega) (by omega)
theorem qSS: ∀(f n:Nat) (acc:ByteArray),(qfo f n acc).size≤acc.size+f:=by
 intro f
 induction f with
 | zero=>intro n acc;simp [qfo]
 | succ f ih=>
   intro n acc
   simp only [qfo]
   split
   ·omega
   ·have:=ih (n / 10) (ByteArray.mk #[UInt8.ofNat (48+n % 10)]++acc)
    rw [ByteArray.size_append]at this
    have e:(ByteArray.mk #[UInt8.ofNat (48+n % 10)]).size=1:=rfl
    omega
def g86:G:={ps:=[i3],rs:=[i9],dp:=true,pre:=fun x=>qcF x.1,fn:=fun x=>(qZ x.1,())}
theorem e86 (k:Int) (h:qcF k): ∃N,m86 N k=some (qZ k,()):=⟨100,by
 rw [m86,qZ]
 by_cases h0:k≤0
 ·rw [qj h0,if_pos h0]
 ·rw [qh h0,if_neg h0]
  have ek:k=(k.toNat:Int):=by omega
  have hk:k.toNat≤9223372036854775807:=by unfold qcF at h;omega
  have hp:(9223372036854775808:Nat)≤10 ^ 64:=by decide
  have hd:=qSS 64 k.toNat ByteArray.empty
  have e0:ByteArray.empty.size=0:=rfl
  have e1:(ByteArray.mk #[109]).size=1:=rfl
  have:=t86 100 (fun v=>chk ((ByteArray.mk #[109]).size+v.size<4611686018427387904) (some (ByteArray.mk #[109]++v,()))) 64 100 k.toNat ByteArray.empty (by omega) (by omega) hk (by omega)
  rw [←ek]at this
  refine this.trans ?_
  rw [qd (by omega)]⟩
theorem s86:Sound Try.prog 86 g86:=qz (tt:=tt) (Γ:=Γ86) hT qp hm (fn:=Try.f86) Try.func86 (c:=Try.f86.body.getD .skip) (by kernel_rfl) (by kernel_rfl) fun x hx=>by
 obtain ⟨N,h⟩:=e86 x.1 hx
 exact ⟨T86 N,p86,qx _,qWn N,(qRz N x.1).trans h⟩
def qhU (x:List (Val qi)) (k:Int):List (Val qi):=(mkT (.slice 158 qi) x k).1
def quH (x:List (Val qi)) (k:Int):Int:=(mkT (.slice 158 qi) x k).2
def qpF (x:List (Val qi)) (k:Int):Prop:=Bd (.slice 158 qi) x∧k≤9223372036854775807
def qok:Gms:=⟨158,qi,qpF,qhU,quH⟩
noncomputable def qg9 (N:Nat) (v6:List (Val (hd qi))) (k0:Int→(List (Val qX))→(List (Val qi))→Option (List (Val qX)×List (Val qi)×Int)):Nat→Int→Int→(List (Val qX))→(List (Val qi))→Option (List (Val qX)×List (Val qi)×Int)
 | 0,_,_,_,_=>none
 | n+1,v3,v4,v5,v7=>bif (decide (v4<(v5.length:Int)))then (chk (qcF v3) (chk (0≤v4∧v4<(v5.length:Int)) (chk (v4.toNat<v5.length) (chk (0≤v4∧v4<((v5.set v4.toNat (((qZ v3):ByteArray),((v5.getD v4.toNat (qb qX)).2))).length:Int)) (chk (v4.toNat<(v5.set v4.toNat (((qZ v3):ByteArray),((v5.getD v4.toNat (qb qX)).2))).length) (chk (0≤v4∧v4<(((v5.set v4.toNat (((qZ v3):ByteArray),((v5.getD v4.toNat (qb qX)).2))).set v4.toNat ((((v5.set v4.toNat (((qZ v3):ByteArray),((v5.getD v4.toNat (qb qX)).2))).getD v4.toNat (qb qX)).1:ByteArray),((IntKind.i64.wrap (v3+(1:Int))),((((v5.set v4.toNat (((qZ v3):ByteArray),((v5.getD v4.toNat (qb qX)).2))).getD v4.toNat (qb qX)).2).2:Value)))).length:Int)) (chk (v4.toNat<((v5.set v4.toNat (((qZ v3):ByteArray),((v5.getD v4.toNat (qb qX)).2))).set v4.toNat ((((v5.set v4.toNat (((qZ v3):ByteArray),((v5.getD v4.toNat (qb qX)).2))).getD v4.toNat (qb qX)).1:ByteArray),((IntKind.i64.wrap (v3+(1:Int))),((((v5.set v4.toNat (((qZ v3):ByteArray),((v5.getD v4.toNat (qb qX)).2))).getD v4.toNat (qb qX)).2).2:Value)))).length) (chk (v4.toNat<v7.length∧v4.toNat<v6.length∧(((v6.getD v4.toNat (qb (hd qi)):Val qX).2).2:Value)=(((((v5.set v4.toNat (((qZ v3):ByteArray),((v5.getD v4.toNat (qb qX)).2))).set v4.toNat ((((v5.set v4.toNat (((qZ v3):ByteArray),((v5.getD v4.toNat (qb qX)).2))).getD v4.toNat (qb qX)).1:ByteArray),((IntKind.i64.wrap (v3+(1:Int))),((((v5.set v4.toNat (((qZ v3):ByteArray),((v5.getD v4.toNat (qb qX)).2))).getD v4.toNat (qb qX)).2).2:Value)))).getD v4.toNat (qb qX)).2).2:Value)∧qpW (((v7.getD v4.toNat (qb qi)).2).2:List (Val Y83)) (IntKind.i64.wrap ((IntKind.i64.wrap (v3+(1:Int)))+(1:Int)))) (qg9 N v6 k0 n (qxS (((v7.getD v4.toNat (qb qi)).2).2:List (Val Y83)) (IntKind.i64.wrap ((IntKind.i64.wrap (v3+(1:Int)))+(1:Int)))) (IntKind.i64.wrap (v4+(1:Int))) ((v5.set v4.toNat (((qZ v3):ByteArray),((v5.getD v4.toNat (qb qX)).2))).set v4.toNat ((((v5.set v4.toNat (((qZ v3):ByteArray),((v5.getD v4.toNat (qb qX)).2))).getD v4.toNat (qb qX)).1:ByteArray),((IntKind.i64.wrap (v3+(1:Int))),((((v5.set v4.toNat (((qZ v3):ByteArray),((v5.getD v4.toNat (qb qX)).2))).getD v4.toNat (qb qX)).2).2:Value)))) (v7.set v4.toNat (((v7.getD v4.toNat (qb qi)).1:ByteArray),((((v7.getD v4.toNat (qb qi)).2).1:Int),(qhx (((v7.getD v4.toNat (qb qi)).2).2:List (Val Y83)) (IntKind.i64.wrap ((IntKind.i64.wrap (v3+(1:Int)))+(1:Int))))))))))))))))else (k0 v3 v5 v7)
noncomputable def m87 (N:Nat) (v0:List (Val (hd qi))) (v1:List (Val qi)) (v2:Int):Option (List (Val qX)×List (Val qi)×Int):=qg9 N v0 (fun (v11:Int) (v12:List (Val qX)) (v13:List (Val qi))=>some (v12,v13,v11)) N v2 (0:Int) v0 v1
def Γ87:Gam:=[(86,g86)]
theorem qwx:Gam.get Γ87 86=some g86:=rfl
theorem qCo:Gam.get Γ87 124=none:=rfl
def qkD:Nm:=⟨[true,true,false,false,false,true],[],false⟩
theorem qC8:qkD.zero=false:=rfl
theorem qtS:qkD.fix=[]:=rfl
theorem qzG:qkD.keep=[true,true,false,false,false,true]:=rfl
def qp9:Nm:=⟨[false,true],[],false⟩
theorem qyH:qp9.zero=false:=rfl
theorem qxR:qp9.fix=[]:=rfl
theorem qGh:qp9.keep=[false,true]:=rfl
def qmg:Sem:=qfX [] [(35,124,qkz,2,29)]
def qiu:Nat→Tree:=fun _=> .done
def qkG:Nat→Nm:=fun i=>if i=2 then qkD else ⟨[],[],false⟩
def qmH:Nat→Option Jn:=fun _=>none
def qjZ:Nat→Option Nm:=fun i=>if i=0 then some qp9 else none
def qkj:Nat→Option Nm:=fun _=>none
theorem p87:qm qiu (Try.f87.body.getD .skip)=true:=by kernel_rfl
def T87 (N:Nat):Tab:={tr:=qiu,lp:=qkG,ex:=qjZ,rg:=qkj,jn:=qmH,fuel:=N,pins:=true,sem:=qmg}
theorem qyE (N:Nat):(T87 N).pins=true:=rfl
theorem qRv (N:Nat):qn Try.prog (T87 N):=qt fun _=>rfl
theorem qvN (N:Nat):(T87 N).sem=qmg:=rfl
theorem qC6 (N:Nat) (i:Nat):(T87 N).tr i=qiu i:=rfl
theorem qEx (N:Nat) (i:Nat):(T87 N).lp i=qkG i:=rfl
theorem qE1 (N:Nat) (i:Nat):(T87 N).ex i=qjZ i:=rfl
theorem qtT (N:Nat) (i:Nat):(T87 N).rg i=qkj i:=rfl
theorem qzD (N:Nat) (i:Nat):(T87 N).jn i=qmH i:=rfl
theorem qDU (N:Nat):(T87 N).fuel=N:=rfl
noncomputable def qIt:Code:=cut [true,false,true,true,true] (Try.f87.body.getD .skip)
theorem qTQ {N:Nat} {Q:X→St→Option (List (Val qX)×List (Val qi)×Int)} {e:List LV} {h:List Blk}:qf tt Γ87 (T87 N) qIt Q ⟨e,h⟩=qf tt Γ87 (T87 N) (cut [true,false,true,true,true] (Try.f87.body.getD .skip)) Q ⟨e,h⟩:=rfl
theorem qWi (N:Nat) (F:List Nat) (v6:List (Val (hd qi))) {k0:Int→(List (Val qX))→(List (Val qi))→Option (List (Val qX)×List (Val qi)×Int)} {Q:X→St→Option (List (Val qX)×List (Val qi)×Int)} {c:Code} (hc:c=qIt) (hret: ∀st,Q .ret st=qei tt 158 qi qX F v6 [.tmp 4] st) (h0: ∀(v8:Int) (v9:List (Val qX)) (v10:List (Val qi)),Q (.exit 0) ⟨[u,.one (.int .i64 v8),u,u,u,u,u,u,u,u,u,u,u,u,u,u,u,u,u,u,u,u,u,u,u,u,u,u,u,u,u,u,u,u,u,u,u],[.row 158 qX v9 true true 0,.nst F qi v6 v10]⟩=k0 v8 v9 v10): ∀(n:Nat) (v3:Int) (v4:Int) (v5:List (Val qX)) (v7:List (Val qi)),qI (qf tt Γ87 (T87 N) c) true qkD Q n ⟨[.one (.own 0),.one (.int .i64 v3),u,u,u,.one (.int .i64 v4),u,u,u,u,u,u,u,u,u,u,u,u,u,u,u,u,u,u,u,u,u,u,u,u,u,u,u,u,u,u,u],[.row 158 qX v5 true true 0,.nst F qi v6 v7]⟩=qg9 N v6 k0 n v3 v4 v5 v7:=by
 subst hc;intro n;induction n with
 | zero=>intros;rfl
 | succ n ih=>
   intro v3 v4 v5 v7
   rw [qS,qTQ,qg9];unfold Try.f87
   simp (maxSteps:=10000000) -implicitDefEqProofs [qC6,qiu,qEx,qkG,qE1,qjZ,qtT,qkj,qzD,qmH,qDU,qyE,qvN,qmg,qae,qCo,qkz,qr,qab,qtS,qzG,qC8,qxR,qGh,qyH,qwx,g86,hret,h0,ih]
theorem qN4 (N:Nat) (F:List Nat) (v0:List (Val (hd qi))) (v1:List (Val qi)) (v2:Int):qf tt Γ87 (T87 N) (Try.f87.body.getD .skip) (qet (qei tt 158 qi qX F v0 [.tmp 4])) ⟨[.one (.own 0),.one (.int .i64 v2),.tup [],.tup [],.tup [],.tup [],.tup [],.tup [],.tup [],.tup [],.tup [],.tup [],.tup [],.tup [],.tup [],.tup [],.tup [],.tup [],.tup [],.tup [],.tup [],.tup [],.tup [],.tup [],.tup [],.tup [],.tup [],.tup [],.tup [],.tup [],.tup [],.tup [],.tup [],.tup [],.tup [],.tup [],.tup []],[.row 158 qX v0 true true 0,.nst F qi v0 v1]⟩=m87 N v0 v1 v2:=by
 unfold Try.f87
 simp (maxSteps:=10000000) -implicitDefEqProofs [qC6,qiu,qEx,qkG,qE1,qjZ,qtT,qkj,qzD,qmH,qDU,qyE,qvN,qmg,qae,qCo,qkz,qr,qab,qtS,qzG,qC8,qxR,qGh,qyH,qwx,g86]
 rewrite [qWi (k0:=(fun (v11:Int) (v12:List (Val qX)) (v13:List (Val qi))=>some (v12,v13,v11))) N _ _ ?_ ?_ ?_]
 ·rewrite [m87];first | rfl | simp (maxSteps:=10000000) -implicitDefEqProofs []
 ·rfl
 ·intro;simp only [qQ,qR,qT,qr]
 ·intro v11 v12 v13;simp (maxSteps:=10000000) -implicitDefEqProofs [qC6,qiu,qEx,qkG,qE1,qjZ,qtT,qkj,qzD,qmH,qDU,qyE,qvN,qmg,qae,qCo,qkz,qr,qab,qtS,qzG,qC8,qxR,qGh,qyH,qwx,g86]
theorem e87 (hs:List (Val (hd qi))) (xs:List (Val qi)) (k:Int) (h:qpF xs k) (hl:xs.length=hs.length) (hmx:qG qi xs hs=hs):
 ∃N vs,vs.map (qag qi)=(qhU xs k).map (qag qi)∧m87 N hs xs k=some (qG qi (qhU xs k) hs,vs,quH xs k):=by
 refine ⟨xs.length+1,?_⟩
 rw [m87]
 refine qoU (t:=qi) (F:=fun n i k ys vs=>qg9 _ hs _ n k i ys vs) (kf:=fun k ys vs=>some (ys,vs,k)) xs hl hmx (by rw [←hl];exact h.1.1) (fun n i k fs vs hi hh hv hk l1 l2 hsl ⟨hx,hfx⟩=> ?_) (fun n i k ys vs hl hi=> ?_) _ k h.2 (Nat.lt_succ_self _)
 ·have hy:(qG qi fs hs).length=hs.length:=qhS l1
  have e1:vs[i].2.2=fs[i].2.2:=(Prod.mk.inj (Prod.mk.inj hsl).2).2
  refine ⟨(vs[i].1,(vs[i].2.1,qhx vs[i].2.2 (IntKind.i64.wrap (IntKind.i64.wrap (k+1)+1)))),?_,?_⟩
  ·show ((ByteArray.empty,(0,qhx vs[i].2.2 _)):Val qi)=(ByteArray.empty,(0,qhx fs[i].2.2 _))
   rw [e1];rfl
  ·have hb:qpW vs[i].2.2 (IntKind.i64.wrap (IntKind.i64.wrap (k+1)+1)):=⟨by rw [e1,hfx];exact (h.1.2 _ (List.getElem_mem hx)).2.2,qfx _⟩
   rw [qg9,qj (by omega),qd (show qcF k from hk),qq4 hi hh l1,qE hv,qE hh,qoH (by omega),List.set_set,qoH (by omega)]
   repeat rw [List.length_set]
   rw [qd (by omega),qd (by omega),qd (by omega),qd (by omega),qd (by omega),qd (by omega),qd ⟨by omega,by omega,rfl,hb⟩,Int.toNat_natCast]
   rw [←qr6 hh l1]
   simp only [e1]
   rfl
 ·rw [qg9,qh (by omega)]
theorem qP2:SoundMs Try.prog 87 qok:=qsp (tt:=tt) (Γ:=Γ87) hT (ql s86 qp) hm (fn:=Try.f87) Try.func87 (c:=Try.f87.body.getD .skip) (by kernel_rfl) (by kernel_rfl) fun xs hs n F hx hl hmx=>by
 obtain ⟨N,vs,h1,h2⟩:=e87 hs xs n hx hl hmx
 exact ⟨T87 N,vs,rfl,p87,⟨qjA qjB (qkE qPI qi1),qRv N⟩,h1,(qN4 N F hs xs n).trans h2⟩
end Go.T
