/- Marks of relations and regions. -/
import Derived.Test.YtlhkmndfkjlodaaA7
set_option linter.unusedSimpArgs false
set_option linter.unusedVariables false
namespace Go.T
open Go Go.Proofs
set_option maxHeartbeats 4000000
set_option maxRecDepth 100000
theorem qRC {n:Int} (h1:0≤n) (h2:n≤255):IntKind.u8.wrap n=n:=by
 rw [IntKind.wrap_u8];omega
noncomputable def qiy (N:Nat) (k0:ByteArray→Option (qc [i9])):Nat→Int→ByteArray→Option (qc [i9])
 | 0,_,_=>none
 | n+1,v1,v2=>bif (decide ((0:Int)<v1))then (chk ((10:Int)≠0) (chk ((qgf ([(IntKind.u8.wrap (IntKind.i64.wrap ((48:Int)+(v1.tmod (10:Int)))))]:List (Val (.int .u8)))).size+v2.size<4611686018427387904) (chk ((10:Int)≠0) (qiy N k0 n (IntKind.i64.wrap (v1.tdiv (10:Int))) ((qgf ([(IntKind.u8.wrap (IntKind.i64.wrap ((48:Int)+(v1.tmod (10:Int)))))]:List (Val (.int .u8))))++v2)))))else (k0 v2)
noncomputable def m86 (N:Nat) (v0:Int):Option (qc [i9]):=bif (decide (v0≤(0:Int)))then (some ((ByteArray.mk #[109,48]),()))else (qiy N (fun (v4:ByteArray)=>chk ((ByteArray.mk #[109]).size+v4.size<4611686018427387904) (some (((ByteArray.mk #[109])++v4),()))) N v0 (ByteArray.mk #[]))
def Γ86:Gam:=[]
def qly:Nm:=⟨[true,false,false,true],[],false⟩
theorem qCv:qly.zero=false:=rfl
theorem qEo:qly.fix=[]:=rfl
theorem qyZ:qly.keep=[true,false,false,true]:=rfl
def qqG:Nm:=⟨[false,false,false,true],[],false⟩
theorem qyc:qqG.zero=false:=rfl
theorem qCm:qqG.fix=[]:=rfl
theorem qEV:qqG.keep=[false,false,false,true]:=rfl
def qj5:Nat→Tree:=fun _=> .done
def qn7:Nat→Nm:=fun i=>if i=4 then qly else ⟨[],[],false⟩
def qor:Nat→Option Jn:=fun _=>none
def qkG:Nat→Option Nm:=fun i=>if i=0 then some qqG else none
def qpc:Nat→Option Nm:=fun _=>none
theorem p86:qn qj5 (Try.f86.body.getD .skip)=true:=by kernel_rfl
def T86 (N:Nat):Tab:={tr:=qj5,lp:=qn7,ex:=qkG,rg:=qpc,jn:=qor,fuel:=N}
theorem qBf (N:Nat):(T86 N).pins=false:=rfl
theorem qTk (N:Nat):qp Try.prog (T86 N):=qw fun _=>rfl
theorem qDE (N:Nat) (i:Nat):(T86 N).tr i=qj5 i:=rfl
theorem qE4 (N:Nat) (i:Nat):(T86 N).lp i=qn7 i:=rfl
theorem qB7 (N:Nat) (i:Nat):(T86 N).ex i=qkG i:=rfl
theorem qyd (N:Nat) (i:Nat):(T86 N).rg i=qpc i:=rfl
theorem qBo (N:Nat) (i:Nat):(T86 N).jn i=qor i:=rfl
theorem qwO (N:Nat):(T86 N).fuel=N:=rfl
noncomputable def qFQ:Code:=cut [true,true,true,false,true,true] (Try.f86.body.getD .skip)
theorem qLH {N:Nat} {Q:X→St→Option (qc [i9])} {e:List LV} {h:List Blk}:qe tt Γ86 (T86 N) qFQ Q ⟨e,h⟩=qe tt Γ86 (T86 N) (cut [true,true,true,false,true,true] (Try.f86.body.getD .skip)) Q ⟨e,h⟩:=rfl
theorem qQy (N:Nat) {k0:ByteArray→Option (qc [i9])} {Q:X→St→Option (qc [i9])} {c:Code} (hc:c=qFQ) (hret: ∀st,Q .ret st=qI tt true [i9] [.tmp 2] st) (h0: ∀(v3:ByteArray),Q (.exit 0) ⟨[u,u,u,.one (.str v3),u,u,u,u,u,u,u,u,u,u,u,u,u,u,u,u],[]⟩=k0 v3): ∀(n:Nat) (v1:Int) (v2:ByteArray),qC (qe tt Γ86 (T86 N) c) false qly Q n ⟨[.one (.int .i64 v1),u,u,.one (.str v2),u,u,u,u,u,u,u,u,u,u,u,u,u,u,u,u],[]⟩=qiy N k0 n v1 v2:=by
 subst hc;intro n;induction n with
 | zero=>intros;rfl
 | succ n ih=>
   intro v1 v2
   rw [qM,qLH,qiy];unfold Try.f86
   simp (maxSteps:=10000000) -implicitDefEqProofs [qDE,qj5,qE4,qn7,qB7,qkG,qyd,qpc,qBo,qor,qwO,qBf,qEo,qyZ,qCv,qCm,qEV,qyc,hret,h0,ih]
theorem qPc (N:Nat) (v0:Int):qe tt Γ86 (T86 N) (Try.f86.body.getD .skip) (qr tt true [i9] [.tmp 2]) (qv [i3] 20 (v0,()))=m86 N v0:=by
 unfold Try.f86
 simp (maxSteps:=10000000) -implicitDefEqProofs [qDE,qj5,qE4,qn7,qB7,qkG,qyd,qpc,qBo,qor,qwO,qBf,qEo,qyZ,qCv,qCm,qEV,qyc]
 rewrite [qQy (k0:=(fun (v4:ByteArray)=>chk ((ByteArray.mk #[109]).size+v4.size<4611686018427387904) (some (((ByteArray.mk #[109])++v4),())))) N ?_ ?_ ?_]
 ·rewrite [m86];first | rfl | simp (maxSteps:=10000000) -implicitDefEqProofs []
 ·rfl
 ·intro;simp only [qK,qL,qN,qm]
 ·intro v4;simp (maxSteps:=10000000) -implicitDefEqProofs [qDE,qj5,qE4,qn7,qB7,qkG,qyd,qpc,qBo,qor,qwO,qBf,qEo,qyZ,qCv,qCm,qEV,qyc]
def qe6 (k:Int):Prop:=k≤9223372036854775807
theorem t86 (N:Nat) (K:ByteArray→Option (qc [i9])): ∀(f n k:Nat) (acc:ByteArray),k<10 ^ f→f<n→k≤9223372036854775807→acc.size+f≤1000→qiy N K n (k:Int) acc=K (qfY f k acc)
 | 0,0,_,_,_,h,_,_=>by omega
 | 0,n+1,k,acc,hk,_,_,_=>by
   have:k=0:=by simp at hk;exact hk
   subst this
   rw [qiy,qh (by omega)];rfl
 | f+1,0,_,_,_,h,_,_=>by omega
 | f+1,n+1,k,acc,hk,hn,hb,ha=>by
   rw [qiy,qfY]
   by_cases h0:k=0
   ·subst h0;rw [qh (by omega),if_pos rfl]
   ·rw [qj (by omega),if_neg h0]
    have e1:((k:Int).tmod 10)=((k % 10:Nat):Int):=by rw [Int.tmod_eq_emod_of_nonneg (by omega)];rfl
    have e2:((k:Int).tdiv 10)=((k / 10:Nat):Int):=by rw [Int.tdiv_eq_ediv_of_nonneg (by omega)];rfl
    have e3:IntKind.i64.wrap ((48:Int)+((k % 10:Nat):Int))=((48+k % 10:Nat):Int):=by rw [qb4 (by omega) (by omega)];omega
    have e4:IntKind.u8.wrap ((48+k % 10:Nat):Int)=((48+k % 10:Nat):Int):=by
     have:k % 10<10:=Nat.mod_lt _ (by omega)
     exact qRC (by omega) (by omega)
    have e5:IntKind.i64.wrap ((k / 10:Nat):Int)=((k / 10:Nat):Int):=qb4 (by omega) (by omega)
    have e6:qgf ([((48+k % 10:Nat):Int)]:List (Val (.int .u8)))=ByteArray.mk #[UInt8.ofNat (48+k % 10)]:=rfl
    rw [e1,e2,e3,e4,e5,e6,qd (by decide),qd (by have e:(ByteArray.mk #[UInt8.ofNat (48+k % 10)]).size=1:=rfl;omega),qd (by decide)]
    have hsz:(ByteArray.mk #[UInt8.ofNat (48+k % 10)]++acc).size=1+acc.size:=by rw [ByteArray.size_append];rfl
    exact t86 N K f n (k / 10) _ (by rw [Nat.pow_succ]at hk;omega) (by omega) (by omega) (by omega)
theorem qQm: ∀(f n:Nat) (acc:ByteArray),(qfY f n acc).size≤acc.size+f:=by
 intro f
 induction f with
 | zero=>intro n acc;simp [qfY]
 | succ f ih=>
   intro n acc
   simp only [qfY]
   split
   ·omega
   ·have:=ih (n / 10) (ByteArray.mk #[UInt8.ofNat (48+n % 10)]++acc)
    rw [ByteArray.size_append]at this
    have e:(ByteArray.mk #[UInt8.ofNat (48+n % 10)]).size=1:=rfl
    omega
def g86:G:={ps:=[i3],rs:=[i9],dp:=true,pre:=fun x=>qe6 x.1,fn:=fun x=>(q7 x.1,())}
theorem e86 (k:Int) (h:qe6 k): ∃N,m86 N k=some (q7 k,()):=⟨100,by
 rw [m86,q7]
 by_cases h0:k≤0
 ·rw [qj h0,if_pos h0]
 ·rw [qh h0,if_neg h0]
  have ek:k=(k.toNat:Int):=by omega
  have hk:k.toNat≤9223372036854775807:=by unfold qe6 at h;omega
  have hp:(9223372036854775808:Nat)≤10 ^ 64:=by decide
  have hd:=qQm 64 k.toNat ByteArray.empty
  have e0:ByteArray.empty.size=0:=rfl
  have e1:(ByteArray.mk #[109]).size=1:=rfl
  have:=t86 100 (fun v=>chk ((ByteArray.mk #[109]).size+v.size<4611686018427387904) (some (ByteArray.mk #[109]++v,()))) 64 100 k.toNat ByteArray.empty (by omega) (by omega) hk (by omega)
  rw [←ek]at this
  refine this.trans ?_
  rw [qd (by omega)]⟩
theorem s86:Sound Try.prog 86 g86:=qz (tt:=tt) (Γ:=Γ86) hT qt hm (fn:=Try.f86) Try.func86 (c:=Try.f86.body.getD .skip) (by kernel_rfl) (by kernel_rfl) fun x hx=>by
 obtain ⟨N,h⟩:=e86 x.1 hx
 exact ⟨T86 N,p86,qy _,qTk N,(qPc N x.1).trans h⟩
def qiJ (x:List (Val qi)) (k:Int):List (Val qi):=(mkT (.slice 158 qi) x k).1
def quQ (x:List (Val qi)) (k:Int):Int:=(mkT (.slice 158 qi) x k).2
def qp7 (x:List (Val qi)) (k:Int):Prop:=Bd (.slice 158 qi) x∧k≤9223372036854775807
def qoR:Gms:=⟨158,qi,qp7,qiJ,quQ⟩
noncomputable def qhJ (N:Nat) (v6:List (Val (hd qi))) (k0:Int→(List (Val qV))→(List (Val qi))→Option (List (Val qV)×List (Val qi)×Int)):Nat→Int→Int→(List (Val qV))→(List (Val qi))→Option (List (Val qV)×List (Val qi)×Int)
 | 0,_,_,_,_=>none
 | n+1,v3,v4,v5,v7=>bif (decide (v4<(v5.length:Int)))then (chk (qe6 v3) (chk (0≤v4∧v4<(v5.length:Int)) (chk (v4.toNat<v5.length) (chk (0≤v4∧v4<((v5.set v4.toNat (((q7 v3):ByteArray),((v5.getD v4.toNat (qa qV)).2))).length:Int)) (chk (v4.toNat<(v5.set v4.toNat (((q7 v3):ByteArray),((v5.getD v4.toNat (qa qV)).2))).length) (chk (0≤v4∧v4<(((v5.set v4.toNat (((q7 v3):ByteArray),((v5.getD v4.toNat (qa qV)).2))).set v4.toNat ((((v5.set v4.toNat (((q7 v3):ByteArray),((v5.getD v4.toNat (qa qV)).2))).getD v4.toNat (qa qV)).1:ByteArray),((IntKind.i64.wrap (v3+(1:Int))),((((v5.set v4.toNat (((q7 v3):ByteArray),((v5.getD v4.toNat (qa qV)).2))).getD v4.toNat (qa qV)).2).2:Value)))).length:Int)) (chk (v4.toNat<((v5.set v4.toNat (((q7 v3):ByteArray),((v5.getD v4.toNat (qa qV)).2))).set v4.toNat ((((v5.set v4.toNat (((q7 v3):ByteArray),((v5.getD v4.toNat (qa qV)).2))).getD v4.toNat (qa qV)).1:ByteArray),((IntKind.i64.wrap (v3+(1:Int))),((((v5.set v4.toNat (((q7 v3):ByteArray),((v5.getD v4.toNat (qa qV)).2))).getD v4.toNat (qa qV)).2).2:Value)))).length) (chk (v4.toNat<v7.length∧v4.toNat<v6.length∧(((v6.getD v4.toNat (qa (hd qi)):Val qV).2).2:Value)=(((((v5.set v4.toNat (((q7 v3):ByteArray),((v5.getD v4.toNat (qa qV)).2))).set v4.toNat ((((v5.set v4.toNat (((q7 v3):ByteArray),((v5.getD v4.toNat (qa qV)).2))).getD v4.toNat (qa qV)).1:ByteArray),((IntKind.i64.wrap (v3+(1:Int))),((((v5.set v4.toNat (((q7 v3):ByteArray),((v5.getD v4.toNat (qa qV)).2))).getD v4.toNat (qa qV)).2).2:Value)))).getD v4.toNat (qa qV)).2).2:Value)∧qqo (((v7.getD v4.toNat (qa qi)).2).2:List (Val Y83)) (IntKind.i64.wrap ((IntKind.i64.wrap (v3+(1:Int)))+(1:Int)))) (qhJ N v6 k0 n (qxG (((v7.getD v4.toNat (qa qi)).2).2:List (Val Y83)) (IntKind.i64.wrap ((IntKind.i64.wrap (v3+(1:Int)))+(1:Int)))) (IntKind.i64.wrap (v4+(1:Int))) ((v5.set v4.toNat (((q7 v3):ByteArray),((v5.getD v4.toNat (qa qV)).2))).set v4.toNat ((((v5.set v4.toNat (((q7 v3):ByteArray),((v5.getD v4.toNat (qa qV)).2))).getD v4.toNat (qa qV)).1:ByteArray),((IntKind.i64.wrap (v3+(1:Int))),((((v5.set v4.toNat (((q7 v3):ByteArray),((v5.getD v4.toNat (qa qV)).2))).getD v4.toNat (qa qV)).2).2:Value)))) (v7.set v4.toNat (((v7.getD v4.toNat (qa qi)).1:ByteArray),((((v7.getD v4.toNat (qa qi)).2).1:Int),(qih (((v7.getD v4.toNat (qa qi)).2).2:List (Val Y83)) (IntKind.i64.wrap ((IntKind.i64.wrap (v3+(1:Int)))+(1:Int))))))))))))))))else (k0 v3 v5 v7)
noncomputable def m87 (N:Nat) (v0:List (Val (hd qi))) (v1:List (Val qi)) (v2:Int):Option (List (Val qV)×List (Val qi)×Int):=qhJ N v0 (fun (v11:Int) (v12:List (Val qV)) (v13:List (Val qi))=>some (v12,v13,v11)) N v2 (0:Int) v0 v1
def Γ87:Gam:=[(86,g86)]
theorem qws:Gam.get Γ87 86=some g86:=rfl
theorem qBz:Gam.get Γ87 124=none:=rfl
def qlh:Nm:=⟨[true,true,false,false,false,true],[],false⟩
theorem qCf:qlh.zero=false:=rfl
theorem qt4:qlh.fix=[]:=rfl
theorem qzg:qlh.keep=[true,true,false,false,false,true]:=rfl
def qqC:Nm:=⟨[false,true],[],false⟩
theorem qyp:qqC.zero=false:=rfl
theorem qxF:qqC.fix=[]:=rfl
theorem qE0:qqC.keep=[false,true]:=rfl
def qmP:Sem:=qgs [] [(35,124,qlb,2,29)]
def qjj:Nat→Tree:=fun _=> .done
def qlk:Nat→Nm:=fun i=>if i=2 then qlh else ⟨[],[],false⟩
def qnh:Nat→Option Jn:=fun _=>none
def qkD:Nat→Option Nm:=fun i=>if i=0 then some qqC else none
def qkT:Nat→Option Nm:=fun _=>none
theorem p87:qn qjj (Try.f87.body.getD .skip)=true:=by kernel_rfl
def T87 (N:Nat):Tab:={tr:=qjj,lp:=qlk,ex:=qkD,rg:=qkT,jn:=qnh,fuel:=N,pins:=true,sem:=qmP}
theorem qym (N:Nat):(T87 N).pins=true:=rfl
theorem qO8 (N:Nat):qp Try.prog (T87 N):=qw fun _=>rfl
theorem qvL (N:Nat):(T87 N).sem=qmP:=rfl
theorem qCd (N:Nat) (i:Nat):(T87 N).tr i=qjj i:=rfl
theorem qDq (N:Nat) (i:Nat):(T87 N).lp i=qlk i:=rfl
theorem qDP (N:Nat) (i:Nat):(T87 N).ex i=qkD i:=rfl
theorem qt5 (N:Nat) (i:Nat):(T87 N).rg i=qkT i:=rfl
theorem qzd (N:Nat) (i:Nat):(T87 N).jn i=qnh i:=rfl
theorem qCQ (N:Nat):(T87 N).fuel=N:=rfl
noncomputable def qG3:Code:=cut [true,false,true,true,true] (Try.f87.body.getD .skip)
theorem qRb {N:Nat} {Q:X→St→Option (List (Val qV)×List (Val qi)×Int)} {e:List LV} {h:List Blk}:qe tt Γ87 (T87 N) qG3 Q ⟨e,h⟩=qe tt Γ87 (T87 N) (cut [true,false,true,true,true] (Try.f87.body.getD .skip)) Q ⟨e,h⟩:=rfl
theorem qTf (N:Nat) (F:List Nat) (v6:List (Val (hd qi))) {k0:Int→(List (Val qV))→(List (Val qi))→Option (List (Val qV)×List (Val qi)×Int)} {Q:X→St→Option (List (Val qV)×List (Val qi)×Int)} {c:Code} (hc:c=qG3) (hret: ∀st,Q .ret st=qeO tt 158 qi qV F v6 [.tmp 4] st) (h0: ∀(v8:Int) (v9:List (Val qV)) (v10:List (Val qi)),Q (.exit 0) ⟨[u,.one (.int .i64 v8),u,u,u,u,u,u,u,u,u,u,u,u,u,u,u,u,u,u,u,u,u,u,u,u,u,u,u,u,u,u,u,u,u,u,u],[.row 158 qV v9 true true 0,.nst F qi v6 v10]⟩=k0 v8 v9 v10): ∀(n:Nat) (v3:Int) (v4:Int) (v5:List (Val qV)) (v7:List (Val qi)),qC (qe tt Γ87 (T87 N) c) true qlh Q n ⟨[.one (.own 0),.one (.int .i64 v3),u,u,u,.one (.int .i64 v4),u,u,u,u,u,u,u,u,u,u,u,u,u,u,u,u,u,u,u,u,u,u,u,u,u,u,u,u,u,u,u],[.row 158 qV v5 true true 0,.nst F qi v6 v7]⟩=qhJ N v6 k0 n v3 v4 v5 v7:=by
 subst hc;intro n;induction n with
 | zero=>intros;rfl
 | succ n ih=>
   intro v3 v4 v5 v7
   rw [qM,qRb,qhJ];unfold Try.f87
   simp (maxSteps:=10000000) -implicitDefEqProofs [qCd,qjj,qDq,qlk,qDP,qkD,qt5,qkT,qzd,qnh,qCQ,qym,qvL,qmP,qR,qBz,qlb,qm,q5,qt4,qzg,qCf,qxF,qE0,qyp,qws,g86,hret,h0,ih]
theorem qL8 (N:Nat) (F:List Nat) (v0:List (Val (hd qi))) (v1:List (Val qi)) (v2:Int):qe tt Γ87 (T87 N) (Try.f87.body.getD .skip) (qeV (qeO tt 158 qi qV F v0 [.tmp 4])) ⟨[.one (.own 0),.one (.int .i64 v2),.tup [],.tup [],.tup [],.tup [],.tup [],.tup [],.tup [],.tup [],.tup [],.tup [],.tup [],.tup [],.tup [],.tup [],.tup [],.tup [],.tup [],.tup [],.tup [],.tup [],.tup [],.tup [],.tup [],.tup [],.tup [],.tup [],.tup [],.tup [],.tup [],.tup [],.tup [],.tup [],.tup [],.tup [],.tup []],[.row 158 qV v0 true true 0,.nst F qi v0 v1]⟩=m87 N v0 v1 v2:=by
 unfold Try.f87
 simp (maxSteps:=10000000) -implicitDefEqProofs [qCd,qjj,qDq,qlk,qDP,qkD,qt5,qkT,qzd,qnh,qCQ,qym,qvL,qmP,qR,qBz,qlb,qm,q5,qt4,qzg,qCf,qxF,qE0,qyp,qws,g86]
 rewrite [qTf (k0:=(fun (v11:Int) (v12:List (Val qV)) (v13:List (Val qi))=>some (v12,v13,v11))) N _ _ ?_ ?_ ?_]
 ·rewrite [m87];first | rfl | simp (maxSteps:=10000000) -implicitDefEqProofs []
 ·rfl
 ·intro;simp only [qK,qL,qN,qm]
 ·intro v11 v12 v13;simp (maxSteps:=10000000) -implicitDefEqProofs [qCd,qjj,qDq,qlk,qDP,qkD,qt5,qkT,qzd,qnh,qCQ,qym,qvL,qmP,qR,qBz,qlb,qm,q5,qt4,qzg,qCf,qxF,qE0,qyp,qws,g86]
theorem e87 (hs:List (Val (hd qi))) (xs:List (Val qi)) (k:Int) (h:qp7 xs k) (hl:xs.length=hs.length) (hmx:qG qi xs hs=hs):
 ∃N vs,vs.map (q8 qi)=(qiJ xs k).map (q8 qi)∧m87 N hs xs k=some (qG qi (qiJ xs k) hs,vs,quQ xs k):=by
 refine ⟨xs.length+1,?_⟩
 rw [m87]
 refine qpq (t:=qi) (F:=fun n i k ys vs=>qhJ _ hs _ n k i ys vs) (kf:=fun k ys vs=>some (ys,vs,k)) xs hl hmx (by rw [←hl];exact h.1.1) (fun n i k fs vs hi hh hv hk l1 l2 hsl ⟨hx,hfx⟩=> ?_) (fun n i k ys vs hl hi=> ?_) _ k h.2 (Nat.lt_succ_self _)
 ·have hy:(qG qi fs hs).length=hs.length:=qiH l1
  have e1:vs[i].2.2=fs[i].2.2:=(Prod.mk.inj (Prod.mk.inj hsl).2).2
  refine ⟨(vs[i].1,(vs[i].2.1,qih vs[i].2.2 (IntKind.i64.wrap (IntKind.i64.wrap (k+1)+1)))),?_,?_⟩
  ·show ((ByteArray.empty,(0,qih vs[i].2.2 _)):Val qi)=(ByteArray.empty,(0,qih fs[i].2.2 _))
   rw [e1];rfl
  ·have hb:qqo vs[i].2.2 (IntKind.i64.wrap (IntKind.i64.wrap (k+1)+1)):=⟨by rw [e1,hfx];exact (h.1.2 _ (List.getElem_mem hx)).2.2,qf4 _⟩
   rw [qhJ,qj (by omega),qd (show qe6 k from hk),qru hi hh l1,qA hv,qA hh,qpd (by omega),List.set_set,qpd (by omega)]
   repeat rw [List.length_set]
   rw [qd (by omega),qd (by omega),qd (by omega),qd (by omega),qd (by omega),qd (by omega),qd ⟨by omega,by omega,rfl,hb⟩,Int.toNat_natCast]
   rw [←qsq hh l1]
   simp only [e1]
   rfl
 ·rw [qhJ,qh (by omega)]
theorem qNR:SoundMs Try.prog 87 qoR:=qsJ (tt:=tt) (Γ:=Γ87) hT (ql s86 qt) hm (fn:=Try.f87) Try.func87 (c:=Try.f87.body.getD .skip) (by kernel_rfl) (by kernel_rfl) fun xs hs n F hx hl hmx=>by
 obtain ⟨N,vs,h1,h2⟩:=e87 hs xs n hx hl hmx
 exact ⟨T87 N,vs,rfl,p87,⟨qkg qkh (qli qNA qjK),qO8 N⟩,h1,(qL8 N F hs xs n).trans h2⟩
end Go.T
