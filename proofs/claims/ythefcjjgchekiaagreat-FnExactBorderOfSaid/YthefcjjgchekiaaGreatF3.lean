/- Marks of regions. -/
import Derived.Test.YthefcjjgchekiaaGreatF1
import Derived.Test.YthefcjjgchekiaaGreatA8a
set_option linter.unusedSimpArgs false
set_option linter.unusedVariables false
namespace Go.T
open Go Go.Proofs
set_option maxHeartbeats 4000000
set_option maxRecDepth 100000
def qnm (x:List (Val (.int .i64))) (k:Int):List (Val (.int .i64)):=(mkT (.slice 3 (.int .i64)) x k).1
def qhE (x:List (Val (.int .i64))) (k:Int):Int:=(mkT (.slice 3 (.int .i64)) x k).2
def qBj (x:List (Val (.int .i64))) (k:Int):Prop:=Bd (.slice 3 (.int .i64)) x∧k≤9223372036854775807
def qwX:Gms:=⟨3,(.int .i64),qBj,qnm,qhE⟩
noncomputable def qkV (N:Nat) (k0:Int→(List (Val (.int .i64)))→Option ((List (Val (.int .i64)))×Int)):Nat→Int→Int→(List (Val (.int .i64)))→Option ((List (Val (.int .i64)))×Int)
 | 0,_,_,_=>none
 | n+1,v2,v3,v4=>bif (decide (v3<(v4.length:Int)))then (chk (0≤v3∧v3<(v4.length:Int)) (chk (v3.toNat<v4.length) (qkV N k0 n (IntKind.i64.wrap (v2+(1:Int))) (IntKind.i64.wrap (v3+(1:Int))) (v4.set v3.toNat v2))))else (k0 v2 v4)
noncomputable def qA9 (N:Nat) (v0:List (Val (.int .i64))) (v1:Int):Option ((List (Val (.int .i64)))×Int):=qkV N (fun (v7:Int) (v8:List (Val (.int .i64)))=>some (v8,v7)) N v1 (0:Int) v0
def qqm:Gam:=[]
def qtW:Nm:=⟨[true,true,false,false,false,true],[],false⟩
theorem q0z:qtW.zero=false:=rfl
theorem qR1:qtW.fix=[]:=rfl
theorem qHF:qtW.keep=[true,true,false,false,false,true]:=rfl
def qCb:Nm:=⟨[false,true],[],false⟩
theorem qT0:qCb.zero=false:=rfl
theorem qXF:qCb.fix=[]:=rfl
theorem q16:qCb.keep=[false,true]:=rfl
def quL:Sem:=qew [] []
def qow:Nat→Tree:=fun _=> .done
def qu3:Nat→Nm:=fun i=>if i=2 then qtW else ⟨[],[],false⟩
def qy7:Nat→Option Jn:=fun _=>none
def qxP:Nat→Option Nm:=fun i=>if i=0 then some qCb else none
def qtM:Nat→Option Nm:=fun _=>none
theorem zkh:qh qow (Tryz.f100.body.getD .skip)=true:=by kernel_rfl
def qc6 (N:Nat):Tab:={tr:=qow,lp:=qu3,ex:=qxP,rg:=qtM,jn:=qy7,fuel:=N,pins:=true,sem:=quL}
theorem q4e (N:Nat):(qc6 N).pins=true:=rfl
theorem zzL (N:Nat):qk Tryz.prog (qc6 N):=qo fun _=>rfl
theorem q1p (N:Nat):(qc6 N).sem=quL:=rfl
theorem qMJ (N:Nat) (i:Nat):(qc6 N).tr i=qow i:=rfl
theorem qJ9 (N:Nat) (i:Nat):(qc6 N).lp i=qu3 i:=rfl
theorem qJ5 (N:Nat) (i:Nat):(qc6 N).ex i=qxP i:=rfl
theorem q3V (N:Nat) (i:Nat):(qc6 N).rg i=qtM i:=rfl
theorem qRc (N:Nat) (i:Nat):(qc6 N).jn i=qy7 i:=rfl
theorem qSY (N:Nat):(qc6 N).fuel=N:=rfl
noncomputable def q9h:Code:=cut [true,false,true,true,true] (Tryz.f100.body.getD .skip)
theorem zz4 {N:Nat} {Q:X→St→Option ((List (Val (.int .i64)))×Int)} {e:List LV} {h:List Blk}:qf tt qqm (qc6 N) q9h Q ⟨e,h⟩=qf tt qqm (qc6 N) (cut [true,false,true,true,true] (Tryz.f100.body.getD .skip)) Q ⟨e,h⟩:=rfl
theorem zjm (N:Nat) {k0:Int→(List (Val (.int .i64)))→Option ((List (Val (.int .i64)))×Int)} {Q:X→St→Option ((List (Val (.int .i64)))×Int)} {c:Code} (hc:c=q9h) (hret: ∀st,Q .ret st=qi1 tt (.slice 3 (.int .i64)) [.own 0] [.tmp 4] st) (h0: ∀(v5:Int) (v6:List (Val (.int .i64))),Q (.exit 0) ⟨[u,.one (.int .i64 v5),u,u,u,u,u,u,u,u,u,u,u,u,u,u,u,u,u],[.row 3 (.int .i64) v6 true true 0]⟩=k0 v5 v6): ∀(n:Nat) (v2:Int) (v3:Int) (v4:List (Val (.int .i64))),qD (qf tt qqm (qc6 N) c) true qtW Q n ⟨[.one (.own 0),.one (.int .i64 v2),u,u,u,.one (.int .i64 v3),u,u,u,u,u,u,u,u,u,u,u,u,u],[.row 3 (.int .i64) v4 true true 0]⟩=qkV N k0 n v2 v3 v4:=by
 subst hc;intro n;induction n with
 | zero=>intros;rfl
 | succ n ih=>
   intro v2 v3 v4
   rw [qN,zz4,qkV];unfold Tryz.f100
   simp (maxSteps:=10000000) -implicitDefEqProofs [qMJ,qow,qJ9,qu3,qJ5,qxP,q3V,qtM,qRc,qy7,qSY,q4e,q1p,quL,qaa,qB,qcx,qR1,qHF,q0z,qXF,q16,qT0,hret,h0,ih]
theorem zfN (N:Nat) (v0:List (Val (.int .i64))) (v1:Int):qf tt qqm (qc6 N) (Tryz.f100.body.getD .skip) (qc8 (qi1 tt (.slice 3 (.int .i64)) (qT 0 (.slice 3 (.int .i64)) v0).1 [.tmp 4])) (qcx i25 19 v0 v1)=qA9 N v0 v1:=by
 unfold Tryz.f100
 simp (maxSteps:=10000000) -implicitDefEqProofs [qMJ,qow,qJ9,qu3,qJ5,qxP,q3V,qtM,qRc,qy7,qSY,q4e,q1p,quL,qaa,qB,qcx,qR1,qHF,q0z,qXF,q16,qT0]
 rewrite [zjm (k0:=(fun (v7:Int) (v8:List (Val (.int .i64)))=>some (v8,v7))) N ?_ ?_ ?_]
 ·rewrite [qA9];first | rfl | simp (maxSteps:=10000000) -implicitDefEqProofs []
 ·rfl
 ·intro;simp only [qK,qL,qJ,qB]
 ·intro v7 v8;simp (maxSteps:=10000000) -implicitDefEqProofs [qMJ,qow,qJ9,qu3,qJ5,qxP,q3V,qtM,qRc,qy7,qSY,q4e,q1p,quL,qaa,qB,qcx,qR1,qHF,q0z,qXF,q16,qT0]
theorem zjK (x:List (Val (.int .i64))) (k:Int) (h:qBj x k): ∃N,qA9 N x k=some (qnm x k,qhE x k):=⟨x.length+1,by
 rw [qA9]
 refine zi7 (f:=mkE (.int .i64)) (F:=fun n i k s=>qkV _ _ n k i s) (kf:=fun k s=>some (s,k)) x h.1.1 (qth _) (fun n i k s hi _ hl=> ?_) (fun n i k s hl hi=> ?_) _ k h.2 (Nat.lt_succ_self _)
 ·rw [qkV,qj (by omega),qe (by omega),qe (by omega)]
  rfl
 ·rw [qkV,qi (by omega)]⟩
theorem zob:SoundMs Tryz.prog 100 qwX:=zAN (tt:=tt) (Γ:=qqm) hT qn hm (fn:=Tryz.f100) Tryz.func100 (c:=Tryz.f100.body.getD .skip) (by kernel_rfl) (by kernel_rfl) rfl fun x n hx=>by
 obtain ⟨N,h⟩:=zjK x n hx
 exact ⟨qc6 N,rfl,zkh,⟨qhH qg8 qgU,zzL N⟩,(zfN N x n).trans h⟩
def ql1 (x:List (Val qa)) (k:Int):List (Val qa):=(mkT (.slice 108 qa) x k).1
def qP6 (x:List (Val qa)) (k:Int):Int:=(mkT (.slice 108 qa) x k).2
def qEW (x:List (Val qa)) (k:Int):Prop:=Bd (.slice 108 qa) x∧k≤9223372036854775807
def qwz:Gms:=⟨108,qa,qEW,ql1,qP6⟩
noncomputable def qkN (N:Nat) (v6:List (Val (hd qa))) (k0:Int→(List (Val qaM))→(List (Val qa))→Option (List (Val qaM)×List (Val qa)×Int)):Nat→Int→Int→(List (Val qaM))→(List (Val qa))→Option (List (Val qaM)×List (Val qa)×Int)
 | 0,_,_,_,_=>none
 | n+1,v3,v4,v5,v7=>bif (decide (v4<(v5.length:Int)))then (chk (0≤v4∧v4<(v5.length:Int)) (chk (v4.toNat<v5.length) (chk (v4.toNat<v7.length∧v4.toNat<v6.length∧((v6.getD v4.toNat (qb (hd qa)):Val qaM).1:Value)=((v5.getD v4.toNat (qb qaM)).1:Value)∧qBj ((v7.getD v4.toNat (qb qa)).1:List (Val (.int .i64))) v3) (chk (0≤v4∧v4<(v5.length:Int)) (chk (v4.toNat<v5.length) (chk ((3:Int)≠0) (chk (0≤v4∧v4<((v5.set v4.toNat (((v5.getD v4.toNat (qb qaM)).1:Value),((qhE ((v7.getD v4.toNat (qb qa)).1:List (Val (.int .i64))) v3),(((v5.getD v4.toNat (qb qaM)).2).2:Bool)))).length:Int)) (chk (v4.toNat<(v5.set v4.toNat (((v5.getD v4.toNat (qb qaM)).1:Value),((qhE ((v7.getD v4.toNat (qb qa)).1:List (Val (.int .i64))) v3),(((v5.getD v4.toNat (qb qaM)).2).2:Bool)))).length) (qkN N v6 k0 n (IntKind.i64.wrap ((IntKind.i64.wrap ((qhE ((v7.getD v4.toNat (qb qa)).1:List (Val (.int .i64))) v3)+(1:Int)))+(1:Int))) (IntKind.i64.wrap (v4+(1:Int))) ((v5.set v4.toNat (((v5.getD v4.toNat (qb qaM)).1:Value),((qhE ((v7.getD v4.toNat (qb qa)).1:List (Val (.int .i64))) v3),(((v5.getD v4.toNat (qb qaM)).2).2:Bool)))).set v4.toNat ((((v5.set v4.toNat (((v5.getD v4.toNat (qb qaM)).1:Value),((qhE ((v7.getD v4.toNat (qb qa)).1:List (Val (.int .i64))) v3),(((v5.getD v4.toNat (qb qaM)).2).2:Bool)))).getD v4.toNat (qb qaM)).1:Value),(((((v5.set v4.toNat (((v5.getD v4.toNat (qb qaM)).1:Value),((qhE ((v7.getD v4.toNat (qb qa)).1:List (Val (.int .i64))) v3),(((v5.getD v4.toNat (qb qaM)).2).2:Bool)))).getD v4.toNat (qb qaM)).2).1:Int),(decide (((IntKind.i64.wrap ((qhE ((v7.getD v4.toNat (qb qa)).1:List (Val (.int .i64))) v3)+(1:Int))).tmod (3:Int))=(0:Int)))))) (v7.set v4.toNat ((qnm ((v7.getD v4.toNat (qb qa)).1:List (Val (.int .i64))) v3),(v7.getD v4.toNat (qb qa)).2)))))))))))else (k0 v3 v5 v7)
noncomputable def qB6 (N:Nat) (v0:List (Val (hd qa))) (v1:List (Val qa)) (v2:Int):Option (List (Val qaM)×List (Val qa)×Int):=qkN N v0 (fun (v11:Int) (v12:List (Val qaM)) (v13:List (Val qa))=>some (v12,v13,v11)) N v2 (0:Int) v0 v1
def qnl:Gam:=[]
theorem qPY:Gam.get qnl 100=none:=rfl
def qqR:Nm:=⟨[true,true,false,false,false,true],[],false⟩
theorem qPV:qqR.zero=false:=rfl
theorem qRr:qqR.fix=[]:=rfl
theorem qU3:qqR.keep=[true,true,false,false,false,true]:=rfl
def qEq:Nm:=⟨[false,true],[],false⟩
theorem qYy:qEq.zero=false:=rfl
theorem q1C:qEq.fix=[]:=rfl
theorem qTT:qEq.keep=[false,true]:=rfl
def qvF:Sem:=qew [] [(18,100,qwX,0,13)]
def qpB:Nat→Tree:=fun _=> .done
def qrD:Nat→Nm:=fun i=>if i=2 then qqR else ⟨[],[],false⟩
def qwU:Nat→Option Jn:=fun _=>none
def qre:Nat→Option Nm:=fun i=>if i=0 then some qEq else none
def qtZ:Nat→Option Nm:=fun _=>none
theorem zqz:qh qpB (Tryz.f191.body.getD .skip)=true:=by kernel_rfl
def qcW (N:Nat):Tab:={tr:=qpB,lp:=qrD,ex:=qre,rg:=qtZ,jn:=qwU,fuel:=N,pins:=true,sem:=qvF}
theorem qOs (N:Nat):(qcW N).pins=true:=rfl
theorem zfI (N:Nat):qk Tryz.prog (qcW N):=qo fun _=>rfl
theorem qVH (N:Nat):(qcW N).sem=qvF:=rfl
theorem qLt (N:Nat) (i:Nat):(qcW N).tr i=qpB i:=rfl
theorem qOi (N:Nat) (i:Nat):(qcW N).lp i=qrD i:=rfl
theorem qYI (N:Nat) (i:Nat):(qcW N).ex i=qre i:=rfl
theorem qKj (N:Nat) (i:Nat):(qcW N).rg i=qtZ i:=rfl
theorem qL6 (N:Nat) (i:Nat):(qcW N).jn i=qwU i:=rfl
theorem qVT (N:Nat):(qcW N).fuel=N:=rfl
noncomputable def q9K:Code:=cut [true,false,true,true,true] (Tryz.f191.body.getD .skip)
theorem zw4 {N:Nat} {Q:X→St→Option (List (Val qaM)×List (Val qa)×Int)} {e:List LV} {h:List Blk}:qf tt qnl (qcW N) q9K Q ⟨e,h⟩=qf tt qnl (qcW N) (cut [true,false,true,true,true] (Tryz.f191.body.getD .skip)) Q ⟨e,h⟩:=rfl
theorem zzT (N:Nat) (F:List Nat) (v6:List (Val (hd qa))) {k0:Int→(List (Val qaM))→(List (Val qa))→Option (List (Val qaM)×List (Val qa)×Int)} {Q:X→St→Option (List (Val qaM)×List (Val qa)×Int)} {c:Code} (hc:c=q9K) (hret: ∀st,Q .ret st=qic tt 108 qa qaM F v6 [.tmp 4] st) (h0: ∀(v8:Int) (v9:List (Val qaM)) (v10:List (Val qa)),Q (.exit 0) ⟨[u,.one (.int .i64 v8),u,u,u,u,u,u,u,u,u,u,u,u,u,u,u,u,u,u,u,u,u,u,u,u,u,u,u,u,u,u,u,u,u,u],[.row 108 qaM v9 true true 0,.nst F qa v6 v10]⟩=k0 v8 v9 v10): ∀(n:Nat) (v3:Int) (v4:Int) (v5:List (Val qaM)) (v7:List (Val qa)),qD (qf tt qnl (qcW N) c) true qqR Q n ⟨[.one (.own 0),.one (.int .i64 v3),u,u,u,.one (.int .i64 v4),u,u,u,u,u,u,u,u,u,u,u,u,u,u,u,u,u,u,u,u,u,u,u,u,u,u,u,u,u,u],[.row 108 qaM v5 true true 0,.nst F qa v6 v7]⟩=qkN N v6 k0 n v3 v4 v5 v7:=by
 subst hc;intro n;induction n with
 | zero=>intros;rfl
 | succ n ih=>
   intro v3 v4 v5 v7
   rw [qN,zw4,qkN];unfold Tryz.f191
   simp (maxSteps:=10000000) -implicitDefEqProofs [qLt,qpB,qOi,qrD,qYI,qre,qKj,qtZ,qL6,qwU,qVT,qOs,qVH,qvF,qaa,qPY,qwX,qB,qcx,qRr,qU3,qPV,q1C,qTT,qYy,hret,h0,ih]
theorem zk2 (N:Nat) (F:List Nat) (v0:List (Val (hd qa))) (v1:List (Val qa)) (v2:Int):qf tt qnl (qcW N) (Tryz.f191.body.getD .skip) (qc8 (qic tt 108 qa qaM F v0 [.tmp 4])) ⟨[.one (.own 0),.one (.int .i64 v2),.tup [],.tup [],.tup [],.tup [],.tup [],.tup [],.tup [],.tup [],.tup [],.tup [],.tup [],.tup [],.tup [],.tup [],.tup [],.tup [],.tup [],.tup [],.tup [],.tup [],.tup [],.tup [],.tup [],.tup [],.tup [],.tup [],.tup [],.tup [],.tup [],.tup [],.tup [],.tup [],.tup [],.tup []],[.row 108 qaM v0 true true 0,.nst F qa v0 v1]⟩=qB6 N v0 v1 v2:=by
 unfold Tryz.f191
 simp (maxSteps:=10000000) -implicitDefEqProofs [qLt,qpB,qOi,qrD,qYI,qre,qKj,qtZ,qL6,qwU,qVT,qOs,qVH,qvF,qaa,qPY,qwX,qB,qcx,qRr,qU3,qPV,q1C,qTT,qYy]
 rewrite [zzT (k0:=(fun (v11:Int) (v12:List (Val qaM)) (v13:List (Val qa))=>some (v12,v13,v11))) N _ _ ?_ ?_ ?_]
 ·rewrite [qB6];first | rfl | simp (maxSteps:=10000000) -implicitDefEqProofs []
 ·rfl
 ·intro;simp only [qK,qL,qJ,qB]
 ·intro v11 v12 v13;simp (maxSteps:=10000000) -implicitDefEqProofs [qLt,qpB,qOi,qrD,qYI,qre,qKj,qtZ,qL6,qwU,qVT,qOs,qVH,qvF,qaa,qPY,qwX,qB,qcx,qRr,qU3,qPV,q1C,qTT,qYy]
theorem zAd (hs:List (Val (hd qa))) (xs:List (Val qa)) (k:Int) (h:qEW xs k) (hl:xs.length=hs.length) (hmx:q4 qa xs hs=hs):
 ∃N vs,vs.map (qaN qa)=(ql1 xs k).map (qaN qa)∧qB6 N hs xs k=some (q4 qa (ql1 xs k) hs,vs,qP6 xs k):=by
 refine ⟨xs.length+1,?_⟩
 rw [qB6]
 refine q7Q (t:=qa) (F:=fun n i k ys vs=>qkN _ hs _ n k i ys vs) (kf:=fun k ys vs=>some (ys,vs,k)) xs hl hmx (by rw [←hl];exact h.1.1) (fun n i k fs vs hi hh hv hk l1 l2 hsl ⟨hx,hfx⟩=> ?_) (fun n i k ys vs hl hi=> ?_) _ k h.2 (Nat.lt_succ_self _)
 ·have hy:(q4 qa fs hs).length=hs.length:=qrj l1
  have e1:vs[i].1=fs[i].1:=(Prod.mk.inj hsl).1
  refine ⟨(qnm vs[i].1 k,vs[i].2),?_,?_⟩
  ·show ((qnm vs[i].1 k,(0,false)):Val qa)=(qnm fs[i].1 k,(0,false))
   rw [e1]
  ·have hb:qBj vs[i].1 k:=⟨by rw [e1,hfx];exact (h.1.2 _ (List.getElem_mem hx)).1,hk⟩
   rw [qkN,qj (by omega),qe (by omega),qe (by omega),q8m hi hh l1,qI hv,qI hh,qe ⟨by omega,by omega,rfl,hb⟩,qe (by omega),qe (by omega),qe (by decide),qe (by rw [List.length_set];omega),qe (by rw [List.length_set];omega),List.set_set,q5B (by omega),Int.toNat_natCast]
   rw [←q6T hh l1]
   simp only [e1]
   rfl
 ·rw [qkN,qi (by omega)]
theorem ztB:SoundMs Tryz.prog 191 qwz:=q5g (tt:=tt) (Γ:=qnl) hT qn hm (fn:=Tryz.f191) Tryz.func191 (c:=Tryz.f191.body.getD .skip) (by kernel_rfl) (by kernel_rfl) fun xs hs n F hx hl hmx=>by
 obtain ⟨N,vs,h1,h2⟩:=zAd hs xs n hx hl hmx
 exact ⟨qcW N,vs,rfl,zqz,⟨qhH qg8 (q9V zob qgU),zfI N⟩,h1,(zk2 N F hs xs n).trans h2⟩
def qmg (x:List (Val (.int .i64))) (k:Int):Int:=(mkT (.slice 3 (.int .i64)) x k).2
def qAO (x:List (Val (.int .i64))) (k:Int):Prop:=qG6 (.slice 3 (.int .i64)) x k
noncomputable def qmc (N:Nat) (v2:List (Val (.int .i64))) (k0:Int→Option (qc [i3])):Nat→Int→Int→Option (qc [i3])
 | 0,_,_=>none
 | n+1,v3,v4=>bif (decide (v4<(v2.length:Int)))then (chk (0≤v4∧v4<(v2.length:Int)) (bif (!(decide (((v2.getD v4.toNat (qb (.int .i64))):Int)=v3)))then (some ((-1:Int),()))else (qmc N v2 k0 n (IntKind.i64.wrap (v3+(1:Int))) (IntKind.i64.wrap (v4+(1:Int))))))else (k0 v3)
noncomputable def qzb (N:Nat) (v0:List (Val (.int .i64))) (v1:Int):Option (qc [i3]):=qmc N v0 (fun (v6:Int)=>some (v6,())) N v1 (0:Int)
def qtT:Gam:=[]
def qwt:Nm:=⟨[true,true,false,false,false,true],[],false⟩
theorem qPB:qwt.zero=false:=rfl
theorem qRs:qwt.fix=[]:=rfl
theorem qML:qwt.keep=[true,true,false,false,false,true]:=rfl
def qBE:Nm:=⟨[false,true],[],false⟩
theorem q0Z:qBE.zero=false:=rfl
theorem qZj:qBE.fix=[]:=rfl
theorem qXd:qBE.keep=[false,true]:=rfl
def qmL:Nat→Tree:=fun _=> .done
def qqk:Nat→Nm:=fun i=>if i=2 then qwt else ⟨[],[],false⟩
def qvU:Nat→Option Jn:=fun _=>none
def qt1:Nat→Option Nm:=fun i=>if i=0 then some qBE else none
def quA:Nat→Option Nm:=fun _=>none
theorem zcd:qh qmL (Tryz.f192.body.getD .skip)=true:=by kernel_rfl
def qdX (N:Nat):Tab:={tr:=qmL,lp:=qqk,ex:=qt1,rg:=quA,jn:=qvU,fuel:=N}
theorem qUI (N:Nat):(qdX N).pins=false:=rfl
theorem zbi (N:Nat):qk Tryz.prog (qdX N):=qo fun _=>rfl
theorem qYw (N:Nat) (i:Nat):(qdX N).tr i=qmL i:=rfl
theorem qJU (N:Nat) (i:Nat):(qdX N).lp i=qqk i:=rfl
theorem qO3 (N:Nat) (i:Nat):(qdX N).ex i=qt1 i:=rfl
theorem qSx (N:Nat) (i:Nat):(qdX N).rg i=quA i:=rfl
theorem qR3 (N:Nat) (i:Nat):(qdX N).jn i=qvU i:=rfl
theorem qNQ (N:Nat):(qdX N).fuel=N:=rfl
noncomputable def q6p:Code:=cut [true,false,true,true,true] (Tryz.f192.body.getD .skip)
theorem zbu {N:Nat} {Q:X→St→Option (qc [i3])} {e:List LV} {h:List Blk}:qf tt qtT (qdX N) q6p Q ⟨e,h⟩=qf tt qtT (qdX N) (cut [true,false,true,true,true] (Tryz.f192.body.getD .skip)) Q ⟨e,h⟩:=rfl
theorem zxb (N:Nat) (v2:List (Val (.int .i64))) {k0:Int→Option (qc [i3])} {Q:X→St→Option (qc [i3])} {c:Code} (hc:c=q6p) (hret: ∀st,Q .ret st=qC tt true [i3] [.tmp 4] st) (h0: ∀(v5:Int),Q (.exit 0) ⟨[u,.one (.int .i64 v5),u,u,u,u,u,u,u,u,u,u,u,u,u,u,u,u,u,u,u],[]⟩=k0 v5): ∀(n:Nat) (v3:Int) (v4:Int),qD (qf tt qtT (qdX N) c) false qwt Q n ⟨[.one (.sl 3 (.int .i64) v2 0),.one (.int .i64 v3),u,u,u,.one (.int .i64 v4),u,u,u,u,u,u,u,u,u,u,u,u,u,u,u],[]⟩=qmc N v2 k0 n v3 v4:=by
 subst hc;intro n;induction n with
 | zero=>intros;rfl
 | succ n ih=>
   intro v3 v4
   rw [qN,zbu,qmc];unfold Tryz.f192
   simp (maxSteps:=10000000) -implicitDefEqProofs [qYw,qmL,qJU,qqk,qO3,qt1,qSx,quA,qR3,qvU,qNQ,qUI,qRs,qML,qPB,qZj,qXd,q0Z,hret,h0,ih]
theorem zxh (N:Nat) (v0:List (Val (.int .i64))) (v1:Int):qf tt qtT (qdX N) (Tryz.f192.body.getD .skip) (qm tt true [i3] [.tmp 4]) (qp [i25,i3] 21 (v0,v1,()))=qzb N v0 v1:=by
 unfold Tryz.f192
 simp (maxSteps:=10000000) -implicitDefEqProofs [qYw,qmL,qJU,qqk,qO3,qt1,qSx,quA,qR3,qvU,qNQ,qUI,qRs,qML,qPB,qZj,qXd,q0Z]
 rewrite [zxb (k0:=(fun (v6:Int)=>some (v6,()))) N _ ?_ ?_ ?_]
 ·rewrite [qzb];first | rfl | simp (maxSteps:=10000000) -implicitDefEqProofs []
 ·rfl
 ·intro;simp only [qK,qL,qJ,qB]
 ·intro v6;simp (maxSteps:=10000000) -implicitDefEqProofs [qYw,qmL,qJU,qqk,qO3,qt1,qSx,quA,qR3,qvU,qNQ,qUI,qRs,qML,qPB,qZj,qXd,q0Z]
def qnV:G:={ps:=[i25,i3],rs:=[i3],dp:=true,pre:=fun x=>qAO x.1 x.2.1,fn:=fun x=>(qmg x.1 x.2.1,())}
theorem zbU (x:List (Val (.int .i64))) (k:Int) (h:qAO x k): ∃N,qzb N x k=some (qmg x k,()):=⟨x.length+1,by
 obtain ⟨hm,hb,h0,hc⟩:=h
 rw [qzb]
 refine q1T (t:= .int .i64) (F:=fun n i k=>qmc _ x _ n k i) (kf:=fun k=>some (k,())) x hb.1 (fun n i k hi hx h0 hb=> ?_) (fun n i k hi=> ?_) _ k (Nat.lt_succ_self _) hm h0 hc
 ·have hx:k=x[i]:=hx
  rw [qmc,qj (by omega),qe (by omega),qI hi,qbi,qj hx.symm]
  rfl
 ·rw [qmc,qi (by omega)]⟩
theorem zii:Sound Tryz.prog 192 qnV:=qr (tt:=tt) (Γ:=qtT) hT qn hm (fn:=Tryz.f192) Tryz.func192 (c:=Tryz.f192.body.getD .skip) (by kernel_rfl) (by kernel_rfl) fun x hx=>by
 obtain ⟨N,h⟩:=zbU x.1 x.2.1 hx
 exact ⟨qdX N,zcd,qu _,zbi N,(zxh N x.1 x.2.1).trans h⟩
def qvR (x:List (Val qa)) (k:Int):Int:=(mkT (.slice 108 qa) x k).2
def qDv (x:List (Val qa)) (k:Int):Prop:=qG6 (.slice 108 qa) x k
noncomputable def qjG (N:Nat) (v2:List (Val qa)) (k0:Int→Option (qc [i3])):Nat→Int→Int→Option (qc [i3])
 | 0,_,_=>none
 | n+1,v3,v4=>bif (decide (v4<(v2.length:Int)))then (chk (0≤v4∧v4<(v2.length:Int)) (chk (qAO ((v2.getD v4.toNat (qb qa)).1:List (Val (.int .i64))) v3) (bif (decide (((qmg ((v2.getD v4.toNat (qb qa)).1:List (Val (.int .i64))) v3):Int)<(0:Int)))then (some ((-1:Int),()))else (chk (0≤v4∧v4<(v2.length:Int)) (bif (!(decide ((((v2.getD v4.toNat (qb qa)).2).1:Int)=((qmg ((v2.getD v4.toNat (qb qa)).1:List (Val (.int .i64))) v3):Int))))then (some ((-1:Int),()))else (chk (0≤v4∧v4<(v2.length:Int)) (chk ((3:Int)≠0) (bif (!((((v2.getD v4.toNat (qb qa)).2).2:Bool)==(decide (((IntKind.i64.wrap (((qmg ((v2.getD v4.toNat (qb qa)).1:List (Val (.int .i64))) v3):Int)+(1:Int))).tmod (3:Int))=(0:Int)))))then (some ((-1:Int),()))else (qjG N v2 k0 n (IntKind.i64.wrap ((IntKind.i64.wrap (((qmg ((v2.getD v4.toNat (qb qa)).1:List (Val (.int .i64))) v3):Int)+(1:Int)))+(1:Int))) (IntKind.i64.wrap (v4+(1:Int))))))))))))else (k0 v3)
noncomputable def qDG (N:Nat) (v0:List (Val qa)) (v1:Int):Option (qc [i3]):=qjG N v0 (fun (v6:Int)=>some (v6,())) N v1 (0:Int)
def qnJ:Gam:=[(192,qnV)]
theorem qME:Gam.get qnJ 192=some qnV:=rfl
def qsB:Nm:=⟨[true,true,false,false,false,true],[],false⟩
theorem qUl:qsB.zero=false:=rfl
theorem q2h:qsB.fix=[]:=rfl
theorem qXq:qsB.keep=[true,true,false,false,false,true]:=rfl
def qDi:Nm:=⟨[false,true],[],false⟩
theorem q1H:qDi.zero=false:=rfl
theorem qH0:qDi.fix=[]:=rfl
theorem qJj:qDi.keep=[false,true]:=rfl
def qpw:Nat→Tree:=fun _=> .done
def qv7:Nat→Nm:=fun i=>if i=2 then qsB else ⟨[],[],false⟩
def qyN:Nat→Option Jn:=fun _=>none
def qxU:Nat→Option Nm:=fun i=>if i=0 then some qDi else none
def qvE:Nat→Option Nm:=fun _=>none
theorem zdY:qh qpw (Tryz.f216.body.getD .skip)=true:=by kernel_rfl
def qdw (N:Nat):Tab:={tr:=qpw,lp:=qv7,ex:=qxU,rg:=qvE,jn:=qyN,fuel:=N}
theorem qY1 (N:Nat):(qdw N).pins=false:=rfl
theorem zkf (N:Nat):qk Tryz.prog (qdw N):=qo fun _=>rfl
theorem qJv (N:Nat) (i:Nat):(qdw N).tr i=qpw i:=rfl
theorem qIV (N:Nat) (i:Nat):(qdw N).lp i=qv7 i:=rfl
theorem qOC (N:Nat) (i:Nat):(qdw N).ex i=qxU i:=rfl
theorem qQb (N:Nat) (i:Nat):(qdw N).rg i=qvE i:=rfl
theorem qH8 (N:Nat) (i:Nat):(qdw N).jn i=qyN i:=rfl
theorem qUJ (N:Nat):(qdw N).fuel=N:=rfl
noncomputable def q8L:Code:=cut [true,false,true,true,true] (Tryz.f216.body.getD .skip)
theorem zju {N:Nat} {Q:X→St→Option (qc [i3])} {e:List LV} {h:List Blk}:qf tt qnJ (qdw N) q8L Q ⟨e,h⟩=qf tt qnJ (qdw N) (cut [true,false,true,true,true] (Tryz.f216.body.getD .skip)) Q ⟨e,h⟩:=rfl
theorem zrU (N:Nat) (v2:List (Val qa)) {k0:Int→Option (qc [i3])} {Q:X→St→Option (qc [i3])} {c:Code} (hc:c=q8L) (hret: ∀st,Q .ret st=qC tt true [i3] [.tmp 4] st) (h0: ∀(v5:Int),Q (.exit 0) ⟨[u,.one (.int .i64 v5),u,u,u,u,u,u,u,u,u,u,u,u,u,u,u,u,u,u,u,u,u,u,u,u,u,u,u,u,u,u,u,u,u,u,u,u,u,u,u,u],[]⟩=k0 v5): ∀(n:Nat) (v3:Int) (v4:Int),qD (qf tt qnJ (qdw N) c) false qsB Q n ⟨[.one (.sl 108 qa v2 0),.one (.int .i64 v3),u,u,u,.one (.int .i64 v4),u,u,u,u,u,u,u,u,u,u,u,u,u,u,u,u,u,u,u,u,u,u,u,u,u,u,u,u,u,u,u,u,u,u,u,u],[]⟩=qjG N v2 k0 n v3 v4:=by
 subst hc;intro n;induction n with
 | zero=>intros;rfl
 | succ n ih=>
   intro v3 v4
   rw [qN,zju,qjG];unfold Tryz.f216
   simp (maxSteps:=10000000) -implicitDefEqProofs [qJv,qpw,qIV,qv7,qOC,qxU,qQb,qvE,qH8,qyN,qUJ,qY1,q2h,qXq,qUl,qH0,qJj,q1H,qME,qnV,hret,h0,ih]
theorem ztc (N:Nat) (v0:List (Val qa)) (v1:Int):qf tt qnJ (qdw N) (Tryz.f216.body.getD .skip) (qm tt true [i3] [.tmp 4]) (qp [i31,i3] 42 (v0,v1,()))=qDG N v0 v1:=by
 unfold Tryz.f216
 simp (maxSteps:=10000000) -implicitDefEqProofs [qJv,qpw,qIV,qv7,qOC,qxU,qQb,qvE,qH8,qyN,qUJ,qY1,q2h,qXq,qUl,qH0,qJj,q1H,qME,qnV]
 rewrite [zrU (k0:=(fun (v6:Int)=>some (v6,()))) N _ ?_ ?_ ?_]
 ·rewrite [qDG];first | rfl | simp (maxSteps:=10000000) -implicitDefEqProofs []
 ·rfl
 ·intro;simp only [qK,qL,qJ,qB]
 ·intro v6;simp (maxSteps:=10000000) -implicitDefEqProofs [qJv,qpw,qIV,qv7,qOC,qxU,qQb,qvE,qH8,qyN,qUJ,qY1,q2h,qXq,qUl,qH0,qJj,q1H,qME,qnV]
def qok:G:={ps:=[i31,i3],rs:=[i3],dp:=true,pre:=fun x=>qDv x.1 x.2.1,fn:=fun x=>(qvR x.1 x.2.1,())}
theorem zqy (x:List (Val qa)) (k:Int) (h:qDv x k): ∃N,qDG N x k=some (qvR x k,()):=⟨x.length+1,by
 obtain ⟨hm,hb,h0,hc⟩:=h
 rw [qDG]
 refine q1T (t:=qa) (F:=fun n i k=>qjG _ x _ n k i) (kf:=fun k=>some (k,())) x hb.1 (fun n i k hi hx h0 hc=> ?_) (fun n i k hi=> ?_) _ k (Nat.lt_succ_self _) hm h0 hc
 ·have hb:=hb.2 _ (List.getElem_mem hi)
  obtain ⟨e1,e2,e3⟩:(mkE (.slice 3 (.int .i64)) x[i].1 k).1=x[i].1∧(mkE (.slice 3 (.int .i64)) x[i].1 k).2=x[i].2.1∧decide (Int.tmod (IntKind.i64.wrap ((mkE (.slice 3 (.int .i64)) x[i].1 k).2+1)) 3=0)=x[i].2.2:=by
   have:=Prod.mk.inj hx
   have h2:=Prod.mk.inj this.2
   exact ⟨this.1,h2.1,h2.2⟩
  have hcc:k+(qam (.slice 3 (.int .i64)) x[i].1:Nat)+2≤4611686018427387904:=by
   have:qam qa x[i]=qam (.slice 3 (.int .i64)) x[i].1+(1+1):=rfl
   omega
  have hk:=qkL (.slice 3 (.int .i64)) x[i].1 k h0 (by omega)
  have hp:qAO x[i].1 k:=⟨e1,hb.1,h0,by have:qR (.slice 3 (.int .i64)) x[i].1=qam (.slice 3 (.int .i64)) x[i].1:=rfl;omega⟩
  have ev:qmg x[i].1 k=(mkE (.slice 3 (.int .i64)) x[i].1 k).2:=rfl
  rw [qjG,qj (by omega),qe (by omega),qI hi,qe hp,qi (by omega),qe (by omega),qbi,qj (by rw [ev];exact e2.symm),qe (by omega),qe (by decide),qbi,zeT (by rw [ev,e3];exact beq_self_eq_true _)]
  rfl
 ·rw [qjG,qi (by omega)]⟩
theorem zlR:Sound Tryz.prog 216 qok:=qr (tt:=tt) (Γ:=qnJ) hT (qg zii qn) hm (fn:=Tryz.f216) Tryz.func216 (c:=Tryz.f216.body.getD .skip) (by kernel_rfl) (by kernel_rfl) fun x hx=>by
 obtain ⟨N,h⟩:=zqy x.1 x.2.1 hx
 exact ⟨qdw N,zdY,qu _,zkf N,(ztc N x.1 x.2.1).trans h⟩
def qzC (x:List (Val Y33)) (k:Int):List (Val Y33):=(mkT (.slice 33 Y33) x k).1
def qL7 (x:List (Val Y33)) (k:Int):Int:=(mkT (.slice 33 Y33) x k).2
def qFp (x:List (Val Y33)) (k:Int):Prop:=Bd (.slice 33 Y33) x∧k≤9223372036854775807
def q0T:Gms:=⟨33,Y33,qFp,qzC,qL7⟩
noncomputable def qk0 (N:Nat) (v6:List (Val (hd Y33))) (k0:Int→(List (Val H33))→(List (Val Y33))→Option (List (Val H33)×List (Val Y33)×Int)):Nat→Int→Int→(List (Val H33))→(List (Val Y33))→Option (List (Val H33)×List (Val Y33)×Int)
 | 0,_,_,_,_=>none
 | n+1,v3,v4,v5,v7=>bif (decide (v4<(v5.length:Int)))then (chk (0≤v4∧v4<(v5.length:Int)) (chk (v4.toNat<v5.length) (chk (0≤v4∧v4<((v5.set v4.toNat (v3,((v5.getD v4.toNat (qb H33)).2:Value))).length:Int)) (chk (v4.toNat<(v5.set v4.toNat (v3,((v5.getD v4.toNat (qb H33)).2:Value))).length) (chk (v4.toNat<v7.length∧v4.toNat<v6.length∧((v6.getD v4.toNat (qb (hd Y33)):Val H33).2:Value)=(((v5.set v4.toNat (v3,((v5.getD v4.toNat (qb H33)).2:Value))).getD v4.toNat (qb H33)).2:Value)∧qEW ((v7.getD v4.toNat (qb Y33)).2:List (Val qa)) (IntKind.i64.wrap (v3+(1:Int)))) (qk0 N v6 k0 n (qP6 ((v7.getD v4.toNat (qb Y33)).2:List (Val qa)) (IntKind.i64.wrap (v3+(1:Int)))) (IntKind.i64.wrap (v4+(1:Int))) (v5.set v4.toNat (v3,((v5.getD v4.toNat (qb H33)).2:Value))) (v7.set v4.toNat (((v7.getD v4.toNat (qb Y33)).1:Int),(ql1 ((v7.getD v4.toNat (qb Y33)).2:List (Val qa)) (IntKind.i64.wrap (v3+(1:Int))))))))))))else (k0 v3 v5 v7)
noncomputable def qGE (N:Nat) (v0:List (Val (hd Y33))) (v1:List (Val Y33)) (v2:Int):Option (List (Val H33)×List (Val Y33)×Int):=qk0 N v0 (fun (v11:Int) (v12:List (Val H33)) (v13:List (Val Y33))=>some (v12,v13,v11)) N v2 (0:Int) v0 v1
def qnR:Gam:=[]
theorem q0q:Gam.get qnR 191=none:=rfl
def qud:Nm:=⟨[true,true,false,false,false,true],[],false⟩
theorem qNh:qud.zero=false:=rfl
theorem qUi:qud.fix=[]:=rfl
theorem qZo:qud.keep=[true,true,false,false,false,true]:=rfl
def qA3:Nm:=⟨[false,true],[],false⟩
theorem qSQ:qA3.zero=false:=rfl
theorem qHE:qA3.fix=[]:=rfl
theorem qW4:qA3.keep=[false,true]:=rfl
def qrk:Sem:=qew [] [(25,191,qwz,1,20)]
def qnM:Nat→Tree:=fun _=> .done
def qwJ:Nat→Nm:=fun i=>if i=2 then qud else ⟨[],[],false⟩
def qxj:Nat→Option Jn:=fun _=>none
def qpM:Nat→Option Nm:=fun i=>if i=0 then some qA3 else none
def qtF:Nat→Option Nm:=fun _=>none
theorem zfi:qh qnM (Tryz.f135.body.getD .skip)=true:=by kernel_rfl
def qc5 (N:Nat):Tab:={tr:=qnM,lp:=qwJ,ex:=qpM,rg:=qtF,jn:=qxj,fuel:=N,pins:=true,sem:=qrk}
theorem q4l (N:Nat):(qc5 N).pins=true:=rfl
theorem zAk (N:Nat):qk Tryz.prog (qc5 N):=qo fun _=>rfl
theorem qLg (N:Nat):(qc5 N).sem=qrk:=rfl
theorem q4O (N:Nat) (i:Nat):(qc5 N).tr i=qnM i:=rfl
theorem qRM (N:Nat) (i:Nat):(qc5 N).lp i=qwJ i:=rfl
theorem qSS (N:Nat) (i:Nat):(qc5 N).ex i=qpM i:=rfl
theorem q0Y (N:Nat) (i:Nat):(qc5 N).rg i=qtF i:=rfl
theorem qUb (N:Nat) (i:Nat):(qc5 N).jn i=qxj i:=rfl
theorem q0W (N:Nat):(qc5 N).fuel=N:=rfl
noncomputable def q6Y:Code:=cut [true,false,true,true,true] (Tryz.f135.body.getD .skip)
theorem zh5 {N:Nat} {Q:X→St→Option (List (Val H33)×List (Val Y33)×Int)} {e:List LV} {h:List Blk}:qf tt qnR (qc5 N) q6Y Q ⟨e,h⟩=qf tt qnR (qc5 N) (cut [true,false,true,true,true] (Tryz.f135.body.getD .skip)) Q ⟨e,h⟩:=rfl
theorem zpq (N:Nat) (F:List Nat) (v6:List (Val (hd Y33))) {k0:Int→(List (Val H33))→(List (Val Y33))→Option (List (Val H33)×List (Val Y33)×Int)} {Q:X→St→Option (List (Val H33)×List (Val Y33)×Int)} {c:Code} (hc:c=q6Y) (hret: ∀st,Q .ret st=qic tt 33 Y33 H33 F v6 [.tmp 4] st) (h0: ∀(v8:Int) (v9:List (Val H33)) (v10:List (Val Y33)),Q (.exit 0) ⟨[u,.one (.int .i64 v8),u,u,u,u,u,u,u,u,u,u,u,u,u,u,u,u,u,u,u,u,u,u,u,u,u],[.row 33 H33 v9 true true 0,.nst F Y33 v6 v10]⟩=k0 v8 v9 v10): ∀(n:Nat) (v3:Int) (v4:Int) (v5:List (Val H33)) (v7:List (Val Y33)),qD (qf tt qnR (qc5 N) c) true qud Q n ⟨[.one (.own 0),.one (.int .i64 v3),u,u,u,.one (.int .i64 v4),u,u,u,u,u,u,u,u,u,u,u,u,u,u,u,u,u,u,u,u,u],[.row 33 H33 v5 true true 0,.nst F Y33 v6 v7]⟩=qk0 N v6 k0 n v3 v4 v5 v7:=by
 subst hc;intro n;induction n with
 | zero=>intros;rfl
 | succ n ih=>
   intro v3 v4 v5 v7
   rw [qN,zh5,qk0];unfold Tryz.f135
   simp (maxSteps:=10000000) -implicitDefEqProofs [q4O,qnM,qRM,qwJ,qSS,qpM,q0Y,qtF,qUb,qxj,q0W,q4l,qLg,qrk,qaa,q0q,qwz,qB,qcx,qUi,qZo,qNh,qHE,qW4,qSQ,hret,h0,ih]
theorem ztJ (N:Nat) (F:List Nat) (v0:List (Val (hd Y33))) (v1:List (Val Y33)) (v2:Int):qf tt qnR (qc5 N) (Tryz.f135.body.getD .skip) (qc8 (qic tt 33 Y33 H33 F v0 [.tmp 4])) ⟨[.one (.own 0),.one (.int .i64 v2),.tup [],.tup [],.tup [],.tup [],.tup [],.tup [],.tup [],.tup [],.tup [],.tup [],.tup [],.tup [],.tup [],.tup [],.tup [],.tup [],.tup [],.tup [],.tup [],.tup [],.tup [],.tup [],.tup [],.tup [],.tup []],[.row 33 H33 v0 true true 0,.nst F Y33 v0 v1]⟩=qGE N v0 v1 v2:=by
 unfold Tryz.f135
 simp (maxSteps:=10000000) -implicitDefEqProofs [q4O,qnM,qRM,qwJ,qSS,qpM,q0Y,qtF,qUb,qxj,q0W,q4l,qLg,qrk,qaa,q0q,qwz,qB,qcx,qUi,qZo,qNh,qHE,qW4,qSQ]
 rewrite [zpq (k0:=(fun (v11:Int) (v12:List (Val H33)) (v13:List (Val Y33))=>some (v12,v13,v11))) N _ _ ?_ ?_ ?_]
 ·rewrite [qGE];first | rfl | simp (maxSteps:=10000000) -implicitDefEqProofs []
 ·rfl
 ·intro;simp only [qK,qL,qJ,qB]
 ·intro v11 v12 v13;simp (maxSteps:=10000000) -implicitDefEqProofs [q4O,qnM,qRM,qwJ,qSS,qpM,q0Y,qtF,qUb,qxj,q0W,q4l,qLg,qrk,qaa,q0q,qwz,qB,qcx,qUi,qZo,qNh,qHE,qW4,qSQ]
theorem zyH (hs:List (Val (hd Y33))) (xs:List (Val Y33)) (k:Int) (h:qFp xs k) (hl:xs.length=hs.length) (hmx:q4 Y33 xs hs=hs):
 ∃N vs,vs.map (qaN Y33)=(qzC xs k).map (qaN Y33)∧qGE N hs xs k=some (q4 Y33 (qzC xs k) hs,vs,qL7 xs k):=by
 refine ⟨xs.length+1,?_⟩
 rw [qGE]
 refine q7Q (t:=Y33) (F:=fun n i k ys vs=>qk0 _ hs _ n k i ys vs) (kf:=fun k ys vs=>some (ys,vs,k)) xs hl hmx (by rw [←hl];exact h.1.1) (fun n i k fs vs hi hh hv hk l1 l2 hsl ⟨hx,hfx⟩=> ?_) (fun n i k ys vs hl hi=> ?_) _ k h.2 (Nat.lt_succ_self _)
 ·have hy:(q4 Y33 fs hs).length=hs.length:=qrj l1
  have e1:vs[i].2=fs[i].2:=(Prod.mk.inj hsl).2
  refine ⟨(vs[i].1,ql1 vs[i].2 (IntKind.i64.wrap (k+1))),?_,?_⟩
  ·show ((0,ql1 vs[i].2 _):Val Y33)=(0,ql1 fs[i].2 _)
   rw [e1];rfl
  ·have hb:qEW vs[i].2 (IntKind.i64.wrap (k+1)):=⟨by rw [e1,hfx];exact (h.1.2 _ (List.getElem_mem hx)).2,qD1 _⟩
   rw [qk0,qj (by omega),q8m hi hh l1,qI hv,qI hh,q5B (by omega)]
   repeat rw [List.length_set]
   rw [qe (by omega),qe (by omega),qe (by omega),qe (by omega),qe ⟨by omega,by omega,rfl,hb⟩,Int.toNat_natCast]
   rw [←q6T hh l1]
   simp only [e1]
   rfl
 ·rw [qk0,qi (by omega)]
theorem zb8:SoundMs Tryz.prog 135 q0T:=q5g (tt:=tt) (Γ:=qnR) hT qn hm (fn:=Tryz.f135) Tryz.func135 (c:=Tryz.f135.body.getD .skip) (by kernel_rfl) (by kernel_rfl) fun xs hs n F hx hl hmx=>by
 obtain ⟨N,vs,h1,h2⟩:=zyH hs xs n hx hl hmx
 exact ⟨qc5 N,vs,rfl,zfi,⟨qhH qg8 (q9V ztB qgU),zAk N⟩,h1,(ztJ N F hs xs n).trans h2⟩
def qG (x:Val Y50) (k:Int):Val Y50:=(mkT Y50 x k).1
def qM (x:Val Y50) (k:Int):Int:=(mkT Y50 x k).2
def qaP (x:Val Y50) (k:Int):Prop:=Bd Y50 x∧k≤9223372036854775807
def qcm:Gm:=⟨i50,qaP,qG,qM⟩
noncomputable def m42 (N:Nat) (v0:Val Y50) (v1:Int):Option ((Val Y50)×Int):=chk (qFp (v0.2:List (Val Y33)) v1) (some (((v0.1:Int),((qzC (v0.2:List (Val Y33)) v1):List (Val Y33))),(qL7 (v0.2:List (Val Y33)) v1)))
def Γ42:Gam:=[]
theorem zwb:Gam.get Γ42 135=none:=rfl
def qJZ:Sem:=qew [(135,q0T.gm)] []
def qEj:Nat→Tree:=fun _=> .done
def qQq:Nat→Nm:=fun _=>⟨[],[],false⟩
def qYv:Nat→Option Jn:=fun _=>none
def q1c:Nat→Option Nm:=fun _=>none
def qRf:Nat→Option Nm:=fun _=>none
theorem p42:qh qEj (Tryz.f42.body.getD .skip)=true:=by kernel_rfl
def T42 (N:Nat):Tab:={tr:=qEj,lp:=qQq,ex:=q1c,rg:=qRf,jn:=qYv,fuel:=N,pins:=true,sem:=qJZ}
theorem zBh (N:Nat):(T42 N).pins=true:=rfl
theorem zrJ (N:Nat):qk Tryz.prog (T42 N):=qo fun _=>rfl
theorem zbN (N:Nat):(T42 N).sem=qJZ:=rfl
theorem zwT (N:Nat) (i:Nat):(T42 N).tr i=qEj i:=rfl
theorem zbZ (N:Nat) (i:Nat):(T42 N).lp i=qQq i:=rfl
theorem zqh (N:Nat) (i:Nat):(T42 N).ex i=q1c i:=rfl
theorem zws (N:Nat) (i:Nat):(T42 N).rg i=qRf i:=rfl
theorem zg7 (N:Nat) (i:Nat):(T42 N).jn i=qYv i:=rfl
theorem zik (N:Nat):(T42 N).fuel=N:=rfl
theorem zzA (N:Nat) (v0:Val Y50) (v1:Int):qf tt Γ42 (T42 N) (Tryz.f42.body.getD .skip) (qc8 (qi1 tt Y50 (qT 0 Y50 v0).1 [.tmp 4])) (qcx i50 10 v0 v1)=m42 N v0 v1:=by
 rw [m42];unfold Tryz.f42
 simp (maxSteps:=10000000) -implicitDefEqProofs [zwT,qEj,zbZ,qQq,zqh,q1c,zws,qRf,zg7,qYv,zik,zBh,zbN,qJZ,qaa,zwb,q0T,qB,qcx]
 try rfl
theorem e42 (x:Val Y50) (k:Int) (h:qaP x k): ∃N,m42 N x k=some (qG x k,qM x k):=⟨0,by
 rw [m42,qe (show qFp _ k from ⟨h.1.2,h.2⟩)]
 rfl⟩
theorem qwb:SoundM Tryz.prog 42 qcm:=q5V (tt:=tt) (Γ:=Γ42) hT qn hm (fn:=Tryz.f42) Tryz.func42 (c:=Tryz.f42.body.getD .skip) (by kernel_rfl) (by kernel_rfl) fun x n hx=>by
 obtain ⟨N,h⟩:=e42 x n hx
 exact ⟨T42 N,rfl,p42,⟨qhH (qnj zb8.gm qg8) qgU,zrJ N⟩,(zzA N x n).trans h⟩
def qvn (x:List (Val Y33)) (k:Int):Int:=(mkT (.slice 33 Y33) x k).2
def qCO (x:List (Val Y33)) (k:Int):Prop:=qG6 (.slice 33 Y33) x k
noncomputable def ql9 (N:Nat) (v2:List (Val Y33)) (k0:Int→Option (qc [i3])):Nat→Int→Int→Option (qc [i3])
 | 0,_,_=>none
 | n+1,v3,v4=>bif (decide (v4<(v2.length:Int)))then (chk (0≤v4∧v4<(v2.length:Int)) (bif (!(decide (((v2.getD v4.toNat (qb Y33)).1:Int)=v3)))then (some ((-1:Int),()))else (chk (0≤v4∧v4<(v2.length:Int)) (chk (qDv ((v2.getD v4.toNat (qb Y33)).2:List (Val qa)) (IntKind.i64.wrap (v3+(1:Int)))) (bif (decide (((qvR ((v2.getD v4.toNat (qb Y33)).2:List (Val qa)) (IntKind.i64.wrap (v3+(1:Int)))):Int)<(0:Int)))then (some ((-1:Int),()))else (ql9 N v2 k0 n ((qvR ((v2.getD v4.toNat (qb Y33)).2:List (Val qa)) (IntKind.i64.wrap (v3+(1:Int)))):Int) (IntKind.i64.wrap (v4+(1:Int)))))))))else (k0 v3)
noncomputable def qGX (N:Nat) (v0:List (Val Y33)) (v1:Int):Option (qc [i3]):=ql9 N v0 (fun (v6:Int)=>some (v6,())) N v1 (0:Int)
def qpl:Gam:=[(216,qok)]
theorem q0D:Gam.get qpl 216=some qok:=rfl
def qvd:Nm:=⟨[true,true,false,false,false,true],[],false⟩
theorem q1Z:qvd.zero=false:=rfl
theorem q2I:qvd.fix=[]:=rfl
theorem qMU:qvd.keep=[true,true,false,false,false,true]:=rfl
def qEd:Nm:=⟨[false,true],[],false⟩
theorem qJr:qEd.zero=false:=rfl
theorem qPe:qEd.fix=[]:=rfl
theorem qJt:qEd.keep=[false,true]:=rfl
def qpf:Nat→Tree:=fun _=> .done
def qpN:Nat→Nm:=fun i=>if i=2 then qvd else ⟨[],[],false⟩
def quC:Nat→Option Jn:=fun _=>none
def qpZ:Nat→Option Nm:=fun i=>if i=0 then some qEd else none
def qqA:Nat→Option Nm:=fun _=>none
theorem zkD:qh qpf (Tryz.f136.body.getD .skip)=true:=by kernel_rfl
def qds (N:Nat):Tab:={tr:=qpf,lp:=qpN,ex:=qpZ,rg:=qqA,jn:=quC,fuel:=N}
theorem qYf (N:Nat):(qds N).pins=false:=rfl
theorem zzC (N:Nat):qk Tryz.prog (qds N):=qo fun _=>rfl
theorem qU1 (N:Nat) (i:Nat):(qds N).tr i=qpf i:=rfl
theorem qTW (N:Nat) (i:Nat):(qds N).lp i=qpN i:=rfl
theorem qZV (N:Nat) (i:Nat):(qds N).ex i=qpZ i:=rfl
theorem qYW (N:Nat) (i:Nat):(qds N).rg i=qqA i:=rfl
theorem q0U (N:Nat) (i:Nat):(qds N).jn i=quC i:=rfl
theorem qNR (N:Nat):(qds N).fuel=N:=rfl
noncomputable def q5n:Code:=cut [true,false,true,true,true] (Tryz.f136.body.getD .skip)
theorem zBx {N:Nat} {Q:X→St→Option (qc [i3])} {e:List LV} {h:List Blk}:qf tt qpl (qds N) q5n Q ⟨e,h⟩=qf tt qpl (qds N) (cut [true,false,true,true,true] (Tryz.f136.body.getD .skip)) Q ⟨e,h⟩:=rfl
theorem zuc (N:Nat) (v2:List (Val Y33)) {k0:Int→Option (qc [i3])} {Q:X→St→Option (qc [i3])} {c:Code} (hc:c=q5n) (hret: ∀st,Q .ret st=qC tt true [i3] [.tmp 4] st) (h0: ∀(v5:Int),Q (.exit 0) ⟨[u,.one (.int .i64 v5),u,u,u,u,u,u,u,u,u,u,u,u,u,u,u,u,u,u,u,u,u,u,u,u,u,u,u,u,u],[]⟩=k0 v5): ∀(n:Nat) (v3:Int) (v4:Int),qD (qf tt qpl (qds N) c) false qvd Q n ⟨[.one (.sl 33 Y33 v2 0),.one (.int .i64 v3),u,u,u,.one (.int .i64 v4),u,u,u,u,u,u,u,u,u,u,u,u,u,u,u,u,u,u,u,u,u,u,u,u,u],[]⟩=ql9 N v2 k0 n v3 v4:=by
 subst hc;intro n;induction n with
 | zero=>intros;rfl
 | succ n ih=>
   intro v3 v4
   rw [qN,zBx,ql9];unfold Tryz.f136
   simp (maxSteps:=10000000) -implicitDefEqProofs [qU1,qpf,qTW,qpN,qZV,qpZ,qYW,qqA,q0U,quC,qNR,qYf,q2I,qMU,q1Z,qPe,qJt,qJr,q0D,qok,hret,h0,ih]
theorem zlx (N:Nat) (v0:List (Val Y33)) (v1:Int):qf tt qpl (qds N) (Tryz.f136.body.getD .skip) (qm tt true [i3] [.tmp 4]) (qp [i48,i3] 31 (v0,v1,()))=qGX N v0 v1:=by
 unfold Tryz.f136
 simp (maxSteps:=10000000) -implicitDefEqProofs [qU1,qpf,qTW,qpN,qZV,qpZ,qYW,qqA,q0U,quC,qNR,qYf,q2I,qMU,q1Z,qPe,qJt,qJr,q0D,qok]
 rewrite [zuc (k0:=(fun (v6:Int)=>some (v6,()))) N _ ?_ ?_ ?_]
 ·rewrite [qGX];first | rfl | simp (maxSteps:=10000000) -implicitDefEqProofs []
 ·rfl
 ·intro;simp only [qK,qL,qJ,qB]
 ·intro v6;simp (maxSteps:=10000000) -implicitDefEqProofs [qU1,qpf,qTW,qpN,qZV,qpZ,qYW,qqA,q0U,quC,qNR,qYf,q2I,qMU,q1Z,qPe,qJt,qJr,q0D,qok]
def qAC:G:={ps:=[i48,i3],rs:=[i3],dp:=true,pre:=fun x=>qCO x.1 x.2.1,fn:=fun x=>(qvn x.1 x.2.1,())}
theorem zb3 (x:List (Val Y33)) (k:Int) (h:qCO x k): ∃N,qGX N x k=some (qvn x k,()):=⟨x.length+1,by
 obtain ⟨hm,hb,h0,hc⟩:=h
 rw [qGX]
 refine q1T (t:=Y33) (F:=fun n i k=>ql9 _ x _ n k i) (kf:=fun k=>some (k,())) x hb.1 (fun n i k hi hx h0 hc=> ?_) (fun n i k hi=> ?_) _ k (Nat.lt_succ_self _) hm h0 hc
 ·have hb:=hb.2 _ (List.getElem_mem hi)
  obtain ⟨e1,e2⟩:=Prod.mk.inj hx
  have e1:k=x[i].1:=e1
  have ek:IntKind.i64.wrap (k+1)=k+1:=qaC (by omega) (by omega)
  have hcc:(k+1)+(qam (.slice 108 qa) x[i].2:Nat)≤4611686018427387904:=by
   have:qam Y33 x[i]=1+qam (.slice 108 qa) x[i].2:=rfl
   omega
  have hk:=qkL (.slice 108 qa) x[i].2 (k+1) (by omega) hcc
  have hp:qDv x[i].2 (k+1):=⟨by rw [←ek];exact e2,hb.2,by omega,by have:qR (.slice 108 qa) x[i].2=qam (.slice 108 qa) x[i].2:=rfl;omega⟩
  have ev:qvR x[i].2 (k+1)=(mkE (.slice 108 qa) x[i].2 (k+1)).2:=rfl
  rw [ql9,qj (by omega),qe (by omega),qI hi,qbi,qj e1.symm,ek,qe (by omega),qe hp,qi (by omega),ev,←ek]
  rfl
 ·rw [ql9,qi (by omega)]⟩
theorem zBA:Sound Tryz.prog 136 qAC:=qr (tt:=tt) (Γ:=qpl) hT (qg zlR qn) hm (fn:=Tryz.f136) Tryz.func136 (c:=Tryz.f136.body.getD .skip) (by kernel_rfl) (by kernel_rfl) fun x hx=>by
 obtain ⟨N,h⟩:=zb3 x.1 x.2.1 hx
 exact ⟨qds N,zkD,qu _,zzC N,(zlx N x.1 x.2.1).trans h⟩
def qap (x:Val Y50) (k:Int):Int:=(mkT Y50 x k).2
def qbg (x:Val Y50) (k:Int):Prop:=qG6 Y50 x k
noncomputable def m43 (N:Nat) (v0:Val Y50) (v1:Int):Option (qc [i3]):=chk (qCO (v0.2:List (Val Y33)) v1) (bif (decide (((qvn (v0.2:List (Val Y33)) v1):Int)<(0:Int)))then (some ((-1:Int),()))else (some (((qvn (v0.2:List (Val Y33)) v1):Int),())))
def Γ43:Gam:=[(136,qAC)]
theorem zif:Gam.get Γ43 136=some qAC:=rfl
def qCT:Nat→Tree:=fun _=> .done
def qWR:Nat→Nm:=fun _=>⟨[],[],false⟩
def qYg:Nat→Option Jn:=fun _=>none
def qM7:Nat→Option Nm:=fun _=>none
def qOS:Nat→Option Nm:=fun _=>none
theorem p43:qh qCT (Tryz.f43.body.getD .skip)=true:=by kernel_rfl
def T43 (N:Nat):Tab:={tr:=qCT,lp:=qWR,ex:=qM7,rg:=qOS,jn:=qYg,fuel:=N}
theorem ziU (N:Nat):(T43 N).pins=false:=rfl
theorem zbM (N:Nat):qk Tryz.prog (T43 N):=qo fun _=>rfl
theorem ztU (N:Nat) (i:Nat):(T43 N).tr i=qCT i:=rfl
theorem zpJ (N:Nat) (i:Nat):(T43 N).lp i=qWR i:=rfl
theorem zrO (N:Nat) (i:Nat):(T43 N).ex i=qM7 i:=rfl
theorem zvw (N:Nat) (i:Nat):(T43 N).rg i=qOS i:=rfl
theorem znW (N:Nat) (i:Nat):(T43 N).jn i=qYg i:=rfl
theorem zh1 (N:Nat):(T43 N).fuel=N:=rfl
theorem zAr (N:Nat) (v0:Val Y50) (v1:Int):qf tt Γ43 (T43 N) (Tryz.f43.body.getD .skip) (qm tt true [i3] [.tmp 4]) (qp [i50,i3] 12 (v0,v1,()))=m43 N v0 v1:=by
 rw [m43];unfold Tryz.f43
 simp (maxSteps:=10000000) -implicitDefEqProofs [ztU,qCT,zpJ,qWR,zrO,qM7,zvw,qOS,znW,qYg,zh1,ziU,zif,qAC]
 try rfl
def g43:G:={ps:=[i50,i3],rs:=[i3],dp:=true,pre:=fun x=>qbg x.1 x.2.1,fn:=fun x=>(qap x.1 x.2.1,())}
theorem e43 (x:Val Y50) (k:Int) (h:qbg x k): ∃N,m43 N x k=some (qap x k,()):=⟨0,by
 obtain ⟨hm,hb,h0,hc⟩:=h
 have hc':k+(qR (.slice 33 Y33) x.2:Nat)≤4611686018427387904:=by
  have:qR Y50 x=0+qR (.slice 33 Y33) x.2:=rfl
  omega
 have hk:=qcD (.slice 33 Y33) x.2 k h0 hc'
 have ev:qvn x.2 k=(mkT (.slice 33 Y33) x.2 k).2:=rfl
 rw [m43,qe (show qCO x.2 k from ⟨(Prod.mk.inj hm).2,hb.2,h0,hc'⟩),qi (by omega)]
 rfl⟩
theorem s43:Sound Tryz.prog 43 g43:=qr (tt:=tt) (Γ:=Γ43) hT (qg zBA qn) hm (fn:=Tryz.f43) Tryz.func43 (c:=Tryz.f43.body.getD .skip) (by kernel_rfl) (by kernel_rfl) fun x hx=>by
 obtain ⟨N,h⟩:=e43 x.1 x.2.1 hx
 exact ⟨T43 N,p43,qu _,zbM N,(zAr N x.1 x.2.1).trans h⟩
theorem zix {xs:List (Val Y33)} {n:Nat} (hn:xs.length≤n) (hn':n≤1048576) (h: ∀x∈xs,qz x=true):Bd (.slice 33 Y33) xs∧qR (.slice 33 Y33) xs≤n*97:=by
 have hx: ∀x∈xs,List.length (α:=Val qa) x.2≤16∧ ∀a∈(x.2:List (Val qa)),List.length (α:=Int) a.1≤4:=fun x hm=>by
  obtain ⟨-,h2,h3⟩:=qaG (h x hm)
  exact ⟨h2,fun a ha=>(qbb (h3 a ha).1).1⟩
 refine ⟨⟨Nat.le_trans hn hn',fun x hm=>⟨trivial,Nat.le_trans (hx x hm).1 (by decide),fun a ha=>⟨⟨Nat.le_trans ((hx x hm).2 a ha) (by decide),fun _ _=>trivial⟩,trivial,trivial⟩⟩⟩,?_⟩
 have e:qR (.slice 33 Y33) xs=qbe (qam Y33) xs:=rfl
 have:=qRI (f:=qam Y33) (c:=97) xs fun x hm=>by
  have e:qam Y33 x=1+qbe (qam qa) x.2:=rfl
  have h1:=(hx x hm).1
  have:=qRI (f:=qam qa) (c:=6) x.2 fun a ha=>by
   have e:qam qa a=qbe (qam (.int .i64)) a.1+(1+1):=rfl
   rw [e,q6o]
   have:=(hx x hm).2 a ha
   omega
  have:List.length (α:=Val qa) x.2*6≤16*6:=Nat.mul_le_mul_right _ h1
  omega
 have:xs.length*97≤n*97:=Nat.mul_le_mul_right _ hn
 omega
theorem qm1 {r:Val Y50} (h:List.length (α:=Val Y33) r.2≤12∧ ∀c∈(r.2:List (Val Y33)),qz c=true):Bd Y50 r∧qR Y50 r≤1164:=by
 obtain ⟨h1,h2⟩:=zix (xs:=(r.2:List (Val Y33))) h.1 (by decide) h.2
 have e:qR Y50 r=0+qR (.slice 33 Y33) r.2:=rfl
 exact ⟨⟨trivial,h1⟩,by omega⟩
end Go.T
