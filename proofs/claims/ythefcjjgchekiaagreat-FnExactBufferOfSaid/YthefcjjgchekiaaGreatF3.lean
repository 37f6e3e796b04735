/- Marks of regions. -/
import Derived.Test.YthefcjjgchekiaaGreatF1
import Derived.Test.YthefcjjgchekiaaGreatA8a
set_option linter.unusedSimpArgs false
set_option linter.unusedVariables false
namespace Go.T
open Go Go.Proofs
set_option maxHeartbeats 4000000
set_option maxRecDepth 100000
def qne (x:List (Val (.int .i64))) (k:Int):List (Val (.int .i64)):=(mkT (.slice 3 (.int .i64)) x k).1
def qhw (x:List (Val (.int .i64))) (k:Int):Int:=(mkT (.slice 3 (.int .i64)) x k).2
def qv9 (x:List (Val (.int .i64))) (k:Int):Prop:=Bd (.slice 3 (.int .i64)) x∧k≤9223372036854775807
def qqV:Gms:=⟨3,(.int .i64),qv9,qne,qhw⟩
noncomputable def qkc (N:Nat) (k0:Int→(List (Val (.int .i64)))→Option ((List (Val (.int .i64)))×Int)):Nat→Int→Int→(List (Val (.int .i64)))→Option ((List (Val (.int .i64)))×Int)
 | 0,_,_,_=>none
 | n+1,v2,v3,v4=>bif (decide (v3<(v4.length:Int)))then (chk (0≤v3∧v3<(v4.length:Int)) (chk (v3.toNat<v4.length) (qkc N k0 n (IntKind.i64.wrap (v2+(1:Int))) (IntKind.i64.wrap (v3+(1:Int))) (v4.set v3.toNat v2))))else (k0 v2 v4)
noncomputable def qAB (N:Nat) (v0:List (Val (.int .i64))) (v1:Int):Option ((List (Val (.int .i64)))×Int):=qkc N (fun (v7:Int) (v8:List (Val (.int .i64)))=>some (v8,v7)) N v1 (0:Int) v0
def qr5:Gam:=[]
def qsR:Nm:=⟨[true,true,false,false,false,true],[],false⟩
theorem qF9:qsR.zero=false:=rfl
theorem qLs:qsR.fix=[]:=rfl
theorem qDT:qsR.keep=[true,true,false,false,false,true]:=rfl
def qAi:Nm:=⟨[false,true],[],false⟩
theorem qGt:qAi.zero=false:=rfl
theorem qNW:qAi.fix=[]:=rfl
theorem qLK:qAi.keep=[false,true]:=rfl
def qr0:Sem:=qh2 [] []
def qnj:Nat→Tree:=fun _=> .done
def qug:Nat→Nm:=fun i=>if i=2 then qsR else ⟨[],[],false⟩
def qq1:Nat→Option Jn:=fun _=>none
def qtS:Nat→Option Nm:=fun i=>if i=0 then some qAi else none
def qph:Nat→Option Nm:=fun _=>none
theorem q9A:qj qnj (Tryz.f100.body.getD .skip)=true:=by kernel_rfl
def qcu (N:Nat):Tab:={tr:=qnj,lp:=qug,ex:=qtS,rg:=qph,jn:=qq1,fuel:=N,pins:=true,sem:=qr0}
theorem qK7 (N:Nat):(qcu N).pins=true:=rfl
theorem q2S (N:Nat):qn Tryz.prog (qcu N):=qr fun _=>rfl
theorem qLr (N:Nat):(qcu N).sem=qr0:=rfl
theorem qCK (N:Nat) (i:Nat):(qcu N).tr i=qnj i:=rfl
theorem qLb (N:Nat) (i:Nat):(qcu N).lp i=qug i:=rfl
theorem qHa (N:Nat) (i:Nat):(qcu N).ex i=qtS i:=rfl
theorem qI0 (N:Nat) (i:Nat):(qcu N).rg i=qph i:=rfl
theorem qMl (N:Nat) (i:Nat):(qcu N).jn i=qq1 i:=rfl
theorem qNj (N:Nat):(qcu N).fuel=N:=rfl
noncomputable def qUq:Code:=cut [true,false,true,true,true] (Tryz.f100.body.getD .skip)
theorem q0M {N:Nat} {Q:X→St→Option ((List (Val (.int .i64)))×Int)} {e:List LV} {h:List Blk}:qd tt qr5 (qcu N) qUq Q ⟨e,h⟩=qd tt qr5 (qcu N) (cut [true,false,true,true,true] (Tryz.f100.body.getD .skip)) Q ⟨e,h⟩:=rfl
theorem q3u (N:Nat) {k0:Int→(List (Val (.int .i64)))→Option ((List (Val (.int .i64)))×Int)} {Q:X→St→Option ((List (Val (.int .i64)))×Int)} {c:Code} (hc:c=qUq) (hret: ∀st,Q .ret st=qix tt (.slice 3 (.int .i64)) [.own 0] [.tmp 4] st) (h0: ∀(v5:Int) (v6:List (Val (.int .i64))),Q (.exit 0) ⟨[u,.one (.int .i64 v5),u,u,u,u,u,u,u,u,u,u,u,u,u,u,u,u,u],[.row 3 (.int .i64) v6 true true 0]⟩=k0 v5 v6): ∀(n:Nat) (v2:Int) (v3:Int) (v4:List (Val (.int .i64))),qC (qd tt qr5 (qcu N) c) true qsR Q n ⟨[.one (.own 0),.one (.int .i64 v2),u,u,u,.one (.int .i64 v3),u,u,u,u,u,u,u,u,u,u,u,u,u],[.row 3 (.int .i64) v4 true true 0]⟩=qkc N k0 n v2 v3 v4:=by
 subst hc;intro n;induction n with
 | zero=>intros;rfl
 | succ n ih=>
   intro v2 v3 v4
   rw [qL,q0M,qkc];unfold Tryz.f100
   simp (maxSteps:=10000000) -implicitDefEqProofs [qCK,qnj,qLb,qug,qHa,qtS,qI0,qph,qMl,qq1,qNj,qK7,qLr,qr0,qP,qy,qbM,qLs,qDT,qF9,qNW,qLK,qGt,hret,h0,ih]
theorem q1E (N:Nat) (v0:List (Val (.int .i64))) (v1:Int):qd tt qr5 (qcu N) (Tryz.f100.body.getD .skip) (qcl (qix tt (.slice 3 (.int .i64)) (qF 0 (.slice 3 (.int .i64)) v0).1 [.tmp 4])) (qbM i25 19 v0 v1)=qAB N v0 v1:=by
 unfold Tryz.f100
 simp (maxSteps:=10000000) -implicitDefEqProofs [qCK,qnj,qLb,qug,qHa,qtS,qI0,qph,qMl,qq1,qNj,qK7,qLr,qr0,qP,qy,qbM,qLs,qDT,qF9,qNW,qLK,qGt]
 rewrite [q3u (k0:=(fun (v7:Int) (v8:List (Val (.int .i64)))=>some (v8,v7))) N ?_ ?_ ?_]
 ·rewrite [qAB];first | rfl | simp (maxSteps:=10000000) -implicitDefEqProofs []
 ·rfl
 ·intro;simp only [qK,qI,qJ,qy]
 ·intro v7 v8;simp (maxSteps:=10000000) -implicitDefEqProofs [qCK,qnj,qLb,qug,qHa,qtS,qI0,qph,qMl,qq1,qNj,qK7,qLr,qr0,qP,qy,qbM,qLs,qDT,qF9,qNW,qLK,qGt]
theorem q6p (x:List (Val (.int .i64))) (k:Int) (h:qv9 x k): ∃N,qAB N x k=some (qne x k,qhw x k):=⟨x.length+1,by
 rw [qAB]
 refine qYA (f:=mkE (.int .i64)) (F:=fun n i k s=>qkc _ _ n k i s) (kf:=fun k s=>some (s,k)) x h.1.1 (qsF _) (fun n i k s hi _ hl=> ?_) (fun n i k s hl hi=> ?_) _ k h.2 (Nat.lt_succ_self _)
 ·rw [qkc,ql (by omega),qe (by omega),qe (by omega)]
  rfl
 ·rw [qkc,qi (by omega)]⟩
theorem q2F:SoundMs Tryz.prog 100 qqV:=q8A (tt:=tt) (Γ:=qr5) hT qq hm (fn:=Tryz.f100) Tryz.func100 (c:=Tryz.f100.body.getD .skip) (by kernel_rfl) (by kernel_rfl) rfl fun x n hx=>by
 obtain ⟨N,h⟩:=q6p x n hx
 exact ⟨qcu N,rfl,q9A,⟨qoZ qo0 qrW,q2S N⟩,(q1E N x n).trans h⟩
def qkH (x:List (Val qa)) (k:Int):List (Val qa):=(mkT (.slice 108 qa) x k).1
def qFR (x:List (Val qa)) (k:Int):Int:=(mkT (.slice 108 qa) x k).2
def qw0 (x:List (Val qa)) (k:Int):Prop:=Bd (.slice 108 qa) x∧k≤9223372036854775807
def qoc:Gms:=⟨108,qa,qw0,qkH,qFR⟩
noncomputable def qlN (N:Nat) (v6:List (Val (hd qa))) (k0:Int→(List (Val qah))→(List (Val qa))→Option (List (Val qah)×List (Val qa)×Int)):Nat→Int→Int→(List (Val qah))→(List (Val qa))→Option (List (Val qah)×List (Val qa)×Int)
 | 0,_,_,_,_=>none
 | n+1,v3,v4,v5,v7=>bif (decide (v4<(v5.length:Int)))then (chk (0≤v4∧v4<(v5.length:Int)) (chk (v4.toNat<v5.length) (chk (v4.toNat<v7.length∧v4.toNat<v6.length∧((v6.getD v4.toNat (qc (hd qa)):Val qah).1:Value)=((v5.getD v4.toNat (qc qah)).1:Value)∧qv9 ((v7.getD v4.toNat (qc qa)).1:List (Val (.int .i64))) v3) (chk (0≤v4∧v4<(v5.length:Int)) (chk (v4.toNat<v5.length) (chk ((3:Int)≠0) (chk (0≤v4∧v4<((v5.set v4.toNat (((v5.getD v4.toNat (qc qah)).1:Value),((qhw ((v7.getD v4.toNat (qc qa)).1:List (Val (.int .i64))) v3),(((v5.getD v4.toNat (qc qah)).2).2:Bool)))).length:Int)) (chk (v4.toNat<(v5.set v4.toNat (((v5.getD v4.toNat (qc qah)).1:Value),((qhw ((v7.getD v4.toNat (qc qa)).1:List (Val (.int .i64))) v3),(((v5.getD v4.toNat (qc qah)).2).2:Bool)))).length) (qlN N v6 k0 n (IntKind.i64.wrap ((IntKind.i64.wrap ((qhw ((v7.getD v4.toNat (qc qa)).1:List (Val (.int .i64))) v3)+(1:Int)))+(1:Int))) (IntKind.i64.wrap (v4+(1:Int))) ((v5.set v4.toNat (((v5.getD v4.toNat (qc qah)).1:Value),((qhw ((v7.getD v4.toNat (qc qa)).1:List (Val (.int .i64))) v3),(((v5.getD v4.toNat (qc qah)).2).2:Bool)))).set v4.toNat ((((v5.set v4.toNat (((v5.getD v4.toNat (qc qah)).1:Value),((qhw ((v7.getD v4.toNat (qc qa)).1:List (Val (.int .i64))) v3),(((v5.getD v4.toNat (qc qah)).2).2:Bool)))).getD v4.toNat (qc qah)).1:Value),(((((v5.set v4.toNat (((v5.getD v4.toNat (qc qah)).1:Value),((qhw ((v7.getD v4.toNat (qc qa)).1:List (Val (.int .i64))) v3),(((v5.getD v4.toNat (qc qah)).2).2:Bool)))).getD v4.toNat (qc qah)).2).1:Int),(decide (((IntKind.i64.wrap ((qhw ((v7.getD v4.toNat (qc qa)).1:List (Val (.int .i64))) v3)+(1:Int))).tmod (3:Int))=(0:Int)))))) (v7.set v4.toNat ((qne ((v7.getD v4.toNat (qc qa)).1:List (Val (.int .i64))) v3),(v7.getD v4.toNat (qc qa)).2)))))))))))else (k0 v3 v5 v7)
noncomputable def qy3 (N:Nat) (v0:List (Val (hd qa))) (v1:List (Val qa)) (v2:Int):Option (List (Val qah)×List (Val qa)×Int):=qlN N v0 (fun (v11:Int) (v12:List (Val qah)) (v13:List (Val qa))=>some (v12,v13,v11)) N v2 (0:Int) v0 v1
def qmN:Gam:=[]
theorem qFh:Gam.get qmN 100=none:=rfl
def qrj:Nm:=⟨[true,true,false,false,false,true],[],false⟩
theorem qGE:qrj.zero=false:=rfl
theorem qGP:qrj.fix=[]:=rfl
theorem qM0:qrj.keep=[true,true,false,false,false,true]:=rfl
def qwz:Nm:=⟨[false,true],[],false⟩
theorem qLE:qwz.zero=false:=rfl
theorem qGS:qwz.fix=[]:=rfl
theorem qMz:qwz.keep=[false,true]:=rfl
def qqF:Sem:=qh2 [] [(18,100,qqV,0,13)]
def qns:Nat→Tree:=fun _=> .done
def qrU:Nat→Nm:=fun i=>if i=2 then qrj else ⟨[],[],false⟩
def qs0:Nat→Option Jn:=fun _=>none
def qsD:Nat→Option Nm:=fun i=>if i=0 then some qwz else none
def qow:Nat→Option Nm:=fun _=>none
theorem q5E:qj qns (Tryz.f191.body.getD .skip)=true:=by kernel_rfl
def qct (N:Nat):Tab:={tr:=qns,lp:=qrU,ex:=qsD,rg:=qow,jn:=qs0,fuel:=N,pins:=true,sem:=qqF}
theorem qFa (N:Nat):(qct N).pins=true:=rfl
theorem zcm (N:Nat):qn Tryz.prog (qct N):=qr fun _=>rfl
theorem qPm (N:Nat):(qct N).sem=qqF:=rfl
theorem qFf (N:Nat) (i:Nat):(qct N).tr i=qns i:=rfl
theorem qNo (N:Nat) (i:Nat):(qct N).lp i=qrU i:=rfl
theorem qJ6 (N:Nat) (i:Nat):(qct N).ex i=qsD i:=rfl
theorem qPq (N:Nat) (i:Nat):(qct N).rg i=qow i:=rfl
theorem qJz (N:Nat) (i:Nat):(qct N).jn i=qs0 i:=rfl
theorem qDz (N:Nat):(qct N).fuel=N:=rfl
noncomputable def qSD:Code:=cut [true,false,true,true,true] (Tryz.f191.body.getD .skip)
theorem qXG {N:Nat} {Q:X→St→Option (List (Val qah)×List (Val qa)×Int)} {e:List LV} {h:List Blk}:qd tt qmN (qct N) qSD Q ⟨e,h⟩=qd tt qmN (qct N) (cut [true,false,true,true,true] (Tryz.f191.body.getD .skip)) Q ⟨e,h⟩:=rfl
theorem qYY (N:Nat) (F:List Nat) (v6:List (Val (hd qa))) {k0:Int→(List (Val qah))→(List (Val qa))→Option (List (Val qah)×List (Val qa)×Int)} {Q:X→St→Option (List (Val qah)×List (Val qa)×Int)} {c:Code} (hc:c=qSD) (hret: ∀st,Q .ret st=qiC tt 108 qa qah F v6 [.tmp 4] st) (h0: ∀(v8:Int) (v9:List (Val qah)) (v10:List (Val qa)),Q (.exit 0) ⟨[u,.one (.int .i64 v8),u,u,u,u,u,u,u,u,u,u,u,u,u,u,u,u,u,u,u,u,u,u,u,u,u,u,u,u,u,u,u,u,u,u],[.row 108 qah v9 true true 0,.nst F qa v6 v10]⟩=k0 v8 v9 v10): ∀(n:Nat) (v3:Int) (v4:Int) (v5:List (Val qah)) (v7:List (Val qa)),qC (qd tt qmN (qct N) c) true qrj Q n ⟨[.one (.own 0),.one (.int .i64 v3),u,u,u,.one (.int .i64 v4),u,u,u,u,u,u,u,u,u,u,u,u,u,u,u,u,u,u,u,u,u,u,u,u,u,u,u,u,u,u],[.row 108 qah v5 true true 0,.nst F qa v6 v7]⟩=qlN N v6 k0 n v3 v4 v5 v7:=by
 subst hc;intro n;induction n with
 | zero=>intros;rfl
 | succ n ih=>
   intro v3 v4 v5 v7
   rw [qL,qXG,qlN];unfold Tryz.f191
   simp (maxSteps:=10000000) -implicitDefEqProofs [qFf,qns,qNo,qrU,qJ6,qsD,qPq,qow,qJz,qs0,qDz,qFa,qPm,qqF,qP,qFh,qqV,qy,qbM,qGP,qM0,qGE,qGS,qMz,qLE,hret,h0,ih]
theorem qYz (N:Nat) (F:List Nat) (v0:List (Val (hd qa))) (v1:List (Val qa)) (v2:Int):qd tt qmN (qct N) (Tryz.f191.body.getD .skip) (qcl (qiC tt 108 qa qah F v0 [.tmp 4])) ⟨[.one (.own 0),.one (.int .i64 v2),.tup [],.tup [],.tup [],.tup [],.tup [],.tup [],.tup [],.tup [],.tup [],.tup [],.tup [],.tup [],.tup [],.tup [],.tup [],.tup [],.tup [],.tup [],.tup [],.tup [],.tup [],.tup [],.tup [],.tup [],.tup [],.tup [],.tup [],.tup [],.tup [],.tup [],.tup [],.tup [],.tup [],.tup []],[.row 108 qah v0 true true 0,.nst F qa v0 v1]⟩=qy3 N v0 v1 v2:=by
 unfold Tryz.f191
 simp (maxSteps:=10000000) -implicitDefEqProofs [qFf,qns,qNo,qrU,qJ6,qsD,qPq,qow,qJz,qs0,qDz,qFa,qPm,qqF,qP,qFh,qqV,qy,qbM,qGP,qM0,qGE,qGS,qMz,qLE]
 rewrite [qYY (k0:=(fun (v11:Int) (v12:List (Val qah)) (v13:List (Val qa))=>some (v12,v13,v11))) N _ _ ?_ ?_ ?_]
 ·rewrite [qy3];first | rfl | simp (maxSteps:=10000000) -implicitDefEqProofs []
 ·rfl
 ·intro;simp only [qK,qI,qJ,qy]
 ·intro v11 v12 v13;simp (maxSteps:=10000000) -implicitDefEqProofs [qFf,qns,qNo,qrU,qJ6,qsD,qPq,qow,qJz,qs0,qDz,qFa,qPm,qqF,qP,qFh,qqV,qy,qbM,qGP,qM0,qGE,qGS,qMz,qLE]
theorem q70 (hs:List (Val (hd qa))) (xs:List (Val qa)) (k:Int) (h:qw0 xs k) (hl:xs.length=hs.length) (hmx:qM qa xs hs=hs):
 ∃N vs,vs.map (qae qa)=(qkH xs k).map (qae qa)∧qy3 N hs xs k=some (qM qa (qkH xs k) hs,vs,qFR xs k):=by
 refine ⟨xs.length+1,?_⟩
 rw [qy3]
 refine qQC (t:=qa) (F:=fun n i k ys vs=>qlN _ hs _ n k i ys vs) (kf:=fun k ys vs=>some (ys,vs,k)) xs hl hmx (by rw [←hl];exact h.1.1) (fun n i k fs vs hi hh hv hk l1 l2 hsl ⟨hx,hfx⟩=> ?_) (fun n i k ys vs hl hi=> ?_) _ k h.2 (Nat.lt_succ_self _)
 ·have hy:(qM qa fs hs).length=hs.length:=qsO l1
  have e1:vs[i].1=fs[i].1:=(Prod.mk.inj hsl).1
  refine ⟨(qne vs[i].1 k,vs[i].2),?_,?_⟩
  ·show ((qne vs[i].1 k,(0,false)):Val qa)=(qne fs[i].1 k,(0,false))
   rw [e1]
  ·have hb:qv9 vs[i].1 k:=⟨by rw [e1,hfx];exact (h.1.2 _ (List.getElem_mem hx)).1,hk⟩
   rw [qlN,ql (by omega),qe (by omega),qe (by omega),qSX hi hh l1,qH hv,qH hh,qe ⟨by omega,by omega,rfl,hb⟩,qe (by omega),qe (by omega),qe (by decide),qe (by rw [List.length_set];omega),qe (by rw [List.length_set];omega),List.set_set,qTt (by omega),Int.toNat_natCast]
   rw [←qTN hh l1]
   simp only [e1]
   rfl
 ·rw [qlN,qi (by omega)]
theorem zaV:SoundMs Tryz.prog 191 qoc:=qUG (tt:=tt) (Γ:=qmN) hT qq hm (fn:=Tryz.f191) Tryz.func191 (c:=Tryz.f191.body.getD .skip) (by kernel_rfl) (by kernel_rfl) fun xs hs n F hx hl hmx=>by
 obtain ⟨N,vs,h1,h2⟩:=q70 hs xs n hx hl hmx
 exact ⟨qct N,vs,rfl,q5E,⟨qoZ qo0 (qQS q2F qrW),zcm N⟩,h1,(qYz N F hs xs n).trans h2⟩
def qjj (x:List (Val (.int .i64))) (k:Int):Int:=(mkT (.slice 3 (.int .i64)) x k).2
def qvf (x:List (Val (.int .i64))) (k:Int):Prop:=qxS (.slice 3 (.int .i64)) x k
noncomputable def qiX (N:Nat) (v2:List (Val (.int .i64))) (k0:Int→Option (qb [i3])):Nat→Int→Int→Option (qb [i3])
 | 0,_,_=>none
 | n+1,v3,v4=>bif (decide (v4<(v2.length:Int)))then (chk (0≤v4∧v4<(v2.length:Int)) (bif (!(decide (((v2.getD v4.toNat (qc (.int .i64))):Int)=v3)))then (some ((-1:Int),()))else (qiX N v2 k0 n (IntKind.i64.wrap (v3+(1:Int))) (IntKind.i64.wrap (v4+(1:Int))))))else (k0 v3)
noncomputable def qzR (N:Nat) (v0:List (Val (.int .i64))) (v1:Int):Option (qb [i3]):=qiX N v0 (fun (v6:Int)=>some (v6,())) N v1 (0:Int)
def qoy:Gam:=[]
def qsn:Nm:=⟨[true,true,false,false,false,true],[],false⟩
theorem qGW:qsn.zero=false:=rfl
theorem qB5:qsn.fix=[]:=rfl
theorem qJG:qsn.keep=[true,true,false,false,false,true]:=rfl
def qx6:Nm:=⟨[false,true],[],false⟩
theorem qEg:qx6.zero=false:=rfl
theorem qIO:qx6.fix=[]:=rfl
theorem qEX:qx6.keep=[false,true]:=rfl
def qme:Nat→Tree:=fun _=> .done
def qpJ:Nat→Nm:=fun i=>if i=2 then qsn else ⟨[],[],false⟩
def quR:Nat→Option Jn:=fun _=>none
def qtf:Nat→Option Nm:=fun i=>if i=0 then some qx6 else none
def qtZ:Nat→Option Nm:=fun _=>none
theorem zbH:qj qme (Tryz.f192.body.getD .skip)=true:=by kernel_rfl
def qdW (N:Nat):Tab:={tr:=qme,lp:=qpJ,ex:=qtf,rg:=qtZ,jn:=quR,fuel:=N}
theorem qOw (N:Nat):(qdW N).pins=false:=rfl
theorem zba (N:Nat):qn Tryz.prog (qdW N):=qr fun _=>rfl
theorem qH0 (N:Nat) (i:Nat):(qdW N).tr i=qme i:=rfl
theorem qJO (N:Nat) (i:Nat):(qdW N).lp i=qpJ i:=rfl
theorem qMr (N:Nat) (i:Nat):(qdW N).ex i=qtf i:=rfl
theorem qCc (N:Nat) (i:Nat):(qdW N).rg i=qtZ i:=rfl
theorem qJX (N:Nat) (i:Nat):(qdW N).jn i=quR i:=rfl
theorem qNF (N:Nat):(qdW N).fuel=N:=rfl
noncomputable def qRX:Code:=cut [true,false,true,true,true] (Tryz.f192.body.getD .skip)
theorem q1k {N:Nat} {Q:X→St→Option (qb [i3])} {e:List LV} {h:List Blk}:qd tt qoy (qdW N) qRX Q ⟨e,h⟩=qd tt qoy (qdW N) (cut [true,false,true,true,true] (Tryz.f192.body.getD .skip)) Q ⟨e,h⟩:=rfl
theorem q95 (N:Nat) (v2:List (Val (.int .i64))) {k0:Int→Option (qb [i3])} {Q:X→St→Option (qb [i3])} {c:Code} (hc:c=qRX) (hret: ∀st,Q .ret st=qB tt true [i3] [.tmp 4] st) (h0: ∀(v5:Int),Q (.exit 0) ⟨[u,.one (.int .i64 v5),u,u,u,u,u,u,u,u,u,u,u,u,u,u,u,u,u,u,u],[]⟩=k0 v5): ∀(n:Nat) (v3:Int) (v4:Int),qC (qd tt qoy (qdW N) c) false qsn Q n ⟨[.one (.sl 3 (.int .i64) v2 0),.one (.int .i64 v3),u,u,u,.one (.int .i64 v4),u,u,u,u,u,u,u,u,u,u,u,u,u,u,u],[]⟩=qiX N v2 k0 n v3 v4:=by
 subst hc;intro n;induction n with
 | zero=>intros;rfl
 | succ n ih=>
   intro v3 v4
   rw [qL,q1k,qiX];unfold Tryz.f192
   simp (maxSteps:=10000000) -implicitDefEqProofs [qH0,qme,qJO,qpJ,qMr,qtf,qCc,qtZ,qJX,quR,qNF,qOw,qB5,qJG,qGW,qIO,qEX,qEg,hret,h0,ih]
theorem zbj (N:Nat) (v0:List (Val (.int .i64))) (v1:Int):qd tt qoy (qdW N) (Tryz.f192.body.getD .skip) (qo tt true [i3] [.tmp 4]) (qt [i25,i3] 21 (v0,v1,()))=qzR N v0 v1:=by
 unfold Tryz.f192
 simp (maxSteps:=10000000) -implicitDefEqProofs [qH0,qme,qJO,qpJ,qMr,qtf,qCc,qtZ,qJX,quR,qNF,qOw,qB5,qJG,qGW,qIO,qEX,qEg]
 rewrite [q95 (k0:=(fun (v6:Int)=>some (v6,()))) N _ ?_ ?_ ?_]
 ·rewrite [qzR];first | rfl | simp (maxSteps:=10000000) -implicitDefEqProofs []
 ·rfl
 ·intro;simp only [qK,qI,qJ,qy]
 ·intro v6;simp (maxSteps:=10000000) -implicitDefEqProofs [qH0,qme,qJO,qpJ,qMr,qtf,qCc,qtZ,qJX,quR,qNF,qOw,qB5,qJG,qGW,qIO,qEX,qEg]
def qmx:G:={ps:=[i25,i3],rs:=[i3],dp:=true,pre:=fun x=>qvf x.1 x.2.1,fn:=fun x=>(qjj x.1 x.2.1,())}
theorem qZT (x:List (Val (.int .i64))) (k:Int) (h:qvf x k): ∃N,qzR N x k=some (qjj x k,()):=⟨x.length+1,by
 obtain ⟨hm,hb,h0,hc⟩:=h
 rw [qzR]
 refine qGm (t:= .int .i64) (F:=fun n i k=>qiX _ x _ n k i) (kf:=fun k=>some (k,())) x hb.1 (fun n i k hi hx h0 hb=> ?_) (fun n i k hi=> ?_) _ k (Nat.lt_succ_self _) hm h0 hc
 ·have hx:k=x[i]:=hx
  rw [qiX,ql (by omega),qe (by omega),qH hi,qaO,ql hx.symm]
  rfl
 ·rw [qiX,qi (by omega)]⟩
theorem zaf:Sound Tryz.prog 192 qmx:=qu (tt:=tt) (Γ:=qoy) hT qq hm (fn:=Tryz.f192) Tryz.func192 (c:=Tryz.f192.body.getD .skip) (by kernel_rfl) (by kernel_rfl) fun x hx=>by
 obtain ⟨N,h⟩:=qZT x.1 x.2.1 hx
 exact ⟨qdW N,zbH,qv _,zba N,(zbj N x.1 x.2.1).trans h⟩
def qup (x:List (Val qa)) (k:Int):Int:=(mkT (.slice 108 qa) x k).2
def qxV (x:List (Val qa)) (k:Int):Prop:=qxS (.slice 108 qa) x k
noncomputable def qjQ (N:Nat) (v2:List (Val qa)) (k0:Int→Option (qb [i3])):Nat→Int→Int→Option (qb [i3])
 | 0,_,_=>none
 | n+1,v3,v4=>bif (decide (v4<(v2.length:Int)))then (chk (0≤v4∧v4<(v2.length:Int)) (chk (qvf ((v2.getD v4.toNat (qc qa)).1:List (Val (.int .i64))) v3) (bif (decide (((qjj ((v2.getD v4.toNat (qc qa)).1:List (Val (.int .i64))) v3):Int)<(0:Int)))then (some ((-1:Int),()))else (chk (0≤v4∧v4<(v2.length:Int)) (bif (!(decide ((((v2.getD v4.toNat (qc qa)).2).1:Int)=((qjj ((v2.getD v4.toNat (qc qa)).1:List (Val (.int .i64))) v3):Int))))then (some ((-1:Int),()))else (chk (0≤v4∧v4<(v2.length:Int)) (chk ((3:Int)≠0) (bif (!((((v2.getD v4.toNat (qc qa)).2).2:Bool)==(decide (((IntKind.i64.wrap (((qjj ((v2.getD v4.toNat (qc qa)).1:List (Val (.int .i64))) v3):Int)+(1:Int))).tmod (3:Int))=(0:Int)))))then (some ((-1:Int),()))else (qjQ N v2 k0 n (IntKind.i64.wrap ((IntKind.i64.wrap (((qjj ((v2.getD v4.toNat (qc qa)).1:List (Val (.int .i64))) v3):Int)+(1:Int)))+(1:Int))) (IntKind.i64.wrap (v4+(1:Int))))))))))))else (k0 v3)
noncomputable def qxd (N:Nat) (v0:List (Val qa)) (v1:Int):Option (qb [i3]):=qjQ N v0 (fun (v6:Int)=>some (v6,())) N v1 (0:Int)
def qmF:Gam:=[(192,qmx)]
theorem qFo:Gam.get qmF 192=some qmx:=rfl
def qrs:Nm:=⟨[true,true,false,false,false,true],[],false⟩
theorem qE1:qrs.zero=false:=rfl
theorem qOA:qrs.fix=[]:=rfl
theorem qLn:qrs.keep=[true,true,false,false,false,true]:=rfl
def qBt:Nm:=⟨[false,true],[],false⟩
theorem qE4:qBt.zero=false:=rfl
theorem qBO:qBt.fix=[]:=rfl
theorem qF7:qBt.keep=[false,true]:=rfl
def qmJ:Nat→Tree:=fun _=> .done
def qtJ:Nat→Nm:=fun i=>if i=2 then qrs else ⟨[],[],false⟩
def qt2:Nat→Option Jn:=fun _=>none
def qrX:Nat→Option Nm:=fun i=>if i=0 then some qBt else none
def quK:Nat→Option Nm:=fun _=>none
theorem q61:qj qmJ (Tryz.f216.body.getD .skip)=true:=by kernel_rfl
def qds (N:Nat):Tab:={tr:=qmJ,lp:=qtJ,ex:=qrX,rg:=quK,jn:=qt2,fuel:=N}
theorem qEm (N:Nat):(qds N).pins=false:=rfl
theorem qW8 (N:Nat):qn Tryz.prog (qds N):=qr fun _=>rfl
theorem qJA (N:Nat) (i:Nat):(qds N).tr i=qmJ i:=rfl
theorem qKO (N:Nat) (i:Nat):(qds N).lp i=qtJ i:=rfl
theorem qF4 (N:Nat) (i:Nat):(qds N).ex i=qrX i:=rfl
theorem qCk (N:Nat) (i:Nat):(qds N).rg i=quK i:=rfl
theorem qEp (N:Nat) (i:Nat):(qds N).jn i=qt2 i:=rfl
theorem qIN (N:Nat):(qds N).fuel=N:=rfl
noncomputable def qQP:Code:=cut [true,false,true,true,true] (Tryz.f216.body.getD .skip)
theorem q02 {N:Nat} {Q:X→St→Option (qb [i3])} {e:List LV} {h:List Blk}:qd tt qmF (qds N) qQP Q ⟨e,h⟩=qd tt qmF (qds N) (cut [true,false,true,true,true] (Tryz.f216.body.getD .skip)) Q ⟨e,h⟩:=rfl
theorem qYk (N:Nat) (v2:List (Val qa)) {k0:Int→Option (qb [i3])} {Q:X→St→Option (qb [i3])} {c:Code} (hc:c=qQP) (hret: ∀st,Q .ret st=qB tt true [i3] [.tmp 4] st) (h0: ∀(v5:Int),Q (.exit 0) ⟨[u,.one (.int .i64 v5),u,u,u,u,u,u,u,u,u,u,u,u,u,u,u,u,u,u,u,u,u,u,u,u,u,u,u,u,u,u,u,u,u,u,u,u,u,u,u,u],[]⟩=k0 v5): ∀(n:Nat) (v3:Int) (v4:Int),qC (qd tt qmF (qds N) c) false qrs Q n ⟨[.one (.sl 108 qa v2 0),.one (.int .i64 v3),u,u,u,.one (.int .i64 v4),u,u,u,u,u,u,u,u,u,u,u,u,u,u,u,u,u,u,u,u,u,u,u,u,u,u,u,u,u,u,u,u,u,u,u,u],[]⟩=qjQ N v2 k0 n v3 v4:=by
 subst hc;intro n;induction n with
 | zero=>intros;rfl
 | succ n ih=>
   intro v3 v4
   rw [qL,q02,qjQ];unfold Tryz.f216
   simp (maxSteps:=10000000) -implicitDefEqProofs [qJA,qmJ,qKO,qtJ,qF4,qrX,qCk,quK,qEp,qt2,qIN,qEm,qOA,qLn,qE1,qBO,qF7,qE4,qFo,qmx,hret,h0,ih]
theorem q2X (N:Nat) (v0:List (Val qa)) (v1:Int):qd tt qmF (qds N) (Tryz.f216.body.getD .skip) (qo tt true [i3] [.tmp 4]) (qt [i31,i3] 42 (v0,v1,()))=qxd N v0 v1:=by
 unfold Tryz.f216
 simp (maxSteps:=10000000) -implicitDefEqProofs [qJA,qmJ,qKO,qtJ,qF4,qrX,qCk,quK,qEp,qt2,qIN,qEm,qOA,qLn,qE1,qBO,qF7,qE4,qFo,qmx]
 rewrite [qYk (k0:=(fun (v6:Int)=>some (v6,()))) N _ ?_ ?_ ?_]
 ·rewrite [qxd];first | rfl | simp (maxSteps:=10000000) -implicitDefEqProofs []
 ·rfl
 ·intro;simp only [qK,qI,qJ,qy]
 ·intro v6;simp (maxSteps:=10000000) -implicitDefEqProofs [qJA,qmJ,qKO,qtJ,qF4,qrX,qCk,quK,qEp,qt2,qIN,qEm,qOA,qLn,qE1,qBO,qF7,qE4,qFo,qmx]
def qmp:G:={ps:=[i31,i3],rs:=[i3],dp:=true,pre:=fun x=>qxV x.1 x.2.1,fn:=fun x=>(qup x.1 x.2.1,())}
theorem qZI (x:List (Val qa)) (k:Int) (h:qxV x k): ∃N,qxd N x k=some (qup x k,()):=⟨x.length+1,by
 obtain ⟨hm,hb,h0,hc⟩:=h
 rw [qxd]
 refine qGm (t:=qa) (F:=fun n i k=>qjQ _ x _ n k i) (kf:=fun k=>some (k,())) x hb.1 (fun n i k hi hx h0 hc=> ?_) (fun n i k hi=> ?_) _ k (Nat.lt_succ_self _) hm h0 hc
 ·have hb:=hb.2 _ (List.getElem_mem hi)
  obtain ⟨e1,e2,e3⟩:(mkE (.slice 3 (.int .i64)) x[i].1 k).1=x[i].1∧(mkE (.slice 3 (.int .i64)) x[i].1 k).2=x[i].2.1∧decide (Int.tmod (IntKind.i64.wrap ((mkE (.slice 3 (.int .i64)) x[i].1 k).2+1)) 3=0)=x[i].2.2:=by
   have:=Prod.mk.inj hx
   have h2:=Prod.mk.inj this.2
   exact ⟨this.1,h2.1,h2.2⟩
  have hcc:k+(qS (.slice 3 (.int .i64)) x[i].1:Nat)+2≤4611686018427387904:=by
   have:qS qa x[i]=qS (.slice 3 (.int .i64)) x[i].1+(1+1):=rfl
   omega
  have hk:=qkM (.slice 3 (.int .i64)) x[i].1 k h0 (by omega)
  have hp:qvf x[i].1 k:=⟨e1,hb.1,h0,by have:q7 (.slice 3 (.int .i64)) x[i].1=qS (.slice 3 (.int .i64)) x[i].1:=rfl;omega⟩
  have ev:qjj x[i].1 k=(mkE (.slice 3 (.int .i64)) x[i].1 k).2:=rfl
  rw [qjQ,ql (by omega),qe (by omega),qH hi,qe hp,qi (by omega),qe (by omega),qaO,ql (by rw [ev];exact e2.symm),qe (by omega),qe (by decide),qaO,q4G (by rw [ev,e3];exact beq_self_eq_true _)]
  rfl
 ·rw [qjQ,qi (by omega)]⟩
theorem q3J:Sound Tryz.prog 216 qmp:=qu (tt:=tt) (Γ:=qmF) hT (qf zaf qq) hm (fn:=Tryz.f216) Tryz.func216 (c:=Tryz.f216.body.getD .skip) (by kernel_rfl) (by kernel_rfl) fun x hx=>by
 obtain ⟨N,h⟩:=qZI x.1 x.2.1 hx
 exact ⟨qds N,q61,qv _,qW8 N,(q2X N x.1 x.2.1).trans h⟩
def qu4 (x:List (Val Y33)) (k:Int):List (Val Y33):=(mkT (.slice 33 Y33) x k).1
def qGD (x:List (Val Y33)) (k:Int):Int:=(mkT (.slice 33 Y33) x k).2
def qwu (x:List (Val Y33)) (k:Int):Prop:=Bd (.slice 33 Y33) x∧k≤9223372036854775807
def qOm:Gms:=⟨33,Y33,qwu,qu4,qGD⟩
noncomputable def qjK (N:Nat) (v6:List (Val (hd Y33))) (k0:Int→(List (Val H33))→(List (Val Y33))→Option (List (Val H33)×List (Val Y33)×Int)):Nat→Int→Int→(List (Val H33))→(List (Val Y33))→Option (List (Val H33)×List (Val Y33)×Int)
 | 0,_,_,_,_=>none
 | n+1,v3,v4,v5,v7=>bif (decide (v4<(v5.length:Int)))then (chk (0≤v4∧v4<(v5.length:Int)) (chk (v4.toNat<v5.length) (chk (0≤v4∧v4<((v5.set v4.toNat (v3,((v5.getD v4.toNat (qc H33)).2:Value))).length:Int)) (chk (v4.toNat<(v5.set v4.toNat (v3,((v5.getD v4.toNat (qc H33)).2:Value))).length) (chk (v4.toNat<v7.length∧v4.toNat<v6.length∧((v6.getD v4.toNat (qc (hd Y33)):Val H33).2:Value)=(((v5.set v4.toNat (v3,((v5.getD v4.toNat (qc H33)).2:Value))).getD v4.toNat (qc H33)).2:Value)∧qw0 ((v7.getD v4.toNat (qc Y33)).2:List (Val qa)) (IntKind.i64.wrap (v3+(1:Int)))) (qjK N v6 k0 n (qFR ((v7.getD v4.toNat (qc Y33)).2:List (Val qa)) (IntKind.i64.wrap (v3+(1:Int)))) (IntKind.i64.wrap (v4+(1:Int))) (v5.set v4.toNat (v3,((v5.getD v4.toNat (qc H33)).2:Value))) (v7.set v4.toNat (((v7.getD v4.toNat (qc Y33)).1:Int),(qkH ((v7.getD v4.toNat (qc Y33)).2:List (Val qa)) (IntKind.i64.wrap (v3+(1:Int))))))))))))else (k0 v3 v5 v7)
noncomputable def qwt (N:Nat) (v0:List (Val (hd Y33))) (v1:List (Val Y33)) (v2:Int):Option (List (Val H33)×List (Val Y33)×Int):=qjK N v0 (fun (v11:Int) (v12:List (Val H33)) (v13:List (Val Y33))=>some (v12,v13,v11)) N v2 (0:Int) v0 v1
def qnc:Gam:=[]
theorem qHT:Gam.get qnc 191=none:=rfl
def quF:Nm:=⟨[true,true,false,false,false,true],[],false⟩
theorem qPt:quF.zero=false:=rfl
theorem qLi:quF.fix=[]:=rfl
theorem qNr:quF.keep=[true,true,false,false,false,true]:=rfl
def qzQ:Nm:=⟨[false,true],[],false⟩
theorem qMX:qzQ.zero=false:=rfl
theorem qGY:qzQ.fix=[]:=rfl
theorem qI9:qzQ.keep=[false,true]:=rfl
def qpF:Sem:=qh2 [] [(25,191,qoc,1,20)]
def qmz:Nat→Tree:=fun _=> .done
def qsJ:Nat→Nm:=fun i=>if i=2 then quF else ⟨[],[],false⟩
def qok:Nat→Option Jn:=fun _=>none
def qt8:Nat→Option Nm:=fun i=>if i=0 then some qzQ else none
def qpP:Nat→Option Nm:=fun _=>none
theorem zdy:qj qmz (Tryz.f135.body.getD .skip)=true:=by kernel_rfl
def qci (N:Nat):Tab:={tr:=qmz,lp:=qsJ,ex:=qt8,rg:=qpP,jn:=qok,fuel:=N,pins:=true,sem:=qpF}
theorem qD6 (N:Nat):(qci N).pins=true:=rfl
theorem qWs (N:Nat):qn Tryz.prog (qci N):=qr fun _=>rfl
theorem qFV (N:Nat):(qci N).sem=qpF:=rfl
theorem qNE (N:Nat) (i:Nat):(qci N).tr i=qmz i:=rfl
theorem qJn (N:Nat) (i:Nat):(qci N).lp i=qsJ i:=rfl
theorem qDv (N:Nat) (i:Nat):(qci N).ex i=qt8 i:=rfl
theorem qHv (N:Nat) (i:Nat):(qci N).rg i=qpP i:=rfl
theorem qEh (N:Nat) (i:Nat):(qci N).jn i=qok i:=rfl
theorem qBT (N:Nat):(qci N).fuel=N:=rfl
noncomputable def qRC:Code:=cut [true,false,true,true,true] (Tryz.f135.body.getD .skip)
theorem qYh {N:Nat} {Q:X→St→Option (List (Val H33)×List (Val Y33)×Int)} {e:List LV} {h:List Blk}:qd tt qnc (qci N) qRC Q ⟨e,h⟩=qd tt qnc (qci N) (cut [true,false,true,true,true] (Tryz.f135.body.getD .skip)) Q ⟨e,h⟩:=rfl
theorem q6M (N:Nat) (F:List Nat) (v6:List (Val (hd Y33))) {k0:Int→(List (Val H33))→(List (Val Y33))→Option (List (Val H33)×List (Val Y33)×Int)} {Q:X→St→Option (List (Val H33)×List (Val Y33)×Int)} {c:Code} (hc:c=qRC) (hret: ∀st,Q .ret st=qiC tt 33 Y33 H33 F v6 [.tmp 4] st) (h0: ∀(v8:Int) (v9:List (Val H33)) (v10:List (Val Y33)),Q (.exit 0) ⟨[u,.one (.int .i64 v8),u,u,u,u,u,u,u,u,u,u,u,u,u,u,u,u,u,u,u,u,u,u,u,u,u],[.row 33 H33 v9 true true 0,.nst F Y33 v6 v10]⟩=k0 v8 v9 v10): ∀(n:Nat) (v3:Int) (v4:Int) (v5:List (Val H33)) (v7:List (Val Y33)),qC (qd tt qnc (qci N) c) true quF Q n ⟨[.one (.own 0),.one (.int .i64 v3),u,u,u,.one (.int .i64 v4),u,u,u,u,u,u,u,u,u,u,u,u,u,u,u,u,u,u,u,u,u],[.row 33 H33 v5 true true 0,.nst F Y33 v6 v7]⟩=qjK N v6 k0 n v3 v4 v5 v7:=by
 subst hc;intro n;induction n with
 | zero=>intros;rfl
 | succ n ih=>
   intro v3 v4 v5 v7
   rw [qL,qYh,qjK];unfold Tryz.f135
   simp (maxSteps:=10000000) -implicitDefEqProofs [qNE,qmz,qJn,qsJ,qDv,qt8,qHv,qpP,qEh,qok,qBT,qD6,qFV,qpF,qP,qHT,qoc,qy,qbM,qLi,qNr,qPt,qGY,qI9,qMX,hret,h0,ih]
theorem q9k (N:Nat) (F:List Nat) (v0:List (Val (hd Y33))) (v1:List (Val Y33)) (v2:Int):qd tt qnc (qci N) (Tryz.f135.body.getD .skip) (qcl (qiC tt 33 Y33 H33 F v0 [.tmp 4])) ⟨[.one (.own 0),.one (.int .i64 v2),.tup [],.tup [],.tup [],.tup [],.tup [],.tup [],.tup [],.tup [],.tup [],.tup [],.tup [],.tup [],.tup [],.tup [],.tup [],.tup [],.tup [],.tup [],.tup [],.tup [],.tup [],.tup [],.tup [],.tup [],.tup []],[.row 33 H33 v0 true true 0,.nst F Y33 v0 v1]⟩=qwt N v0 v1 v2:=by
 unfold Tryz.f135
 simp (maxSteps:=10000000) -implicitDefEqProofs [qNE,qmz,qJn,qsJ,qDv,qt8,qHv,qpP,qEh,qok,qBT,qD6,qFV,qpF,qP,qHT,qoc,qy,qbM,qLi,qNr,qPt,qGY,qI9,qMX]
 rewrite [q6M (k0:=(fun (v11:Int) (v12:List (Val H33)) (v13:List (Val Y33))=>some (v12,v13,v11))) N _ _ ?_ ?_ ?_]
 ·rewrite [qwt];first | rfl | simp (maxSteps:=10000000) -implicitDefEqProofs []
 ·rfl
 ·intro;simp only [qK,qI,qJ,qy]
 ·intro v11 v12 v13;simp (maxSteps:=10000000) -implicitDefEqProofs [qNE,qmz,qJn,qsJ,qDv,qt8,qHv,qpP,qEh,qok,qBT,qD6,qFV,qpF,qP,qHT,qoc,qy,qbM,qLi,qNr,qPt,qGY,qI9,qMX]
theorem qXO (hs:List (Val (hd Y33))) (xs:List (Val Y33)) (k:Int) (h:qwu xs k) (hl:xs.length=hs.length) (hmx:qM Y33 xs hs=hs):
 ∃N vs,vs.map (qae Y33)=(qu4 xs k).map (qae Y33)∧qwt N hs xs k=some (qM Y33 (qu4 xs k) hs,vs,qGD xs k):=by
 refine ⟨xs.length+1,?_⟩
 rw [qwt]
 refine qQC (t:=Y33) (F:=fun n i k ys vs=>qjK _ hs _ n k i ys vs) (kf:=fun k ys vs=>some (ys,vs,k)) xs hl hmx (by rw [←hl];exact h.1.1) (fun n i k fs vs hi hh hv hk l1 l2 hsl ⟨hx,hfx⟩=> ?_) (fun n i k ys vs hl hi=> ?_) _ k h.2 (Nat.lt_succ_self _)
 ·have hy:(qM Y33 fs hs).length=hs.length:=qsO l1
  have e1:vs[i].2=fs[i].2:=(Prod.mk.inj hsl).2
  refine ⟨(vs[i].1,qkH vs[i].2 (IntKind.i64.wrap (k+1))),?_,?_⟩
  ·show ((0,qkH vs[i].2 _):Val Y33)=(0,qkH fs[i].2 _)
   rw [e1];rfl
  ·have hb:qw0 vs[i].2 (IntKind.i64.wrap (k+1)):=⟨by rw [e1,hfx];exact (h.1.2 _ (List.getElem_mem hx)).2,qyU _⟩
   rw [qjK,ql (by omega),qSX hi hh l1,qH hv,qH hh,qTt (by omega)]
   repeat rw [List.length_set]
   rw [qe (by omega),qe (by omega),qe (by omega),qe (by omega),qe ⟨by omega,by omega,rfl,hb⟩,Int.toNat_natCast]
   rw [←qTN hh l1]
   simp only [e1]
   rfl
 ·rw [qjK,qi (by omega)]
theorem qY3:SoundMs Tryz.prog 135 qOm:=qUG (tt:=tt) (Γ:=qnc) hT qq hm (fn:=Tryz.f135) Tryz.func135 (c:=Tryz.f135.body.getD .skip) (by kernel_rfl) (by kernel_rfl) fun xs hs n F hx hl hmx=>by
 obtain ⟨N,vs,h1,h2⟩:=qXO hs xs n hx hl hmx
 exact ⟨qci N,vs,rfl,zdy,⟨qoZ qo0 (qQS zaV qrW),qWs N⟩,h1,(q9k N F hs xs n).trans h2⟩
def qak (x:Val Y50) (k:Int):Val Y50:=(mkT Y50 x k).1
def qaU (x:Val Y50) (k:Int):Int:=(mkT Y50 x k).2
def qgp (x:Val Y50) (k:Int):Prop:=Bd Y50 x∧k≤9223372036854775807
def qg3:Gm:=⟨i50,qgp,qak,qaU⟩
noncomputable def m42 (N:Nat) (v0:Val Y50) (v1:Int):Option ((Val Y50)×Int):=chk (qwu (v0.2:List (Val Y33)) v1) (some (((v0.1:Int),((qu4 (v0.2:List (Val Y33)) v1):List (Val Y33))),(qGD (v0.2:List (Val Y33)) v1)))
def Γ42:Gam:=[]
theorem qZf:Gam.get Γ42 135=none:=rfl
def qEB:Sem:=qh2 [(135,qOm.gm)] []
def qyu:Nat→Tree:=fun _=> .done
def qF6:Nat→Nm:=fun _=>⟨[],[],false⟩
def qDH:Nat→Option Jn:=fun _=>none
def qNH:Nat→Option Nm:=fun _=>none
def qLp:Nat→Option Nm:=fun _=>none
theorem p42:qj qyu (Tryz.f42.body.getD .skip)=true:=by kernel_rfl
def T42 (N:Nat):Tab:={tr:=qyu,lp:=qF6,ex:=qNH,rg:=qLp,jn:=qDH,fuel:=N,pins:=true,sem:=qEB}
theorem qVa (N:Nat):(T42 N).pins=true:=rfl
theorem zaq (N:Nat):qn Tryz.prog (T42 N):=qr fun _=>rfl
theorem zbQ (N:Nat):(T42 N).sem=qEB:=rfl
theorem zbs (N:Nat) (i:Nat):(T42 N).tr i=qyu i:=rfl
theorem qWH (N:Nat) (i:Nat):(T42 N).lp i=qF6 i:=rfl
theorem qW3 (N:Nat) (i:Nat):(T42 N).ex i=qNH i:=rfl
theorem qU1 (N:Nat) (i:Nat):(T42 N).rg i=qLp i:=rfl
theorem q7m (N:Nat) (i:Nat):(T42 N).jn i=qDH i:=rfl
theorem zcy (N:Nat):(T42 N).fuel=N:=rfl
theorem q47 (N:Nat) (v0:Val Y50) (v1:Int):qd tt Γ42 (T42 N) (Tryz.f42.body.getD .skip) (qcl (qix tt Y50 (qF 0 Y50 v0).1 [.tmp 4])) (qbM i50 10 v0 v1)=m42 N v0 v1:=by
 rw [m42];unfold Tryz.f42
 simp (maxSteps:=10000000) -implicitDefEqProofs [zbs,qyu,qWH,qF6,qW3,qNH,qU1,qLp,q7m,qDH,zcy,qVa,zbQ,qEB,qP,qZf,qOm,qy,qbM]
 try rfl
theorem e42 (x:Val Y50) (k:Int) (h:qgp x k): ∃N,m42 N x k=some (qak x k,qaU x k):=⟨0,by
 rw [m42,qe (show qwu _ k from ⟨h.1.2,h.2⟩)]
 rfl⟩
theorem q1V:SoundM Tryz.prog 42 qg3:=qUM (tt:=tt) (Γ:=Γ42) hT qq hm (fn:=Tryz.f42) Tryz.func42 (c:=Tryz.f42.body.getD .skip) (by kernel_rfl) (by kernel_rfl) fun x n hx=>by
 obtain ⟨N,h⟩:=e42 x n hx
 exact ⟨T42 N,rfl,p42,⟨qoZ (qQu qY3.gm qo0) qrW,zaq N⟩,(q47 N x n).trans h⟩
def qrp (x:List (Val Y33)) (k:Int):Int:=(mkT (.slice 33 Y33) x k).2
def qyQ (x:List (Val Y33)) (k:Int):Prop:=qxS (.slice 33 Y33) x k
noncomputable def qjG (N:Nat) (v2:List (Val Y33)) (k0:Int→Option (qb [i3])):Nat→Int→Int→Option (qb [i3])
 | 0,_,_=>none
 | n+1,v3,v4=>bif (decide (v4<(v2.length:Int)))then (chk (0≤v4∧v4<(v2.length:Int)) (bif (!(decide (((v2.getD v4.toNat (qc Y33)).1:Int)=v3)))then (some ((-1:Int),()))else (chk (0≤v4∧v4<(v2.length:Int)) (chk (qxV ((v2.getD v4.toNat (qc Y33)).2:List (Val qa)) (IntKind.i64.wrap (v3+(1:Int)))) (bif (decide (((qup ((v2.getD v4.toNat (qc Y33)).2:List (Val qa)) (IntKind.i64.wrap (v3+(1:Int)))):Int)<(0:Int)))then (some ((-1:Int),()))else (qjG N v2 k0 n ((qup ((v2.getD v4.toNat (qc Y33)).2:List (Val qa)) (IntKind.i64.wrap (v3+(1:Int)))):Int) (IntKind.i64.wrap (v4+(1:Int)))))))))else (k0 v3)
noncomputable def qwC (N:Nat) (v0:List (Val Y33)) (v1:Int):Option (qb [i3]):=qjG N v0 (fun (v6:Int)=>some (v6,())) N v1 (0:Int)
def qmy:Gam:=[(216,qmp)]
theorem qKd:Gam.get qmy 216=some qmp:=rfl
def qtX:Nm:=⟨[true,true,false,false,false,true],[],false⟩
theorem qHe:qtX.zero=false:=rfl
theorem qJD:qtX.fix=[]:=rfl
theorem qCP:qtX.keep=[true,true,false,false,false,true]:=rfl
def qzL:Nm:=⟨[false,true],[],false⟩
theorem qHc:qzL.zero=false:=rfl
theorem qBD:qzL.fix=[]:=rfl
theorem qEj:qzL.keep=[false,true]:=rfl
def qm1:Nat→Tree:=fun _=> .done
def qoj:Nat→Nm:=fun i=>if i=2 then qtX else ⟨[],[],false⟩
def qot:Nat→Option Jn:=fun _=>none
def qod:Nat→Option Nm:=fun i=>if i=0 then some qzL else none
def quP:Nat→Option Nm:=fun _=>none
theorem q7F:qj qm1 (Tryz.f136.body.getD .skip)=true:=by kernel_rfl
def qcD (N:Nat):Tab:={tr:=qm1,lp:=qoj,ex:=qod,rg:=quP,jn:=qot,fuel:=N}
theorem qG7 (N:Nat):(qcD N).pins=false:=rfl
theorem q9o (N:Nat):qn Tryz.prog (qcD N):=qr fun _=>rfl
theorem qGw (N:Nat) (i:Nat):(qcD N).tr i=qm1 i:=rfl
theorem qNy (N:Nat) (i:Nat):(qcD N).lp i=qoj i:=rfl
theorem qKB (N:Nat) (i:Nat):(qcD N).ex i=qod i:=rfl
theorem qPO (N:Nat) (i:Nat):(qcD N).rg i=quP i:=rfl
theorem qD3 (N:Nat) (i:Nat):(qcD N).jn i=qot i:=rfl
theorem qOV (N:Nat):(qcD N).fuel=N:=rfl
noncomputable def qRf:Code:=cut [true,false,true,true,true] (Tryz.f136.body.getD .skip)
theorem q8y {N:Nat} {Q:X→St→Option (qb [i3])} {e:List LV} {h:List Blk}:qd tt qmy (qcD N) qRf Q ⟨e,h⟩=qd tt qmy (qcD N) (cut [true,false,true,true,true] (Tryz.f136.body.getD .skip)) Q ⟨e,h⟩:=rfl
theorem q10 (N:Nat) (v2:List (Val Y33)) {k0:Int→Option (qb [i3])} {Q:X→St→Option (qb [i3])} {c:Code} (hc:c=qRf) (hret: ∀st,Q .ret st=qB tt true [i3] [.tmp 4] st) (h0: ∀(v5:Int),Q (.exit 0) ⟨[u,.one (.int .i64 v5),u,u,u,u,u,u,u,u,u,u,u,u,u,u,u,u,u,u,u,u,u,u,u,u,u,u,u,u,u],[]⟩=k0 v5): ∀(n:Nat) (v3:Int) (v4:Int),qC (qd tt qmy (qcD N) c) false qtX Q n ⟨[.one (.sl 33 Y33 v2 0),.one (.int .i64 v3),u,u,u,.one (.int .i64 v4),u,u,u,u,u,u,u,u,u,u,u,u,u,u,u,u,u,u,u,u,u,u,u,u,u],[]⟩=qjG N v2 k0 n v3 v4:=by
 subst hc;intro n;induction n with
 | zero=>intros;rfl
 | succ n ih=>
   intro v3 v4
   rw [qL,q8y,qjG];unfold Tryz.f136
   simp (maxSteps:=10000000) -implicitDefEqProofs [qGw,qm1,qNy,qoj,qKB,qod,qPO,quP,qD3,qot,qOV,qG7,qJD,qCP,qHe,qBD,qEj,qHc,qKd,qmp,hret,h0,ih]
theorem qVd (N:Nat) (v0:List (Val Y33)) (v1:Int):qd tt qmy (qcD N) (Tryz.f136.body.getD .skip) (qo tt true [i3] [.tmp 4]) (qt [i48,i3] 31 (v0,v1,()))=qwC N v0 v1:=by
 unfold Tryz.f136
 simp (maxSteps:=10000000) -implicitDefEqProofs [qGw,qm1,qNy,qoj,qKB,qod,qPO,quP,qD3,qot,qOV,qG7,qJD,qCP,qHe,qBD,qEj,qHc,qKd,qmp]
 rewrite [q10 (k0:=(fun (v6:Int)=>some (v6,()))) N _ ?_ ?_ ?_]
 ·rewrite [qwC];first | rfl | simp (maxSteps:=10000000) -implicitDefEqProofs []
 ·rfl
 ·intro;simp only [qK,qI,qJ,qy]
 ·intro v6;simp (maxSteps:=10000000) -implicitDefEqProofs [qGw,qm1,qNy,qoj,qKB,qod,qPO,quP,qD3,qot,qOV,qG7,qJD,qCP,qHe,qBD,qEj,qHc,qKd,qmp]
def qAf:G:={ps:=[i48,i3],rs:=[i3],dp:=true,pre:=fun x=>qyQ x.1 x.2.1,fn:=fun x=>(qrp x.1 x.2.1,())}
theorem q4n (x:List (Val Y33)) (k:Int) (h:qyQ x k): ∃N,qwC N x k=some (qrp x k,()):=⟨x.length+1,by
 obtain ⟨hm,hb,h0,hc⟩:=h
 rw [qwC]
 refine qGm (t:=Y33) (F:=fun n i k=>qjG _ x _ n k i) (kf:=fun k=>some (k,())) x hb.1 (fun n i k hi hx h0 hc=> ?_) (fun n i k hi=> ?_) _ k (Nat.lt_succ_self _) hm h0 hc
 ·have hb:=hb.2 _ (List.getElem_mem hi)
  obtain ⟨e1,e2⟩:=Prod.mk.inj hx
  have e1:k=x[i].1:=e1
  have ek:IntKind.i64.wrap (k+1)=k+1:=qaf (by omega) (by omega)
  have hcc:(k+1)+(qS (.slice 108 qa) x[i].2:Nat)≤4611686018427387904:=by
   have:qS Y33 x[i]=1+qS (.slice 108 qa) x[i].2:=rfl
   omega
  have hk:=qkM (.slice 108 qa) x[i].2 (k+1) (by omega) hcc
  have hp:qxV x[i].2 (k+1):=⟨by rw [←ek];exact e2,hb.2,by omega,by have:q7 (.slice 108 qa) x[i].2=qS (.slice 108 qa) x[i].2:=rfl;omega⟩
  have ev:qup x[i].2 (k+1)=(mkE (.slice 108 qa) x[i].2 (k+1)).2:=rfl
  rw [qjG,ql (by omega),qe (by omega),qH hi,qaO,ql e1.symm,ek,qe (by omega),qe hp,qi (by omega),ev,←ek]
  rfl
 ·rw [qjG,qi (by omega)]⟩
theorem q3g:Sound Tryz.prog 136 qAf:=qu (tt:=tt) (Γ:=qmy) hT (qf q3J qq) hm (fn:=Tryz.f136) Tryz.func136 (c:=Tryz.f136.body.getD .skip) (by kernel_rfl) (by kernel_rfl) fun x hx=>by
 obtain ⟨N,h⟩:=q4n x.1 x.2.1 hx
 exact ⟨qcD N,q7F,qv _,q9o N,(qVd N x.1 x.2.1).trans h⟩
def qbA (x:Val Y50) (k:Int):Int:=(mkT Y50 x k).2
def qgl (x:Val Y50) (k:Int):Prop:=qxS Y50 x k
noncomputable def m43 (N:Nat) (v0:Val Y50) (v1:Int):Option (qb [i3]):=chk (qyQ (v0.2:List (Val Y33)) v1) (bif (decide (((qrp (v0.2:List (Val Y33)) v1):Int)<(0:Int)))then (some ((-1:Int),()))else (some (((qrp (v0.2:List (Val Y33)) v1):Int),())))
def Γ43:Gam:=[(136,qAf)]
theorem q0f:Gam.get Γ43 136=some qAf:=rfl
def qvA:Nat→Tree:=fun _=> .done
def qDw:Nat→Nm:=fun _=>⟨[],[],false⟩
def qMb:Nat→Option Jn:=fun _=>none
def qCb:Nat→Option Nm:=fun _=>none
def qOj:Nat→Option Nm:=fun _=>none
theorem p43:qj qvA (Tryz.f43.body.getD .skip)=true:=by kernel_rfl
def T43 (N:Nat):Tab:={tr:=qvA,lp:=qDw,ex:=qCb,rg:=qOj,jn:=qMb,fuel:=N}
theorem qXx (N:Nat):(T43 N).pins=false:=rfl
theorem qX3 (N:Nat):qn Tryz.prog (T43 N):=qr fun _=>rfl
theorem q4Q (N:Nat) (i:Nat):(T43 N).tr i=qvA i:=rfl
theorem zds (N:Nat) (i:Nat):(T43 N).lp i=qDw i:=rfl
theorem q5L (N:Nat) (i:Nat):(T43 N).ex i=qCb i:=rfl
theorem qVO (N:Nat) (i:Nat):(T43 N).rg i=qOj i:=rfl
theorem q2x (N:Nat) (i:Nat):(T43 N).jn i=qMb i:=rfl
theorem q5b (N:Nat):(T43 N).fuel=N:=rfl
theorem zcS (N:Nat) (v0:Val Y50) (v1:Int):qd tt Γ43 (T43 N) (Tryz.f43.body.getD .skip) (qo tt true [i3] [.tmp 4]) (qt [i50,i3] 12 (v0,v1,()))=m43 N v0 v1:=by
 rw [m43];unfold Tryz.f43
 simp (maxSteps:=10000000) -implicitDefEqProofs [q4Q,qvA,zds,qDw,q5L,qCb,qVO,qOj,q2x,qMb,q5b,qXx,q0f,qAf]
 try rfl
def g43:G:={ps:=[i50,i3],rs:=[i3],dp:=true,pre:=fun x=>qgl x.1 x.2.1,fn:=fun x=>(qbA x.1 x.2.1,())}
theorem e43 (x:Val Y50) (k:Int) (h:qgl x k): ∃N,m43 N x k=some (qbA x k,()):=⟨0,by
 obtain ⟨hm,hb,h0,hc⟩:=h
 have hc':k+(q7 (.slice 33 Y33) x.2:Nat)≤4611686018427387904:=by
  have:q7 Y50 x=0+q7 (.slice 33 Y33) x.2:=rfl
  omega
 have hk:=qrZ (.slice 33 Y33) x.2 k h0 hc'
 have ev:qrp x.2 k=(mkT (.slice 33 Y33) x.2 k).2:=rfl
 rw [m43,qe (show qyQ x.2 k from ⟨(Prod.mk.inj hm).2,hb.2,h0,hc'⟩),qi (by omega)]
 rfl⟩
theorem s43:Sound Tryz.prog 43 g43:=qu (tt:=tt) (Γ:=Γ43) hT (qf q3g qq) hm (fn:=Tryz.f43) Tryz.func43 (c:=Tryz.f43.body.getD .skip) (by kernel_rfl) (by kernel_rfl) fun x hx=>by
 obtain ⟨N,h⟩:=e43 x.1 x.2.1 hx
 exact ⟨T43 N,p43,qv _,qX3 N,(zcS N x.1 x.2.1).trans h⟩
theorem q27 {xs:List (Val Y33)} {n:Nat} (hn:xs.length≤n) (hn':n≤1048576) (h: ∀x∈xs,qD x=true):Bd (.slice 33 Y33) xs∧q7 (.slice 33 Y33) xs≤n*97:=by
 have hx: ∀x∈xs,List.length (α:=Val qa) x.2≤16∧ ∀a∈(x.2:List (Val qa)),List.length (α:=Int) a.1≤4:=fun x hm=>by
  obtain ⟨-,h2,h3⟩:=qaD (h x hm)
  exact ⟨h2,fun a ha=>(qaN (h3 a ha).1).1⟩
 refine ⟨⟨Nat.le_trans hn hn',fun x hm=>⟨trivial,Nat.le_trans (hx x hm).1 (by decide),fun a ha=>⟨⟨Nat.le_trans ((hx x hm).2 a ha) (by decide),fun _ _=>trivial⟩,trivial,trivial⟩⟩⟩,?_⟩
 have e:q7 (.slice 33 Y33) xs=qaE (qS Y33) xs:=rfl
 have:=qGz (f:=qS Y33) (c:=97) xs fun x hm=>by
  have e:qS Y33 x=1+qaE (qS qa) x.2:=rfl
  have h1:=(hx x hm).1
  have:=qGz (f:=qS qa) (c:=6) x.2 fun a ha=>by
   have e:qS qa a=qaE (qS (.int .i64)) a.1+(1+1):=rfl
   rw [e,qSa]
   have:=(hx x hm).2 a ha
   omega
  have:List.length (α:=Val qa) x.2*6≤16*6:=Nat.mul_le_mul_right _ h1
  omega
 have:xs.length*97≤n*97:=Nat.mul_le_mul_right _ hn
 omega
theorem q6P {r:Val Y50} (h:List.length (α:=Val Y33) r.2≤12∧ ∀c∈(r.2:List (Val Y33)),qD c=true):Bd Y50 r∧q7 Y50 r≤1164:=by
 obtain ⟨h1,h2⟩:=q27 (xs:=(r.2:List (Val Y33))) h.1 (by decide) h.2
 have e:q7 Y50 r=0+q7 (.slice 33 Y33) r.2:=rfl
 exact ⟨⟨trivial,h1⟩,by omega⟩
end Go.T
