/- Emptiness; what cells imply: run. -/
import Derived.Test.YthefcjjgchekiaaGreatE0
set_option linter.unusedSimpArgs false
set_option linter.unusedVariables false
namespace Go.T
open Go Go.Proofs
set_option maxHeartbeats 4000000
set_option maxRecDepth 100000
def qar (c:Val Y33):Bool×Bool:=bif qz c then (match qch (-1) (c.1:Int).toNat (qv c.1 c.2)with
 | some y=>(decide ((0:Int)<(List.length (α:=Val qa) y.2:Int)),true)
 | none=>(false,false))else (false,false)
def qlb (c:Val Y33):Prop:=qbf c
def qes:Nat→Val Y33→Option (List (Val Y33))
 | 0,x=>some [x]
 | k+1,x=>bif (qaq x k).2 then (match qes k (qaq x k).1 with
   | some l=>some (l++[x])
   | none=>none)else none
def qfV (c:Val Y33):List (Val Y33)×Bool:=bif qz c then (match qes (c.1:Int).toNat (qv c.1 c.2)with
 | some l=>(l,true)
 | none=>([],false))else ([],false)
def qim (n:Val qa) (d:Int):Val Y33:=(d,[n])
def qa3 (c:Val Y33) (a:Val qa):Bool×Bool:=bif (qt a).2&&(qZ c (qim (qt a).1 (List.length (α:=Int) a.1:Int))).2 then qar (qZ c (qim (qt a).1 (List.length (α:=Int) a.1:Int))).1 else (false,false)
def qq3 (c:Val Y33) (a:Val qa):Prop:=qbf c∧qbF a
def qC6:G:={ps:=[i33],rs:=[i48,i4],dp:=true,pre:=fun _=>True,fn:=fun x=>((qfV x.1).1,(qfV x.1).2,())}
def qcC:G:={ps:=[i33],rs:=[i4,i4],dp:=true,pre:=fun _=>True,fn:=fun x=>((qar x.1).1,(qar x.1).2,())}
def qcB:G:={ps:=[i33],rs:=[i4,i4],dp:=true,pre:=fun x=>qlb x.1,fn:=fun x=>((qar x.1).1,(qar x.1).2,())}
noncomputable def qkC (N:Nat) (k0:(List (Val Y33))→Option (qc [i48,i4])):Nat→Int→(List (Val Y33))→Option (qc [i48,i4])
 | 0,_,_=>none
 | n+1,v1,v2=>bif (decide ((0:Int)≤v1))then (chk (0≤(IntKind.i64.wrap (v1+(1:Int)))∧(IntKind.i64.wrap (v1+(1:Int)))<(v2.length:Int)) (chk ((IntKind.i64.wrap (v1+(1:Int))).toNat<v2.length) (bif (!((qcF (v2.getD ((IntKind.i64.wrap (v1+(1:Int))).toNat) (qb Y33)) v1).2:Bool))then (some (([]:List (Val Y33)),false,()))else (chk (0≤v1∧v1<(v2.length:Int)) (chk (v1.toNat<v2.length) (qkC N k0 n (IntKind.i64.wrap (v1 - (1:Int))) (v2.set v1.toNat ((((qcF (v2.getD ((IntKind.i64.wrap (v1+(1:Int))).toNat) (qb Y33)) v1).1).1:Int),(((qcF (v2.getD ((IntKind.i64.wrap (v1+(1:Int))).toNat) (qb Y33)) v1).1).2:List (Val qa))))))))))else (k0 v2)
noncomputable def qFQ (N:Nat) (v0:Val Y33):Option (qc [i48,i4]):=bif (!((qz v0):Bool))then (some (([]:List (Val Y33)),false,()))else (chk (0≤(IntKind.i64.wrap ((v0.1:Int)+(1:Int)))∧(IntKind.i64.wrap ((v0.1:Int)+(1:Int)))≤(IntKind.i64.wrap ((v0.1:Int)+(1:Int)))∧(IntKind.i64.wrap ((v0.1:Int)+(1:Int)))≤1048576) (chk (qaF (v0.1:Int) (v0.2:List (Val qa))) (chk (0≤(v0.1:Int)∧(v0.1:Int)<((List.replicate (IntKind.i64.wrap ((v0.1:Int)+(1:Int))).toNat (qb Y33)).length:Int)) (chk ((v0.1:Int).toNat<(List.replicate (IntKind.i64.wrap ((v0.1:Int)+(1:Int))).toNat (qb Y33)).length) (qkC N (fun (v4:List (Val Y33))=>some (v4,true,())) N (IntKind.i64.wrap ((v0.1:Int) - (1:Int))) ((List.replicate (IntKind.i64.wrap ((v0.1:Int)+(1:Int))).toNat (qb Y33)).set ((v0.1:Int).toNat) (qv (v0.1:Int) (v0.2:List (Val qa)))))))))
def qiS:Gam:=[(199,qaB),(230,qbz),(237,qeM)]
theorem qXJ:Gam.get qiS 199=some qaB:=rfl
theorem qIp:Gam.get qiS 230=some qbz:=rfl
theorem q1n:Gam.get qiS 237=some qeM:=rfl
def qwZ:Nm:=⟨[false,false,false,false,true,true],[],false⟩
theorem q1b:qwZ.zero=false:=rfl
theorem qLP:qwZ.fix=[]:=rfl
theorem qWZ:qwZ.keep=[false,false,false,false,true,true]:=rfl
def qFd:Nm:=⟨[false,false,false,false,true],[],false⟩
theorem qTz:qFd.zero=false:=rfl
theorem qVg:qFd.fix=[]:=rfl
theorem qSH:qFd.keep=[false,false,false,false,true]:=rfl
def qBD:Nm:=⟨[false,true,false,false,true],[],false⟩
theorem qVB:qBD.zero=false:=rfl
theorem q02:qBD.fix=[]:=rfl
theorem q06:qBD.keep=[false,true,false,false,true]:=rfl
def qoC:Nat→Tree:=fun i=>if i=4 then .quiet 3 (.quiet 4 (.quiet 5 (.quiet 6 (.first 0 (.alt 1 (.alt 2 (.alt 7 (.quiet 8 (.alt 9 .done .stop)) .stop) (.alt 7 (.quiet 2 (.quiet 8 (.alt 9 .done .stop))) .stop)) (.alt 7 (.quiet 1 (.quiet 2 (.quiet 8 (.alt 9 .done .stop)))) .stop))))))else .done
def qrh:Nat→Nm:=fun i=>if i=6 then qwZ else ⟨[],[],false⟩
def quD:Nat→Option Jn:=fun _=>none
def qw3:Nat→Option Nm:=fun i=>if i=0 then some qFd else none
def qyq:Nat→Option Nm:=fun i=>if i=4 then some qBD else none
theorem zrD:qh qoC (Tryz.f225.body.getD .skip)=true:=by kernel_rfl
def qd3 (N:Nat):Tab:={tr:=qoC,lp:=qrh,ex:=qw3,rg:=qyq,jn:=quD,fuel:=N}
theorem qSl (N:Nat):(qd3 N).pins=false:=rfl
theorem zkY (N:Nat):qk Tryz.prog (qd3 N):=qo fun _=>rfl
theorem qJL (N:Nat) (i:Nat):(qd3 N).tr i=qoC i:=rfl
theorem qTQ (N:Nat) (i:Nat):(qd3 N).lp i=qrh i:=rfl
theorem qKV (N:Nat) (i:Nat):(qd3 N).ex i=qw3 i:=rfl
theorem q3y (N:Nat) (i:Nat):(qd3 N).rg i=qyq i:=rfl
theorem qRz (N:Nat) (i:Nat):(qd3 N).jn i=quD i:=rfl
theorem qXx (N:Nat):(qd3 N).fuel=N:=rfl
noncomputable def q9L:Code:=cut [true,true,true,true,false,true,true,true] (Tryz.f225.body.getD .skip)
theorem zlr {N:Nat} {Q:X→St→Option (qc [i48,i4])} {e:List LV} {h:List Blk}:qf tt qiS (qd3 N) q9L Q ⟨e,h⟩=qf tt qiS (qd3 N) (cut [true,true,true,true,false,true,true,true] (Tryz.f225.body.getD .skip)) Q ⟨e,h⟩:=rfl
theorem zuS (N:Nat) {k0:(List (Val Y33))→Option (qc [i48,i4])} {Q:X→St→Option (qc [i48,i4])} {c:Code} (hc:c=q9L) (hret: ∀st,Q .ret st=qC tt true [i48,i4] [.tmp 2,.tmp 3] st) (h0: ∀(v3:List (Val Y33)),Q (.exit 0) ⟨[u,u,u,u,.one (.own 0),u,u,u,u,u,u,u,u,u,u,u,u,u,u,u,u,u,u,u,u,u,u,u,u,u,u,u,u,u,u,u,u,u,u,u,u,u,u,u,u,u,u,u],[.row 33 Y33 v3 true true 0]⟩=k0 v3): ∀(n:Nat) (v1:Int) (v2:List (Val Y33)),qD (qf tt qiS (qd3 N) c) false qwZ Q n ⟨[u,u,u,u,.one (.own 0),.one (.int .i64 v1),u,u,u,u,u,u,u,u,u,u,u,u,u,u,u,u,u,u,u,u,u,u,u,u,u,u,u,u,u,u,u,u,u,u,u,u,u,u,u,u,u,u],[.row 33 Y33 v2 true true 0]⟩=qkC N k0 n v1 v2:=by
 subst hc;intro n;induction n with
 | zero=>intros;rfl
 | succ n ih=>
   intro v1 v2
   rw [qN,zlr,qkC];unfold Tryz.f225
   simp (maxSteps:=10000000) -implicitDefEqProofs [qJL,qoC,qTQ,qrh,qKV,qw3,q3y,qyq,qRz,quD,qXx,qSl,qLP,qWZ,q1b,qVg,qSH,qTz,q02,q06,qVB,qXJ,qIp,q1n,qaB,qbz,qeM,hret,h0,ih]
theorem zyi (N:Nat) (v0:Val Y33):qf tt qiS (qd3 N) (Tryz.f225.body.getD .skip) (qm tt true [i48,i4] [.tmp 2,.tmp 3]) (qp [i33] 48 (v0,()))=qFQ N v0:=by
 unfold Tryz.f225
 simp (maxSteps:=10000000) -implicitDefEqProofs [qJL,qoC,qTQ,qrh,qKV,qw3,q3y,qyq,qRz,quD,qXx,qSl,qLP,qWZ,q1b,qVg,qSH,qTz,q02,q06,qVB,qXJ,qIp,q1n,qaB,qbz,qeM]
 rewrite [zuS (k0:=(fun (v4:List (Val Y33))=>some (v4,true,()))) N ?_ ?_ ?_]
 ·rewrite [qFQ];first | rfl | simp (maxSteps:=10000000) -implicitDefEqProofs []
 ·rfl
 ·intro;simp only [qK,qL,qJ,qB]
 ·intro v4;simp (maxSteps:=10000000) -implicitDefEqProofs [qJL,qoC,qTQ,qrh,qKV,qw3,q3y,qyq,qRz,quD,qXx,qSl,qLP,qWZ,q1b,qVg,qSH,qTz,q02,q06,qVB,qXJ,qIp,q1n,qaB,qbz,qeM]
noncomputable def qzq (N:Nat) (v0:Val Y33):Option (qc [i4,i4]):=bif (!((qfV v0).2:Bool))then (some (false,false,()))else (chk (0≤(0:Int)∧(0:Int)<(((qfV v0).1:List (Val Y33)).length:Int)) (chk ((0:Int).toNat<((qfV v0).1:List (Val Y33)).length) (some ((decide ((0:Int)<(((((qfV v0).1:List (Val Y33)).getD ((0:Int).toNat) (qb Y33)).2:List (Val qa)).length:Int))),true,()))))
def qY2:Gam:=[(225,qC6)]
theorem znT:Gam.get qY2 225=some qC6:=rfl
def qCS:Nat→Tree:=fun _=> .done
def qKY:Nat→Nm:=fun _=>⟨[],[],false⟩
def qNF:Nat→Option Jn:=fun _=>none
def q3z:Nat→Option Nm:=fun _=>none
def q0G:Nat→Option Nm:=fun _=>none
theorem zBp:qh qCS (Tryz.f212.body.getD .skip)=true:=by kernel_rfl
def qfb (N:Nat):Tab:={tr:=qCS,lp:=qKY,ex:=q3z,rg:=q0G,jn:=qNF,fuel:=N}
theorem zgo (N:Nat):(qfb N).pins=false:=rfl
theorem zmd (N:Nat):qk Tryz.prog (qfb N):=qo fun _=>rfl
theorem zw3 (N:Nat) (i:Nat):(qfb N).tr i=qCS i:=rfl
theorem zhn (N:Nat) (i:Nat):(qfb N).lp i=qKY i:=rfl
theorem zl1 (N:Nat) (i:Nat):(qfb N).ex i=q3z i:=rfl
theorem zBo (N:Nat) (i:Nat):(qfb N).rg i=q0G i:=rfl
theorem zba (N:Nat) (i:Nat):(qfb N).jn i=qNF i:=rfl
theorem zqf (N:Nat):(qfb N).fuel=N:=rfl
theorem zoT (N:Nat) (v0:Val Y33):qf tt qY2 (qfb N) (Tryz.f212.body.getD .skip) (qm tt true [i4,i4] [.tmp 2,.tmp 3]) (qp [i33] 19 (v0,()))=qzq N v0:=by
 rw [qzq];unfold Tryz.f212
 simp (maxSteps:=10000000) -implicitDefEqProofs [zw3,qCS,zhn,qKY,zl1,q3z,zBo,q0G,zba,qNF,zqf,zgo,znT,qC6]
 try rfl
noncomputable def qkX (N:Nat) (k0:Int→(List (Val qa))→Option (qc [i4,i4])):Nat→Int→Int→(List (Val qa))→Option (qc [i4,i4])
 | 0,_,_,_=>none
 | n+1,v1,v2,v3=>bif (decide ((0:Int)≤v1))then (chk (qnN (v2,v3) v1) (bif (!((qaq (v2,v3) v1).2:Bool))then (some (false,false,()))else (qkX N k0 n (IntKind.i64.wrap (v1 - (1:Int))) (((qaq (v2,v3) v1).1).1:Int) (((qaq (v2,v3) v1).1).2:List (Val qa)))))else (k0 v2 v3)
noncomputable def qEM (N:Nat) (v0:Val Y33):Option (qc [i4,i4]):=chk (qbf v0) (bif (!((qz v0):Bool))then (some (false,false,()))else (chk (qaF (v0.1:Int) (v0.2:List (Val qa))) (qkX N (fun (v6:Int) (v7:List (Val qa))=>some ((decide ((0:Int)<(v7.length:Int))),true,())) N (IntKind.i64.wrap ((v0.1:Int) - (1:Int))) ((qv (v0.1:Int) (v0.2:List (Val qa))).1:Int) ((qv (v0.1:Int) (v0.2:List (Val qa))).2:List (Val qa)))))
def qi6:Gam:=[(104,qbt),(150,qai),(151,qeI)]
theorem qUS:Gam.get qi6 104=some qbt:=rfl
theorem qSM:Gam.get qi6 150=some qai:=rfl
theorem qPk:Gam.get qi6 151=some qeI:=rfl
def qp0:Nm:=⟨[false,false,false,false,true,true],[],false⟩
theorem qWP:qp0.zero=false:=rfl
theorem qJw:qp0.fix=[]:=rfl
theorem qOJ:qp0.keep=[false,false,false,false,true,true]:=rfl
def qGd:Nm:=⟨[false,false,false,false,true],[],false⟩
theorem q0Q:qGd.zero=false:=rfl
theorem q4G:qGd.fix=[]:=rfl
theorem qSr:qGd.keep=[false,false,false,false,true]:=rfl
def qmQ:Nat→Tree:=fun _=> .done
def qte:Nat→Nm:=fun i=>if i=5 then qp0 else ⟨[],[],false⟩
def qxf:Nat→Option Jn:=fun _=>none
def qu2:Nat→Option Nm:=fun i=>if i=0 then some qGd else none
def qwi:Nat→Option Nm:=fun _=>none
theorem zwO:qh qmQ (Tryz.f208.body.getD .skip)=true:=by kernel_rfl
def qd8 (N:Nat):Tab:={tr:=qmQ,lp:=qte,ex:=qu2,rg:=qwi,jn:=qxf,fuel:=N}
theorem qHY (N:Nat):(qd8 N).pins=false:=rfl
theorem zdm (N:Nat):qk Tryz.prog (qd8 N):=qo fun _=>rfl
theorem qNG (N:Nat) (i:Nat):(qd8 N).tr i=qmQ i:=rfl
theorem qYG (N:Nat) (i:Nat):(qd8 N).lp i=qte i:=rfl
theorem qVj (N:Nat) (i:Nat):(qd8 N).ex i=qu2 i:=rfl
theorem q2s (N:Nat) (i:Nat):(qd8 N).rg i=qwi i:=rfl
theorem qWf (N:Nat) (i:Nat):(qd8 N).jn i=qxf i:=rfl
theorem qI4 (N:Nat):(qd8 N).fuel=N:=rfl
noncomputable def q5T:Code:=cut [true,true,true,false,true,true,true] (Tryz.f208.body.getD .skip)
theorem zve {N:Nat} {Q:X→St→Option (qc [i4,i4])} {e:List LV} {h:List Blk}:qf tt qi6 (qd8 N) q5T Q ⟨e,h⟩=qf tt qi6 (qd8 N) (cut [true,true,true,false,true,true,true] (Tryz.f208.body.getD .skip)) Q ⟨e,h⟩:=rfl
theorem zm4 (N:Nat) {k0:Int→(List (Val qa))→Option (qc [i4,i4])} {Q:X→St→Option (qc [i4,i4])} {c:Code} (hc:c=q5T) (hret: ∀st,Q .ret st=qC tt true [i4,i4] [.tmp 2,.tmp 3] st) (h0: ∀(v4:Int) (v5:List (Val qa)),Q (.exit 0) ⟨[u,u,u,u,.one (.ptr 0 0 0),u,u,u,u,u,u,u,u,u,u,u,u,u,u,u,u,u,u,u,u,u,u,u,u,u,u,u,u,u,u,u],[.box [.int .i64 v4,.sl 108 qa v5 1]]⟩=k0 v4 v5): ∀(n:Nat) (v1:Int) (v2:Int) (v3:List (Val qa)),qD (qf tt qi6 (qd8 N) c) false qp0 Q n ⟨[u,u,u,u,.one (.ptr 0 0 0),.one (.int .i64 v1),u,u,u,u,u,u,u,u,u,u,u,u,u,u,u,u,u,u,u,u,u,u,u,u,u,u,u,u,u,u],[.box [.int .i64 v2,.sl 108 qa v3 1]]⟩=qkX N k0 n v1 v2 v3:=by
 subst hc;intro n;induction n with
 | zero=>intros;rfl
 | succ n ih=>
   intro v1 v2 v3
   rw [qN,zve,qkX];unfold Tryz.f208
   simp (maxSteps:=10000000) -implicitDefEqProofs [qNG,qmQ,qYG,qte,qVj,qu2,q2s,qwi,qWf,qxf,qI4,qHY,qJw,qOJ,qWP,q4G,qSr,q0Q,qUS,qSM,qPk,qbt,qai,qeI,hret,h0,ih]
theorem ztP (N:Nat) (v0:Val Y33):qf tt qi6 (qd8 N) (Tryz.f208.body.getD .skip) (qm tt true [i4,i4] [.tmp 2,.tmp 3]) (qp [i33] 36 (v0,()))=qEM N v0:=by
 unfold Tryz.f208
 simp (maxSteps:=10000000) -implicitDefEqProofs [qNG,qmQ,qYG,qte,qVj,qu2,q2s,qwi,qWf,qxf,qI4,qHY,qJw,qOJ,qWP,q4G,qSr,q0Q,qUS,qSM,qPk,qbt,qai,qeI]
 rewrite [zm4 (k0:=(fun (v6:Int) (v7:List (Val qa))=>some ((decide ((0:Int)<(v7.length:Int))),true,()))) N ?_ ?_ ?_]
 ·rewrite [qEM];first | rfl | simp (maxSteps:=10000000) -implicitDefEqProofs []
 ·rfl
 ·intro;simp only [qK,qL,qJ,qB]
 ·intro v6 v7;simp (maxSteps:=10000000) -implicitDefEqProofs [qNG,qmQ,qYG,qte,qVj,qu2,q2s,qwi,qWf,qxf,qI4,qHY,qJw,qOJ,qWP,q4G,qSr,q0Q,qUS,qSM,qPk,qbt,qai,qeI]
def qih:G:={ps:=[i33,ql],rs:=[i4,i4],dp:=true,pre:=fun _=>True,fn:=fun x=>((qa3 x.1 x.2.1).1,(qa3 x.1 x.2.1).2,())}
def qhT:G:={ps:=[i33,ql],rs:=[i4,i4],dp:=true,pre:=fun x=>qq3 x.1 x.2.1,fn:=fun x=>((qa3 x.1 x.2.1).1,(qa3 x.1 x.2.1).2,())}
noncomputable def qHk (N:Nat) (v0:Val Y33) (v1:Val qa):Option (qc [i4,i4]):=bif (!((qt v1).2:Bool))then (some (false,false,()))else (bif (!((qZ v0 (((((qt v1).1).1:List (Val (.int .i64))).length:Int),([((((qt v1).1).1:List (Val (.int .i64))),((((qt v1).1).2).1:Int),((((qt v1).1).2).2:Bool))]:List (Val qa)))).2:Bool))then (some (false,false,()))else (some (((qar ((((qZ v0 (((((qt v1).1).1:List (Val (.int .i64))).length:Int),([((((qt v1).1).1:List (Val (.int .i64))),((((qt v1).1).2).1:Int),((((qt v1).1).2).2:Bool))]:List (Val qa)))).1).1:Int),(((qZ v0 (((((qt v1).1).1:List (Val (.int .i64))).length:Int),([((((qt v1).1).1:List (Val (.int .i64))),((((qt v1).1).2).1:Int),((((qt v1).1).2).2:Bool))]:List (Val qa)))).1).2:List (Val qa)))).1:Bool),((qar ((((qZ v0 (((((qt v1).1).1:List (Val (.int .i64))).length:Int),([((((qt v1).1).1:List (Val (.int .i64))),((((qt v1).1).2).1:Int),((((qt v1).1).2).2:Bool))]:List (Val qa)))).1).1:Int),(((qZ v0 (((((qt v1).1).1:List (Val (.int .i64))).length:Int),([((((qt v1).1).1:List (Val (.int .i64))),((((qt v1).1).2).1:Int),((((qt v1).1).2).2:Bool))]:List (Val qa)))).1).2:List (Val qa)))).2:Bool),())))
def qtY:Gam:=[(182,qeD),(212,qcC),(221,qeV)]
theorem zuG:Gam.get qtY 182=some qeD:=rfl
theorem zul:Gam.get qtY 212=some qcC:=rfl
theorem zkt:Gam.get qtY 221=some qeV:=rfl
def qBN:Nat→Tree:=fun _=> .done
def qQz:Nat→Nm:=fun _=>⟨[],[],false⟩
def qJ2:Nat→Option Jn:=fun _=>none
def qT3:Nat→Option Nm:=fun _=>none
def qJu:Nat→Option Nm:=fun _=>none
theorem zuH:qh qBN (Tryz.f220.body.getD .skip)=true:=by kernel_rfl
def qfM (N:Nat):Tab:={tr:=qBN,lp:=qQz,ex:=qT3,rg:=qJu,jn:=qJ2,fuel:=N}
theorem zgO (N:Nat):(qfM N).pins=false:=rfl
theorem zeB (N:Nat):qk Tryz.prog (qfM N):=qo fun _=>rfl
theorem zeX (N:Nat) (i:Nat):(qfM N).tr i=qBN i:=rfl
theorem zAM (N:Nat) (i:Nat):(qfM N).lp i=qQz i:=rfl
theorem zBH (N:Nat) (i:Nat):(qfM N).ex i=qT3 i:=rfl
theorem zpf (N:Nat) (i:Nat):(qfM N).rg i=qJu i:=rfl
theorem zsT (N:Nat) (i:Nat):(qfM N).jn i=qJ2 i:=rfl
theorem zmv (N:Nat):(qfM N).fuel=N:=rfl
theorem zn9 (N:Nat) (v0:Val Y33) (v1:Val qa):qf tt qtY (qfM N) (Tryz.f220.body.getD .skip) (qm tt true [i4,i4] [.tmp 4,.tmp 5]) (qp [i33,ql] 33 (v0,v1,()))=qHk N v0 v1:=by
 rw [qHk];unfold Tryz.f220
 simp (maxSteps:=10000000) -implicitDefEqProofs [zeX,qBN,zAM,qQz,zBH,qT3,zpf,qJu,zsT,qJ2,zmv,zgO,zuG,zul,zkt,qeD,qcC,qeV]
 try rfl
noncomputable def qDp (N:Nat) (v0:Val Y33) (v1:Val qa):Option (qc [i4,i4]):=chk (qoI v1) (chk (qnz v0 (((v1.1:List (Val (.int .i64))).length:Int),([((((qt v1).1).1:List (Val (.int .i64))),((((qt v1).1).2).1:Int),((((qt v1).1).2).2:Bool))]:List (Val qa)))) (bif (!((qt v1).2:Bool))then (some (false,false,()))else (bif (!((qZ v0 (((v1.1:List (Val (.int .i64))).length:Int),([((((qt v1).1).1:List (Val (.int .i64))),((((qt v1).1).2).1:Int),((((qt v1).1).2).2:Bool))]:List (Val qa)))).2:Bool))then (some (false,false,()))else (chk (qlb ((qZ v0 (((v1.1:List (Val (.int .i64))).length:Int),([((((qt v1).1).1:List (Val (.int .i64))),((((qt v1).1).2).1:Int),((((qt v1).1).2).2:Bool))]:List (Val qa)))).1)) (some (((qar ((qZ v0 (((v1.1:List (Val (.int .i64))).length:Int),([((((qt v1).1).1:List (Val (.int .i64))),((((qt v1).1).2).1:Int),((((qt v1).1).2).2:Bool))]:List (Val qa)))).1)).1:Bool),((qar ((qZ v0 (((v1.1:List (Val (.int .i64))).length:Int),([((((qt v1).1).1:List (Val (.int .i64))),((((qt v1).1).2).1:Int),((((qt v1).1).2).2:Bool))]:List (Val qa)))).1)).2:Bool),()))))))
def qqK:Gam:=[(178,qe1),(208,qcB),(218,qeZ)]
theorem zmx:Gam.get qqK 178=some qe1:=rfl
theorem zvp:Gam.get qqK 208=some qcB:=rfl
theorem zpw:Gam.get qqK 218=some qeZ:=rfl
def qFN:Nat→Tree:=fun _=> .done
def qKv:Nat→Nm:=fun _=>⟨[],[],false⟩
def qZC:Nat→Option Jn:=fun _=>none
def qRW:Nat→Option Nm:=fun _=>none
def qLp:Nat→Option Nm:=fun _=>none
theorem ze1:qh qFN (Tryz.f283.body.getD .skip)=true:=by kernel_rfl
def qf9 (N:Nat):Tab:={tr:=qFN,lp:=qKv,ex:=qRW,rg:=qLp,jn:=qZC,fuel:=N}
theorem zAv (N:Nat):(qf9 N).pins=false:=rfl
theorem zdV (N:Nat):qk Tryz.prog (qf9 N):=qo fun _=>rfl
theorem zoz (N:Nat) (i:Nat):(qf9 N).tr i=qFN i:=rfl
theorem zp3 (N:Nat) (i:Nat):(qf9 N).lp i=qKv i:=rfl
theorem zgY (N:Nat) (i:Nat):(qf9 N).ex i=qRW i:=rfl
theorem zo0 (N:Nat) (i:Nat):(qf9 N).rg i=qLp i:=rfl
theorem zoO (N:Nat) (i:Nat):(qf9 N).jn i=qZC i:=rfl
theorem zmQ (N:Nat):(qf9 N).fuel=N:=rfl
theorem zcV (N:Nat) (v0:Val Y33) (v1:Val qa):qf tt qqK (qf9 N) (Tryz.f283.body.getD .skip) (qm tt true [i4,i4] [.tmp 4,.tmp 5]) (qp [i33,ql] 41 (v0,v1,()))=qDp N v0 v1:=by
 rw [qDp];unfold Tryz.f283
 simp (maxSteps:=10000000) -implicitDefEqProofs [zoz,qFN,zp3,qKv,zgY,qRW,zo0,qLp,zoO,qZC,zmQ,zAv,zmx,zvp,zpw,qe1,qcB,qeZ]
 try rfl
end Go.T
