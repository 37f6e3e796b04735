/- Emptiness; what cells imply: run. -/
import Derived.Test.YthefcjjgchekiaaGreatE0
set_option linter.unusedSimpArgs false
set_option linter.unusedVariables false
namespace Go.T
open Go Go.Proofs
set_option maxHeartbeats 4000000
set_option maxRecDepth 100000
def qat (c:Val Y33):Bool×Bool:=bif qD c then (match qh9 (-1) (c.1:Int).toNat (qm c.1 c.2)with
 | some y=>(decide ((0:Int)<(List.length (α:=Val qa) y.2:Int)),true)
 | none=>(false,false))else (false,false)
def qrw (c:Val Y33):Prop:=qcg c
def qef:Nat→Val Y33→Option (List (Val Y33))
 | 0,x=>some [x]
 | k+1,x=>bif (qR x k).2 then (match qef k (qR x k).1 with
   | some l=>some (l++[x])
   | none=>none)else none
def qfV (c:Val Y33):List (Val Y33)×Bool:=bif qD c then (match qef (c.1:Int).toNat (qm c.1 c.2)with
 | some l=>(l,true)
 | none=>([],false))else ([],false)
def qh6 (n:Val qa) (d:Int):Val Y33:=(d,[n])
def qas (c:Val Y33) (a:Val qa):Bool×Bool:=bif (qz a).2&&(qaw c (qh6 (qz a).1 (List.length (α:=Int) a.1:Int))).2 then qat (qaw c (qh6 (qz a).1 (List.length (α:=Int) a.1:Int))).1 else (false,false)
def qqI (c:Val Y33) (a:Val qa):Prop:=qcg c∧qa3 a
def qxl:G:={ps:=[i33],rs:=[i48,i4],dp:=true,pre:=fun _=>True,fn:=fun x=>((qfV x.1).1,(qfV x.1).2,())}
def qeW:G:={ps:=[i33],rs:=[i4,i4],dp:=true,pre:=fun _=>True,fn:=fun x=>((qat x.1).1,(qat x.1).2,())}
def qfy:G:={ps:=[i33],rs:=[i4,i4],dp:=true,pre:=fun x=>qrw x.1,fn:=fun x=>((qat x.1).1,(qat x.1).2,())}
noncomputable def qkj (N:Nat) (k0:(List (Val Y33))→Option (qb [i48,i4])):Nat→Int→(List (Val Y33))→Option (qb [i48,i4])
 | 0,_,_=>none
 | n+1,v1,v2=>bif (decide ((0:Int)≤v1))then (chk (0≤(IntKind.i64.wrap (v1+(1:Int)))∧(IntKind.i64.wrap (v1+(1:Int)))<(v2.length:Int)) (chk ((IntKind.i64.wrap (v1+(1:Int))).toNat<v2.length) (bif (!((qbZ (v2.getD ((IntKind.i64.wrap (v1+(1:Int))).toNat) (qc Y33)) v1).2:Bool))then (some (([]:List (Val Y33)),false,()))else (chk (0≤v1∧v1<(v2.length:Int)) (chk (v1.toNat<v2.length) (qkj N k0 n (IntKind.i64.wrap (v1 - (1:Int))) (v2.set v1.toNat ((((qbZ (v2.getD ((IntKind.i64.wrap (v1+(1:Int))).toNat) (qc Y33)) v1).1).1:Int),(((qbZ (v2.getD ((IntKind.i64.wrap (v1+(1:Int))).toNat) (qc Y33)) v1).1).2:List (Val qa))))))))))else (k0 v2)
noncomputable def qz9 (N:Nat) (v0:Val Y33):Option (qb [i48,i4]):=bif (!((qD v0):Bool))then (some (([]:List (Val Y33)),false,()))else (chk (0≤(IntKind.i64.wrap ((v0.1:Int)+(1:Int)))∧(IntKind.i64.wrap ((v0.1:Int)+(1:Int)))≤(IntKind.i64.wrap ((v0.1:Int)+(1:Int)))∧(IntKind.i64.wrap ((v0.1:Int)+(1:Int)))≤1048576) (chk (qaK (v0.1:Int) (v0.2:List (Val qa))) (chk (0≤(v0.1:Int)∧(v0.1:Int)<((List.replicate (IntKind.i64.wrap ((v0.1:Int)+(1:Int))).toNat (qc Y33)).length:Int)) (chk ((v0.1:Int).toNat<(List.replicate (IntKind.i64.wrap ((v0.1:Int)+(1:Int))).toNat (qc Y33)).length) (qkj N (fun (v4:List (Val Y33))=>some (v4,true,())) N (IntKind.i64.wrap ((v0.1:Int) - (1:Int))) ((List.replicate (IntKind.i64.wrap ((v0.1:Int)+(1:Int))).toNat (qc Y33)).set ((v0.1:Int).toNat) (qm (v0.1:Int) (v0.2:List (Val qa)))))))))
def qh1:Gam:=[(199,qaz),(230,qei),(237,qbe)]
theorem qNC:Gam.get qh1 199=some qaz:=rfl
theorem qES:Gam.get qh1 230=some qei:=rfl
theorem qFz:Gam.get qh1 237=some qbe:=rfl
def qsw:Nm:=⟨[false,false,false,false,true,true],[],false⟩
theorem qPd:qsw.zero=false:=rfl
theorem qLH:qsw.fix=[]:=rfl
theorem qCU:qsw.keep=[false,false,false,false,true,true]:=rfl
def qBj:Nm:=⟨[false,false,false,false,true],[],false⟩
theorem qLW:qBj.zero=false:=rfl
theorem qOd:qBj.fix=[]:=rfl
theorem qGv:qBj.keep=[false,false,false,false,true]:=rfl
def qA4:Nm:=⟨[false,true,false,false,true],[],false⟩
theorem qEY:qA4.zero=false:=rfl
theorem qFd:qA4.fix=[]:=rfl
theorem qEK:qA4.keep=[false,true,false,false,true]:=rfl
def qmn:Nat→Tree:=fun i=>if i=4 then .quiet 3 (.quiet 4 (.quiet 5 (.quiet 6 (.first 0 (.alt 1 (.alt 2 (.alt 7 (.quiet 8 (.alt 9 .done .stop)) .stop) (.alt 7 (.quiet 2 (.quiet 8 (.alt 9 .done .stop))) .stop)) (.alt 7 (.quiet 1 (.quiet 2 (.quiet 8 (.alt 9 .done .stop)))) .stop))))))else .done
def qn8:Nat→Nm:=fun i=>if i=6 then qsw else ⟨[],[],false⟩
def qoq:Nat→Option Jn:=fun _=>none
def qrF:Nat→Option Nm:=fun i=>if i=0 then some qBj else none
def qsh:Nat→Option Nm:=fun i=>if i=4 then some qA4 else none
theorem qZJ:qj qmn (Tryz.f225.body.getD .skip)=true:=by kernel_rfl
def qdx (N:Nat):Tab:={tr:=qmn,lp:=qn8,ex:=qrF,rg:=qsh,jn:=qoq,fuel:=N}
theorem qHz (N:Nat):(qdx N).pins=false:=rfl
theorem q5T (N:Nat):qn Tryz.prog (qdx N):=qr fun _=>rfl
theorem qOk (N:Nat) (i:Nat):(qdx N).tr i=qmn i:=rfl
theorem qOB (N:Nat) (i:Nat):(qdx N).lp i=qn8 i:=rfl
theorem qLZ (N:Nat) (i:Nat):(qdx N).ex i=qrF i:=rfl
theorem qHD (N:Nat) (i:Nat):(qdx N).rg i=qsh i:=rfl
theorem qM7 (N:Nat) (i:Nat):(qdx N).jn i=qoq i:=rfl
theorem qCS (N:Nat):(qdx N).fuel=N:=rfl
noncomputable def qQy:Code:=cut [true,true,true,true,false,true,true,true] (Tryz.f225.body.getD .skip)
theorem q24 {N:Nat} {Q:X→St→Option (qb [i48,i4])} {e:List LV} {h:List Blk}:qd tt qh1 (qdx N) qQy Q ⟨e,h⟩=qd tt qh1 (qdx N) (cut [true,true,true,true,false,true,true,true] (Tryz.f225.body.getD .skip)) Q ⟨e,h⟩:=rfl
theorem qXr (N:Nat) {k0:(List (Val Y33))→Option (qb [i48,i4])} {Q:X→St→Option (qb [i48,i4])} {c:Code} (hc:c=qQy) (hret: ∀st,Q .ret st=qB tt true [i48,i4] [.tmp 2,.tmp 3] st) (h0: ∀(v3:List (Val Y33)),Q (.exit 0) ⟨[u,u,u,u,.one (.own 0),u,u,u,u,u,u,u,u,u,u,u,u,u,u,u,u,u,u,u,u,u,u,u,u,u,u,u,u,u,u,u,u,u,u,u,u,u,u,u,u,u,u,u],[.row 33 Y33 v3 true true 0]⟩=k0 v3): ∀(n:Nat) (v1:Int) (v2:List (Val Y33)),qC (qd tt qh1 (qdx N) c) false qsw Q n ⟨[u,u,u,u,.one (.own 0),.one (.int .i64 v1),u,u,u,u,u,u,u,u,u,u,u,u,u,u,u,u,u,u,u,u,u,u,u,u,u,u,u,u,u,u,u,u,u,u,u,u,u,u,u,u,u,u],[.row 33 Y33 v2 true true 0]⟩=qkj N k0 n v1 v2:=by
 subst hc;intro n;induction n with
 | zero=>intros;rfl
 | succ n ih=>
   intro v1 v2
   rw [qL,q24,qkj];unfold Tryz.f225
   simp (maxSteps:=10000000) -implicitDefEqProofs [qOk,qmn,qOB,qn8,qLZ,qrF,qHD,qsh,qM7,qoq,qCS,qHz,qLH,qCU,qPd,qOd,qGv,qLW,qFd,qEK,qEY,qNC,qES,qFz,qaz,qei,qbe,hret,h0,ih]
theorem q1M (N:Nat) (v0:Val Y33):qd tt qh1 (qdx N) (Tryz.f225.body.getD .skip) (qo tt true [i48,i4] [.tmp 2,.tmp 3]) (qt [i33] 48 (v0,()))=qz9 N v0:=by
 unfold Tryz.f225
 simp (maxSteps:=10000000) -implicitDefEqProofs [qOk,qmn,qOB,qn8,qLZ,qrF,qHD,qsh,qM7,qoq,qCS,qHz,qLH,qCU,qPd,qOd,qGv,qLW,qFd,qEK,qEY,qNC,qES,qFz,qaz,qei,qbe]
 rewrite [qXr (k0:=(fun (v4:List (Val Y33))=>some (v4,true,()))) N ?_ ?_ ?_]
 ·rewrite [qz9];first | rfl | simp (maxSteps:=10000000) -implicitDefEqProofs []
 ·rfl
 ·intro;simp only [qK,qI,qJ,qy]
 ·intro v4;simp (maxSteps:=10000000) -implicitDefEqProofs [qOk,qmn,qOB,qn8,qLZ,qrF,qHD,qsh,qM7,qoq,qCS,qHz,qLH,qCU,qPd,qOd,qGv,qLW,qFd,qEK,qEY,qNC,qES,qFz,qaz,qei,qbe]
noncomputable def qAP (N:Nat) (v0:Val Y33):Option (qb [i4,i4]):=bif (!((qfV v0).2:Bool))then (some (false,false,()))else (chk (0≤(0:Int)∧(0:Int)<(((qfV v0).1:List (Val Y33)).length:Int)) (chk ((0:Int).toNat<((qfV v0).1:List (Val Y33)).length) (some ((decide ((0:Int)<(((((qfV v0).1:List (Val Y33)).getD ((0:Int).toNat) (qc Y33)).2:List (Val qa)).length:Int))),true,()))))
def qEd:Gam:=[(225,qxl)]
theorem qZm:Gam.get qEd 225=some qxl:=rfl
def qAY:Nat→Tree:=fun _=> .done
def qEH:Nat→Nm:=fun _=>⟨[],[],false⟩
def qGl:Nat→Option Jn:=fun _=>none
def qN8:Nat→Option Nm:=fun _=>none
def qDq:Nat→Option Nm:=fun _=>none
theorem zaH:qj qAY (Tryz.f212.body.getD .skip)=true:=by kernel_rfl
def qf0 (N:Nat):Tab:={tr:=qAY,lp:=qEH,ex:=qN8,rg:=qDq,jn:=qGl,fuel:=N}
theorem q2K (N:Nat):(qf0 N).pins=false:=rfl
theorem q39 (N:Nat):qn Tryz.prog (qf0 N):=qr fun _=>rfl
theorem q8K (N:Nat) (i:Nat):(qf0 N).tr i=qAY i:=rfl
theorem qXz (N:Nat) (i:Nat):(qf0 N).lp i=qEH i:=rfl
theorem q5O (N:Nat) (i:Nat):(qf0 N).ex i=qN8 i:=rfl
theorem qWC (N:Nat) (i:Nat):(qf0 N).rg i=qDq i:=rfl
theorem q8X (N:Nat) (i:Nat):(qf0 N).jn i=qGl i:=rfl
theorem q8x (N:Nat):(qf0 N).fuel=N:=rfl
theorem q8k (N:Nat) (v0:Val Y33):qd tt qEd (qf0 N) (Tryz.f212.body.getD .skip) (qo tt true [i4,i4] [.tmp 2,.tmp 3]) (qt [i33] 19 (v0,()))=qAP N v0:=by
 rw [qAP];unfold Tryz.f212
 simp (maxSteps:=10000000) -implicitDefEqProofs [q8K,qAY,qXz,qEH,q5O,qN8,qWC,qDq,q8X,qGl,q8x,q2K,qZm,qxl]
 try rfl
noncomputable def qjH (N:Nat) (k0:Int→(List (Val qa))→Option (qb [i4,i4])):Nat→Int→Int→(List (Val qa))→Option (qb [i4,i4])
 | 0,_,_,_=>none
 | n+1,v1,v2,v3=>bif (decide ((0:Int)≤v1))then (chk (qnv (v2,v3) v1) (bif (!((qR (v2,v3) v1).2:Bool))then (some (false,false,()))else (qjH N k0 n (IntKind.i64.wrap (v1 - (1:Int))) (((qR (v2,v3) v1).1).1:Int) (((qR (v2,v3) v1).1).2:List (Val qa)))))else (k0 v2 v3)
noncomputable def qv1 (N:Nat) (v0:Val Y33):Option (qb [i4,i4]):=chk (qcg v0) (bif (!((qD v0):Bool))then (some (false,false,()))else (chk (qaK (v0.1:Int) (v0.2:List (Val qa))) (qjH N (fun (v6:Int) (v7:List (Val qa))=>some ((decide ((0:Int)<(v7.length:Int))),true,())) N (IntKind.i64.wrap ((v0.1:Int) - (1:Int))) ((qm (v0.1:Int) (v0.2:List (Val qa))).1:Int) ((qm (v0.1:Int) (v0.2:List (Val qa))).2:List (Val qa)))))
def qhP:Gam:=[(104,qcv),(150,q9),(151,qa0)]
theorem qJe:Gam.get qhP 104=some qcv:=rfl
theorem qJb:Gam.get qhP 150=some q9:=rfl
theorem qKe:Gam.get qhP 151=some qa0:=rfl
def qpH:Nm:=⟨[false,false,false,false,true,true],[],false⟩
theorem qKg:qpH.zero=false:=rfl
theorem qKh:qpH.fix=[]:=rfl
theorem qL6:qpH.keep=[false,false,false,false,true,true]:=rfl
def qAt:Nm:=⟨[false,false,false,false,true],[],false⟩
theorem qPW:qAt.zero=false:=rfl
theorem qJh:qAt.fix=[]:=rfl
theorem qPp:qAt.keep=[false,false,false,false,true]:=rfl
def qmd:Nat→Tree:=fun _=> .done
def qqc:Nat→Nm:=fun i=>if i=5 then qpH else ⟨[],[],false⟩
def qoE:Nat→Option Jn:=fun _=>none
def qoX:Nat→Option Nm:=fun i=>if i=0 then some qAt else none
def quG:Nat→Option Nm:=fun _=>none
theorem qZa:qj qmd (Tryz.f208.body.getD .skip)=true:=by kernel_rfl
def qdn (N:Nat):Tab:={tr:=qmd,lp:=qqc,ex:=qoX,rg:=quG,jn:=qoE,fuel:=N}
theorem qDX (N:Nat):(qdn N).pins=false:=rfl
theorem zaP (N:Nat):qn Tryz.prog (qdn N):=qr fun _=>rfl
theorem qBJ (N:Nat) (i:Nat):(qdn N).tr i=qmd i:=rfl
theorem qIt (N:Nat) (i:Nat):(qdn N).lp i=qqc i:=rfl
theorem qNG (N:Nat) (i:Nat):(qdn N).ex i=qoX i:=rfl
theorem qNs (N:Nat) (i:Nat):(qdn N).rg i=quG i:=rfl
theorem qCr (N:Nat) (i:Nat):(qdn N).jn i=qoE i:=rfl
theorem qJP (N:Nat):(qdn N).fuel=N:=rfl
noncomputable def qP0:Code:=cut [true,true,true,false,true,true,true] (Tryz.f208.body.getD .skip)
theorem zcg {N:Nat} {Q:X→St→Option (qb [i4,i4])} {e:List LV} {h:List Blk}:qd tt qhP (qdn N) qP0 Q ⟨e,h⟩=qd tt qhP (qdn N) (cut [true,true,true,false,true,true,true] (Tryz.f208.body.getD .skip)) Q ⟨e,h⟩:=rfl
theorem q6Y (N:Nat) {k0:Int→(List (Val qa))→Option (qb [i4,i4])} {Q:X→St→Option (qb [i4,i4])} {c:Code} (hc:c=qP0) (hret: ∀st,Q .ret st=qB tt true [i4,i4] [.tmp 2,.tmp 3] st) (h0: ∀(v4:Int) (v5:List (Val qa)),Q (.exit 0) ⟨[u,u,u,u,.one (.ptr 0 0 0),u,u,u,u,u,u,u,u,u,u,u,u,u,u,u,u,u,u,u,u,u,u,u,u,u,u,u,u,u,u,u],[.box [.int .i64 v4,.sl 108 qa v5 1]]⟩=k0 v4 v5): ∀(n:Nat) (v1:Int) (v2:Int) (v3:List (Val qa)),qC (qd tt qhP (qdn N) c) false qpH Q n ⟨[u,u,u,u,.one (.ptr 0 0 0),.one (.int .i64 v1),u,u,u,u,u,u,u,u,u,u,u,u,u,u,u,u,u,u,u,u,u,u,u,u,u,u,u,u,u,u],[.box [.int .i64 v2,.sl 108 qa v3 1]]⟩=qjH N k0 n v1 v2 v3:=by
 subst hc;intro n;induction n with
 | zero=>intros;rfl
 | succ n ih=>
   intro v1 v2 v3
   rw [qL,zcg,qjH];unfold Tryz.f208
   simp (maxSteps:=10000000) -implicitDefEqProofs [qBJ,qmd,qIt,qqc,qNG,qoX,qNs,quG,qCr,qoE,qJP,qDX,qKh,qL6,qKg,qJh,qPp,qPW,qJe,qJb,qKe,qcv,q9,qa0,hret,h0,ih]
theorem q3G (N:Nat) (v0:Val Y33):qd tt qhP (qdn N) (Tryz.f208.body.getD .skip) (qo tt true [i4,i4] [.tmp 2,.tmp 3]) (qt [i33] 36 (v0,()))=qv1 N v0:=by
 unfold Tryz.f208
 simp (maxSteps:=10000000) -implicitDefEqProofs [qBJ,qmd,qIt,qqc,qNG,qoX,qNs,quG,qCr,qoE,qJP,qDX,qKh,qL6,qKg,qJh,qPp,qPW,qJe,qJb,qKe,qcv,q9,qa0]
 rewrite [q6Y (k0:=(fun (v6:Int) (v7:List (Val qa))=>some ((decide ((0:Int)<(v7.length:Int))),true,()))) N ?_ ?_ ?_]
 ·rewrite [qv1];first | rfl | simp (maxSteps:=10000000) -implicitDefEqProofs []
 ·rfl
 ·intro;simp only [qK,qI,qJ,qy]
 ·intro v6 v7;simp (maxSteps:=10000000) -implicitDefEqProofs [qBJ,qmd,qIt,qqc,qNG,qoX,qNs,quG,qCr,qoE,qJP,qDX,qKh,qL6,qKg,qJh,qPp,qPW,qJe,qJb,qKe,qcv,q9,qa0]
def qil:G:={ps:=[i33,qg],rs:=[i4,i4],dp:=true,pre:=fun _=>True,fn:=fun x=>((qas x.1 x.2.1).1,(qas x.1 x.2.1).2,())}
def qiz:G:={ps:=[i33,qg],rs:=[i4,i4],dp:=true,pre:=fun x=>qqI x.1 x.2.1,fn:=fun x=>((qas x.1 x.2.1).1,(qas x.1 x.2.1).2,())}
noncomputable def qwJ (N:Nat) (v0:Val Y33) (v1:Val qa):Option (qb [i4,i4]):=bif (!((qz v1).2:Bool))then (some (false,false,()))else (bif (!((qaw v0 (((((qz v1).1).1:List (Val (.int .i64))).length:Int),([((((qz v1).1).1:List (Val (.int .i64))),((((qz v1).1).2).1:Int),((((qz v1).1).2).2:Bool))]:List (Val qa)))).2:Bool))then (some (false,false,()))else (some (((qat ((((qaw v0 (((((qz v1).1).1:List (Val (.int .i64))).length:Int),([((((qz v1).1).1:List (Val (.int .i64))),((((qz v1).1).2).1:Int),((((qz v1).1).2).2:Bool))]:List (Val qa)))).1).1:Int),(((qaw v0 (((((qz v1).1).1:List (Val (.int .i64))).length:Int),([((((qz v1).1).1:List (Val (.int .i64))),((((qz v1).1).2).1:Int),((((qz v1).1).2).2:Bool))]:List (Val qa)))).1).2:List (Val qa)))).1:Bool),((qat ((((qaw v0 (((((qz v1).1).1:List (Val (.int .i64))).length:Int),([((((qz v1).1).1:List (Val (.int .i64))),((((qz v1).1).2).1:Int),((((qz v1).1).2).2:Bool))]:List (Val qa)))).1).1:Int),(((qaw v0 (((((qz v1).1).1:List (Val (.int .i64))).length:Int),([((((qz v1).1).1:List (Val (.int .i64))),((((qz v1).1).2).1:Int),((((qz v1).1).2).2:Bool))]:List (Val qa)))).1).2:List (Val qa)))).2:Bool),())))
def qoT:Gam:=[(182,qu2),(212,qeW),(221,qvk)]
theorem q8R:Gam.get qoT 182=some qu2:=rfl
theorem q7A:Gam.get qoT 212=some qeW:=rfl
theorem q7n:Gam.get qoT 221=some qvk:=rfl
def qxa:Nat→Tree:=fun _=> .done
def qPC:Nat→Nm:=fun _=>⟨[],[],false⟩
def qDm:Nat→Option Jn:=fun _=>none
def qCj:Nat→Option Nm:=fun _=>none
def qMc:Nat→Option Nm:=fun _=>none
theorem q1d:qj qxa (Tryz.f220.body.getD .skip)=true:=by kernel_rfl
def qgk (N:Nat):Tab:={tr:=qxa,lp:=qPC,ex:=qCj,rg:=qMc,jn:=qDm,fuel:=N}
theorem q8O (N:Nat):(qgk N).pins=false:=rfl
theorem zbY (N:Nat):qn Tryz.prog (qgk N):=qr fun _=>rfl
theorem qWx (N:Nat) (i:Nat):(qgk N).tr i=qxa i:=rfl
theorem qYO (N:Nat) (i:Nat):(qgk N).lp i=qPC i:=rfl
theorem q3R (N:Nat) (i:Nat):(qgk N).ex i=qCj i:=rfl
theorem qWw (N:Nat) (i:Nat):(qgk N).rg i=qMc i:=rfl
theorem qZo (N:Nat) (i:Nat):(qgk N).jn i=qDm i:=rfl
theorem q0D (N:Nat):(qgk N).fuel=N:=rfl
theorem q0Y (N:Nat) (v0:Val Y33) (v1:Val qa):qd tt qoT (qgk N) (Tryz.f220.body.getD .skip) (qo tt true [i4,i4] [.tmp 4,.tmp 5]) (qt [i33,qg] 33 (v0,v1,()))=qwJ N v0 v1:=by
 rw [qwJ];unfold Tryz.f220
 simp (maxSteps:=10000000) -implicitDefEqProofs [qWx,qxa,qYO,qPC,q3R,qCj,qWw,qMc,qZo,qDm,q0D,q8O,q8R,q7A,q7n,qu2,qeW,qvk]
 try rfl
noncomputable def qwa (N:Nat) (v0:Val Y33) (v1:Val qa):Option (qb [i4,i4]):=chk (qz8 v1) (chk (qwh v0 (((v1.1:List (Val (.int .i64))).length:Int),([((((qz v1).1).1:List (Val (.int .i64))),((((qz v1).1).2).1:Int),((((qz v1).1).2).2:Bool))]:List (Val qa)))) (bif (!((qz v1).2:Bool))then (some (false,false,()))else (bif (!((qaw v0 (((v1.1:List (Val (.int .i64))).length:Int),([((((qz v1).1).1:List (Val (.int .i64))),((((qz v1).1).2).1:Int),((((qz v1).1).2).2:Bool))]:List (Val qa)))).2:Bool))then (some (false,false,()))else (chk (qrw ((qaw v0 (((v1.1:List (Val (.int .i64))).length:Int),([((((qz v1).1).1:List (Val (.int .i64))),((((qz v1).1).2).1:Int),((((qz v1).1).2).2:Bool))]:List (Val qa)))).1)) (some (((qat ((qaw v0 (((v1.1:List (Val (.int .i64))).length:Int),([((((qz v1).1).1:List (Val (.int .i64))),((((qz v1).1).2).1:Int),((((qz v1).1).2).2:Bool))]:List (Val qa)))).1)).1:Bool),((qat ((qaw v0 (((v1.1:List (Val (.int .i64))).length:Int),([((((qz v1).1).1:List (Val (.int .i64))),((((qz v1).1).2).1:Int),((((qz v1).1).2).2:Bool))]:List (Val qa)))).1)).2:Bool),()))))))
def qo4:Gam:=[(178,qyC),(208,qfy),(218,qxp)]
theorem zbK:Gam.get qo4 178=some qyC:=rfl
theorem q1e:Gam.get qo4 208=some qfy:=rfl
theorem q9J:Gam.get qo4 218=some qxp:=rfl
def qAJ:Nat→Tree:=fun _=> .done
def qK5:Nat→Nm:=fun _=>⟨[],[],false⟩
def qMp:Nat→Option Jn:=fun _=>none
def qCw:Nat→Option Nm:=fun _=>none
def qKM:Nat→Option Nm:=fun _=>none
theorem zce:qj qAJ (Tryz.f283.body.getD .skip)=true:=by kernel_rfl
def qgd (N:Nat):Tab:={tr:=qAJ,lp:=qK5,ex:=qCw,rg:=qKM,jn:=qMp,fuel:=N}
theorem qVo (N:Nat):(qgd N).pins=false:=rfl
theorem qVA (N:Nat):qn Tryz.prog (qgd N):=qr fun _=>rfl
theorem q0L (N:Nat) (i:Nat):(qgd N).tr i=qAJ i:=rfl
theorem q2l (N:Nat) (i:Nat):(qgd N).lp i=qK5 i:=rfl
theorem q9v (N:Nat) (i:Nat):(qgd N).ex i=qCw i:=rfl
theorem zaX (N:Nat) (i:Nat):(qgd N).rg i=qKM i:=rfl
theorem q0Q (N:Nat) (i:Nat):(qgd N).jn i=qMp i:=rfl
theorem q17 (N:Nat):(qgd N).fuel=N:=rfl
theorem q7s (N:Nat) (v0:Val Y33) (v1:Val qa):qd tt qo4 (qgd N) (Tryz.f283.body.getD .skip) (qo tt true [i4,i4] [.tmp 4,.tmp 5]) (qt [i33,qg] 41 (v0,v1,()))=qwa N v0 v1:=by
 rw [qwa];unfold Tryz.f283
 simp (maxSteps:=10000000) -implicitDefEqProofs [q0L,qAJ,q2l,qK5,q9v,qCw,zaX,qKM,q0Q,qMp,q17,qVo,zbK,q1e,q9J,qyC,qfy,qxp]
 try rfl
end Go.T
