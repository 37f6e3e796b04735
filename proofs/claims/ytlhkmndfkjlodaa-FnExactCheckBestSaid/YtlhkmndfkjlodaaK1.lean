/- Values of atoms at points: what the functions compute. -/
import Derived.Test.YtlhkmndfkjlodaaE33
import Derived.Test.YtlhkmndfkjlodaaE40
set_option linter.unusedSimpArgs false
set_option linter.unusedVariables false
namespace Go.T
open Go Go.Proofs
set_option maxHeartbeats 4000000
set_option maxRecDepth 100000
def qbR:List Int→List (Val Y35)→Val Y35→Val Y35
 | n::l,r::p,s=>qbR l p (qaF s (q5 (n,(1:Int)) r))
 | _,_,s=>s
def qax (a:Val Y83) (p:List (Val Y35)):Val Y35×Bool:=bif qK a&&q6 p (List.length (α:=Int) a.1:Int)then (qbR a.1 p (a.2.1,(1:Int)),qo (qbR a.1 p (a.2.1,(1:Int))))else (noR,false)
def qac (a:Val Y83) (p:List (Val Y35)):Bool×Bool:=bif (qax a p).2 then (decide (((qax a p).1.1:Int)<0)||(decide (((qax a p).1.1:Int)=0)&& !a.2.2),true)else (false,false)
def inN (p:List (Val Y35)):List (Val Y83)→Bool→Bool×Bool
 | [],b=>(b,true)
 | a::l,b=>bif (qac a p).2 then inN p l (b&&(qac a p).1)else (false,false)
def inV (c:Val Y26) (p:List (Val Y35)):Bool×Bool:=bif qS c&&q6 p c.1 then inN p c.2 true else (false,false)
def qcT (_:Val Y83) (p:List (Val Y35)):Prop:=p.length≤1048576
def qdj (_:Val Y83) (p:List (Val Y35)):Prop:=p.length≤1048576
def qbH (c:Val Y26) (p:List (Val Y35)):Prop:=qca c∧p.length≤1048576
def qlJ:G:={ps:=[i83,i32],rs:=[i35,i4],dp:=true,pre:=fun x=>qcT x.1 x.2.1,fn:=fun x=>((qax x.1 x.2.1).1,(qax x.1 x.2.1).2,())}
def qmL:G:={ps:=[i83,i32],rs:=[i35,i4],dp:=true,pre:=fun x=>qcT x.1 x.2.1,fn:=fun x=>((qax x.1 x.2.1).1,(qax x.1 x.2.1).2,())}
noncomputable def qcR (N:Nat) (v2:List (Val Y35)) (v3:List (Val (.int .i64))) (v4:Int) (v6:Int) (v7:Int) (k0:Int→Int→Option (qa [i35,i4])):Nat→Int→Int→Int→Option (qa [i35,i4])
 | 0,_,_,_=>none
 | n+1,v5,v8,v9=>bif (decide (v5<v4))then (chk (0≤v5∧v5<(v3.length:Int)) (chk (0≤v5∧v5<(v2.length:Int)) (qcR N v2 v3 v4 v6 v7 k0 n (IntKind.i64.wrap (v5+(1:Int))) ((qaF (v8,v9) (((q5 (((v3.getD v5.toNat (qc (.int .i64))):Int),(1:Int)) (v2.getD v5.toNat (qc Y35))).1:Int),((q5 (((v3.getD v5.toNat (qc (.int .i64))):Int),(1:Int)) (v2.getD v5.toNat (qc Y35))).2:Int))).1:Int) ((qaF (v8,v9) (((q5 (((v3.getD v5.toNat (qc (.int .i64))):Int),(1:Int)) (v2.getD v5.toNat (qc Y35))).1:Int),((q5 (((v3.getD v5.toNat (qc (.int .i64))):Int),(1:Int)) (v2.getD v5.toNat (qc Y35))).2:Int))).2:Int))))else (k0 v8 v9)
noncomputable def qoC (N:Nat) (v0:Val Y83) (v1:List (Val Y35)):Option (qa [i35,i4]):=bif (!((qK v0):Bool))then (some (((0:Int),(0:Int)),false,()))else (chk (qaL v1 ((v0.1:List (Val (.int .i64))).length:Int)) (bif (!((q6 v1 ((v0.1:List (Val (.int .i64))).length:Int)):Bool))then (some (((0:Int),(0:Int)),false,()))else (qcR N v1 (v0.1:List (Val (.int .i64))) ((v0.1:List (Val (.int .i64))).length:Int) (0:Int) (0:Int) (fun (v12:Int) (v13:Int)=>some ((v12,v13),((qo (v12,v13)):Bool),())) N (0:Int) (v0.2.1:Int) (1:Int))))
def qce:Gam:=[(50,g50),(70,g70),(93,g93),(113,qbF),(114,qbB)]
theorem qsu:Gam.get qce 50=some g50:=rfl
theorem qrr:Gam.get qce 70=some g70:=rfl
theorem qBw:Gam.get qce 93=some g93:=rfl
theorem qpS:Gam.get qce 113=some qbF:=rfl
theorem qqV:Gam.get qce 114=some qbB:=rfl
def qjL:Nm:=⟨[false,true,false,false,true,false,true,false,false,false,false,false,false,false,false,false,false,false,false,false,false,false,false,false,false,true,true,true],[],false⟩
theorem qyR:qjL.zero=false:=rfl
theorem qrY:qjL.fix=[]:=rfl
theorem qp0:qjL.keep=[false,true,false,false,true,false,true,false,false,false,false,false,false,false,false,false,false,false,false,false,false,false,false,false,false,true,true,true]:=rfl
def ql3:Nm:=⟨[false,false,false,false,true,false,true],[],false⟩
theorem qyE:ql3.zero=false:=rfl
theorem qsI:ql3.fix=[]:=rfl
theorem qyy:ql3.keep=[false,false,false,false,true,false,true]:=rfl
def qnr:Nm:=⟨[false,true,false,false,true,false,true,false,false,false,false,false,false,false,false,false,false,false,false,false,false,false,false,false,false,true,true,true],[],false⟩
theorem qyh:qnr.zero=false:=rfl
theorem qwa:qnr.fix=[]:=rfl
theorem qtr:qnr.keep=[false,true,false,false,true,false,true,false,false,false,false,false,false,false,false,false,false,false,false,false,false,false,false,false,false,true,true,true]:=rfl
def qm4:Nm:=⟨[false,false,false,false,true,true],[],false⟩
theorem qpx:qm4.zero=false:=rfl
theorem qqr:qm4.fix=[]:=rfl
theorem qvx:qm4.keep=[false,false,false,false,true,true]:=rfl
def qfW:Nat→Tree:=fun i=>if i=7 then .quiet 1 (.quiet 2 (.quiet 3 (.quiet 4 (.quiet 5 (.quiet 6 (.alt 0 (.alt 7 (.alt 8 (.alt 9 .done .stop) .stop) .stop) (.alt 7 (.quiet 0 (.alt 8 (.alt 9 .done .stop) .stop)) .stop)))))))else if i=9 then .quiet 1 (.alt 0 (.alt 2 (.alt 3 (.quiet 4 .done) .stop) .stop) (.alt 2 (.quiet 0 (.alt 3 (.quiet 4 .done) .stop)) .stop))else .done
def qhg:Nat→Nm:=fun i=>if i=5 then qjL else ⟨[],[],false⟩
def qg7:Nat→Option Jn:=fun _=>none
def qil:Nat→Option Nm:=fun i=>if i=0 then some ql3 else none
def qkT:Nat→Option Nm:=fun i=>if i=7 then some qnr else if i=9 then some qm4 else none
theorem qIs:qg qfW (Try.f100.body.getD .skip)=true:=by kernel_rfl
def qa6 (N:Nat):Tab:={tr:=qfW,lp:=qhg,ex:=qil,rg:=qkT,jn:=qg7,fuel:=N}
theorem qvP (N:Nat):(qa6 N).pins=false:=rfl
theorem qQ7 (N:Nat):qk Try.prog (qa6 N):=qn fun _=>rfl
theorem qxm (N:Nat) (i:Nat):(qa6 N).tr i=qfW i:=rfl
theorem qrm (N:Nat) (i:Nat):(qa6 N).lp i=qhg i:=rfl
theorem qqn (N:Nat) (i:Nat):(qa6 N).ex i=qil i:=rfl
theorem qre (N:Nat) (i:Nat):(qa6 N).rg i=qkT i:=rfl
theorem qwb (N:Nat) (i:Nat):(qa6 N).jn i=qg7 i:=rfl
theorem qwC (N:Nat):(qa6 N).fuel=N:=rfl
noncomputable def qEH:Code:=cut [true,true,true,false,true,true,true] (Try.f100.body.getD .skip)
theorem qFP {N:Nat} {Q:X→St→Option (qa [i35,i4])} {e:List LV} {h:List Blk}:qb tt qce (qa6 N) qEH Q ⟨e,h⟩=qb tt qce (qa6 N) (cut [true,true,true,false,true,true,true] (Try.f100.body.getD .skip)) Q ⟨e,h⟩:=rfl
theorem qLi (N:Nat) (v2:List (Val Y35)) (v3:List (Val (.int .i64))) (v4:Int) (v6:Int) (v7:Int) {k0:Int→Int→Option (qa [i35,i4])} {Q:X→St→Option (qa [i35,i4])} {c:Code} (hc:c=qEH) (hret: ∀st,Q .ret st=qy tt true [i35,i4] [.cell 4 35,.tmp 5] st) (h0: ∀(v10:Int) (v11:Int),Q (.exit 0) ⟨[u,u,u,u,.one (.ptr 0 0 0),u,.one (.ptr 1 0 0),u,u,u,u,u,u,u,u,u,u,u,u,u,u,u,u,u,u,u,u,u,u,u,u,u,u,u,u,u,u,u,u,u,u,u,u,u,u],[.box [.int .i64 v6,.int .i64 v7],.box [.int .i64 v10,.int .i64 v11]]⟩=k0 v10 v11): ∀(n:Nat) (v5:Int) (v8:Int) (v9:Int),qx (qb tt qce (qa6 N) c) false qjL Q n ⟨[u,.one (.sl 35 Y35 v2 2),u,u,.one (.ptr 0 0 0),u,.one (.ptr 1 0 0),u,u,u,u,u,u,u,u,u,u,u,u,u,u,u,u,u,u,.one (.sl 3 (.int .i64) v3 2),.one (.int .i64 v4),.one (.int .i64 v5),u,u,u,u,u,u,u,u,u,u,u,u,u,u,u,u,u],[.box [.int .i64 v6,.int .i64 v7],.box [.int .i64 v8,.int .i64 v9]]⟩=qcR N v2 v3 v4 v6 v7 k0 n v5 v8 v9:=by
 subst hc;intro n;induction n with
 | zero=>intros;rfl
 | succ n ih=>
   intro v5 v8 v9
   rw [qI,qFP,qcR];unfold Try.f100
   simp (maxSteps:=10000000) -implicitDefEqProofs [qxm,qfW,qrm,qhg,qqn,qil,qre,qkT,qwb,qg7,qwC,qvP,qrY,qp0,qyR,qsI,qyy,qyE,qwa,qtr,qyh,qqr,qvx,qpx,qsu,qrr,qBw,qpS,qqV,g50,g70,g93,qbF,qbB,hret,h0,ih]
theorem qI9 (N:Nat) (v0:Val Y83) (v1:List (Val Y35)):qb tt qce (qa6 N) (Try.f100.body.getD .skip) (qh tt true [i35,i4] [.cell 4 35,.tmp 5]) (ql [i83,i32] 45 (v0,v1,()))=qoC N v0 v1:=by
 unfold Try.f100
 simp (maxSteps:=10000000) -implicitDefEqProofs [qxm,qfW,qrm,qhg,qqn,qil,qre,qkT,qwb,qg7,qwC,qvP,qrY,qp0,qyR,qsI,qyy,qyE,qwa,qtr,qyh,qqr,qvx,qpx,qsu,qrr,qBw,qpS,qqV,g50,g70,g93,qbF,qbB]
 rewrite [qLi (k0:=(fun (v12:Int) (v13:Int)=>some ((v12,v13),((qo (v12,v13)):Bool),()))) N _ _ _ _ _ ?_ ?_ ?_]
 ·rewrite [qoC];first | rfl | simp (maxSteps:=10000000) -implicitDefEqProofs []
 ·rfl
 ·intro;simp only [qD,qE,qF,qC]
 ·intro v12 v13;simp (maxSteps:=10000000) -implicitDefEqProofs [qxm,qfW,qrm,qhg,qqn,qil,qre,qkT,qwb,qg7,qwC,qvP,qrY,qp0,qyR,qsI,qyy,qyE,qwa,qtr,qyh,qqr,qvx,qpx,qsu,qrr,qBw,qpS,qqV,g50,g70,g93,qbF,qbB]
noncomputable def qcU (N:Nat) (v2:List (Val Y35)) (v4:List (Val (.int .i64))) (v5:Int) (v6:Bool) (v7:Int) (v8:Int) (k0:Int→Int→Option (qa [i35,i4])):Nat→Int→Int→Int→Option (qa [i35,i4])
 | 0,_,_,_=>none
 | n+1,v3,v9,v10=>bif (decide (v3<(v2.length:Int)))then (chk (0≤v3∧v3<(v4.length:Int)) (chk (0≤v3∧v3<(v2.length:Int)) (qcU N v2 v4 v5 v6 v7 v8 k0 n (IntKind.i64.wrap (v3+(1:Int))) ((qaF (v9,v10) (((q5 (((q7 ((v4.getD v3.toNat (qc (.int .i64))):Int)).1:Int),((q7 ((v4.getD v3.toNat (qc (.int .i64))):Int)).2:Int)) (v2.getD v3.toNat (qc Y35))).1:Int),((q5 (((q7 ((v4.getD v3.toNat (qc (.int .i64))):Int)).1:Int),((q7 ((v4.getD v3.toNat (qc (.int .i64))):Int)).2:Int)) (v2.getD v3.toNat (qc Y35))).2:Int))).1:Int) ((qaF (v9,v10) (((q5 (((q7 ((v4.getD v3.toNat (qc (.int .i64))):Int)).1:Int),((q7 ((v4.getD v3.toNat (qc (.int .i64))):Int)).2:Int)) (v2.getD v3.toNat (qc Y35))).1:Int),((q5 (((q7 ((v4.getD v3.toNat (qc (.int .i64))):Int)).1:Int),((q7 ((v4.getD v3.toNat (qc (.int .i64))):Int)).2:Int)) (v2.getD v3.toNat (qc Y35))).2:Int))).2:Int))))else (k0 v9 v10)
noncomputable def qnb (N:Nat) (v0:Val Y83) (v1:List (Val Y35)):Option (qa [i35,i4]):=bif (!((qK v0):Bool))then (some (((0:Int),(0:Int)),false,()))else (chk (qaL v1 ((v0.1:List (Val (.int .i64))).length:Int)) (bif (!((q6 v1 ((v0.1:List (Val (.int .i64))).length:Int)):Bool))then (some (((0:Int),(0:Int)),false,()))else (qcU N v1 (v0.1:List (Val (.int .i64))) (v0.2.1:Int) (v0.2.2:Bool) (0:Int) (0:Int) (fun (v13:Int) (v14:Int)=>some ((v13,v14),((qo (v13,v14)):Bool),())) N (0:Int) ((q7 (v0.2.1:Int)).1:Int) ((q7 (v0.2.1:Int)).2:Int))))
def qbz:Gam:=[(58,g58),(60,g60),(96,g96),(103,qbw),(104,qbJ),(105,qbE)]
theorem qus:Gam.get qbz 58=some g58:=rfl
theorem qxs:Gam.get qbz 60=some g60:=rfl
theorem qu2:Gam.get qbz 96=some g96:=rfl
theorem qub:Gam.get qbz 103=some qbw:=rfl
theorem qwq:Gam.get qbz 104=some qbJ:=rfl
theorem qqX:Gam.get qbz 105=some qbE:=rfl
def qhA:Nm:=⟨[false,true,true,false,true,false,true,true],[],false⟩
theorem qzh:qhA.zero=false:=rfl
theorem qv8:qhA.fix=[]:=rfl
theorem qyj:qhA.keep=[false,true,true,false,true,false,true,true]:=rfl
def qmJ:Nm:=⟨[false,false,false,false,true,false,true],[],false⟩
theorem qta:qmJ.zero=false:=rfl
theorem qwi:qmJ.fix=[]:=rfl
theorem qvD:qmJ.keep=[false,false,false,false,true,false,true]:=rfl
def ql6:Nm:=⟨[false,true,true,false,true,false,true,true],[],false⟩
theorem qAh:ql6.zero=false:=rfl
theorem qz9:ql6.fix=[]:=rfl
theorem qzZ:ql6.keep=[false,true,true,false,true,false,true,true]:=rfl
def qo4:Nm:=⟨[false,false,false,false,true,true],[],false⟩
theorem qxM:qo4.zero=false:=rfl
theorem qvL:qo4.fix=[]:=rfl
theorem qv2:qo4.keep=[false,false,false,false,true,true]:=rfl
def qfs:Nat→Tree:=fun i=>if i=7 then .quiet 1 (.quiet 2 (.quiet 3 (.quiet 4 (.quiet 5 (.first 7 (.first 8 (.alt 0 (.alt 6 (.quiet 9 (.quiet 10 (.alt 11 (.alt 12 (.alt 13 .done .stop) .stop) .stop))) (.alt 9 (.alt 6 (.quiet 10 (.alt 11 (.alt 12 (.alt 13 .done .stop) .stop) .stop)) (.alt 10 (.alt 6 (.alt 11 (.alt 12 (.alt 13 .done .stop) .stop) .stop) .stop) .stop)) .stop)) (.alt 6 (.quiet 9 (.quiet 10 (.alt 0 (.alt 11 (.alt 12 (.alt 13 .done .stop) .stop) .stop) (.alt 11 (.quiet 0 (.alt 12 (.alt 13 .done .stop) .stop)) .stop)))) (.alt 9 (.alt 0 (.alt 6 (.quiet 10 (.alt 11 (.alt 12 (.alt 13 .done .stop) .stop) .stop)) (.alt 10 (.alt 6 (.alt 11 (.alt 12 (.alt 13 .done .stop) .stop) .stop) .stop) .stop)) (.alt 6 (.quiet 10 (.alt 0 (.alt 11 (.alt 12 (.alt 13 .done .stop) .stop) .stop) (.alt 11 (.quiet 0 (.alt 12 (.alt 13 .done .stop) .stop)) .stop))) (.alt 10 (.alt 0 (.alt 6 (.alt 11 (.alt 12 (.alt 13 .done .stop) .stop) .stop) .stop) (.alt 6 (.alt 0 (.alt 11 (.alt 12 (.alt 13 .done .stop) .stop) .stop) (.alt 11 (.quiet 0 (.alt 12 (.alt 13 .done .stop) .stop)) .stop)) .stop)) .stop))) .stop)))))))))else if i=8 then .quiet 1 (.alt 0 (.alt 2 (.alt 3 (.quiet 4 .done) .stop) .stop) (.alt 2 (.quiet 0 (.alt 3 (.quiet 4 .done) .stop)) .stop))else .done
def qip:Nat→Nm:=fun i=>if i=5 then qhA else ⟨[],[],false⟩
def qkp:Nat→Option Jn:=fun _=>none
def qin:Nat→Option Nm:=fun i=>if i=0 then some qmJ else none
def qiM:Nat→Option Nm:=fun i=>if i=7 then some ql6 else if i=8 then some qo4 else none
theorem qG1:qg qfs (Try.f136.body.getD .skip)=true:=by kernel_rfl
def qa7 (N:Nat):Tab:={tr:=qfs,lp:=qip,ex:=qin,rg:=qiM,jn:=qkp,fuel:=N}
theorem qtv (N:Nat):(qa7 N).pins=false:=rfl
theorem qNY (N:Nat):qk Try.prog (qa7 N):=qn fun _=>rfl
theorem qxQ (N:Nat) (i:Nat):(qa7 N).tr i=qfs i:=rfl
theorem qqH (N:Nat) (i:Nat):(qa7 N).lp i=qip i:=rfl
theorem qtj (N:Nat) (i:Nat):(qa7 N).ex i=qin i:=rfl
theorem qvR (N:Nat) (i:Nat):(qa7 N).rg i=qiM i:=rfl
theorem qBr (N:Nat) (i:Nat):(qa7 N).jn i=qkp i:=rfl
theorem qBl (N:Nat):(qa7 N).fuel=N:=rfl
noncomputable def qD6:Code:=cut [true,true,true,false,true,true,true] (Try.f136.body.getD .skip)
theorem qMy {N:Nat} {Q:X→St→Option (qa [i35,i4])} {e:List LV} {h:List Blk}:qb tt qbz (qa7 N) qD6 Q ⟨e,h⟩=qb tt qbz (qa7 N) (cut [true,true,true,false,true,true,true] (Try.f136.body.getD .skip)) Q ⟨e,h⟩:=rfl
theorem qR2 (N:Nat) (v2:List (Val Y35)) (v4:List (Val (.int .i64))) (v5:Int) (v6:Bool) (v7:Int) (v8:Int) {k0:Int→Int→Option (qa [i35,i4])} {Q:X→St→Option (qa [i35,i4])} {c:Code} (hc:c=qD6) (hret: ∀st,Q .ret st=qy tt true [i35,i4] [.cell 4 35,.tmp 5] st) (h0: ∀(v11:Int) (v12:Int),Q (.exit 0) ⟨[u,u,u,u,.one (.ptr 0 0 0),u,.one (.ptr 1 0 0),u,u,u,u,u,u,u,u,u,u,u,u,u,u,u,u,u,u,u,u,u,u,u,u,u,u,u,u,u,u,u,u,u,u,u,u,u,u],[.box [.int .i64 v7,.int .i64 v8],.box [.int .i64 v11,.int .i64 v12]]⟩=k0 v11 v12): ∀(n:Nat) (v3:Int) (v9:Int) (v10:Int),qx (qb tt qbz (qa7 N) c) false qhA Q n ⟨[u,.one (.sl 35 Y35 v2 3),.one (.ptr 0 0 0),u,.one (.ptr 1 0 0),u,.one (.ptr 2 0 0),.one (.int .i64 v3),u,u,u,u,u,u,u,u,u,u,u,u,u,u,u,u,u,u,u,u,u,u,u,u,u,u,u,u,u,u,u,u,u,u,u,u,u],[.box [.sl 3 (.int .i64) v4 3,.int .i64 v5,.bool v6],.box [.int .i64 v7,.int .i64 v8],.box [.int .i64 v9,.int .i64 v10]]⟩=qcU N v2 v4 v5 v6 v7 v8 k0 n v3 v9 v10:=by
 subst hc;intro n;induction n with
 | zero=>intros;rfl
 | succ n ih=>
   intro v3 v9 v10
   rw [qI,qMy,qcU];unfold Try.f136
   simp (maxSteps:=10000000) -implicitDefEqProofs [qxQ,qfs,qqH,qip,qtj,qin,qvR,qiM,qBr,qkp,qBl,qtv,qv8,qyj,qzh,qwi,qvD,qta,qz9,qzZ,qAh,qvL,qv2,qxM,qus,qxs,qu2,qub,qwq,qqX,g58,g60,g96,qbw,qbJ,qbE,hret,h0,ih]
theorem qPQ (N:Nat) (v0:Val Y83) (v1:List (Val Y35)):qb tt qbz (qa7 N) (Try.f136.body.getD .skip) (qh tt true [i35,i4] [.cell 4 35,.tmp 5]) (ql [i83,i32] 45 (v0,v1,()))=qnb N v0 v1:=by
 unfold Try.f136
 simp (maxSteps:=10000000) -implicitDefEqProofs [qxQ,qfs,qqH,qip,qtj,qin,qvR,qiM,qBr,qkp,qBl,qtv,qv8,qyj,qzh,qwi,qvD,qta,qz9,qzZ,qAh,qvL,qv2,qxM,qus,qxs,qu2,qub,qwq,qqX,g58,g60,g96,qbw,qbJ,qbE]
 rewrite [qR2 (k0:=(fun (v13:Int) (v14:Int)=>some ((v13,v14),((qo (v13,v14)):Bool),()))) N _ _ _ _ _ _ ?_ ?_ ?_]
 ·rewrite [qnb];first | rfl | simp (maxSteps:=10000000) -implicitDefEqProofs []
 ·rfl
 ·intro;simp only [qD,qE,qF,qC]
 ·intro v13 v14;simp (maxSteps:=10000000) -implicitDefEqProofs [qxQ,qfs,qqH,qip,qtj,qin,qvR,qiM,qBr,qkp,qBl,qtv,qv8,qyj,qzh,qwi,qvD,qta,qz9,qzZ,qAh,qvL,qv2,qxM,qus,qxs,qu2,qub,qwq,qqX,g58,g60,g96,qbw,qbJ,qbE]
def g51:G:={ps:=[i83,i32],rs:=[i4,i4],dp:=true,pre:=fun x=>qdj x.1 x.2.1,fn:=fun x=>((qac x.1 x.2.1).1,(qac x.1 x.2.1).2,())}
def qfL:G:={ps:=[i83,i32],rs:=[i4,i4],dp:=true,pre:=fun x=>qdj x.1 x.2.1,fn:=fun x=>((qac x.1 x.2.1).1,(qac x.1 x.2.1).2,())}
noncomputable def m51 (N:Nat) (v0:Val Y83) (v1:List (Val Y35)):Option (qa [i4,i4]):=chk (qcT v0 v1) (bif (!((qax v0 v1).2:Bool))then (some (false,false,()))else (bif (decide ((((qax v0 v1).1).1:Int)<(0:Int)))then (some (true,true,()))else (bif (decide ((((qax v0 v1).1).1:Int)=(0:Int)))then (some ((!(v0.2.2:Bool)),true,()))else (some (false,true,())))))
def Γ51:Gam:=[(100,qlJ)]
theorem qMu:Gam.get Γ51 100=some qlJ:=rfl
def qmg:Nat→Tree:=fun _=> .done
def qvb:Nat→Nm:=fun _=>⟨[],[],false⟩
def qqW:Nat→Option Jn:=fun _=>none
def qz5:Nat→Option Nm:=fun _=>none
def qvq:Nat→Option Nm:=fun _=>none
theorem p51:qg qmg (Try.f51.body.getD .skip)=true:=by kernel_rfl
def T51 (N:Nat):Tab:={tr:=qmg,lp:=qvb,ex:=qz5,rg:=qvq,jn:=qqW,fuel:=N}
theorem qK9 (N:Nat):(T51 N).pins=false:=rfl
theorem qIB (N:Nat):qk Try.prog (T51 N):=qn fun _=>rfl
theorem qRG (N:Nat) (i:Nat):(T51 N).tr i=qmg i:=rfl
theorem qME (N:Nat) (i:Nat):(T51 N).lp i=qvb i:=rfl
theorem qRr (N:Nat) (i:Nat):(T51 N).ex i=qz5 i:=rfl
theorem qLJ (N:Nat) (i:Nat):(T51 N).rg i=qvq i:=rfl
theorem qRa (N:Nat) (i:Nat):(T51 N).jn i=qqW i:=rfl
theorem qG6 (N:Nat):(T51 N).fuel=N:=rfl
theorem qNX (N:Nat) (v0:Val Y83) (v1:List (Val Y35)):qb tt Γ51 (T51 N) (Try.f51.body.getD .skip) (qh tt true [i4,i4] [.tmp 4,.tmp 5]) (ql [i83,i32] 29 (v0,v1,()))=m51 N v0 v1:=by
 rw [m51];unfold Try.f51
 simp (maxSteps:=10000000) -implicitDefEqProofs [qRG,qmg,qME,qvb,qRr,qz5,qLJ,qvq,qRa,qqW,qG6,qK9,qMu,qlJ]
 try rfl
noncomputable def qlW (N:Nat) (v0:Val Y83) (v1:List (Val Y35)):Option (qa [i4,i4]):=chk (qcT v0 v1) (bif (!((qax v0 v1).2:Bool))then (some (false,false,()))else (bif (decide ((((qax v0 v1).1).1:Int)<(0:Int)))then (some (true,true,()))else (bif (decide ((((qax v0 v1).1).1:Int)=(0:Int)))then (some ((!(v0.2.2:Bool)),true,()))else (some (false,true,())))))
def qt3:Gam:=[(136,qmL)]
theorem qMk:Gam.get qt3 136=some qmL:=rfl
def qn7:Nat→Tree:=fun _=> .done
def qzw:Nat→Nm:=fun _=>⟨[],[],false⟩
def quE:Nat→Option Jn:=fun _=>none
def qyc:Nat→Option Nm:=fun _=>none
def qAv:Nat→Option Nm:=fun _=>none
theorem qFB:qg qn7 (Try.f102.body.getD .skip)=true:=by kernel_rfl
def qbT (N:Nat):Tab:={tr:=qn7,lp:=qzw,ex:=qyc,rg:=qAv,jn:=quE,fuel:=N}
theorem qPA (N:Nat):(qbT N).pins=false:=rfl
theorem qRy (N:Nat):qk Try.prog (qbT N):=qn fun _=>rfl
theorem qN8 (N:Nat) (i:Nat):(qbT N).tr i=qn7 i:=rfl
theorem qKV (N:Nat) (i:Nat):(qbT N).lp i=qzw i:=rfl
theorem qRZ (N:Nat) (i:Nat):(qbT N).ex i=qyc i:=rfl
theorem qPI (N:Nat) (i:Nat):(qbT N).rg i=qAv i:=rfl
theorem qN0 (N:Nat) (i:Nat):(qbT N).jn i=quE i:=rfl
theorem qHJ (N:Nat):(qbT N).fuel=N:=rfl
theorem qLm (N:Nat) (v0:Val Y83) (v1:List (Val Y35)):qb tt qt3 (qbT N) (Try.f102.body.getD .skip) (qh tt true [i4,i4] [.tmp 4,.tmp 5]) (ql [i83,i32] 29 (v0,v1,()))=qlW N v0 v1:=by
 rw [qlW];unfold Try.f102
 simp (maxSteps:=10000000) -implicitDefEqProofs [qN8,qn7,qKV,qzw,qRZ,qyc,qPI,qAv,qN0,quE,qHJ,qPA,qMk,qmL]
 try rfl
def g12:G:={ps:=[i26,i32],rs:=[i4,i4],dp:=true,pre:=fun x=>qbH x.1 x.2.1,fn:=fun x=>((inV x.1 x.2.1).1,(inV x.1 x.2.1).2,())}
def g57:G:={ps:=[i26,i32],rs:=[i4,i4],dp:=true,pre:=fun x=>qbH x.1 x.2.1,fn:=fun x=>((inV x.1 x.2.1).1,(inV x.1 x.2.1).2,())}
noncomputable def qdi (N:Nat) (v2:List (Val Y35)) (v4:List (Val Y83)) (v5:Int) (k0:Bool→Option (qa [i4,i4])):Nat→Bool→Int→Option (qa [i4,i4])
 | 0,_,_=>none
 | n+1,v3,v6=>bif (decide (v6<v5))then (chk (0≤v6∧v6<(v4.length:Int)) (chk (qdj (v4.getD v6.toNat (qc Y83)) v2) (bif (!((qac (v4.getD v6.toNat (qc Y83)) v2).2:Bool))then (some (false,false,()))else (bif v3 then (qdi N v2 v4 v5 k0 n ((qac (v4.getD v6.toNat (qc Y83)) v2).1:Bool) (IntKind.i64.wrap (v6+(1:Int))))else (qdi N v2 v4 v5 k0 n false (IntKind.i64.wrap (v6+(1:Int))))))))else (k0 v3)
noncomputable def m12 (N:Nat) (v0:Val Y26) (v1:List (Val Y35)):Option (qa [i4,i4]):=bif (!((qS v0):Bool))then (some (false,false,()))else (chk (qaL v1 (v0.1:Int)) (bif (!((q6 v1 (v0.1:Int)):Bool))then (some (false,false,()))else (qdi N v1 (v0.2:List (Val Y83)) ((v0.2:List (Val Y83)).length:Int) (fun (v8:Bool)=>some (v8,true,())) N true (0:Int))))
def Γ12:Gam:=[(43,g43),(50,g50),(51,g51)]
theorem qzr:Gam.get Γ12 43=some g43:=rfl
theorem qqs:Gam.get Γ12 50=some g50:=rfl
theorem qBc:Gam.get Γ12 51=some g51:=rfl
def qhO:Nm:=⟨[false,true,false,false,false,false,true,false,false,false,false,false,false,false,false,false,false,false,false,false,false,false,true,true,true],[],false⟩
theorem qrd:qhO.zero=false:=rfl
theorem quG:qhO.fix=[]:=rfl
theorem qxT:qhO.keep=[false,true,false,false,false,false,true,false,false,false,false,false,false,false,false,false,false,false,false,false,false,false,true,true,true]:=rfl
def ql5:Nm:=⟨[false,false,false,false,false,false,true],[],false⟩
theorem qxk:ql5.zero=false:=rfl
theorem qtA:ql5.fix=[]:=rfl
theorem qpR:ql5.keep=[false,false,false,false,false,false,true]:=rfl
def qgM:Nat→Tree:=fun _=> .done
def qkO:Nat→Nm:=fun i=>if i=5 then qhO else ⟨[],[],false⟩
def qiI:Nat→Option Jn:=fun _=>none
def qi2:Nat→Option Nm:=fun i=>if i=0 then some ql5 else none
def qk7:Nat→Option Nm:=fun _=>none
theorem p12:qg qgM (Try.f12.body.getD .skip)=true:=by kernel_rfl
def T12 (N:Nat):Tab:={tr:=qgM,lp:=qkO,ex:=qi2,rg:=qk7,jn:=qiI,fuel:=N}
theorem qwp (N:Nat):(T12 N).pins=false:=rfl
theorem qGr (N:Nat):qk Try.prog (T12 N):=qn fun _=>rfl
theorem qsa (N:Nat) (i:Nat):(T12 N).tr i=qgM i:=rfl
theorem qy2 (N:Nat) (i:Nat):(T12 N).lp i=qkO i:=rfl
theorem quf (N:Nat) (i:Nat):(T12 N).ex i=qi2 i:=rfl
theorem qpi (N:Nat) (i:Nat):(T12 N).rg i=qk7 i:=rfl
theorem qul (N:Nat) (i:Nat):(T12 N).jn i=qiI i:=rfl
theorem qxY (N:Nat):(T12 N).fuel=N:=rfl
noncomputable def qDp:Code:=cut [true,true,true,false,true,true,true] (Try.f12.body.getD .skip)
theorem qHD {N:Nat} {Q:X→St→Option (qa [i4,i4])} {e:List LV} {h:List Blk}:qb tt Γ12 (T12 N) qDp Q ⟨e,h⟩=qb tt Γ12 (T12 N) (cut [true,true,true,false,true,true,true] (Try.f12.body.getD .skip)) Q ⟨e,h⟩:=rfl
theorem qRu (N:Nat) (v2:List (Val Y35)) (v4:List (Val Y83)) (v5:Int) {k0:Bool→Option (qa [i4,i4])} {Q:X→St→Option (qa [i4,i4])} {c:Code} (hc:c=qDp) (hret: ∀st,Q .ret st=qy tt true [i4,i4] [.tmp 4,.tmp 5] st) (h0: ∀(v7:Bool),Q (.exit 0) ⟨[u,u,u,u,u,u,.one (.bool v7),u,u,u,u,u,u,u,u,u,u,u,u,u,u,u,u,u,u,u,u,u,u,u,u,u,u,u,u,u,u,u,u,u,u,u],[]⟩=k0 v7): ∀(n:Nat) (v3:Bool) (v6:Int),qx (qb tt Γ12 (T12 N) c) false qhO Q n ⟨[u,.one (.sl 35 Y35 v2 0),u,u,u,u,.one (.bool v3),u,u,u,u,u,u,u,u,u,u,u,u,u,u,u,.one (.sl 83 Y83 v4 0),.one (.int .i64 v5),.one (.int .i64 v6),u,u,u,u,u,u,u,u,u,u,u,u,u,u,u,u,u],[]⟩=qdi N v2 v4 v5 k0 n v3 v6:=by
 subst hc;intro n;induction n with
 | zero=>intros;rfl
 | succ n ih=>
   intro v3 v6
   rw [qI,qHD,qdi];unfold Try.f12
   simp (maxSteps:=10000000) -implicitDefEqProofs [qsa,qgM,qy2,qkO,quf,qi2,qpi,qk7,qul,qiI,qxY,qwp,quG,qxT,qrd,qtA,qpR,qxk,qzr,qqs,qBc,g43,g50,g51,hret,h0,ih]
theorem qHA (N:Nat) (v0:Val Y26) (v1:List (Val Y35)):qb tt Γ12 (T12 N) (Try.f12.body.getD .skip) (qh tt true [i4,i4] [.tmp 4,.tmp 5]) (ql [i26,i32] 42 (v0,v1,()))=m12 N v0 v1:=by
 unfold Try.f12
 simp (maxSteps:=10000000) -implicitDefEqProofs [qsa,qgM,qy2,qkO,quf,qi2,qpi,qk7,qul,qiI,qxY,qwp,quG,qxT,qrd,qtA,qpR,qxk,qzr,qqs,qBc,g43,g50,g51]
 rewrite [qRu (k0:=(fun (v8:Bool)=>some (v8,true,()))) N _ _ _ ?_ ?_ ?_]
 ·rewrite [m12];first | rfl | simp (maxSteps:=10000000) -implicitDefEqProofs []
 ·rfl
 ·intro;simp only [qD,qE,qF,qC]
 ·intro v8;simp (maxSteps:=10000000) -implicitDefEqProofs [qsa,qgM,qy2,qkO,quf,qi2,qpi,qk7,qul,qiI,qxY,qwp,quG,qxT,qrd,qtA,qpR,qxk,qzr,qqs,qBc,g43,g50,g51]
noncomputable def qc0 (N:Nat) (v2:List (Val Y35)) (v5:Int) (v6:List (Val Y83)) (k0:Bool→Option (qa [i4,i4])):Nat→Bool→Int→Option (qa [i4,i4])
 | 0,_,_=>none
 | n+1,v3,v4=>bif (decide (v4<(v6.length:Int)))then (chk (0≤v4∧v4<(v6.length:Int)) (chk (qdj (v6.getD v4.toNat (qc Y83)) v2) (bif (!((qac (v6.getD v4.toNat (qc Y83)) v2).2:Bool))then (some (false,false,()))else (bif v3 then (qc0 N v2 v5 v6 k0 n ((qac (v6.getD v4.toNat (qc Y83)) v2).1:Bool) (IntKind.i64.wrap (v4+(1:Int))))else (qc0 N v2 v5 v6 k0 n false (IntKind.i64.wrap (v4+(1:Int))))))))else (k0 v3)
noncomputable def m57 (N:Nat) (v0:Val Y26) (v1:List (Val Y35)):Option (qa [i4,i4]):=chk (qca v0) (bif (!((qS v0):Bool))then (some (false,false,()))else (chk (qaL v1 (v0.1:Int)) (bif (!((q6 v1 (v0.1:Int)):Bool))then (some (false,false,()))else (qc0 N v1 (v0.1:Int) (v0.2:List (Val Y83)) (fun (v8:Bool)=>some (v8,true,())) N true (0:Int)))))
def Γ57:Gam:=[(46,g46),(58,g58),(102,qfL)]
theorem qvX:Gam.get Γ57 46=some g46:=rfl
theorem quS:Gam.get Γ57 58=some g58:=rfl
theorem qyA:Gam.get Γ57 102=some qfL:=rfl
def qjl:Nm:=⟨[false,true,true,false,false,false,true,true],[],false⟩
theorem qqC:qjl.zero=false:=rfl
theorem qtZ:qjl.fix=[]:=rfl
theorem qvI:qjl.keep=[false,true,true,false,false,false,true,true]:=rfl
def qnD:Nm:=⟨[false,false,false,false,false,false,true],[],false⟩
theorem qq5:qnD.zero=false:=rfl
theorem qxV:qnD.fix=[]:=rfl
theorem qrC:qnD.keep=[false,false,false,false,false,false,true]:=rfl
def qgx:Nat→Tree:=fun _=> .done
def qif:Nat→Nm:=fun i=>if i=5 then qjl else ⟨[],[],false⟩
def qiA:Nat→Option Jn:=fun _=>none
def qhc:Nat→Option Nm:=fun i=>if i=0 then some qnD else none
def qhC:Nat→Option Nm:=fun _=>none
theorem p57:qg qgx (Try.f57.body.getD .skip)=true:=by kernel_rfl
def T57 (N:Nat):Tab:={tr:=qgx,lp:=qif,ex:=qhc,rg:=qhC,jn:=qiA,fuel:=N}
theorem qrq (N:Nat):(T57 N).pins=false:=rfl
theorem qGA (N:Nat):qk Try.prog (T57 N):=qn fun _=>rfl
theorem qts (N:Nat) (i:Nat):(T57 N).tr i=qgx i:=rfl
theorem qv7 (N:Nat) (i:Nat):(T57 N).lp i=qif i:=rfl
theorem qrS (N:Nat) (i:Nat):(T57 N).ex i=qhc i:=rfl
theorem qpz (N:Nat) (i:Nat):(T57 N).rg i=qhC i:=rfl
theorem qt4 (N:Nat) (i:Nat):(T57 N).jn i=qiA i:=rfl
theorem qwr (N:Nat):(T57 N).fuel=N:=rfl
noncomputable def qE8:Code:=cut [true,true,true,false,true,true,true] (Try.f57.body.getD .skip)
theorem qOm {N:Nat} {Q:X→St→Option (qa [i4,i4])} {e:List LV} {h:List Blk}:qb tt Γ57 (T57 N) qE8 Q ⟨e,h⟩=qb tt Γ57 (T57 N) (cut [true,true,true,false,true,true,true] (Try.f57.body.getD .skip)) Q ⟨e,h⟩:=rfl
theorem qGI (N:Nat) (v2:List (Val Y35)) (v5:Int) (v6:List (Val Y83)) {k0:Bool→Option (qa [i4,i4])} {Q:X→St→Option (qa [i4,i4])} {c:Code} (hc:c=qE8) (hret: ∀st,Q .ret st=qy tt true [i4,i4] [.tmp 4,.tmp 5] st) (h0: ∀(v7:Bool),Q (.exit 0) ⟨[u,u,u,u,u,u,.one (.bool v7),u,u,u,u,u,u,u,u,u,u,u,u,u,u,u,u,u,u,u,u,u,u,u,u,u,u,u,u,u,u,u,u,u,u,u,u,u],[]⟩=k0 v7): ∀(n:Nat) (v3:Bool) (v4:Int),qx (qb tt Γ57 (T57 N) c) false qjl Q n ⟨[u,.one (.sl 35 Y35 v2 1),.one (.ptr 0 0 0),u,u,u,.one (.bool v3),.one (.int .i64 v4),u,u,u,u,u,u,u,u,u,u,u,u,u,u,u,u,u,u,u,u,u,u,u,u,u,u,u,u,u,u,u,u,u,u,u,u],[.box [.int .i64 v5,.sl 83 Y83 v6 1]]⟩=qc0 N v2 v5 v6 k0 n v3 v4:=by
 subst hc;intro n;induction n with
 | zero=>intros;rfl
 | succ n ih=>
   intro v3 v4
   rw [qI,qOm,qc0];unfold Try.f57
   simp (maxSteps:=10000000) -implicitDefEqProofs [qts,qgx,qv7,qif,qrS,qhc,qpz,qhC,qt4,qiA,qwr,qrq,qtZ,qvI,qqC,qxV,qrC,qq5,qvX,quS,qyA,g46,g58,qfL,hret,h0,ih]
theorem qI8 (N:Nat) (v0:Val Y26) (v1:List (Val Y35)):qb tt Γ57 (T57 N) (Try.f57.body.getD .skip) (qh tt true [i4,i4] [.tmp 4,.tmp 5]) (ql [i26,i32] 44 (v0,v1,()))=m57 N v0 v1:=by
 unfold Try.f57
 simp (maxSteps:=10000000) -implicitDefEqProofs [qts,qgx,qv7,qif,qrS,qhc,qpz,qhC,qt4,qiA,qwr,qrq,qtZ,qvI,qqC,qxV,qrC,qq5,qvX,quS,qyA,g46,g58,qfL]
 rewrite [qGI (k0:=(fun (v8:Bool)=>some (v8,true,()))) N _ _ _ ?_ ?_ ?_]
 ·rewrite [m57];first | rfl | simp (maxSteps:=10000000) -implicitDefEqProofs []
 ·rfl
 ·intro;simp only [qD,qE,qF,qC]
 ·intro v8;simp (maxSteps:=10000000) -implicitDefEqProofs [qts,qgx,qv7,qif,qrS,qhc,qpz,qhC,qt4,qiA,qwr,qrq,qtZ,qvI,qqC,qxV,qrC,qq5,qvX,quS,qyA,g46,g58,qfL]
theorem qES: ∀(l:List Int) (p:List (Val Y35)) (s:Val Y35),(l.zip p).foldl (fun s x=>qaF s (q5 (x.1,(1:Int)) x.2)) s=qbR l p s
 | [],p,s=>by cases p<;>rfl
 | n::l,[],s=>rfl
 | n::l,r::p,s=>qES l p _
theorem qkC {p:List (Val Y35)} {d:Int} (h:q6 p d=true):(p.length:Int)=d∧ ∀r∈p,qo r=true:=by
 unfold q6 at h
 simp only [Bool.and_eq_true,decide_eq_true_eq]at h
 exact ⟨h.1,fun r hr=>List.all_eq_true.1 h.2 r hr⟩
theorem qn3 {ρ σ α β:Type} {F:Nat→Int→σ→Option ρ} {f:σ→α×β→σ} {k:σ→Option ρ} {l:List α} {p:List β} (h:p.length=l.length) (hl:l.length≤1048576) (hF: ∀(n i:Nat) (s:σ) (h1:i<l.length) (h2:i<p.length),F (n+1) (i:Int) s=F n (IntKind.i64.wrap ((i:Int)+1)) (f s (l[i],p[i]))) (hE: ∀(n i:Nat) (s:σ),l.length≤i→F (n+1) (i:Int) s=k s) (n:Nat) (hn:l.length<n) (s:σ):F n 0 s=k ((l.zip p).foldl f s):=by
 have hz:(List.zip l p).length=l.length:=by rw [List.length_zip];omega
 refine (q4 (xs:=List.zip l p) (step:=fun _ x s K'=>K' (f s x)) (k:=k) (by omega) (fun n i s hi=> ?_) (fun n i s hi=>hE n i s (by omega)) n s (by omega)).trans (qC2 (List.zip l p) 0 s)
 rw [hF n i s (by omega) (by omega),List.getElem_zip]
def stV (s:Val Y35) (x:Val (.int .i64)×Val Y35):Val Y35:=qaF s (q5 (x.1,(1:Int)) x.2)
theorem qoM (l:List (Val (.int .i64))) (p:List (Val Y35)) (s:Val Y35):(l.zip p).foldl stV s=qbR l p s:=qES l p s
theorem qL5 (N:Nat) (p:List (Val Y35)) (l:List (Val (.int .i64))) (u1 u2:Int) (K:Int→Int→Option (qa [i35,i4])) (h:p.length=l.length) (hl:l.length≤1048576) (n:Nat) (hn:l.length<n) (a b:Int):qcR N p l (l.length:Int) u1 u2 K n 0 a b=K (qbR l p (a,b)).1 (qbR l p (a,b)).2:=by
 rw [←qoM]
 exact qn3 (F:=fun n i (s:Val Y35)=>qcR N p l (l.length:Int) u1 u2 K n i s.1 s.2) (f:=stV) (k:=fun s=>K s.1 s.2) h hl (fun n i s h1 h2=>by
  obtain ⟨s1,s2⟩:=s
  dsimp only
  rw [qcR,qi (by omega),qd (by omega),qd (by omega),qB h1,qB h2,stV]) (fun n i s hi=>by
  rw [qcR,qj (by omega)]) n hn (a,b)
theorem qHx (N:Nat) (p:List (Val Y35)) (l:List (Val (.int .i64))) (c:Int) (b:Bool) (u1 u2:Int) (K:Int→Int→Option (qa [i35,i4])) (h:p.length=l.length) (hl:l.length≤1048576) (n:Nat) (hn:l.length<n) (s1 s2:Int):qcU N p l c b u1 u2 K n 0 s1 s2=K (qbR l p (s1,s2)).1 (qbR l p (s1,s2)).2:=by
 rw [←qoM]
 exact qn3 (F:=fun n i (s:Val Y35)=>qcU N p l c b u1 u2 K n i s.1 s.2) (f:=stV) (k:=fun s=>K s.1 s.2) h hl (fun n i s h1 h2=>by
  obtain ⟨s1,s2⟩:=s
  dsimp only
  rw [qcU,qi (by omega),qd (by omega),qd (by omega),qB h1,qB h2,stV,q7]) (fun n i s hi=>by
  rw [qcU,qj (by omega)]) n hn (s1,s2)
theorem qPb (a:Val Y83) (p:List (Val Y35)) (h:qcT a p): ∃N,qoC N a p=some ((qax a p).1,(qax a p).2,()):=⟨List.length (α:=Int) a.1+1,by
 obtain ⟨l,c,b⟩:=a
 change List (Val (.int .i64))at l
 change Int at c
 change Bool at b
 have h:p.length≤1048576:=h
 rw [qoC,qax]
 dsimp only
 cases ha:qK (l,c,b)with
 | false=>rfl
 | true=>
   rw [Bool.not_true,cond_false,qd (show qaL p _ from h),Bool.true_and]
   have e:((List.length (α:=Int) l:Nat):Int)=(l.length:Int):=rfl
   rw [e]
   cases hp:q6 p (l.length:Int)with
   | false=>rfl
   | true=>
     have hl:=(qkC hp).1
     rw [Bool.not_true,cond_false,cond_true]
     exact qL5 _ p l 0 0 _ (by omega) (by omega) _ (Nat.lt_succ_self _) _ _⟩
theorem qIb (a:Val Y83) (p:List (Val Y35)) (h:qcT a p): ∃N,qnb N a p=some ((qax a p).1,(qax a p).2,()):=⟨List.length (α:=Int) a.1+1,by
 obtain ⟨l,c,b⟩:=a
 change List (Val (.int .i64))at l
 change Int at c
 change Bool at b
 have h:p.length≤1048576:=h
 rw [qnb,qax]
 dsimp only
 cases ha:qK (l,c,b)with
 | false=>rfl
 | true=>
   rw [Bool.not_true,cond_false,qd (show qaL p _ from h),Bool.true_and]
   have e:((List.length (α:=Int) l:Nat):Int)=(l.length:Int):=rfl
   rw [e]
   cases hp:q6 p (l.length:Int)with
   | false=>rfl
   | true=>
     have hl:=(qkC hp).1
     rw [Bool.not_true,cond_false,cond_true]
     exact qHx _ p l c b 0 0 _ (by omega) (by omega) _ (Nat.lt_succ_self _) _ _⟩
theorem qPV:Sound Try.prog 100 qlJ:=qq (tt:=tt) (Γ:=qce) hT (qe s50 (qe s70 (qe s93 (qe qCP (qe qEq qp))))) hm (fn:=Try.f100) Try.func100 (c:=Try.f100.body.getD .skip) (by kernel_rfl) (by kernel_rfl) fun x hx=>by
 obtain ⟨N,h⟩:=qPb x.1 x.2.1 hx
 exact ⟨qa6 N,qIs,qm _,qQ7 N,(qI9 N x.1 x.2.1).trans h⟩
theorem qI6:Sound Try.prog 136 qmL:=qq (tt:=tt) (Γ:=qbz) hT (qe s58 (qe s60 (qe s96 (qe qDl (qe qEh (qe qCC qp)))))) hm (fn:=Try.f136) Try.func136 (c:=Try.f136.body.getD .skip) (by kernel_rfl) (by kernel_rfl) fun x hx=>by
 obtain ⟨N,h⟩:=qIb x.1 x.2.1 hx
 exact ⟨qa7 N,qG1,qm _,qNY N,(qPQ N x.1 x.2.1).trans h⟩
theorem qEa (v:Int) (b s:Bool):(bif !b then some (false,false,())else bif decide (v<0)then some (true,true,())else bif decide (v=0)then some (!s,true,())else some (false,true,()):Option (Bool×Bool×Unit))=some ((bif b then (decide (v<0)||(decide (v=0)&& !s),true)else (false,false)).1,(bif b then (decide (v<0)||(decide (v=0)&& !s),true)else (false,false)).2,()):=by
 cases b<;>cases decide (v<0)<;>cases decide (v=0)<;>rfl
theorem e51 (a:Val Y83) (p:List (Val Y35)) (h:qdj a p): ∃N,m51 N a p=some ((qac a p).1,(qac a p).2,()):=⟨0,by
 rw [m51,qd (show qcT a p from h)]
 exact qEa _ _ _⟩
theorem qKa (a:Val Y83) (p:List (Val Y35)) (h:qdj a p): ∃N,qlW N a p=some ((qac a p).1,(qac a p).2,()):=⟨0,by
 rw [qlW,qd (show qcT a p from h)]
 exact qEa _ _ _⟩
theorem s51:Sound Try.prog 51 g51:=qq (tt:=tt) (Γ:=Γ51) hT (qe qPV qp) hm (fn:=Try.f51) Try.func51 (c:=Try.f51.body.getD .skip) (by kernel_rfl) (by kernel_rfl) fun x hx=>by
 obtain ⟨N,h⟩:=e51 x.1 x.2.1 hx
 exact ⟨T51 N,p51,qm _,qIB N,(qNX N x.1 x.2.1).trans h⟩
theorem qI7:Sound Try.prog 102 qfL:=qq (tt:=tt) (Γ:=qt3) hT (qe qI6 qp) hm (fn:=Try.f102) Try.func102 (c:=Try.f102.body.getD .skip) (by kernel_rfl) (by kernel_rfl) fun x hx=>by
 obtain ⟨N,h⟩:=qKa x.1 x.2.1 hx
 exact ⟨qbT N,qFB,qm _,qRy N,(qLm N x.1 x.2.1).trans h⟩
theorem qvt (p:List (Val Y35)): ∀(l:List (Val Y83)) (i:Nat) (b:Bool),qZ (fun _ x (b:Bool) K=>bif (qac x p).2 then K (b&&(qac x p).1)else some (false,false,())) i l b (fun b=>(some (b,true,()):Option (Bool×Bool×Unit)))=some ((inN p l b).1,(inN p l b).2,())
 | [],_,_=>rfl
 | x::l,i,b=>by
   rw [qZ,inN]
   dsimp only
   cases (qac x p).2 with
   | false=>rfl
   | true=>rw [cond_true,cond_true];exact qvt p l (i+1) _
theorem e12 (c:Val Y26) (p:List (Val Y35)) (h:qbH c p): ∃N,m12 N c p=some ((inV c p).1,(inV c p).2,()):=⟨List.length (α:=Val Y83) c.2+1,by
 rw [m12,inV]
 cases hc:qS c with
 | false=>rfl
 | true=>
   rw [Bool.not_true,cond_false,qd (show qaL p _ from h.2)]
   cases hp:q6 p c.1 with
   | false=>rfl
   | true=>
     have hl:=(qcd hc).2.1
     rw [Bool.not_true,cond_false]
     refine (q4 (xs:=(c.2:List (Val Y83))) (F:=fun n i (b:Bool)=>qdi _ p c.2 _ _ n b i) (step:=fun _ x (b:Bool) K=>bif (qac x p).2 then K (b&&(qac x p).1)else some (false,false,())) (k:=fun b=>some (b,true,())) (Nat.le_trans hl (by decide)) (fun n i b hi=> ?_) (fun n i b hi=> ?_) _ true (Nat.lt_succ_self _)).trans (qvt p c.2 0 true)
     ·rw [qdi,qi (by omega),qd (by omega),qB hi,qd (show qdj _ p from h.2)]
      cases (qac _ p).2<;>cases b<;>rfl
     ·rw [qdi,qj (by omega)]⟩
theorem e57 (c:Val Y26) (p:List (Val Y35)) (h:qbH c p): ∃N,m57 N c p=some ((inV c p).1,(inV c p).2,()):=⟨List.length (α:=Val Y83) c.2+1,by
 rw [m57,qd (show qca c from h.1),inV]
 cases hc:qS c with
 | false=>rfl
 | true=>
   rw [Bool.not_true,cond_false,qd (show qaL p _ from h.2)]
   cases hp:q6 p c.1 with
   | false=>rfl
   | true=>
     have hl:=(qcd hc).2.1
     rw [Bool.not_true,cond_false]
     refine (q4 (xs:=(c.2:List (Val Y83))) (F:=fun n i (b:Bool)=>qc0 _ p _ c.2 _ n b i) (step:=fun _ x (b:Bool) K=>bif (qac x p).2 then K (b&&(qac x p).1)else some (false,false,())) (k:=fun b=>some (b,true,())) (Nat.le_trans hl (by decide)) (fun n i b hi=> ?_) (fun n i b hi=> ?_) _ true (Nat.lt_succ_self _)).trans (qvt p c.2 0 true)
     ·rw [qc0,qi (by omega),qd (by omega),qB hi,qd (show qdj _ p from h.2)]
      cases (qac _ p).2<;>cases b<;>rfl
     ·rw [qc0,qj (by omega)]⟩
theorem s12:Sound Try.prog 12 g12:=qq (tt:=tt) (Γ:=Γ12) hT (qe s43 (qe s50 (qe s51 qp))) hm (fn:=Try.f12) Try.func12 (c:=Try.f12.body.getD .skip) (by kernel_rfl) (by kernel_rfl) fun x hx=>by
 obtain ⟨N,h⟩:=e12 x.1 x.2.1 hx
 exact ⟨T12 N,p12,qm _,qGr N,(qHA N x.1 x.2.1).trans h⟩
theorem s57:Sound Try.prog 57 g57:=qq (tt:=tt) (Γ:=Γ57) hT (qe s46 (qe s58 (qe qI7 qp))) hm (fn:=Try.f57) Try.func57 (c:=Try.f57.body.getD .skip) (by kernel_rfl) (by kernel_rfl) fun x hx=>by
 obtain ⟨N,h⟩:=e57 x.1 x.2.1 hx
 exact ⟨T57 N,p57,qm _,qGA N,(qI8 N x.1 x.2.1).trans h⟩
end Go.T
