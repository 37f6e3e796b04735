/- Neat regions: run. -/
import Derived.Test.YthefcjjgchekiaaGreatE7
set_option linter.unusedSimpArgs false
set_option linter.unusedVariables false
namespace Go.T
open Go Go.Proofs
set_option maxHeartbeats 4000000
set_option maxRecDepth 100000
def qaY (f:qc [i33]→qc [i33,i4]):List (Val Y33)→Val Y50→Val Y50×Bool
 | [],r=>(r,true)
 | c::cs,r=>bif (f (c,())).2.1 then (bif (qag r (f (c,())).1).2 then qaY f cs (qag r (f (c,())).1).1 else qa5)else qa5
def qep (f:qc [i33]→qc [i33,i4]) (x:Val Y50):Val Y50×Bool:=qaY f x.2 (x.1,[])
def qm8 (p:qc [i33]→Prop) (_:qc [i33]→qc [i33,i4]) (x:Val Y50):Prop:=List.length (α:=Val Y33) x.2≤12∧ ∀c∈(x.2:List (Val Y33)),p (c,())
def qqw:Gh:={r:=i50,ps:=[i33],qs:=[i33,i4],rs:=[i50,i4],pre:=fun p f x=>qm8 p f x,fn:=fun f x=>((qep f x).1,(qep f x).2,())}
noncomputable def qjw (N:HN [i33] [i33,i4]) (v1:List (Val Y33)) (v2:Int) (v4:Int) (k0:Int→(List (Val Y33))→Option (qc [i50,i4])):Nat→Int→Int→(List (Val Y33))→Option (qc [i50,i4])
 | 0,_,_,_=>none
 | n+1,v3,v5,v6=>bif (decide (v3<v2))then (chk (0≤v3∧v3<(v1.length:Int)) (chk (N.pre ((v1.getD v3.toNat (qb Y33)),())) (bif (!((N.fn ((v1.getD v3.toNat (qb Y33)),())).2.1:Bool))then (some (((0:Int),([]:List (Val Y33))),false,()))else (chk (qkD (v5,v6) ((N.fn ((v1.getD v3.toNat (qb Y33)),())).1)) (bif (!((qyj (v5,v6) ((N.fn ((v1.getD v3.toNat (qb Y33)),())).1)):Bool))then (some (((0:Int),([]:List (Val Y33))),false,()))else (qjw N v1 v2 v4 k0 n (IntKind.i64.wrap (v3+(1:Int))) ((qkt (v5,v6) ((N.fn ((v1.getD v3.toNat (qb Y33)),())).1)).1:Int) ((qkt (v5,v6) ((N.fn ((v1.getD v3.toNat (qb Y33)),())).1)).2:List (Val Y33))))))))else (k0 v5 v6)
noncomputable def qBM (N:HN [i33] [i33,i4]) (v0:Val Y50):Option (qc [i50,i4]):=qjw N (v0.2:List (Val Y33)) ((v0.2:List (Val Y33)).length:Int) (0:Int) (fun (v9:Int) (v10:List (Val Y33))=>some ((v9,v10),true,())) N (0:Int) (v0.1:Int) ([]:List (Val Y33))
def qmY:Gam:=[]
theorem qO9:Gam.get qmY 222=none:=rfl
def qr2:Nm:=⟨[false,true,false,false,true,false,true,false,false,false,false,false,false,false,false,false,true,true,true],[],true⟩
theorem qY3:qr2.zero=true:=rfl
theorem qJe:qr2.fix=[]:=rfl
theorem qNg:qr2.keep=[false,true,false,false,true,false,true,false,false,false,false,false,false,false,false,false,true,true,true]:=rfl
def qGp:Nm:=⟨[false,false,false,false,true,false,true],[],true⟩
theorem qO4:qGp.zero=true:=rfl
theorem qLC:qGp.fix=[]:=rfl
theorem q3t:qGp.keep=[false,false,false,false,true,false,true]:=rfl
def qrm (N:HN [i33] [i33,i4]):Sem:=qsD N.fv [i33] [i33,i4] N.pre N.fn (qjl [(222,qeP)] [])
def qot:Nat→Tree:=fun _=> .done
def qtk:Nat→Nm:=fun i=>if i=3 then qr2 else ⟨[],[],false⟩
def qu6:Nat→Option Jn:=fun _=>none
def qrc:Nat→Option Nm:=fun i=>if i=0 then some qGp else none
def qvs:Nat→Option Nm:=fun _=>none
theorem zvo:qh qot (Tryz.f144.body.getD .skip)=true:=by kernel_rfl
def qc1 (N:HN [i33] [i33,i4]):Tab:={tr:=qot,lp:=qtk,ex:=qrc,rg:=qvs,jn:=qu6,fuel:=N,sem:=qrm N}
theorem qQ0 (N:HN [i33] [i33,i4]):(qc1 N).pins=false:=rfl
theorem zk1 (N:HN [i33] [i33,i4]):qk Tryz.prog (qc1 N):=qo fun _=>rfl
theorem qZ4 (N:HN [i33] [i33,i4]):(qc1 N).sem=qrm N:=rfl
theorem q32 (N:HN [i33] [i33,i4]) (i:Nat):(qc1 N).tr i=qot i:=rfl
theorem qYY (N:HN [i33] [i33,i4]) (i:Nat):(qc1 N).lp i=qtk i:=rfl
theorem qZx (N:HN [i33] [i33,i4]) (i:Nat):(qc1 N).ex i=qrc i:=rfl
theorem qXX (N:HN [i33] [i33,i4]) (i:Nat):(qc1 N).rg i=qvs i:=rfl
theorem qKG (N:HN [i33] [i33,i4]) (i:Nat):(qc1 N).jn i=qu6 i:=rfl
theorem qKh (N:HN [i33] [i33,i4]):(qc1 N).fuel=N:=rfl
noncomputable def q6z:Code:=cut [true,true,false,true,true,true] (Tryz.f144.body.getD .skip)
theorem zpe {N:HN [i33] [i33,i4]} {Q:X→St→Option (qc [i50,i4])} {e:List LV} {h:List Blk}:qf tt qmY (qc1 N) q6z Q ⟨e,h⟩=qf tt qmY (qc1 N) (cut [true,true,false,true,true,true] (Tryz.f144.body.getD .skip)) Q ⟨e,h⟩:=rfl
theorem zx0 (N:HN [i33] [i33,i4]) (v1:List (Val Y33)) (v2:Int) (v4:Int) {k0:Int→(List (Val Y33))→Option (qc [i50,i4])} {Q:X→St→Option (qc [i50,i4])} {c:Code} (hc:c=q6z) (hret: ∀st,Q .ret st=qC tt true [i50,i4] [.cell 4 50,.tmp 5] st) (h0: ∀(v7:Int) (v8:List (Val Y33)),Q (.exit 0) ⟨[u,u,u,u,.one (.ptr 0 0 0),u,.one (.ptr 1 0 0),u,u,u,u,u,u,u,u,u,u,u,u,u,u,u,u,u,u,u,u,u,u,u,u,u,u,u,u,u,u,u],[.box [.int .i64 v4,.nils],.box [.int .i64 v7,.own 2],.row 33 Y33 v8 true true 0]⟩=k0 v7 v8): ∀(n:Nat) (v3:Int) (v5:Int) (v6:List (Val Y33)),qD (qf tt qmY (qc1 N) c) false qr2 Q n ⟨[u,.one (.hdr N.fv),u,u,.one (.ptr 0 0 0),u,.one (.ptr 1 0 0),u,u,u,u,u,u,u,u,u,.one (.sl 33 Y33 v1 0),.one (.int .i64 v2),.one (.int .i64 v3),u,u,u,u,u,u,u,u,u,u,u,u,u,u,u,u,u,u,u],[.box [.int .i64 v4,.nils],.box [.int .i64 v5,.own 2],.row 33 Y33 v6 true true 0]⟩=qjw N v1 v2 v4 k0 n v3 v5 v6:=by
 subst hc;intro n;induction n with
 | zero=>intros;rfl
 | succ n ih=>
   intro v3 v5 v6
   rw [qN,zpe,qjw];unfold Tryz.f144
   simp (maxSteps:=10000000) -implicitDefEqProofs [q32,qot,qYY,qtk,qZx,qrc,qXX,qvs,qKG,qu6,qKh,qQ0,qZ4,qrm,qaa,qO9,qeP,qJe,qNg,qY3,qLC,q3t,qO4,hret,h0,ih]
theorem zjj (N:HN [i33] [i33,i4]) (v0:Val Y50):qf tt qmY (qc1 N) (Tryz.f144.body.getD .skip) (qm tt true [i50,i4] [.cell 4 50,.tmp 5]) (qrs i50 38 v0 N.fv)=qBM N v0:=by
 unfold Tryz.f144
 simp (maxSteps:=10000000) -implicitDefEqProofs [q32,qot,qYY,qtk,qZx,qrc,qXX,qvs,qKG,qu6,qKh,qQ0,qZ4,qrm,qaa,qO9,qeP,qJe,qNg,qY3,qLC,q3t,qO4]
 rewrite [zx0 (k0:=(fun (v9:Int) (v10:List (Val Y33))=>some ((v9,v10),true,()))) N _ _ _ ?_ ?_ ?_]
 ·rewrite [qBM];first | rfl | simp (maxSteps:=10000000) -implicitDefEqProofs []
 ·rfl
 ·intro;simp only [qK,qL,qJ,qB]
 ·intro v9 v10;simp (maxSteps:=10000000) -implicitDefEqProofs [q32,qot,qYY,qtk,qZx,qrc,qXX,qvs,qKG,qu6,qKh,qQ0,qZ4,qrm,qaa,qO9,qeP,qJe,qNg,qY3,qLC,q3t,qO4]
def idC (c:Val Y33):Val Y33×Bool:=(c,true)
def qiR:Gc [i33] [i33,i4]:={cs:=[],pre:=fun _ x=>True,fn:=fun _ x=>((idC x.1).1,(idC x.1).2,())}
theorem zyW:qiR.cs=[]:=rfl
noncomputable def qHO (N:Nat) (v0:Val Y33):Option (qc [i33,i4]):=some (v0,true,())
def q81:Gam:=[]
def qHC:Nat→Tree:=fun _=> .done
def qXB:Nat→Nm:=fun _=>⟨[],[],false⟩
def qHJ:Nat→Option Jn:=fun _=>none
def q1I:Nat→Option Nm:=fun _=>none
def qIn:Nat→Option Nm:=fun _=>none
theorem zpj:qh qHC (Tryz.f211.body.getD .skip)=true:=by kernel_rfl
def qgo (N:Nat):Tab:={tr:=qHC,lp:=qXB,ex:=q1I,rg:=qIn,jn:=qHJ,fuel:=N}
theorem zzI (N:Nat):(qgo N).pins=false:=rfl
theorem znY (N:Nat):qk Tryz.prog (qgo N):=qo fun _=>rfl
theorem zwM (N:Nat) (i:Nat):(qgo N).tr i=qHC i:=rfl
theorem zzr (N:Nat) (i:Nat):(qgo N).lp i=qXB i:=rfl
theorem zjC (N:Nat) (i:Nat):(qgo N).ex i=q1I i:=rfl
theorem zA9 (N:Nat) (i:Nat):(qgo N).rg i=qIn i:=rfl
theorem zcE (N:Nat) (i:Nat):(qgo N).jn i=qHJ i:=rfl
theorem zt1 (N:Nat):(qgo N).fuel=N:=rfl
theorem zwk (N:Nat) (v0:Val Y33):qf tt q81 (qgo N) (Tryz.f211.body.getD .skip) (qm tt false [i33,i4] [.cell 2 33,.tmp 3]) (qoW [i33] [] 5 (()) (v0,()))=qHO N v0:=by
 rw [qHO];unfold Tryz.f211
 simp (maxSteps:=10000000) -implicitDefEqProofs [zwM,qHC,zzr,qXB,zjC,q1I,zA9,qIn,zcE,qHJ,zt1,zzI]
 try rfl
def idF (x:qc [i33]):qc [i33,i4]:=(x.1,true,())
def qY (r:Val Y50):Val Y50×Bool:=bif q7 r then qep idF r else qa5
def qe2:G:={ps:=[i50],rs:=[i50,i4],dp:=true,pre:=fun _=>True,fn:=fun x=>((qY x.1).1,(qY x.1).2,())}
noncomputable def qAW (N:Nat) (v0:Val Y50):Option (qc [i50,i4]):=bif (!((q7 v0):Bool))then (some (((0:Int),([]:List (Val Y33))),false,()))else (chk (qm8 (qiR.pre (())) (qiR.fn (())) v0) (some (((((qep (qiR.fn (())) v0).1).1:Int),(((qep (qiR.fn (())) v0).1).2:List (Val Y33))),((qep (qiR.fn (())) v0).2:Bool),())))
def qFy:Gam:=[(124,qbW)]
theorem zr8:Gam.get qFy 124=some qbW:=rfl
theorem zqr:Gam.get qFy 144=none:=rfl
def qJO:Sem:=qjl [] [(144,⟨qqw,[(211,qiR)]⟩)]
def qBz:Nat→Tree:=fun _=> .done
def q0o:Nat→Nm:=fun _=>⟨[],[],false⟩
def qVW:Nat→Option Jn:=fun _=>none
def q10:Nat→Option Nm:=fun _=>none
def qIc:Nat→Option Nm:=fun _=>none
theorem zuI:qh qBz (Tryz.f133.body.getD .skip)=true:=by kernel_rfl
def qe3 (N:Nat):Tab:={tr:=qBz,lp:=q0o,ex:=q10,rg:=qIc,jn:=qVW,fuel:=N,sem:=qJO}
theorem zxB (N:Nat):(qe3 N).pins=false:=rfl
theorem znB (N:Nat):qk Tryz.prog (qe3 N):=qo fun _=>rfl
theorem zp9 (N:Nat):(qe3 N).sem=qJO:=rfl
theorem zzV (N:Nat) (i:Nat):(qe3 N).tr i=qBz i:=rfl
theorem zbP (N:Nat) (i:Nat):(qe3 N).lp i=q0o i:=rfl
theorem zpX (N:Nat) (i:Nat):(qe3 N).ex i=q10 i:=rfl
theorem zvd (N:Nat) (i:Nat):(qe3 N).rg i=qIc i:=rfl
theorem ztF (N:Nat) (i:Nat):(qe3 N).jn i=qVW i:=rfl
theorem zpk (N:Nat):(qe3 N).fuel=N:=rfl
theorem zpm (N:Nat) (v0:Val Y50):qf tt qFy (qe3 N) (Tryz.f133.body.getD .skip) (qm tt true [i50,i4] [.cell 2 50,.tmp 3]) (qp [i50] 12 (v0,()))=qAW N v0:=by
 rw [qAW];unfold Tryz.f133
 simp (maxSteps:=10000000) -implicitDefEqProofs [zzV,qBz,zbP,q0o,zpX,q10,zvd,qIc,ztF,qVW,zpk,zxB,zp9,qJO,qaa,zqr,qqw,zyW,zr8,qbW]
 try rfl
def qmh (r:Val Y50):Prop:=qbs r
def qnh:G:={ps:=[i50],rs:=[i50,i4],dp:=false,pre:=fun x=>qmh x.1,fn:=fun x=>((qY x.1).1,(qY x.1).2,())}
noncomputable def qgc (N:Nat) (v2:Int) (v3:List (Val Y33)) (v4:Int) (k0:Int→(List (Val Y33))→Option (qc [i50,i4])):Nat→Int→Int→(List (Val Y33))→Option (qc [i50,i4])
 | 0,_,_,_=>none
 | n+1,v1,v5,v6=>bif (decide (v1<(v3.length:Int)))then (chk (0≤v1∧v1<(v3.length:Int)) (chk (qfp (v5,v6) (v3.getD v1.toNat (qb Y33))) (bif (!((qa1 (v5,v6) (v3.getD v1.toNat (qb Y33))).2:Bool))then (some (((0:Int),([]:List (Val Y33))),false,()))else (qgc N v2 v3 v4 k0 n (IntKind.i64.wrap (v1+(1:Int))) (((qa1 (v5,v6) (v3.getD v1.toNat (qb Y33))).1).1:Int) (((qa1 (v5,v6) (v3.getD v1.toNat (qb Y33))).1).2:List (Val Y33))))))else (k0 v5 v6)
noncomputable def qn5 (N:Nat) (v0:Val Y50):Option (qc [i50,i4]):=chk (qbs v0) (bif (!((q7 v0):Bool))then (some (((0:Int),([]:List (Val Y33))),false,()))else (qgc N (v0.1:Int) (v0.2:List (Val Y33)) (0:Int) (fun (v9:Int) (v10:List (Val Y33))=>some ((v9,v10),true,())) N (0:Int) (v0.1:Int) ([]:List (Val Y33))))
def qlQ:Gam:=[(117,qaX),(143,qdM)]
theorem qVy:Gam.get qlQ 117=some qaX:=rfl
theorem qL2:Gam.get qlQ 143=some qdM:=rfl
def qyC:Nm:=⟨[false,true,true,false,true,true],[.nsb 4 1 33 Y33],false⟩
theorem qMI:qyC.zero=false:=rfl
theorem qV6:qyC.fix=[.nsb 4 1 33 Y33]:=rfl
theorem q0R:qyC.keep=[false,true,true,false,true,true]:=rfl
def qDj:Nm:=⟨[false,false,true,false,true],[],false⟩
theorem qTD:qDj.zero=false:=rfl
theorem qLX:qDj.fix=[]:=rfl
theorem qPR:qDj.keep=[false,false,true,false,true]:=rfl
def qDf:Nm:=⟨[false,true,true,false,true,true,true,true],[],false⟩
theorem qOv:qDf.zero=false:=rfl
theorem qTh:qDf.fix=[]:=rfl
theorem qN7:qDf.keep=[false,true,true,false,true,true,true,true]:=rfl
def qop:Nat→Tree:=fun i=>if i=7 then .first 3 (.grow 0 (.grow 1 (.grow 2 (.grow 4 (.grow 5 (.alt 6 (.first 7 (.first 8 (.first 9 (.alt 10 (.alt 11 (.quiet 12 .done) .stop) .stop)))) (.alt 10 (.alt 6 (.quiet 7 (.quiet 8 (.first 9 (.alt 11 (.quiet 12 .done) .stop)))) .stop) .stop)))))))else .done
def qrF:Nat→Nm:=fun i=>if i=5 then qyC else ⟨[],[],false⟩
def qva:Nat→Option Jn:=fun _=>none
def qx5:Nat→Option Nm:=fun i=>if i=0 then some qDj else none
def qro:Nat→Option Nm:=fun i=>if i=7 then some qDf else none
theorem zd2:qh qop (Tryz.f131.body.getD .skip)=true:=by kernel_rfl
def qdb (N:Nat):Tab:={tr:=qop,lp:=qrF,ex:=qx5,rg:=qro,jn:=qva,fuel:=N}
theorem qS4 (N:Nat):(qdb N).pins=false:=rfl
theorem zbL (N:Nat):qk Tryz.prog (qdb N):=qo fun _=>rfl
theorem qSi (N:Nat) (i:Nat):(qdb N).tr i=qop i:=rfl
theorem qW8 (N:Nat) (i:Nat):(qdb N).lp i=qrF i:=rfl
theorem qYO (N:Nat) (i:Nat):(qdb N).ex i=qx5 i:=rfl
theorem qHG (N:Nat) (i:Nat):(qdb N).rg i=qro i:=rfl
theorem qMl (N:Nat) (i:Nat):(qdb N).jn i=qva i:=rfl
theorem qTc (N:Nat):(qdb N).fuel=N:=rfl
noncomputable def zan:Code:=cut [true,true,true,false,true,true,true] (Tryz.f131.body.getD .skip)
theorem zsr {N:Nat} {Q:X→St→Option (qc [i50,i4])} {e:List LV} {h:List Blk}:qf tt qlQ (qdb N) zan Q ⟨e,h⟩=qf tt qlQ (qdb N) (cut [true,true,true,false,true,true,true] (Tryz.f131.body.getD .skip)) Q ⟨e,h⟩:=rfl
theorem zqp (N:Nat) (v2:Int) (v3:List (Val Y33)) (v4:Int) {k0:Int→(List (Val Y33))→Option (qc [i50,i4])} {Q:X→St→Option (qc [i50,i4])} {c:Code} (hc:c=zan) (hret: ∀st,Q .ret st=qC tt false [i50,i4] [.cell 2 50,.tmp 3] st) (h0: ∀(v7:Int) (v8:List (Val Y33)),Q (.exit 0) ⟨[u,u,.one (.ptr 0 0 0),u,.one (.ptr 1 0 0),u,u,u,u,u,u,u,u,u,u,u,u,u,u,u,u,u,u,u,u,u,u,u,u,u,u,u,u,u,u,u,u],[.box [.int .i64 v4,.nils],.box [.int .i64 v7,.sl 33 Y33 v8 2]]⟩=k0 v7 v8): ∀(n:Nat) (v1:Int) (v5:Int) (v6:List (Val Y33)),qD (qf tt qlQ (qdb N) c) false qyC Q n ⟨[u,.one (.ptr 0 0 0),.one (.ptr 1 0 0),u,.one (.ptr 2 0 0),.one (.int .i64 v1),u,u,u,u,u,u,u,u,u,u,u,u,u,u,u,u,u,u,u,u,u,u,u,u,u,u,u,u,u,u,u],[.box [.int .i64 v2,.sl 33 Y33 v3 3],.box [.int .i64 v4,.nils],.box [.int .i64 v5,.sl 33 Y33 v6 3]]⟩=qgc N v2 v3 v4 k0 n v1 v5 v6:=by
 subst hc;intro n;induction n with
 | zero=>intros;rfl
 | succ n ih=>
   intro v1 v5 v6
   rw [qN,zsr,qgc];unfold Tryz.f131
   simp (maxSteps:=10000000) -implicitDefEqProofs [qSi,qop,qW8,qrF,qYO,qx5,qHG,qro,qMl,qva,qTc,qS4,qV6,q0R,qMI,qLX,qPR,qTD,qTh,qN7,qOv,qVy,qL2,qaX,qdM,hret,h0,ih]
theorem zwx (N:Nat) (v0:Val Y50):qf tt qlQ (qdb N) (Tryz.f131.body.getD .skip) (qm tt false [i50,i4] [.cell 2 50,.tmp 3]) (qp [i50] 37 (v0,()))=qn5 N v0:=by
 unfold Tryz.f131
 simp (maxSteps:=10000000) -implicitDefEqProofs [qSi,qop,qW8,qrF,qYO,qx5,qHG,qro,qMl,qva,qTc,qS4,qV6,q0R,qMI,qLX,qPR,qTD,qTh,qN7,qOv,qVy,qL2,qaX,qdM]
 rewrite [zqp (k0:=(fun (v9:Int) (v10:List (Val Y33))=>some ((v9,v10),true,()))) N _ _ _ ?_ ?_ ?_]
 ·rewrite [qn5];first | rfl | simp (maxSteps:=10000000) -implicitDefEqProofs []
 ·rfl
 ·intro;simp only [qK,qL,qJ,qB]
 ·intro v9 v10;simp (maxSteps:=10000000) -implicitDefEqProofs [qSi,qop,qW8,qrF,qYO,qx5,qHG,qro,qMl,qva,qTc,qS4,qV6,q0R,qMI,qLX,qPR,qTD,qTh,qN7,qOv,qVy,qL2,qaX,qdM]
end Go.T
