/- Minimal cells: run. -/
import Derived.Test.YthefcjjgchekiaaGreatE3
set_option linter.unusedSimpArgs false
set_option linter.unusedVariables false
namespace Go.T
open Go Go.Proofs
set_option maxHeartbeats 4000000
set_option maxRecDepth 100000
theorem q0l {α:Type} {b:Bool} {x x' y y':α} (h:x=x') (h':y=y'):cond b x y=cond b x' y':=by rw [h,h']
abbrev dA:Val qa:=qc qa
abbrev qb7:Val Y33×Bool:=(((0:Int),[]),false)
def qV (c:Val Y33):Val Y33×Bool:=bif qD c then (qm c.1 c.2,true)else qb7
def qaX:G:={ps:=[i33],rs:=[i33,i4],dp:=true,pre:=fun _=>True,fn:=fun x=>((qV x.1).1,(qV x.1).2,())}
noncomputable def qx7 (N:Nat) (v0:Val Y33):Option (qb [i33,i4]):=bif (!((qD v0):Bool))then (some (((0:Int),([]:List (Val qa))),false,()))else (chk (qaK (v0.1:Int) (v0.2:List (Val qa))) (some ((qm (v0.1:Int) (v0.2:List (Val qa))),true,())))
def qAa:Gam:=[(199,qaz),(230,qei)]
theorem q4s:Gam.get qAa 199=some qaz:=rfl
theorem q6h:Gam.get qAa 230=some qei:=rfl
def qAn:Nat→Tree:=fun _=> .done
def qL2:Nat→Nm:=fun _=>⟨[],[],false⟩
def qCv:Nat→Option Jn:=fun _=>none
def qC9:Nat→Option Nm:=fun _=>none
def qCV:Nat→Option Nm:=fun _=>none
theorem q5V:qj qAn (Tryz.f215.body.getD .skip)=true:=by kernel_rfl
def qgi (N:Nat):Tab:={tr:=qAn,lp:=qL2,ex:=qC9,rg:=qCV,jn:=qCv,fuel:=N}
theorem q2Z (N:Nat):(qgi N).pins=false:=rfl
theorem qWP (N:Nat):qn Tryz.prog (qgi N):=qr fun _=>rfl
theorem qVU (N:Nat) (i:Nat):(qgi N).tr i=qAn i:=rfl
theorem q2c (N:Nat) (i:Nat):(qgi N).lp i=qL2 i:=rfl
theorem q7N (N:Nat) (i:Nat):(qgi N).ex i=qC9 i:=rfl
theorem q9R (N:Nat) (i:Nat):(qgi N).rg i=qCV i:=rfl
theorem zcx (N:Nat) (i:Nat):(qgi N).jn i=qCv i:=rfl
theorem q3P (N:Nat):(qgi N).fuel=N:=rfl
theorem qY5 (N:Nat) (v0:Val Y33):qd tt qAa (qgi N) (Tryz.f215.body.getD .skip) (qo tt true [i33,i4] [.cell 2 33,.tmp 3]) (qt [i33] 13 (v0,()))=qx7 N v0:=by
 rw [qx7];unfold Tryz.f215
 simp (maxSteps:=10000000) -implicitDefEqProofs [qVU,qAn,q2c,qL2,q7N,qC9,q9R,qCV,zcx,qCv,q3P,q2Z,q4s,q6h,qaz,qei]
 try rfl
def qbF (d:Int):Nat→Nat→List (Val qa)→Option (List (Val qa))
 | 0,_,l=>some l
 | n+1,i,l=>if i<l.length then (bif (qas (d,l.take i++l.drop (i+1)) (l.getD i dA)).2 then (bif (qas (d,l.take i++l.drop (i+1)) (l.getD i dA)).1 then qbF d n i (l.take i++l.drop (i+1))else qbF d n (i+1) l)else none)else some l
def qcj (d:Int) (vs:List (Val qa)):Nat→Nat→List Nat→Option (List Nat)
 | 0,_,is=>some is
 | n+1,i,is=>if i<is.length then (bif (qas (d,(is.take i++is.drop (i+1)).map fun j=>vs.getD j dA) (vs.getD (is.getD i 0) dA)).2 then (bif (qas (d,(is.take i++is.drop (i+1)).map fun j=>vs.getD j dA) (vs.getD (is.getD i 0) dA)).1 then qcj d vs n i (is.take i++is.drop (i+1))else qcj d vs n (i+1) is)else none)else some is
def qLm (vs:List (Val qa)):Int:=(List.length (α:=Int) (vs.getD 0 dA).1:Int)
def qeE (vs:List (Val qa)):List Nat:=(qcj (qLm vs) vs (vs.length+1) 0 (List.range vs.length)).getD []
def q3 (x:Val Y33):Val Y33×Bool:=bif (qat x).2 then (bif (qat x).1 then (qaW x.1,true)else (match qbF x.1 (List.length (α:=Val qa) x.2+1) 0 x.2 with
 | some l=>((x.1,l),true)
 | none=>qb7))else qb7
def qzy (x:Val Y33):Prop:=qD x=true
def qam (c:Val Y33):Val Y33×Bool:=bif qD c then q3 (qm c.1 c.2)else qb7
def qw7:G:={ps:=[i33],rs:=[i33,i4],dp:=true,pre:=fun _=>True,fn:=fun x=>((qam x.1).1,(qam x.1).2,())}
noncomputable def qzV (N:Nat) (v19:Int) (v20:List (Val (hd qa))) (v21:List (Val qa)) (v22:Int) (v23:List (Val qa)) (v24:Int) (v25:Int) (v26:List (Val (hd qa))) (k9011:(List (Val (hd qa)))→Option (qb [i33,i4])) (_:Nat):Option (qb [i33,i4]):=chk (0≤(0:Int)∧(0:Int)≤v19∧v19≤(v26.length:Int)) (chk (0≤(IntKind.i64.wrap (v19+(1:Int)))∧(IntKind.i64.wrap (v19+(1:Int)))≤(v26.length:Int)∧(v26.length:Int)≤(v26.length:Int)) (chk (qwI ([((v26.take v19.toNat).drop (0:Int).toNat),((v26.take (v26.length:Int).toNat).drop (IntKind.i64.wrap (v19+(1:Int))).toNat)]:List (Val (.slice 108 (hd qa))))) (k9011 ((ql8 ([((v26.take v19.toNat).drop (0:Int).toNat),((v26.take (v26.length:Int).toNat).drop (IntKind.i64.wrap (v19+(1:Int))).toNat)]:List (Val (.slice 108 (hd qa))))):List (Val (hd qa))))))
noncomputable def qgQ (N:Nat) (v2:List (Val (hd qa))) (v3:List (Val qa)) (v4:Int) (v5:List (Val qa)) (v6:Int) (k0:Int→(List (Val (hd qa)))→Option (qb [i33,i4])):Nat→Int→Int→(List (Val (hd qa)))→Option (qb [i33,i4])
 | 0,_,_,_=>none
 | n+1,v1,v7,v8=>bif (decide (v1<(v8.length:Int)))then (qzV N v1 v2 v3 v4 v5 v6 v7 v8 (fun (v28:List (Val (hd qa)))=>chk (0≤v1∧v1<(v8.length:Int)) (chk (v1.toNat<v8.length) (chk (qM qa v3 v2=v2∧((∀y∈v28,y∈v2)∧(v8.getD v1.toNat (qc (hd qa)))∈v2)) (bif (!((qas (v4,(v28.map (lk qa v2 v3))) (lk qa v2 v3 (v8.getD v1.toNat (qc (hd qa))))).2:Bool))then (some (((0:Int),([]:List (Val qa))),false,()))else (bif ((qas (v4,(v28.map (lk qa v2 v3))) (lk qa v2 v3 (v8.getD v1.toNat (qc (hd qa))))).1:Bool)then (qgQ N v2 v3 v4 v5 v6 k0 n v1 v4 v28)else (qgQ N v2 v3 v4 v5 v6 k0 n (IntKind.i64.wrap (v1+(1:Int))) v7 v8)))))) N)else (k0 v7 v8)
noncomputable def qAA (N:Nat) (v0:Val Y33):Option (qb [i33,i4]):=bif (!((qV v0).2:Bool))then (some (((0:Int),([]:List (Val qa))),false,()))else (bif (!((qat ((((qV v0).1).1:Int),(((qV v0).1).2:List (Val qa)))).2:Bool))then (some (((0:Int),([]:List (Val qa))),false,()))else (bif ((qat ((((qV v0).1).1:Int),(((qV v0).1).2:List (Val qa)))).1:Bool)then (chk (qc8 (v0.1:Int)) (some ((((qaW (v0.1:Int)).1:Int),((qaW (v0.1:Int)).2:List (Val qa))),true,())))else (qeO (fun p1:List Nat×List (Val (hd qa))=>qdZ qa p1.2 (((qV v0).1).2:List (Val qa))) (fun p1=>qgQ N p1.2 (((qV v0).1).2:List (Val qa)) (v0.1:Int) (v0.2:List (Val qa)) (0:Int) (fun (v31:Int) (v32:List (Val (hd qa)))=>chk (v32=(qeE (((qV v0).1).2:List (Val qa))).map (fun i=>p1.2.getD i (qc (hd qa)))∧(qeE (((qV v0).1).2:List (Val qa))).Nodup∧(∀i∈(qeE (((qV v0).1).2:List (Val qa))),i<(((qV v0).1).2:List (Val qa)).length)∧qM qa (((qV v0).1).2:List (Val qa)) p1.2=p1.2∧p1.2.length=(((qV v0).1).2:List (Val qa)).length) (some ((v31,((qeE (((qV v0).1).2:List (Val qa))).map (fun i=>(((qV v0).1).2:List (Val qa)).getD i (qc qa)))),true,()))) N (0:Int) (((qV v0).1).1:Int) p1.2))))
def qcE:Gam:=[(212,qeW),(213,qbT),(215,qaX),(219,qif),(220,qil)]
theorem qoY:Gam.get qcE 212=some qeW:=rfl
theorem qom:Gam.get qcE 213=some qbT:=rfl
theorem qqQ:Gam.get qcE 215=some qaX:=rfl
theorem qtF:Gam.get qcE 219=some qif:=rfl
theorem qtj:Gam.get qcE 220=some qil:=rfl
def qvZ:Nm:=⟨[false,true,true,false,true,false,false,true],[],false⟩
theorem qrT:qvZ.zero=false:=rfl
theorem qqH:qvZ.fix=[]:=rfl
theorem qsl:qvZ.keep=[false,true,true,false,true,false,false,true]:=rfl
def qr8:Nm:=⟨[false,true,true,false,true,false,false,true],[.frb 4 1 108 qa],false⟩
theorem qqG:qr8.zero=false:=rfl
theorem qqS:qr8.fix=[.frb 4 1 108 qa]:=rfl
theorem quW:qr8.keep=[false,true,true,false,true,false,false,true]:=rfl
def qwx:Nm:=⟨[false,false,true,false,true],[],false⟩
theorem qop:qwx.zero=false:=rfl
theorem qtH:qwx.fix=[]:=rfl
theorem qpt:qwx.keep=[false,false,true,false,true]:=rfl
def qyw:Nm:=⟨[false,true,true,false,true,false,false,true,true],[],false⟩
theorem qsq:qyw.zero=false:=rfl
theorem qr7:qyw.fix=[]:=rfl
theorem qqA:qyw.keep=[false,true,true,false,true,false,false,true,true]:=rfl
def qiH:Nat→Tree:=fun i=>if i=11 then .first 4 (.first 8 (.first 9 (.keep 0 (.keep 1 (.keep 2 (.keep 3 (.keep 6 (.keep 7 (.alt 5 (.alt 10 (.alt 11 (.alt 12 (.first 13 (.alt 14 (.alt 15 .done .stop) .stop)) (.alt 14 (.alt 12 (.quiet 13 (.alt 15 .done .stop)) .stop) .stop)) (.alt 14 (.alt 11 (.alt 12 (.quiet 13 (.alt 15 .done .stop)) .stop) .stop) .stop)) (.alt 14 (.alt 10 (.alt 11 (.alt 12 (.quiet 13 (.alt 15 .done .stop)) .stop) .stop) .stop) .stop)) (.alt 10 (.alt 5 (.alt 11 (.alt 12 (.first 13 (.alt 14 (.alt 15 .done .stop) .stop)) (.alt 14 (.alt 12 (.quiet 13 (.alt 15 .done .stop)) .stop) .stop)) (.alt 14 (.alt 11 (.alt 12 (.quiet 13 (.alt 15 .done .stop)) .stop) .stop) .stop)) (.alt 14 (.alt 5 (.alt 11 (.alt 12 (.quiet 13 (.alt 15 .done .stop)) .stop) .stop) .stop) .stop)) (.alt 14 (.alt 5 (.alt 10 (.alt 11 (.alt 12 (.quiet 13 (.alt 15 .done .stop)) .stop) .stop) .stop) (.alt 10 (.alt 5 (.alt 11 (.alt 12 (.quiet 13 (.alt 15 .done .stop)) .stop) .stop) .stop) .stop)) .stop)))))))))))else if i=12 then .quiet 0 (.quiet 1 (.quiet 2 (.quiet 3 (.quiet 4 (.quiet 5 (.alt 6 (.quiet 7 (.quiet 8 (.quiet 9 (.quiet 10 (.quiet 11 .done))))) .stop))))))else .done
def qlH:Nat→Nm:=fun i=>if i=10 then qr8 else ⟨[],[],false⟩
noncomputable def qhe:Nat→Option Jn:=fun i=>if i=11 then some (.nt qvZ ttH)else if i=9 then some (.at (some (.opn 2 qa)) none)else if i=18 then some (.at (some (.cls 3 0 qa qeE)) none)else none
def qkU:Nat→Option Nm:=fun i=>if i=0 then some qwx else none
def qlB:Nat→Option Nm:=fun i=>if i=11 then some qyw else none
theorem qXj:qj qiH (Tryz.f138.body.getD .skip)=true:=by kernel_rfl
noncomputable def qbJ (N:Nat):Tab:={tr:=qiH,lp:=qlH,ex:=qkU,rg:=qlB,jn:=qhe,fuel:=N}
theorem qsp (N:Nat):(qbJ N).pins=false:=rfl
theorem q8S (N:Nat):qn Tryz.prog (qbJ N):=fun id j t h ht=>by
 have h:qhe id=_:=h
 unfold qhe at h
 repeat' split at h
 all_goals first | (simp at h;done) | (simp only [Option.some.injEq]at h;subst h;simp [Jn.tb]at ht;done) | (simp only [Option.some.injEq]at h;subst h;simp only [Jn.tb,Option.some.injEq]at ht;subst ht;exact hTH)
theorem qpL (N:Nat) (i:Nat):(qbJ N).tr i=qiH i:=rfl
theorem quz (N:Nat) (i:Nat):(qbJ N).lp i=qlH i:=rfl
theorem qr1 (N:Nat) (i:Nat):(qbJ N).ex i=qkU i:=rfl
theorem qpq (N:Nat) (i:Nat):(qbJ N).rg i=qlB i:=rfl
theorem qtV (N:Nat) (i:Nat):(qbJ N).jn i=qhe i:=rfl
theorem qtx (N:Nat):(qbJ N).fuel=N:=rfl
noncomputable def qQD:Code:=cut [true,true,true,true,true,true,false,true,true,true,true,true,false] (Tryz.f138.body.getD .skip)
theorem q7x {N:Nat} {Q:X→St→Option (qb [i33,i4])} {e:List LV} {h:List Blk}:q4 ttH qcE (qbJ N) qQD Q ⟨e,h⟩=q4 ttH qcE (qbJ N) (cut [true,true,true,true,true,true,false,true,true,true,true,true,false] (Tryz.f138.body.getD .skip)) Q ⟨e,h⟩:=rfl
theorem q2b (N:Nat) (F:List Nat) (v19:Int) (v20:List (Val (hd qa))) (v21:List (Val qa)) (v22:Int) (v23:List (Val qa)) (v24:Int) (v25:Int) (v26:List (Val (hd qa))) {k9011:(List (Val (hd qa)))→Option (qb [i33,i4])} {Q:X→St→Option (qb [i33,i4])} {c:Code} (hc:c=qQD) (h9011: ∀(v27:List (Val (hd qa))),Q .normal ⟨[u,.one (.ptr 1 0 0),.one (.ptr 2 0 0),u,.one (.ptr 3 0 0),u,u,.one (.int .i64 v19),.one (.ptr 4 0 0),u,u,u,u,u,u,u,u,u,u,u,u,u,u,u,u,u,u,u,u,u,u,u,u,u,u,u,u,u,u,u,u,u,u,u,u,u,u,u,u,u,u,u,u,u,u,u,u,u,u,u,u,u,u,u,u,u,u,u],[.nst F qa v20 v21,.box [.int .i64 v22,.sl 108 qa v23 7],.box [.int .i64 v24,.nils],.box [.int .i64 v25,.own 5],.box [.int .i64 v22,.own 6],.row 108 (hd qa) v26 true false 0,.row 108 (hd qa) v27 true true 0]⟩=k9011 v27):q4 ttH qcE (qbJ N) c Q ⟨[u,.one (.ptr 1 0 0),.one (.ptr 2 0 0),u,.one (.ptr 3 0 0),u,u,.one (.int .i64 v19),u,u,u,u,u,u,u,u,u,u,u,u,u,u,u,u,u,u,u,u,u,u,u,u,u,u,u,u,u,u,u,u,u,u,u,u,u,u,u,u,u,u,u,u,u,u,u,u,u,u,u,u,u,u,u,u,u,u,u,u],[.nst F qa v20 v21,.box [.int .i64 v22,.sl 108 qa v23 5],.box [.int .i64 v24,.nils],.box [.int .i64 v25,.own 4],.row 108 (hd qa) v26 true false 0]⟩=qzV N v19 v20 v21 v22 v23 v24 v25 v26 k9011 N:=by
 subst hc;rw [q7x,qzV];unfold Tryz.f138
 simp (maxSteps:=10000000) -implicitDefEqProofs [qab (id:=11),qaa (id:=11),qpL,qiH,quz,qlH,qr1,qkU,qpq,qlB,qtV,qhe,qtx,qsp,qUE,qab (id:=9),qaa (id:=9),qab (id:=18),qaa (id:=18),qqH,qsl,qrT,qqS,quW,qqG,qtH,qpt,qop,qr7,qqA,qsq,qoY,qom,qqQ,qtF,qtj,qeW,qbT,qaX,qif,qil,h9011]
noncomputable def qSG:Code:=cut [true,true,true,true,true,true,false,true,true,true] (Tryz.f138.body.getD .skip)
theorem qU7 {N:Nat} {Q:X→St→Option (qb [i33,i4])} {e:List LV} {h:List Blk}:qd tt qcE (qbJ N) qSG Q ⟨e,h⟩=qd tt qcE (qbJ N) (cut [true,true,true,true,true,true,false,true,true,true] (Tryz.f138.body.getD .skip)) Q ⟨e,h⟩:=rfl
theorem q1X (N:Nat) (F:List Nat) (v2:List (Val (hd qa))) (v3:List (Val qa)) (v4:Int) (v5:List (Val qa)) (v6:Int) {k0:Int→(List (Val (hd qa)))→Option (qb [i33,i4])} {Q:X→St→Option (qb [i33,i4])} {c:Code} (hc:c=qSG) (hret: ∀st,Q .ret st=qB tt true [i33,i4] [.cell 2 33,.tmp 3] st) (h0: ∀(v29:Int) (v30:List (Val (hd qa))),Q (.exit 0) ⟨[u,u,.one (.ptr 1 0 0),u,.one (.ptr 2 0 0),u,u,u,u,u,u,u,u,u,u,u,u,u,u,u,u,u,u,u,u,u,u,u,u,u,u,u,u,u,u,u,u,u,u,u,u,u,u,u,u,u,u,u,u,u,u,u,u,u,u,u,u,u,u,u,u,u,u,u,u,u,u,u],[.nst F qa v2 v3,.box [.int .i64 v6,.nils],.box [.int .i64 v29,.own 3],.row 108 (hd qa) v30 true false 0]⟩=k0 v29 v30): ∀(n:Nat) (v1:Int) (v7:Int) (v8:List (Val (hd qa))),qC (qd tt qcE (qbJ N) c) false qr8 Q n ⟨[u,.one (.ptr 1 0 0),.one (.ptr 2 0 0),u,.one (.ptr 3 0 0),u,u,.one (.int .i64 v1),u,u,u,u,u,u,u,u,u,u,u,u,u,u,u,u,u,u,u,u,u,u,u,u,u,u,u,u,u,u,u,u,u,u,u,u,u,u,u,u,u,u,u,u,u,u,u,u,u,u,u,u,u,u,u,u,u,u,u,u],[.nst F qa v2 v3,.box [.int .i64 v4,.sl 108 qa v5 5],.box [.int .i64 v6,.nils],.box [.int .i64 v7,.own 4],.row 108 (hd qa) v8 true false 0]⟩=qgQ N v2 v3 v4 v5 v6 k0 n v1 v7 v8:=by
 subst hc;intro n;induction n with
 | zero=>intros;rfl
 | succ n ih=>
   intro v1 v7 v8
   rw [qL,qU7];unfold Tryz.f138
   simp (maxSteps:=10000000) -implicitDefEqProofs [qpL,qiH,quz,qlH,qr1,qkU,qpq,qlB,qtV,qhe,qtx,qsp,qab (id:=9),qaa (id:=9),qab (id:=18),qaa (id:=18),qqH,qsl,qrT,qqS,quW,qqG,qtH,qpt,qop,qr7,qqA,qsq,qoY,qom,qqQ,qtF,qtj,qeW,qbT,qaX,qif,qil,hret,h0,ih]
   rewrite [q2b (k9011:=(fun (v28:List (Val (hd qa)))=>chk (0≤v1∧v1<(v8.length:Int)) (chk (v1.toNat<v8.length) (chk (qM qa v3 v2=v2∧((∀y∈v28,y∈v2)∧(v8.getD v1.toNat (qc (hd qa)))∈v2)) (bif (!((qas (v4,(v28.map (lk qa v2 v3))) (lk qa v2 v3 (v8.getD v1.toNat (qc (hd qa))))).2:Bool))then (some (((0:Int),([]:List (Val qa))),false,()))else (bif ((qas (v4,(v28.map (lk qa v2 v3))) (lk qa v2 v3 (v8.getD v1.toNat (qc (hd qa))))).1:Bool)then (qgQ N v2 v3 v4 v5 v6 k0 n v1 v4 v28)else (qgQ N v2 v3 v4 v5 v6 k0 n (IntKind.i64.wrap (v1+(1:Int))) v7 v8))))))) N _ _ _ _ _ _ _ _ _ ?_ ?_]
   ·rewrite [qgQ];first | rfl | simp (maxSteps:=10000000) -implicitDefEqProofs [ih]
   ·rfl
   ·intro v28;simp (maxSteps:=10000000) -implicitDefEqProofs [qpL,qiH,quz,qlH,qr1,qkU,qpq,qlB,qtV,qhe,qtx,qsp,qab (id:=9),qaa (id:=9),qab (id:=18),qaa (id:=18),qqH,qsl,qrT,qqS,quW,qqG,qtH,qpt,qop,qr7,qqA,qsq,qoY,qom,qqQ,qtF,qtj,qeW,qbT,qaX,qif,qil,hret,h0,ih]
theorem q9j (N:Nat) (v0:Val Y33):qd tt qcE (qbJ N) (Tryz.f138.body.getD .skip) (qo tt true [i33,i4] [.cell 2 33,.tmp 3]) (qt [i33] 68 (v0,()))=qAA N v0:=by
 unfold Tryz.f138
 simp (maxSteps:=10000000) -implicitDefEqProofs [qpL,qiH,quz,qlH,qr1,qkU,qpq,qlB,qtV,qhe,qtx,qsp,qab (id:=9),qaa (id:=9),qab (id:=18),qaa (id:=18),qqH,qsl,qrT,qqS,quW,qqG,qtH,qpt,qop,qr7,qqA,qsq,qoY,qom,qqQ,qtF,qtj,qeW,qbT,qaX,qif,qil]
 rewrite [qAA]
 simp only [Bool.cond_not]
 repeat' (first | with_reducible rfl | refine qTU fun _=> ?_ | refine qSc fun p1 _=> ?_ | refine q0l ?_ ?_ | (refine congrArg some ?_;rfl))
 rewrite [q1X (k0:=(fun (v31:Int) (v32:List (Val (hd qa)))=>chk (v32=(qeE (((qV v0).1).2:List (Val qa))).map (fun i=>p1.2.getD i (qc (hd qa)))∧(qeE (((qV v0).1).2:List (Val qa))).Nodup∧(∀i∈(qeE (((qV v0).1).2:List (Val qa))),i<(((qV v0).1).2:List (Val qa)).length)∧qM qa (((qV v0).1).2:List (Val qa)) p1.2=p1.2∧p1.2.length=(((qV v0).1).2:List (Val qa)).length) (some ((v31,((qeE (((qV v0).1).2:List (Val qa))).map (fun i=>(((qV v0).1).2:List (Val qa)).getD i (qc qa)))),true,())))) N _ _ _ _ _ _ ?_ ?_ ?_]
 ·first | rfl | simp (maxSteps:=10000000) -implicitDefEqProofs []
 ·rfl
 ·intro;simp only [qK,qI,qJ,qy]
 ·intro v31 v32;simp (maxSteps:=10000000) -implicitDefEqProofs [qpL,qiH,quz,qlH,qr1,qkU,qpq,qlB,qtV,qhe,qtx,qsp,qab (id:=9),qaa (id:=9),qab (id:=18),qaa (id:=18),qqH,qsl,qrT,qqS,quW,qqG,qtH,qpt,qop,qr7,qqA,qsq,qoY,qom,qqQ,qtF,qtj,qeW,qbT,qaX,qif,qil]
def cpC (c:Val Y33):Val Y33:=c
def qlh (c:Val Y33):Prop:=Bd Y33 c
def qiE:G:={ps:=[i33],rs:=[i33],dp:=true,pre:=fun x=>qlh x.1,fn:=fun x=>(cpC x.1,())}
noncomputable def qlr (N:Nat) (v2:Int) (v3:List (Val qa)) (v4:Int) (v5:Int) (k0:(List (Val qa))→Option (qb [i33])):Nat→Int→(List (Val qa))→Option (qb [i33])
 | 0,_,_=>none
 | n+1,v1,v6=>bif (decide (v1<(v3.length:Int)))then (chk (0≤v1∧v1<(v3.length:Int)) (chk (qa3 (v3.getD v1.toNat (qc qa))) (chk (v6.length+([(((idA (v3.getD v1.toNat (qc qa))).1:List (Val (.int .i64))),(((idA (v3.getD v1.toNat (qc qa))).2).1:Int),(((idA (v3.getD v1.toNat (qc qa))).2).2:Bool))]:List (Val qa)).length≤1048576) (qlr N v2 v3 v4 v5 k0 n (IntKind.i64.wrap (v1+(1:Int))) (v6++([(((idA (v3.getD v1.toNat (qc qa))).1:List (Val (.int .i64))),(((idA (v3.getD v1.toNat (qc qa))).2).1:Int),(((idA (v3.getD v1.toNat (qc qa))).2).2:Bool))]:List (Val qa)))))))else (k0 v6)
noncomputable def qAx (N:Nat) (v0:Val Y33):Option (qb [i33]):=qlr N (v0.1:Int) (v0.2:List (Val qa)) (0:Int) (v0.1:Int) (fun (v8:List (Val qa))=>some (((v0.1:Int),v8),())) N (0:Int) ([]:List (Val qa))
def qm4:Gam:=[(234,qfo)]
theorem qHI:Gam.get qm4 234=some qfo:=rfl
def qqX:Nm:=⟨[false,true,true,true,true],[.box 3 1 108 qa],false⟩
theorem qPX:qqX.zero=false:=rfl
theorem qMg:qqX.fix=[.box 3 1 108 qa]:=rfl
theorem qFu:qqX.keep=[false,true,true,true,true]:=rfl
def qzm:Nm:=⟨[false,false,true,true],[],false⟩
theorem qPF:qzm.zero=false:=rfl
theorem qKo:qzm.fix=[]:=rfl
theorem qD7:qzm.keep=[false,false,true,true]:=rfl
def qwr:Nm:=⟨[false,true,true,true,true],[],false⟩
theorem qLS:qwr.zero=false:=rfl
theorem qHA:qwr.fix=[]:=rfl
theorem qKr:qwr.keep=[false,true,true,true,true]:=rfl
def qmU:Nat→Tree:=fun i=>if i=5 then .quiet 2 (.quiet 3 (.quiet 4 (.quiet 5 (.quiet 6 (.alt 0 (.alt 1 (.alt 7 (.alt 8 (.alt 9 (.quiet 10 (.alt 11 .done .stop)) .stop) .stop) .stop) (.alt 7 (.alt 1 (.alt 8 (.alt 9 (.quiet 10 (.alt 11 .done .stop)) .stop) .stop) (.alt 8 (.quiet 1 (.alt 9 (.quiet 10 (.alt 11 .done .stop)) .stop)) .stop)) .stop)) (.alt 7 (.alt 0 (.alt 1 (.alt 8 (.alt 9 (.quiet 10 (.alt 11 .done .stop)) .stop) .stop) (.alt 8 (.quiet 1 (.alt 9 (.quiet 10 (.alt 11 .done .stop)) .stop)) .stop)) (.alt 8 (.quiet 0 (.quiet 1 (.alt 9 (.quiet 10 (.alt 11 .done .stop)) .stop))) .stop)) .stop))))))else .done
def qsS:Nat→Nm:=fun i=>if i=3 then qqX else ⟨[],[],false⟩
def qtW:Nat→Option Jn:=fun _=>none
def quQ:Nat→Option Nm:=fun i=>if i=0 then some qzm else none
def qpT:Nat→Option Nm:=fun i=>if i=5 then some qwr else none
theorem qYw:qj qmU (Tryz.f210.body.getD .skip)=true:=by kernel_rfl
def qdJ (N:Nat):Tab:={tr:=qmU,lp:=qsS,ex:=quQ,rg:=qpT,jn:=qtW,fuel:=N}
theorem qEF (N:Nat):(qdJ N).pins=false:=rfl
theorem qZV (N:Nat):qn Tryz.prog (qdJ N):=qr fun _=>rfl
theorem qIy (N:Nat) (i:Nat):(qdJ N).tr i=qmU i:=rfl
theorem qDn (N:Nat) (i:Nat):(qdJ N).lp i=qsS i:=rfl
theorem qJ1 (N:Nat) (i:Nat):(qdJ N).ex i=quQ i:=rfl
theorem qKy (N:Nat) (i:Nat):(qdJ N).rg i=qpT i:=rfl
theorem qNi (N:Nat) (i:Nat):(qdJ N).jn i=qtW i:=rfl
theorem qJF (N:Nat):(qdJ N).fuel=N:=rfl
noncomputable def qTX:Code:=cut [true,true,false,true,true,true] (Tryz.f210.body.getD .skip)
theorem q6y {N:Nat} {Q:X→St→Option (qb [i33])} {e:List LV} {h:List Blk}:qd tt qm4 (qdJ N) qTX Q ⟨e,h⟩=qd tt qm4 (qdJ N) (cut [true,true,false,true,true,true] (Tryz.f210.body.getD .skip)) Q ⟨e,h⟩:=rfl
theorem q3h (N:Nat) (v2:Int) (v3:List (Val qa)) (v4:Int) (v5:Int) {k0:(List (Val qa))→Option (qb [i33])} {Q:X→St→Option (qb [i33])} {c:Code} (hc:c=qTX) (hret: ∀st,Q .ret st=qB tt true [i33] [.cell 2 33] st) (h0: ∀(v7:List (Val qa)),Q (.exit 0) ⟨[u,u,.one (.ptr 0 0 0),.one (.ptr 1 0 0),u,u,u,u,u,u,u,u,u,u,u,u,u,u,u,u,u,u,u,u,u,u,u],[.box [.int .i64 v4,.nils],.box [.int .i64 v5,.own 2],.row 108 qa v7 true true 0]⟩=k0 v7): ∀(n:Nat) (v1:Int) (v6:List (Val qa)),qC (qd tt qm4 (qdJ N) c) false qqX Q n ⟨[u,.one (.ptr 0 0 0),.one (.ptr 1 0 0),.one (.ptr 2 0 0),.one (.int .i64 v1),u,u,u,u,u,u,u,u,u,u,u,u,u,u,u,u,u,u,u,u,u,u],[.box [.int .i64 v2,.sl 108 qa v3 4],.box [.int .i64 v4,.nils],.box [.int .i64 v5,.own 3],.row 108 qa v6 true true 0]⟩=qlr N v2 v3 v4 v5 k0 n v1 v6:=by
 subst hc;intro n;induction n with
 | zero=>intros;rfl
 | succ n ih=>
   intro v1 v6
   rw [qL,q6y,qlr];unfold Tryz.f210
   simp (maxSteps:=10000000) -implicitDefEqProofs [qIy,qmU,qDn,qsS,qJ1,quQ,qKy,qpT,qNi,qtW,qJF,qEF,qMg,qFu,qPX,qKo,qD7,qPF,qHA,qKr,qLS,qHI,qfo,hret,h0,ih]
theorem q1v (N:Nat) (v0:Val Y33):qd tt qm4 (qdJ N) (Tryz.f210.body.getD .skip) (qo tt true [i33] [.cell 2 33]) (qt [i33] 27 (v0,()))=qAx N v0:=by
 unfold Tryz.f210
 simp (maxSteps:=10000000) -implicitDefEqProofs [qIy,qmU,qDn,qsS,qJ1,quQ,qKy,qpT,qNi,qtW,qJF,qEF,qMg,qFu,qPX,qKo,qD7,qPF,qHA,qKr,qLS,qHI,qfo]
 rewrite [q3h (k0:=(fun (v8:List (Val qa))=>some (((v0.1:Int),v8),()))) N _ _ _ _ ?_ ?_ ?_]
 ·rewrite [qAx];first | rfl | simp (maxSteps:=10000000) -implicitDefEqProofs []
 ·rfl
 ·intro;simp only [qK,qI,qJ,qy]
 ·intro v8;simp (maxSteps:=10000000) -implicitDefEqProofs [qIy,qmU,qDn,qsS,qJ1,quQ,qKy,qpT,qNi,qtW,qJF,qEF,qMg,qFu,qPX,qKo,qD7,qPF,qHA,qKr,qLS,qHI,qfo]
def qyN:G:={ps:=[i33],rs:=[i33,i4],dp:=true,pre:=fun x=>qzy x.1,fn:=fun x=>((q3 x.1).1,(q3 x.1).2,())}
noncomputable def qx2 (N:Nat) (v15:Int) (v16:Int) (v17:List (Val qa)) (v18:Int) (v19:Int) (v20:List (Val qa)) (k9009:(List (Val qa))→Option (qb [i33,i4])) (_:Nat):Option (qb [i33,i4]):=chk (0≤(0:Int)∧(0:Int)≤v15∧v15≤(v20.length:Int)) (chk (([]:List (Val qa)).length+((v20.take v15.toNat).drop (0:Int).toNat).length≤1048576) (chk (0≤(IntKind.i64.wrap (v15+(1:Int)))∧(IntKind.i64.wrap (v15+(1:Int)))≤(v20.length:Int)∧(v20.length:Int)≤(v20.length:Int)) (chk ((([]:List (Val qa))++((v20.take v15.toNat).drop (0:Int).toNat)).length+((v20.take (v20.length:Int).toNat).drop (IntKind.i64.wrap (v15+(1:Int))).toNat).length≤1048576) (k9009 ((([]:List (Val qa))++((v20.take v15.toNat).drop (0:Int).toNat))++((v20.take (v20.length:Int).toNat).drop (IntKind.i64.wrap (v15+(1:Int))).toNat))))))
noncomputable def qgU (N:Nat) (v2:Int) (v3:List (Val qa)) (v4:Int) (k0:Int→(List (Val qa))→Option (qb [i33,i4])):Nat→Int→Int→(List (Val qa))→Option (qb [i33,i4])
 | 0,_,_,_=>none
 | n+1,v1,v5,v6=>bif (decide (v1<(v6.length:Int)))then (qx2 N v1 v2 v3 v4 v5 v6 (fun (v22:List (Val qa))=>chk (0≤v1∧v1<(v6.length:Int)) (chk (v1.toNat<v6.length) (chk (qqI (v2,v22) (v6.getD v1.toNat (qc qa))) (bif (!((qas (v2,v22) (v6.getD v1.toNat (qc qa))).2:Bool))then (some (((0:Int),([]:List (Val qa))),false,()))else (bif ((qas (v2,v22) (v6.getD v1.toNat (qc qa))).1:Bool)then (chk (qlh (v2,v22)) (qgU N v2 v3 v4 k0 n v1 ((cpC (v2,v22)).1:Int) ((cpC (v2,v22)).2:List (Val qa))))else (qgU N v2 v3 v4 k0 n (IntKind.i64.wrap (v1+(1:Int))) v5 v6)))))) N)else (k0 v5 v6)
noncomputable def qxg (N:Nat) (v0:Val Y33):Option (qb [i33,i4]):=chk (qrw v0) (bif (!((qat v0).2:Bool))then (some (((0:Int),([]:List (Val qa))),false,()))else (bif ((qat v0).1:Bool)then (chk (qc8 (v0.1:Int)) (some ((((qaW (v0.1:Int)).1:Int),((qaW (v0.1:Int)).2:List (Val qa))),true,())))else (chk (qlh v0) (qgU N (v0.1:Int) (v0.2:List (Val qa)) (0:Int) (fun (v25:Int) (v26:List (Val qa))=>some ((v25,v26),true,())) N (0:Int) ((cpC v0).1:Int) ((cpC v0).2:List (Val qa))))))
def qen:Gam:=[(208,qfy),(209,qec),(210,qiE),(283,qiz)]
theorem qrB:Gam.get qen 208=some qfy:=rfl
theorem qsK:Gam.get qen 209=some qec:=rfl
theorem qri:Gam.get qen 210=some qiE:=rfl
theorem qoU:Gam.get qen 283=some qiz:=rfl
def qv7:Nm:=⟨[false,true,true,false,false,false,true,true],[],false⟩
theorem qrh:qv7.zero=false:=rfl
theorem qpY:qv7.fix=[]:=rfl
theorem qpd:qv7.keep=[false,true,true,false,false,false,true,true]:=rfl
def qoe:Nm:=⟨[false,true,true,false,false,false,true,true],[.frb 6 1 108 qa],false⟩
theorem qrI:qoe.zero=false:=rfl
theorem qte:qoe.fix=[.frb 6 1 108 qa]:=rfl
theorem qq0:qoe.keep=[false,true,true,false,false,false,true,true]:=rfl
def qAl:Nm:=⟨[false,false,true,false,false,false,true],[],false⟩
theorem qrr:qAl.zero=false:=rfl
theorem qsV:qAl.fix=[]:=rfl
theorem qqU:qAl.keep=[false,false,true,false,false,false,true]:=rfl
def qAV:Nm:=⟨[false,true,true,false,false,false,true,true,true],[],false⟩
theorem qrO:qAV.zero=false:=rfl
theorem qtq:qAV.fix=[]:=rfl
theorem qqE:qAV.keep=[false,true,true,false,false,false,true,true,true]:=rfl
def qih:Nat→Tree:=fun i=>if i=9 then .first 5 (.first 10 (.first 11 (.keep 0 (.keep 1 (.keep 3 (.keep 4 (.keep 8 (.keep 9 (.alt 2 (.alt 6 (.alt 7 (.alt 12 (.alt 13 (.first 14 (.alt 15 (.alt 16 .done .stop) .stop)) (.alt 15 (.alt 13 (.quiet 14 (.alt 16 .done .stop)) .stop) .stop)) (.alt 15 (.alt 12 (.alt 13 (.quiet 14 (.alt 16 .done .stop)) .stop) .stop) .stop)) (.alt 12 (.alt 7 (.alt 13 (.first 14 (.alt 15 (.alt 16 .done .stop) .stop)) (.alt 15 (.alt 13 (.quiet 14 (.alt 16 .done .stop)) .stop) .stop)) (.alt 15 (.alt 7 (.alt 13 (.quiet 14 (.alt 16 .done .stop)) .stop) .stop) .stop)) (.alt 15 (.alt 7 (.alt 12 (.alt 13 (.quiet 14 (.alt 16 .done .stop)) .stop) .stop) (.alt 12 (.alt 7 (.alt 13 (.quiet 14 (.alt 16 .done .stop)) .stop) .stop) .stop)) .stop))) (.alt 12 (.alt 6 (.alt 7 (.alt 13 (.first 14 (.alt 15 (.alt 16 .done .stop) .stop)) (.alt 15 (.alt 13 (.quiet 14 (.alt 16 .done .stop)) .stop) .stop)) (.alt 15 (.alt 7 (.alt 13 (.quiet 14 (.alt 16 .done .stop)) .stop) .stop) .stop)) (.alt 15 (.alt 6 (.alt 7 (.alt 13 (.quiet 14 (.alt 16 .done .stop)) .stop) .stop) .stop) .stop)) (.alt 15 (.alt 6 (.alt 7 (.alt 12 (.alt 13 (.quiet 14 (.alt 16 .done .stop)) .stop) .stop) (.alt 12 (.alt 7 (.alt 13 (.quiet 14 (.alt 16 .done .stop)) .stop) .stop) .stop)) (.alt 12 (.alt 6 (.alt 7 (.alt 13 (.quiet 14 (.alt 16 .done .stop)) .stop) .stop) .stop) .stop)) .stop))) (.alt 6 (.alt 2 (.alt 7 (.alt 12 (.alt 13 (.first 14 (.alt 15 (.alt 16 .done .stop) .stop)) (.alt 15 (.alt 13 (.quiet 14 (.alt 16 .done .stop)) .stop) .stop)) (.alt 15 (.alt 12 (.alt 13 (.quiet 14 (.alt 16 .done .stop)) .stop) .stop) .stop)) (.alt 12 (.alt 7 (.alt 13 (.first 14 (.alt 15 (.alt 16 .done .stop) .stop)) (.alt 15 (.alt 13 (.quiet 14 (.alt 16 .done .stop)) .stop) .stop)) (.alt 15 (.alt 7 (.alt 13 (.quiet 14 (.alt 16 .done .stop)) .stop) .stop) .stop)) (.alt 15 (.alt 7 (.alt 12 (.alt 13 (.quiet 14 (.alt 16 .done .stop)) .stop) .stop) (.alt 12 (.alt 7 (.alt 13 (.quiet 14 (.alt 16 .done .stop)) .stop) .stop) .stop)) .stop))) (.alt 12 (.alt 2 (.alt 7 (.alt 13 (.first 14 (.alt 15 (.alt 16 .done .stop) .stop)) (.alt 15 (.alt 13 (.quiet 14 (.alt 16 .done .stop)) .stop) .stop)) (.alt 15 (.alt 7 (.alt 13 (.quiet 14 (.alt 16 .done .stop)) .stop) .stop) .stop)) (.alt 15 (.alt 2 (.alt 7 (.alt 13 (.quiet 14 (.alt 16 .done .stop)) .stop) .stop) .stop) .stop)) (.alt 15 (.alt 2 (.alt 7 (.alt 12 (.alt 13 (.quiet 14 (.alt 16 .done .stop)) .stop) .stop) (.alt 12 (.alt 7 (.alt 13 (.quiet 14 (.alt 16 .done .stop)) .stop) .stop) .stop)) (.alt 12 (.alt 2 (.alt 7 (.alt 13 (.quiet 14 (.alt 16 .done .stop)) .stop) .stop) .stop) .stop)) .stop))) (.alt 12 (.alt 2 (.alt 6 (.alt 7 (.alt 13 (.first 14 (.alt 15 (.alt 16 .done .stop) .stop)) (.alt 15 (.alt 13 (.quiet 14 (.alt 16 .done .stop)) .stop) .stop)) (.alt 15 (.alt 7 (.alt 13 (.quiet 14 (.alt 16 .done .stop)) .stop) .stop) .stop)) (.alt 15 (.alt 6 (.alt 7 (.alt 13 (.quiet 14 (.alt 16 .done .stop)) .stop) .stop) .stop) .stop)) (.alt 6 (.alt 2 (.alt 7 (.alt 13 (.first 14 (.alt 15 (.alt 16 .done .stop) .stop)) (.alt 15 (.alt 13 (.quiet 14 (.alt 16 .done .stop)) .stop) .stop)) (.alt 15 (.alt 7 (.alt 13 (.quiet 14 (.alt 16 .done .stop)) .stop) .stop) .stop)) (.alt 15 (.alt 2 (.alt 7 (.alt 13 (.quiet 14 (.alt 16 .done .stop)) .stop) .stop) .stop) .stop)) (.alt 15 (.alt 2 (.alt 6 (.alt 7 (.alt 13 (.quiet 14 (.alt 16 .done .stop)) .stop) .stop) .stop) (.alt 6 (.alt 2 (.alt 7 (.alt 13 (.quiet 14 (.alt 16 .done .stop)) .stop) .stop) .stop) .stop)) .stop))) (.alt 15 (.alt 2 (.alt 6 (.alt 7 (.alt 12 (.alt 13 (.quiet 14 (.alt 16 .done .stop)) .stop) .stop) (.alt 12 (.alt 7 (.alt 13 (.quiet 14 (.alt 16 .done .stop)) .stop) .stop) .stop)) (.alt 12 (.alt 6 (.alt 7 (.alt 13 (.quiet 14 (.alt 16 .done .stop)) .stop) .stop) .stop) .stop)) (.alt 6 (.alt 2 (.alt 7 (.alt 12 (.alt 13 (.quiet 14 (.alt 16 .done .stop)) .stop) .stop) (.alt 12 (.alt 7 (.alt 13 (.quiet 14 (.alt 16 .done .stop)) .stop) .stop) .stop)) (.alt 12 (.alt 2 (.alt 7 (.alt 13 (.quiet 14 (.alt 16 .done .stop)) .stop) .stop) .stop) .stop)) (.alt 12 (.alt 2 (.alt 6 (.alt 7 (.alt 13 (.quiet 14 (.alt 16 .done .stop)) .stop) .stop) .stop) (.alt 6 (.alt 2 (.alt 7 (.alt 13 (.quiet 14 (.alt 16 .done .stop)) .stop) .stop) .stop) .stop)) .stop))) .stop))))))))))))else if i=10 then .quiet 0 (.quiet 1 (.quiet 2 (.quiet 3 (.quiet 4 (.quiet 5 (.alt 6 (.quiet 7 (.quiet 8 (.quiet 9 (.quiet 10 (.quiet 11 .done))))) .stop))))))else .done
def qly:Nat→Nm:=fun i=>if i=8 then qoe else ⟨[],[],false⟩
def qhL:Nat→Option Jn:=fun i=>if i=9 then some (.nm qv7)else none
def qk6:Nat→Option Nm:=fun i=>if i=0 then some qAl else none
def qkT:Nat→Option Nm:=fun i=>if i=9 then some qAV else none
theorem q4T:qj qih (Tryz.f217.body.getD .skip)=true:=by kernel_rfl
def qbL (N:Nat):Tab:={tr:=qih,lp:=qly,ex:=qk6,rg:=qkT,jn:=qhL,fuel:=N}
theorem qrM (N:Nat):(qbL N).pins=false:=rfl
theorem q5B (N:Nat):qn Tryz.prog (qbL N):=fun id j t h ht=>by
 have h:qhL id=_:=h
 unfold qhL at h
 repeat' split at h
 all_goals first | (simp at h;done) | (simp only [Option.some.injEq]at h;subst h;simp [Jn.tb]at ht;done) | (simp only [Option.some.injEq]at h;subst h;simp only [Jn.tb,Option.some.injEq]at ht;subst ht;exact hTH)
theorem qsA (N:Nat) (i:Nat):(qbL N).tr i=qih i:=rfl
theorem qoV (N:Nat) (i:Nat):(qbL N).lp i=qly i:=rfl
theorem qpW (N:Nat) (i:Nat):(qbL N).ex i=qk6 i:=rfl
theorem quD (N:Nat) (i:Nat):(qbL N).rg i=qkT i:=rfl
theorem quv (N:Nat) (i:Nat):(qbL N).jn i=qhL i:=rfl
theorem qs4 (N:Nat):(qbL N).fuel=N:=rfl
noncomputable def qRr:Code:=cut [true,true,true,true,true,false,true,true,true,true,true,false] (Tryz.f217.body.getD .skip)
theorem qZ2 {N:Nat} {Q:X→St→Option (qb [i33,i4])} {e:List LV} {h:List Blk}:q4 tt qen (qbL N) qRr Q ⟨e,h⟩=q4 tt qen (qbL N) (cut [true,true,true,true,true,false,true,true,true,true,true,false] (Tryz.f217.body.getD .skip)) Q ⟨e,h⟩:=rfl
theorem q4L (N:Nat) (v15:Int) (v16:Int) (v17:List (Val qa)) (v18:Int) (v19:Int) (v20:List (Val qa)) {k9009:(List (Val qa))→Option (qb [i33,i4])} {Q:X→St→Option (qb [i33,i4])} {c:Code} (hc:c=qRr) (h9009: ∀(v21:List (Val qa)),Q .normal ⟨[u,.one (.ptr 0 0 0),.one (.ptr 1 0 0),u,u,u,.one (.ptr 2 0 0),.one (.int .i64 v15),.one (.ptr 3 0 0),u,u,u,u,u,u,u,u,u,u,u,u,u,u,u,u,u,u,u,u,u,u,u,u,u,u,u,u,u,u,u,u,u,u,u,u,u,u,u,u,u,u,u,u,u,u,u,u,u,u,u,u,u,u,u],[.box [.int .i64 v16,.sl 108 qa v17 6],.box [.int .i64 v18,.nils],.box [.int .i64 v19,.own 4],.box [.int .i64 v16,.own 5],.row 108 qa v20 true false 0,.row 108 qa v21 false true 6]⟩=k9009 v21):q4 tt qen (qbL N) c Q ⟨[u,.one (.ptr 0 0 0),.one (.ptr 1 0 0),u,u,u,.one (.ptr 2 0 0),.one (.int .i64 v15),u,u,u,u,u,u,u,u,u,u,u,u,u,u,u,u,u,u,u,u,u,u,u,u,u,u,u,u,u,u,u,u,u,u,u,u,u,u,u,u,u,u,u,u,u,u,u,u,u,u,u,u,u,u,u,u],[.box [.int .i64 v16,.sl 108 qa v17 4],.box [.int .i64 v18,.nils],.box [.int .i64 v19,.own 3],.row 108 qa v20 true false 0]⟩=qx2 N v15 v16 v17 v18 v19 v20 k9009 N:=by
 subst hc;rw [qZ2,qx2];unfold Tryz.f217
 simp (maxSteps:=10000000) -implicitDefEqProofs [qab (id:=9),qaa (id:=9),qsA,qih,qoV,qly,qpW,qk6,quD,qkT,quv,qhL,qs4,qrM,qUE,qpY,qpd,qrh,qte,qq0,qrI,qsV,qqU,qrr,qtq,qqE,qrO,qrB,qsK,qri,qoU,qfy,qec,qiE,qiz,h9009]
noncomputable def qQm:Code:=cut [true,true,true,true,true,false,true,true,true] (Tryz.f217.body.getD .skip)
theorem q7W {N:Nat} {Q:X→St→Option (qb [i33,i4])} {e:List LV} {h:List Blk}:qd tt qen (qbL N) qQm Q ⟨e,h⟩=qd tt qen (qbL N) (cut [true,true,true,true,true,false,true,true,true] (Tryz.f217.body.getD .skip)) Q ⟨e,h⟩:=rfl
theorem q14 (N:Nat) (v2:Int) (v3:List (Val qa)) (v4:Int) {k0:Int→(List (Val qa))→Option (qb [i33,i4])} {Q:X→St→Option (qb [i33,i4])} {c:Code} (hc:c=qQm) (hret: ∀st,Q .ret st=qB tt true [i33,i4] [.cell 2 33,.tmp 3] st) (h0: ∀(v23:Int) (v24:List (Val qa)),Q (.exit 0) ⟨[u,u,.one (.ptr 0 0 0),u,u,u,.one (.ptr 1 0 0),u,u,u,u,u,u,u,u,u,u,u,u,u,u,u,u,u,u,u,u,u,u,u,u,u,u,u,u,u,u,u,u,u,u,u,u,u,u,u,u,u,u,u,u,u,u,u,u,u,u,u,u,u,u,u,u,u],[.box [.int .i64 v4,.nils],.box [.int .i64 v23,.own 2],.row 108 qa v24 true false 0]⟩=k0 v23 v24): ∀(n:Nat) (v1:Int) (v5:Int) (v6:List (Val qa)),qC (qd tt qen (qbL N) c) false qoe Q n ⟨[u,.one (.ptr 0 0 0),.one (.ptr 1 0 0),u,u,u,.one (.ptr 2 0 0),.one (.int .i64 v1),u,u,u,u,u,u,u,u,u,u,u,u,u,u,u,u,u,u,u,u,u,u,u,u,u,u,u,u,u,u,u,u,u,u,u,u,u,u,u,u,u,u,u,u,u,u,u,u,u,u,u,u,u,u,u,u],[.box [.int .i64 v2,.sl 108 qa v3 4],.box [.int .i64 v4,.nils],.box [.int .i64 v5,.own 3],.row 108 qa v6 true false 0]⟩=qgU N v2 v3 v4 k0 n v1 v5 v6:=by
 subst hc;intro n;induction n with
 | zero=>intros;rfl
 | succ n ih=>
   intro v1 v5 v6
   rw [qL,q7W];unfold Tryz.f217
   simp (maxSteps:=10000000) -implicitDefEqProofs [qsA,qih,qoV,qly,qpW,qk6,quD,qkT,quv,qhL,qs4,qrM,qpY,qpd,qrh,qte,qq0,qrI,qsV,qqU,qrr,qtq,qqE,qrO,qrB,qsK,qri,qoU,qfy,qec,qiE,qiz,hret,h0,ih]
   rewrite [q4L (k9009:=(fun (v22:List (Val qa))=>chk (0≤v1∧v1<(v6.length:Int)) (chk (v1.toNat<v6.length) (chk (qqI (v2,v22) (v6.getD v1.toNat (qc qa))) (bif (!((qas (v2,v22) (v6.getD v1.toNat (qc qa))).2:Bool))then (some (((0:Int),([]:List (Val qa))),false,()))else (bif ((qas (v2,v22) (v6.getD v1.toNat (qc qa))).1:Bool)then (chk (qlh (v2,v22)) (qgU N v2 v3 v4 k0 n v1 ((cpC (v2,v22)).1:Int) ((cpC (v2,v22)).2:List (Val qa))))else (qgU N v2 v3 v4 k0 n (IntKind.i64.wrap (v1+(1:Int))) v5 v6))))))) N _ _ _ _ _ _ ?_ ?_]
   ·rewrite [qgU];first | rfl | simp (maxSteps:=10000000) -implicitDefEqProofs [ih]
   ·rfl
   ·intro v22;simp (maxSteps:=10000000) -implicitDefEqProofs [qsA,qih,qoV,qly,qpW,qk6,quD,qkT,quv,qhL,qs4,qrM,qpY,qpd,qrh,qte,qq0,qrI,qsV,qqU,qrr,qtq,qqE,qrO,qrB,qsK,qri,qoU,qfy,qec,qiE,qiz,hret,h0,ih]
theorem q4c (N:Nat) (v0:Val Y33):qd tt qen (qbL N) (Tryz.f217.body.getD .skip) (qo tt true [i33,i4] [.cell 2 33,.tmp 3]) (qt [i33] 64 (v0,()))=qxg N v0:=by
 unfold Tryz.f217
 simp (maxSteps:=10000000) -implicitDefEqProofs [qsA,qih,qoV,qly,qpW,qk6,quD,qkT,quv,qhL,qs4,qrM,qpY,qpd,qrh,qte,qq0,qrI,qsV,qqU,qrr,qtq,qqE,qrO,qrB,qsK,qri,qoU,qfy,qec,qiE,qiz]
 rewrite [q14 (k0:=(fun (v25:Int) (v26:List (Val qa))=>some ((v25,v26),true,()))) N _ _ _ ?_ ?_ ?_]
 ·rewrite [qxg];first | rfl | simp (maxSteps:=10000000) -implicitDefEqProofs []
 ·rfl
 ·intro;simp only [qK,qI,qJ,qy]
 ·intro v25 v26;simp (maxSteps:=10000000) -implicitDefEqProofs [qsA,qih,qoV,qly,qpW,qk6,quD,qkT,quv,qhL,qs4,qrM,qpY,qpd,qrh,qte,qq0,qrI,qsV,qqU,qrr,qtq,qqE,qrO,qrB,qsK,qri,qoU,qfy,qec,qiE,qiz]
end Go.T
