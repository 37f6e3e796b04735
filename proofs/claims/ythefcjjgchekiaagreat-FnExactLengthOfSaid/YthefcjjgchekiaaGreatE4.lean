/- Minimal cells: run. -/
import Derived.Test.YthefcjjgchekiaaGreatE3
set_option linter.unusedSimpArgs false
set_option linter.unusedVariables false
namespace Go.T
open Go Go.Proofs
set_option maxHeartbeats 4000000
set_option maxRecDepth 100000
theorem zms {α:Type} {b:Bool} {x x' y y':α} (h:x=x') (h':y=y'):cond b x y=cond b x' y':=by rw [h,h']
abbrev dA:Val qa:=qb qa
abbrev qe9:Val Y33×Bool:=(((0:Int),[]),false)
def qas (c:Val Y33):Val Y33×Bool:=bif qz c then (qv c.1 c.2,true)else qe9
def qdf:G:={ps:=[i33],rs:=[i33,i4],dp:=true,pre:=fun _=>True,fn:=fun x=>((qas x.1).1,(qas x.1).2,())}
noncomputable def qFk (N:Nat) (v0:Val Y33):Option (qc [i33,i4]):=bif (!((qz v0):Bool))then (some (((0:Int),([]:List (Val qa))),false,()))else (chk (qaF (v0.1:Int) (v0.2:List (Val qa))) (some ((qv (v0.1:Int) (v0.2:List (Val qa))),true,())))
def qzi:Gam:=[(199,qaB),(230,qbz)]
theorem zps:Gam.get qzi 199=some qaB:=rfl
theorem zm7:Gam.get qzi 230=some qbz:=rfl
def qAH:Nat→Tree:=fun _=> .done
def q4K:Nat→Nm:=fun _=>⟨[],[],false⟩
def qRd:Nat→Option Jn:=fun _=>none
def qYo:Nat→Option Nm:=fun _=>none
def qQR:Nat→Option Nm:=fun _=>none
theorem zzp:qh qAH (Tryz.f215.body.getD .skip)=true:=by kernel_rfl
def qf4 (N:Nat):Tab:={tr:=qAH,lp:=q4K,ex:=qYo,rg:=qQR,jn:=qRd,fuel:=N}
theorem zuv (N:Nat):(qf4 N).pins=false:=rfl
theorem zg8 (N:Nat):qk Tryz.prog (qf4 N):=qo fun _=>rfl
theorem zvm (N:Nat) (i:Nat):(qf4 N).tr i=qAH i:=rfl
theorem zAI (N:Nat) (i:Nat):(qf4 N).lp i=q4K i:=rfl
theorem zd7 (N:Nat) (i:Nat):(qf4 N).ex i=qYo i:=rfl
theorem zeR (N:Nat) (i:Nat):(qf4 N).rg i=qQR i:=rfl
theorem ziH (N:Nat) (i:Nat):(qf4 N).jn i=qRd i:=rfl
theorem znR (N:Nat):(qf4 N).fuel=N:=rfl
theorem znu (N:Nat) (v0:Val Y33):qf tt qzi (qf4 N) (Tryz.f215.body.getD .skip) (qm tt true [i33,i4] [.cell 2 33,.tmp 3]) (qp [i33] 13 (v0,()))=qFk N v0:=by
 rw [qFk];unfold Tryz.f215
 simp (maxSteps:=10000000) -implicitDefEqProofs [zvm,qAH,zAI,q4K,zd7,qYo,zeR,qQR,ziH,qRd,znR,zuv,zps,zm7,qaB,qbz]
 try rfl
def qcn (d:Int):Nat→Nat→List (Val qa)→Option (List (Val qa))
 | 0,_,l=>some l
 | n+1,i,l=>if i<l.length then (bif (qa3 (d,l.take i++l.drop (i+1)) (l.getD i dA)).2 then (bif (qa3 (d,l.take i++l.drop (i+1)) (l.getD i dA)).1 then qcn d n i (l.take i++l.drop (i+1))else qcn d n (i+1) l)else none)else some l
def qcR (d:Int) (vs:List (Val qa)):Nat→Nat→List Nat→Option (List Nat)
 | 0,_,is=>some is
 | n+1,i,is=>if i<is.length then (bif (qa3 (d,(is.take i++is.drop (i+1)).map fun j=>vs.getD j dA) (vs.getD (is.getD i 0) dA)).2 then (bif (qa3 (d,(is.take i++is.drop (i+1)).map fun j=>vs.getD j dA) (vs.getD (is.getD i 0) dA)).1 then qcR d vs n i (is.take i++is.drop (i+1))else qcR d vs n (i+1) is)else none)else some is
def qYQ (vs:List (Val qa)):Int:=(List.length (α:=Int) (vs.getD 0 dA).1:Int)
def qeT (vs:List (Val qa)):List Nat:=(qcR (qYQ vs) vs (vs.length+1) 0 (List.range vs.length)).getD []
def qaj (x:Val Y33):Val Y33×Bool:=bif (qar x).2 then (bif (qar x).1 then (qa8 x.1,true)else (match qcn x.1 (List.length (α:=Val qa) x.2+1) 0 x.2 with
 | some l=>((x.1,l),true)
 | none=>qe9))else qe9
def qne (x:Val Y33):Prop:=qz x=true
def qU (c:Val Y33):Val Y33×Bool:=bif qz c then qaj (qv c.1 c.2)else qe9
def qg7:G:={ps:=[i33],rs:=[i33,i4],dp:=true,pre:=fun _=>True,fn:=fun x=>((qU x.1).1,(qU x.1).2,())}
noncomputable def qA5 (N:Nat) (v19:Int) (v20:List (Val (hd qa))) (v21:List (Val qa)) (v22:Int) (v23:List (Val qa)) (v24:Int) (v25:Int) (v26:List (Val (hd qa))) (k9011:(List (Val (hd qa)))→Option (qc [i33,i4])) (_:Nat):Option (qc [i33,i4]):=chk (0≤(0:Int)∧(0:Int)≤v19∧v19≤(v26.length:Int)) (chk (0≤(IntKind.i64.wrap (v19+(1:Int)))∧(IntKind.i64.wrap (v19+(1:Int)))≤(v26.length:Int)∧(v26.length:Int)≤(v26.length:Int)) (chk (qE8 ([((v26.take v19.toNat).drop (0:Int).toNat),((v26.take (v26.length:Int).toNat).drop (IntKind.i64.wrap (v19+(1:Int))).toNat)]:List (Val (.slice 108 (hd qa))))) (k9011 ((qm5 ([((v26.take v19.toNat).drop (0:Int).toNat),((v26.take (v26.length:Int).toNat).drop (IntKind.i64.wrap (v19+(1:Int))).toNat)]:List (Val (.slice 108 (hd qa))))):List (Val (hd qa))))))
noncomputable def qhj (N:Nat) (v2:List (Val (hd qa))) (v3:List (Val qa)) (v4:Int) (v5:List (Val qa)) (v6:Int) (k0:Int→(List (Val (hd qa)))→Option (qc [i33,i4])):Nat→Int→Int→(List (Val (hd qa)))→Option (qc [i33,i4])
 | 0,_,_,_=>none
 | n+1,v1,v7,v8=>bif (decide (v1<(v8.length:Int)))then (qA5 N v1 v2 v3 v4 v5 v6 v7 v8 (fun (v28:List (Val (hd qa)))=>chk (0≤v1∧v1<(v8.length:Int)) (chk (v1.toNat<v8.length) (chk (q4 qa v3 v2=v2∧((∀y∈v28,y∈v2)∧(v8.getD v1.toNat (qb (hd qa)))∈v2)) (bif (!((qa3 (v4,(v28.map (lk qa v2 v3))) (lk qa v2 v3 (v8.getD v1.toNat (qb (hd qa))))).2:Bool))then (some (((0:Int),([]:List (Val qa))),false,()))else (bif ((qa3 (v4,(v28.map (lk qa v2 v3))) (lk qa v2 v3 (v8.getD v1.toNat (qb (hd qa))))).1:Bool)then (qhj N v2 v3 v4 v5 v6 k0 n v1 v4 v28)else (qhj N v2 v3 v4 v5 v6 k0 n (IntKind.i64.wrap (v1+(1:Int))) v7 v8)))))) N)else (k0 v7 v8)
noncomputable def qGk (N:Nat) (v0:Val Y33):Option (qc [i33,i4]):=bif (!((qas v0).2:Bool))then (some (((0:Int),([]:List (Val qa))),false,()))else (bif (!((qar ((((qas v0).1).1:Int),(((qas v0).1).2:List (Val qa)))).2:Bool))then (some (((0:Int),([]:List (Val qa))),false,()))else (bif ((qar ((((qas v0).1).1:Int),(((qas v0).1).2:List (Val qa)))).1:Bool)then (chk (qcy (v0.1:Int)) (some ((((qa8 (v0.1:Int)).1:Int),((qa8 (v0.1:Int)).2:List (Val qa))),true,())))else (qeH (fun p1:List Nat×List (Val (hd qa))=>qdR qa p1.2 (((qas v0).1).2:List (Val qa))) (fun p1=>qhj N p1.2 (((qas v0).1).2:List (Val qa)) (v0.1:Int) (v0.2:List (Val qa)) (0:Int) (fun (v31:Int) (v32:List (Val (hd qa)))=>chk (v32=(qeT (((qas v0).1).2:List (Val qa))).map (fun i=>p1.2.getD i (qb (hd qa)))∧(qeT (((qas v0).1).2:List (Val qa))).Nodup∧(∀i∈(qeT (((qas v0).1).2:List (Val qa))),i<(((qas v0).1).2:List (Val qa)).length)∧q4 qa (((qas v0).1).2:List (Val qa)) p1.2=p1.2∧p1.2.length=(((qas v0).1).2:List (Val qa)).length) (some ((v31,((qeT (((qas v0).1).2:List (Val qa))).map (fun i=>(((qas v0).1).2:List (Val qa)).getD i (qb qa)))),true,()))) N (0:Int) (((qas v0).1).1:Int) p1.2))))
def qdF:Gam:=[(212,qcC),(213,qbT),(215,qdf),(219,qi3),(220,qih)]
theorem qwk:Gam.get qdF 212=some qcC:=rfl
theorem qrB:Gam.get qdF 213=some qbT:=rfl
theorem quO:Gam.get qdF 215=some qdf:=rfl
theorem qys:Gam.get qdF 219=some qi3:=rfl
theorem qvI:Gam.get qdF 220=some qih:=rfl
def qDk:Nm:=⟨[false,true,true,false,true,false,false,true],[],false⟩
theorem qx0:qDk.zero=false:=rfl
theorem qw5:qDk.fix=[]:=rfl
theorem qtg:qDk.keep=[false,true,true,false,true,false,false,true]:=rfl
def qsR:Nm:=⟨[false,true,true,false,true,false,false,true],[.frb 4 1 108 qa],false⟩
theorem qwx:qsR.zero=false:=rfl
theorem qyh:qsR.fix=[.frb 4 1 108 qa]:=rfl
theorem qrJ:qsR.keep=[false,true,true,false,true,false,false,true]:=rfl
def qAM:Nm:=⟨[false,false,true,false,true],[],false⟩
theorem qxR:qAM.zero=false:=rfl
theorem qqs:qAM.fix=[]:=rfl
theorem qy2:qAM.keep=[false,false,true,false,true]:=rfl
def qAt:Nm:=⟨[false,true,true,false,true,false,false,true,true],[],false⟩
theorem qrQ:qAt.zero=false:=rfl
theorem qv3:qAt.fix=[]:=rfl
theorem qux:qAt.keep=[false,true,true,false,true,false,false,true,true]:=rfl
def qja:Nat→Tree:=fun i=>if i=11 then .first 4 (.first 8 (.first 9 (.keep 0 (.keep 1 (.keep 2 (.keep 3 (.keep 6 (.keep 7 (.alt 5 (.alt 10 (.alt 11 (.alt 12 (.first 13 (.alt 14 (.alt 15 .done .stop) .stop)) (.alt 14 (.alt 12 (.quiet 13 (.alt 15 .done .stop)) .stop) .stop)) (.alt 14 (.alt 11 (.alt 12 (.quiet 13 (.alt 15 .done .stop)) .stop) .stop) .stop)) (.alt 14 (.alt 10 (.alt 11 (.alt 12 (.quiet 13 (.alt 15 .done .stop)) .stop) .stop) .stop) .stop)) (.alt 10 (.alt 5 (.alt 11 (.alt 12 (.first 13 (.alt 14 (.alt 15 .done .stop) .stop)) (.alt 14 (.alt 12 (.quiet 13 (.alt 15 .done .stop)) .stop) .stop)) (.alt 14 (.alt 11 (.alt 12 (.quiet 13 (.alt 15 .done .stop)) .stop) .stop) .stop)) (.alt 14 (.alt 5 (.alt 11 (.alt 12 (.quiet 13 (.alt 15 .done .stop)) .stop) .stop) .stop) .stop)) (.alt 14 (.alt 5 (.alt 10 (.alt 11 (.alt 12 (.quiet 13 (.alt 15 .done .stop)) .stop) .stop) .stop) (.alt 10 (.alt 5 (.alt 11 (.alt 12 (.quiet 13 (.alt 15 .done .stop)) .stop) .stop) .stop) .stop)) .stop)))))))))))else if i=12 then .quiet 0 (.quiet 1 (.quiet 2 (.quiet 3 (.quiet 4 (.quiet 5 (.alt 6 (.quiet 7 (.quiet 8 (.quiet 9 (.quiet 10 (.quiet 11 .done))))) .stop))))))else .done
def qjR:Nat→Nm:=fun i=>if i=10 then qsR else ⟨[],[],false⟩
noncomputable def qgT:Nat→Option Jn:=fun i=>if i=11 then some (.nt qDk ttH)else if i=9 then some (.at (some (.opn 2 qa)) none)else if i=18 then some (.at (some (.cls 3 0 qa qeT)) none)else none
def qjq:Nat→Option Nm:=fun i=>if i=0 then some qAM else none
def qlD:Nat→Option Nm:=fun i=>if i=11 then some qAt else none
theorem zjG:qh qja (Tryz.f138.body.getD .skip)=true:=by kernel_rfl
noncomputable def qcz (N:Nat):Tab:={tr:=qja,lp:=qjR,ex:=qjq,rg:=qlD,jn:=qgT,fuel:=N}
theorem qyX (N:Nat):(qcz N).pins=false:=rfl
theorem zco (N:Nat):qk Tryz.prog (qcz N):=fun id j t h ht=>by
 have h:qgT id=_:=h
 unfold qgT at h
 repeat' split at h
 all_goals first | (simp at h;done) | (simp only [Option.some.injEq]at h;subst h;simp [Jn.tb]at ht;done) | (simp only [Option.some.injEq]at h;subst h;simp only [Jn.tb,Option.some.injEq]at ht;subst ht;exact hTH)
theorem qta (N:Nat) (i:Nat):(qcz N).tr i=qja i:=rfl
theorem qwN (N:Nat) (i:Nat):(qcz N).lp i=qjR i:=rfl
theorem qty (N:Nat) (i:Nat):(qcz N).ex i=qjq i:=rfl
theorem qyG (N:Nat) (i:Nat):(qcz N).rg i=qlD i:=rfl
theorem quM (N:Nat) (i:Nat):(qcz N).jn i=qgT i:=rfl
theorem qyd (N:Nat):(qcz N).fuel=N:=rfl
noncomputable def q7M:Code:=cut [true,true,true,true,true,true,false,true,true,true,true,true,false] (Tryz.f138.body.getD .skip)
theorem zoh {N:Nat} {Q:X→St→Option (qc [i33,i4])} {e:List LV} {h:List Blk}:qay ttH qdF (qcz N) q7M Q ⟨e,h⟩=qay ttH qdF (qcz N) (cut [true,true,true,true,true,true,false,true,true,true,true,true,false] (Tryz.f138.body.getD .skip)) Q ⟨e,h⟩:=rfl
theorem zrG (N:Nat) (F:List Nat) (v19:Int) (v20:List (Val (hd qa))) (v21:List (Val qa)) (v22:Int) (v23:List (Val qa)) (v24:Int) (v25:Int) (v26:List (Val (hd qa))) {k9011:(List (Val (hd qa)))→Option (qc [i33,i4])} {Q:X→St→Option (qc [i33,i4])} {c:Code} (hc:c=q7M) (h9011: ∀(v27:List (Val (hd qa))),Q .normal ⟨[u,.one (.ptr 1 0 0),.one (.ptr 2 0 0),u,.one (.ptr 3 0 0),u,u,.one (.int .i64 v19),.one (.ptr 4 0 0),u,u,u,u,u,u,u,u,u,u,u,u,u,u,u,u,u,u,u,u,u,u,u,u,u,u,u,u,u,u,u,u,u,u,u,u,u,u,u,u,u,u,u,u,u,u,u,u,u,u,u,u,u,u,u,u,u,u,u],[.nst F qa v20 v21,.box [.int .i64 v22,.sl 108 qa v23 7],.box [.int .i64 v24,.nils],.box [.int .i64 v25,.own 5],.box [.int .i64 v22,.own 6],.row 108 (hd qa) v26 true false 0,.row 108 (hd qa) v27 true true 0]⟩=k9011 v27):qay ttH qdF (qcz N) c Q ⟨[u,.one (.ptr 1 0 0),.one (.ptr 2 0 0),u,.one (.ptr 3 0 0),u,u,.one (.int .i64 v19),u,u,u,u,u,u,u,u,u,u,u,u,u,u,u,u,u,u,u,u,u,u,u,u,u,u,u,u,u,u,u,u,u,u,u,u,u,u,u,u,u,u,u,u,u,u,u,u,u,u,u,u,u,u,u,u,u,u,u,u],[.nst F qa v20 v21,.box [.int .i64 v22,.sl 108 qa v23 5],.box [.int .i64 v24,.nils],.box [.int .i64 v25,.own 4],.row 108 (hd qa) v26 true false 0]⟩=qA5 N v19 v20 v21 v22 v23 v24 v25 v26 k9011 N:=by
 subst hc;rw [zoh,qA5];unfold Tryz.f138
 simp (maxSteps:=10000000) -implicitDefEqProofs [qaE (id:=11),qaD (id:=11),qta,qja,qwN,qjR,qty,qjq,qyG,qlD,quM,qgT,qyd,qyX,q8v,qaE (id:=9),qaD (id:=9),qaE (id:=18),qaD (id:=18),qw5,qtg,qx0,qyh,qrJ,qwx,qqs,qy2,qxR,qv3,qux,qrQ,qwk,qrB,quO,qys,qvI,qcC,qbT,qdf,qi3,qih,h9011]
noncomputable def q4Y:Code:=cut [true,true,true,true,true,true,false,true,true,true] (Tryz.f138.body.getD .skip)
theorem zhE {N:Nat} {Q:X→St→Option (qc [i33,i4])} {e:List LV} {h:List Blk}:qf tt qdF (qcz N) q4Y Q ⟨e,h⟩=qf tt qdF (qcz N) (cut [true,true,true,true,true,true,false,true,true,true] (Tryz.f138.body.getD .skip)) Q ⟨e,h⟩:=rfl
theorem zjA (N:Nat) (F:List Nat) (v2:List (Val (hd qa))) (v3:List (Val qa)) (v4:Int) (v5:List (Val qa)) (v6:Int) {k0:Int→(List (Val (hd qa)))→Option (qc [i33,i4])} {Q:X→St→Option (qc [i33,i4])} {c:Code} (hc:c=q4Y) (hret: ∀st,Q .ret st=qC tt true [i33,i4] [.cell 2 33,.tmp 3] st) (h0: ∀(v29:Int) (v30:List (Val (hd qa))),Q (.exit 0) ⟨[u,u,.one (.ptr 1 0 0),u,.one (.ptr 2 0 0),u,u,u,u,u,u,u,u,u,u,u,u,u,u,u,u,u,u,u,u,u,u,u,u,u,u,u,u,u,u,u,u,u,u,u,u,u,u,u,u,u,u,u,u,u,u,u,u,u,u,u,u,u,u,u,u,u,u,u,u,u,u,u],[.nst F qa v2 v3,.box [.int .i64 v6,.nils],.box [.int .i64 v29,.own 3],.row 108 (hd qa) v30 true false 0]⟩=k0 v29 v30): ∀(n:Nat) (v1:Int) (v7:Int) (v8:List (Val (hd qa))),qD (qf tt qdF (qcz N) c) false qsR Q n ⟨[u,.one (.ptr 1 0 0),.one (.ptr 2 0 0),u,.one (.ptr 3 0 0),u,u,.one (.int .i64 v1),u,u,u,u,u,u,u,u,u,u,u,u,u,u,u,u,u,u,u,u,u,u,u,u,u,u,u,u,u,u,u,u,u,u,u,u,u,u,u,u,u,u,u,u,u,u,u,u,u,u,u,u,u,u,u,u,u,u,u,u],[.nst F qa v2 v3,.box [.int .i64 v4,.sl 108 qa v5 5],.box [.int .i64 v6,.nils],.box [.int .i64 v7,.own 4],.row 108 (hd qa) v8 true false 0]⟩=qhj N v2 v3 v4 v5 v6 k0 n v1 v7 v8:=by
 subst hc;intro n;induction n with
 | zero=>intros;rfl
 | succ n ih=>
   intro v1 v7 v8
   rw [qN,zhE];unfold Tryz.f138
   simp (maxSteps:=10000000) -implicitDefEqProofs [qta,qja,qwN,qjR,qty,qjq,qyG,qlD,quM,qgT,qyd,qyX,qaE (id:=9),qaD (id:=9),qaE (id:=18),qaD (id:=18),qw5,qtg,qx0,qyh,qrJ,qwx,qqs,qy2,qxR,qv3,qux,qrQ,qwk,qrB,quO,qys,qvI,qcC,qbT,qdf,qi3,qih,hret,h0,ih]
   rewrite [zrG (k9011:=(fun (v28:List (Val (hd qa)))=>chk (0≤v1∧v1<(v8.length:Int)) (chk (v1.toNat<v8.length) (chk (q4 qa v3 v2=v2∧((∀y∈v28,y∈v2)∧(v8.getD v1.toNat (qb (hd qa)))∈v2)) (bif (!((qa3 (v4,(v28.map (lk qa v2 v3))) (lk qa v2 v3 (v8.getD v1.toNat (qb (hd qa))))).2:Bool))then (some (((0:Int),([]:List (Val qa))),false,()))else (bif ((qa3 (v4,(v28.map (lk qa v2 v3))) (lk qa v2 v3 (v8.getD v1.toNat (qb (hd qa))))).1:Bool)then (qhj N v2 v3 v4 v5 v6 k0 n v1 v4 v28)else (qhj N v2 v3 v4 v5 v6 k0 n (IntKind.i64.wrap (v1+(1:Int))) v7 v8))))))) N _ _ _ _ _ _ _ _ _ ?_ ?_]
   ·rewrite [qhj];first | rfl | simp (maxSteps:=10000000) -implicitDefEqProofs [ih]
   ·rfl
   ·intro v28;simp (maxSteps:=10000000) -implicitDefEqProofs [qta,qja,qwN,qjR,qty,qjq,qyG,qlD,quM,qgT,qyd,qyX,qaE (id:=9),qaD (id:=9),qaE (id:=18),qaD (id:=18),qw5,qtg,qx0,qyh,qrJ,qwx,qqs,qy2,qxR,qv3,qux,qrQ,qwk,qrB,quO,qys,qvI,qcC,qbT,qdf,qi3,qih,hret,h0,ih]
theorem zoA (N:Nat) (v0:Val Y33):qf tt qdF (qcz N) (Tryz.f138.body.getD .skip) (qm tt true [i33,i4] [.cell 2 33,.tmp 3]) (qp [i33] 68 (v0,()))=qGk N v0:=by
 unfold Tryz.f138
 simp (maxSteps:=10000000) -implicitDefEqProofs [qta,qja,qwN,qjR,qty,qjq,qyG,qlD,quM,qgT,qyd,qyX,qaE (id:=9),qaD (id:=9),qaE (id:=18),qaD (id:=18),qw5,qtg,qx0,qyh,qrJ,qwx,qqs,qy2,qxR,qv3,qux,qrQ,qwk,qrB,quO,qys,qvI,qcC,qbT,qdf,qi3,qih]
 rewrite [qGk]
 simp only [Bool.cond_not]
 repeat' (first | with_reducible rfl | refine zaX fun _=> ?_ | refine q8N fun p1 _=> ?_ | refine zms ?_ ?_ | (refine congrArg some ?_;rfl))
 rewrite [zjA (k0:=(fun (v31:Int) (v32:List (Val (hd qa)))=>chk (v32=(qeT (((qas v0).1).2:List (Val qa))).map (fun i=>p1.2.getD i (qb (hd qa)))∧(qeT (((qas v0).1).2:List (Val qa))).Nodup∧(∀i∈(qeT (((qas v0).1).2:List (Val qa))),i<(((qas v0).1).2:List (Val qa)).length)∧q4 qa (((qas v0).1).2:List (Val qa)) p1.2=p1.2∧p1.2.length=(((qas v0).1).2:List (Val qa)).length) (some ((v31,((qeT (((qas v0).1).2:List (Val qa))).map (fun i=>(((qas v0).1).2:List (Val qa)).getD i (qb qa)))),true,())))) N _ _ _ _ _ _ ?_ ?_ ?_]
 ·first | rfl | simp (maxSteps:=10000000) -implicitDefEqProofs []
 ·rfl
 ·intro;simp only [qK,qL,qJ,qB]
 ·intro v31 v32;simp (maxSteps:=10000000) -implicitDefEqProofs [qta,qja,qwN,qjR,qty,qjq,qyG,qlD,quM,qgT,qyd,qyX,qaE (id:=9),qaD (id:=9),qaE (id:=18),qaD (id:=18),qw5,qtg,qx0,qyh,qrJ,qwx,qqs,qy2,qxR,qv3,qux,qrQ,qwk,qrB,quO,qys,qvI,qcC,qbT,qdf,qi3,qih]
def cpC (c:Val Y33):Val Y33:=c
def qdA (c:Val Y33):Prop:=Bd Y33 c
def qdr:G:={ps:=[i33],rs:=[i33],dp:=true,pre:=fun x=>qdA x.1,fn:=fun x=>(cpC x.1,())}
noncomputable def qju (N:Nat) (v2:Int) (v3:List (Val qa)) (v4:Int) (v5:Int) (k0:(List (Val qa))→Option (qc [i33])):Nat→Int→(List (Val qa))→Option (qc [i33])
 | 0,_,_=>none
 | n+1,v1,v6=>bif (decide (v1<(v3.length:Int)))then (chk (0≤v1∧v1<(v3.length:Int)) (chk (qbF (v3.getD v1.toNat (qb qa))) (chk (v6.length+([(((idA (v3.getD v1.toNat (qb qa))).1:List (Val (.int .i64))),(((idA (v3.getD v1.toNat (qb qa))).2).1:Int),(((idA (v3.getD v1.toNat (qb qa))).2).2:Bool))]:List (Val qa)).length≤1048576) (qju N v2 v3 v4 v5 k0 n (IntKind.i64.wrap (v1+(1:Int))) (v6++([(((idA (v3.getD v1.toNat (qb qa))).1:List (Val (.int .i64))),(((idA (v3.getD v1.toNat (qb qa))).2).1:Int),(((idA (v3.getD v1.toNat (qb qa))).2).2:Bool))]:List (Val qa)))))))else (k0 v6)
noncomputable def qz7 (N:Nat) (v0:Val Y33):Option (qc [i33]):=qju N (v0.1:Int) (v0.2:List (Val qa)) (0:Int) (v0.1:Int) (fun (v8:List (Val qa))=>some (((v0.1:Int),v8),())) N (0:Int) ([]:List (Val qa))
def qoV:Gam:=[(234,qeO)]
theorem qNx:Gam.get qoV 234=some qeO:=rfl
def qsW:Nm:=⟨[false,true,true,true,true],[.box 3 1 108 qa],false⟩
theorem qOF:qsW.zero=false:=rfl
theorem qOM:qsW.fix=[.box 3 1 108 qa]:=rfl
theorem qQj:qsW.keep=[false,true,true,true,true]:=rfl
def qBb:Nm:=⟨[false,false,true,true],[],false⟩
theorem q4y:qBb.zero=false:=rfl
theorem q2R:qBb.fix=[]:=rfl
theorem q24:qBb.keep=[false,false,true,true]:=rfl
def qFo:Nm:=⟨[false,true,true,true,true],[],false⟩
theorem qW2:qFo.zero=false:=rfl
theorem q3H:qFo.fix=[]:=rfl
theorem qSb:qFo.keep=[false,true,true,true,true]:=rfl
def qod:Nat→Tree:=fun i=>if i=5 then .quiet 2 (.quiet 3 (.quiet 4 (.quiet 5 (.quiet 6 (.alt 0 (.alt 1 (.alt 7 (.alt 8 (.alt 9 (.quiet 10 (.alt 11 .done .stop)) .stop) .stop) .stop) (.alt 7 (.alt 1 (.alt 8 (.alt 9 (.quiet 10 (.alt 11 .done .stop)) .stop) .stop) (.alt 8 (.quiet 1 (.alt 9 (.quiet 10 (.alt 11 .done .stop)) .stop)) .stop)) .stop)) (.alt 7 (.alt 0 (.alt 1 (.alt 8 (.alt 9 (.quiet 10 (.alt 11 .done .stop)) .stop) .stop) (.alt 8 (.quiet 1 (.alt 9 (.quiet 10 (.alt 11 .done .stop)) .stop)) .stop)) (.alt 8 (.quiet 0 (.quiet 1 (.alt 9 (.quiet 10 (.alt 11 .done .stop)) .stop))) .stop)) .stop))))))else .done
def qp5:Nat→Nm:=fun i=>if i=3 then qsW else ⟨[],[],false⟩
def qu8:Nat→Option Jn:=fun _=>none
def qvP:Nat→Option Nm:=fun i=>if i=0 then some qBb else none
def qvC:Nat→Option Nm:=fun i=>if i=5 then some qFo else none
theorem zmz:qh qod (Tryz.f210.body.getD .skip)=true:=by kernel_rfl
def qd7 (N:Nat):Tab:={tr:=qod,lp:=qp5,ex:=qvP,rg:=qvC,jn:=qu8,fuel:=N}
theorem qH7 (N:Nat):(qd7 N).pins=false:=rfl
theorem ziP (N:Nat):qk Tryz.prog (qd7 N):=qo fun _=>rfl
theorem qVZ (N:Nat) (i:Nat):(qd7 N).tr i=qod i:=rfl
theorem qHN (N:Nat) (i:Nat):(qd7 N).lp i=qp5 i:=rfl
theorem qYk (N:Nat) (i:Nat):(qd7 N).ex i=qvP i:=rfl
theorem qOc (N:Nat) (i:Nat):(qd7 N).rg i=qvC i:=rfl
theorem qZ3 (N:Nat) (i:Nat):(qd7 N).jn i=qu8 i:=rfl
theorem qJ3 (N:Nat):(qd7 N).fuel=N:=rfl
noncomputable def zaz:Code:=cut [true,true,false,true,true,true] (Tryz.f210.body.getD .skip)
theorem zpc {N:Nat} {Q:X→St→Option (qc [i33])} {e:List LV} {h:List Blk}:qf tt qoV (qd7 N) zaz Q ⟨e,h⟩=qf tt qoV (qd7 N) (cut [true,true,false,true,true,true] (Tryz.f210.body.getD .skip)) Q ⟨e,h⟩:=rfl
theorem zkB (N:Nat) (v2:Int) (v3:List (Val qa)) (v4:Int) (v5:Int) {k0:(List (Val qa))→Option (qc [i33])} {Q:X→St→Option (qc [i33])} {c:Code} (hc:c=zaz) (hret: ∀st,Q .ret st=qC tt true [i33] [.cell 2 33] st) (h0: ∀(v7:List (Val qa)),Q (.exit 0) ⟨[u,u,.one (.ptr 0 0 0),.one (.ptr 1 0 0),u,u,u,u,u,u,u,u,u,u,u,u,u,u,u,u,u,u,u,u,u,u,u],[.box [.int .i64 v4,.nils],.box [.int .i64 v5,.own 2],.row 108 qa v7 true true 0]⟩=k0 v7): ∀(n:Nat) (v1:Int) (v6:List (Val qa)),qD (qf tt qoV (qd7 N) c) false qsW Q n ⟨[u,.one (.ptr 0 0 0),.one (.ptr 1 0 0),.one (.ptr 2 0 0),.one (.int .i64 v1),u,u,u,u,u,u,u,u,u,u,u,u,u,u,u,u,u,u,u,u,u,u],[.box [.int .i64 v2,.sl 108 qa v3 4],.box [.int .i64 v4,.nils],.box [.int .i64 v5,.own 3],.row 108 qa v6 true true 0]⟩=qju N v2 v3 v4 v5 k0 n v1 v6:=by
 subst hc;intro n;induction n with
 | zero=>intros;rfl
 | succ n ih=>
   intro v1 v6
   rw [qN,zpc,qju];unfold Tryz.f210
   simp (maxSteps:=10000000) -implicitDefEqProofs [qVZ,qod,qHN,qp5,qYk,qvP,qOc,qvC,qZ3,qu8,qJ3,qH7,qOM,qQj,qOF,q2R,q24,q4y,q3H,qSb,qW2,qNx,qeO,hret,h0,ih]
theorem zdQ (N:Nat) (v0:Val Y33):qf tt qoV (qd7 N) (Tryz.f210.body.getD .skip) (qm tt true [i33] [.cell 2 33]) (qp [i33] 27 (v0,()))=qz7 N v0:=by
 unfold Tryz.f210
 simp (maxSteps:=10000000) -implicitDefEqProofs [qVZ,qod,qHN,qp5,qYk,qvP,qOc,qvC,qZ3,qu8,qJ3,qH7,qOM,qQj,qOF,q2R,q24,q4y,q3H,qSb,qW2,qNx,qeO]
 rewrite [zkB (k0:=(fun (v8:List (Val qa))=>some (((v0.1:Int),v8),()))) N _ _ _ _ ?_ ?_ ?_]
 ·rewrite [qz7];first | rfl | simp (maxSteps:=10000000) -implicitDefEqProofs []
 ·rfl
 ·intro;simp only [qK,qL,qJ,qB]
 ·intro v8;simp (maxSteps:=10000000) -implicitDefEqProofs [qVZ,qod,qHN,qp5,qYk,qvP,qOc,qvC,qZ3,qu8,qJ3,qH7,qOM,qQj,qOF,q2R,q24,q4y,q3H,qSb,qW2,qNx,qeO]
def qcS:G:={ps:=[i33],rs:=[i33,i4],dp:=true,pre:=fun x=>qne x.1,fn:=fun x=>((qaj x.1).1,(qaj x.1).2,())}
noncomputable def qHa (N:Nat) (v15:Int) (v16:Int) (v17:List (Val qa)) (v18:Int) (v19:Int) (v20:List (Val qa)) (k9009:(List (Val qa))→Option (qc [i33,i4])) (_:Nat):Option (qc [i33,i4]):=chk (0≤(0:Int)∧(0:Int)≤v15∧v15≤(v20.length:Int)) (chk (([]:List (Val qa)).length+((v20.take v15.toNat).drop (0:Int).toNat).length≤1048576) (chk (0≤(IntKind.i64.wrap (v15+(1:Int)))∧(IntKind.i64.wrap (v15+(1:Int)))≤(v20.length:Int)∧(v20.length:Int)≤(v20.length:Int)) (chk ((([]:List (Val qa))++((v20.take v15.toNat).drop (0:Int).toNat)).length+((v20.take (v20.length:Int).toNat).drop (IntKind.i64.wrap (v15+(1:Int))).toNat).length≤1048576) (k9009 ((([]:List (Val qa))++((v20.take v15.toNat).drop (0:Int).toNat))++((v20.take (v20.length:Int).toNat).drop (IntKind.i64.wrap (v15+(1:Int))).toNat))))))
noncomputable def qhk (N:Nat) (v2:Int) (v3:List (Val qa)) (v4:Int) (k0:Int→(List (Val qa))→Option (qc [i33,i4])):Nat→Int→Int→(List (Val qa))→Option (qc [i33,i4])
 | 0,_,_,_=>none
 | n+1,v1,v5,v6=>bif (decide (v1<(v6.length:Int)))then (qHa N v1 v2 v3 v4 v5 v6 (fun (v22:List (Val qa))=>chk (0≤v1∧v1<(v6.length:Int)) (chk (v1.toNat<v6.length) (chk (qq3 (v2,v22) (v6.getD v1.toNat (qb qa))) (bif (!((qa3 (v2,v22) (v6.getD v1.toNat (qb qa))).2:Bool))then (some (((0:Int),([]:List (Val qa))),false,()))else (bif ((qa3 (v2,v22) (v6.getD v1.toNat (qb qa))).1:Bool)then (chk (qdA (v2,v22)) (qhk N v2 v3 v4 k0 n v1 ((cpC (v2,v22)).1:Int) ((cpC (v2,v22)).2:List (Val qa))))else (qhk N v2 v3 v4 k0 n (IntKind.i64.wrap (v1+(1:Int))) v5 v6)))))) N)else (k0 v5 v6)
noncomputable def qFf (N:Nat) (v0:Val Y33):Option (qc [i33,i4]):=chk (qlb v0) (bif (!((qar v0).2:Bool))then (some (((0:Int),([]:List (Val qa))),false,()))else (bif ((qar v0).1:Bool)then (chk (qcy (v0.1:Int)) (some ((((qa8 (v0.1:Int)).1:Int),((qa8 (v0.1:Int)).2:List (Val qa))),true,())))else (chk (qdA v0) (qhk N (v0.1:Int) (v0.2:List (Val qa)) (0:Int) (fun (v25:Int) (v26:List (Val qa))=>some ((v25,v26),true,())) N (0:Int) ((cpC v0).1:Int) ((cpC v0).2:List (Val qa))))))
def qeo:Gam:=[(208,qcB),(209,qcg),(210,qdr),(283,qhT)]
theorem qqq:Gam.get qeo 208=some qcB:=rfl
theorem qrw:Gam.get qeo 209=some qcg:=rfl
theorem qsf:Gam.get qeo 210=some qdr:=rfl
theorem qqP:Gam.get qeo 283=some qhT:=rfl
def qGx:Nm:=⟨[false,true,true,false,false,false,true,true],[],false⟩
theorem qp6:qGx.zero=false:=rfl
theorem qxc:qGx.fix=[]:=rfl
theorem qt8:qGx.keep=[false,true,true,false,false,false,true,true]:=rfl
def qw0:Nm:=⟨[false,true,true,false,false,false,true,true],[.frb 6 1 108 qa],false⟩
theorem qxX:qw0.zero=false:=rfl
theorem qw7:qw0.fix=[.frb 6 1 108 qa]:=rfl
theorem qtl:qw0.keep=[false,true,true,false,false,false,true,true]:=rfl
def qzP:Nm:=⟨[false,false,true,false,false,false,true],[],false⟩
theorem qtQ:qzP.zero=false:=rfl
theorem qt9:qzP.fix=[]:=rfl
theorem qqF:qzP.keep=[false,false,true,false,false,false,true]:=rfl
def qHs:Nm:=⟨[false,true,true,false,false,false,true,true,true],[],false⟩
theorem qww:qHs.zero=false:=rfl
theorem qw8:qHs.fix=[]:=rfl
theorem qw4:qHs.keep=[false,true,true,false,false,false,true,true,true]:=rfl
def qhV:Nat→Tree:=fun i=>if i=9 then .first 5 (.first 10 (.first 11 (.keep 0 (.keep 1 (.keep 3 (.keep 4 (.keep 8 (.keep 9 (.alt 2 (.alt 6 (.alt 7 (.alt 12 (.alt 13 (.first 14 (.alt 15 (.alt 16 .done .stop) .stop)) (.alt 15 (.alt 13 (.quiet 14 (.alt 16 .done .stop)) .stop) .stop)) (.alt 15 (.alt 12 (.alt 13 (.quiet 14 (.alt 16 .done .stop)) .stop) .stop) .stop)) (.alt 12 (.alt 7 (.alt 13 (.first 14 (.alt 15 (.alt 16 .done .stop) .stop)) (.alt 15 (.alt 13 (.quiet 14 (.alt 16 .done .stop)) .stop) .stop)) (.alt 15 (.alt 7 (.alt 13 (.quiet 14 (.alt 16 .done .stop)) .stop) .stop) .stop)) (.alt 15 (.alt 7 (.alt 12 (.alt 13 (.quiet 14 (.alt 16 .done .stop)) .stop) .stop) (.alt 12 (.alt 7 (.alt 13 (.quiet 14 (.alt 16 .done .stop)) .stop) .stop) .stop)) .stop))) (.alt 12 (.alt 6 (.alt 7 (.alt 13 (.first 14 (.alt 15 (.alt 16 .done .stop) .stop)) (.alt 15 (.alt 13 (.quiet 14 (.alt 16 .done .stop)) .stop) .stop)) (.alt 15 (.alt 7 (.alt 13 (.quiet 14 (.alt 16 .done .stop)) .stop) .stop) .stop)) (.alt 15 (.alt 6 (.alt 7 (.alt 13 (.quiet 14 (.alt 16 .done .stop)) .stop) .stop) .stop) .stop)) (.alt 15 (.alt 6 (.alt 7 (.alt 12 (.alt 13 (.quiet 14 (.alt 16 .done .stop)) .stop) .stop) (.alt 12 (.alt 7 (.alt 13 (.quiet 14 (.alt 16 .done .stop)) .stop) .stop) .stop)) (.alt 12 (.alt 6 (.alt 7 (.alt 13 (.quiet 14 (.alt 16 .done .stop)) .stop) .stop) .stop) .stop)) .stop))) (.alt 6 (.alt 2 (.alt 7 (.alt 12 (.alt 13 (.first 14 (.alt 15 (.alt 16 .done .stop) .stop)) (.alt 15 (.alt 13 (.quiet 14 (.alt 16 .done .stop)) .stop) .stop)) (.alt 15 (.alt 12 (.alt 13 (.quiet 14 (.alt 16 .done .stop)) .stop) .stop) .stop)) (.alt 12 (.alt 7 (.alt 13 (.first 14 (.alt 15 (.alt 16 .done .stop) .stop)) (.alt 15 (.alt 13 (.quiet 14 (.alt 16 .done .stop)) .stop) .stop)) (.alt 15 (.alt 7 (.alt 13 (.quiet 14 (.alt 16 .done .stop)) .stop) .stop) .stop)) (.alt 15 (.alt 7 (.alt 12 (.alt 13 (.quiet 14 (.alt 16 .done .stop)) .stop) .stop) (.alt 12 (.alt 7 (.alt 13 (.quiet 14 (.alt 16 .done .stop)) .stop) .stop) .stop)) .stop))) (.alt 12 (.alt 2 (.alt 7 (.alt 13 (.first 14 (.alt 15 (.alt 16 .done .stop) .stop)) (.alt 15 (.alt 13 (.quiet 14 (.alt 16 .done .stop)) .stop) .stop)) (.alt 15 (.alt 7 (.alt 13 (.quiet 14 (.alt 16 .done .stop)) .stop) .stop) .stop)) (.alt 15 (.alt 2 (.alt 7 (.alt 13 (.quiet 14 (.alt 16 .done .stop)) .stop) .stop) .stop) .stop)) (.alt 15 (.alt 2 (.alt 7 (.alt 12 (.alt 13 (.quiet 14 (.alt 16 .done .stop)) .stop) .stop) (.alt 12 (.alt 7 (.alt 13 (.quiet 14 (.alt 16 .done .stop)) .stop) .stop) .stop)) (.alt 12 (.alt 2 (.alt 7 (.alt 13 (.quiet 14 (.alt 16 .done .stop)) .stop) .stop) .stop) .stop)) .stop))) (.alt 12 (.alt 2 (.alt 6 (.alt 7 (.alt 13 (.first 14 (.alt 15 (.alt 16 .done .stop) .stop)) (.alt 15 (.alt 13 (.quiet 14 (.alt 16 .done .stop)) .stop) .stop)) (.alt 15 (.alt 7 (.alt 13 (.quiet 14 (.alt 16 .done .stop)) .stop) .stop) .stop)) (.alt 15 (.alt 6 (.alt 7 (.alt 13 (.quiet 14 (.alt 16 .done .stop)) .stop) .stop) .stop) .stop)) (.alt 6 (.alt 2 (.alt 7 (.alt 13 (.first 14 (.alt 15 (.alt 16 .done .stop) .stop)) (.alt 15 (.alt 13 (.quiet 14 (.alt 16 .done .stop)) .stop) .stop)) (.alt 15 (.alt 7 (.alt 13 (.quiet 14 (.alt 16 .done .stop)) .stop) .stop) .stop)) (.alt 15 (.alt 2 (.alt 7 (.alt 13 (.quiet 14 (.alt 16 .done .stop)) .stop) .stop) .stop) .stop)) (.alt 15 (.alt 2 (.alt 6 (.alt 7 (.alt 13 (.quiet 14 (.alt 16 .done .stop)) .stop) .stop) .stop) (.alt 6 (.alt 2 (.alt 7 (.alt 13 (.quiet 14 (.alt 16 .done .stop)) .stop) .stop) .stop) .stop)) .stop))) (.alt 15 (.alt 2 (.alt 6 (.alt 7 (.alt 12 (.alt 13 (.quiet 14 (.alt 16 .done .stop)) .stop) .stop) (.alt 12 (.alt 7 (.alt 13 (.quiet 14 (.alt 16 .done .stop)) .stop) .stop) .stop)) (.alt 12 (.alt 6 (.alt 7 (.alt 13 (.quiet 14 (.alt 16 .done .stop)) .stop) .stop) .stop) .stop)) (.alt 6 (.alt 2 (.alt 7 (.alt 12 (.alt 13 (.quiet 14 (.alt 16 .done .stop)) .stop) .stop) (.alt 12 (.alt 7 (.alt 13 (.quiet 14 (.alt 16 .done .stop)) .stop) .stop) .stop)) (.alt 12 (.alt 2 (.alt 7 (.alt 13 (.quiet 14 (.alt 16 .done .stop)) .stop) .stop) .stop) .stop)) (.alt 12 (.alt 2 (.alt 6 (.alt 7 (.alt 13 (.quiet 14 (.alt 16 .done .stop)) .stop) .stop) .stop) (.alt 6 (.alt 2 (.alt 7 (.alt 13 (.quiet 14 (.alt 16 .done .stop)) .stop) .stop) .stop) .stop)) .stop))) .stop))))))))))))else if i=10 then .quiet 0 (.quiet 1 (.quiet 2 (.quiet 3 (.quiet 4 (.quiet 5 (.alt 6 (.quiet 7 (.quiet 8 (.quiet 9 (.quiet 10 (.quiet 11 .done))))) .stop))))))else .done
def qmz:Nat→Nm:=fun i=>if i=8 then qw0 else ⟨[],[],false⟩
def qhw:Nat→Option Jn:=fun i=>if i=9 then some (.nm qGx)else none
def qk4:Nat→Option Nm:=fun i=>if i=0 then some qzP else none
def qkz:Nat→Option Nm:=fun i=>if i=9 then some qHs else none
theorem zh8:qh qhV (Tryz.f217.body.getD .skip)=true:=by kernel_rfl
def qcv (N:Nat):Tab:={tr:=qhV,lp:=qmz,ex:=qk4,rg:=qkz,jn:=qhw,fuel:=N}
theorem qrA (N:Nat):(qcv N).pins=false:=rfl
theorem zjl (N:Nat):qk Tryz.prog (qcv N):=fun id j t h ht=>by
 have h:qhw id=_:=h
 unfold qhw at h
 repeat' split at h
 all_goals first | (simp at h;done) | (simp only [Option.some.injEq]at h;subst h;simp [Jn.tb]at ht;done) | (simp only [Option.some.injEq]at h;subst h;simp only [Jn.tb,Option.some.injEq]at ht;subst ht;exact hTH)
theorem quT (N:Nat) (i:Nat):(qcv N).tr i=qhV i:=rfl
theorem qtC (N:Nat) (i:Nat):(qcv N).lp i=qmz i:=rfl
theorem qxG (N:Nat) (i:Nat):(qcv N).ex i=qk4 i:=rfl
theorem qq8 (N:Nat) (i:Nat):(qcv N).rg i=qkz i:=rfl
theorem qt0 (N:Nat) (i:Nat):(qcv N).jn i=qhw i:=rfl
theorem qxr (N:Nat):(qcv N).fuel=N:=rfl
noncomputable def q9d:Code:=cut [true,true,true,true,true,false,true,true,true,true,true,false] (Tryz.f217.body.getD .skip)
theorem zun {N:Nat} {Q:X→St→Option (qc [i33,i4])} {e:List LV} {h:List Blk}:qay tt qeo (qcv N) q9d Q ⟨e,h⟩=qay tt qeo (qcv N) (cut [true,true,true,true,true,false,true,true,true,true,true,false] (Tryz.f217.body.getD .skip)) Q ⟨e,h⟩:=rfl
theorem zgp (N:Nat) (v15:Int) (v16:Int) (v17:List (Val qa)) (v18:Int) (v19:Int) (v20:List (Val qa)) {k9009:(List (Val qa))→Option (qc [i33,i4])} {Q:X→St→Option (qc [i33,i4])} {c:Code} (hc:c=q9d) (h9009: ∀(v21:List (Val qa)),Q .normal ⟨[u,.one (.ptr 0 0 0),.one (.ptr 1 0 0),u,u,u,.one (.ptr 2 0 0),.one (.int .i64 v15),.one (.ptr 3 0 0),u,u,u,u,u,u,u,u,u,u,u,u,u,u,u,u,u,u,u,u,u,u,u,u,u,u,u,u,u,u,u,u,u,u,u,u,u,u,u,u,u,u,u,u,u,u,u,u,u,u,u,u,u,u,u],[.box [.int .i64 v16,.sl 108 qa v17 6],.box [.int .i64 v18,.nils],.box [.int .i64 v19,.own 4],.box [.int .i64 v16,.own 5],.row 108 qa v20 true false 0,.row 108 qa v21 false true 6]⟩=k9009 v21):qay tt qeo (qcv N) c Q ⟨[u,.one (.ptr 0 0 0),.one (.ptr 1 0 0),u,u,u,.one (.ptr 2 0 0),.one (.int .i64 v15),u,u,u,u,u,u,u,u,u,u,u,u,u,u,u,u,u,u,u,u,u,u,u,u,u,u,u,u,u,u,u,u,u,u,u,u,u,u,u,u,u,u,u,u,u,u,u,u,u,u,u,u,u,u,u,u],[.box [.int .i64 v16,.sl 108 qa v17 4],.box [.int .i64 v18,.nils],.box [.int .i64 v19,.own 3],.row 108 qa v20 true false 0]⟩=qHa N v15 v16 v17 v18 v19 v20 k9009 N:=by
 subst hc;rw [zun,qHa];unfold Tryz.f217
 simp (maxSteps:=10000000) -implicitDefEqProofs [qaE (id:=9),qaD (id:=9),quT,qhV,qtC,qmz,qxG,qk4,qq8,qkz,qt0,qhw,qxr,qrA,q8v,qxc,qt8,qp6,qw7,qtl,qxX,qt9,qqF,qtQ,qw8,qw4,qww,qqq,qrw,qsf,qqP,qcB,qcg,qdr,qhT,h9009]
noncomputable def q7g:Code:=cut [true,true,true,true,true,false,true,true,true] (Tryz.f217.body.getD .skip)
theorem zim {N:Nat} {Q:X→St→Option (qc [i33,i4])} {e:List LV} {h:List Blk}:qf tt qeo (qcv N) q7g Q ⟨e,h⟩=qf tt qeo (qcv N) (cut [true,true,true,true,true,false,true,true,true] (Tryz.f217.body.getD .skip)) Q ⟨e,h⟩:=rfl
theorem zdT (N:Nat) (v2:Int) (v3:List (Val qa)) (v4:Int) {k0:Int→(List (Val qa))→Option (qc [i33,i4])} {Q:X→St→Option (qc [i33,i4])} {c:Code} (hc:c=q7g) (hret: ∀st,Q .ret st=qC tt true [i33,i4] [.cell 2 33,.tmp 3] st) (h0: ∀(v23:Int) (v24:List (Val qa)),Q (.exit 0) ⟨[u,u,.one (.ptr 0 0 0),u,u,u,.one (.ptr 1 0 0),u,u,u,u,u,u,u,u,u,u,u,u,u,u,u,u,u,u,u,u,u,u,u,u,u,u,u,u,u,u,u,u,u,u,u,u,u,u,u,u,u,u,u,u,u,u,u,u,u,u,u,u,u,u,u,u,u],[.box [.int .i64 v4,.nils],.box [.int .i64 v23,.own 2],.row 108 qa v24 true false 0]⟩=k0 v23 v24): ∀(n:Nat) (v1:Int) (v5:Int) (v6:List (Val qa)),qD (qf tt qeo (qcv N) c) false qw0 Q n ⟨[u,.one (.ptr 0 0 0),.one (.ptr 1 0 0),u,u,u,.one (.ptr 2 0 0),.one (.int .i64 v1),u,u,u,u,u,u,u,u,u,u,u,u,u,u,u,u,u,u,u,u,u,u,u,u,u,u,u,u,u,u,u,u,u,u,u,u,u,u,u,u,u,u,u,u,u,u,u,u,u,u,u,u,u,u,u,u],[.box [.int .i64 v2,.sl 108 qa v3 4],.box [.int .i64 v4,.nils],.box [.int .i64 v5,.own 3],.row 108 qa v6 true false 0]⟩=qhk N v2 v3 v4 k0 n v1 v5 v6:=by
 subst hc;intro n;induction n with
 | zero=>intros;rfl
 | succ n ih=>
   intro v1 v5 v6
   rw [qN,zim];unfold Tryz.f217
   simp (maxSteps:=10000000) -implicitDefEqProofs [quT,qhV,qtC,qmz,qxG,qk4,qq8,qkz,qt0,qhw,qxr,qrA,qxc,qt8,qp6,qw7,qtl,qxX,qt9,qqF,qtQ,qw8,qw4,qww,qqq,qrw,qsf,qqP,qcB,qcg,qdr,qhT,hret,h0,ih]
   rewrite [zgp (k9009:=(fun (v22:List (Val qa))=>chk (0≤v1∧v1<(v6.length:Int)) (chk (v1.toNat<v6.length) (chk (qq3 (v2,v22) (v6.getD v1.toNat (qb qa))) (bif (!((qa3 (v2,v22) (v6.getD v1.toNat (qb qa))).2:Bool))then (some (((0:Int),([]:List (Val qa))),false,()))else (bif ((qa3 (v2,v22) (v6.getD v1.toNat (qb qa))).1:Bool)then (chk (qdA (v2,v22)) (qhk N v2 v3 v4 k0 n v1 ((cpC (v2,v22)).1:Int) ((cpC (v2,v22)).2:List (Val qa))))else (qhk N v2 v3 v4 k0 n (IntKind.i64.wrap (v1+(1:Int))) v5 v6))))))) N _ _ _ _ _ _ ?_ ?_]
   ·rewrite [qhk];first | rfl | simp (maxSteps:=10000000) -implicitDefEqProofs [ih]
   ·rfl
   ·intro v22;simp (maxSteps:=10000000) -implicitDefEqProofs [quT,qhV,qtC,qmz,qxG,qk4,qq8,qkz,qt0,qhw,qxr,qrA,qxc,qt8,qp6,qw7,qtl,qxX,qt9,qqF,qtQ,qw8,qw4,qww,qqq,qrw,qsf,qqP,qcB,qcg,qdr,qhT,hret,h0,ih]
theorem zn4 (N:Nat) (v0:Val Y33):qf tt qeo (qcv N) (Tryz.f217.body.getD .skip) (qm tt true [i33,i4] [.cell 2 33,.tmp 3]) (qp [i33] 64 (v0,()))=qFf N v0:=by
 unfold Tryz.f217
 simp (maxSteps:=10000000) -implicitDefEqProofs [quT,qhV,qtC,qmz,qxG,qk4,qq8,qkz,qt0,qhw,qxr,qrA,qxc,qt8,qp6,qw7,qtl,qxX,qt9,qqF,qtQ,qw8,qw4,qww,qqq,qrw,qsf,qqP,qcB,qcg,qdr,qhT]
 rewrite [zdT (k0:=(fun (v25:Int) (v26:List (Val qa))=>some ((v25,v26),true,()))) N _ _ _ ?_ ?_ ?_]
 ·rewrite [qFf];first | rfl | simp (maxSteps:=10000000) -implicitDefEqProofs []
 ·rfl
 ·intro;simp only [qK,qL,qJ,qB]
 ·intro v25 v26;simp (maxSteps:=10000000) -implicitDefEqProofs [quT,qhV,qtC,qmz,qxG,qk4,qq8,qkz,qt0,qhw,qxr,qrA,qxc,qt8,qp6,qw7,qtl,qxX,qt9,qqF,qtQ,qw8,qw4,qww,qqq,qrw,qsf,qqP,qcB,qcg,qdr,qhT]
end Go.T
