/- Normal cells. -/
import Derived.Test.YthefcjjgchekiaaGreatB2
set_option linter.unusedSimpArgs false
set_option linter.unusedVariables false
namespace Go.T
open Go Go.Proofs
set_option maxHeartbeats 4000000
set_option maxRecDepth 100000
noncomputable def qid (N:Nat) (v1:List (Val (.slice 108 qa))) (v3:List (Val (.slice 108 qa))) (v4:Int) (k0:Int→Option (qc [i31])):Nat→Int→Int→Option (qc [i31])
 | 0,_,_=>none
 | n+1,v2,v5=>bif (decide (v5<v4))then (chk (0≤v5∧v5<(v3.length:Int)) (bif (decide ((IntKind.i64.wrap (v2+(((v3.getD v5.toNat (qb (.slice 108 qa))):List (Val qa)).length:Int)))<(0:Int)))then (none)else (qid N v1 v3 v4 k0 n (IntKind.i64.wrap (v2+(((v3.getD v5.toNat (qb (.slice 108 qa))):List (Val qa)).length:Int))) (IntKind.i64.wrap (v5+(1:Int))))))else (k0 v2)
noncomputable def qhv (N:Nat) (v8:List (Val (.slice 108 qa))) (v9:Int) (k2:(List (Val qa))→Option (qc [i31])):Nat→Int→(List (Val qa))→Option (qc [i31])
 | 0,_,_=>none
 | n+1,v10,v11=>bif (decide (v10<v9))then (chk (0≤v10∧v10<(v8.length:Int)) (chk (v11.length+((v8.getD v10.toNat (qb (.slice 108 qa))):List (Val qa)).length≤1048576) (qhv N v8 v9 k2 n (IntKind.i64.wrap (v10+(1:Int))) (v11++((v8.getD v10.toNat (qb (.slice 108 qa))):List (Val qa))))))else (k2 v11)
noncomputable def qEI (N:Nat) (v0:List (Val (.slice 108 qa))):Option (qc [i31]):=qid N v0 v0 (v0.length:Int) (fun (v7:Int)=>chk (0≤v7∧v7≤1048576) (qhv N v0 (v0.length:Int) (fun (v13:List (Val qa))=>some (v13,())) N (0:Int) ([]:List (Val qa)))) N (0:Int) (0:Int)
def qi7:Gam:=[]
def qvp:Nm:=⟨[true,false,false,true,false,false,false,false,false,true,true,true],[],false⟩
theorem qxK:qvp.zero=false:=rfl
theorem qsm:qvp.fix=[]:=rfl
theorem qxD:qvp.keep=[true,false,false,true,false,false,false,false,false,true,true,true]:=rfl
def qyW:Nm:=⟨[false,false,false,false,false,false,true,false,false,false,false,false,false,false,false,false,false,false,false,false,false,false,false,false,false,true,true,true],[.und 6 0 108 qa],false⟩
theorem quY:qyW.zero=false:=rfl
theorem qy3:qyW.fix=[.und 6 0 108 qa]:=rfl
theorem qyp:qyW.keep=[false,false,false,false,false,false,true,false,false,false,false,false,false,false,false,false,false,false,false,false,false,false,false,false,false,true,true,true]:=rfl
def qCo:Nm:=⟨[true,false,false,true],[],false⟩
theorem qwf:qCo.zero=false:=rfl
theorem qxt:qCo.fix=[]:=rfl
theorem qvr:qCo.keep=[true,false,false,true]:=rfl
def qEJ:Nm:=⟨[false,false,false,false,false,false,true],[],false⟩
theorem qtq:qEJ.zero=false:=rfl
theorem qu1:qEJ.fix=[]:=rfl
theorem qqv:qEJ.keep=[false,false,false,false,false,false,true]:=rfl
def qiO:Nat→Tree:=fun _=> .done
def qkZ:Nat→Nm:=fun i=>if i=3 then qvp else if i=11 then qyW else ⟨[],[],false⟩
noncomputable def qjC:Sem:=qom [(284,.gr 108 qa)]
def qmA:Nat→Option Jn:=fun _=>none
def qmE:Nat→Option Nm:=fun i=>if i=0 then some qCo else if i=2 then some qEJ else none
def qjK:Nat→Option Nm:=fun _=>none
theorem zds:qh qiO (Tryz.f219.body.getD .skip)=true:=by kernel_rfl
noncomputable def qck (N:Nat):Tab:={tr:=qiO,lp:=qkZ,ex:=qmE,rg:=qjK,jn:=qmA,fuel:=N,sem:=qjC}
theorem qrd (N:Nat):(qck N).pins=false:=rfl
theorem zum (N:Nat):qk Tryz.prog (qck N):=qo fun _=>rfl
theorem qsN (N:Nat):(qck N).sem=qjC:=rfl
theorem qtc (N:Nat) (i:Nat):(qck N).tr i=qiO i:=rfl
theorem qxO (N:Nat) (i:Nat):(qck N).lp i=qkZ i:=rfl
theorem qvc (N:Nat) (i:Nat):(qck N).ex i=qmE i:=rfl
theorem qxp (N:Nat) (i:Nat):(qck N).rg i=qjK i:=rfl
theorem qv8 (N:Nat) (i:Nat):(qck N).jn i=qmA i:=rfl
theorem qr6 (N:Nat):(qck N).fuel=N:=rfl
noncomputable def zaO:Code:=cut [true,true,false,true,true,true] (Tryz.f219.body.getD .skip)
theorem zgk {N:Nat} {Q:X→St→Option (qc [i31])} {e:List LV} {h:List Blk}:qf tt qi7 (qck N) zaO Q ⟨e,h⟩=qf tt qi7 (qck N) (cut [true,true,false,true,true,true] (Tryz.f219.body.getD .skip)) Q ⟨e,h⟩:=rfl
theorem zz3 (N:Nat) (v1:List (Val (.slice 108 qa))) (v3:List (Val (.slice 108 qa))) (v4:Int) {k0:Int→Option (qc [i31])} {Q:X→St→Option (qc [i31])} {c:Code} (hc:c=zaO) (hret: ∀st,Q .ret st=qC tt false [i31] [.tmp 2] st) (h0: ∀(v6:Int),Q (.exit 0) ⟨[.one (.sl 31 (.slice 108 qa) v1 0),u,u,.one (.int .i64 v6),u,u,u,u,u,u,u,u,u,u,u,u,u,u,u,u,u,u,u,u,u,u,u,u,u,u,u,u,u,u,u,u],[]⟩=k0 v6): ∀(n:Nat) (v2:Int) (v5:Int),qD (qf tt qi7 (qck N) c) false qvp Q n ⟨[.one (.sl 31 (.slice 108 qa) v1 0),u,u,.one (.int .i64 v2),u,u,u,u,u,.one (.sl 31 (.slice 108 qa) v3 0),.one (.int .i64 v4),.one (.int .i64 v5),u,u,u,u,u,u,u,u,u,u,u,u,u,u,u,u,u,u,u,u,u,u,u,u],[]⟩=qid N v1 v3 v4 k0 n v2 v5:=by
 subst hc;intro n;induction n with
 | zero=>intros;rfl
 | succ n ih=>
   intro v2 v5
   rw [qN,zgk,qid];unfold Tryz.f219
   simp (maxSteps:=10000000) -implicitDefEqProofs [qtc,qiO,qxO,qkZ,qvc,qmE,qxp,qjK,qv8,qmA,qr6,qrd,qsN,qjC,qaa,qsm,qxD,qxK,qy3,qyp,quY,qxt,qvr,qwf,qu1,qqv,qtq,hret,h0,ih]
noncomputable def zam:Code:=cut [true,true,true,true,false,true,true,true] (Tryz.f219.body.getD .skip)
theorem zh7 {N:Nat} {Q:X→St→Option (qc [i31])} {e:List LV} {h:List Blk}:qf tt qi7 (qck N) zam Q ⟨e,h⟩=qf tt qi7 (qck N) (cut [true,true,true,true,false,true,true,true] (Tryz.f219.body.getD .skip)) Q ⟨e,h⟩:=rfl
theorem zhm (N:Nat) (v8:List (Val (.slice 108 qa))) (v9:Int) {k2:(List (Val qa))→Option (qc [i31])} {Q:X→St→Option (qc [i31])} {c:Code} (hc:c=zam) (hret: ∀st,Q .ret st=qC tt false [i31] [.tmp 2] st) (h2: ∀(v12:List (Val qa)),Q (.exit 2) ⟨[u,u,u,u,u,u,.one (.own 0),u,u,u,u,u,u,u,u,u,u,u,u,u,u,u,u,u,u,u,u,u,u,u,u,u,u,u,u,u],[.row 108 qa v12 false true 1]⟩=k2 v12): ∀(n:Nat) (v10:Int) (v11:List (Val qa)),qD (qf tt qi7 (qck N) c) false qyW Q n ⟨[u,u,u,u,u,u,.one (.own 0),u,u,u,u,u,u,u,u,u,u,u,u,u,u,u,u,u,u,.one (.sl 31 (.slice 108 qa) v8 1),.one (.int .i64 v9),.one (.int .i64 v10),u,u,u,u,u,u,u,u],[.row 108 qa v11 false true 1]⟩=qhv N v8 v9 k2 n v10 v11:=by
 subst hc;intro n;induction n with
 | zero=>intros;rfl
 | succ n ih=>
   intro v10 v11
   rw [qN,zh7,qhv];unfold Tryz.f219
   simp (maxSteps:=10000000) -implicitDefEqProofs [qtc,qiO,qxO,qkZ,qvc,qmE,qxp,qjK,qv8,qmA,qr6,qrd,qsN,qjC,qaa,qsm,qxD,qxK,qy3,qyp,quY,qxt,qvr,qwf,qu1,qqv,qtq,hret,h2,ih]
theorem zhB (N:Nat) (v0:List (Val (.slice 108 qa))):qf tt qi7 (qck N) (Tryz.f219.body.getD .skip) (qm tt false [i31] [.tmp 2]) (qp [qGl] 36 (v0,()))=qEI N v0:=by
 unfold Tryz.f219
 simp (maxSteps:=10000000) -implicitDefEqProofs [qtc,qiO,qxO,qkZ,qvc,qmE,qxp,qjK,qv8,qmA,qr6,qrd,qsN,qjC,qaa,qsm,qxD,qxK,qy3,qyp,quY,qxt,qvr,qwf,qu1,qqv,qtq]
 rewrite [zz3 (k0:=(fun (v7:Int)=>chk (0≤v7∧v7≤1048576) (qhv N v0 (v0.length:Int) (fun (v13:List (Val qa))=>some (v13,())) N (0:Int) ([]:List (Val qa))))) N _ _ _ ?_ ?_ ?_]
 ·rewrite [qEI];first | rfl | simp (maxSteps:=10000000) -implicitDefEqProofs []
 ·rfl
 ·intro;simp only [qK,qL,qJ,qB]
 ·intro v7;simp (maxSteps:=10000000) -implicitDefEqProofs [qtc,qiO,qxO,qkZ,qvc,qmE,qxp,qjK,qv8,qmA,qr6,qrd,qsN,qjC,qaa,qsm,qxD,qxK,qy3,qyp,quY,qxt,qvr,qwf,qu1,qqv,qtq]
  rewrite [zhm (k2:=(fun (v13:List (Val qa))=>some (v13,()))) N _ _ ?_ ?_ ?_]
  ·first | rfl | simp (maxSteps:=10000000) -implicitDefEqProofs []
  ·rfl
  ·intro;simp only [qK,qL,qJ,qB]
  ·intro v13;simp (maxSteps:=10000000) -implicitDefEqProofs [qtc,qiO,qxO,qkZ,qvc,qmE,qxp,qjK,qv8,qmA,qr6,qrd,qsN,qjC,qaa,qsm,qxD,qxK,qy3,qyp,quY,qxt,qvr,qwf,qu1,qqv,qtq]
noncomputable def qf8 (N:Nat) (v2:Int) (v3:List (Val qa)) (v4:Int) (v6:Int) (k0:(List (Val qa))→Option (qc [i33])):Nat→Int→(List (Val qa))→Option (qc [i33])
 | 0,_,_=>none
 | n+1,v5,v7=>bif (decide (v5<v4))then (chk (0≤v5∧v5<(v3.length:Int)) (chk (qn4 (v3.getD v5.toNat (qb qa))) (bif (!((qaz (v3.getD v5.toNat (qb qa))):Bool))then (bif (decide ((0:Int)<(((v3.getD v5.toNat (qb qa)).2).1:Int)))then (chk (qcy v2) (some ((((qa8 v2).1:Int),((qa8 v2).2:List (Val qa))),())))else (bif (decide ((((v3.getD v5.toNat (qb qa)).2).1:Int)=(0:Int)))then (bif (((v3.getD v5.toNat (qb qa)).2).2:Bool)then (chk (qcy v2) (some ((((qa8 v2).1:Int),((qa8 v2).2:List (Val qa))),())))else (qf8 N v2 v3 v4 v6 k0 n (IntKind.i64.wrap (v5+(1:Int))) v7))else (qf8 N v2 v3 v4 v6 k0 n (IntKind.i64.wrap (v5+(1:Int))) v7)))else (chk (qbF (v3.getD v5.toNat (qb qa))) (chk (v7.length+([(((idA (v3.getD v5.toNat (qb qa))).1:List (Val (.int .i64))),(((idA (v3.getD v5.toNat (qb qa))).2).1:Int),(((idA (v3.getD v5.toNat (qb qa))).2).2:Bool))]:List (Val qa)).length≤1048576) (qf8 N v2 v3 v4 v6 k0 n (IntKind.i64.wrap (v5+(1:Int))) (v7++([(((idA (v3.getD v5.toNat (qb qa))).1:List (Val (.int .i64))),(((idA (v3.getD v5.toNat (qb qa))).2).1:Int),(((idA (v3.getD v5.toNat (qb qa))).2).2:Bool))]:List (Val qa)))))))))else (k0 v7)
noncomputable def qeA (N:Nat) (v10:Int) (v12:List (Val (hd qa))) (v13:List (Val qa)) (v14:Int) (v15:List (Val (hd qa))) (v16:Int) (k2:(List (Val (hd qa)))→Option (qc [i33])):Nat→Int→(List (Val (hd qa)))→Option (qc [i33])
 | 0,_,_=>none
 | n+1,v11,v17=>bif (decide (v11<v10))then (chk (0≤v11∧v11<(v15.length:Int)) (chk (v11.toNat<v15.length) (bif (decide ((IntKind.i64.wrap (v11+(1:Int)))<(v15.length:Int)))then (chk (0≤(IntKind.i64.wrap (v11+(1:Int)))∧(IntKind.i64.wrap (v11+(1:Int)))<(v15.length:Int)) (chk ((IntKind.i64.wrap (v11+(1:Int))).toNat<v15.length) (chk (q4 qa v13 v12=v12∧((v15.getD v11.toNat (qb (hd qa)))∈v12∧(v15.getD ((IntKind.i64.wrap (v11+(1:Int))).toNat) (qb (hd qa)))∈v12)∧qeq (lk qa v12 v13 (v15.getD v11.toNat (qb (hd qa)))) (lk qa v12 v13 (v15.getD ((IntKind.i64.wrap (v11+(1:Int))).toNat) (qb (hd qa))))) (bif (decide (((qbK (lk qa v12 v13 (v15.getD v11.toNat (qb (hd qa)))) (lk qa v12 v13 (v15.getD ((IntKind.i64.wrap (v11+(1:Int))).toNat) (qb (hd qa))))):Int)=(0:Int)))then (qeA N v10 v12 v13 v14 v15 v16 k2 n (IntKind.i64.wrap (v11+(1:Int))) v17)else (chk (v17.length+([(v15.getD v11.toNat (qb (hd qa)))]:List (Val (hd qa))).length≤1048576) (qeA N v10 v12 v13 v14 v15 v16 k2 n (IntKind.i64.wrap (v11+(1:Int))) (v17++([(v15.getD v11.toNat (qb (hd qa)))]:List (Val (hd qa))))))))))else (chk (v17.length+([(v15.getD v11.toNat (qb (hd qa)))]:List (Val (hd qa))).length≤1048576) (qeA N v10 v12 v13 v14 v15 v16 k2 n (IntKind.i64.wrap (v11+(1:Int))) (v17++([(v15.getD v11.toNat (qb (hd qa)))]:List (Val (hd qa)))))))))else (k2 v17)
noncomputable def qzk (N:Nat) (v0:Int) (v1:List (Val qa)):Option (qc [i33]):=qf8 N v0 v1 (v1.length:Int) (0:Int) (fun (v9:List (Val qa))=>chk (qfa.pre v9) (qeH (fun p1:List Nat×List (Val (hd qa))=>qdR qa p1.2 (qaO v9)) (fun p1=>qeA N (p1.2.length:Int) p1.2 (qaO v9) (0:Int) p1.2 v0 (fun (v19:List (Val (hd qa)))=>chk (v19=(qcO (qaO v9)).map (fun i=>p1.2.getD i (qb (hd qa)))∧(qcO (qaO v9)).Nodup∧(∀i∈(qcO (qaO v9)),i<(qaO v9).length)∧q4 qa (qaO v9) p1.2=p1.2∧p1.2.length=(qaO v9).length) (some ((v0,((qcO (qaO v9)).map (fun i=>(qaO v9).getD i (qb qa)))),()))) N (0:Int) ([]:List (Val (hd qa)))))) N (0:Int) ([]:List (Val qa))
def qer:Gam:=[(213,qbT),(236,qdH),(287,qeF),(290,qeQ)]
theorem qvG:Gam.get qer 213=some qbT:=rfl
theorem qpK:Gam.get qer 236=some qdH:=rfl
theorem qxS:Gam.get qer 287=some qeF:=rfl
theorem qyc:Gam.get qer 290=some qeQ:=rfl
def qsF:Nm:=⟨[true,false,false,false,true,true,false,false,false,false,false,false,true,true,true],[],false⟩
theorem quB:qsF.zero=false:=rfl
theorem qv4:qsF.fix=[]:=rfl
theorem qqy:qsF.keep=[true,false,false,false,true,true,false,false,false,false,false,false,true,true,true]:=rfl
def qtN:Nm:=⟨[false,false,false,false,true,true,false,false,true,false,false,false,false,false,false,false,false,false,false,false,false,false,false,false,false,false,false,false,false,false,false,false,false,false,false,false,false,false,false,false,false,false,false,false,false,false,true,true,true],[],false⟩
theorem qqj:qtN.zero=false:=rfl
theorem qx2:qtN.fix=[]:=rfl
theorem qwH:qtN.keep=[false,false,false,false,true,true,false,false,true,false,false,false,false,false,false,false,false,false,false,false,false,false,false,false,false,false,false,false,false,false,false,false,false,false,false,false,false,false,false,false,false,false,false,false,false,false,true,true,true]:=rfl
def qES:Nm:=⟨[true,false,false,false,true,true],[],false⟩
theorem qqa:qES.zero=false:=rfl
theorem qvB:qES.fix=[]:=rfl
theorem qry:qES.keep=[true,false,false,false,true,true]:=rfl
def qCp:Nm:=⟨[false,false,false,false,true,false,false,false,true],[],false⟩
theorem qpI:qCp.zero=false:=rfl
theorem qvo:qCp.fix=[]:=rfl
theorem qrq:qCp.keep=[false,false,false,false,true,false,false,false,true]:=rfl
def qhM:Nat→Tree:=fun i=>if i=15 then .quiet 0 (.quiet 1 (.quiet 2 (.quiet 3 (.quiet 4 (.quiet 5 (.quiet 6 (.quiet 7 (.quiet 8 (.quiet 9 (.quiet 10 (.quiet 11 (.alt 12 (.quiet 13 (.quiet 14 .done)) .stop))))))))))))else .done
def qjd:Nat→Nm:=fun i=>if i=3 then qsF else if i=13 then qtN else ⟨[],[],false⟩
noncomputable def qkR:Sem:=qom [(288,.sr qfa)]
noncomputable def qg4:Nat→Option Jn:=fun i=>if i=11 then some (.at none (some ttH))else if i=12 then some (.at (some (.opn 1 qa)) none)else if i=16 then some (.at none (some ttH))else if i=18 then some (.at (some (.cls 3 0 qa qcO)) none)else none
def qld:Nat→Option Nm:=fun i=>if i=0 then some qES else if i=2 then some qCp else none
def qjW:Nat→Option Nm:=fun _=>none
theorem znz:qh qhM (Tryz.f230.body.getD .skip)=true:=by kernel_rfl
noncomputable def qco (N:Nat):Tab:={tr:=qhM,lp:=qjd,ex:=qld,rg:=qjW,jn:=qg4,fuel:=N,sem:=qkR}
theorem qu9 (N:Nat):(qco N).pins=false:=rfl
theorem zvL (N:Nat):qk Tryz.prog (qco N):=fun id j t h ht=>by
 have h:qg4 id=_:=h
 unfold qg4 at h
 repeat' split at h
 all_goals first | (simp at h;done) | (simp only [Option.some.injEq]at h;subst h;simp [Jn.tb]at ht;done) | (simp only [Option.some.injEq]at h;subst h;simp only [Jn.tb,Option.some.injEq]at ht;subst ht;exact hTH)
theorem qsO (N:Nat):(qco N).sem=qkR:=rfl
theorem qp3 (N:Nat) (i:Nat):(qco N).tr i=qhM i:=rfl
theorem qx8 (N:Nat) (i:Nat):(qco N).lp i=qjd i:=rfl
theorem qv9 (N:Nat) (i:Nat):(qco N).ex i=qld i:=rfl
theorem qpR (N:Nat) (i:Nat):(qco N).rg i=qjW i:=rfl
theorem qts (N:Nat) (i:Nat):(qco N).jn i=qg4 i:=rfl
theorem qxV (N:Nat):(qco N).fuel=N:=rfl
noncomputable def q6e:Code:=cut [true,true,false,true,true,true] (Tryz.f230.body.getD .skip)
theorem zwh {N:Nat} {Q:X→St→Option (qc [i33])} {e:List LV} {h:List Blk}:qf tt qer (qco N) q6e Q ⟨e,h⟩=qf tt qer (qco N) (cut [true,true,false,true,true,true] (Tryz.f230.body.getD .skip)) Q ⟨e,h⟩:=rfl
theorem zm5 (N:Nat) (v2:Int) (v3:List (Val qa)) (v4:Int) (v6:Int) {k0:(List (Val qa))→Option (qc [i33])} {Q:X→St→Option (qc [i33])} {c:Code} (hc:c=q6e) (hret: ∀st,Q .ret st=qC tt true [i33] [.cell 4 33] st) (h0: ∀(v8:List (Val qa)),Q (.exit 0) ⟨[.one (.int .i64 v2),u,u,u,.one (.ptr 0 0 0),.one (.own 1),u,u,u,u,u,u,u,u,u,u,u,u,u,u,u,u,u,u,u,u,u,u,u,u,u,u,u,u,u,u,u,u,u,u,u,u,u,u,u,u,u,u,u,u,u,u,u,u,u,u,u,u,u,u,u,u,u,u,u,u,u,u,u,u,u,u,u,u,u,u],[.box [.int .i64 v6,.nils],.row 108 qa v8 true true 0]⟩=k0 v8): ∀(n:Nat) (v5:Int) (v7:List (Val qa)),qD (qf tt qer (qco N) c) false qsF Q n ⟨[.one (.int .i64 v2),u,u,u,.one (.ptr 0 0 0),.one (.own 1),u,u,u,u,u,u,.one (.sl 108 qa v3 2),.one (.int .i64 v4),.one (.int .i64 v5),u,u,u,u,u,u,u,u,u,u,u,u,u,u,u,u,u,u,u,u,u,u,u,u,u,u,u,u,u,u,u,u,u,u,u,u,u,u,u,u,u,u,u,u,u,u,u,u,u,u,u,u,u,u,u,u,u,u,u,u,u],[.box [.int .i64 v6,.nils],.row 108 qa v7 true true 0]⟩=qf8 N v2 v3 v4 v6 k0 n v5 v7:=by
 subst hc;intro n;induction n with
 | zero=>intros;rfl
 | succ n ih=>
   intro v5 v7
   rw [qN,zwh,qf8];unfold Tryz.f230
   simp (maxSteps:=10000000) -implicitDefEqProofs [qp3,qhM,qx8,qjd,qv9,qld,qpR,qjW,qts,qg4,qxV,qu9,qsO,qkR,qaa,qfa,qaE (id:=11),qaD (id:=11),qaE (id:=12),qaD (id:=12),qaE (id:=16),qaD (id:=16),qaE (id:=18),qaD (id:=18),qv4,qqy,quB,qx2,qwH,qqj,qvB,qry,qqa,qvo,qrq,qpI,qvG,qpK,qxS,qyc,qbT,qdH,qeF,qeQ,hret,h0,ih]
noncomputable def zaW:Code:=cut [true,true,true,true,true,false,true,true,true] (Tryz.f230.body.getD .skip)
theorem zyw {N:Nat} {Q:X→St→Option (qc [i33])} {e:List LV} {h:List Blk}:qf tt qer (qco N) zaW Q ⟨e,h⟩=qf tt qer (qco N) (cut [true,true,true,true,true,false,true,true,true] (Tryz.f230.body.getD .skip)) Q ⟨e,h⟩:=rfl
theorem zrA (N:Nat) (F:List Nat) (v10:Int) (v12:List (Val (hd qa))) (v13:List (Val qa)) (v14:Int) (v15:List (Val (hd qa))) (v16:Int) {k2:(List (Val (hd qa)))→Option (qc [i33])} {Q:X→St→Option (qc [i33])} {c:Code} (hc:c=zaW) (hret: ∀st,Q .ret st=qC tt true [i33] [.cell 4 33] st) (h2: ∀(v18:List (Val (hd qa))),Q (.exit 2) ⟨[u,u,u,u,.one (.ptr 1 0 0),u,u,u,.one (.ptr 2 0 0),u,u,u,u,u,u,u,u,u,u,u,u,u,u,u,u,u,u,u,u,u,u,u,u,u,u,u,u,u,u,u,u,u,u,u,u,u,u,u,u,u,u,u,u,u,u,u,u,u,u,u,u,u,u,u,u,u,u,u,u,u,u,u,u,u,u,u],[.nst F qa v12 v13,.box [.int .i64 v14,.nils],.box [.int .i64 v16,.own 3],.row 108 (hd qa) v18 true true 0]⟩=k2 v18): ∀(n:Nat) (v11:Int) (v17:List (Val (hd qa))),qD (qf tt qer (qco N) c) false qtN Q n ⟨[u,u,u,u,.one (.ptr 1 0 0),.one (.own 2),u,u,.one (.ptr 3 0 0),u,u,u,u,u,u,u,u,u,u,u,u,u,u,u,u,u,u,u,u,u,u,u,u,u,u,u,u,u,u,u,u,u,u,u,u,u,.one (.own 2),.one (.int .i64 v10),.one (.int .i64 v11),u,u,u,u,u,u,u,u,u,u,u,u,u,u,u,u,u,u,u,u,u,u,u,u,u,u,u],[.nst F qa v12 v13,.box [.int .i64 v14,.nils],.row 108 (hd qa) v15 true true 0,.box [.int .i64 v16,.own 4],.row 108 (hd qa) v17 true true 0]⟩=qeA N v10 v12 v13 v14 v15 v16 k2 n v11 v17:=by
 subst hc;intro n;induction n with
 | zero=>intros;rfl
 | succ n ih=>
   intro v11 v17
   rw [qN,zyw,qeA];unfold Tryz.f230
   simp (maxSteps:=10000000) -implicitDefEqProofs [qp3,qhM,qx8,qjd,qv9,qld,qpR,qjW,qts,qg4,qxV,qu9,qsO,qkR,qaa,qfa,qaE (id:=11),qaD (id:=11),qaE (id:=12),qaD (id:=12),qaE (id:=16),qaD (id:=16),qaE (id:=18),qaD (id:=18),qv4,qqy,quB,qx2,qwH,qqj,qvB,qry,qqa,qvo,qrq,qpI,qvG,qpK,qxS,qyc,qbT,qdH,qeF,qeQ,hret,h2,ih]
theorem ztq (N:Nat) (v0:Int) (v1:List (Val qa)):qf tt qer (qco N) (Tryz.f230.body.getD .skip) (qm tt true [i33] [.cell 4 33]) (qp [i3,i31] 76 (v0,v1,()))=qzk N v0 v1:=by
 unfold Tryz.f230
 simp (maxSteps:=10000000) -implicitDefEqProofs [qp3,qhM,qx8,qjd,qv9,qld,qpR,qjW,qts,qg4,qxV,qu9,qsO,qkR,qaa,qfa,qaE (id:=11),qaD (id:=11),qaE (id:=12),qaD (id:=12),qaE (id:=16),qaD (id:=16),qaE (id:=18),qaD (id:=18),qv4,qqy,quB,qx2,qwH,qqj,qvB,qry,qqa,qvo,qrq,qpI,qvG,qpK,qxS,qyc,qbT,qdH,qeF,qeQ]
 rewrite [zm5 (k0:=(fun (v9:List (Val qa))=>chk (qfa.pre v9) (qeH (fun p1:List Nat×List (Val (hd qa))=>qdR qa p1.2 (qaO v9)) (fun p1=>qeA N (p1.2.length:Int) p1.2 (qaO v9) (0:Int) p1.2 v0 (fun (v19:List (Val (hd qa)))=>chk (v19=(qcO (qaO v9)).map (fun i=>p1.2.getD i (qb (hd qa)))∧(qcO (qaO v9)).Nodup∧(∀i∈(qcO (qaO v9)),i<(qaO v9).length)∧q4 qa (qaO v9) p1.2=p1.2∧p1.2.length=(qaO v9).length) (some ((v0,((qcO (qaO v9)).map (fun i=>(qaO v9).getD i (qb qa)))),()))) N (0:Int) ([]:List (Val (hd qa))))))) N _ _ _ _ ?_ ?_ ?_]
 ·rewrite [qzk];first | rfl | simp (maxSteps:=10000000) -implicitDefEqProofs []
 ·rfl
 ·intro;simp only [qK,qL,qJ,qB]
 ·intro v9;simp (maxSteps:=10000000) -implicitDefEqProofs [qp3,qhM,qx8,qjd,qv9,qld,qpR,qjW,qts,qg4,qxV,qu9,qsO,qkR,qaa,qfa,qaE (id:=11),qaD (id:=11),qaE (id:=12),qaD (id:=12),qaE (id:=16),qaD (id:=16),qaE (id:=18),qaD (id:=18),qv4,qqy,quB,qx2,qwH,qqj,qvB,qry,qqa,qvo,qrq,qpI,qvG,qpK,qxS,qyc,qbT,qdH,qeF,qeQ]
  repeat' (first | refine zaX fun _=> ?_ | refine q8N fun p1 _=> ?_)
  rewrite [zrA (k2:=(fun (v19:List (Val (hd qa)))=>chk (v19=(qcO (qaO v9)).map (fun i=>p1.2.getD i (qb (hd qa)))∧(qcO (qaO v9)).Nodup∧(∀i∈(qcO (qaO v9)),i<(qaO v9).length)∧q4 qa (qaO v9) p1.2=p1.2∧p1.2.length=(qaO v9).length) (some ((v0,((qcO (qaO v9)).map (fun i=>(qaO v9).getD i (qb qa)))),())))) N _ _ _ _ _ _ _ ?_ ?_ ?_]
  ·first | rfl | simp (maxSteps:=10000000) -implicitDefEqProofs []
  ·rfl
  ·intro;simp only [qK,qL,qJ,qB]
  ·intro v19;simp (maxSteps:=10000000) -implicitDefEqProofs [qp3,qhM,qx8,qjd,qv9,qld,qpR,qjW,qts,qg4,qxV,qu9,qsO,qkR,qaa,qfa,qaE (id:=11),qaD (id:=11),qaE (id:=12),qaD (id:=12),qaE (id:=16),qaD (id:=16),qaE (id:=18),qaD (id:=18),qv4,qqy,quB,qx2,qwH,qqj,qvB,qry,qqa,qvo,qrq,qpI,qvG,qpK,qxS,qyc,qbT,qdH,qeF,qeQ]
end Go.T
