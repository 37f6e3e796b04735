/- Normal cells. -/
import Derived.Test.YthefcjjgchekiaaGreatB2
set_option linter.unusedSimpArgs false
set_option linter.unusedVariables false
namespace Go.T
open Go Go.Proofs
set_option maxHeartbeats 4000000
set_option maxRecDepth 100000
noncomputable def qfp (N:Nat) (v2:Int) (v3:List (Val qa)) (v4:Int) (v6:Int) (k0:(List (Val qa))→Option (qc [i33])):Nat→Int→(List (Val qa))→Option (qc [i33])
 | 0,_,_=>none
 | n+1,v5,v7=>bif (decide (v5<v4))then (chk (0≤v5∧v5<(v3.length:Int)) (chk (qmV (v3.getD v5.toNat (qb qa))) (bif (!((q8 (v3.getD v5.toNat (qb qa))):Bool))then (bif (decide ((0:Int)<(((v3.getD v5.toNat (qb qa)).2).1:Int)))then (chk (qhm v2) (some ((((qbJ v2).1:Int),((qbJ v2).2:List (Val qa))),())))else (bif (decide ((((v3.getD v5.toNat (qb qa)).2).1:Int)=(0:Int)))then (bif (((v3.getD v5.toNat (qb qa)).2).2:Bool)then (chk (qhm v2) (some ((((qbJ v2).1:Int),((qbJ v2).2:List (Val qa))),())))else (qfp N v2 v3 v4 v6 k0 n (IntKind.i64.wrap (v5+(1:Int))) v7))else (qfp N v2 v3 v4 v6 k0 n (IntKind.i64.wrap (v5+(1:Int))) v7)))else (chk (qbu (v3.getD v5.toNat (qb qa))) (chk (v7.length+([(((idA (v3.getD v5.toNat (qb qa))).1:List (Val (.int .i64))),(((idA (v3.getD v5.toNat (qb qa))).2).1:Int),(((idA (v3.getD v5.toNat (qb qa))).2).2:Bool))]:List (Val qa)).length≤1048576) (qfp N v2 v3 v4 v6 k0 n (IntKind.i64.wrap (v5+(1:Int))) (v7++([(((idA (v3.getD v5.toNat (qb qa))).1:List (Val (.int .i64))),(((idA (v3.getD v5.toNat (qb qa))).2).1:Int),(((idA (v3.getD v5.toNat (qb qa))).2).2:Bool))]:List (Val qa)))))))))else (k0 v7)
noncomputable def qel (N:Nat) (v10:Int) (v12:List (Val (hd qa))) (v13:List (Val qa)) (v14:Int) (v15:List (Val (hd qa))) (v16:Int) (k2:(List (Val (hd qa)))→Option (qc [i33])):Nat→Int→(List (Val (hd qa)))→Option (qc [i33])
 | 0,_,_=>none
 | n+1,v11,v17=>bif (decide (v11<v10))then (chk (0≤v11∧v11<(v15.length:Int)) (chk (v11.toNat<v15.length) (bif (decide ((IntKind.i64.wrap (v11+(1:Int)))<(v15.length:Int)))then (chk (0≤(IntKind.i64.wrap (v11+(1:Int)))∧(IntKind.i64.wrap (v11+(1:Int)))<(v15.length:Int)) (chk ((IntKind.i64.wrap (v11+(1:Int))).toNat<v15.length) (chk (qX qa v13 v12=v12∧((v15.getD v11.toNat (qb (hd qa)))∈v12∧(v15.getD ((IntKind.i64.wrap (v11+(1:Int))).toNat) (qb (hd qa)))∈v12)∧qd2 (lk qa v12 v13 (v15.getD v11.toNat (qb (hd qa)))) (lk qa v12 v13 (v15.getD ((IntKind.i64.wrap (v11+(1:Int))).toNat) (qb (hd qa))))) (bif (decide (((qbw (lk qa v12 v13 (v15.getD v11.toNat (qb (hd qa)))) (lk qa v12 v13 (v15.getD ((IntKind.i64.wrap (v11+(1:Int))).toNat) (qb (hd qa))))):Int)=(0:Int)))then (qel N v10 v12 v13 v14 v15 v16 k2 n (IntKind.i64.wrap (v11+(1:Int))) v17)else (chk (v17.length+([(v15.getD v11.toNat (qb (hd qa)))]:List (Val (hd qa))).length≤1048576) (qel N v10 v12 v13 v14 v15 v16 k2 n (IntKind.i64.wrap (v11+(1:Int))) (v17++([(v15.getD v11.toNat (qb (hd qa)))]:List (Val (hd qa))))))))))else (chk (v17.length+([(v15.getD v11.toNat (qb (hd qa)))]:List (Val (hd qa))).length≤1048576) (qel N v10 v12 v13 v14 v15 v16 k2 n (IntKind.i64.wrap (v11+(1:Int))) (v17++([(v15.getD v11.toNat (qb (hd qa)))]:List (Val (hd qa)))))))))else (k2 v17)
noncomputable def qxS (N:Nat) (v0:Int) (v1:List (Val qa)):Option (qc [i33]):=qfp N v0 v1 (v1.length:Int) (0:Int) (fun (v9:List (Val qa))=>chk (qfQ.pre v9) (qeL (fun p1:List Nat×List (Val (hd qa))=>qeg qa p1.2 (qaC v9)) (fun p1=>qel N (p1.2.length:Int) p1.2 (qaC v9) (0:Int) p1.2 v0 (fun (v19:List (Val (hd qa)))=>chk (v19=(qcv (qaC v9)).map (fun i=>p1.2.getD i (qb (hd qa)))∧(qcv (qaC v9)).Nodup∧(∀i∈(qcv (qaC v9)),i<(qaC v9).length)∧qX qa (qaC v9) p1.2=p1.2∧p1.2.length=(qaC v9).length) (some ((v0,((qcv (qaC v9)).map (fun i=>(qaC v9).getD i (qb qa)))),()))) N (0:Int) ([]:List (Val (hd qa)))))) N (0:Int) ([]:List (Val qa))
def qeh:Gam:=[(213,qjg),(236,qbU),(287,qeP),(290,qe1)]
theorem qq5:Gam.get qeh 213=some qjg:=rfl
theorem que:Gam.get qeh 236=some qbU:=rfl
theorem qpE:Gam.get qeh 287=some qeP:=rfl
theorem quJ:Gam.get qeh 290=some qe1:=rfl
def qt7:Nm:=⟨[true,false,false,false,true,true,false,false,false,false,false,false,true,true,true],[],false⟩
theorem quk:qt7.zero=false:=rfl
theorem qsY:qt7.fix=[]:=rfl
theorem qra:qt7.keep=[true,false,false,false,true,true,false,false,false,false,false,false,true,true,true]:=rfl
def qvZ:Nm:=⟨[false,false,false,false,true,true,false,false,true,false,false,false,false,false,false,false,false,false,false,false,false,false,false,false,false,false,false,false,false,false,false,false,false,false,false,false,false,false,false,false,false,false,false,false,false,false,true,true,true],[],false⟩
theorem qp2:qvZ.zero=false:=rfl
theorem qrM:qvZ.fix=[]:=rfl
theorem qwz:qvZ.keep=[false,false,false,false,true,true,false,false,true,false,false,false,false,false,false,false,false,false,false,false,false,false,false,false,false,false,false,false,false,false,false,false,false,false,false,false,false,false,false,false,false,false,false,false,false,false,true,true,true]:=rfl
def qzF:Nm:=⟨[true,false,false,false,true,true],[],false⟩
theorem qxo:qzF.zero=false:=rfl
theorem qrl:qzF.fix=[]:=rfl
theorem qtr:qzF.keep=[true,false,false,false,true,true]:=rfl
def qzd:Nm:=⟨[false,false,false,false,true,false,false,false,true],[],false⟩
theorem qtg:qzd.zero=false:=rfl
theorem qr3:qzd.fix=[]:=rfl
theorem qvl:qzd.keep=[false,false,false,false,true,false,false,false,true]:=rfl
def qiG:Nat→Tree:=fun i=>if i=15 then .quiet 0 (.quiet 1 (.quiet 2 (.quiet 3 (.quiet 4 (.quiet 5 (.quiet 6 (.quiet 7 (.quiet 8 (.quiet 9 (.quiet 10 (.quiet 11 (.alt 12 (.quiet 13 (.quiet 14 .done)) .stop))))))))))))else .done
def qmv:Nat→Nm:=fun i=>if i=3 then qt7 else if i=13 then qvZ else ⟨[],[],false⟩
noncomputable def qmh:Sem:=qEu [(288,.sr qfQ)]
noncomputable def qhb:Nat→Option Jn:=fun i=>if i=11 then some (.at none (some ttH))else if i=12 then some (.at (some (.opn 1 qa)) none)else if i=16 then some (.at none (some ttH))else if i=18 then some (.at (some (.cls 3 0 qa qcv)) none)else none
def qmf:Nat→Option Nm:=fun i=>if i=0 then some qzF else if i=2 then some qzd else none
def qln:Nat→Option Nm:=fun _=>none
theorem zdN:qn qiG (Tryz.f230.body.getD .skip)=true:=by kernel_rfl
noncomputable def qb3 (N:Nat):Tab:={tr:=qiG,lp:=qmv,ex:=qmf,rg:=qln,jn:=qhb,fuel:=N,sem:=qmh}
theorem qsU (N:Nat):(qb3 N).pins=false:=rfl
theorem zin (N:Nat):qp Tryz.prog (qb3 N):=fun id j t h ht=>by
 have h:qhb id=_:=h
 unfold qhb at h
 repeat' split at h
 all_goals first | (simp at h;done) | (simp only [Option.some.injEq]at h;subst h;simp [Jn.tb]at ht;done) | (simp only [Option.some.injEq]at h;subst h;simp only [Jn.tb,Option.some.injEq]at ht;subst ht;exact hTH)
theorem qvR (N:Nat):(qb3 N).sem=qmh:=rfl
theorem qrK (N:Nat) (i:Nat):(qb3 N).tr i=qiG i:=rfl
theorem qrm (N:Nat) (i:Nat):(qb3 N).lp i=qmv i:=rfl
theorem qtM (N:Nat) (i:Nat):(qb3 N).ex i=qmf i:=rfl
theorem qu3 (N:Nat) (i:Nat):(qb3 N).rg i=qln i:=rfl
theorem qxi (N:Nat) (i:Nat):(qb3 N).jn i=qhb i:=rfl
theorem qqf (N:Nat):(qb3 N).fuel=N:=rfl
noncomputable def qZD:Code:=cut [true,true,false,true,true,true] (Tryz.f230.body.getD .skip)
theorem zjL {N:Nat} {Q:X→St→Option (qc [i33])} {e:List LV} {h:List Blk}:qe tt qeh (qb3 N) qZD Q ⟨e,h⟩=qe tt qeh (qb3 N) (cut [true,true,false,true,true,true] (Tryz.f230.body.getD .skip)) Q ⟨e,h⟩:=rfl
theorem q7Z (N:Nat) (v2:Int) (v3:List (Val qa)) (v4:Int) (v6:Int) {k0:(List (Val qa))→Option (qc [i33])} {Q:X→St→Option (qc [i33])} {c:Code} (hc:c=qZD) (hret: ∀st,Q .ret st=qI tt true [i33] [.cell 4 33] st) (h0: ∀(v8:List (Val qa)),Q (.exit 0) ⟨[.one (.int .i64 v2),u,u,u,.one (.ptr 0 0 0),.one (.own 1),u,u,u,u,u,u,u,u,u,u,u,u,u,u,u,u,u,u,u,u,u,u,u,u,u,u,u,u,u,u,u,u,u,u,u,u,u,u,u,u,u,u,u,u,u,u,u,u,u,u,u,u,u,u,u,u,u,u,u,u,u,u,u,u,u,u,u,u,u,u],[.box [.int .i64 v6,.nils],.row 108 qa v8 true true 0]⟩=k0 v8): ∀(n:Nat) (v5:Int) (v7:List (Val qa)),qE (qe tt qeh (qb3 N) c) false qt7 Q n ⟨[.one (.int .i64 v2),u,u,u,.one (.ptr 0 0 0),.one (.own 1),u,u,u,u,u,u,.one (.sl 108 qa v3 2),.one (.int .i64 v4),.one (.int .i64 v5),u,u,u,u,u,u,u,u,u,u,u,u,u,u,u,u,u,u,u,u,u,u,u,u,u,u,u,u,u,u,u,u,u,u,u,u,u,u,u,u,u,u,u,u,u,u,u,u,u,u,u,u,u,u,u,u,u,u,u,u,u],[.box [.int .i64 v6,.nils],.row 108 qa v7 true true 0]⟩=qfp N v2 v3 v4 v6 k0 n v5 v7:=by
 subst hc;intro n;induction n with
 | zero=>intros;rfl
 | succ n ih=>
   intro v5 v7
   rw [qN,zjL,qfp];unfold Tryz.f230
   simp (maxSteps:=10000000) -implicitDefEqProofs [qrK,qiG,qrm,qmv,qtM,qmf,qu3,qln,qxi,qhb,qqf,qsU,qvR,qmh,qbc,qfQ,qaX (id:=11),qaZ (id:=11),qaX (id:=12),qaZ (id:=12),qaX (id:=16),qaZ (id:=16),qaX (id:=18),qaZ (id:=18),qsY,qra,quk,qrM,qwz,qp2,qrl,qtr,qxo,qr3,qvl,qtg,qq5,que,qpE,quJ,qjg,qbU,qeP,qe1,hret,h0,ih]
noncomputable def q0g:Code:=cut [true,true,true,true,true,false,true,true,true] (Tryz.f230.body.getD .skip)
theorem zoc {N:Nat} {Q:X→St→Option (qc [i33])} {e:List LV} {h:List Blk}:qe tt qeh (qb3 N) q0g Q ⟨e,h⟩=qe tt qeh (qb3 N) (cut [true,true,true,true,true,false,true,true,true] (Tryz.f230.body.getD .skip)) Q ⟨e,h⟩:=rfl
theorem zaD (N:Nat) (F:List Nat) (v10:Int) (v12:List (Val (hd qa))) (v13:List (Val qa)) (v14:Int) (v15:List (Val (hd qa))) (v16:Int) {k2:(List (Val (hd qa)))→Option (qc [i33])} {Q:X→St→Option (qc [i33])} {c:Code} (hc:c=q0g) (hret: ∀st,Q .ret st=qI tt true [i33] [.cell 4 33] st) (h2: ∀(v18:List (Val (hd qa))),Q (.exit 2) ⟨[u,u,u,u,.one (.ptr 1 0 0),u,u,u,.one (.ptr 2 0 0),u,u,u,u,u,u,u,u,u,u,u,u,u,u,u,u,u,u,u,u,u,u,u,u,u,u,u,u,u,u,u,u,u,u,u,u,u,u,u,u,u,u,u,u,u,u,u,u,u,u,u,u,u,u,u,u,u,u,u,u,u,u,u,u,u,u,u],[.nst F qa v12 v13,.box [.int .i64 v14,.nils],.box [.int .i64 v16,.own 3],.row 108 (hd qa) v18 true true 0]⟩=k2 v18): ∀(n:Nat) (v11:Int) (v17:List (Val (hd qa))),qE (qe tt qeh (qb3 N) c) false qvZ Q n ⟨[u,u,u,u,.one (.ptr 1 0 0),.one (.own 2),u,u,.one (.ptr 3 0 0),u,u,u,u,u,u,u,u,u,u,u,u,u,u,u,u,u,u,u,u,u,u,u,u,u,u,u,u,u,u,u,u,u,u,u,u,u,.one (.own 2),.one (.int .i64 v10),.one (.int .i64 v11),u,u,u,u,u,u,u,u,u,u,u,u,u,u,u,u,u,u,u,u,u,u,u,u,u,u,u],[.nst F qa v12 v13,.box [.int .i64 v14,.nils],.row 108 (hd qa) v15 true true 0,.box [.int .i64 v16,.own 4],.row 108 (hd qa) v17 true true 0]⟩=qel N v10 v12 v13 v14 v15 v16 k2 n v11 v17:=by
 subst hc;intro n;induction n with
 | zero=>intros;rfl
 | succ n ih=>
   intro v11 v17
   rw [qN,zoc,qel];unfold Tryz.f230
   simp (maxSteps:=10000000) -implicitDefEqProofs [qrK,qiG,qrm,qmv,qtM,qmf,qu3,qln,qxi,qhb,qqf,qsU,qvR,qmh,qbc,qfQ,qaX (id:=11),qaZ (id:=11),qaX (id:=12),qaZ (id:=12),qaX (id:=16),qaZ (id:=16),qaX (id:=18),qaZ (id:=18),qsY,qra,quk,qrM,qwz,qp2,qrl,qtr,qxo,qr3,qvl,qtg,qq5,que,qpE,quJ,qjg,qbU,qeP,qe1,hret,h2,ih]
theorem q9E (N:Nat) (v0:Int) (v1:List (Val qa)):qe tt qeh (qb3 N) (Tryz.f230.body.getD .skip) (qt tt true [i33] [.cell 4 33]) (qw [i3,i31] 76 (v0,v1,()))=qxS N v0 v1:=by
 unfold Tryz.f230
 simp (maxSteps:=10000000) -implicitDefEqProofs [qrK,qiG,qrm,qmv,qtM,qmf,qu3,qln,qxi,qhb,qqf,qsU,qvR,qmh,qbc,qfQ,qaX (id:=11),qaZ (id:=11),qaX (id:=12),qaZ (id:=12),qaX (id:=16),qaZ (id:=16),qaX (id:=18),qaZ (id:=18),qsY,qra,quk,qrM,qwz,qp2,qrl,qtr,qxo,qr3,qvl,qtg,qq5,que,qpE,quJ,qjg,qbU,qeP,qe1]
 rewrite [q7Z (k0:=(fun (v9:List (Val qa))=>chk (qfQ.pre v9) (qeL (fun p1:List Nat×List (Val (hd qa))=>qeg qa p1.2 (qaC v9)) (fun p1=>qel N (p1.2.length:Int) p1.2 (qaC v9) (0:Int) p1.2 v0 (fun (v19:List (Val (hd qa)))=>chk (v19=(qcv (qaC v9)).map (fun i=>p1.2.getD i (qb (hd qa)))∧(qcv (qaC v9)).Nodup∧(∀i∈(qcv (qaC v9)),i<(qaC v9).length)∧qX qa (qaC v9) p1.2=p1.2∧p1.2.length=(qaC v9).length) (some ((v0,((qcv (qaC v9)).map (fun i=>(qaC v9).getD i (qb qa)))),()))) N (0:Int) ([]:List (Val (hd qa))))))) N _ _ _ _ ?_ ?_ ?_]
 ·rewrite [qxS];first | rfl | simp (maxSteps:=10000000) -implicitDefEqProofs []
 ·rfl
 ·intro;simp only [qJ,qL,qK,qB]
 ·intro v9;simp (maxSteps:=10000000) -implicitDefEqProofs [qrK,qiG,qrm,qmv,qtM,qmf,qu3,qln,qxi,qhb,qqf,qsU,qvR,qmh,qbc,qfQ,qaX (id:=11),qaZ (id:=11),qaX (id:=12),qaZ (id:=12),qaX (id:=16),qaZ (id:=16),qaX (id:=18),qaZ (id:=18),qsY,qra,quk,qrM,qwz,qp2,qrl,qtr,qxo,qr3,qvl,qtg,qq5,que,qpE,quJ,qjg,qbU,qeP,qe1]
  repeat' (first | refine q3L fun _=> ?_ | refine q3e fun p1 _=> ?_)
  rewrite [zaD (k2:=(fun (v19:List (Val (hd qa)))=>chk (v19=(qcv (qaC v9)).map (fun i=>p1.2.getD i (qb (hd qa)))∧(qcv (qaC v9)).Nodup∧(∀i∈(qcv (qaC v9)),i<(qaC v9).length)∧qX qa (qaC v9) p1.2=p1.2∧p1.2.length=(qaC v9).length) (some ((v0,((qcv (qaC v9)).map (fun i=>(qaC v9).getD i (qb qa)))),())))) N _ _ _ _ _ _ _ ?_ ?_ ?_]
  ·first | rfl | simp (maxSteps:=10000000) -implicitDefEqProofs []
  ·rfl
  ·intro;simp only [qJ,qL,qK,qB]
  ·intro v19;simp (maxSteps:=10000000) -implicitDefEqProofs [qrK,qiG,qrm,qmv,qtM,qmf,qu3,qln,qxi,qhb,qqf,qsU,qvR,qmh,qbc,qfQ,qaX (id:=11),qaZ (id:=11),qaX (id:=12),qaZ (id:=12),qaX (id:=16),qaZ (id:=16),qaX (id:=18),qaZ (id:=18),qsY,qra,quk,qrM,qwz,qp2,qrl,qtr,qxo,qr3,qvl,qtg,qq5,que,qpE,quJ,qjg,qbU,qeP,qe1]
end Go.T
