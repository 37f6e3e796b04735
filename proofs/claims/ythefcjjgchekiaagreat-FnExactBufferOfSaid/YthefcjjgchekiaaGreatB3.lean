/- Normal cells. -/
import Derived.Test.YthefcjjgchekiaaGreatB2
set_option linter.unusedSimpArgs false
set_option linter.unusedVariables false
namespace Go.T
open Go Go.Proofs
set_option maxHeartbeats 4000000
set_option maxRecDepth 100000
noncomputable def qiN (N:Nat) (v1:List (Val (.slice 108 qa))) (v3:List (Val (.slice 108 qa))) (v4:Int) (k0:Int→Option (qb [i31])):Nat→Int→Int→Option (qb [i31])
 | 0,_,_=>none
 | n+1,v2,v5=>bif (decide (v5<v4))then (chk (0≤v5∧v5<(v3.length:Int)) (bif (decide ((IntKind.i64.wrap (v2+(((v3.getD v5.toNat (qc (.slice 108 qa))):List (Val qa)).length:Int)))<(0:Int)))then (none)else (qiN N v1 v3 v4 k0 n (IntKind.i64.wrap (v2+(((v3.getD v5.toNat (qc (.slice 108 qa))):List (Val qa)).length:Int))) (IntKind.i64.wrap (v5+(1:Int))))))else (k0 v2)
noncomputable def qgV (N:Nat) (v8:List (Val (.slice 108 qa))) (v9:Int) (k2:(List (Val qa))→Option (qb [i31])):Nat→Int→(List (Val qa))→Option (qb [i31])
 | 0,_,_=>none
 | n+1,v10,v11=>bif (decide (v10<v9))then (chk (0≤v10∧v10<(v8.length:Int)) (chk (v11.length+((v8.getD v10.toNat (qc (.slice 108 qa))):List (Val qa)).length≤1048576) (qgV N v8 v9 k2 n (IntKind.i64.wrap (v10+(1:Int))) (v11++((v8.getD v10.toNat (qc (.slice 108 qa))):List (Val qa))))))else (k2 v11)
noncomputable def qyE (N:Nat) (v0:List (Val (.slice 108 qa))):Option (qb [i31]):=qiN N v0 v0 (v0.length:Int) (fun (v7:Int)=>chk (0≤v7∧v7≤1048576) (qgV N v0 (v0.length:Int) (fun (v13:List (Val qa))=>some (v13,())) N (0:Int) ([]:List (Val qa)))) N (0:Int) (0:Int)
def qis:Gam:=[]
def qul:Nm:=⟨[true,false,false,true,false,false,false,false,false,true,true,true],[],false⟩
theorem qo2:qul.zero=false:=rfl
theorem qtk:qul.fix=[]:=rfl
theorem qql:qul.keep=[true,false,false,true,false,false,false,false,false,true,true,true]:=rfl
def qo3:Nm:=⟨[false,false,false,false,false,false,true,false,false,false,false,false,false,false,false,false,false,false,false,false,false,false,false,false,false,true,true,true],[.und 6 0 108 qa],false⟩
theorem quN:qo3.zero=false:=rfl
theorem qsc:qo3.fix=[.und 6 0 108 qa]:=rfl
theorem qn6:qo3.keep=[false,false,false,false,false,false,true,false,false,false,false,false,false,false,false,false,false,false,false,false,false,false,false,false,false,true,true,true]:=rfl
def qvK:Nm:=⟨[true,false,false,true],[],false⟩
theorem qrD:qvK.zero=false:=rfl
theorem quT:qvK.fix=[]:=rfl
theorem quB:qvK.keep=[true,false,false,true]:=rfl
def qu3:Nm:=⟨[false,false,false,false,false,false,true],[],false⟩
theorem quO:qu3.zero=false:=rfl
theorem qo9:qu3.fix=[]:=rfl
theorem qtO:qu3.keep=[false,false,false,false,false,false,true]:=rfl
def qij:Nat→Tree:=fun _=> .done
def qkG:Nat→Nm:=fun i=>if i=3 then qul else if i=11 then qo3 else ⟨[],[],false⟩
noncomputable def qk8:Sem:=qni [(284,.gr 108 qa)]
def qiU:Nat→Option Jn:=fun _=>none
def qk2:Nat→Option Nm:=fun i=>if i=0 then some qvK else if i=2 then some qu3 else none
def qkX:Nat→Option Nm:=fun _=>none
theorem qYZ:qj qij (Tryz.f219.body.getD .skip)=true:=by kernel_rfl
noncomputable def qby (N:Nat):Tab:={tr:=qij,lp:=qkG,ex:=qk2,rg:=qkX,jn:=qiU,fuel:=N,sem:=qk8}
theorem qoz (N:Nat):(qby N).pins=false:=rfl
theorem q6z (N:Nat):qn Tryz.prog (qby N):=qr fun _=>rfl
theorem qr3 (N:Nat):(qby N).sem=qk8:=rfl
theorem qrm (N:Nat) (i:Nat):(qby N).tr i=qij i:=rfl
theorem qsC (N:Nat) (i:Nat):(qby N).lp i=qkG i:=rfl
theorem quq (N:Nat) (i:Nat):(qby N).ex i=qk2 i:=rfl
theorem qpI (N:Nat) (i:Nat):(qby N).rg i=qkX i:=rfl
theorem qtE (N:Nat) (i:Nat):(qby N).jn i=qiU i:=rfl
theorem qrH (N:Nat):(qby N).fuel=N:=rfl
noncomputable def qR8:Code:=cut [true,true,false,true,true,true] (Tryz.f219.body.getD .skip)
theorem q4H {N:Nat} {Q:X→St→Option (qb [i31])} {e:List LV} {h:List Blk}:qd tt qis (qby N) qR8 Q ⟨e,h⟩=qd tt qis (qby N) (cut [true,true,false,true,true,true] (Tryz.f219.body.getD .skip)) Q ⟨e,h⟩:=rfl
theorem q5Q (N:Nat) (v1:List (Val (.slice 108 qa))) (v3:List (Val (.slice 108 qa))) (v4:Int) {k0:Int→Option (qb [i31])} {Q:X→St→Option (qb [i31])} {c:Code} (hc:c=qR8) (hret: ∀st,Q .ret st=qB tt false [i31] [.tmp 2] st) (h0: ∀(v6:Int),Q (.exit 0) ⟨[.one (.sl 31 (.slice 108 qa) v1 0),u,u,.one (.int .i64 v6),u,u,u,u,u,u,u,u,u,u,u,u,u,u,u,u,u,u,u,u,u,u,u,u,u,u,u,u,u,u,u,u],[]⟩=k0 v6): ∀(n:Nat) (v2:Int) (v5:Int),qC (qd tt qis (qby N) c) false qul Q n ⟨[.one (.sl 31 (.slice 108 qa) v1 0),u,u,.one (.int .i64 v2),u,u,u,u,u,.one (.sl 31 (.slice 108 qa) v3 0),.one (.int .i64 v4),.one (.int .i64 v5),u,u,u,u,u,u,u,u,u,u,u,u,u,u,u,u,u,u,u,u,u,u,u,u],[]⟩=qiN N v1 v3 v4 k0 n v2 v5:=by
 subst hc;intro n;induction n with
 | zero=>intros;rfl
 | succ n ih=>
   intro v2 v5
   rw [qL,q4H,qiN];unfold Tryz.f219
   simp (maxSteps:=10000000) -implicitDefEqProofs [qrm,qij,qsC,qkG,quq,qk2,qpI,qkX,qtE,qiU,qrH,qoz,qr3,qk8,qP,qtk,qql,qo2,qsc,qn6,quN,quT,quB,qrD,qo9,qtO,quO,hret,h0,ih]
noncomputable def qSm:Code:=cut [true,true,true,true,false,true,true,true] (Tryz.f219.body.getD .skip)
theorem q7L {N:Nat} {Q:X→St→Option (qb [i31])} {e:List LV} {h:List Blk}:qd tt qis (qby N) qSm Q ⟨e,h⟩=qd tt qis (qby N) (cut [true,true,true,true,false,true,true,true] (Tryz.f219.body.getD .skip)) Q ⟨e,h⟩:=rfl
theorem q0i (N:Nat) (v8:List (Val (.slice 108 qa))) (v9:Int) {k2:(List (Val qa))→Option (qb [i31])} {Q:X→St→Option (qb [i31])} {c:Code} (hc:c=qSm) (hret: ∀st,Q .ret st=qB tt false [i31] [.tmp 2] st) (h2: ∀(v12:List (Val qa)),Q (.exit 2) ⟨[u,u,u,u,u,u,.one (.own 0),u,u,u,u,u,u,u,u,u,u,u,u,u,u,u,u,u,u,u,u,u,u,u,u,u,u,u,u,u],[.row 108 qa v12 false true 1]⟩=k2 v12): ∀(n:Nat) (v10:Int) (v11:List (Val qa)),qC (qd tt qis (qby N) c) false qo3 Q n ⟨[u,u,u,u,u,u,.one (.own 0),u,u,u,u,u,u,u,u,u,u,u,u,u,u,u,u,u,u,.one (.sl 31 (.slice 108 qa) v8 1),.one (.int .i64 v9),.one (.int .i64 v10),u,u,u,u,u,u,u,u],[.row 108 qa v11 false true 1]⟩=qgV N v8 v9 k2 n v10 v11:=by
 subst hc;intro n;induction n with
 | zero=>intros;rfl
 | succ n ih=>
   intro v10 v11
   rw [qL,q7L,qgV];unfold Tryz.f219
   simp (maxSteps:=10000000) -implicitDefEqProofs [qrm,qij,qsC,qkG,quq,qk2,qpI,qkX,qtE,qiU,qrH,qoz,qr3,qk8,qP,qtk,qql,qo2,qsc,qn6,quN,quT,quB,qrD,qo9,qtO,quO,hret,h2,ih]
theorem q56 (N:Nat) (v0:List (Val (.slice 108 qa))):qd tt qis (qby N) (Tryz.f219.body.getD .skip) (qo tt false [i31] [.tmp 2]) (qt [qwe] 36 (v0,()))=qyE N v0:=by
 unfold Tryz.f219
 simp (maxSteps:=10000000) -implicitDefEqProofs [qrm,qij,qsC,qkG,quq,qk2,qpI,qkX,qtE,qiU,qrH,qoz,qr3,qk8,qP,qtk,qql,qo2,qsc,qn6,quN,quT,quB,qrD,qo9,qtO,quO]
 rewrite [q5Q (k0:=(fun (v7:Int)=>chk (0≤v7∧v7≤1048576) (qgV N v0 (v0.length:Int) (fun (v13:List (Val qa))=>some (v13,())) N (0:Int) ([]:List (Val qa))))) N _ _ _ ?_ ?_ ?_]
 ·rewrite [qyE];first | rfl | simp (maxSteps:=10000000) -implicitDefEqProofs []
 ·rfl
 ·intro;simp only [qK,qI,qJ,qy]
 ·intro v7;simp (maxSteps:=10000000) -implicitDefEqProofs [qrm,qij,qsC,qkG,quq,qk2,qpI,qkX,qtE,qiU,qrH,qoz,qr3,qk8,qP,qtk,qql,qo2,qsc,qn6,quN,quT,quB,qrD,qo9,qtO,quO]
  rewrite [q0i (k2:=(fun (v13:List (Val qa))=>some (v13,()))) N _ _ ?_ ?_ ?_]
  ·first | rfl | simp (maxSteps:=10000000) -implicitDefEqProofs []
  ·rfl
  ·intro;simp only [qK,qI,qJ,qy]
  ·intro v13;simp (maxSteps:=10000000) -implicitDefEqProofs [qrm,qij,qsC,qkG,quq,qk2,qpI,qkX,qtE,qiU,qrH,qoz,qr3,qk8,qP,qtk,qql,qo2,qsc,qn6,quN,quT,quB,qrD,qo9,qtO,quO]
noncomputable def qgy (N:Nat) (v2:Int) (v3:List (Val qa)) (v4:Int) (v6:Int) (k0:(List (Val qa))→Option (qb [i33])):Nat→Int→(List (Val qa))→Option (qb [i33])
 | 0,_,_=>none
 | n+1,v5,v7=>bif (decide (v5<v4))then (chk (0≤v5∧v5<(v3.length:Int)) (chk (qmj (v3.getD v5.toNat (qc qa))) (bif (!((q6 (v3.getD v5.toNat (qc qa))):Bool))then (bif (decide ((0:Int)<(((v3.getD v5.toNat (qc qa)).2).1:Int)))then (chk (qc8 v2) (some ((((qaW v2).1:Int),((qaW v2).2:List (Val qa))),())))else (bif (decide ((((v3.getD v5.toNat (qc qa)).2).1:Int)=(0:Int)))then (bif (((v3.getD v5.toNat (qc qa)).2).2:Bool)then (chk (qc8 v2) (some ((((qaW v2).1:Int),((qaW v2).2:List (Val qa))),())))else (qgy N v2 v3 v4 v6 k0 n (IntKind.i64.wrap (v5+(1:Int))) v7))else (qgy N v2 v3 v4 v6 k0 n (IntKind.i64.wrap (v5+(1:Int))) v7)))else (chk (qa3 (v3.getD v5.toNat (qc qa))) (chk (v7.length+([(((idA (v3.getD v5.toNat (qc qa))).1:List (Val (.int .i64))),(((idA (v3.getD v5.toNat (qc qa))).2).1:Int),(((idA (v3.getD v5.toNat (qc qa))).2).2:Bool))]:List (Val qa)).length≤1048576) (qgy N v2 v3 v4 v6 k0 n (IntKind.i64.wrap (v5+(1:Int))) (v7++([(((idA (v3.getD v5.toNat (qc qa))).1:List (Val (.int .i64))),(((idA (v3.getD v5.toNat (qc qa))).2).1:Int),(((idA (v3.getD v5.toNat (qc qa))).2).2:Bool))]:List (Val qa)))))))))else (k0 v7)
noncomputable def qeA (N:Nat) (v10:Int) (v12:List (Val (hd qa))) (v13:List (Val qa)) (v14:Int) (v15:List (Val (hd qa))) (v16:Int) (k2:(List (Val (hd qa)))→Option (qb [i33])):Nat→Int→(List (Val (hd qa)))→Option (qb [i33])
 | 0,_,_=>none
 | n+1,v11,v17=>bif (decide (v11<v10))then (chk (0≤v11∧v11<(v15.length:Int)) (chk (v11.toNat<v15.length) (bif (decide ((IntKind.i64.wrap (v11+(1:Int)))<(v15.length:Int)))then (chk (0≤(IntKind.i64.wrap (v11+(1:Int)))∧(IntKind.i64.wrap (v11+(1:Int)))<(v15.length:Int)) (chk ((IntKind.i64.wrap (v11+(1:Int))).toNat<v15.length) (chk (qM qa v13 v12=v12∧((v15.getD v11.toNat (qc (hd qa)))∈v12∧(v15.getD ((IntKind.i64.wrap (v11+(1:Int))).toNat) (qc (hd qa)))∈v12)∧qeh (lk qa v12 v13 (v15.getD v11.toNat (qc (hd qa)))) (lk qa v12 v13 (v15.getD ((IntKind.i64.wrap (v11+(1:Int))).toNat) (qc (hd qa))))) (bif (decide (((qa1 (lk qa v12 v13 (v15.getD v11.toNat (qc (hd qa)))) (lk qa v12 v13 (v15.getD ((IntKind.i64.wrap (v11+(1:Int))).toNat) (qc (hd qa))))):Int)=(0:Int)))then (qeA N v10 v12 v13 v14 v15 v16 k2 n (IntKind.i64.wrap (v11+(1:Int))) v17)else (chk (v17.length+([(v15.getD v11.toNat (qc (hd qa)))]:List (Val (hd qa))).length≤1048576) (qeA N v10 v12 v13 v14 v15 v16 k2 n (IntKind.i64.wrap (v11+(1:Int))) (v17++([(v15.getD v11.toNat (qc (hd qa)))]:List (Val (hd qa))))))))))else (chk (v17.length+([(v15.getD v11.toNat (qc (hd qa)))]:List (Val (hd qa))).length≤1048576) (qeA N v10 v12 v13 v14 v15 v16 k2 n (IntKind.i64.wrap (v11+(1:Int))) (v17++([(v15.getD v11.toNat (qc (hd qa)))]:List (Val (hd qa)))))))))else (k2 v17)
noncomputable def qyY (N:Nat) (v0:Int) (v1:List (Val qa)):Option (qb [i33]):=qgy N v0 v1 (v1.length:Int) (0:Int) (fun (v9:List (Val qa))=>chk (qfM.pre v9) (qeO (fun p1:List Nat×List (Val (hd qa))=>qdZ qa p1.2 (qai v9)) (fun p1=>qeA N (p1.2.length:Int) p1.2 (qai v9) (0:Int) p1.2 v0 (fun (v19:List (Val (hd qa)))=>chk (v19=(qbY (qai v9)).map (fun i=>p1.2.getD i (qc (hd qa)))∧(qbY (qai v9)).Nodup∧(∀i∈(qbY (qai v9)),i<(qai v9).length)∧qM qa (qai v9) p1.2=p1.2∧p1.2.length=(qai v9).length) (some ((v0,((qbY (qai v9)).map (fun i=>(qai v9).getD i (qc qa)))),()))) N (0:Int) ([]:List (Val (hd qa)))))) N (0:Int) ([]:List (Val qa))
def qeg:Gam:=[(213,qbT),(236,qa2),(287,qfq),(290,qfu)]
theorem qr6:Gam.get qeg 213=some qbT:=rfl
theorem qsd:Gam.get qeg 236=some qa2:=rfl
theorem qt3:Gam.get qeg 287=some qfq:=rfl
theorem qs9:Gam.get qeg 290=some qfu:=rfl
def qpu:Nm:=⟨[true,false,false,false,true,true,false,false,false,false,false,false,true,true,true],[],false⟩
theorem qn1:qpu.zero=false:=rfl
theorem qrS:qpu.fix=[]:=rfl
theorem qpA:qpu.keep=[true,false,false,false,true,true,false,false,false,false,false,false,true,true,true]:=rfl
def qrK:Nm:=⟨[false,false,false,false,true,true,false,false,true,false,false,false,false,false,false,false,false,false,false,false,false,false,false,false,false,false,false,false,false,false,false,false,false,false,false,false,false,false,false,false,false,false,false,false,false,false,true,true,true],[],false⟩
theorem qqM:qrK.zero=false:=rfl
theorem qrJ:qrK.fix=[]:=rfl
theorem qse:qrK.keep=[false,false,false,false,true,true,false,false,true,false,false,false,false,false,false,false,false,false,false,false,false,false,false,false,false,false,false,false,false,false,false,false,false,false,false,false,false,false,false,false,false,false,false,false,false,false,true,true,true]:=rfl
def qwR:Nm:=⟨[true,false,false,false,true,true],[],false⟩
theorem qtC:qwR.zero=false:=rfl
theorem qpw:qwR.fix=[]:=rfl
theorem qqP:qwR.keep=[true,false,false,false,true,true]:=rfl
def qzE:Nm:=⟨[false,false,false,false,true,false,false,false,true],[],false⟩
theorem qqa:qzE.zero=false:=rfl
theorem qps:qzE.fix=[]:=rfl
theorem qtv:qzE.keep=[false,false,false,false,true,false,false,false,true]:=rfl
def qiD:Nat→Tree:=fun i=>if i=15 then .quiet 0 (.quiet 1 (.quiet 2 (.quiet 3 (.quiet 4 (.quiet 5 (.quiet 6 (.quiet 7 (.quiet 8 (.quiet 9 (.quiet 10 (.quiet 11 (.alt 12 (.quiet 13 (.quiet 14 .done)) .stop))))))))))))else .done
def qjL:Nat→Nm:=fun i=>if i=3 then qpu else if i=13 then qrK else ⟨[],[],false⟩
noncomputable def qi6:Sem:=qni [(288,.sr qfM)]
noncomputable def qhf:Nat→Option Jn:=fun i=>if i=11 then some (.at none (some ttH))else if i=12 then some (.at (some (.opn 1 qa)) none)else if i=16 then some (.at none (some ttH))else if i=18 then some (.at (some (.cls 3 0 qa qbY)) none)else none
def qjT:Nat→Option Nm:=fun i=>if i=0 then some qwR else if i=2 then some qzE else none
def qkw:Nat→Option Nm:=fun _=>none
theorem q0V:qj qiD (Tryz.f230.body.getD .skip)=true:=by kernel_rfl
noncomputable def qbD (N:Nat):Tab:={tr:=qiD,lp:=qjL,ex:=qjT,rg:=qkw,jn:=qhf,fuel:=N,sem:=qi6}
theorem qs1 (N:Nat):(qbD N).pins=false:=rfl
theorem q71 (N:Nat):qn Tryz.prog (qbD N):=fun id j t h ht=>by
 have h:qhf id=_:=h
 unfold qhf at h
 repeat' split at h
 all_goals first | (simp at h;done) | (simp only [Option.some.injEq]at h;subst h;simp [Jn.tb]at ht;done) | (simp only [Option.some.injEq]at h;subst h;simp only [Jn.tb,Option.some.injEq]at ht;subst ht;exact hTH)
theorem qq4 (N:Nat):(qbD N).sem=qi6:=rfl
theorem quh (N:Nat) (i:Nat):(qbD N).tr i=qiD i:=rfl
theorem quw (N:Nat) (i:Nat):(qbD N).lp i=qjL i:=rfl
theorem qt6 (N:Nat) (i:Nat):(qbD N).ex i=qjT i:=rfl
theorem qsU (N:Nat) (i:Nat):(qbD N).rg i=qkw i:=rfl
theorem qpx (N:Nat) (i:Nat):(qbD N).jn i=qhf i:=rfl
theorem qtT (N:Nat):(qbD N).fuel=N:=rfl
noncomputable def qQ2:Code:=cut [true,true,false,true,true,true] (Tryz.f230.body.getD .skip)
theorem qWL {N:Nat} {Q:X→St→Option (qb [i33])} {e:List LV} {h:List Blk}:qd tt qeg (qbD N) qQ2 Q ⟨e,h⟩=qd tt qeg (qbD N) (cut [true,true,false,true,true,true] (Tryz.f230.body.getD .skip)) Q ⟨e,h⟩:=rfl
theorem q9w (N:Nat) (v2:Int) (v3:List (Val qa)) (v4:Int) (v6:Int) {k0:(List (Val qa))→Option (qb [i33])} {Q:X→St→Option (qb [i33])} {c:Code} (hc:c=qQ2) (hret: ∀st,Q .ret st=qB tt true [i33] [.cell 4 33] st) (h0: ∀(v8:List (Val qa)),Q (.exit 0) ⟨[.one (.int .i64 v2),u,u,u,.one (.ptr 0 0 0),.one (.own 1),u,u,u,u,u,u,u,u,u,u,u,u,u,u,u,u,u,u,u,u,u,u,u,u,u,u,u,u,u,u,u,u,u,u,u,u,u,u,u,u,u,u,u,u,u,u,u,u,u,u,u,u,u,u,u,u,u,u,u,u,u,u,u,u,u,u,u,u,u,u],[.box [.int .i64 v6,.nils],.row 108 qa v8 true true 0]⟩=k0 v8): ∀(n:Nat) (v5:Int) (v7:List (Val qa)),qC (qd tt qeg (qbD N) c) false qpu Q n ⟨[.one (.int .i64 v2),u,u,u,.one (.ptr 0 0 0),.one (.own 1),u,u,u,u,u,u,.one (.sl 108 qa v3 2),.one (.int .i64 v4),.one (.int .i64 v5),u,u,u,u,u,u,u,u,u,u,u,u,u,u,u,u,u,u,u,u,u,u,u,u,u,u,u,u,u,u,u,u,u,u,u,u,u,u,u,u,u,u,u,u,u,u,u,u,u,u,u,u,u,u,u,u,u,u,u,u,u],[.box [.int .i64 v6,.nils],.row 108 qa v7 true true 0]⟩=qgy N v2 v3 v4 v6 k0 n v5 v7:=by
 subst hc;intro n;induction n with
 | zero=>intros;rfl
 | succ n ih=>
   intro v5 v7
   rw [qL,qWL,qgy];unfold Tryz.f230
   simp (maxSteps:=10000000) -implicitDefEqProofs [quh,qiD,quw,qjL,qt6,qjT,qsU,qkw,qpx,qhf,qtT,qs1,qq4,qi6,qP,qfM,qab (id:=11),qaa (id:=11),qab (id:=12),qaa (id:=12),qab (id:=16),qaa (id:=16),qab (id:=18),qaa (id:=18),qrS,qpA,qn1,qrJ,qse,qqM,qpw,qqP,qtC,qps,qtv,qqa,qr6,qsd,qt3,qs9,qbT,qa2,qfq,qfu,hret,h0,ih]
noncomputable def qUf:Code:=cut [true,true,true,true,true,false,true,true,true] (Tryz.f230.body.getD .skip)
theorem zcU {N:Nat} {Q:X→St→Option (qb [i33])} {e:List LV} {h:List Blk}:qd tt qeg (qbD N) qUf Q ⟨e,h⟩=qd tt qeg (qbD N) (cut [true,true,true,true,true,false,true,true,true] (Tryz.f230.body.getD .skip)) Q ⟨e,h⟩:=rfl
theorem qXl (N:Nat) (F:List Nat) (v10:Int) (v12:List (Val (hd qa))) (v13:List (Val qa)) (v14:Int) (v15:List (Val (hd qa))) (v16:Int) {k2:(List (Val (hd qa)))→Option (qb [i33])} {Q:X→St→Option (qb [i33])} {c:Code} (hc:c=qUf) (hret: ∀st,Q .ret st=qB tt true [i33] [.cell 4 33] st) (h2: ∀(v18:List (Val (hd qa))),Q (.exit 2) ⟨[u,u,u,u,.one (.ptr 1 0 0),u,u,u,.one (.ptr 2 0 0),u,u,u,u,u,u,u,u,u,u,u,u,u,u,u,u,u,u,u,u,u,u,u,u,u,u,u,u,u,u,u,u,u,u,u,u,u,u,u,u,u,u,u,u,u,u,u,u,u,u,u,u,u,u,u,u,u,u,u,u,u,u,u,u,u,u,u],[.nst F qa v12 v13,.box [.int .i64 v14,.nils],.box [.int .i64 v16,.own 3],.row 108 (hd qa) v18 true true 0]⟩=k2 v18): ∀(n:Nat) (v11:Int) (v17:List (Val (hd qa))),qC (qd tt qeg (qbD N) c) false qrK Q n ⟨[u,u,u,u,.one (.ptr 1 0 0),.one (.own 2),u,u,.one (.ptr 3 0 0),u,u,u,u,u,u,u,u,u,u,u,u,u,u,u,u,u,u,u,u,u,u,u,u,u,u,u,u,u,u,u,u,u,u,u,u,u,.one (.own 2),.one (.int .i64 v10),.one (.int .i64 v11),u,u,u,u,u,u,u,u,u,u,u,u,u,u,u,u,u,u,u,u,u,u,u,u,u,u,u],[.nst F qa v12 v13,.box [.int .i64 v14,.nils],.row 108 (hd qa) v15 true true 0,.box [.int .i64 v16,.own 4],.row 108 (hd qa) v17 true true 0]⟩=qeA N v10 v12 v13 v14 v15 v16 k2 n v11 v17:=by
 subst hc;intro n;induction n with
 | zero=>intros;rfl
 | succ n ih=>
   intro v11 v17
   rw [qL,zcU,qeA];unfold Tryz.f230
   simp (maxSteps:=10000000) -implicitDefEqProofs [quh,qiD,quw,qjL,qt6,qjT,qsU,qkw,qpx,qhf,qtT,qs1,qq4,qi6,qP,qfM,qab (id:=11),qaa (id:=11),qab (id:=12),qaa (id:=12),qab (id:=16),qaa (id:=16),qab (id:=18),qaa (id:=18),qrS,qpA,qn1,qrJ,qse,qqM,qpw,qqP,qtC,qps,qtv,qqa,qr6,qsd,qt3,qs9,qbT,qa2,qfq,qfu,hret,h2,ih]
theorem zcT (N:Nat) (v0:Int) (v1:List (Val qa)):qd tt qeg (qbD N) (Tryz.f230.body.getD .skip) (qo tt true [i33] [.cell 4 33]) (qt [i3,i31] 76 (v0,v1,()))=qyY N v0 v1:=by
 unfold Tryz.f230
 simp (maxSteps:=10000000) -implicitDefEqProofs [quh,qiD,quw,qjL,qt6,qjT,qsU,qkw,qpx,qhf,qtT,qs1,qq4,qi6,qP,qfM,qab (id:=11),qaa (id:=11),qab (id:=12),qaa (id:=12),qab (id:=16),qaa (id:=16),qab (id:=18),qaa (id:=18),qrS,qpA,qn1,qrJ,qse,qqM,qpw,qqP,qtC,qps,qtv,qqa,qr6,qsd,qt3,qs9,qbT,qa2,qfq,qfu]
 rewrite [q9w (k0:=(fun (v9:List (Val qa))=>chk (qfM.pre v9) (qeO (fun p1:List Nat×List (Val (hd qa))=>qdZ qa p1.2 (qai v9)) (fun p1=>qeA N (p1.2.length:Int) p1.2 (qai v9) (0:Int) p1.2 v0 (fun (v19:List (Val (hd qa)))=>chk (v19=(qbY (qai v9)).map (fun i=>p1.2.getD i (qc (hd qa)))∧(qbY (qai v9)).Nodup∧(∀i∈(qbY (qai v9)),i<(qai v9).length)∧qM qa (qai v9) p1.2=p1.2∧p1.2.length=(qai v9).length) (some ((v0,((qbY (qai v9)).map (fun i=>(qai v9).getD i (qc qa)))),()))) N (0:Int) ([]:List (Val (hd qa))))))) N _ _ _ _ ?_ ?_ ?_]
 ·rewrite [qyY];first | rfl | simp (maxSteps:=10000000) -implicitDefEqProofs []
 ·rfl
 ·intro;simp only [qK,qI,qJ,qy]
 ·intro v9;simp (maxSteps:=10000000) -implicitDefEqProofs [quh,qiD,quw,qjL,qt6,qjT,qsU,qkw,qpx,qhf,qtT,qs1,qq4,qi6,qP,qfM,qab (id:=11),qaa (id:=11),qab (id:=12),qaa (id:=12),qab (id:=16),qaa (id:=16),qab (id:=18),qaa (id:=18),qrS,qpA,qn1,qrJ,qse,qqM,qpw,qqP,qtC,qps,qtv,qqa,qr6,qsd,qt3,qs9,qbT,qa2,qfq,qfu]
  repeat' (first | refine qTU fun _=> ?_ | refine qSc fun p1 _=> ?_)
  rewrite [qXl (k2:=(fun (v19:List (Val (hd qa)))=>chk (v19=(qbY (qai v9)).map (fun i=>p1.2.getD i (qc (hd qa)))∧(qbY (qai v9)).Nodup∧(∀i∈(qbY (qai v9)),i<(qai v9).length)∧qM qa (qai v9) p1.2=p1.2∧p1.2.length=(qai v9).length) (some ((v0,((qbY (qai v9)).map (fun i=>(qai v9).getD i (qc qa)))),())))) N _ _ _ _ _ _ _ ?_ ?_ ?_]
  ·first | rfl | simp (maxSteps:=10000000) -implicitDefEqProofs []
  ·rfl
  ·intro;simp only [qK,qI,qJ,qy]
  ·intro v19;simp (maxSteps:=10000000) -implicitDefEqProofs [quh,qiD,quw,qjL,qt6,qjT,qsU,qkw,qpx,qhf,qtT,qs1,qq4,qi6,qP,qfM,qab (id:=11),qaa (id:=11),qab (id:=12),qaa (id:=12),qab (id:=16),qaa (id:=16),qab (id:=18),qaa (id:=18),qrS,qpA,qn1,qrJ,qse,qqM,qpw,qqP,qtC,qps,qtv,qqa,qr6,qsd,qt3,qs9,qbT,qa2,qfq,qfu]
end Go.T
