/- Formulas: nodes, the reference's run. -/
import Derived.Test.YtlhkmndfkjlodaaH2
set_option linter.unusedSimpArgs false
set_option linter.unusedVariables false
namespace Go.T
open Go Go.Proofs
set_option maxHeartbeats 4000000
set_option maxRecDepth 100000
noncomputable def qpe (N:Nat) (v2:List (Val qf)) (v3:Int) (v4:List (Val (.int .i64))) (v5:Int) (v6:Bool) (v7:ByteArray) (v8:ByteArray) (v9:List (Val (.int .i64))) (v10:Int) (v11:Int) (v12:Int) (k9001:Bool→Option (qc [i4])) (_:Nat):Option (qc [i4]):=bif (!(decide (v3=(0:Int))))then (bif (!((qeX (v4,v5,v6)):Bool))then (k9001 true)else (bif (!(decide (v3=(1:Int))))then (bif (!(ByteArray.toList v7==ByteArray.toList (ByteArray.mk #[])))then (k9001 true)else (bif (!(ByteArray.toList v8==ByteArray.toList (ByteArray.mk #[])))then (k9001 true)else (k9001 (decide ((0:Int)<(v9.length:Int))))))else (k9001 false)))else (bif (!(decide (v3=(1:Int))))then (bif (!(ByteArray.toList v7==ByteArray.toList (ByteArray.mk #[])))then (k9001 true)else (bif (!(ByteArray.toList v8==ByteArray.toList (ByteArray.mk #[])))then (k9001 true)else (k9001 (decide ((0:Int)<(v9.length:Int))))))else (k9001 false))
noncomputable def qjr (N:Nat) (v15:List (Val qf)) (v16:Int) (v17:List (Val (.int .i64))) (v18:Int) (v19:Bool) (v20:ByteArray) (v21:ByteArray) (v22:List (Val (.int .i64))) (v23:Int) (v24:Int) (v25:Int) (k9003:Bool→Option (qc [i4])) (_:Nat):Option (qc [i4]):=bif (!(decide (v16=(5:Int))))then (bif (!(decide (v16=(6:Int))))then (bif (!(decide (v23=(0:Int))))then (k9003 true)else (bif (!(decide (v16=(3:Int))))then (bif (!(decide (v16=(4:Int))))then (bif (!(decide (v25=(0:Int))))then (k9003 true)else (bif (decide (v16≤(1:Int)))then (k9003 (!(decide (v24=(0:Int)))))else (k9003 false)))else (bif (decide (v16≤(1:Int)))then (k9003 (!(decide (v24=(0:Int)))))else (k9003 false)))else (bif (decide (v16≤(1:Int)))then (k9003 (!(decide (v24=(0:Int)))))else (k9003 false))))else (bif (!(decide (v16=(3:Int))))then (bif (!(decide (v16=(4:Int))))then (bif (!(decide (v25=(0:Int))))then (k9003 true)else (bif (decide (v16≤(1:Int)))then (k9003 (!(decide (v24=(0:Int)))))else (k9003 false)))else (bif (decide (v16≤(1:Int)))then (k9003 (!(decide (v24=(0:Int)))))else (k9003 false)))else (bif (decide (v16≤(1:Int)))then (k9003 (!(decide (v24=(0:Int)))))else (k9003 false))))else (bif (!(decide (v16=(3:Int))))then (bif (!(decide (v16=(4:Int))))then (bif (!(decide (v25=(0:Int))))then (k9003 true)else (bif (decide (v16≤(1:Int)))then (k9003 (!(decide (v24=(0:Int)))))else (k9003 false)))else (bif (decide (v16≤(1:Int)))then (k9003 (!(decide (v24=(0:Int)))))else (k9003 false)))else (bif (decide (v16≤(1:Int)))then (k9003 (!(decide (v24=(0:Int)))))else (k9003 false)))
noncomputable def qiv (N:Nat) (v28:Int) (v29:List (Val (.int .i64))) (v30:Int) (v31:Bool) (v32:ByteArray) (v33:ByteArray) (v34:List (Val (.int .i64))) (v35:Int) (v36:Int) (v37:Int) (k9007:Bool→Option (qc [i4])) (_:Nat):Option (qc [i4]):=bif ((qaF (v29,v30,v31)):Bool)then (k9007 (decide ((v29.length:Int)=(4:Int))))else (k9007 false)
noncomputable def qfU (N:Nat) (v40:List (Val qf)) (v41:Int) (v43:Int) (v44:List (Val (.int .i64))) (v45:Int) (v46:Bool) (v47:ByteArray) (v48:ByteArray) (v49:List (Val (.int .i64))) (v50:Int) (v51:Int) (v52:Int) (k1:Unit→Option (qc [i4])):Nat→Int→Option (qc [i4])
 | 0,_=>none
 | n+1,v42=>bif (decide (v42<(v49.length:Int)))then (chk (0≤v42∧v42<(v49.length:Int)) (bif (!((inR ((v49.getD v42.toNat (qa (.int .i64))):Int) (0:Int) (3:Int)):Bool))then (some (false,()))else (qfU N v40 v41 v43 v44 v45 v46 v47 v48 v49 v50 v51 v52 k1 n (IntKind.i64.wrap (v42+(1:Int))))))else (k1 ())
noncomputable def qg6 (N:Nat) (v53:List (Val qf)) (v54:Int) (v55:Int) (v56:List (Val (.int .i64))) (v57:Int) (v58:Bool) (v59:ByteArray) (v60:ByteArray) (v61:List (Val (.int .i64))) (v62:Int) (v63:Int) (v64:Int) (k9015:Bool→Option (qc [i4])) (_:Nat):Option (qc [i4]):=bif (decide ((0:Int)≤v54))then (chk (0≤v54∧v54<(v53.length:Int)) (bif (decide ((((v53.getD v54.toNat (qa qf)).2).1:Int)=(v61.length:Int)))then (bif (ByteArray.toList v60==ByteArray.toList (ByteArray.mk #[]))then (k9015 true)else (chk (qfN v60 (97:Int) (122:Int)) (k9015 ((qan v60 (97:Int) (122:Int)):Bool))))else (k9015 false)))else (k9015 false)
noncomputable def qh7 (N:Nat) (v67:Int) (v68:List (Val (.int .i64))) (v69:Int) (v70:Bool) (v71:ByteArray) (v72:ByteArray) (v73:List (Val (.int .i64))) (v74:Int) (v75:Int) (v76:Int) (k9016:Bool→Option (qc [i4])) (_:Nat):Option (qc [i4]):=bif ((inR v67 (2:Int) (6:Int)):Bool)then (k9016 ((inR v74 (0:Int) (3:Int)):Bool))else (k9016 false)
noncomputable def qqL (N:Nat) (v0:List (Val qf)) (v1:Val qb):Option (qc [i4]):=qpe N v0 (v1.1:Int) (v1.2.1.1:List (Val (.int .i64))) (v1.2.1.2.1:Int) (v1.2.1.2.2:Bool) (v1.2.2.1:ByteArray) (v1.2.2.2.1:ByteArray) (v1.2.2.2.2.1:List (Val (.int .i64))) (v1.2.2.2.2.2.1:Int) (v1.2.2.2.2.2.2.1:Int) (v1.2.2.2.2.2.2.2:Int) (fun (v14:Bool)=>bif v14 then (some (false,()))else (qjr N v0 (v1.1:Int) (v1.2.1.1:List (Val (.int .i64))) (v1.2.1.2.1:Int) (v1.2.1.2.2:Bool) (v1.2.2.1:ByteArray) (v1.2.2.2.1:ByteArray) (v1.2.2.2.2.1:List (Val (.int .i64))) (v1.2.2.2.2.2.1:Int) (v1.2.2.2.2.2.2.1:Int) (v1.2.2.2.2.2.2.2:Int) (fun (v27:Bool)=>bif v27 then (some (false,()))else (bif (decide ((v1.1:Int)=(0:Int)))then (qiv N (v1.1:Int) (v1.2.1.1:List (Val (.int .i64))) (v1.2.1.2.1:Int) (v1.2.1.2.2:Bool) (v1.2.2.1:ByteArray) (v1.2.2.2.1:ByteArray) (v1.2.2.2.2.1:List (Val (.int .i64))) (v1.2.2.2.2.2.1:Int) (v1.2.2.2.2.2.2.1:Int) (v1.2.2.2.2.2.2.2:Int) (fun (v39:Bool)=>some (v39,())) N)else (bif (decide ((v1.1:Int)=(1:Int)))then (chk (qb9 v0 (v1.2.2.1:ByteArray)) (qfU N v0 ((qT v0 (v1.2.2.1:ByteArray)):Int) (v1.1:Int) (v1.2.1.1:List (Val (.int .i64))) (v1.2.1.2.1:Int) (v1.2.1.2.2:Bool) (v1.2.2.1:ByteArray) (v1.2.2.2.1:ByteArray) (v1.2.2.2.2.1:List (Val (.int .i64))) (v1.2.2.2.2.2.1:Int) (v1.2.2.2.2.2.2.1:Int) (v1.2.2.2.2.2.2.2:Int) (fun (_:Unit)=>qg6 N v0 ((qT v0 (v1.2.2.1:ByteArray)):Int) (v1.1:Int) (v1.2.1.1:List (Val (.int .i64))) (v1.2.1.2.1:Int) (v1.2.1.2.2:Bool) (v1.2.2.1:ByteArray) (v1.2.2.2.1:ByteArray) (v1.2.2.2.2.1:List (Val (.int .i64))) (v1.2.2.2.2.2.1:Int) (v1.2.2.2.2.2.2.1:Int) (v1.2.2.2.2.2.2.2:Int) (fun (v66:Bool)=>some (v66,())) N) N (0:Int)))else (qh7 N (v1.1:Int) (v1.2.1.1:List (Val (.int .i64))) (v1.2.1.2.1:Int) (v1.2.1.2.2:Bool) (v1.2.2.1:ByteArray) (v1.2.2.2.1:ByteArray) (v1.2.2.2.2.1:List (Val (.int .i64))) (v1.2.2.2.2.2.1:Int) (v1.2.2.2.2.2.2.1:Int) (v1.2.2.2.2.2.2.2:Int) (fun (v78:Bool)=>some (v78,())) N)))) N)) N
def qaw:Gam:=[(47,g47),(96,g96),(141,qb2),(142,qcl),(143,qb0)]
theorem qdB:Gam.get qaw 47=some g47:=rfl
theorem qeb:Gam.get qaw 96=some g96:=rfl
theorem qd4:Gam.get qaw 141=some qb2:=rfl
theorem qcZ:Gam.get qaw 142=some qcl:=rfl
theorem qed:Gam.get qaw 143=some qb0:=rfl
def qrK:Nm:=⟨[true,false,false,true],[],false⟩
theorem qdd:qrK.zero=false:=rfl
theorem qdj:qrK.fix=[]:=rfl
theorem qcV:qrK.keep=[true,false,false,true]:=rfl
def qrH:Nm:=⟨[true,false,false,true],[],false⟩
theorem qeq:qrH.zero=false:=rfl
theorem qdQ:qrH.fix=[]:=rfl
theorem qeD:qrH.keep=[true,false,false,true]:=rfl
def qqB:Nm:=⟨[false,false,false,true],[],false⟩
theorem qek:qqB.zero=false:=rfl
theorem qcY:qqB.fix=[]:=rfl
theorem qdC:qqB.keep=[false,false,false,true]:=rfl
def qmj:Nm:=⟨[true,false,false,true,false,true,true],[],false⟩
theorem qde:qmj.zero=false:=rfl
theorem qel:qmj.fix=[]:=rfl
theorem qdi:qmj.keep=[true,false,false,true,false,true,true]:=rfl
def qre:Nm:=⟨[true,false,false,true,false,true],[],false⟩
theorem qeG:qre.zero=false:=rfl
theorem qdG:qre.fix=[]:=rfl
theorem qd3:qre.keep=[true,false,false,true,false,true]:=rfl
def qqD:Nm:=⟨[false,false,false,true],[],false⟩
theorem qeu:qqD.zero=false:=rfl
theorem qdP:qqD.fix=[]:=rfl
theorem qdc:qqD.keep=[false,false,false,true]:=rfl
def qqU:Nm:=⟨[true,false,false,true,false,true],[],false⟩
theorem qdl:qqU.zero=false:=rfl
theorem qdy:qqU.fix=[]:=rfl
theorem qd7:qqU.keep=[true,false,false,true,false,true]:=rfl
def qpT:Nm:=⟨[true,false,false,true,false,false,false,false,false,false,false,false,false,false,false,false,false,false,false,false,false,false,false,false,false,false,false,false,false,false,false,false,false,false,false,false,true],[],false⟩
theorem qdZ:qpT.zero=false:=rfl
theorem qes:qpT.fix=[]:=rfl
theorem qdb:qpT.keep=[true,false,false,true,false,false,false,false,false,false,false,false,false,false,false,false,false,false,false,false,false,false,false,false,false,false,false,false,false,false,false,false,false,false,false,false,true]:=rfl
def qrQ:Nm:=⟨[true,false,false,true,false,false,false,false,false,false,false,false,false,false,false,false,false,false,false,false,false,false,false,false,false,false,false,false,false,false,false,false,false,false,false,false,false,false,false,false,false,false,false,false,false,false,false,false,false,false,false,false,false,false,false,false,false,false,false,false,false,false,false,false,false,false,false,false,false,false,false,false,false,false,true],[],false⟩
theorem qdS:qrQ.zero=false:=rfl
theorem qdU:qrQ.fix=[]:=rfl
theorem qdX:qrQ.keep=[true,false,false,true,false,false,false,false,false,false,false,false,false,false,false,false,false,false,false,false,false,false,false,false,false,false,false,false,false,false,false,false,false,false,false,false,false,false,false,false,false,false,false,false,false,false,false,false,false,false,false,false,false,false,false,false,false,false,false,false,false,false,false,false,false,false,false,false,false,false,false,false,false,false,true]:=rfl
def qqu:Nm:=⟨[false,false,false,false,true],[],false⟩
theorem qeo:qqu.zero=false:=rfl
theorem qd2:qqu.fix=[]:=rfl
theorem qdK:qqu.keep=[false,false,false,false,true]:=rfl
def qqb:Nm:=⟨[false,false,false,false,true],[],false⟩
theorem qen:qqb.zero=false:=rfl
theorem qdt:qqb.fix=[]:=rfl
theorem qdu:qqb.keep=[false,false,false,false,true]:=rfl
def qqW:Nm:=⟨[false,false,false,false,true],[],false⟩
theorem qc5:qqW.zero=false:=rfl
theorem qem:qqW.fix=[]:=rfl
theorem qdo:qqW.keep=[false,false,false,false,true]:=rfl
def qcm:Nat→Tree:=fun i=>if i=15 then .quiet 0 (.quiet 1 (.quiet 2 (.quiet 3 (.quiet 4 (.quiet 5 (.quiet 6 (.quiet 7 (.quiet 8 (.quiet 9 (.quiet 10 (.quiet 11 (.quiet 12 (.quiet 13 (.quiet 14 (.quiet 15 (.quiet 16 (.quiet 17 (.quiet 18 (.quiet 19 (.alt 20 (.quiet 21 (.quiet 22 (.quiet 23 .done))) .stop))))))))))))))))))))else .done
def qcx:Nat→Nm:=fun i=>if i=11 then qmj else ⟨[],[],false⟩
def qcf:Nat→Option Jn:=fun i=>if i=1 then some (.nm qrK)else if i=3 then some (.nm qrH)else if i=7 then some (.nm qqB)else if i=15 then some (.nm qre)else if i=16 then some (.nm qqD)else none
def qcw:Nat→Option Nm:=fun i=>if i=1 then some qqU else none
def qcr:Nat→Option Nm:=fun i=>if i=1 then some qpT else if i=3 then some qrQ else if i=7 then some qqu else if i=15 then some qqb else if i=16 then some qqW else none
theorem qOL:qn qcm (Try.f118.body.getD .skip)=true:=by kernel_rfl
def qai (N:Nat):Tab:={tr:=qcm,lp:=qcx,ex:=qcw,rg:=qcr,jn:=qcf,fuel:=N}
theorem qc6 (N:Nat):(qai N).pins=false:=rfl
theorem qNQ (N:Nat):qp Try.prog (qai N):=fun id j t h ht=>by
 have h:qcf id=_:=h
 unfold qcf at h
 repeat' split at h
 all_goals first | (simp at h;done) | (simp only [Option.some.injEq]at h;subst h;simp [Jn.tb]at ht;done) | (simp only [Option.some.injEq]at h;subst h;simp only [Jn.tb,Option.some.injEq]at ht;subst ht;exact hTH)
theorem qdW (N:Nat) (i:Nat):(qai N).tr i=qcm i:=rfl
theorem qee (N:Nat) (i:Nat):(qai N).lp i=qcx i:=rfl
theorem qdr (N:Nat) (i:Nat):(qai N).ex i=qcw i:=rfl
theorem qec (N:Nat) (i:Nat):(qai N).rg i=qcr i:=rfl
theorem qdf (N:Nat) (i:Nat):(qai N).jn i=qcf i:=rfl
theorem qdF (N:Nat):(qai N).fuel=N:=rfl
noncomputable def qF0:Code:=cut [true,false,false] (Try.f118.body.getD .skip)
theorem qOO {N:Nat} {Q:X→St→Option (qc [i4])} {e:List LV} {h:List Blk}:qx tt qaw (qai N) qF0 Q ⟨e,h⟩=qx tt qaw (qai N) (cut [true,false,false] (Try.f118.body.getD .skip)) Q ⟨e,h⟩:=rfl
theorem qQ4 (N:Nat) (v2:List (Val qf)) (v3:Int) (v4:List (Val (.int .i64))) (v5:Int) (v6:Bool) (v7:ByteArray) (v8:ByteArray) (v9:List (Val (.int .i64))) (v10:Int) (v11:Int) (v12:Int) {k9001:Bool→Option (qc [i4])} {Q:X→St→Option (qc [i4])} {c:Code} (hc:c=qF0) (h9001: ∀(v13:Bool),Q .normal ⟨[.one (.sl 123 qf v2 1),u,u,.one (.ptr 0 0 0),u,u,u,u,u,u,u,u,u,u,u,u,u,u,u,u,u,u,u,u,u,u,u,u,u,u,u,u,u,u,u,u,.one (.bool v13),u,u,u,u,u,u,u,u,u,u,u,u,u,u,u,u,u,u,u,u,u,u,u,u,u,u,u,u,u,u,u,u,u,u,u,u,u,u,u,u,u,u,u,u,u,u,u,u,u,u,u,u,u,u,u,u,u,u,u,u,u,u,u,u,u,u,u,u,u,u,u,u,u,u,u,u,u,u,u,u,u,u,u,u,u,u,u,u,u,u,u,u,u,u,u,u,u,u,u,u,u,u,u],[.box [.int .i64 v3,.sl 3 (.int .i64) v4 1,.int .i64 v5,.bool v6,.str v7,.str v8,.sl 3 (.int .i64) v9 1,.int .i64 v10,.int .i64 v11,.int .i64 v12]]⟩=k9001 v13):qx tt qaw (qai N) c Q ⟨[.one (.sl 123 qf v2 1),u,u,.one (.ptr 0 0 0),u,u,u,u,u,u,u,u,u,u,u,u,u,u,u,u,u,u,u,u,u,u,u,u,u,u,u,u,u,u,u,u,u,u,u,u,u,u,u,u,u,u,u,u,u,u,u,u,u,u,u,u,u,u,u,u,u,u,u,u,u,u,u,u,u,u,u,u,u,u,u,u,u,u,u,u,u,u,u,u,u,u,u,u,u,u,u,u,u,u,u,u,u,u,u,u,u,u,u,u,u,u,u,u,u,u,u,u,u,u,u,u,u,u,u,u,u,u,u,u,u,u,u,u,u,u,u,u,u,u,u,u,u,u,u,u],[.box [.int .i64 v3,.sl 3 (.int .i64) v4 1,.int .i64 v5,.bool v6,.str v7,.str v8,.sl 3 (.int .i64) v9 1,.int .i64 v10,.int .i64 v11,.int .i64 v12]]⟩=qpe N v2 v3 v4 v5 v6 v7 v8 v9 v10 v11 v12 k9001 N:=by
 subst hc;rw [qOO,qpe];unfold Try.f118
 simp (maxSteps:=10000000) -implicitDefEqProofs [qcD (id:=1),qcv (id:=1),qdW,qcm,qee,qcx,qdr,qcw,qec,qcr,qdf,qcf,qdF,qc6,qdj,qcV,qdd,qdQ,qeD,qeq,qcY,qdC,qek,qel,qdi,qde,qdG,qd3,qeG,qdP,qdc,qeu,qdy,qd7,qdl,qes,qdb,qdZ,qdU,qdX,qdS,qd2,qdK,qeo,qdt,qdu,qen,qem,qdo,qc5,qdB,qeb,qd4,qcZ,qed,g47,g96,qb2,qcl,qb0,h9001]
noncomputable def qIe:Code:=cut [true,true,false,false] (Try.f118.body.getD .skip)
theorem qR4 {N:Nat} {Q:X→St→Option (qc [i4])} {e:List LV} {h:List Blk}:qx tt qaw (qai N) qIe Q ⟨e,h⟩=qx tt qaw (qai N) (cut [true,true,false,false] (Try.f118.body.getD .skip)) Q ⟨e,h⟩:=rfl
theorem qOT (N:Nat) (v15:List (Val qf)) (v16:Int) (v17:List (Val (.int .i64))) (v18:Int) (v19:Bool) (v20:ByteArray) (v21:ByteArray) (v22:List (Val (.int .i64))) (v23:Int) (v24:Int) (v25:Int) {k9003:Bool→Option (qc [i4])} {Q:X→St→Option (qc [i4])} {c:Code} (hc:c=qIe) (h9003: ∀(v26:Bool),Q .normal ⟨[.one (.sl 123 qf v15 1),u,u,.one (.ptr 0 0 0),u,u,u,u,u,u,u,u,u,u,u,u,u,u,u,u,u,u,u,u,u,u,u,u,u,u,u,u,u,u,u,u,u,u,u,u,u,u,u,u,u,u,u,u,u,u,u,u,u,u,u,u,u,u,u,u,u,u,u,u,u,u,u,u,u,u,u,u,u,u,.one (.bool v26),u,u,u,u,u,u,u,u,u,u,u,u,u,u,u,u,u,u,u,u,u,u,u,u,u,u,u,u,u,u,u,u,u,u,u,u,u,u,u,u,u,u,u,u,u,u,u,u,u,u,u,u,u,u,u,u,u,u,u,u,u,u,u,u,u],[.box [.int .i64 v16,.sl 3 (.int .i64) v17 1,.int .i64 v18,.bool v19,.str v20,.str v21,.sl 3 (.int .i64) v22 1,.int .i64 v23,.int .i64 v24,.int .i64 v25]]⟩=k9003 v26):qx tt qaw (qai N) c Q ⟨[.one (.sl 123 qf v15 1),u,u,.one (.ptr 0 0 0),u,u,u,u,u,u,u,u,u,u,u,u,u,u,u,u,u,u,u,u,u,u,u,u,u,u,u,u,u,u,u,u,u,u,u,u,u,u,u,u,u,u,u,u,u,u,u,u,u,u,u,u,u,u,u,u,u,u,u,u,u,u,u,u,u,u,u,u,u,u,u,u,u,u,u,u,u,u,u,u,u,u,u,u,u,u,u,u,u,u,u,u,u,u,u,u,u,u,u,u,u,u,u,u,u,u,u,u,u,u,u,u,u,u,u,u,u,u,u,u,u,u,u,u,u,u,u,u,u,u,u,u,u,u,u,u],[.box [.int .i64 v16,.sl 3 (.int .i64) v17 1,.int .i64 v18,.bool v19,.str v20,.str v21,.sl 3 (.int .i64) v22 1,.int .i64 v23,.int .i64 v24,.int .i64 v25]]⟩=qjr N v15 v16 v17 v18 v19 v20 v21 v22 v23 v24 v25 k9003 N:=by
 subst hc;rw [qR4,qjr];unfold Try.f118
 simp (maxSteps:=10000000) -implicitDefEqProofs [qcD (id:=3),qcv (id:=3),qdW,qcm,qee,qcx,qdr,qcw,qec,qcr,qdf,qcf,qdF,qc6,qdj,qcV,qdd,qdQ,qeD,qeq,qcY,qdC,qek,qel,qdi,qde,qdG,qd3,qeG,qdP,qdc,qeu,qdy,qd7,qdl,qes,qdb,qdZ,qdU,qdX,qdS,qd2,qdK,qeo,qdt,qdu,qen,qem,qdo,qc5,qdB,qeb,qd4,qcZ,qed,g47,g96,qb2,qcl,qb0,h9003]
noncomputable def qIY:Code:=cut [true,true,true,false,true,true,true,false,false] (Try.f118.body.getD .skip)
theorem qNT {N:Nat} {Q:X→St→Option (qc [i4])} {e:List LV} {h:List Blk}:qx tt qaw (qai N) qIY Q ⟨e,h⟩=qx tt qaw (qai N) (cut [true,true,true,false,true,true,true,false,false] (Try.f118.body.getD .skip)) Q ⟨e,h⟩:=rfl
theorem qJI (N:Nat) (v28:Int) (v29:List (Val (.int .i64))) (v30:Int) (v31:Bool) (v32:ByteArray) (v33:ByteArray) (v34:List (Val (.int .i64))) (v35:Int) (v36:Int) (v37:Int) {k9007:Bool→Option (qc [i4])} {Q:X→St→Option (qc [i4])} {c:Code} (hc:c=qIY) (h9007: ∀(v38:Bool),Q .normal ⟨[u,u,u,u,.one (.bool v38),u,u,u,u,u,u,u,u,u,u,u,u,u,u,u,u,u,u,u,u,u,u,u,u,u,u,u,u,u,u,u,u,u,u,u,u,u,u,u,u,u,u,u,u,u,u,u,u,u,u,u,u,u,u,u,u,u,u,u,u,u,u,u,u,u,u,u,u,u,u,u,u,u,u,u,u,u,u,u,u,u,u,u,u,u,u,u,u,u,u,u,u,u,u,u,u,u,u,u,u,u,u,u,u,u,u,u,u,u,u,u,u,u,u,u,u,u,u,u,u,u,u,u,u,u,u,u,u,u,u,u,u,u,u,u],[]⟩=k9007 v38):qx tt qaw (qai N) c Q ⟨[u,u,u,.one (.ptr 0 0 0),u,u,u,u,u,u,u,u,u,u,u,u,u,u,u,u,u,u,u,u,u,u,u,u,u,u,u,u,u,u,u,u,u,u,u,u,u,u,u,u,u,u,u,u,u,u,u,u,u,u,u,u,u,u,u,u,u,u,u,u,u,u,u,u,u,u,u,u,u,u,u,u,u,u,u,u,u,u,u,u,u,u,u,u,u,u,u,u,u,u,u,u,u,u,u,u,u,u,u,u,u,u,u,u,u,u,u,u,u,u,u,u,u,u,u,u,u,u,u,u,u,u,u,u,u,u,u,u,u,u,u,u,u,u,u,u],[.box [.int .i64 v28,.sl 3 (.int .i64) v29 1,.int .i64 v30,.bool v31,.str v32,.str v33,.sl 3 (.int .i64) v34 1,.int .i64 v35,.int .i64 v36,.int .i64 v37]]⟩=qiv N v28 v29 v30 v31 v32 v33 v34 v35 v36 v37 k9007 N:=by
 subst hc;rw [qNT,qiv];unfold Try.f118
 simp (maxSteps:=10000000) -implicitDefEqProofs [qcD (id:=7),qcv (id:=7),qdW,qcm,qee,qcx,qdr,qcw,qec,qcr,qdf,qcf,qdF,qc6,qdj,qcV,qdd,qdQ,qeD,qeq,qcY,qdC,qek,qel,qdi,qde,qdG,qd3,qeG,qdP,qdc,qeu,qdy,qd7,qdl,qes,qdb,qdZ,qdU,qdX,qdS,qd2,qdK,qeo,qdt,qdu,qen,qem,qdo,qc5,qdB,qeb,qd4,qcZ,qed,g47,g96,qb2,qcl,qb0,h9007]
noncomputable def qJl:Code:=cut [true,true,true,false,true,true,true,true,true,false,true,false,true,true,true] (Try.f118.body.getD .skip)
theorem qVR {N:Nat} {Q:X→St→Option (qc [i4])} {e:List LV} {h:List Blk}:qe tt qaw (qai N) qJl Q ⟨e,h⟩=qe tt qaw (qai N) (cut [true,true,true,false,true,true,true,true,true,false,true,false,true,true,true] (Try.f118.body.getD .skip)) Q ⟨e,h⟩:=rfl
theorem qPL (N:Nat) (v40:List (Val qf)) (v41:Int) (v43:Int) (v44:List (Val (.int .i64))) (v45:Int) (v46:Bool) (v47:ByteArray) (v48:ByteArray) (v49:List (Val (.int .i64))) (v50:Int) (v51:Int) (v52:Int) {k1:Unit→Option (qc [i4])} {Q:X→St→Option (qc [i4])} {c:Code} (hc:c=qJl) (hret: ∀st,Q .ret st=qI tt true [i4] [.tmp 4] st) (h1:Q (.exit 1) ⟨[.one (.sl 123 qf v40 1),u,u,.one (.ptr 0 0 0),u,.one (.int .i64 v41),u,u,u,u,u,u,u,u,u,u,u,u,u,u,u,u,u,u,u,u,u,u,u,u,u,u,u,u,u,u,u,u,u,u,u,u,u,u,u,u,u,u,u,u,u,u,u,u,u,u,u,u,u,u,u,u,u,u,u,u,u,u,u,u,u,u,u,u,u,u,u,u,u,u,u,u,u,u,u,u,u,u,u,u,u,u,u,u,u,u,u,u,u,u,u,u,u,u,u,u,u,u,u,u,u,u,u,u,u,u,u,u,u,u,u,u,u,u,u,u,u,u,u,u,u,u,u,u,u,u,u,u,u,u],[.box [.int .i64 v43,.sl 3 (.int .i64) v44 1,.int .i64 v45,.bool v46,.str v47,.str v48,.sl 3 (.int .i64) v49 1,.int .i64 v50,.int .i64 v51,.int .i64 v52]]⟩=k1 ()): ∀(n:Nat) (v42:Int),qC (qe tt qaw (qai N) c) false qmj Q n ⟨[.one (.sl 123 qf v40 1),u,u,.one (.ptr 0 0 0),u,.one (.int .i64 v41),.one (.int .i64 v42),u,u,u,u,u,u,u,u,u,u,u,u,u,u,u,u,u,u,u,u,u,u,u,u,u,u,u,u,u,u,u,u,u,u,u,u,u,u,u,u,u,u,u,u,u,u,u,u,u,u,u,u,u,u,u,u,u,u,u,u,u,u,u,u,u,u,u,u,u,u,u,u,u,u,u,u,u,u,u,u,u,u,u,u,u,u,u,u,u,u,u,u,u,u,u,u,u,u,u,u,u,u,u,u,u,u,u,u,u,u,u,u,u,u,u,u,u,u,u,u,u,u,u,u,u,u,u,u,u,u,u,u,u],[.box [.int .i64 v43,.sl 3 (.int .i64) v44 1,.int .i64 v45,.bool v46,.str v47,.str v48,.sl 3 (.int .i64) v49 1,.int .i64 v50,.int .i64 v51,.int .i64 v52]]⟩=qfU N v40 v41 v43 v44 v45 v46 v47 v48 v49 v50 v51 v52 k1 n v42:=by
 subst hc;intro n;induction n with
 | zero=>intros;rfl
 | succ n ih=>
   intro v42
   rw [qM,qVR,qfU];unfold Try.f118
   simp (maxSteps:=10000000) -implicitDefEqProofs [qdW,qcm,qee,qcx,qdr,qcw,qec,qcr,qdf,qcf,qdF,qc6,qdj,qcV,qdd,qdQ,qeD,qeq,qcY,qdC,qek,qel,qdi,qde,qdG,qd3,qeG,qdP,qdc,qeu,qdy,qd7,qdl,qes,qdb,qdZ,qdU,qdX,qdS,qd2,qdK,qeo,qdt,qdu,qen,qem,qdo,qc5,qdB,qeb,qd4,qcZ,qed,g47,g96,qb2,qcl,qb0,hret,h1,ih]
noncomputable def qFJ:Code:=cut [true,true,true,false,true,true,true,true,true,false,true,true,false] (Try.f118.body.getD .skip)
theorem qPP {N:Nat} {Q:X→St→Option (qc [i4])} {e:List LV} {h:List Blk}:qx tt qaw (qai N) qFJ Q ⟨e,h⟩=qx tt qaw (qai N) (cut [true,true,true,false,true,true,true,true,true,false,true,true,false] (Try.f118.body.getD .skip)) Q ⟨e,h⟩:=rfl
theorem qQc (N:Nat) (v53:List (Val qf)) (v54:Int) (v55:Int) (v56:List (Val (.int .i64))) (v57:Int) (v58:Bool) (v59:ByteArray) (v60:ByteArray) (v61:List (Val (.int .i64))) (v62:Int) (v63:Int) (v64:Int) {k9015:Bool→Option (qc [i4])} {Q:X→St→Option (qc [i4])} {c:Code} (hc:c=qFJ) (h9015: ∀(v65:Bool),Q .normal ⟨[u,u,u,u,.one (.bool v65),u,u,u,u,u,u,u,u,u,u,u,u,u,u,u,u,u,u,u,u,u,u,u,u,u,u,u,u,u,u,u,u,u,u,u,u,u,u,u,u,u,u,u,u,u,u,u,u,u,u,u,u,u,u,u,u,u,u,u,u,u,u,u,u,u,u,u,u,u,u,u,u,u,u,u,u,u,u,u,u,u,u,u,u,u,u,u,u,u,u,u,u,u,u,u,u,u,u,u,u,u,u,u,u,u,u,u,u,u,u,u,u,u,u,u,u,u,u,u,u,u,u,u,u,u,u,u,u,u,u,u,u,u,u,u],[]⟩=k9015 v65):qx tt qaw (qai N) c Q ⟨[.one (.sl 123 qf v53 1),u,u,.one (.ptr 0 0 0),u,.one (.int .i64 v54),u,u,u,u,u,u,u,u,u,u,u,u,u,u,u,u,u,u,u,u,u,u,u,u,u,u,u,u,u,u,u,u,u,u,u,u,u,u,u,u,u,u,u,u,u,u,u,u,u,u,u,u,u,u,u,u,u,u,u,u,u,u,u,u,u,u,u,u,u,u,u,u,u,u,u,u,u,u,u,u,u,u,u,u,u,u,u,u,u,u,u,u,u,u,u,u,u,u,u,u,u,u,u,u,u,u,u,u,u,u,u,u,u,u,u,u,u,u,u,u,u,u,u,u,u,u,u,u,u,u,u,u,u,u],[.box [.int .i64 v55,.sl 3 (.int .i64) v56 1,.int .i64 v57,.bool v58,.str v59,.str v60,.sl 3 (.int .i64) v61 1,.int .i64 v62,.int .i64 v63,.int .i64 v64]]⟩=qg6 N v53 v54 v55 v56 v57 v58 v59 v60 v61 v62 v63 v64 k9015 N:=by
 subst hc;rw [qPP,qg6];unfold Try.f118
 simp (maxSteps:=10000000) -implicitDefEqProofs [qcD (id:=15),qcv (id:=15),qdW,qcm,qee,qcx,qdr,qcw,qec,qcr,qdf,qcf,qdF,qc6,qdj,qcV,qdd,qdQ,qeD,qeq,qcY,qdC,qek,qel,qdi,qde,qdG,qd3,qeG,qdP,qdc,qeu,qdy,qd7,qdl,qes,qdb,qdZ,qdU,qdX,qdS,qd2,qdK,qeo,qdt,qdu,qen,qem,qdo,qc5,qdB,qeb,qd4,qcZ,qed,g47,g96,qb2,qcl,qb0,h9015]
noncomputable def qHC:Code:=cut [true,true,true,true,false] (Try.f118.body.getD .skip)
theorem qJF {N:Nat} {Q:X→St→Option (qc [i4])} {e:List LV} {h:List Blk}:qx tt qaw (qai N) qHC Q ⟨e,h⟩=qx tt qaw (qai N) (cut [true,true,true,true,false] (Try.f118.body.getD .skip)) Q ⟨e,h⟩:=rfl
theorem qTV (N:Nat) (v67:Int) (v68:List (Val (.int .i64))) (v69:Int) (v70:Bool) (v71:ByteArray) (v72:ByteArray) (v73:List (Val (.int .i64))) (v74:Int) (v75:Int) (v76:Int) {k9016:Bool→Option (qc [i4])} {Q:X→St→Option (qc [i4])} {c:Code} (hc:c=qHC) (h9016: ∀(v77:Bool),Q .normal ⟨[u,u,u,u,.one (.bool v77),u,u,u,u,u,u,u,u,u,u,u,u,u,u,u,u,u,u,u,u,u,u,u,u,u,u,u,u,u,u,u,u,u,u,u,u,u,u,u,u,u,u,u,u,u,u,u,u,u,u,u,u,u,u,u,u,u,u,u,u,u,u,u,u,u,u,u,u,u,u,u,u,u,u,u,u,u,u,u,u,u,u,u,u,u,u,u,u,u,u,u,u,u,u,u,u,u,u,u,u,u,u,u,u,u,u,u,u,u,u,u,u,u,u,u,u,u,u,u,u,u,u,u,u,u,u,u,u,u,u,u,u,u,u,u],[]⟩=k9016 v77):qx tt qaw (qai N) c Q ⟨[u,u,u,.one (.ptr 0 0 0),u,u,u,u,u,u,u,u,u,u,u,u,u,u,u,u,u,u,u,u,u,u,u,u,u,u,u,u,u,u,u,u,u,u,u,u,u,u,u,u,u,u,u,u,u,u,u,u,u,u,u,u,u,u,u,u,u,u,u,u,u,u,u,u,u,u,u,u,u,u,u,u,u,u,u,u,u,u,u,u,u,u,u,u,u,u,u,u,u,u,u,u,u,u,u,u,u,u,u,u,u,u,u,u,u,u,u,u,u,u,u,u,u,u,u,u,u,u,u,u,u,u,u,u,u,u,u,u,u,u,u,u,u,u,u,u],[.box [.int .i64 v67,.sl 3 (.int .i64) v68 1,.int .i64 v69,.bool v70,.str v71,.str v72,.sl 3 (.int .i64) v73 1,.int .i64 v74,.int .i64 v75,.int .i64 v76]]⟩=qh7 N v67 v68 v69 v70 v71 v72 v73 v74 v75 v76 k9016 N:=by
 subst hc;rw [qJF,qh7];unfold Try.f118
 simp (maxSteps:=10000000) -implicitDefEqProofs [qcD (id:=16),qcv (id:=16),qdW,qcm,qee,qcx,qdr,qcw,qec,qcr,qdf,qcf,qdF,qc6,qdj,qcV,qdd,qdQ,qeD,qeq,qcY,qdC,qek,qel,qdi,qde,qdG,qd3,qeG,qdP,qdc,qeu,qdy,qd7,qdl,qes,qdb,qdZ,qdU,qdX,qdS,qd2,qdK,qeo,qdt,qdu,qen,qem,qdo,qc5,qdB,qeb,qd4,qcZ,qed,g47,g96,qb2,qcl,qb0,h9016]
theorem qQE (N:Nat) (v0:List (Val qf)) (v1:Val qb):qe tt qaw (qai N) (Try.f118.body.getD .skip) (qr tt true [i4] [.tmp 4]) (qv [i63,qcq] 140 (v0,v1,()))=qqL N v0 v1:=by
 unfold Try.f118
 simp (maxSteps:=10000000) -implicitDefEqProofs [qdW,qcm,qee,qcx,qdr,qcw,qec,qcr,qdf,qcf,qdF,qc6,qdj,qcV,qdd,qdQ,qeD,qeq,qcY,qdC,qek,qel,qdi,qde,qdG,qd3,qeG,qdP,qdc,qeu,qdy,qd7,qdl,qes,qdb,qdZ,qdU,qdX,qdS,qd2,qdK,qeo,qdt,qdu,qen,qem,qdo,qc5,qdB,qeb,qd4,qcZ,qed,g47,g96,qb2,qcl,qb0]
 rewrite [qQ4 (k9001:=(fun (v14:Bool)=>bif v14 then (some (false,()))else (qjr N v0 (v1.1:Int) (v1.2.1.1:List (Val (.int .i64))) (v1.2.1.2.1:Int) (v1.2.1.2.2:Bool) (v1.2.2.1:ByteArray) (v1.2.2.2.1:ByteArray) (v1.2.2.2.2.1:List (Val (.int .i64))) (v1.2.2.2.2.2.1:Int) (v1.2.2.2.2.2.2.1:Int) (v1.2.2.2.2.2.2.2:Int) (fun (v27:Bool)=>bif v27 then (some (false,()))else (bif (decide ((v1.1:Int)=(0:Int)))then (qiv N (v1.1:Int) (v1.2.1.1:List (Val (.int .i64))) (v1.2.1.2.1:Int) (v1.2.1.2.2:Bool) (v1.2.2.1:ByteArray) (v1.2.2.2.1:ByteArray) (v1.2.2.2.2.1:List (Val (.int .i64))) (v1.2.2.2.2.2.1:Int) (v1.2.2.2.2.2.2.1:Int) (v1.2.2.2.2.2.2.2:Int) (fun (v39:Bool)=>some (v39,())) N)else (bif (decide ((v1.1:Int)=(1:Int)))then (chk (qb9 v0 (v1.2.2.1:ByteArray)) (qfU N v0 ((qT v0 (v1.2.2.1:ByteArray)):Int) (v1.1:Int) (v1.2.1.1:List (Val (.int .i64))) (v1.2.1.2.1:Int) (v1.2.1.2.2:Bool) (v1.2.2.1:ByteArray) (v1.2.2.2.1:ByteArray) (v1.2.2.2.2.1:List (Val (.int .i64))) (v1.2.2.2.2.2.1:Int) (v1.2.2.2.2.2.2.1:Int) (v1.2.2.2.2.2.2.2:Int) (fun (_:Unit)=>qg6 N v0 ((qT v0 (v1.2.2.1:ByteArray)):Int) (v1.1:Int) (v1.2.1.1:List (Val (.int .i64))) (v1.2.1.2.1:Int) (v1.2.1.2.2:Bool) (v1.2.2.1:ByteArray) (v1.2.2.2.1:ByteArray) (v1.2.2.2.2.1:List (Val (.int .i64))) (v1.2.2.2.2.2.1:Int) (v1.2.2.2.2.2.2.1:Int) (v1.2.2.2.2.2.2.2:Int) (fun (v66:Bool)=>some (v66,())) N) N (0:Int)))else (qh7 N (v1.1:Int) (v1.2.1.1:List (Val (.int .i64))) (v1.2.1.2.1:Int) (v1.2.1.2.2:Bool) (v1.2.2.1:ByteArray) (v1.2.2.2.1:ByteArray) (v1.2.2.2.2.1:List (Val (.int .i64))) (v1.2.2.2.2.2.1:Int) (v1.2.2.2.2.2.2.1:Int) (v1.2.2.2.2.2.2.2:Int) (fun (v78:Bool)=>some (v78,())) N)))) N))) N _ _ _ _ _ _ _ _ _ _ _ ?_ ?_]
 ·rewrite [qqL];first | rfl | simp (maxSteps:=10000000) -implicitDefEqProofs []
 ·rfl
 ·intro v14;simp (maxSteps:=10000000) -implicitDefEqProofs [qdW,qcm,qee,qcx,qdr,qcw,qec,qcr,qdf,qcf,qdF,qc6,qdj,qcV,qdd,qdQ,qeD,qeq,qcY,qdC,qek,qel,qdi,qde,qdG,qd3,qeG,qdP,qdc,qeu,qdy,qd7,qdl,qes,qdb,qdZ,qdU,qdX,qdS,qd2,qdK,qeo,qdt,qdu,qen,qem,qdo,qc5,qdB,qeb,qd4,qcZ,qed,g47,g96,qb2,qcl,qb0]
  rewrite [qOT (k9003:=(fun (v27:Bool)=>bif v27 then (some (false,()))else (bif (decide ((v1.1:Int)=(0:Int)))then (qiv N (v1.1:Int) (v1.2.1.1:List (Val (.int .i64))) (v1.2.1.2.1:Int) (v1.2.1.2.2:Bool) (v1.2.2.1:ByteArray) (v1.2.2.2.1:ByteArray) (v1.2.2.2.2.1:List (Val (.int .i64))) (v1.2.2.2.2.2.1:Int) (v1.2.2.2.2.2.2.1:Int) (v1.2.2.2.2.2.2.2:Int) (fun (v39:Bool)=>some (v39,())) N)else (bif (decide ((v1.1:Int)=(1:Int)))then (chk (qb9 v0 (v1.2.2.1:ByteArray)) (qfU N v0 ((qT v0 (v1.2.2.1:ByteArray)):Int) (v1.1:Int) (v1.2.1.1:List (Val (.int .i64))) (v1.2.1.2.1:Int) (v1.2.1.2.2:Bool) (v1.2.2.1:ByteArray) (v1.2.2.2.1:ByteArray) (v1.2.2.2.2.1:List (Val (.int .i64))) (v1.2.2.2.2.2.1:Int) (v1.2.2.2.2.2.2.1:Int) (v1.2.2.2.2.2.2.2:Int) (fun (_:Unit)=>qg6 N v0 ((qT v0 (v1.2.2.1:ByteArray)):Int) (v1.1:Int) (v1.2.1.1:List (Val (.int .i64))) (v1.2.1.2.1:Int) (v1.2.1.2.2:Bool) (v1.2.2.1:ByteArray) (v1.2.2.2.1:ByteArray) (v1.2.2.2.2.1:List (Val (.int .i64))) (v1.2.2.2.2.2.1:Int) (v1.2.2.2.2.2.2.1:Int) (v1.2.2.2.2.2.2.2:Int) (fun (v66:Bool)=>some (v66,())) N) N (0:Int)))else (qh7 N (v1.1:Int) (v1.2.1.1:List (Val (.int .i64))) (v1.2.1.2.1:Int) (v1.2.1.2.2:Bool) (v1.2.2.1:ByteArray) (v1.2.2.2.1:ByteArray) (v1.2.2.2.2.1:List (Val (.int .i64))) (v1.2.2.2.2.2.1:Int) (v1.2.2.2.2.2.2.1:Int) (v1.2.2.2.2.2.2.2:Int) (fun (v78:Bool)=>some (v78,())) N))))) N _ _ _ _ _ _ _ _ _ _ _ ?_ ?_]
  ·first | rfl | simp (maxSteps:=10000000) -implicitDefEqProofs []
  ·rfl
  ·intro v27;simp (maxSteps:=10000000) -implicitDefEqProofs [qdW,qcm,qee,qcx,qdr,qcw,qec,qcr,qdf,qcf,qdF,qc6,qdj,qcV,qdd,qdQ,qeD,qeq,qcY,qdC,qek,qel,qdi,qde,qdG,qd3,qeG,qdP,qdc,qeu,qdy,qd7,qdl,qes,qdb,qdZ,qdU,qdX,qdS,qd2,qdK,qeo,qdt,qdu,qen,qem,qdo,qc5,qdB,qeb,qd4,qcZ,qed,g47,g96,qb2,qcl,qb0]
   rewrite [qJI (k9007:=(fun (v39:Bool)=>some (v39,()))) N _ _ _ _ _ _ _ _ _ _ ?_ ?_]
   rewrite [qPL (k1:=(fun (_:Unit)=>qg6 N v0 ((qT v0 (v1.2.2.1:ByteArray)):Int) (v1.1:Int) (v1.2.1.1:List (Val (.int .i64))) (v1.2.1.2.1:Int) (v1.2.1.2.2:Bool) (v1.2.2.1:ByteArray) (v1.2.2.2.1:ByteArray) (v1.2.2.2.2.1:List (Val (.int .i64))) (v1.2.2.2.2.2.1:Int) (v1.2.2.2.2.2.2.1:Int) (v1.2.2.2.2.2.2.2:Int) (fun (v66:Bool)=>some (v66,())) N)) N _ _ _ _ _ _ _ _ _ _ _ _ ?_ ?_ ?_]
   rewrite [qTV (k9016:=(fun (v78:Bool)=>some (v78,()))) N _ _ _ _ _ _ _ _ _ _ ?_ ?_]
   ·first | rfl | simp (maxSteps:=10000000) -implicitDefEqProofs []
   ·rfl
   ·intro v78;simp (maxSteps:=10000000) -implicitDefEqProofs [qdW,qcm,qee,qcx,qdr,qcw,qec,qcr,qdf,qcf,qdF,qc6,qdj,qcV,qdd,qdQ,qeD,qeq,qcY,qdC,qek,qel,qdi,qde,qdG,qd3,qeG,qdP,qdc,qeu,qdy,qd7,qdl,qes,qdb,qdZ,qdU,qdX,qdS,qd2,qdK,qeo,qdt,qdu,qen,qem,qdo,qc5,qdB,qeb,qd4,qcZ,qed,g47,g96,qb2,qcl,qb0]
   ·rfl
   ·intro;simp only [qK,qL,qN,qm]
   ·simp (maxSteps:=10000000) -implicitDefEqProofs [qdW,qcm,qee,qcx,qdr,qcw,qec,qcr,qdf,qcf,qdF,qc6,qdj,qcV,qdd,qdQ,qeD,qeq,qcY,qdC,qek,qel,qdi,qde,qdG,qd3,qeG,qdP,qdc,qeu,qdy,qd7,qdl,qes,qdb,qdZ,qdU,qdX,qdS,qd2,qdK,qeo,qdt,qdu,qen,qem,qdo,qc5,qdB,qeb,qd4,qcZ,qed,g47,g96,qb2,qcl,qb0]
    rewrite [qQc (k9015:=(fun (v66:Bool)=>some (v66,()))) N _ _ _ _ _ _ _ _ _ _ _ _ ?_ ?_]
    ·first | rfl | simp (maxSteps:=10000000) -implicitDefEqProofs []
    ·rfl
    ·intro v66;simp (maxSteps:=10000000) -implicitDefEqProofs [qdW,qcm,qee,qcx,qdr,qcw,qec,qcr,qdf,qcf,qdF,qc6,qdj,qcV,qdd,qdQ,qeD,qeq,qcY,qdC,qek,qel,qdi,qde,qdG,qd3,qeG,qdP,qdc,qeu,qdy,qd7,qdl,qes,qdb,qdZ,qdU,qdX,qdS,qd2,qdK,qeo,qdt,qdu,qen,qem,qdo,qc5,qdB,qeb,qd4,qcZ,qed,g47,g96,qb2,qcl,qb0]
   ·rfl
   ·intro v39;simp (maxSteps:=10000000) -implicitDefEqProofs [qdW,qcm,qee,qcx,qdr,qcw,qec,qcr,qdf,qcf,qdF,qc6,qdj,qcV,qdd,qdQ,qeD,qeq,qcY,qdC,qek,qel,qdi,qde,qdG,qd3,qeG,qdP,qdc,qeu,qdy,qd7,qdl,qes,qdb,qdZ,qdU,qdX,qdS,qd2,qdK,qeo,qdt,qdu,qen,qem,qdo,qc5,qdB,qeb,qd4,qcZ,qed,g47,g96,qb2,qcl,qb0]
end Go.T
