/- Formulas: nodes, the reference's run. -/
import Derived.Test.YtlhkmndfkjlodaaH2
set_option linter.unusedSimpArgs false
set_option linter.unusedVariables false
namespace Go.T
open Go Go.Proofs
set_option maxHeartbeats 4000000
set_option maxRecDepth 100000
noncomputable def qoI (N:Nat) (v2:List (Val qe)) (v3:Int) (v4:List (Val (.int .i64))) (v5:Int) (v6:Bool) (v7:ByteArray) (v8:ByteArray) (v9:List (Val (.int .i64))) (v10:Int) (v11:Int) (v12:Int) (k9001:Bool→Option (qc [i4])) (_:Nat):Option (qc [i4]):=bif (!(decide (v3=(0:Int))))then (bif (!((qcN (v4,v5,v6)):Bool))then (k9001 true)else (bif (!(decide (v3=(1:Int))))then (bif (!(ByteArray.toList v7==ByteArray.toList (ByteArray.mk #[])))then (k9001 true)else (bif (!(ByteArray.toList v8==ByteArray.toList (ByteArray.mk #[])))then (k9001 true)else (k9001 (decide ((0:Int)<(v9.length:Int))))))else (k9001 false)))else (bif (!(decide (v3=(1:Int))))then (bif (!(ByteArray.toList v7==ByteArray.toList (ByteArray.mk #[])))then (k9001 true)else (bif (!(ByteArray.toList v8==ByteArray.toList (ByteArray.mk #[])))then (k9001 true)else (k9001 (decide ((0:Int)<(v9.length:Int))))))else (k9001 false))
noncomputable def qiC (N:Nat) (v15:List (Val qe)) (v16:Int) (v17:List (Val (.int .i64))) (v18:Int) (v19:Bool) (v20:ByteArray) (v21:ByteArray) (v22:List (Val (.int .i64))) (v23:Int) (v24:Int) (v25:Int) (k9003:Bool→Option (qc [i4])) (_:Nat):Option (qc [i4]):=bif (!(decide (v16=(5:Int))))then (bif (!(decide (v16=(6:Int))))then (bif (!(decide (v23=(0:Int))))then (k9003 true)else (bif (!(decide (v16=(3:Int))))then (bif (!(decide (v16=(4:Int))))then (bif (!(decide (v25=(0:Int))))then (k9003 true)else (bif (decide (v16≤(1:Int)))then (k9003 (!(decide (v24=(0:Int)))))else (k9003 false)))else (bif (decide (v16≤(1:Int)))then (k9003 (!(decide (v24=(0:Int)))))else (k9003 false)))else (bif (decide (v16≤(1:Int)))then (k9003 (!(decide (v24=(0:Int)))))else (k9003 false))))else (bif (!(decide (v16=(3:Int))))then (bif (!(decide (v16=(4:Int))))then (bif (!(decide (v25=(0:Int))))then (k9003 true)else (bif (decide (v16≤(1:Int)))then (k9003 (!(decide (v24=(0:Int)))))else (k9003 false)))else (bif (decide (v16≤(1:Int)))then (k9003 (!(decide (v24=(0:Int)))))else (k9003 false)))else (bif (decide (v16≤(1:Int)))then (k9003 (!(decide (v24=(0:Int)))))else (k9003 false))))else (bif (!(decide (v16=(3:Int))))then (bif (!(decide (v16=(4:Int))))then (bif (!(decide (v25=(0:Int))))then (k9003 true)else (bif (decide (v16≤(1:Int)))then (k9003 (!(decide (v24=(0:Int)))))else (k9003 false)))else (bif (decide (v16≤(1:Int)))then (k9003 (!(decide (v24=(0:Int)))))else (k9003 false)))else (bif (decide (v16≤(1:Int)))then (k9003 (!(decide (v24=(0:Int)))))else (k9003 false)))
noncomputable def qhI (N:Nat) (v28:Int) (v29:List (Val (.int .i64))) (v30:Int) (v31:Bool) (v32:ByteArray) (v33:ByteArray) (v34:List (Val (.int .i64))) (v35:Int) (v36:Int) (v37:Int) (k9007:Bool→Option (qc [i4])) (_:Nat):Option (qc [i4]):=bif ((qai (v29,v30,v31)):Bool)then (k9007 (decide ((v29.length:Int)=(4:Int))))else (k9007 false)
noncomputable def qfk (N:Nat) (v40:List (Val qe)) (v41:Int) (v43:Int) (v44:List (Val (.int .i64))) (v45:Int) (v46:Bool) (v47:ByteArray) (v48:ByteArray) (v49:List (Val (.int .i64))) (v50:Int) (v51:Int) (v52:Int) (k1:Unit→Option (qc [i4])):Nat→Int→Option (qc [i4])
 | 0,_=>none
 | n+1,v42=>bif (decide (v42<(v49.length:Int)))then (chk (0≤v42∧v42<(v49.length:Int)) (bif (!((inR ((v49.getD v42.toNat (qb (.int .i64))):Int) (0:Int) (3:Int)):Bool))then (some (false,()))else (qfk N v40 v41 v43 v44 v45 v46 v47 v48 v49 v50 v51 v52 k1 n (IntKind.i64.wrap (v42+(1:Int))))))else (k1 ())
noncomputable def qgx (N:Nat) (v53:List (Val qe)) (v54:Int) (v55:Int) (v56:List (Val (.int .i64))) (v57:Int) (v58:Bool) (v59:ByteArray) (v60:ByteArray) (v61:List (Val (.int .i64))) (v62:Int) (v63:Int) (v64:Int) (k9015:Bool→Option (qc [i4])) (_:Nat):Option (qc [i4]):=bif (decide ((0:Int)≤v54))then (chk (0≤v54∧v54<(v53.length:Int)) (bif (decide ((((v53.getD v54.toNat (qb qe)).2).1:Int)=(v61.length:Int)))then (bif (ByteArray.toList v60==ByteArray.toList (ByteArray.mk #[]))then (k9015 true)else (chk (qfc v60 (97:Int) (122:Int)) (k9015 ((qau v60 (97:Int) (122:Int)):Bool))))else (k9015 false)))else (k9015 false)
noncomputable def qhq (N:Nat) (v67:Int) (v68:List (Val (.int .i64))) (v69:Int) (v70:Bool) (v71:ByteArray) (v72:ByteArray) (v73:List (Val (.int .i64))) (v74:Int) (v75:Int) (v76:Int) (k9016:Bool→Option (qc [i4])) (_:Nat):Option (qc [i4]):=bif ((inR v67 (2:Int) (6:Int)):Bool)then (k9016 ((inR v74 (0:Int) (3:Int)):Bool))else (k9016 false)
noncomputable def qqk (N:Nat) (v0:List (Val qe)) (v1:Val qa):Option (qc [i4]):=qoI N v0 (v1.1:Int) (v1.2.1.1:List (Val (.int .i64))) (v1.2.1.2.1:Int) (v1.2.1.2.2:Bool) (v1.2.2.1:ByteArray) (v1.2.2.2.1:ByteArray) (v1.2.2.2.2.1:List (Val (.int .i64))) (v1.2.2.2.2.2.1:Int) (v1.2.2.2.2.2.2.1:Int) (v1.2.2.2.2.2.2.2:Int) (fun (v14:Bool)=>bif v14 then (some (false,()))else (qiC N v0 (v1.1:Int) (v1.2.1.1:List (Val (.int .i64))) (v1.2.1.2.1:Int) (v1.2.1.2.2:Bool) (v1.2.2.1:ByteArray) (v1.2.2.2.1:ByteArray) (v1.2.2.2.2.1:List (Val (.int .i64))) (v1.2.2.2.2.2.1:Int) (v1.2.2.2.2.2.2.1:Int) (v1.2.2.2.2.2.2.2:Int) (fun (v27:Bool)=>bif v27 then (some (false,()))else (bif (decide ((v1.1:Int)=(0:Int)))then (qhI N (v1.1:Int) (v1.2.1.1:List (Val (.int .i64))) (v1.2.1.2.1:Int) (v1.2.1.2.2:Bool) (v1.2.2.1:ByteArray) (v1.2.2.2.1:ByteArray) (v1.2.2.2.2.1:List (Val (.int .i64))) (v1.2.2.2.2.2.1:Int) (v1.2.2.2.2.2.2.1:Int) (v1.2.2.2.2.2.2.2:Int) (fun (v39:Bool)=>some (v39,())) N)else (bif (decide ((v1.1:Int)=(1:Int)))then (chk (qck v0 (v1.2.2.1:ByteArray)) (qfk N v0 ((qU v0 (v1.2.2.1:ByteArray)):Int) (v1.1:Int) (v1.2.1.1:List (Val (.int .i64))) (v1.2.1.2.1:Int) (v1.2.1.2.2:Bool) (v1.2.2.1:ByteArray) (v1.2.2.2.1:ByteArray) (v1.2.2.2.2.1:List (Val (.int .i64))) (v1.2.2.2.2.2.1:Int) (v1.2.2.2.2.2.2.1:Int) (v1.2.2.2.2.2.2.2:Int) (fun (_:Unit)=>qgx N v0 ((qU v0 (v1.2.2.1:ByteArray)):Int) (v1.1:Int) (v1.2.1.1:List (Val (.int .i64))) (v1.2.1.2.1:Int) (v1.2.1.2.2:Bool) (v1.2.2.1:ByteArray) (v1.2.2.2.1:ByteArray) (v1.2.2.2.2.1:List (Val (.int .i64))) (v1.2.2.2.2.2.1:Int) (v1.2.2.2.2.2.2.1:Int) (v1.2.2.2.2.2.2.2:Int) (fun (v66:Bool)=>some (v66,())) N) N (0:Int)))else (qhq N (v1.1:Int) (v1.2.1.1:List (Val (.int .i64))) (v1.2.1.2.1:Int) (v1.2.1.2.2:Bool) (v1.2.2.1:ByteArray) (v1.2.2.2.1:ByteArray) (v1.2.2.2.2.1:List (Val (.int .i64))) (v1.2.2.2.2.2.1:Int) (v1.2.2.2.2.2.2.1:Int) (v1.2.2.2.2.2.2.2:Int) (fun (v78:Bool)=>some (v78,())) N)))) N)) N
def qaD:Gam:=[(47,g47),(96,g96),(141,qb9),(142,qcx),(143,qb8)]
theorem qdv:Gam.get qaD 47=some g47:=rfl
theorem qdS:Gam.get qaD 96=some g96:=rfl
theorem qdO:Gam.get qaD 141=some qb9:=rfl
theorem qc5:Gam.get qaD 142=some qcx:=rfl
theorem qdU:Gam.get qaD 143=some qb8:=rfl
def qrm:Nm:=⟨[true,false,false,true],[],false⟩
theorem qdf:qrm.zero=false:=rfl
theorem qdk:qrm.fix=[]:=rfl
theorem qc3:qrm.keep=[true,false,false,true]:=rfl
def qri:Nm:=⟨[true,false,false,true],[],false⟩
theorem qd3:qri.zero=false:=rfl
theorem qdF:qri.fix=[]:=rfl
theorem qd9:qri.keep=[true,false,false,true]:=rfl
def qp8:Nm:=⟨[false,false,false,true],[],false⟩
theorem qdY:qp8.zero=false:=rfl
theorem qc4:qp8.fix=[]:=rfl
theorem qdw:qp8.keep=[false,false,false,true]:=rfl
def qlG:Nm:=⟨[true,false,false,true,false,true,true],[],false⟩
theorem qdg:qlG.zero=false:=rfl
theorem qdZ:qlG.fix=[]:=rfl
theorem qdj:qlG.keep=[true,false,false,true,false,true,true]:=rfl
def qqM:Nm:=⟨[true,false,false,true,false,true],[],false⟩
theorem qec:qqM.zero=false:=rfl
theorem qdA:qqM.fix=[]:=rfl
theorem qdN:qqM.keep=[true,false,false,true,false,true]:=rfl
def qqa:Nm:=⟨[false,false,false,true],[],false⟩
theorem qd6:qqa.zero=false:=rfl
theorem qdE:qqa.fix=[]:=rfl
theorem qde:qqa.keep=[false,false,false,true]:=rfl
def qqt:Nm:=⟨[true,false,false,true,false,true],[],false⟩
theorem qdm:qqt.zero=false:=rfl
theorem qdu:qqt.fix=[]:=rfl
theorem qdQ:qqt.keep=[true,false,false,true,false,true]:=rfl
def qpp:Nm:=⟨[true,false,false,true,false,false,false,false,false,false,false,false,false,false,false,false,false,false,false,false,false,false,false,false,false,false,false,false,false,false,false,false,false,false,false,false,true],[],false⟩
theorem qdL:qpp.zero=false:=rfl
theorem qd4:qpp.fix=[]:=rfl
theorem qdd:qpp.keep=[true,false,false,true,false,false,false,false,false,false,false,false,false,false,false,false,false,false,false,false,false,false,false,false,false,false,false,false,false,false,false,false,false,false,false,false,true]:=rfl
def qrs:Nm:=⟨[true,false,false,true,false,false,false,false,false,false,false,false,false,false,false,false,false,false,false,false,false,false,false,false,false,false,false,false,false,false,false,false,false,false,false,false,false,false,false,false,false,false,false,false,false,false,false,false,false,false,false,false,false,false,false,false,false,false,false,false,false,false,false,false,false,false,false,false,false,false,false,false,false,false,true],[],false⟩
theorem qdG:qrs.zero=false:=rfl
theorem qdH:qrs.fix=[]:=rfl
theorem qdK:qrs.keep=[true,false,false,true,false,false,false,false,false,false,false,false,false,false,false,false,false,false,false,false,false,false,false,false,false,false,false,false,false,false,false,false,false,false,false,false,false,false,false,false,false,false,false,false,false,false,false,false,false,false,false,false,false,false,false,false,false,false,false,false,false,false,false,false,false,false,false,false,false,false,false,false,false,false,true]:=rfl
def qp1:Nm:=⟨[false,false,false,false,true],[],false⟩
theorem qd2:qp1.zero=false:=rfl
theorem qdM:qp1.fix=[]:=rfl
theorem qdB:qp1.keep=[false,false,false,false,true]:=rfl
def qpK:Nm:=⟨[false,false,false,false,true],[],false⟩
theorem qd1:qpK.zero=false:=rfl
theorem qdr:qpK.fix=[]:=rfl
theorem qds:qpK.keep=[false,false,false,false,true]:=rfl
def qqv:Nm:=⟨[false,false,false,false,true],[],false⟩
theorem qc8:qqv.zero=false:=rfl
theorem qd0:qqv.fix=[]:=rfl
theorem qdo:qqv.keep=[false,false,false,false,true]:=rfl
def qcy:Nat→Tree:=fun i=>if i=15 then .quiet 0 (.quiet 1 (.quiet 2 (.quiet 3 (.quiet 4 (.quiet 5 (.quiet 6 (.quiet 7 (.quiet 8 (.quiet 9 (.quiet 10 (.quiet 11 (.quiet 12 (.quiet 13 (.quiet 14 (.quiet 15 (.quiet 16 (.quiet 17 (.quiet 18 (.quiet 19 (.alt 20 (.quiet 21 (.quiet 22 (.quiet 23 .done))) .stop))))))))))))))))))))else .done
def qcG:Nat→Nm:=fun i=>if i=11 then qlG else ⟨[],[],false⟩
def qcq:Nat→Option Jn:=fun i=>if i=1 then some (.nm qrm)else if i=3 then some (.nm qri)else if i=7 then some (.nm qp8)else if i=15 then some (.nm qqM)else if i=16 then some (.nm qqa)else none
def qcE:Nat→Option Nm:=fun i=>if i=1 then some qqt else none
def qcA:Nat→Option Nm:=fun i=>if i=1 then some qpp else if i=3 then some qrs else if i=7 then some qp1 else if i=15 then some qpK else if i=16 then some qqv else none
theorem qQ5:qm qcy (Try.f118.body.getD .skip)=true:=by kernel_rfl
def qap (N:Nat):Tab:={tr:=qcy,lp:=qcG,ex:=qcE,rg:=qcA,jn:=qcq,fuel:=N}
theorem qc9 (N:Nat):(qap N).pins=false:=rfl
theorem qP0 (N:Nat):qn Try.prog (qap N):=fun id j t h ht=>by
 have h:qcq id=_:=h
 unfold qcq at h
 repeat' split at h
 all_goals first | (simp at h;done) | (simp only [Option.some.injEq]at h;subst h;simp [Jn.tb]at ht;done) | (simp only [Option.some.injEq]at h;subst h;simp only [Jn.tb,Option.some.injEq]at ht;subst ht;exact hTH)
theorem qdJ (N:Nat) (i:Nat):(qap N).tr i=qcy i:=rfl
theorem qdV (N:Nat) (i:Nat):(qap N).lp i=qcG i:=rfl
theorem qdq (N:Nat) (i:Nat):(qap N).ex i=qcE i:=rfl
theorem qdT (N:Nat) (i:Nat):(qap N).rg i=qcA i:=rfl
theorem qdh (N:Nat) (i:Nat):(qap N).jn i=qcq i:=rfl
theorem qdz (N:Nat):(qap N).fuel=N:=rfl
noncomputable def qHp:Code:=cut [true,false,false] (Try.f118.body.getD .skip)
theorem qQ8 {N:Nat} {Q:X→St→Option (qc [i4])} {e:List LV} {h:List Blk}:qA tt qaD (qap N) qHp Q ⟨e,h⟩=qA tt qaD (qap N) (cut [true,false,false] (Try.f118.body.getD .skip)) Q ⟨e,h⟩:=rfl
theorem qTI (N:Nat) (v2:List (Val qe)) (v3:Int) (v4:List (Val (.int .i64))) (v5:Int) (v6:Bool) (v7:ByteArray) (v8:ByteArray) (v9:List (Val (.int .i64))) (v10:Int) (v11:Int) (v12:Int) {k9001:Bool→Option (qc [i4])} {Q:X→St→Option (qc [i4])} {c:Code} (hc:c=qHp) (h9001: ∀(v13:Bool),Q .normal ⟨[.one (.sl 123 qe v2 1),u,u,.one (.ptr 0 0 0),u,u,u,u,u,u,u,u,u,u,u,u,u,u,u,u,u,u,u,u,u,u,u,u,u,u,u,u,u,u,u,u,.one (.bool v13),u,u,u,u,u,u,u,u,u,u,u,u,u,u,u,u,u,u,u,u,u,u,u,u,u,u,u,u,u,u,u,u,u,u,u,u,u,u,u,u,u,u,u,u,u,u,u,u,u,u,u,u,u,u,u,u,u,u,u,u,u,u,u,u,u,u,u,u,u,u,u,u,u,u,u,u,u,u,u,u,u,u,u,u,u,u,u,u,u,u,u,u,u,u,u,u,u,u,u,u,u,u,u],[.box [.int .i64 v3,.sl 3 (.int .i64) v4 1,.int .i64 v5,.bool v6,.str v7,.str v8,.sl 3 (.int .i64) v9 1,.int .i64 v10,.int .i64 v11,.int .i64 v12]]⟩=k9001 v13):qA tt qaD (qap N) c Q ⟨[.one (.sl 123 qe v2 1),u,u,.one (.ptr 0 0 0),u,u,u,u,u,u,u,u,u,u,u,u,u,u,u,u,u,u,u,u,u,u,u,u,u,u,u,u,u,u,u,u,u,u,u,u,u,u,u,u,u,u,u,u,u,u,u,u,u,u,u,u,u,u,u,u,u,u,u,u,u,u,u,u,u,u,u,u,u,u,u,u,u,u,u,u,u,u,u,u,u,u,u,u,u,u,u,u,u,u,u,u,u,u,u,u,u,u,u,u,u,u,u,u,u,u,u,u,u,u,u,u,u,u,u,u,u,u,u,u,u,u,u,u,u,u,u,u,u,u,u,u,u,u,u,u],[.box [.int .i64 v3,.sl 3 (.int .i64) v4 1,.int .i64 v5,.bool v6,.str v7,.str v8,.sl 3 (.int .i64) v9 1,.int .i64 v10,.int .i64 v11,.int .i64 v12]]⟩=qoI N v2 v3 v4 v5 v6 v7 v8 v9 v10 v11 v12 k9001 N:=by
 subst hc;rw [qQ8,qoI];unfold Try.f118
 simp (maxSteps:=10000000) -implicitDefEqProofs [qcO (id:=1),qcD (id:=1),qdJ,qcy,qdV,qcG,qdq,qcE,qdT,qcA,qdh,qcq,qdz,qc9,qdk,qc3,qdf,qdF,qd9,qd3,qc4,qdw,qdY,qdZ,qdj,qdg,qdA,qdN,qec,qdE,qde,qd6,qdu,qdQ,qdm,qd4,qdd,qdL,qdH,qdK,qdG,qdM,qdB,qd2,qdr,qds,qd1,qd0,qdo,qc8,qdv,qdS,qdO,qc5,qdU,g47,g96,qb9,qcx,qb8,h9001]
noncomputable def qJH:Code:=cut [true,true,false,false] (Try.f118.body.getD .skip)
theorem qUU {N:Nat} {Q:X→St→Option (qc [i4])} {e:List LV} {h:List Blk}:qA tt qaD (qap N) qJH Q ⟨e,h⟩=qA tt qaD (qap N) (cut [true,true,false,false] (Try.f118.body.getD .skip)) Q ⟨e,h⟩:=rfl
theorem qRe (N:Nat) (v15:List (Val qe)) (v16:Int) (v17:List (Val (.int .i64))) (v18:Int) (v19:Bool) (v20:ByteArray) (v21:ByteArray) (v22:List (Val (.int .i64))) (v23:Int) (v24:Int) (v25:Int) {k9003:Bool→Option (qc [i4])} {Q:X→St→Option (qc [i4])} {c:Code} (hc:c=qJH) (h9003: ∀(v26:Bool),Q .normal ⟨[.one (.sl 123 qe v15 1),u,u,.one (.ptr 0 0 0),u,u,u,u,u,u,u,u,u,u,u,u,u,u,u,u,u,u,u,u,u,u,u,u,u,u,u,u,u,u,u,u,u,u,u,u,u,u,u,u,u,u,u,u,u,u,u,u,u,u,u,u,u,u,u,u,u,u,u,u,u,u,u,u,u,u,u,u,u,u,.one (.bool v26),u,u,u,u,u,u,u,u,u,u,u,u,u,u,u,u,u,u,u,u,u,u,u,u,u,u,u,u,u,u,u,u,u,u,u,u,u,u,u,u,u,u,u,u,u,u,u,u,u,u,u,u,u,u,u,u,u,u,u,u,u,u,u,u,u],[.box [.int .i64 v16,.sl 3 (.int .i64) v17 1,.int .i64 v18,.bool v19,.str v20,.str v21,.sl 3 (.int .i64) v22 1,.int .i64 v23,.int .i64 v24,.int .i64 v25]]⟩=k9003 v26):qA tt qaD (qap N) c Q ⟨[.one (.sl 123 qe v15 1),u,u,.one (.ptr 0 0 0),u,u,u,u,u,u,u,u,u,u,u,u,u,u,u,u,u,u,u,u,u,u,u,u,u,u,u,u,u,u,u,u,u,u,u,u,u,u,u,u,u,u,u,u,u,u,u,u,u,u,u,u,u,u,u,u,u,u,u,u,u,u,u,u,u,u,u,u,u,u,u,u,u,u,u,u,u,u,u,u,u,u,u,u,u,u,u,u,u,u,u,u,u,u,u,u,u,u,u,u,u,u,u,u,u,u,u,u,u,u,u,u,u,u,u,u,u,u,u,u,u,u,u,u,u,u,u,u,u,u,u,u,u,u,u,u],[.box [.int .i64 v16,.sl 3 (.int .i64) v17 1,.int .i64 v18,.bool v19,.str v20,.str v21,.sl 3 (.int .i64) v22 1,.int .i64 v23,.int .i64 v24,.int .i64 v25]]⟩=qiC N v15 v16 v17 v18 v19 v20 v21 v22 v23 v24 v25 k9003 N:=by
 subst hc;rw [qUU,qiC];unfold Try.f118
 simp (maxSteps:=10000000) -implicitDefEqProofs [qcO (id:=3),qcD (id:=3),qdJ,qcy,qdV,qcG,qdq,qcE,qdT,qcA,qdh,qcq,qdz,qc9,qdk,qc3,qdf,qdF,qd9,qd3,qc4,qdw,qdY,qdZ,qdj,qdg,qdA,qdN,qec,qdE,qde,qd6,qdu,qdQ,qdm,qd4,qdd,qdL,qdH,qdK,qdG,qdM,qdB,qd2,qdr,qds,qd1,qd0,qdo,qc8,qdv,qdS,qdO,qc5,qdU,g47,g96,qb9,qcx,qb8,h9003]
noncomputable def qKm:Code:=cut [true,true,true,false,true,true,true,false,false] (Try.f118.body.getD .skip)
theorem qP5 {N:Nat} {Q:X→St→Option (qc [i4])} {e:List LV} {h:List Blk}:qA tt qaD (qap N) qKm Q ⟨e,h⟩=qA tt qaD (qap N) (cut [true,true,true,false,true,true,true,false,false] (Try.f118.body.getD .skip)) Q ⟨e,h⟩:=rfl
theorem qK6 (N:Nat) (v28:Int) (v29:List (Val (.int .i64))) (v30:Int) (v31:Bool) (v32:ByteArray) (v33:ByteArray) (v34:List (Val (.int .i64))) (v35:Int) (v36:Int) (v37:Int) {k9007:Bool→Option (qc [i4])} {Q:X→St→Option (qc [i4])} {c:Code} (hc:c=qKm) (h9007: ∀(v38:Bool),Q .normal ⟨[u,u,u,u,.one (.bool v38),u,u,u,u,u,u,u,u,u,u,u,u,u,u,u,u,u,u,u,u,u,u,u,u,u,u,u,u,u,u,u,u,u,u,u,u,u,u,u,u,u,u,u,u,u,u,u,u,u,u,u,u,u,u,u,u,u,u,u,u,u,u,u,u,u,u,u,u,u,u,u,u,u,u,u,u,u,u,u,u,u,u,u,u,u,u,u,u,u,u,u,u,u,u,u,u,u,u,u,u,u,u,u,u,u,u,u,u,u,u,u,u,u,u,u,u,u,u,u,u,u,u,u,u,u,u,u,u,u,u,u,u,u,u,u],[]⟩=k9007 v38):qA tt qaD (qap N) c Q ⟨[u,u,u,.one (.ptr 0 0 0),u,u,u,u,u,u,u,u,u,u,u,u,u,u,u,u,u,u,u,u,u,u,u,u,u,u,u,u,u,u,u,u,u,u,u,u,u,u,u,u,u,u,u,u,u,u,u,u,u,u,u,u,u,u,u,u,u,u,u,u,u,u,u,u,u,u,u,u,u,u,u,u,u,u,u,u,u,u,u,u,u,u,u,u,u,u,u,u,u,u,u,u,u,u,u,u,u,u,u,u,u,u,u,u,u,u,u,u,u,u,u,u,u,u,u,u,u,u,u,u,u,u,u,u,u,u,u,u,u,u,u,u,u,u,u,u],[.box [.int .i64 v28,.sl 3 (.int .i64) v29 1,.int .i64 v30,.bool v31,.str v32,.str v33,.sl 3 (.int .i64) v34 1,.int .i64 v35,.int .i64 v36,.int .i64 v37]]⟩=qhI N v28 v29 v30 v31 v32 v33 v34 v35 v36 v37 k9007 N:=by
 subst hc;rw [qP5,qhI];unfold Try.f118
 simp (maxSteps:=10000000) -implicitDefEqProofs [qcO (id:=7),qcD (id:=7),qdJ,qcy,qdV,qcG,qdq,qcE,qdT,qcA,qdh,qcq,qdz,qc9,qdk,qc3,qdf,qdF,qd9,qd3,qc4,qdw,qdY,qdZ,qdj,qdg,qdA,qdN,qec,qdE,qde,qd6,qdu,qdQ,qdm,qd4,qdd,qdL,qdH,qdK,qdG,qdM,qdB,qd2,qdr,qds,qd1,qd0,qdo,qc8,qdv,qdS,qdO,qc5,qdU,g47,g96,qb9,qcx,qb8,h9007]
noncomputable def qKH:Code:=cut [true,true,true,false,true,true,true,true,true,false,true,false,true,true,true] (Try.f118.body.getD .skip)
theorem qZj {N:Nat} {Q:X→St→Option (qc [i4])} {e:List LV} {h:List Blk}:qf tt qaD (qap N) qKH Q ⟨e,h⟩=qf tt qaD (qap N) (cut [true,true,true,false,true,true,true,true,true,false,true,false,true,true,true] (Try.f118.body.getD .skip)) Q ⟨e,h⟩:=rfl
theorem qSb (N:Nat) (v40:List (Val qe)) (v41:Int) (v43:Int) (v44:List (Val (.int .i64))) (v45:Int) (v46:Bool) (v47:ByteArray) (v48:ByteArray) (v49:List (Val (.int .i64))) (v50:Int) (v51:Int) (v52:Int) {k1:Unit→Option (qc [i4])} {Q:X→St→Option (qc [i4])} {c:Code} (hc:c=qKH) (hret: ∀st,Q .ret st=qN tt true [i4] [.tmp 4] st) (h1:Q (.exit 1) ⟨[.one (.sl 123 qe v40 1),u,u,.one (.ptr 0 0 0),u,.one (.int .i64 v41),u,u,u,u,u,u,u,u,u,u,u,u,u,u,u,u,u,u,u,u,u,u,u,u,u,u,u,u,u,u,u,u,u,u,u,u,u,u,u,u,u,u,u,u,u,u,u,u,u,u,u,u,u,u,u,u,u,u,u,u,u,u,u,u,u,u,u,u,u,u,u,u,u,u,u,u,u,u,u,u,u,u,u,u,u,u,u,u,u,u,u,u,u,u,u,u,u,u,u,u,u,u,u,u,u,u,u,u,u,u,u,u,u,u,u,u,u,u,u,u,u,u,u,u,u,u,u,u,u,u,u,u,u,u],[.box [.int .i64 v43,.sl 3 (.int .i64) v44 1,.int .i64 v45,.bool v46,.str v47,.str v48,.sl 3 (.int .i64) v49 1,.int .i64 v50,.int .i64 v51,.int .i64 v52]]⟩=k1 ()): ∀(n:Nat) (v42:Int),qI (qf tt qaD (qap N) c) false qlG Q n ⟨[.one (.sl 123 qe v40 1),u,u,.one (.ptr 0 0 0),u,.one (.int .i64 v41),.one (.int .i64 v42),u,u,u,u,u,u,u,u,u,u,u,u,u,u,u,u,u,u,u,u,u,u,u,u,u,u,u,u,u,u,u,u,u,u,u,u,u,u,u,u,u,u,u,u,u,u,u,u,u,u,u,u,u,u,u,u,u,u,u,u,u,u,u,u,u,u,u,u,u,u,u,u,u,u,u,u,u,u,u,u,u,u,u,u,u,u,u,u,u,u,u,u,u,u,u,u,u,u,u,u,u,u,u,u,u,u,u,u,u,u,u,u,u,u,u,u,u,u,u,u,u,u,u,u,u,u,u,u,u,u,u,u,u],[.box [.int .i64 v43,.sl 3 (.int .i64) v44 1,.int .i64 v45,.bool v46,.str v47,.str v48,.sl 3 (.int .i64) v49 1,.int .i64 v50,.int .i64 v51,.int .i64 v52]]⟩=qfk N v40 v41 v43 v44 v45 v46 v47 v48 v49 v50 v51 v52 k1 n v42:=by
 subst hc;intro n;induction n with
 | zero=>intros;rfl
 | succ n ih=>
   intro v42
   rw [qS,qZj,qfk];unfold Try.f118
   simp (maxSteps:=10000000) -implicitDefEqProofs [qdJ,qcy,qdV,qcG,qdq,qcE,qdT,qcA,qdh,qcq,qdz,qc9,qdk,qc3,qdf,qdF,qd9,qd3,qc4,qdw,qdY,qdZ,qdj,qdg,qdA,qdN,qec,qdE,qde,qd6,qdu,qdQ,qdm,qd4,qdd,qdL,qdH,qdK,qdG,qdM,qdB,qd2,qdr,qds,qd1,qd0,qdo,qc8,qdv,qdS,qdO,qc5,qdU,g47,g96,qb9,qcx,qb8,hret,h1,ih]
noncomputable def qG7:Code:=cut [true,true,true,false,true,true,true,true,true,false,true,true,false] (Try.f118.body.getD .skip)
theorem qSf {N:Nat} {Q:X→St→Option (qc [i4])} {e:List LV} {h:List Blk}:qA tt qaD (qap N) qG7 Q ⟨e,h⟩=qA tt qaD (qap N) (cut [true,true,true,false,true,true,true,true,true,false,true,true,false] (Try.f118.body.getD .skip)) Q ⟨e,h⟩:=rfl
theorem qSI (N:Nat) (v53:List (Val qe)) (v54:Int) (v55:Int) (v56:List (Val (.int .i64))) (v57:Int) (v58:Bool) (v59:ByteArray) (v60:ByteArray) (v61:List (Val (.int .i64))) (v62:Int) (v63:Int) (v64:Int) {k9015:Bool→Option (qc [i4])} {Q:X→St→Option (qc [i4])} {c:Code} (hc:c=qG7) (h9015: ∀(v65:Bool),Q .normal ⟨[u,u,u,u,.one (.bool v65),u,u,u,u,u,u,u,u,u,u,u,u,u,u,u,u,u,u,u,u,u,u,u,u,u,u,u,u,u,u,u,u,u,u,u,u,u,u,u,u,u,u,u,u,u,u,u,u,u,u,u,u,u,u,u,u,u,u,u,u,u,u,u,u,u,u,u,u,u,u,u,u,u,u,u,u,u,u,u,u,u,u,u,u,u,u,u,u,u,u,u,u,u,u,u,u,u,u,u,u,u,u,u,u,u,u,u,u,u,u,u,u,u,u,u,u,u,u,u,u,u,u,u,u,u,u,u,u,u,u,u,u,u,u,u],[]⟩=k9015 v65):qA tt qaD (qap N) c Q ⟨[.one (.sl 123 qe v53 1),u,u,.one (.ptr 0 0 0),u,.one (.int .i64 v54),u,u,u,u,u,u,u,u,u,u,u,u,u,u,u,u,u,u,u,u,u,u,u,u,u,u,u,u,u,u,u,u,u,u,u,u,u,u,u,u,u,u,u,u,u,u,u,u,u,u,u,u,u,u,u,u,u,u,u,u,u,u,u,u,u,u,u,u,u,u,u,u,u,u,u,u,u,u,u,u,u,u,u,u,u,u,u,u,u,u,u,u,u,u,u,u,u,u,u,u,u,u,u,u,u,u,u,u,u,u,u,u,u,u,u,u,u,u,u,u,u,u,u,u,u,u,u,u,u,u,u,u,u,u],[.box [.int .i64 v55,.sl 3 (.int .i64) v56 1,.int .i64 v57,.bool v58,.str v59,.str v60,.sl 3 (.int .i64) v61 1,.int .i64 v62,.int .i64 v63,.int .i64 v64]]⟩=qgx N v53 v54 v55 v56 v57 v58 v59 v60 v61 v62 v63 v64 k9015 N:=by
 subst hc;rw [qSf,qgx];unfold Try.f118
 simp (maxSteps:=10000000) -implicitDefEqProofs [qcO (id:=15),qcD (id:=15),qdJ,qcy,qdV,qcG,qdq,qcE,qdT,qcA,qdh,qcq,qdz,qc9,qdk,qc3,qdf,qdF,qd9,qd3,qc4,qdw,qdY,qdZ,qdj,qdg,qdA,qdN,qec,qdE,qde,qd6,qdu,qdQ,qdm,qd4,qdd,qdL,qdH,qdK,qdG,qdM,qdB,qd2,qdr,qds,qd1,qd0,qdo,qc8,qdv,qdS,qdO,qc5,qdU,g47,g96,qb9,qcx,qb8,h9015]
noncomputable def qI2:Code:=cut [true,true,true,true,false] (Try.f118.body.getD .skip)
theorem qK1 {N:Nat} {Q:X→St→Option (qc [i4])} {e:List LV} {h:List Blk}:qA tt qaD (qap N) qI2 Q ⟨e,h⟩=qA tt qaD (qap N) (cut [true,true,true,true,false] (Try.f118.body.getD .skip)) Q ⟨e,h⟩:=rfl
theorem qW4 (N:Nat) (v67:Int) (v68:List (Val (.int .i64))) (v69:Int) (v70:Bool) (v71:ByteArray) (v72:ByteArray) (v73:List (Val (.int .i64))) (v74:Int) (v75:Int) (v76:Int) {k9016:Bool→Option (qc [i4])} {Q:X→St→Option (qc [i4])} {c:Code} (hc:c=qI2) (h9016: ∀(v77:Bool),Q .normal ⟨[u,u,u,u,.one (.bool v77),u,u,u,u,u,u,u,u,u,u,u,u,u,u,u,u,u,u,u,u,u,u,u,u,u,u,u,u,u,u,u,u,u,u,u,u,u,u,u,u,u,u,u,u,u,u,u,u,u,u,u,u,u,u,u,u,u,u,u,u,u,u,u,u,u,u,u,u,u,u,u,u,u,u,u,u,u,u,u,u,u,u,u,u,u,u,u,u,u,u,u,u,u,u,u,u,u,u,u,u,u,u,u,u,u,u,u,u,u,u,u,u,u,u,u,u,u,u,u,u,u,u,u,u,u,u,u,u,u,u,u,u,u,u,u],[]⟩=k9016 v77):qA tt qaD (qap N) c Q ⟨[u,u,u,.one (.ptr 0 0 0),u,u,u,u,u,u,u,u,u,u,u,u,u,u,u,u,u,u,u,u,u,u,u,u,u,u,u,u,u,u,u,u,u,u,u,u,u,u,u,u,u,u,u,u,u,u,u,u,u,u,u,u,u,u,u,u,u,u,u,u,u,u,u,u,u,u,u,u,u,u,u,u,u,u,u,u,u,u,u,u,u,u,u,u,u,u,u,u,u,u,u,u,u,u,u,u,u,u,u,u,u,u,u,u,u,u,u,u,u,u,u,u,u,u,u,u,u,u,u,u,u,u,u,u,u,u,u,u,u,u,u,u,u,u,u,u],[.box [.int .i64 v67,.sl 3 (.int .i64) v68 1,.int .i64 v69,.bool v70,.str v71,.str v72,.sl 3 (.int .i64) v73 1,.int .i64 v74,.int .i64 v75,.int .i64 v76]]⟩=qhq N v67 v68 v69 v70 v71 v72 v73 v74 v75 v76 k9016 N:=by
 subst hc;rw [qK1,qhq];unfold Try.f118
 simp (maxSteps:=10000000) -implicitDefEqProofs [qcO (id:=16),qcD (id:=16),qdJ,qcy,qdV,qcG,qdq,qcE,qdT,qcA,qdh,qcq,qdz,qc9,qdk,qc3,qdf,qdF,qd9,qd3,qc4,qdw,qdY,qdZ,qdj,qdg,qdA,qdN,qec,qdE,qde,qd6,qdu,qdQ,qdm,qd4,qdd,qdL,qdH,qdK,qdG,qdM,qdB,qd2,qdr,qds,qd1,qd0,qdo,qc8,qdv,qdS,qdO,qc5,qdU,g47,g96,qb9,qcx,qb8,h9016]
theorem qTh (N:Nat) (v0:List (Val qe)) (v1:Val qa):qf tt qaD (qap N) (Try.f118.body.getD .skip) (qo tt true [i4] [.tmp 4]) (qv [i63,qca] 140 (v0,v1,()))=qqk N v0 v1:=by
 unfold Try.f118
 simp (maxSteps:=10000000) -implicitDefEqProofs [qdJ,qcy,qdV,qcG,qdq,qcE,qdT,qcA,qdh,qcq,qdz,qc9,qdk,qc3,qdf,qdF,qd9,qd3,qc4,qdw,qdY,qdZ,qdj,qdg,qdA,qdN,qec,qdE,qde,qd6,qdu,qdQ,qdm,qd4,qdd,qdL,qdH,qdK,qdG,qdM,qdB,qd2,qdr,qds,qd1,qd0,qdo,qc8,qdv,qdS,qdO,qc5,qdU,g47,g96,qb9,qcx,qb8]
 rewrite [qTI (k9001:=(fun (v14:Bool)=>bif v14 then (some (false,()))else (qiC N v0 (v1.1:Int) (v1.2.1.1:List (Val (.int .i64))) (v1.2.1.2.1:Int) (v1.2.1.2.2:Bool) (v1.2.2.1:ByteArray) (v1.2.2.2.1:ByteArray) (v1.2.2.2.2.1:List (Val (.int .i64))) (v1.2.2.2.2.2.1:Int) (v1.2.2.2.2.2.2.1:Int) (v1.2.2.2.2.2.2.2:Int) (fun (v27:Bool)=>bif v27 then (some (false,()))else (bif (decide ((v1.1:Int)=(0:Int)))then (qhI N (v1.1:Int) (v1.2.1.1:List (Val (.int .i64))) (v1.2.1.2.1:Int) (v1.2.1.2.2:Bool) (v1.2.2.1:ByteArray) (v1.2.2.2.1:ByteArray) (v1.2.2.2.2.1:List (Val (.int .i64))) (v1.2.2.2.2.2.1:Int) (v1.2.2.2.2.2.2.1:Int) (v1.2.2.2.2.2.2.2:Int) (fun (v39:Bool)=>some (v39,())) N)else (bif (decide ((v1.1:Int)=(1:Int)))then (chk (qck v0 (v1.2.2.1:ByteArray)) (qfk N v0 ((qU v0 (v1.2.2.1:ByteArray)):Int) (v1.1:Int) (v1.2.1.1:List (Val (.int .i64))) (v1.2.1.2.1:Int) (v1.2.1.2.2:Bool) (v1.2.2.1:ByteArray) (v1.2.2.2.1:ByteArray) (v1.2.2.2.2.1:List (Val (.int .i64))) (v1.2.2.2.2.2.1:Int) (v1.2.2.2.2.2.2.1:Int) (v1.2.2.2.2.2.2.2:Int) (fun (_:Unit)=>qgx N v0 ((qU v0 (v1.2.2.1:ByteArray)):Int) (v1.1:Int) (v1.2.1.1:List (Val (.int .i64))) (v1.2.1.2.1:Int) (v1.2.1.2.2:Bool) (v1.2.2.1:ByteArray) (v1.2.2.2.1:ByteArray) (v1.2.2.2.2.1:List (Val (.int .i64))) (v1.2.2.2.2.2.1:Int) (v1.2.2.2.2.2.2.1:Int) (v1.2.2.2.2.2.2.2:Int) (fun (v66:Bool)=>some (v66,())) N) N (0:Int)))else (qhq N (v1.1:Int) (v1.2.1.1:List (Val (.int .i64))) (v1.2.1.2.1:Int) (v1.2.1.2.2:Bool) (v1.2.2.1:ByteArray) (v1.2.2.2.1:ByteArray) (v1.2.2.2.2.1:List (Val (.int .i64))) (v1.2.2.2.2.2.1:Int) (v1.2.2.2.2.2.2.1:Int) (v1.2.2.2.2.2.2.2:Int) (fun (v78:Bool)=>some (v78,())) N)))) N))) N _ _ _ _ _ _ _ _ _ _ _ ?_ ?_]
 ·rewrite [qqk];first | rfl | simp (maxSteps:=10000000) -implicitDefEqProofs []
 ·rfl
 ·intro v14;simp (maxSteps:=10000000) -implicitDefEqProofs [qdJ,qcy,qdV,qcG,qdq,qcE,qdT,qcA,qdh,qcq,qdz,qc9,qdk,qc3,qdf,qdF,qd9,qd3,qc4,qdw,qdY,qdZ,qdj,qdg,qdA,qdN,qec,qdE,qde,qd6,qdu,qdQ,qdm,qd4,qdd,qdL,qdH,qdK,qdG,qdM,qdB,qd2,qdr,qds,qd1,qd0,qdo,qc8,qdv,qdS,qdO,qc5,qdU,g47,g96,qb9,qcx,qb8]
  rewrite [qRe (k9003:=(fun (v27:Bool)=>bif v27 then (some (false,()))else (bif (decide ((v1.1:Int)=(0:Int)))then (qhI N (v1.1:Int) (v1.2.1.1:List (Val (.int .i64))) (v1.2.1.2.1:Int) (v1.2.1.2.2:Bool) (v1.2.2.1:ByteArray) (v1.2.2.2.1:ByteArray) (v1.2.2.2.2.1:List (Val (.int .i64))) (v1.2.2.2.2.2.1:Int) (v1.2.2.2.2.2.2.1:Int) (v1.2.2.2.2.2.2.2:Int) (fun (v39:Bool)=>some (v39,())) N)else (bif (decide ((v1.1:Int)=(1:Int)))then (chk (qck v0 (v1.2.2.1:ByteArray)) (qfk N v0 ((qU v0 (v1.2.2.1:ByteArray)):Int) (v1.1:Int) (v1.2.1.1:List (Val (.int .i64))) (v1.2.1.2.1:Int) (v1.2.1.2.2:Bool) (v1.2.2.1:ByteArray) (v1.2.2.2.1:ByteArray) (v1.2.2.2.2.1:List (Val (.int .i64))) (v1.2.2.2.2.2.1:Int) (v1.2.2.2.2.2.2.1:Int) (v1.2.2.2.2.2.2.2:Int) (fun (_:Unit)=>qgx N v0 ((qU v0 (v1.2.2.1:ByteArray)):Int) (v1.1:Int) (v1.2.1.1:List (Val (.int .i64))) (v1.2.1.2.1:Int) (v1.2.1.2.2:Bool) (v1.2.2.1:ByteArray) (v1.2.2.2.1:ByteArray) (v1.2.2.2.2.1:List (Val (.int .i64))) (v1.2.2.2.2.2.1:Int) (v1.2.2.2.2.2.2.1:Int) (v1.2.2.2.2.2.2.2:Int) (fun (v66:Bool)=>some (v66,())) N) N (0:Int)))else (qhq N (v1.1:Int) (v1.2.1.1:List (Val (.int .i64))) (v1.2.1.2.1:Int) (v1.2.1.2.2:Bool) (v1.2.2.1:ByteArray) (v1.2.2.2.1:ByteArray) (v1.2.2.2.2.1:List (Val (.int .i64))) (v1.2.2.2.2.2.1:Int) (v1.2.2.2.2.2.2.1:Int) (v1.2.2.2.2.2.2.2:Int) (fun (v78:Bool)=>some (v78,())) N))))) N _ _ _ _ _ _ _ _ _ _ _ ?_ ?_]
  ·first | rfl | simp (maxSteps:=10000000) -implicitDefEqProofs []
  ·rfl
  ·intro v27;simp (maxSteps:=10000000) -implicitDefEqProofs [qdJ,qcy,qdV,qcG,qdq,qcE,qdT,qcA,qdh,qcq,qdz,qc9,qdk,qc3,qdf,qdF,qd9,qd3,qc4,qdw,qdY,qdZ,qdj,qdg,qdA,qdN,qec,qdE,qde,qd6,qdu,qdQ,qdm,qd4,qdd,qdL,qdH,qdK,qdG,qdM,qdB,qd2,qdr,qds,qd1,qd0,qdo,qc8,qdv,qdS,qdO,qc5,qdU,g47,g96,qb9,qcx,qb8]
   rewrite [qK6 (k9007:=(fun (v39:Bool)=>some (v39,()))) N _ _ _ _ _ _ _ _ _ _ ?_ ?_]
   rewrite [qSb (k1:=(fun (_:Unit)=>qgx N v0 ((qU v0 (v1.2.2.1:ByteArray)):Int) (v1.1:Int) (v1.2.1.1:List (Val (.int .i64))) (v1.2.1.2.1:Int) (v1.2.1.2.2:Bool) (v1.2.2.1:ByteArray) (v1.2.2.2.1:ByteArray) (v1.2.2.2.2.1:List (Val (.int .i64))) (v1.2.2.2.2.2.1:Int) (v1.2.2.2.2.2.2.1:Int) (v1.2.2.2.2.2.2.2:Int) (fun (v66:Bool)=>some (v66,())) N)) N _ _ _ _ _ _ _ _ _ _ _ _ ?_ ?_ ?_]
   rewrite [qW4 (k9016:=(fun (v78:Bool)=>some (v78,()))) N _ _ _ _ _ _ _ _ _ _ ?_ ?_]
   ·first | rfl | simp (maxSteps:=10000000) -implicitDefEqProofs []
   ·rfl
   ·intro v78;simp (maxSteps:=10000000) -implicitDefEqProofs [qdJ,qcy,qdV,qcG,qdq,qcE,qdT,qcA,qdh,qcq,qdz,qc9,qdk,qc3,qdf,qdF,qd9,qd3,qc4,qdw,qdY,qdZ,qdj,qdg,qdA,qdN,qec,qdE,qde,qd6,qdu,qdQ,qdm,qd4,qdd,qdL,qdH,qdK,qdG,qdM,qdB,qd2,qdr,qds,qd1,qd0,qdo,qc8,qdv,qdS,qdO,qc5,qdU,g47,g96,qb9,qcx,qb8]
   ·rfl
   ·intro;simp only [qQ,qR,qT,qr]
   ·simp (maxSteps:=10000000) -implicitDefEqProofs [qdJ,qcy,qdV,qcG,qdq,qcE,qdT,qcA,qdh,qcq,qdz,qc9,qdk,qc3,qdf,qdF,qd9,qd3,qc4,qdw,qdY,qdZ,qdj,qdg,qdA,qdN,qec,qdE,qde,qd6,qdu,qdQ,qdm,qd4,qdd,qdL,qdH,qdK,qdG,qdM,qdB,qd2,qdr,qds,qd1,qd0,qdo,qc8,qdv,qdS,qdO,qc5,qdU,g47,g96,qb9,qcx,qb8]
    rewrite [qSI (k9015:=(fun (v66:Bool)=>some (v66,()))) N _ _ _ _ _ _ _ _ _ _ _ _ ?_ ?_]
    ·first | rfl | simp (maxSteps:=10000000) -implicitDefEqProofs []
    ·rfl
    ·intro v66;simp (maxSteps:=10000000) -implicitDefEqProofs [qdJ,qcy,qdV,qcG,qdq,qcE,qdT,qcA,qdh,qcq,qdz,qc9,qdk,qc3,qdf,qdF,qd9,qd3,qc4,qdw,qdY,qdZ,qdj,qdg,qdA,qdN,qec,qdE,qde,qd6,qdu,qdQ,qdm,qd4,qdd,qdL,qdH,qdK,qdG,qdM,qdB,qd2,qdr,qds,qd1,qd0,qdo,qc8,qdv,qdS,qdO,qc5,qdU,g47,g96,qb9,qcx,qb8]
   ·rfl
   ·intro v39;simp (maxSteps:=10000000) -implicitDefEqProofs [qdJ,qcy,qdV,qcG,qdq,qcE,qdT,qcA,qdh,qcq,qdz,qc9,qdk,qc3,qdf,qdF,qd9,qd3,qc4,qdw,qdY,qdZ,qdj,qdg,qdA,qdN,qec,qdE,qde,qd6,qdu,qdQ,qdm,qd4,qdd,qdL,qdH,qdK,qdG,qdM,qdB,qd2,qdr,qds,qd1,qd0,qdo,qc8,qdv,qdS,qdO,qc5,qdU,g47,g96,qb9,qcx,qb8]
end Go.T
