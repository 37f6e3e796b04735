/- Formulas: nodes, the reference's run. -/
import Derived.Test.YtkjiecjpdbpghaaH2
set_option linter.unusedSimpArgs false
set_option linter.unusedVariables false
namespace Go.T
open Go Go.Proofs
set_option maxHeartbeats 4000000
set_option maxRecDepth 100000
noncomputable def qiG (N:Nat) (v2:List (Val Y53)) (v3:Int) (v4:List (Val (.int .i64))) (v5:Int) (v6:Bool) (v7:ByteArray) (v8:ByteArray) (v9:List (Val (.int .i64))) (v10:Int) (v11:Int) (v12:Int) (k9001:Bool→Option (qa [i4])) (_:Nat):Option (qa [i4]):=bif (!(decide (v3=(0:Int))))then (bif (!((qbZ (v4,v5,v6)):Bool))then (k9001 true)else (bif (!(decide (v3=(1:Int))))then (bif (!(ByteArray.toList v7==ByteArray.toList (ByteArray.mk #[])))then (k9001 true)else (bif (!(ByteArray.toList v8==ByteArray.toList (ByteArray.mk #[])))then (k9001 true)else (k9001 (decide ((0:Int)<(v9.length:Int))))))else (k9001 false)))else (bif (!(decide (v3=(1:Int))))then (bif (!(ByteArray.toList v7==ByteArray.toList (ByteArray.mk #[])))then (k9001 true)else (bif (!(ByteArray.toList v8==ByteArray.toList (ByteArray.mk #[])))then (k9001 true)else (k9001 (decide ((0:Int)<(v9.length:Int))))))else (k9001 false))
noncomputable def qfT (N:Nat) (v15:List (Val Y53)) (v16:Int) (v17:List (Val (.int .i64))) (v18:Int) (v19:Bool) (v20:ByteArray) (v21:ByteArray) (v22:List (Val (.int .i64))) (v23:Int) (v24:Int) (v25:Int) (k9003:Bool→Option (qa [i4])) (_:Nat):Option (qa [i4]):=bif (!(decide (v16=(5:Int))))then (bif (!(decide (v16=(6:Int))))then (bif (!(decide (v23=(0:Int))))then (k9003 true)else (bif (!(decide (v16=(3:Int))))then (bif (!(decide (v16=(4:Int))))then (bif (!(decide (v25=(0:Int))))then (k9003 true)else (bif (decide (v16≤(1:Int)))then (k9003 (!(decide (v24=(0:Int)))))else (k9003 false)))else (bif (decide (v16≤(1:Int)))then (k9003 (!(decide (v24=(0:Int)))))else (k9003 false)))else (bif (decide (v16≤(1:Int)))then (k9003 (!(decide (v24=(0:Int)))))else (k9003 false))))else (bif (!(decide (v16=(3:Int))))then (bif (!(decide (v16=(4:Int))))then (bif (!(decide (v25=(0:Int))))then (k9003 true)else (bif (decide (v16≤(1:Int)))then (k9003 (!(decide (v24=(0:Int)))))else (k9003 false)))else (bif (decide (v16≤(1:Int)))then (k9003 (!(decide (v24=(0:Int)))))else (k9003 false)))else (bif (decide (v16≤(1:Int)))then (k9003 (!(decide (v24=(0:Int)))))else (k9003 false))))else (bif (!(decide (v16=(3:Int))))then (bif (!(decide (v16=(4:Int))))then (bif (!(decide (v25=(0:Int))))then (k9003 true)else (bif (decide (v16≤(1:Int)))then (k9003 (!(decide (v24=(0:Int)))))else (k9003 false)))else (bif (decide (v16≤(1:Int)))then (k9003 (!(decide (v24=(0:Int)))))else (k9003 false)))else (bif (decide (v16≤(1:Int)))then (k9003 (!(decide (v24=(0:Int)))))else (k9003 false)))
noncomputable def qd3 (N:Nat) (v28:Int) (v29:List (Val (.int .i64))) (v30:Int) (v31:Bool) (v32:ByteArray) (v33:ByteArray) (v34:List (Val (.int .i64))) (v35:Int) (v36:Int) (v37:Int) (k9007:Bool→Option (qa [i4])) (_:Nat):Option (qa [i4]):=bif ((q4 (v29,v30,v31)):Bool)then (k9007 (decide ((v29.length:Int)=(4:Int))))else (k9007 false)
noncomputable def qct (N:Nat) (v40:List (Val Y53)) (v41:Int) (v43:Int) (v44:List (Val (.int .i64))) (v45:Int) (v46:Bool) (v47:ByteArray) (v48:ByteArray) (v49:List (Val (.int .i64))) (v50:Int) (v51:Int) (v52:Int) (k1:Unit→Option (qa [i4])):Nat→Int→Option (qa [i4])
 | 0,_=>none
 | n+1,v42=>bif (decide (v42<(v49.length:Int)))then (chk (0≤v42∧v42<(v49.length:Int)) (bif (!((inR ((v49.getD v42.toNat (qb (.int .i64))):Int) (0:Int) (3:Int)):Bool))then (some (false,()))else (qct N v40 v41 v43 v44 v45 v46 v47 v48 v49 v50 v51 v52 k1 n (IntKind.i64.wrap (v42+(1:Int))))))else (k1 ())
noncomputable def qdn (N:Nat) (v53:List (Val Y53)) (v54:Int) (v55:Int) (v56:List (Val (.int .i64))) (v57:Int) (v58:Bool) (v59:ByteArray) (v60:ByteArray) (v61:List (Val (.int .i64))) (v62:Int) (v63:Int) (v64:Int) (k9015:Bool→Option (qa [i4])) (_:Nat):Option (qa [i4]):=bif (decide ((0:Int)≤v54))then (chk (0≤v54∧v54<(v53.length:Int)) (bif (decide ((((v53.getD v54.toNat (qb Y53)).2).1:Int)=(v61.length:Int)))then (bif (ByteArray.toList v60==ByteArray.toList (ByteArray.mk #[]))then (k9015 true)else (chk (qcx v60 (97:Int) (122:Int)) (k9015 ((qW v60 (97:Int) (122:Int)):Bool))))else (k9015 false)))else (k9015 false)
noncomputable def qdB (N:Nat) (v67:Int) (v68:List (Val (.int .i64))) (v69:Int) (v70:Bool) (v71:ByteArray) (v72:ByteArray) (v73:List (Val (.int .i64))) (v74:Int) (v75:Int) (v76:Int) (k9016:Bool→Option (qa [i4])) (_:Nat):Option (qa [i4]):=bif ((inR v67 (2:Int) (6:Int)):Bool)then (k9016 ((inR v74 (0:Int) (3:Int)):Bool))else (k9016 false)
noncomputable def m95 (N:Nat) (v0:List (Val Y53)) (v1:Val qe):Option (qa [i4]):=qiG N v0 (v1.1:Int) (v1.2.1.1:List (Val (.int .i64))) (v1.2.1.2.1:Int) (v1.2.1.2.2:Bool) (v1.2.2.1:ByteArray) (v1.2.2.2.1:ByteArray) (v1.2.2.2.2.1:List (Val (.int .i64))) (v1.2.2.2.2.2.1:Int) (v1.2.2.2.2.2.2.1:Int) (v1.2.2.2.2.2.2.2:Int) (fun (v14:Bool)=>bif v14 then (some (false,()))else (qfT N v0 (v1.1:Int) (v1.2.1.1:List (Val (.int .i64))) (v1.2.1.2.1:Int) (v1.2.1.2.2:Bool) (v1.2.2.1:ByteArray) (v1.2.2.2.1:ByteArray) (v1.2.2.2.2.1:List (Val (.int .i64))) (v1.2.2.2.2.2.1:Int) (v1.2.2.2.2.2.2.1:Int) (v1.2.2.2.2.2.2.2:Int) (fun (v27:Bool)=>bif v27 then (some (false,()))else (bif (decide ((v1.1:Int)=(0:Int)))then (qd3 N (v1.1:Int) (v1.2.1.1:List (Val (.int .i64))) (v1.2.1.2.1:Int) (v1.2.1.2.2:Bool) (v1.2.2.1:ByteArray) (v1.2.2.2.1:ByteArray) (v1.2.2.2.2.1:List (Val (.int .i64))) (v1.2.2.2.2.2.1:Int) (v1.2.2.2.2.2.2.1:Int) (v1.2.2.2.2.2.2.2:Int) (fun (v39:Bool)=>some (v39,())) N)else (bif (decide ((v1.1:Int)=(1:Int)))then (chk (qan v0 (v1.2.2.1:ByteArray)) (qct N v0 ((qA v0 (v1.2.2.1:ByteArray)):Int) (v1.1:Int) (v1.2.1.1:List (Val (.int .i64))) (v1.2.1.2.1:Int) (v1.2.1.2.2:Bool) (v1.2.2.1:ByteArray) (v1.2.2.2.1:ByteArray) (v1.2.2.2.2.1:List (Val (.int .i64))) (v1.2.2.2.2.2.1:Int) (v1.2.2.2.2.2.2.1:Int) (v1.2.2.2.2.2.2.2:Int) (fun (_:Unit)=>qdn N v0 ((qA v0 (v1.2.2.1:ByteArray)):Int) (v1.1:Int) (v1.2.1.1:List (Val (.int .i64))) (v1.2.1.2.1:Int) (v1.2.1.2.2:Bool) (v1.2.2.1:ByteArray) (v1.2.2.2.1:ByteArray) (v1.2.2.2.2.1:List (Val (.int .i64))) (v1.2.2.2.2.2.1:Int) (v1.2.2.2.2.2.2.1:Int) (v1.2.2.2.2.2.2.2:Int) (fun (v66:Bool)=>some (v66,())) N) N (0:Int)))else (qdB N (v1.1:Int) (v1.2.1.1:List (Val (.int .i64))) (v1.2.1.2.1:Int) (v1.2.1.2.2:Bool) (v1.2.2.1:ByteArray) (v1.2.2.2.1:ByteArray) (v1.2.2.2.2.1:List (Val (.int .i64))) (v1.2.2.2.2.2.1:Int) (v1.2.2.2.2.2.2.1:Int) (v1.2.2.2.2.2.2.2:Int) (fun (v78:Bool)=>some (v78,())) N)))) N)) N
def Γ95:Gam:=[(14,g14),(65,g65),(75,g75),(127,qab),(146,qav)]
theorem qaR:Gam.get Γ95 14=some g14:=rfl
theorem qa6:Gam.get Γ95 65=some g65:=rfl
theorem qaY:Gam.get Γ95 75=some g75:=rfl
theorem qbA:Gam.get Γ95 127=some qab:=rfl
theorem qbm:Gam.get Γ95 146=some qav:=rfl
def qlo:Nm:=⟨[true,false,false,true],[],false⟩
theorem qby:qlo.zero=false:=rfl
theorem qa2:qlo.fix=[]:=rfl
theorem qaZ:qlo.keep=[true,false,false,true]:=rfl
def qkA:Nm:=⟨[true,false,false,true],[],false⟩
theorem qbu:qkA.zero=false:=rfl
theorem qbv:qkA.fix=[]:=rfl
theorem qbc:qkA.keep=[true,false,false,true]:=rfl
def qkT:Nm:=⟨[false,false,false,true],[],false⟩
theorem qbG:qkT.zero=false:=rfl
theorem qbb:qkT.fix=[]:=rfl
theorem qaU:qkT.keep=[false,false,false,true]:=rfl
def qgL:Nm:=⟨[true,false,false,true,false,true,true],[],false⟩
theorem qbC:qgL.zero=false:=rfl
theorem qaW:qgL.fix=[]:=rfl
theorem qa4:qgL.keep=[true,false,false,true,false,true,true]:=rfl
def qj8:Nm:=⟨[true,false,false,true,false,true],[],false⟩
theorem qbk:qj8.zero=false:=rfl
theorem qbz:qj8.fix=[]:=rfl
theorem qa3:qj8.keep=[true,false,false,true,false,true]:=rfl
def qkr:Nm:=⟨[false,false,false,true],[],false⟩
theorem qbF:qkr.zero=false:=rfl
theorem qbe:qkr.fix=[]:=rfl
theorem qbJ:qkr.keep=[false,false,false,true]:=rfl
def qmh:Nm:=⟨[true,false,false,true,false,true],[],false⟩
theorem qaV:qmh.zero=false:=rfl
theorem qbd:qmh.fix=[]:=rfl
theorem qbH:qmh.keep=[true,false,false,true,false,true]:=rfl
def qkL:Nm:=⟨[true,false,false,true,false,false,false,false,false,false,false,false,false,false,false,false,false,false,false,false,false,false,false,false,false,false,false,false,false,false,false,false,false,false,false,false,true],[],false⟩
theorem qbi:qkL.zero=false:=rfl
theorem qbg:qkL.fix=[]:=rfl
theorem qbE:qkL.keep=[true,false,false,true,false,false,false,false,false,false,false,false,false,false,false,false,false,false,false,false,false,false,false,false,false,false,false,false,false,false,false,false,false,false,false,false,true]:=rfl
def qlf:Nm:=⟨[true,false,false,true,false,false,false,false,false,false,false,false,false,false,false,false,false,false,false,false,false,false,false,false,false,false,false,false,false,false,false,false,false,false,false,false,false,false,false,false,false,false,false,false,false,false,false,false,false,false,false,false,false,false,false,false,false,false,false,false,false,false,false,false,false,false,false,false,false,false,false,false,false,false,true],[],false⟩
theorem qbB:qlf.zero=false:=rfl
theorem qbK:qlf.fix=[]:=rfl
theorem qbM:qlf.keep=[true,false,false,true,false,false,false,false,false,false,false,false,false,false,false,false,false,false,false,false,false,false,false,false,false,false,false,false,false,false,false,false,false,false,false,false,false,false,false,false,false,false,false,false,false,false,false,false,false,false,false,false,false,false,false,false,false,false,false,false,false,false,false,false,false,false,false,false,false,false,false,false,false,false,true]:=rfl
def qjQ:Nm:=⟨[false,false,false,false,true],[],false⟩
theorem qa8:qjQ.zero=false:=rfl
theorem qbs:qjQ.fix=[]:=rfl
theorem qa0:qjQ.keep=[false,false,false,false,true]:=rfl
def qlq:Nm:=⟨[false,false,false,false,true],[],false⟩
theorem qbr:qlq.zero=false:=rfl
theorem qaT:qlq.fix=[]:=rfl
theorem qa7:qlq.keep=[false,false,false,false,true]:=rfl
def qkl:Nm:=⟨[false,false,false,false,true],[],false⟩
theorem qbh:qkl.zero=false:=rfl
theorem qbq:qkl.fix=[]:=rfl
theorem qbx:qkl.keep=[false,false,false,false,true]:=rfl
def qax:Nat→Tree:=fun i=>if i=15 then .quiet 0 (.quiet 1 (.quiet 2 (.quiet 3 (.quiet 4 (.quiet 5 (.quiet 6 (.quiet 7 (.quiet 8 (.quiet 9 (.quiet 10 (.quiet 11 (.quiet 12 (.quiet 13 (.quiet 14 (.quiet 15 (.quiet 16 (.quiet 17 (.quiet 18 (.quiet 19 (.alt 20 (.quiet 21 (.quiet 22 (.quiet 23 .done))) .stop))))))))))))))))))))else .done
def qaI:Nat→Nm:=fun i=>if i=11 then qgL else ⟨[],[],false⟩
def qat:Nat→Option Jn:=fun i=>if i=1 then some (.nm qlo)else if i=3 then some (.nm qkA)else if i=7 then some (.nm qkT)else if i=15 then some (.nm qj8)else if i=16 then some (.nm qkr)else none
def qaA:Nat→Option Nm:=fun i=>if i=1 then some qmh else none
def qaB:Nat→Option Nm:=fun i=>if i=1 then some qkL else if i=3 then some qlf else if i=7 then some qjQ else if i=15 then some qlq else if i=16 then some qkl else none
theorem p95:qm qax (Try.f95.body.getD .skip)=true:=by kernel_rfl
def T95 (N:Nat):Tab:={tr:=qax,lp:=qaI,ex:=qaA,rg:=qaB,jn:=qat,fuel:=N}
theorem qbf (N:Nat):(T95 N).pins=false:=rfl
theorem qFP (N:Nat):qp Try.prog (T95 N):=fun id j t h ht=>by
 have h:qat id=_:=h
 unfold qat at h
 repeat' split at h
 all_goals first | (simp at h;done) | (simp only [Option.some.injEq]at h;subst h;simp [Jn.tb]at ht;done) | (simp only [Option.some.injEq]at h;subst h;simp only [Jn.tb,Option.some.injEq]at ht;subst ht;exact hTH)
theorem qbI (N:Nat) (i:Nat):(T95 N).tr i=qax i:=rfl
theorem qbL (N:Nat) (i:Nat):(T95 N).lp i=qaI i:=rfl
theorem qbn (N:Nat) (i:Nat):(T95 N).ex i=qaA i:=rfl
theorem qbo (N:Nat) (i:Nat):(T95 N).rg i=qaB i:=rfl
theorem qbO (N:Nat) (i:Nat):(T95 N).jn i=qat i:=rfl
theorem qbj (N:Nat):(T95 N).fuel=N:=rfl
noncomputable def qzW:Code:=cut [true,false,false] (Try.f95.body.getD .skip)
theorem qGA {N:Nat} {Q:X→St→Option (qa [i4])} {e:List LV} {h:List Blk}:qJ tt Γ95 (T95 N) qzW Q ⟨e,h⟩=qJ tt Γ95 (T95 N) (cut [true,false,false] (Try.f95.body.getD .skip)) Q ⟨e,h⟩:=rfl
theorem qG1 (N:Nat) (v2:List (Val Y53)) (v3:Int) (v4:List (Val (.int .i64))) (v5:Int) (v6:Bool) (v7:ByteArray) (v8:ByteArray) (v9:List (Val (.int .i64))) (v10:Int) (v11:Int) (v12:Int) {k9001:Bool→Option (qa [i4])} {Q:X→St→Option (qa [i4])} {c:Code} (hc:c=qzW) (h9001: ∀(v13:Bool),Q .normal ⟨[.one (.sl 53 Y53 v2 1),u,u,.one (.ptr 0 0 0),u,u,u,u,u,u,u,u,u,u,u,u,u,u,u,u,u,u,u,u,u,u,u,u,u,u,u,u,u,u,u,u,.one (.bool v13),u,u,u,u,u,u,u,u,u,u,u,u,u,u,u,u,u,u,u,u,u,u,u,u,u,u,u,u,u,u,u,u,u,u,u,u,u,u,u,u,u,u,u,u,u,u,u,u,u,u,u,u,u,u,u,u,u,u,u,u,u,u,u,u,u,u,u,u,u,u,u,u,u,u,u,u,u,u,u,u,u,u,u,u,u,u,u,u,u,u,u,u,u,u,u,u,u,u,u,u,u,u,u],[.box [.int .i64 v3,.sl 3 (.int .i64) v4 1,.int .i64 v5,.bool v6,.str v7,.str v8,.sl 3 (.int .i64) v9 1,.int .i64 v10,.int .i64 v11,.int .i64 v12]]⟩=k9001 v13):qJ tt Γ95 (T95 N) c Q ⟨[.one (.sl 53 Y53 v2 1),u,u,.one (.ptr 0 0 0),u,u,u,u,u,u,u,u,u,u,u,u,u,u,u,u,u,u,u,u,u,u,u,u,u,u,u,u,u,u,u,u,u,u,u,u,u,u,u,u,u,u,u,u,u,u,u,u,u,u,u,u,u,u,u,u,u,u,u,u,u,u,u,u,u,u,u,u,u,u,u,u,u,u,u,u,u,u,u,u,u,u,u,u,u,u,u,u,u,u,u,u,u,u,u,u,u,u,u,u,u,u,u,u,u,u,u,u,u,u,u,u,u,u,u,u,u,u,u,u,u,u,u,u,u,u,u,u,u,u,u,u,u,u,u,u],[.box [.int .i64 v3,.sl 3 (.int .i64) v4 1,.int .i64 v5,.bool v6,.str v7,.str v8,.sl 3 (.int .i64) v9 1,.int .i64 v10,.int .i64 v11,.int .i64 v12]]⟩=qiG N v2 v3 v4 v5 v6 v7 v8 v9 v10 v11 v12 k9001 N:=by
 subst hc;rw [qGA,qiG];unfold Try.f95
 simp (maxSteps:=10000000) -implicitDefEqProofs [qif (id:=1),qgH (id:=1),qbI,qax,qbL,qaI,qbn,qaA,qbo,qaB,qbO,qat,qbj,qbf,qa2,qaZ,qby,qbv,qbc,qbu,qbb,qaU,qbG,qaW,qa4,qbC,qbz,qa3,qbk,qbe,qbJ,qbF,qbd,qbH,qaV,qbg,qbE,qbi,qbK,qbM,qbB,qbs,qa0,qa8,qaT,qa7,qbr,qbq,qbx,qbh,qaR,qa6,qaY,qbA,qbm,g14,g65,g75,qab,qav,h9001]
noncomputable def qzV:Code:=cut [true,true,false,false] (Try.f95.body.getD .skip)
theorem qGT {N:Nat} {Q:X→St→Option (qa [i4])} {e:List LV} {h:List Blk}:qJ tt Γ95 (T95 N) qzV Q ⟨e,h⟩=qJ tt Γ95 (T95 N) (cut [true,true,false,false] (Try.f95.body.getD .skip)) Q ⟨e,h⟩:=rfl
theorem qFk (N:Nat) (v15:List (Val Y53)) (v16:Int) (v17:List (Val (.int .i64))) (v18:Int) (v19:Bool) (v20:ByteArray) (v21:ByteArray) (v22:List (Val (.int .i64))) (v23:Int) (v24:Int) (v25:Int) {k9003:Bool→Option (qa [i4])} {Q:X→St→Option (qa [i4])} {c:Code} (hc:c=qzV) (h9003: ∀(v26:Bool),Q .normal ⟨[.one (.sl 53 Y53 v15 1),u,u,.one (.ptr 0 0 0),u,u,u,u,u,u,u,u,u,u,u,u,u,u,u,u,u,u,u,u,u,u,u,u,u,u,u,u,u,u,u,u,u,u,u,u,u,u,u,u,u,u,u,u,u,u,u,u,u,u,u,u,u,u,u,u,u,u,u,u,u,u,u,u,u,u,u,u,u,u,.one (.bool v26),u,u,u,u,u,u,u,u,u,u,u,u,u,u,u,u,u,u,u,u,u,u,u,u,u,u,u,u,u,u,u,u,u,u,u,u,u,u,u,u,u,u,u,u,u,u,u,u,u,u,u,u,u,u,u,u,u,u,u,u,u,u,u,u,u],[.box [.int .i64 v16,.sl 3 (.int .i64) v17 1,.int .i64 v18,.bool v19,.str v20,.str v21,.sl 3 (.int .i64) v22 1,.int .i64 v23,.int .i64 v24,.int .i64 v25]]⟩=k9003 v26):qJ tt Γ95 (T95 N) c Q ⟨[.one (.sl 53 Y53 v15 1),u,u,.one (.ptr 0 0 0),u,u,u,u,u,u,u,u,u,u,u,u,u,u,u,u,u,u,u,u,u,u,u,u,u,u,u,u,u,u,u,u,u,u,u,u,u,u,u,u,u,u,u,u,u,u,u,u,u,u,u,u,u,u,u,u,u,u,u,u,u,u,u,u,u,u,u,u,u,u,u,u,u,u,u,u,u,u,u,u,u,u,u,u,u,u,u,u,u,u,u,u,u,u,u,u,u,u,u,u,u,u,u,u,u,u,u,u,u,u,u,u,u,u,u,u,u,u,u,u,u,u,u,u,u,u,u,u,u,u,u,u,u,u,u,u],[.box [.int .i64 v16,.sl 3 (.int .i64) v17 1,.int .i64 v18,.bool v19,.str v20,.str v21,.sl 3 (.int .i64) v22 1,.int .i64 v23,.int .i64 v24,.int .i64 v25]]⟩=qfT N v15 v16 v17 v18 v19 v20 v21 v22 v23 v24 v25 k9003 N:=by
 subst hc;rw [qGT,qfT];unfold Try.f95
 simp (maxSteps:=10000000) -implicitDefEqProofs [qif (id:=3),qgH (id:=3),qbI,qax,qbL,qaI,qbn,qaA,qbo,qaB,qbO,qat,qbj,qbf,qa2,qaZ,qby,qbv,qbc,qbu,qbb,qaU,qbG,qaW,qa4,qbC,qbz,qa3,qbk,qbe,qbJ,qbF,qbd,qbH,qaV,qbg,qbE,qbi,qbK,qbM,qbB,qbs,qa0,qa8,qaT,qa7,qbr,qbq,qbx,qbh,qaR,qa6,qaY,qbA,qbm,g14,g65,g75,qab,qav,h9003]
noncomputable def qz1:Code:=cut [true,true,true,false,true,true,true,false,false] (Try.f95.body.getD .skip)
theorem qCL {N:Nat} {Q:X→St→Option (qa [i4])} {e:List LV} {h:List Blk}:qJ tt Γ95 (T95 N) qz1 Q ⟨e,h⟩=qJ tt Γ95 (T95 N) (cut [true,true,true,false,true,true,true,false,false] (Try.f95.body.getD .skip)) Q ⟨e,h⟩:=rfl
theorem qEZ (N:Nat) (v28:Int) (v29:List (Val (.int .i64))) (v30:Int) (v31:Bool) (v32:ByteArray) (v33:ByteArray) (v34:List (Val (.int .i64))) (v35:Int) (v36:Int) (v37:Int) {k9007:Bool→Option (qa [i4])} {Q:X→St→Option (qa [i4])} {c:Code} (hc:c=qz1) (h9007: ∀(v38:Bool),Q .normal ⟨[u,u,u,u,.one (.bool v38),u,u,u,u,u,u,u,u,u,u,u,u,u,u,u,u,u,u,u,u,u,u,u,u,u,u,u,u,u,u,u,u,u,u,u,u,u,u,u,u,u,u,u,u,u,u,u,u,u,u,u,u,u,u,u,u,u,u,u,u,u,u,u,u,u,u,u,u,u,u,u,u,u,u,u,u,u,u,u,u,u,u,u,u,u,u,u,u,u,u,u,u,u,u,u,u,u,u,u,u,u,u,u,u,u,u,u,u,u,u,u,u,u,u,u,u,u,u,u,u,u,u,u,u,u,u,u,u,u,u,u,u,u,u,u],[]⟩=k9007 v38):qJ tt Γ95 (T95 N) c Q ⟨[u,u,u,.one (.ptr 0 0 0),u,u,u,u,u,u,u,u,u,u,u,u,u,u,u,u,u,u,u,u,u,u,u,u,u,u,u,u,u,u,u,u,u,u,u,u,u,u,u,u,u,u,u,u,u,u,u,u,u,u,u,u,u,u,u,u,u,u,u,u,u,u,u,u,u,u,u,u,u,u,u,u,u,u,u,u,u,u,u,u,u,u,u,u,u,u,u,u,u,u,u,u,u,u,u,u,u,u,u,u,u,u,u,u,u,u,u,u,u,u,u,u,u,u,u,u,u,u,u,u,u,u,u,u,u,u,u,u,u,u,u,u,u,u,u,u],[.box [.int .i64 v28,.sl 3 (.int .i64) v29 1,.int .i64 v30,.bool v31,.str v32,.str v33,.sl 3 (.int .i64) v34 1,.int .i64 v35,.int .i64 v36,.int .i64 v37]]⟩=qd3 N v28 v29 v30 v31 v32 v33 v34 v35 v36 v37 k9007 N:=by
 subst hc;rw [qCL,qd3];unfold Try.f95
 simp (maxSteps:=10000000) -implicitDefEqProofs [qif (id:=7),qgH (id:=7),qbI,qax,qbL,qaI,qbn,qaA,qbo,qaB,qbO,qat,qbj,qbf,qa2,qaZ,qby,qbv,qbc,qbu,qbb,qaU,qbG,qaW,qa4,qbC,qbz,qa3,qbk,qbe,qbJ,qbF,qbd,qbH,qaV,qbg,qbE,qbi,qbK,qbM,qbB,qbs,qa0,qa8,qaT,qa7,qbr,qbq,qbx,qbh,qaR,qa6,qaY,qbA,qbm,g14,g65,g75,qab,qav,h9007]
noncomputable def qxN:Code:=cut [true,true,true,false,true,true,true,true,true,false,true,false,true,true,true] (Try.f95.body.getD .skip)
theorem qEN {N:Nat} {Q:X→St→Option (qa [i4])} {e:List LV} {h:List Blk}:qc tt Γ95 (T95 N) qxN Q ⟨e,h⟩=qc tt Γ95 (T95 N) (cut [true,true,true,false,true,true,true,true,true,false,true,false,true,true,true] (Try.f95.body.getD .skip)) Q ⟨e,h⟩:=rfl
theorem qEl (N:Nat) (v40:List (Val Y53)) (v41:Int) (v43:Int) (v44:List (Val (.int .i64))) (v45:Int) (v46:Bool) (v47:ByteArray) (v48:ByteArray) (v49:List (Val (.int .i64))) (v50:Int) (v51:Int) (v52:Int) {k1:Unit→Option (qa [i4])} {Q:X→St→Option (qa [i4])} {c:Code} (hc:c=qxN) (hret: ∀st,Q .ret st=qG tt true [i4] [.tmp 4] st) (h1:Q (.exit 1) ⟨[.one (.sl 53 Y53 v40 1),u,u,.one (.ptr 0 0 0),u,.one (.int .i64 v41),u,u,u,u,u,u,u,u,u,u,u,u,u,u,u,u,u,u,u,u,u,u,u,u,u,u,u,u,u,u,u,u,u,u,u,u,u,u,u,u,u,u,u,u,u,u,u,u,u,u,u,u,u,u,u,u,u,u,u,u,u,u,u,u,u,u,u,u,u,u,u,u,u,u,u,u,u,u,u,u,u,u,u,u,u,u,u,u,u,u,u,u,u,u,u,u,u,u,u,u,u,u,u,u,u,u,u,u,u,u,u,u,u,u,u,u,u,u,u,u,u,u,u,u,u,u,u,u,u,u,u,u,u,u],[.box [.int .i64 v43,.sl 3 (.int .i64) v44 1,.int .i64 v45,.bool v46,.str v47,.str v48,.sl 3 (.int .i64) v49 1,.int .i64 v50,.int .i64 v51,.int .i64 v52]]⟩=k1 ()): ∀(n:Nat) (v42:Int),qE (qc tt Γ95 (T95 N) c) false qgL Q n ⟨[.one (.sl 53 Y53 v40 1),u,u,.one (.ptr 0 0 0),u,.one (.int .i64 v41),.one (.int .i64 v42),u,u,u,u,u,u,u,u,u,u,u,u,u,u,u,u,u,u,u,u,u,u,u,u,u,u,u,u,u,u,u,u,u,u,u,u,u,u,u,u,u,u,u,u,u,u,u,u,u,u,u,u,u,u,u,u,u,u,u,u,u,u,u,u,u,u,u,u,u,u,u,u,u,u,u,u,u,u,u,u,u,u,u,u,u,u,u,u,u,u,u,u,u,u,u,u,u,u,u,u,u,u,u,u,u,u,u,u,u,u,u,u,u,u,u,u,u,u,u,u,u,u,u,u,u,u,u,u,u,u,u,u,u],[.box [.int .i64 v43,.sl 3 (.int .i64) v44 1,.int .i64 v45,.bool v46,.str v47,.str v48,.sl 3 (.int .i64) v49 1,.int .i64 v50,.int .i64 v51,.int .i64 v52]]⟩=qct N v40 v41 v43 v44 v45 v46 v47 v48 v49 v50 v51 v52 k1 n v42:=by
 subst hc;intro n;induction n with
 | zero=>intros;rfl
 | succ n ih=>
   intro v42
   rw [qP,qEN,qct];unfold Try.f95
   simp (maxSteps:=10000000) -implicitDefEqProofs [qbI,qax,qbL,qaI,qbn,qaA,qbo,qaB,qbO,qat,qbj,qbf,qa2,qaZ,qby,qbv,qbc,qbu,qbb,qaU,qbG,qaW,qa4,qbC,qbz,qa3,qbk,qbe,qbJ,qbF,qbd,qbH,qaV,qbg,qbE,qbi,qbK,qbM,qbB,qbs,qa0,qa8,qaT,qa7,qbr,qbq,qbx,qbh,qaR,qa6,qaY,qbA,qbm,g14,g65,g75,qab,qav,hret,h1,ih]
noncomputable def qxj:Code:=cut [true,true,true,false,true,true,true,true,true,false,true,true,false] (Try.f95.body.getD .skip)
theorem qBL {N:Nat} {Q:X→St→Option (qa [i4])} {e:List LV} {h:List Blk}:qJ tt Γ95 (T95 N) qxj Q ⟨e,h⟩=qJ tt Γ95 (T95 N) (cut [true,true,true,false,true,true,true,true,true,false,true,true,false] (Try.f95.body.getD .skip)) Q ⟨e,h⟩:=rfl
theorem qB2 (N:Nat) (v53:List (Val Y53)) (v54:Int) (v55:Int) (v56:List (Val (.int .i64))) (v57:Int) (v58:Bool) (v59:ByteArray) (v60:ByteArray) (v61:List (Val (.int .i64))) (v62:Int) (v63:Int) (v64:Int) {k9015:Bool→Option (qa [i4])} {Q:X→St→Option (qa [i4])} {c:Code} (hc:c=qxj) (h9015: ∀(v65:Bool),Q .normal ⟨[u,u,u,u,.one (.bool v65),u,u,u,u,u,u,u,u,u,u,u,u,u,u,u,u,u,u,u,u,u,u,u,u,u,u,u,u,u,u,u,u,u,u,u,u,u,u,u,u,u,u,u,u,u,u,u,u,u,u,u,u,u,u,u,u,u,u,u,u,u,u,u,u,u,u,u,u,u,u,u,u,u,u,u,u,u,u,u,u,u,u,u,u,u,u,u,u,u,u,u,u,u,u,u,u,u,u,u,u,u,u,u,u,u,u,u,u,u,u,u,u,u,u,u,u,u,u,u,u,u,u,u,u,u,u,u,u,u,u,u,u,u,u,u],[]⟩=k9015 v65):qJ tt Γ95 (T95 N) c Q ⟨[.one (.sl 53 Y53 v53 1),u,u,.one (.ptr 0 0 0),u,.one (.int .i64 v54),u,u,u,u,u,u,u,u,u,u,u,u,u,u,u,u,u,u,u,u,u,u,u,u,u,u,u,u,u,u,u,u,u,u,u,u,u,u,u,u,u,u,u,u,u,u,u,u,u,u,u,u,u,u,u,u,u,u,u,u,u,u,u,u,u,u,u,u,u,u,u,u,u,u,u,u,u,u,u,u,u,u,u,u,u,u,u,u,u,u,u,u,u,u,u,u,u,u,u,u,u,u,u,u,u,u,u,u,u,u,u,u,u,u,u,u,u,u,u,u,u,u,u,u,u,u,u,u,u,u,u,u,u,u],[.box [.int .i64 v55,.sl 3 (.int .i64) v56 1,.int .i64 v57,.bool v58,.str v59,.str v60,.sl 3 (.int .i64) v61 1,.int .i64 v62,.int .i64 v63,.int .i64 v64]]⟩=qdn N v53 v54 v55 v56 v57 v58 v59 v60 v61 v62 v63 v64 k9015 N:=by
 subst hc;rw [qBL,qdn];unfold Try.f95
 simp (maxSteps:=10000000) -implicitDefEqProofs [qif (id:=15),qgH (id:=15),qbI,qax,qbL,qaI,qbn,qaA,qbo,qaB,qbO,qat,qbj,qbf,qa2,qaZ,qby,qbv,qbc,qbu,qbb,qaU,qbG,qaW,qa4,qbC,qbz,qa3,qbk,qbe,qbJ,qbF,qbd,qbH,qaV,qbg,qbE,qbi,qbK,qbM,qbB,qbs,qa0,qa8,qaT,qa7,qbr,qbq,qbx,qbh,qaR,qa6,qaY,qbA,qbm,g14,g65,g75,qab,qav,h9015]
noncomputable def qze:Code:=cut [true,true,true,true,false] (Try.f95.body.getD .skip)
theorem qGZ {N:Nat} {Q:X→St→Option (qa [i4])} {e:List LV} {h:List Blk}:qJ tt Γ95 (T95 N) qze Q ⟨e,h⟩=qJ tt Γ95 (T95 N) (cut [true,true,true,true,false] (Try.f95.body.getD .skip)) Q ⟨e,h⟩:=rfl
theorem qFv (N:Nat) (v67:Int) (v68:List (Val (.int .i64))) (v69:Int) (v70:Bool) (v71:ByteArray) (v72:ByteArray) (v73:List (Val (.int .i64))) (v74:Int) (v75:Int) (v76:Int) {k9016:Bool→Option (qa [i4])} {Q:X→St→Option (qa [i4])} {c:Code} (hc:c=qze) (h9016: ∀(v77:Bool),Q .normal ⟨[u,u,u,u,.one (.bool v77),u,u,u,u,u,u,u,u,u,u,u,u,u,u,u,u,u,u,u,u,u,u,u,u,u,u,u,u,u,u,u,u,u,u,u,u,u,u,u,u,u,u,u,u,u,u,u,u,u,u,u,u,u,u,u,u,u,u,u,u,u,u,u,u,u,u,u,u,u,u,u,u,u,u,u,u,u,u,u,u,u,u,u,u,u,u,u,u,u,u,u,u,u,u,u,u,u,u,u,u,u,u,u,u,u,u,u,u,u,u,u,u,u,u,u,u,u,u,u,u,u,u,u,u,u,u,u,u,u,u,u,u,u,u,u],[]⟩=k9016 v77):qJ tt Γ95 (T95 N) c Q ⟨[u,u,u,.one (.ptr 0 0 0),u,u,u,u,u,u,u,u,u,u,u,u,u,u,u,u,u,u,u,u,u,u,u,u,u,u,u,u,u,u,u,u,u,u,u,u,u,u,u,u,u,u,u,u,u,u,u,u,u,u,u,u,u,u,u,u,u,u,u,u,u,u,u,u,u,u,u,u,u,u,u,u,u,u,u,u,u,u,u,u,u,u,u,u,u,u,u,u,u,u,u,u,u,u,u,u,u,u,u,u,u,u,u,u,u,u,u,u,u,u,u,u,u,u,u,u,u,u,u,u,u,u,u,u,u,u,u,u,u,u,u,u,u,u,u,u],[.box [.int .i64 v67,.sl 3 (.int .i64) v68 1,.int .i64 v69,.bool v70,.str v71,.str v72,.sl 3 (.int .i64) v73 1,.int .i64 v74,.int .i64 v75,.int .i64 v76]]⟩=qdB N v67 v68 v69 v70 v71 v72 v73 v74 v75 v76 k9016 N:=by
 subst hc;rw [qGZ,qdB];unfold Try.f95
 simp (maxSteps:=10000000) -implicitDefEqProofs [qif (id:=16),qgH (id:=16),qbI,qax,qbL,qaI,qbn,qaA,qbo,qaB,qbO,qat,qbj,qbf,qa2,qaZ,qby,qbv,qbc,qbu,qbb,qaU,qbG,qaW,qa4,qbC,qbz,qa3,qbk,qbe,qbJ,qbF,qbd,qbH,qaV,qbg,qbE,qbi,qbK,qbM,qbB,qbs,qa0,qa8,qaT,qa7,qbr,qbq,qbx,qbh,qaR,qa6,qaY,qbA,qbm,g14,g65,g75,qab,qav,h9016]
theorem qGf (N:Nat) (v0:List (Val Y53)) (v1:Val qe):qc tt Γ95 (T95 N) (Try.f95.body.getD .skip) (qn tt true [i4] [.tmp 4]) (qq [i25,qaJ] 140 (v0,v1,()))=m95 N v0 v1:=by
 unfold Try.f95
 simp (maxSteps:=10000000) -implicitDefEqProofs [qbI,qax,qbL,qaI,qbn,qaA,qbo,qaB,qbO,qat,qbj,qbf,qa2,qaZ,qby,qbv,qbc,qbu,qbb,qaU,qbG,qaW,qa4,qbC,qbz,qa3,qbk,qbe,qbJ,qbF,qbd,qbH,qaV,qbg,qbE,qbi,qbK,qbM,qbB,qbs,qa0,qa8,qaT,qa7,qbr,qbq,qbx,qbh,qaR,qa6,qaY,qbA,qbm,g14,g65,g75,qab,qav]
 rewrite [qG1 (k9001:=(fun (v14:Bool)=>bif v14 then (some (false,()))else (qfT N v0 (v1.1:Int) (v1.2.1.1:List (Val (.int .i64))) (v1.2.1.2.1:Int) (v1.2.1.2.2:Bool) (v1.2.2.1:ByteArray) (v1.2.2.2.1:ByteArray) (v1.2.2.2.2.1:List (Val (.int .i64))) (v1.2.2.2.2.2.1:Int) (v1.2.2.2.2.2.2.1:Int) (v1.2.2.2.2.2.2.2:Int) (fun (v27:Bool)=>bif v27 then (some (false,()))else (bif (decide ((v1.1:Int)=(0:Int)))then (qd3 N (v1.1:Int) (v1.2.1.1:List (Val (.int .i64))) (v1.2.1.2.1:Int) (v1.2.1.2.2:Bool) (v1.2.2.1:ByteArray) (v1.2.2.2.1:ByteArray) (v1.2.2.2.2.1:List (Val (.int .i64))) (v1.2.2.2.2.2.1:Int) (v1.2.2.2.2.2.2.1:Int) (v1.2.2.2.2.2.2.2:Int) (fun (v39:Bool)=>some (v39,())) N)else (bif (decide ((v1.1:Int)=(1:Int)))then (chk (qan v0 (v1.2.2.1:ByteArray)) (qct N v0 ((qA v0 (v1.2.2.1:ByteArray)):Int) (v1.1:Int) (v1.2.1.1:List (Val (.int .i64))) (v1.2.1.2.1:Int) (v1.2.1.2.2:Bool) (v1.2.2.1:ByteArray) (v1.2.2.2.1:ByteArray) (v1.2.2.2.2.1:List (Val (.int .i64))) (v1.2.2.2.2.2.1:Int) (v1.2.2.2.2.2.2.1:Int) (v1.2.2.2.2.2.2.2:Int) (fun (_:Unit)=>qdn N v0 ((qA v0 (v1.2.2.1:ByteArray)):Int) (v1.1:Int) (v1.2.1.1:List (Val (.int .i64))) (v1.2.1.2.1:Int) (v1.2.1.2.2:Bool) (v1.2.2.1:ByteArray) (v1.2.2.2.1:ByteArray) (v1.2.2.2.2.1:List (Val (.int .i64))) (v1.2.2.2.2.2.1:Int) (v1.2.2.2.2.2.2.1:Int) (v1.2.2.2.2.2.2.2:Int) (fun (v66:Bool)=>some (v66,())) N) N (0:Int)))else (qdB N (v1.1:Int) (v1.2.1.1:List (Val (.int .i64))) (v1.2.1.2.1:Int) (v1.2.1.2.2:Bool) (v1.2.2.1:ByteArray) (v1.2.2.2.1:ByteArray) (v1.2.2.2.2.1:List (Val (.int .i64))) (v1.2.2.2.2.2.1:Int) (v1.2.2.2.2.2.2.1:Int) (v1.2.2.2.2.2.2.2:Int) (fun (v78:Bool)=>some (v78,())) N)))) N))) N _ _ _ _ _ _ _ _ _ _ _ ?_ ?_]
 ·rewrite [m95];first | rfl | simp (maxSteps:=10000000) -implicitDefEqProofs []
 ·rfl
 ·intro v14;simp (maxSteps:=10000000) -implicitDefEqProofs [qbI,qax,qbL,qaI,qbn,qaA,qbo,qaB,qbO,qat,qbj,qbf,qa2,qaZ,qby,qbv,qbc,qbu,qbb,qaU,qbG,qaW,qa4,qbC,qbz,qa3,qbk,qbe,qbJ,qbF,qbd,qbH,qaV,qbg,qbE,qbi,qbK,qbM,qbB,qbs,qa0,qa8,qaT,qa7,qbr,qbq,qbx,qbh,qaR,qa6,qaY,qbA,qbm,g14,g65,g75,qab,qav]
  rewrite [qFk (k9003:=(fun (v27:Bool)=>bif v27 then (some (false,()))else (bif (decide ((v1.1:Int)=(0:Int)))then (qd3 N (v1.1:Int) (v1.2.1.1:List (Val (.int .i64))) (v1.2.1.2.1:Int) (v1.2.1.2.2:Bool) (v1.2.2.1:ByteArray) (v1.2.2.2.1:ByteArray) (v1.2.2.2.2.1:List (Val (.int .i64))) (v1.2.2.2.2.2.1:Int) (v1.2.2.2.2.2.2.1:Int) (v1.2.2.2.2.2.2.2:Int) (fun (v39:Bool)=>some (v39,())) N)else (bif (decide ((v1.1:Int)=(1:Int)))then (chk (qan v0 (v1.2.2.1:ByteArray)) (qct N v0 ((qA v0 (v1.2.2.1:ByteArray)):Int) (v1.1:Int) (v1.2.1.1:List (Val (.int .i64))) (v1.2.1.2.1:Int) (v1.2.1.2.2:Bool) (v1.2.2.1:ByteArray) (v1.2.2.2.1:ByteArray) (v1.2.2.2.2.1:List (Val (.int .i64))) (v1.2.2.2.2.2.1:Int) (v1.2.2.2.2.2.2.1:Int) (v1.2.2.2.2.2.2.2:Int) (fun (_:Unit)=>qdn N v0 ((qA v0 (v1.2.2.1:ByteArray)):Int) (v1.1:Int) (v1.2.1.1:List (Val (.int .i64))) (v1.2.1.2.1:Int) (v1.2.1.2.2:Bool) (v1.2.2.1:ByteArray) (v1.2.2.2.1:ByteArray) (v1.2.2.2.2.1:List (Val (.int .i64))) (v1.2.2.2.2.2.1:Int) (v1.2.2.2.2.2.2.1:Int) (v1.2.2.2.2.2.2.2:Int) (fun (v66:Bool)=>some (v66,())) N) N (0:Int)))else (qdB N (v1.1:Int) (v1.2.1.1:List (Val (.int .i64))) (v1.2.1.2.1:Int) (v1.2.1.2.2:Bool) (v1.2.2.1:ByteArray) (v1.2.2.2.1:ByteArray) (v1.2.2.2.2.1:List (Val (.int .i64))) (v1.2.2.2.2.2.1:Int) (v1.2.2.2.2.2.2.1:Int) (v1.2.2.2.2.2.2.2:Int) (fun (v78:Bool)=>some (v78,())) N))))) N _ _ _ _ _ _ _ _ _ _ _ ?_ ?_]
  ·first | rfl | simp (maxSteps:=10000000) -implicitDefEqProofs []
  ·rfl
  ·intro v27;simp (maxSteps:=10000000) -implicitDefEqProofs [qbI,qax,qbL,qaI,qbn,qaA,qbo,qaB,qbO,qat,qbj,qbf,qa2,qaZ,qby,qbv,qbc,qbu,qbb,qaU,qbG,qaW,qa4,qbC,qbz,qa3,qbk,qbe,qbJ,qbF,qbd,qbH,qaV,qbg,qbE,qbi,qbK,qbM,qbB,qbs,qa0,qa8,qaT,qa7,qbr,qbq,qbx,qbh,qaR,qa6,qaY,qbA,qbm,g14,g65,g75,qab,qav]
   rewrite [qEZ (k9007:=(fun (v39:Bool)=>some (v39,()))) N _ _ _ _ _ _ _ _ _ _ ?_ ?_]
   rewrite [qEl (k1:=(fun (_:Unit)=>qdn N v0 ((qA v0 (v1.2.2.1:ByteArray)):Int) (v1.1:Int) (v1.2.1.1:List (Val (.int .i64))) (v1.2.1.2.1:Int) (v1.2.1.2.2:Bool) (v1.2.2.1:ByteArray) (v1.2.2.2.1:ByteArray) (v1.2.2.2.2.1:List (Val (.int .i64))) (v1.2.2.2.2.2.1:Int) (v1.2.2.2.2.2.2.1:Int) (v1.2.2.2.2.2.2.2:Int) (fun (v66:Bool)=>some (v66,())) N)) N _ _ _ _ _ _ _ _ _ _ _ _ ?_ ?_ ?_]
   rewrite [qFv (k9016:=(fun (v78:Bool)=>some (v78,()))) N _ _ _ _ _ _ _ _ _ _ ?_ ?_]
   ·first | rfl | simp (maxSteps:=10000000) -implicitDefEqProofs []
   ·rfl
   ·intro v78;simp (maxSteps:=10000000) -implicitDefEqProofs [qbI,qax,qbL,qaI,qbn,qaA,qbo,qaB,qbO,qat,qbj,qbf,qa2,qaZ,qby,qbv,qbc,qbu,qbb,qaU,qbG,qaW,qa4,qbC,qbz,qa3,qbk,qbe,qbJ,qbF,qbd,qbH,qaV,qbg,qbE,qbi,qbK,qbM,qbB,qbs,qa0,qa8,qaT,qa7,qbr,qbq,qbx,qbh,qaR,qa6,qaY,qbA,qbm,g14,g65,g75,qab,qav]
   ·rfl
   ·intro;simp only [qN,qO,qQ,qM]
   ·simp (maxSteps:=10000000) -implicitDefEqProofs [qbI,qax,qbL,qaI,qbn,qaA,qbo,qaB,qbO,qat,qbj,qbf,qa2,qaZ,qby,qbv,qbc,qbu,qbb,qaU,qbG,qaW,qa4,qbC,qbz,qa3,qbk,qbe,qbJ,qbF,qbd,qbH,qaV,qbg,qbE,qbi,qbK,qbM,qbB,qbs,qa0,qa8,qaT,qa7,qbr,qbq,qbx,qbh,qaR,qa6,qaY,qbA,qbm,g14,g65,g75,qab,qav]
    rewrite [qB2 (k9015:=(fun (v66:Bool)=>some (v66,()))) N _ _ _ _ _ _ _ _ _ _ _ _ ?_ ?_]
    ·first | rfl | simp (maxSteps:=10000000) -implicitDefEqProofs []
    ·rfl
    ·intro v66;simp (maxSteps:=10000000) -implicitDefEqProofs [qbI,qax,qbL,qaI,qbn,qaA,qbo,qaB,qbO,qat,qbj,qbf,qa2,qaZ,qby,qbv,qbc,qbu,qbb,qaU,qbG,qaW,qa4,qbC,qbz,qa3,qbk,qbe,qbJ,qbF,qbd,qbH,qaV,qbg,qbE,qbi,qbK,qbM,qbB,qbs,qa0,qa8,qaT,qa7,qbr,qbq,qbx,qbh,qaR,qa6,qaY,qbA,qbm,g14,g65,g75,qab,qav]
   ·rfl
   ·intro v39;simp (maxSteps:=10000000) -implicitDefEqProofs [qbI,qax,qbL,qaI,qbn,qaA,qbo,qaB,qbO,qat,qbj,qbf,qa2,qaZ,qby,qbv,qbc,qbu,qbb,qaU,qbG,qaW,qa4,qbC,qbz,qa3,qbk,qbe,qbJ,qbF,qbd,qbH,qaV,qbg,qbE,qbi,qbK,qbM,qbB,qbs,qa0,qa8,qaT,qa7,qbr,qbq,qbx,qbh,qaR,qa6,qaY,qbA,qbm,g14,g65,g75,qab,qav]
end Go.T
