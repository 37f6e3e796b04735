/- Normal cells. -/
import Derived.Test.YthefcjjgchekiaaB2
set_option linter.unusedSimpArgs false
set_option linter.unusedVariables false
namespace Go.T
open Go Go.Proofs
set_option maxHeartbeats 4000000
set_option maxRecDepth 100000
noncomputable def qdd (N:Nat) (v2:Int) (v3:List (Val Y36)) (v4:Int) (v6:Int) (k0:(List (Val Y36))→Option (qb [i32])):Nat→Int→(List (Val Y36))→Option (qb [i32])
 | 0,_,_=>none
 | n+1,v5,v7=>bif (decide (v5<v4))then (chk (0≤v5∧v5<(v3.length:Int)) (chk (qg7 (v3.getD v5.toNat (qa Y36))) (bif (!((qZ (v3.getD v5.toNat (qa Y36))):Bool))then (bif (decide ((0:Int)<(((v3.getD v5.toNat (qa Y36)).2).1:Int)))then (chk (qdP v2) (some ((((qce v2).1:Int),((qce v2).2:List (Val Y36))),())))else (bif (decide ((((v3.getD v5.toNat (qa Y36)).2).1:Int)=(0:Int)))then (bif (((v3.getD v5.toNat (qa Y36)).2).2:Bool)then (chk (qdP v2) (some ((((qce v2).1:Int),((qce v2).2:List (Val Y36))),())))else (qdd N v2 v3 v4 v6 k0 n (IntKind.i64.wrap (v5+(1:Int))) v7))else (qdd N v2 v3 v4 v6 k0 n (IntKind.i64.wrap (v5+(1:Int))) v7)))else (chk (qcu (v3.getD v5.toNat (qa Y36))) (chk (v7.length+([(((idA (v3.getD v5.toNat (qa Y36))).1:List (Val (.int .i64))),(((idA (v3.getD v5.toNat (qa Y36))).2).1:Int),(((idA (v3.getD v5.toNat (qa Y36))).2).2:Bool))]:List (Val Y36)).length≤1048576) (qdd N v2 v3 v4 v6 k0 n (IntKind.i64.wrap (v5+(1:Int))) (v7++([(((idA (v3.getD v5.toNat (qa Y36))).1:List (Val (.int .i64))),(((idA (v3.getD v5.toNat (qa Y36))).2).1:Int),(((idA (v3.getD v5.toNat (qa Y36))).2).2:Bool))]:List (Val Y36)))))))))else (k0 v7)
noncomputable def qc9 (N:Nat) (v10:Int) (v12:List (Val (hd Y36))) (v13:List (Val Y36)) (v14:Int) (v15:List (Val (hd Y36))) (v16:Int) (k2:(List (Val (hd Y36)))→Option (qb [i32])):Nat→Int→(List (Val (hd Y36)))→Option (qb [i32])
 | 0,_,_=>none
 | n+1,v11,v17=>bif (decide (v11<v10))then (chk (0≤v11∧v11<(v15.length:Int)) (chk (v11.toNat<v15.length) (bif (decide ((IntKind.i64.wrap (v11+(1:Int)))<(v15.length:Int)))then (chk (0≤(IntKind.i64.wrap (v11+(1:Int)))∧(IntKind.i64.wrap (v11+(1:Int)))<(v15.length:Int)) (chk ((IntKind.i64.wrap (v11+(1:Int))).toNat<v15.length) (chk (qH Y36 v13 v12=v12∧((v15.getD v11.toNat (qa (hd Y36)))∈v12∧(v15.getD ((IntKind.i64.wrap (v11+(1:Int))).toNat) (qa (hd Y36)))∈v12)∧qcQ (lk Y36 v12 v13 (v15.getD v11.toNat (qa (hd Y36)))) (lk Y36 v12 v13 (v15.getD ((IntKind.i64.wrap (v11+(1:Int))).toNat) (qa (hd Y36))))) (bif (decide (((qaQ (lk Y36 v12 v13 (v15.getD v11.toNat (qa (hd Y36)))) (lk Y36 v12 v13 (v15.getD ((IntKind.i64.wrap (v11+(1:Int))).toNat) (qa (hd Y36))))):Int)=(0:Int)))then (qc9 N v10 v12 v13 v14 v15 v16 k2 n (IntKind.i64.wrap (v11+(1:Int))) v17)else (chk (v17.length+([(v15.getD v11.toNat (qa (hd Y36)))]:List (Val (hd Y36))).length≤1048576) (qc9 N v10 v12 v13 v14 v15 v16 k2 n (IntKind.i64.wrap (v11+(1:Int))) (v17++([(v15.getD v11.toNat (qa (hd Y36)))]:List (Val (hd Y36))))))))))else (chk (v17.length+([(v15.getD v11.toNat (qa (hd Y36)))]:List (Val (hd Y36))).length≤1048576) (qc9 N v10 v12 v13 v14 v15 v16 k2 n (IntKind.i64.wrap (v11+(1:Int))) (v17++([(v15.getD v11.toNat (qa (hd Y36)))]:List (Val (hd Y36)))))))))else (k2 v17)
noncomputable def m52 (N:Nat) (v0:Int) (v1:List (Val Y36)):Option (qb [i32]):=qdd N v0 v1 (v1.length:Int) (0:Int) (fun (v9:List (Val Y36))=>chk (qdq.pre v9) (qdr (fun p1:List Nat×List (Val (hd Y36))=>qdC Y36 p1.2 (qag v9)) (fun p1=>qc9 N (p1.2.length:Int) p1.2 (qag v9) (0:Int) p1.2 v0 (fun (v19:List (Val (hd Y36)))=>chk (v19=(qcm (qag v9)).map (fun i=>p1.2.getD i (qa (hd Y36)))∧(qcm (qag v9)).Nodup∧(∀i∈(qcm (qag v9)),i<(qag v9).length)∧qH Y36 (qag v9) p1.2=p1.2∧p1.2.length=(qag v9).length) (some ((v0,((qcm (qag v9)).map (fun i=>(qag v9).getD i (qa Y36)))),()))) N (0:Int) ([]:List (Val (hd Y36)))))) N (0:Int) ([]:List (Val Y36))
def Γ52:Gam:=[(71,g71),(72,g72),(73,g73),(76,g76)]
theorem qkY:Gam.get Γ52 71=some g71:=rfl
theorem qlK:Gam.get Γ52 72=some g72:=rfl
theorem qmL:Gam.get Γ52 73=some g73:=rfl
theorem qi0:Gam.get Γ52 76=some g76:=rfl
def qkm:Nm:=⟨[true,false,false,false,true,true,false,false,false,false,false,false,true,true,true],[],false⟩
theorem qkM:qkm.zero=false:=rfl
theorem ql5:qkm.fix=[]:=rfl
theorem qk1:qkm.keep=[true,false,false,false,true,true,false,false,false,false,false,false,true,true,true]:=rfl
def qiK:Nm:=⟨[false,false,false,false,true,true,false,false,true,false,false,false,false,false,false,false,false,false,false,false,false,false,false,false,false,false,false,false,false,false,false,false,false,false,false,false,false,false,false,false,false,false,false,false,false,false,true,true,true],[],false⟩
theorem qkb:qiK.zero=false:=rfl
theorem qlb:qiK.fix=[]:=rfl
theorem ql8:qiK.keep=[false,false,false,false,true,true,false,false,true,false,false,false,false,false,false,false,false,false,false,false,false,false,false,false,false,false,false,false,false,false,false,false,false,false,false,false,false,false,false,false,false,false,false,false,false,false,true,true,true]:=rfl
def qpy:Nm:=⟨[true,false,false,false,true,true],[],false⟩
theorem qlv:qpy.zero=false:=rfl
theorem qjF:qpy.fix=[]:=rfl
theorem qmh:qpy.keep=[true,false,false,false,true,true]:=rfl
def qpa:Nm:=⟨[false,false,false,false,true,false,false,false,true],[],false⟩
theorem qkB:qpa.zero=false:=rfl
theorem qmC:qpa.fix=[]:=rfl
theorem qjI:qpa.keep=[false,false,false,false,true,false,false,false,true]:=rfl
def qeW:Nat→Tree:=fun i=>if i=15 then .quiet 0 (.quiet 1 (.quiet 2 (.quiet 3 (.quiet 4 (.quiet 5 (.quiet 6 (.quiet 7 (.quiet 8 (.quiet 9 (.quiet 10 (.quiet 11 (.alt 12 (.quiet 13 (.quiet 14 .done)) .stop))))))))))))else .done
def qgw:Nat→Nm:=fun i=>if i=3 then qkm else if i=13 then qiK else ⟨[],[],false⟩
noncomputable def qfK:Sem:=qp6 [(74,.sr qdq)]
noncomputable def qdJ:Nat→Option Jn:=fun i=>if i=11 then some (.at none (some ttH))else if i=12 then some (.at (some (.opn 1 Y36)) none)else if i=16 then some (.at none (some ttH))else if i=18 then some (.at (some (.cls 3 0 Y36 qcm)) none)else none
def qfg:Nat→Option Nm:=fun i=>if i=0 then some qpy else if i=2 then some qpa else none
def qgl:Nat→Option Nm:=fun _=>none
theorem p52:ql qeW (Try.f52.body.getD .skip)=true:=by kernel_rfl
noncomputable def T52 (N:Nat):Tab:={tr:=qeW,lp:=qgw,ex:=qfg,rg:=qgl,jn:=qdJ,fuel:=N,sem:=qfK}
theorem qko (N:Nat):(T52 N).pins=false:=rfl
theorem qGE (N:Nat):qm Try.prog (T52 N):=fun id j t h ht=>by
 have h:qdJ id=_:=h
 unfold qdJ at h
 repeat' split at h
 all_goals first | (simp at h;done) | (simp only [Option.some.injEq]at h;subst h;simp [Jn.tb]at ht;done) | (simp only [Option.some.injEq]at h;subst h;simp only [Jn.tb,Option.some.injEq]at ht;subst ht;exact hTH)
theorem qiv (N:Nat):(T52 N).sem=qfK:=rfl
theorem qi6 (N:Nat) (i:Nat):(T52 N).tr i=qeW i:=rfl
theorem qjl (N:Nat) (i:Nat):(T52 N).lp i=qgw i:=rfl
theorem qlJ (N:Nat) (i:Nat):(T52 N).ex i=qfg i:=rfl
theorem qjy (N:Nat) (i:Nat):(T52 N).rg i=qgl i:=rfl
theorem qlC (N:Nat) (i:Nat):(T52 N).jn i=qdJ i:=rfl
theorem qmc (N:Nat):(T52 N).fuel=N:=rfl
noncomputable def qFR:Code:=cut [true,true,false,true,true,true] (Try.f52.body.getD .skip)
theorem qQ3 {N:Nat} {Q:X→St→Option (qb [i32])} {e:List LV} {h:List Blk}:qd tt Γ52 (T52 N) qFR Q ⟨e,h⟩=qd tt Γ52 (T52 N) (cut [true,true,false,true,true,true] (Try.f52.body.getD .skip)) Q ⟨e,h⟩:=rfl
theorem qPi (N:Nat) (v2:Int) (v3:List (Val Y36)) (v4:Int) (v6:Int) {k0:(List (Val Y36))→Option (qb [i32])} {Q:X→St→Option (qb [i32])} {c:Code} (hc:c=qFR) (hret: ∀st,Q .ret st=qI tt true [i32] [.cell 4 32] st) (h0: ∀(v8:List (Val Y36)),Q (.exit 0) ⟨[.one (.int .i64 v2),u,u,u,.one (.ptr 0 0 0),.one (.own 1),u,u,u,u,u,u,u,u,u,u,u,u,u,u,u,u,u,u,u,u,u,u,u,u,u,u,u,u,u,u,u,u,u,u,u,u,u,u,u,u,u,u,u,u,u,u,u,u,u,u,u,u,u,u,u,u,u,u,u,u,u,u,u,u,u,u,u,u,u,u],[.box [.int .i64 v6,.nils],.row 36 Y36 v8 true true 0]⟩=k0 v8): ∀(n:Nat) (v5:Int) (v7:List (Val Y36)),qD (qd tt Γ52 (T52 N) c) false qkm Q n ⟨[.one (.int .i64 v2),u,u,u,.one (.ptr 0 0 0),.one (.own 1),u,u,u,u,u,u,.one (.sl 36 Y36 v3 2),.one (.int .i64 v4),.one (.int .i64 v5),u,u,u,u,u,u,u,u,u,u,u,u,u,u,u,u,u,u,u,u,u,u,u,u,u,u,u,u,u,u,u,u,u,u,u,u,u,u,u,u,u,u,u,u,u,u,u,u,u,u,u,u,u,u,u,u,u,u,u,u,u],[.box [.int .i64 v6,.nils],.row 36 Y36 v7 true true 0]⟩=qdd N v2 v3 v4 v6 k0 n v5 v7:=by
 subst hc;intro n;induction n with
 | zero=>intros;rfl
 | succ n ih=>
   intro v5 v7
   rw [qR,qQ3,qdd];unfold Try.f52
   simp (maxSteps:=10000000) -implicitDefEqProofs [qi6,qeW,qjl,qgw,qlJ,qfg,qjy,qgl,qlC,qdJ,qmc,qko,qiv,qfK,qah,qdq,qap (id:=11),qan (id:=11),qap (id:=12),qan (id:=12),qap (id:=16),qan (id:=16),qap (id:=18),qan (id:=18),ql5,qk1,qkM,qlb,ql8,qkb,qjF,qmh,qlv,qmC,qjI,qkB,qkY,qlK,qmL,qi0,g71,g72,g73,g76,hret,h0,ih]
noncomputable def qFK:Code:=cut [true,true,true,true,true,false,true,true,true] (Try.f52.body.getD .skip)
theorem qK4 {N:Nat} {Q:X→St→Option (qb [i32])} {e:List LV} {h:List Blk}:qd tt Γ52 (T52 N) qFK Q ⟨e,h⟩=qd tt Γ52 (T52 N) (cut [true,true,true,true,true,false,true,true,true] (Try.f52.body.getD .skip)) Q ⟨e,h⟩:=rfl
theorem qJs (N:Nat) (F:List Nat) (v10:Int) (v12:List (Val (hd Y36))) (v13:List (Val Y36)) (v14:Int) (v15:List (Val (hd Y36))) (v16:Int) {k2:(List (Val (hd Y36)))→Option (qb [i32])} {Q:X→St→Option (qb [i32])} {c:Code} (hc:c=qFK) (hret: ∀st,Q .ret st=qI tt true [i32] [.cell 4 32] st) (h2: ∀(v18:List (Val (hd Y36))),Q (.exit 2) ⟨[u,u,u,u,.one (.ptr 1 0 0),u,u,u,.one (.ptr 2 0 0),u,u,u,u,u,u,u,u,u,u,u,u,u,u,u,u,u,u,u,u,u,u,u,u,u,u,u,u,u,u,u,u,u,u,u,u,u,u,u,u,u,u,u,u,u,u,u,u,u,u,u,u,u,u,u,u,u,u,u,u,u,u,u,u,u,u,u],[.nst F Y36 v12 v13,.box [.int .i64 v14,.nils],.box [.int .i64 v16,.own 3],.row 36 (hd Y36) v18 true true 0]⟩=k2 v18): ∀(n:Nat) (v11:Int) (v17:List (Val (hd Y36))),qD (qd tt Γ52 (T52 N) c) false qiK Q n ⟨[u,u,u,u,.one (.ptr 1 0 0),.one (.own 2),u,u,.one (.ptr 3 0 0),u,u,u,u,u,u,u,u,u,u,u,u,u,u,u,u,u,u,u,u,u,u,u,u,u,u,u,u,u,u,u,u,u,u,u,u,u,.one (.own 2),.one (.int .i64 v10),.one (.int .i64 v11),u,u,u,u,u,u,u,u,u,u,u,u,u,u,u,u,u,u,u,u,u,u,u,u,u,u,u],[.nst F Y36 v12 v13,.box [.int .i64 v14,.nils],.row 36 (hd Y36) v15 true true 0,.box [.int .i64 v16,.own 4],.row 36 (hd Y36) v17 true true 0]⟩=qc9 N v10 v12 v13 v14 v15 v16 k2 n v11 v17:=by
 subst hc;intro n;induction n with
 | zero=>intros;rfl
 | succ n ih=>
   intro v11 v17
   rw [qR,qK4,qc9];unfold Try.f52
   simp (maxSteps:=10000000) -implicitDefEqProofs [qi6,qeW,qjl,qgw,qlJ,qfg,qjy,qgl,qlC,qdJ,qmc,qko,qiv,qfK,qah,qdq,qap (id:=11),qan (id:=11),qap (id:=12),qan (id:=12),qap (id:=16),qan (id:=16),qap (id:=18),qan (id:=18),ql5,qk1,qkM,qlb,ql8,qkb,qjF,qmh,qlv,qmC,qjI,qkB,qkY,qlK,qmL,qi0,g71,g72,g73,g76,hret,h2,ih]
theorem qMf (N:Nat) (v0:Int) (v1:List (Val Y36)):qd tt Γ52 (T52 N) (Try.f52.body.getD .skip) (qp tt true [i32] [.cell 4 32]) (qt [i3,i30] 76 (v0,v1,()))=m52 N v0 v1:=by
 unfold Try.f52
 simp (maxSteps:=10000000) -implicitDefEqProofs [qi6,qeW,qjl,qgw,qlJ,qfg,qjy,qgl,qlC,qdJ,qmc,qko,qiv,qfK,qah,qdq,qap (id:=11),qan (id:=11),qap (id:=12),qan (id:=12),qap (id:=16),qan (id:=16),qap (id:=18),qan (id:=18),ql5,qk1,qkM,qlb,ql8,qkb,qjF,qmh,qlv,qmC,qjI,qkB,qkY,qlK,qmL,qi0,g71,g72,g73,g76]
 rewrite [qPi (k0:=(fun (v9:List (Val Y36))=>chk (qdq.pre v9) (qdr (fun p1:List Nat×List (Val (hd Y36))=>qdC Y36 p1.2 (qag v9)) (fun p1=>qc9 N (p1.2.length:Int) p1.2 (qag v9) (0:Int) p1.2 v0 (fun (v19:List (Val (hd Y36)))=>chk (v19=(qcm (qag v9)).map (fun i=>p1.2.getD i (qa (hd Y36)))∧(qcm (qag v9)).Nodup∧(∀i∈(qcm (qag v9)),i<(qag v9).length)∧qH Y36 (qag v9) p1.2=p1.2∧p1.2.length=(qag v9).length) (some ((v0,((qcm (qag v9)).map (fun i=>(qag v9).getD i (qa Y36)))),()))) N (0:Int) ([]:List (Val (hd Y36))))))) N _ _ _ _ ?_ ?_ ?_]
 ·rewrite [m52];first | rfl | simp (maxSteps:=10000000) -implicitDefEqProofs []
 ·rfl
 ·intro;simp only [qK,qM,qO,qv]
 ·intro v9;simp (maxSteps:=10000000) -implicitDefEqProofs [qi6,qeW,qjl,qgw,qlJ,qfg,qjy,qgl,qlC,qdJ,qmc,qko,qiv,qfK,qah,qdq,qap (id:=11),qan (id:=11),qap (id:=12),qan (id:=12),qap (id:=16),qan (id:=16),qap (id:=18),qan (id:=18),ql5,qk1,qkM,qlb,ql8,qkb,qjF,qmh,qlv,qmC,qjI,qkB,qkY,qlK,qmL,qi0,g71,g72,g73,g76]
  repeat' (first | refine qQr fun _=> ?_ | refine qN7 fun p1 _=> ?_)
  rewrite [qJs (k2:=(fun (v19:List (Val (hd Y36)))=>chk (v19=(qcm (qag v9)).map (fun i=>p1.2.getD i (qa (hd Y36)))∧(qcm (qag v9)).Nodup∧(∀i∈(qcm (qag v9)),i<(qag v9).length)∧qH Y36 (qag v9) p1.2=p1.2∧p1.2.length=(qag v9).length) (some ((v0,((qcm (qag v9)).map (fun i=>(qag v9).getD i (qa Y36)))),())))) N _ _ _ _ _ _ _ ?_ ?_ ?_]
  ·first | rfl | simp (maxSteps:=10000000) -implicitDefEqProofs []
  ·rfl
  ·intro;simp only [qK,qM,qO,qv]
  ·intro v19;simp (maxSteps:=10000000) -implicitDefEqProofs [qi6,qeW,qjl,qgw,qlJ,qfg,qjy,qgl,qlC,qdJ,qmc,qko,qiv,qfK,qah,qdq,qap (id:=11),qan (id:=11),qap (id:=12),qan (id:=12),qap (id:=16),qan (id:=16),qap (id:=18),qan (id:=18),ql5,qk1,qkM,qlb,ql8,qkb,qjF,qmh,qlv,qmC,qjI,qkB,qkY,qlK,qmL,qi0,g71,g72,g73,g76]
end Go.T
