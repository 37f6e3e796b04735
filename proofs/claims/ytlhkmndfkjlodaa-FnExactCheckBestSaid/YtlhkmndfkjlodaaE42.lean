/- Refutations: whether multiples refute a cell. -/
import Derived.Test.YtlhkmndfkjlodaaE38
import Derived.Test.YtlhkmndfkjlodaaE40
set_option linter.unusedSimpArgs false
set_option linter.unusedVariables false
namespace Go.T
open Go Go.Proofs
set_option maxHeartbeats 4000000
set_option maxRecDepth 100000
def qa9 (c:Val Y26) (m:List (Val (.int .i64))):Prop:=qca c∧m.length≤1048576
def g67:G:={ps:=[i26,i27],rs:=[i4],dp:=true,pre:=fun x=>qa9 x.1 x.2.1,fn:=fun x=>(qal x.1 x.2.1,())}
noncomputable def qe5 (N:Nat) (v25:Int) (v26:Bool) (v27:Int) (v28:Int) (v29:List (Val (.int .i64))) (v30:Int) (v31:Int) (v32:List (Val (.int .i64))) (v33:Int) (v35:Int) (v36:List (Val Y83)) (k2:(List (Val (.int .i64)))→Option (qa [i4])):Nat→Int→(List (Val (.int .i64)))→Option (qa [i4])
 | 0,_,_=>none
 | n+1,v34,v37=>bif (decide (v34<v33))then (chk (0≤v34∧v34<(v32.length:Int)) (chk (0≤v34∧v34<(v37.length:Int)) (chk (v34.toNat<v37.length) (chk (0≤v34∧v34<(v37.length:Int)) (chk (v34.toNat<v37.length) (qe5 N v25 v26 v27 v28 v29 v30 v31 v32 v33 v35 v36 k2 n (IntKind.i64.wrap (v34+(1:Int))) (v37.set v34.toNat (IntKind.i64.wrap (((v37.getD v34.toNat (qc (.int .i64))):Int)+(IntKind.i64.wrap (v28*((v32.getD v34.toNat (qc (.int .i64))):Int))))))))))))else (k2 v37)
noncomputable def qbc (N:Nat) (v4:List (Val (.int .i64))) (v5:Int) (v7:Int) (v8:List (Val Y83)) (k0:Int→Bool→(List (Val (.int .i64)))→Option (qa [i4])):Nat→Int→Bool→Int→(List (Val (.int .i64)))→Option (qa [i4])
 | 0,_,_,_,_=>none
 | n+1,v2,v3,v6,v9=>bif (decide (v6<v5))then (chk (0≤v6∧v6<(v4.length:Int)) (bif (decide (((v4.getD v6.toNat (qc (.int .i64))):Int)<(0:Int)))then (some (false,()))else (bif (decide ((400000000:Int)<((v4.getD v6.toNat (qc (.int .i64))):Int)))then (some (false,()))else (chk (0≤v6∧v6<(v8.length:Int)) (qe5 N v2 v3 v6 ((v4.getD v6.toNat (qc (.int .i64))):Int) v4 v5 v6 ((v8.getD v6.toNat (qc Y83)).1:List (Val (.int .i64))) (((v8.getD v6.toNat (qc Y83)).1:List (Val (.int .i64))).length:Int) v7 v8 (fun (v39:List (Val (.int .i64)))=>chk (0≤v6∧v6<(v8.length:Int)) (bif v3 then (qbc N v4 v5 v7 v8 k0 n (IntKind.i64.wrap (v2+(IntKind.i64.wrap (((v4.getD v6.toNat (qc (.int .i64))):Int)*(((v8.getD v6.toNat (qc Y83)).2).1:Int))))) true (IntKind.i64.wrap (v6+(1:Int))) v39)else (bif (decide ((0:Int)<((v4.getD v6.toNat (qc (.int .i64))):Int)))then (chk (0≤v6∧v6<(v8.length:Int)) (qbc N v4 v5 v7 v8 k0 n (IntKind.i64.wrap (v2+(IntKind.i64.wrap (((v4.getD v6.toNat (qc (.int .i64))):Int)*(((v8.getD v6.toNat (qc Y83)).2).1:Int))))) (((v8.getD v6.toNat (qc Y83)).2).2:Bool) (IntKind.i64.wrap (v6+(1:Int))) v39))else (qbc N v4 v5 v7 v8 k0 n (IntKind.i64.wrap (v2+(IntKind.i64.wrap (((v4.getD v6.toNat (qc (.int .i64))):Int)*(((v8.getD v6.toNat (qc Y83)).2).1:Int))))) false (IntKind.i64.wrap (v6+(1:Int))) v39)))) N (0:Int) v9)))))else (k0 v2 v3 v9)
noncomputable def qcX (N:Nat) (v46:Int) (v47:Bool) (v48:Int) (v50:List (Val (.int .i64))) (k4:Unit→Option (qa [i4])):Nat→Int→Option (qa [i4])
 | 0,_=>none
 | n+1,v49=>bif (decide (v49<v48))then (chk (0≤v49∧v49<(v50.length:Int)) (chk (v49.toNat<v50.length) (bif (!(decide (((v50.getD v49.toNat (qc (.int .i64))):Int)=(0:Int))))then (some (false,()))else (qcX N v46 v47 v48 v50 k4 n (IntKind.i64.wrap (v49+(1:Int)))))))else (k4 ())
noncomputable def m67 (N:Nat) (v0:Val Y26) (v1:List (Val (.int .i64))):Option (qa [i4]):=bif (!((qS v0):Bool))then (some (false,()))else (bif (!(decide ((v1.length:Int)=((v0.2:List (Val Y83)).length:Int))))then (some (false,()))else (chk (0≤(v0.1:Int)∧(v0.1:Int)≤(v0.1:Int)∧(v0.1:Int)≤1048576) (qbc N v1 (v1.length:Int) (v0.1:Int) (v0.2:List (Val Y83)) (fun (v43:Int) (v44:Bool) (v45:List (Val (.int .i64)))=>qcX N v43 v44 (v45.length:Int) v45 (fun (_:Unit)=>bif (decide ((0:Int)<v43))then (some (true,()))else (bif (decide (v43=(0:Int)))then (some (v44,()))else (some (false,())))) N (0:Int)) N (0:Int) false (0:Int) (List.replicate (v0.1:Int).toNat (qc (.int .i64))))))
def Γ67:Gam:=[(43,g43)]
theorem qeD:Gam.get Γ67 43=some g43:=rfl
def qks:Nm:=⟨[false,false,true,false,false,true,true,true,true,true,false,false,false,false,false,false,false,false,false,false,false,false,false,false,false,false,false,false,true,true,true,false,false,false,false,false,false,false,false,false,false,false,false,false,false,false,true,true,true],[],false⟩
theorem qex:qks.zero=false:=rfl
theorem qeu:qks.fix=[]:=rfl
theorem qdA:qks.keep=[false,false,true,false,false,true,true,true,true,true,false,false,false,false,false,false,false,false,false,false,false,false,false,false,false,false,false,false,true,true,true,false,false,false,false,false,false,false,false,false,false,false,false,false,false,false,true,true,true]:=rfl
def qiT:Nm:=⟨[false,false,true,false,false,true,true,true,false,false,false,false,false,false,false,false,false,false,false,false,false,false,false,false,false,false,false,false,true,true,true],[],false⟩
theorem qeG:qiT.zero=false:=rfl
theorem qff:qiT.fix=[]:=rfl
theorem qea:qiT.keep=[false,false,true,false,false,true,true,true,false,false,false,false,false,false,false,false,false,false,false,false,false,false,false,false,false,false,false,false,true,true,true]:=rfl
def qiZ:Nm:=⟨[false,false,false,false,false,false,true,true,false,false,false,false,false,false,false,false,false,false,false,false,false,false,false,false,false,false,false,false,false,false,false,false,false,false,false,false,false,false,false,false,false,false,false,false,false,false,false,false,false,false,false,false,false,false,false,false,false,false,false,false,false,false,false,false,false,false,false,false,false,false,false,false,false,false,false,false,false,false,false,false,false,false,false,false,false,false,false,true,true,true],[],false⟩
theorem qdH:qiZ.zero=false:=rfl
theorem qeW:qiZ.fix=[]:=rfl
theorem qeP:qiZ.keep=[false,false,false,false,false,false,true,true,false,false,false,false,false,false,false,false,false,false,false,false,false,false,false,false,false,false,false,false,false,false,false,false,false,false,false,false,false,false,false,false,false,false,false,false,false,false,false,false,false,false,false,false,false,false,false,false,false,false,false,false,false,false,false,false,false,false,false,false,false,false,false,false,false,false,false,false,false,false,false,false,false,false,false,false,false,false,false,true,true,true]:=rfl
def qlk:Nm:=⟨[false,false,false,false,false,true,true,true],[],false⟩
theorem qds:qlk.zero=false:=rfl
theorem qei:qlk.fix=[]:=rfl
theorem qfa:qlk.keep=[false,false,false,false,false,true,true,true]:=rfl
def qlR:Nm:=⟨[false,false,true,false,false,true,true,true,true,true,false,false,false,false,false,false,false,false,false,false,false,false,false,false,false,false,false,false,true,true,true],[],false⟩
theorem qdt:qlR.zero=false:=rfl
theorem qeS:qlR.fix=[]:=rfl
theorem qeb:qlR.keep=[false,false,true,false,false,true,true,true,true,true,false,false,false,false,false,false,false,false,false,false,false,false,false,false,false,false,false,false,true,true,true]:=rfl
def qlt:Nm:=⟨[false,false,false,false,false,false,true,true],[],false⟩
theorem qd0:qlt.zero=false:=rfl
theorem qep:qlt.fix=[]:=rfl
theorem qez:qlt.keep=[false,false,false,false,false,false,true,true]:=rfl
def qb5:Nat→Tree:=fun _=> .done
def qcG:Nat→Nm:=fun i=>if i=10 then qks else if i=5 then qiT else if i=18 then qiZ else ⟨[],[],false⟩
def qcz:Nat→Option Jn:=fun _=>none
def qcp:Nat→Option Nm:=fun i=>if i=0 then some qlk else if i=2 then some qlR else if i=4 then some qlt else none
def qcA:Nat→Option Nm:=fun _=>none
theorem p67:qg qb5 (Try.f67.body.getD .skip)=true:=by kernel_rfl
def T67 (N:Nat):Tab:={tr:=qb5,lp:=qcG,ex:=qcp,rg:=qcA,jn:=qcz,fuel:=N}
theorem qd5 (N:Nat):(T67 N).pins=false:=rfl
theorem qQe (N:Nat):qk Try.prog (T67 N):=qn fun _=>rfl
theorem qdx (N:Nat) (i:Nat):(T67 N).tr i=qb5 i:=rfl
theorem qdQ (N:Nat) (i:Nat):(T67 N).lp i=qcG i:=rfl
theorem qdF (N:Nat) (i:Nat):(T67 N).ex i=qcp i:=rfl
theorem qdr (N:Nat) (i:Nat):(T67 N).rg i=qcA i:=rfl
theorem qeI (N:Nat) (i:Nat):(T67 N).jn i=qcz i:=rfl
theorem qdq (N:Nat):(T67 N).fuel=N:=rfl
noncomputable def qCF:Code:=cut [true,true,true,false,true,true,true,true,true,false,true,true,true,false,true,true,true] (Try.f67.body.getD .skip)
theorem qQB {N:Nat} {Q:X→St→Option (qa [i4])} {e:List LV} {h:List Blk}:qb tt Γ67 (T67 N) qCF Q ⟨e,h⟩=qb tt Γ67 (T67 N) (cut [true,true,true,false,true,true,true,true,true,false,true,true,true,false,true,true,true] (Try.f67.body.getD .skip)) Q ⟨e,h⟩:=rfl
theorem qKC (N:Nat) (v25:Int) (v26:Bool) (v27:Int) (v28:Int) (v29:List (Val (.int .i64))) (v30:Int) (v31:Int) (v32:List (Val (.int .i64))) (v33:Int) (v35:Int) (v36:List (Val Y83)) {k2:(List (Val (.int .i64)))→Option (qa [i4])} {Q:X→St→Option (qa [i4])} {c:Code} (hc:c=qCF) (hret: ∀st,Q .ret st=qy tt true [i4] [.tmp 4] st) (h2: ∀(v38:List (Val (.int .i64))),Q (.exit 2) ⟨[u,u,.one (.ptr 0 0 0),u,u,.one (.own 1),.one (.int .i64 v25),.one (.bool v26),.one (.int .i64 v27),.one (.int .i64 v28),u,u,u,u,u,u,u,u,u,u,u,u,u,u,u,u,u,u,.one (.sl 3 (.int .i64) v29 2),.one (.int .i64 v30),.one (.int .i64 v31),u,u,u,u,u,u,u,u,u,u,u,u,u,u,u,u,u,u,u,u,u,u,u,u,u,u,u,u,u,u,u,u,u,u,u,u,u,u,u,u,u,u,u,u,u,u,u,u,u,u,u,u,u,u,u,u,u,u,u,u,u,u,u,u,u,u,u,u,u,u,u,u,u,u],[.box [.int .i64 v35,.sl 83 Y83 v36 2],.row 3 (.int .i64) v38 true true 0]⟩=k2 v38): ∀(n:Nat) (v34:Int) (v37:List (Val (.int .i64))),qx (qb tt Γ67 (T67 N) c) false qks Q n ⟨[u,u,.one (.ptr 0 0 0),u,u,.one (.own 1),.one (.int .i64 v25),.one (.bool v26),.one (.int .i64 v27),.one (.int .i64 v28),u,u,u,u,u,u,u,u,u,u,u,u,u,u,u,u,u,u,.one (.sl 3 (.int .i64) v29 2),.one (.int .i64 v30),.one (.int .i64 v31),u,u,u,u,u,u,u,u,u,u,u,u,u,u,u,.one (.sl 3 (.int .i64) v32 2),.one (.int .i64 v33),.one (.int .i64 v34),u,u,u,u,u,u,u,u,u,u,u,u,u,u,u,u,u,u,u,u,u,u,u,u,u,u,u,u,u,u,u,u,u,u,u,u,u,u,u,u,u,u,u,u,u,u,u,u,u,u,u,u,u,u,u,u],[.box [.int .i64 v35,.sl 83 Y83 v36 2],.row 3 (.int .i64) v37 true true 0]⟩=qe5 N v25 v26 v27 v28 v29 v30 v31 v32 v33 v35 v36 k2 n v34 v37:=by
 subst hc;intro n;induction n with
 | zero=>intros;rfl
 | succ n ih=>
   intro v34 v37
   rw [qI,qQB,qe5];unfold Try.f67
   simp (maxSteps:=10000000) -implicitDefEqProofs [qdx,qb5,qdQ,qcG,qdF,qcp,qdr,qcA,qeI,qcz,qdq,qd5,qeu,qdA,qex,qff,qea,qeG,qeW,qeP,qdH,qei,qfa,qds,qeS,qeb,qdt,qep,qez,qd0,qeD,g43,hret,h2,ih]
noncomputable def qBL:Code:=cut [true,true,true,false,true,true,true] (Try.f67.body.getD .skip)
theorem qIW {N:Nat} {Q:X→St→Option (qa [i4])} {e:List LV} {h:List Blk}:qb tt Γ67 (T67 N) qBL Q ⟨e,h⟩=qb tt Γ67 (T67 N) (cut [true,true,true,false,true,true,true] (Try.f67.body.getD .skip)) Q ⟨e,h⟩:=rfl
theorem qK7 (N:Nat) (v4:List (Val (.int .i64))) (v5:Int) (v7:Int) (v8:List (Val Y83)) {k0:Int→Bool→(List (Val (.int .i64)))→Option (qa [i4])} {Q:X→St→Option (qa [i4])} {c:Code} (hc:c=qBL) (hret: ∀st,Q .ret st=qy tt true [i4] [.tmp 4] st) (h0: ∀(v40:Int) (v41:Bool) (v42:List (Val (.int .i64))),Q (.exit 0) ⟨[u,u,u,u,u,.one (.own 0),.one (.int .i64 v40),.one (.bool v41),u,u,u,u,u,u,u,u,u,u,u,u,u,u,u,u,u,u,u,u,u,u,u,u,u,u,u,u,u,u,u,u,u,u,u,u,u,u,u,u,u,u,u,u,u,u,u,u,u,u,u,u,u,u,u,u,u,u,u,u,u,u,u,u,u,u,u,u,u,u,u,u,u,u,u,u,u,u,u,u,u,u,u,u,u,u,u,u,u,u,u,u,u,u,u,u,u],[.row 3 (.int .i64) v42 true true 0]⟩=k0 v40 v41 v42): ∀(n:Nat) (v2:Int) (v3:Bool) (v6:Int) (v9:List (Val (.int .i64))),qx (qb tt Γ67 (T67 N) c) false qiT Q n ⟨[u,u,.one (.ptr 0 0 0),u,u,.one (.own 1),.one (.int .i64 v2),.one (.bool v3),u,u,u,u,u,u,u,u,u,u,u,u,u,u,u,u,u,u,u,u,.one (.sl 3 (.int .i64) v4 2),.one (.int .i64 v5),.one (.int .i64 v6),u,u,u,u,u,u,u,u,u,u,u,u,u,u,u,u,u,u,u,u,u,u,u,u,u,u,u,u,u,u,u,u,u,u,u,u,u,u,u,u,u,u,u,u,u,u,u,u,u,u,u,u,u,u,u,u,u,u,u,u,u,u,u,u,u,u,u,u,u,u,u,u,u,u],[.box [.int .i64 v7,.sl 83 Y83 v8 2],.row 3 (.int .i64) v9 true true 0]⟩=qbc N v4 v5 v7 v8 k0 n v2 v3 v6 v9:=by
 subst hc;intro n;induction n with
 | zero=>intros;rfl
 | succ n ih=>
   intro v2 v3 v6 v9
   rw [qI,qIW];unfold Try.f67
   simp (maxSteps:=10000000) -implicitDefEqProofs [qdx,qb5,qdQ,qcG,qdF,qcp,qdr,qcA,qeI,qcz,qdq,qd5,qeu,qdA,qex,qff,qea,qeG,qeW,qeP,qdH,qei,qfa,qds,qeS,qeb,qdt,qep,qez,qd0,qeD,g43,hret,h0,ih]
   rewrite [qKC (k2:=(fun (v39:List (Val (.int .i64)))=>chk (0≤v6∧v6<(v8.length:Int)) (bif v3 then (qbc N v4 v5 v7 v8 k0 n (IntKind.i64.wrap (v2+(IntKind.i64.wrap (((v4.getD v6.toNat (qc (.int .i64))):Int)*(((v8.getD v6.toNat (qc Y83)).2).1:Int))))) true (IntKind.i64.wrap (v6+(1:Int))) v39)else (bif (decide ((0:Int)<((v4.getD v6.toNat (qc (.int .i64))):Int)))then (chk (0≤v6∧v6<(v8.length:Int)) (qbc N v4 v5 v7 v8 k0 n (IntKind.i64.wrap (v2+(IntKind.i64.wrap (((v4.getD v6.toNat (qc (.int .i64))):Int)*(((v8.getD v6.toNat (qc Y83)).2).1:Int))))) (((v8.getD v6.toNat (qc Y83)).2).2:Bool) (IntKind.i64.wrap (v6+(1:Int))) v39))else (qbc N v4 v5 v7 v8 k0 n (IntKind.i64.wrap (v2+(IntKind.i64.wrap (((v4.getD v6.toNat (qc (.int .i64))):Int)*(((v8.getD v6.toNat (qc Y83)).2).1:Int))))) false (IntKind.i64.wrap (v6+(1:Int))) v39))))) N _ _ _ _ _ _ _ _ _ _ _ ?_ ?_ ?_]
   ·rewrite [qbc];first | rfl | simp (maxSteps:=10000000) -implicitDefEqProofs [ih]
   ·rfl
   ·intro;simp only [qD,qE,qF,qC,hret]
   ·intro v39;simp (maxSteps:=10000000) -implicitDefEqProofs [qdx,qb5,qdQ,qcG,qdF,qcp,qdr,qcA,qeI,qcz,qdq,qd5,qeu,qdA,qex,qff,qea,qeG,qeW,qeP,qdH,qei,qfa,qds,qeS,qeb,qdt,qep,qez,qd0,qeD,g43,hret,h0,ih]
noncomputable def qEc:Code:=cut [true,true,true,true,false,true,true,true] (Try.f67.body.getD .skip)
theorem qKZ {N:Nat} {Q:X→St→Option (qa [i4])} {e:List LV} {h:List Blk}:qb tt Γ67 (T67 N) qEc Q ⟨e,h⟩=qb tt Γ67 (T67 N) (cut [true,true,true,true,false,true,true,true] (Try.f67.body.getD .skip)) Q ⟨e,h⟩:=rfl
theorem qMx (N:Nat) (v46:Int) (v47:Bool) (v48:Int) (v50:List (Val (.int .i64))) {k4:Unit→Option (qa [i4])} {Q:X→St→Option (qa [i4])} {c:Code} (hc:c=qEc) (hret: ∀st,Q .ret st=qy tt true [i4] [.tmp 4] st) (h4:Q (.exit 4) ⟨[u,u,u,u,u,u,.one (.int .i64 v46),.one (.bool v47),u,u,u,u,u,u,u,u,u,u,u,u,u,u,u,u,u,u,u,u,u,u,u,u,u,u,u,u,u,u,u,u,u,u,u,u,u,u,u,u,u,u,u,u,u,u,u,u,u,u,u,u,u,u,u,u,u,u,u,u,u,u,u,u,u,u,u,u,u,u,u,u,u,u,u,u,u,u,u,u,u,u,u,u,u,u,u,u,u,u,u,u,u,u,u,u,u],[]⟩=k4 ()): ∀(n:Nat) (v49:Int),qx (qb tt Γ67 (T67 N) c) false qiZ Q n ⟨[u,u,u,u,u,u,.one (.int .i64 v46),.one (.bool v47),u,u,u,u,u,u,u,u,u,u,u,u,u,u,u,u,u,u,u,u,u,u,u,u,u,u,u,u,u,u,u,u,u,u,u,u,u,u,u,u,u,u,u,u,u,u,u,u,u,u,u,u,u,u,u,u,u,u,u,u,u,u,u,u,u,u,u,u,u,u,u,u,u,u,u,u,u,u,u,.one (.own 0),.one (.int .i64 v48),.one (.int .i64 v49),u,u,u,u,u,u,u,u,u,u,u,u,u,u,u],[.row 3 (.int .i64) v50 true true 0]⟩=qcX N v46 v47 v48 v50 k4 n v49:=by
 subst hc;intro n;induction n with
 | zero=>intros;rfl
 | succ n ih=>
   intro v49
   rw [qI,qKZ,qcX];unfold Try.f67
   simp (maxSteps:=10000000) -implicitDefEqProofs [qdx,qb5,qdQ,qcG,qdF,qcp,qdr,qcA,qeI,qcz,qdq,qd5,qeu,qdA,qex,qff,qea,qeG,qeW,qeP,qdH,qei,qfa,qds,qeS,qeb,qdt,qep,qez,qd0,qeD,g43,hret,h4,ih]
theorem qQI (N:Nat) (v0:Val Y26) (v1:List (Val (.int .i64))):qb tt Γ67 (T67 N) (Try.f67.body.getD .skip) (qh tt true [i4] [.tmp 4]) (ql [i26,i27] 105 (v0,v1,()))=m67 N v0 v1:=by
 unfold Try.f67
 simp (maxSteps:=10000000) -implicitDefEqProofs [qdx,qb5,qdQ,qcG,qdF,qcp,qdr,qcA,qeI,qcz,qdq,qd5,qeu,qdA,qex,qff,qea,qeG,qeW,qeP,qdH,qei,qfa,qds,qeS,qeb,qdt,qep,qez,qd0,qeD,g43]
 rewrite [qK7 (k0:=(fun (v43:Int) (v44:Bool) (v45:List (Val (.int .i64)))=>qcX N v43 v44 (v45.length:Int) v45 (fun (_:Unit)=>bif (decide ((0:Int)<v43))then (some (true,()))else (bif (decide (v43=(0:Int)))then (some (v44,()))else (some (false,())))) N (0:Int))) N _ _ _ _ ?_ ?_ ?_]
 ·rewrite [m67];first | rfl | simp (maxSteps:=10000000) -implicitDefEqProofs []
 ·rfl
 ·intro;simp only [qD,qE,qF,qC]
 ·intro v43 v44 v45;simp (maxSteps:=10000000) -implicitDefEqProofs [qdx,qb5,qdQ,qcG,qdF,qcp,qdr,qcA,qeI,qcz,qdq,qd5,qeu,qdA,qex,qff,qea,qeG,qeW,qeP,qdH,qei,qfa,qds,qeS,qeb,qdt,qep,qez,qd0,qeD,g43]
  rewrite [qMx (k4:=(fun (_:Unit)=>bif (decide ((0:Int)<v43))then (some (true,()))else (bif (decide (v43=(0:Int)))then (some (v44,()))else (some (false,()))))) N _ _ _ _ ?_ ?_ ?_]
  ·first | rfl | simp (maxSteps:=10000000) -implicitDefEqProofs []
  ·rfl
  ·intro;simp only [qD,qE,qF,qC]
  ·simp (maxSteps:=10000000) -implicitDefEqProofs [qdx,qb5,qdQ,qcG,qdF,qcp,qdr,qcA,qeI,qcz,qdq,qd5,qeu,qdA,qex,qff,qea,qeG,qeW,qeP,qdH,qei,qfa,qds,qeS,qeb,qdt,qep,qez,qd0,qeD,g43]
theorem qpc {y n x:Int} {i:Nat} (hy:y.natAbs≤i*160000000000000000) (hi:i<16) (hn:0≤n∧n≤400000000) (hx: -400000000≤x∧x≤400000000):IntKind.i64.wrap (y+IntKind.i64.wrap (n*x))=y+n*x∧(y+n*x).natAbs≤(i+1)*160000000000000000:=by
 obtain ⟨h1,h2⟩:=qEL hy hn hx
 refine ⟨?_,h2⟩
 generalize n*x=z at*
 rw [qbp (n:=z) (by omega) (by omega)]
 exact qbp (by omega) (by omega)
theorem qpT {n:Int} {i:Nat} (hn:0≤n∧n≤400000000): ∀{s co:List Int},(∀y∈s,y.natAbs≤i*160000000000000000)→(∀x∈co, -400000000≤x∧x≤400000000)→ ∀y∈qae n s co,y.natAbs≤(i+1)*160000000000000000
 | [],_,_,_,y,hy=>by simp [qae]at hy
 | _::_,[],_,_,y,hy=>by simp [qae]at hy
 | z::s,x::co,hs,hc,y,hy=>by
   have hy:y∈(z+n*x)::qae n s co:=hy
   rcases List.mem_cons.1 hy with rfl | hy
   ·exact (qEL (hs z (by simp)) hn (hc x (by simp))).2
   ·exact qpT hn (fun u hu=>hs u (by simp [hu])) (fun u hu=>hc u (by simp [hu])) y hy
theorem qCb (N:Nat) (v25:Int) (v26:Bool) (v27 n:Int) (v29:List (Val (.int .i64))) (v30 v31:Int) (v35:Int) (v36:List (Val Y83)) (K:List (Val (.int .i64))→Option (qa [i4])) (hn:0≤n∧n≤400000000) (i0:Nat) (hi0:i0<16) (c:List (Val (.int .i64))) (hcl:c.length≤4): ∀(cs ss cp pre:List (Val (.int .i64))),c=cp++cs→cp.length=pre.length→cs.length=ss.length→(∀x∈cs, -400000000≤(x:Int)∧(x:Int)≤(400000000:Int))→(∀y∈ss,Int.natAbs y≤i0*160000000000000000)→ ∀m,cs.length<m→
 qe5 N v25 v26 v27 n v29 v30 v31 c c.length v35 v36 K m pre.length (pre++ss)=K (pre++qae n ss cs)
 | [],[],cp,pre,hc,hp,_,_,_,m+1,_=>by
   have:c.length=pre.length:=by rw [hc,List.append_nil,hp]
   rw [qe5,qj (by omega)]
   simp [qae]
 | x::cs,y::ss,cp,pre,hc,hp,hl,hx,hy,m+1,hm=>by
   have hlen:c.length=pre.length+(cs.length+1):=by rw [hc,List.length_append,hp];rfl
   have hlen2:(pre++y::ss).length=pre.length+(ss.length+1):=by rw [List.length_append];rfl
   have gx: ∀dv:Val (.int .i64),c.getD pre.length dv=x:=fun dv=>by rw [hc,←hp];exact qdm cp x cs dv
   have gy: ∀dv:Val (.int .i64),(pre++y::ss).getD pre.length dv=y:=fun dv=>qdm pre y ss dv
   obtain ⟨w1,_⟩:=qpc (i:=i0) (hy y (by simp)) hi0 hn (hx x (by simp))
   rw [qe5,qi (by omega),qd (by omega),qd (by omega),qd (by omega),qd (by omega),qd (by omega),Int.toNat_natCast,gx,gy,w1,qBM,qje (n:=c.length) (by omega) (by omega)]
   have ih:=qCb N v25 v26 v27 n v29 v30 v31 v35 v36 K hn i0 hi0 c hcl cs ss (cp++[x]) (pre++[((y:Int)+n*(x:Int):Int)]) (by rw [hc];simp) (by simp [hp]) (by simpa using hl) (fun z hz=>hx z (by simp [hz])) (fun z hz=>hy z (by simp [hz])) m (by simp only [List.length_cons]at hm;omega)
   have e1:(((pre++[((y:Int)+n*(x:Int):Int)]).length:Nat):Int)=((pre.length+1:Nat):Int):=by simp
   rw [e1,List.append_assoc]at ih
   refine (show _=_ from ih).trans ?_
   simp [qae]
 | [],_::_,_,_,_,_,hl,_,_,_,_=>by simp at hl
 | _::_,[],_,_,_,_,hl,_,_,_,_=>by simp at hl
theorem qE1 (b c s:Bool) {α:Type} {x:Bool→α}:(bif b then x true else bif c then x s else x false)=x (b||(c&&s)):=by cases b<;>cases c<;>rfl
theorem qBP (N:Nat) (hN:10≤N) (d:Nat) (hd:d≤4) (c:List (Val (.int .i64))) (l:List (Val Y83)) (hl:l.length≤16) (hok: ∀a∈l,okD d a) (K:Int→Bool→List (Val (.int .i64))→Option (qa [i4])): ∀(ys:List (Val (.int .i64))) (aa:List (Val Y83)) (cp:List (Val (.int .i64))) (lp:List (Val Y83)),c=cp++ys→l=lp++aa→cp.length=lp.length→ys.length=aa.length→ ∀(k:Int) (b:Bool) (s:List (Val (.int .i64))),s.length=d→Int.natAbs k≤cp.length*160000000000000000→(∀y∈s,Int.natAbs y≤cp.length*160000000000000000)→ ∀m,ys.length<m→
 qbc N c c.length d l K m k b cp.length s=bif ys.all (fun x=>inR x 0 400000000)then K (k+qQ (fun a=>a.2.1) ys aa) (b||qai ys aa) (qaJ s ys aa)else some (false,())
 | [],[],cp,lp,hc,hlp,hcl,_,k,b,s,_,_,_,m+1,_=>by
   have:c.length=cp.length:=by rw [hc,List.append_nil]
   rw [qbc,qj (by omega)]
   simp [qQ,qai,qaJ]
 | n::ys,a::aa,cp,lp,hc,hlp,hcl,hya,k,b,s,hs,hk,hsv,m+1,hm=>by
   have hlen:c.length=cp.length+(ys.length+1):=by rw [hc,List.length_append];rfl
   have hlen2:l.length=cp.length+(aa.length+1):=by rw [hlp,List.length_append,hcl];rfl
   have hyb:ys.length=aa.length:=by simpa using hya
   have hi:cp.length<16:=by omega
   have gn: ∀dv:Val (.int .i64),c.getD cp.length dv=n:=fun dv=>by rw [hc];exact qdm cp n ys dv
   have ga: ∀dv:Val Y83,l.getD cp.length dv=a:=fun dv=>by rw [hlp,hcl];exact qdm lp a aa dv
   have ha:okD d a:=hok a (by rw [hlp];simp)
   have had:(List.length (α:=Int) a.1:Int)=d:=ha.2
   have hal:List.length (α:=Int) a.1=d:=by omega
   rw [qbc,qi (by omega),qd (by omega),Int.toNat_natCast,gn,ga,List.all_cons]
   by_cases h0:(n:Int)<0
   ·rw [qi h0,qmQ (show ¬(0≤(n:Int)∧(n:Int)≤400000000) from fun h=>absurd h.1 (Int.not_le.2 h0))];rfl
   rw [qj h0]
   by_cases h4:(400000000:Int)<(n:Int)
   ·rw [qi h4,qmQ (show ¬(0≤(n:Int)∧(n:Int)≤400000000) from fun h=>absurd h.2 (Int.not_le.2 h4))];rfl
   have hn:0≤(n:Int)∧(n:Int)≤(400000000:Int):=⟨Int.not_lt.1 h0,Int.not_lt.1 h4⟩
   obtain ⟨w1,w2⟩:=qpc hk hi hn (qFb ha.1)
   rw [qj h4,qd (by omega),qCk hn,w1]
   have t:=fun K'=>qCb N k b cp.length n c c.length cp.length d l K' hn cp.length hi a.1 (by omega) a.1 s [] [] rfl rfl (by omega) (qoB ha.1) hsv N (by omega)
   simp only [List.nil_append,List.length_nil]at t
   refine (show _=_ from t _).trans ?_
   rw [qd (by omega),qd (by omega)]
   rw [qE1 (x:=fun b'=>qbc N c c.length d l K m (k+(n:Int)*(a.2.1:Int)) b' (IntKind.i64.wrap ((cp.length:Int)+1)) (qae n s a.1)),qje (n:=c.length) (by omega) (by omega)]
   have ih:=qBP N hN d hd c l hl hok K ys aa (cp++[n]) (lp++[a]) (by rw [hc];simp) (by rw [hlp];simp) (by simp [hcl]) (by simpa using hya) (k+(n:Int)*(a.2.1:Int)) (b||(decide ((0:Int)<n)&&a.2.2)) (qae n s a.1) (by rw [qkI (by omega)];exact hs) (by rw [List.length_append];exact w2) (by rw [List.length_append];exact qpT hn hsv (qoB ha.1)) m (by simp only [List.length_cons]at hm;omega)
   have e1:(((cp++[n]).length:Nat):Int)=((cp.length+1:Nat):Int):=by simp
   rw [e1]at ih
   refine (show _=_ from ih).trans ?_
   simp only [Bool.true_and]
   have e2:k+(n:Int)*(a.2.1:Int)+qQ (fun a=>a.2.1) ys aa=k+qQ (fun a=>a.2.1) (n::ys) (a::aa):=by
    show _=k+((n:Int)*(a.2.1:Int)+qQ (fun a=>a.2.1) ys aa)
    rw [Int.add_assoc]
   have e3:(b||(decide ((0:Int)<n)&&a.2.2)||qai ys aa)=(b||qai (n::ys) (a::aa)):=by
    show _=(b||((decide ((0:Int)<n)&&a.2.2)||qai ys aa))
    rw [Bool.or_assoc]
   rw [e2,e3]
   rfl
 | [],_::_,_,_,_,_,_,hya,_,_,_,_,_,_,_,_=>by simp at hya
 | _::_,[],_,_,_,_,_,hya,_,_,_,_,_,_,_,_=>by simp at hya
theorem qBV {c:Val Y26} {m:List (Val (.int .i64))} (hc:qS c=true) (hm:(m.length:Int)=(List.length (α:=Val Y83) c.2:Int)):qal c m=bif m.all (fun x=>inR x 0 400000000)then (bif (qaJ (List.replicate (c.1:Int).toNat (0:Int)) m c.2).all (fun x=>decide (x=0))then (bif decide (0<qQ (fun a=>a.2.1) m c.2)then true else bif decide (qQ (fun a=>a.2.1) m c.2=0)then qai m c.2 else false)else false)else false:=by
 obtain ⟨hd,_,hok⟩:=qcd hc
 have hal: ∀a∈(c.2:List (Val Y83)),List.length (α:=Int) a.1=(c.1:Int).toNat:=fun a ha=>by
  have:(List.length (α:=Int) a.1:Int)=(c.1:Int):=(hok a ha).2
  rw [←this];rfl
 unfold qal
 rw [hc,decide_eq_true hm,qKl hal]
 simp only [Bool.and_self,cond_true]
 cases m.all (fun x=>inR x 0 400000000)<;>cases (List.range (c.1:Int).toNat).all (fun v=>decide (qQ (cfV (v:Int)) m c.2=0))<;>cases decide (0<qQ (fun a=>a.2.1) m c.2)<;>cases decide (qQ (fun a=>a.2.1) m c.2=0)<;>cases qai m c.2<;>rfl
theorem e67 (c:Val Y26) (m:List (Val (.int .i64))) (h:qa9 c m): ∃N,m67 N c m=some (qal c m,()):=⟨20,by
 rw [m67]
 cases hc:qS c with
 | false=>unfold qal;rw [hc];rfl
 | true=>
 obtain ⟨hd,hl,hok⟩:=qcd hc
 by_cases hm:(m.length:Int)=(List.length (α:=Val Y83) c.2:Int)
 ·rw [qBV hc hm,decide_eq_true hm]
  have ed:(((c.1:Int).toNat:Nat):Int)=(c.1:Int):=Int.toNat_of_nonneg hd.1
  have h4:(c.1:Int).toNat≤4:=Int.toNat_le.2 hd.2
  simp only [Bool.not_true,cond_false]
  rw [qd ⟨hd.1,Int.le_refl _,Int.le_trans hd.2 (by decide)⟩]
  have t:=fun K=>qBP 20 (by omega) (c.1:Int).toNat h4 m c.2 hl (fun a ha=>by rw [ed];exact hok a ha) K m c.2 [] [] rfl rfl rfl (by omega) 0 false (List.replicate (c.1:Int).toNat (0:Int)) (by simp) (by simp) (fun y hy=>by rw [(List.mem_replicate.1 hy).2];simp) 20 (by omega)
  simp only [ed,List.length_nil]at t
  refine (show _=_ from t _).trans ?_
  cases m.all (fun x=>inR x 0 400000000)with
  | false=>rfl
  | true=>
    simp only [cond_true,Bool.false_or,Int.zero_add]
    have hal: ∀a∈(c.2:List (Val Y83)),List.length (α:=Int) a.1=(c.1:Int).toNat:=fun a ha=>by
      have:(List.length (α:=Int) a.1:Int)=(c.1:Int):=(hok a ha).2
      rw [←this];rfl
    have hvl:(qaJ (List.replicate (c.1:Int).toNat (0:Int)) m c.2).length=(c.1:Int).toNat:=(ql8 (d:=(c.1:Int).toNat) m c.2 _ hal (by simp)).1
    generalize qaJ (List.replicate (c.1:Int).toNat (0:Int)) m c.2=V at hvl ⊢
    refine (q4 (xs:=(V:List (Val (.int .i64)))) (F:=fun n i (_:Unit)=>qcX 20 (qQ (fun a=>a.2.1) m c.2) (qai m c.2) (V.length:Int) V _ n i) (step:=fun _ x _ K=>bif decide ((x:Int)=(0:Int))then K ()else some (false,())) (k:=fun _=>bif decide (0<qQ (fun a=>a.2.1) m c.2)then some (true,())else bif decide (qQ (fun a=>a.2.1) m c.2=0)then some (qai m c.2,())else some (false,())) (by omega) (fun n i s hi=>by rw [qcX,qi (by omega),qd (by omega),qd (by omega),qB hi,q9]) (fun n i s hi=>by rw [qcX,qj (by omega)]) _ () (by omega)).trans ((qaZ V 0).trans ?_)
    cases V.all (fun x=>decide ((x:Int)=0))<;>cases decide (0<qQ (fun a=>a.2.1) m c.2)<;>cases decide (qQ (fun a=>a.2.1) m c.2=0)<;>cases qai m c.2<;>rfl
 ·unfold qal;rw [hc,decide_eq_false hm];rfl⟩
theorem s67:Sound Try.prog 67 g67:=qq (tt:=tt) (Γ:=Γ67) hT (qe s43 qp) hm (fn:=Try.f67) Try.func67 (c:=Try.f67.body.getD .skip) (by kernel_rfl) (by kernel_rfl) fun x hx=>by
 obtain ⟨N,h⟩:=e67 x.1 x.2.1 hx
 exact ⟨T67 N,p67,qm _,qQe N,(qQI N x.1 x.2.1).trans h⟩
end Go.T
