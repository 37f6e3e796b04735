/- Refutations: what the reference's function computes; combinations. -/
import Derived.Test.YtlhkmndfkjlodaaE42
set_option linter.unusedSimpArgs false
set_option linter.unusedVariables false
namespace Go.T
open Go Go.Proofs
set_option maxHeartbeats 4000000
set_option maxRecDepth 100000
def g56:G:={ps:=[i26,i27],rs:=[i4],dp:=true,pre:=fun x=>qa9 x.1 x.2.1,fn:=fun x=>(qal x.1 x.2.1,())}
noncomputable def qeZ (N:Nat) (v19:List (Val (.int .i64))) (v20:Int) (v21:Bool) (v22:Int) (v24:Int) (v25:List (Val Y83)) (k2:(List (Val (.int .i64)))→Option (qa [i4])):Nat→Int→(List (Val (.int .i64)))→Option (qa [i4])
 | 0,_,_=>none
 | n+1,v23,v26=>bif (decide (v23<v24))then (chk (0≤v23∧v23<(v26.length:Int)) (chk (v23.toNat<v26.length) (chk (0≤v22∧v22<(v19.length:Int)) (chk (0≤v22∧v22<(v25.length:Int)) (chk (0≤v23∧v23<(((v25.getD v22.toNat (qc Y83)).1:List (Val (.int .i64))).length:Int)) (chk (0≤v23∧v23<(v26.length:Int)) (chk (v23.toNat<v26.length) (qeZ N v19 v20 v21 v22 v24 v25 k2 n (IntKind.i64.wrap (v23+(1:Int))) (v26.set v23.toNat (IntKind.i64.wrap (((v26.getD v23.toNat (qc (.int .i64))):Int)+(IntKind.i64.wrap (((v19.getD v22.toNat (qc (.int .i64))):Int)*((((v25.getD v22.toNat (qc Y83)).1:List (Val (.int .i64))).getD v23.toNat (qc (.int .i64))):Int))))))))))))))else (k2 v26)
noncomputable def qbb (N:Nat) (v2:List (Val (.int .i64))) (v6:Int) (v7:List (Val Y83)) (k0:Int→Bool→(List (Val (.int .i64)))→Option (qa [i4])):Nat→Int→Bool→Int→(List (Val (.int .i64)))→Option (qa [i4])
 | 0,_,_,_,_=>none
 | n+1,v3,v4,v5,v8=>bif (decide (v5<(v2.length:Int)))then (chk (0≤v5∧v5<(v2.length:Int)) (bif (!((inR ((v2.getD v5.toNat (qc (.int .i64))):Int) (0:Int) (400000000:Int)):Bool))then (some (false,()))else (qeZ N v2 v3 v4 v5 v6 v7 (fun (v28:List (Val (.int .i64)))=>chk (0≤v5∧v5<(v2.length:Int)) (chk (0≤v5∧v5<(v7.length:Int)) (bif v4 then (qbb N v2 v6 v7 k0 n (IntKind.i64.wrap (v3+(IntKind.i64.wrap (((v2.getD v5.toNat (qc (.int .i64))):Int)*(((v7.getD v5.toNat (qc Y83)).2).1:Int))))) true (IntKind.i64.wrap (v5+(1:Int))) v28)else (chk (0≤v5∧v5<(v2.length:Int)) (bif (decide ((0:Int)<((v2.getD v5.toNat (qc (.int .i64))):Int)))then (chk (0≤v5∧v5<(v7.length:Int)) (qbb N v2 v6 v7 k0 n (IntKind.i64.wrap (v3+(IntKind.i64.wrap (((v2.getD v5.toNat (qc (.int .i64))):Int)*(((v7.getD v5.toNat (qc Y83)).2).1:Int))))) (((v7.getD v5.toNat (qc Y83)).2).2:Bool) (IntKind.i64.wrap (v5+(1:Int))) v28))else (qbb N v2 v6 v7 k0 n (IntKind.i64.wrap (v3+(IntKind.i64.wrap (((v2.getD v5.toNat (qc (.int .i64))):Int)*(((v7.getD v5.toNat (qc Y83)).2).1:Int))))) false (IntKind.i64.wrap (v5+(1:Int))) v28)))))) N (0:Int) v8)))else (k0 v3 v4 v8)
noncomputable def qcY (N:Nat) (v35:Int) (v36:Bool) (v38:Int) (v39:List (Val Y83)) (v40:List (Val (.int .i64))) (k4:Unit→Option (qa [i4])):Nat→Int→Option (qa [i4])
 | 0,_=>none
 | n+1,v37=>bif (decide (v37<v38))then (chk (0≤v37∧v37<(v40.length:Int)) (chk (v37.toNat<v40.length) (bif (!(decide (((v40.getD v37.toNat (qc (.int .i64))):Int)=(0:Int))))then (some (false,()))else (qcY N v35 v36 v38 v39 v40 k4 n (IntKind.i64.wrap (v37+(1:Int)))))))else (k4 ())
noncomputable def m56 (N:Nat) (v0:Val Y26) (v1:List (Val (.int .i64))):Option (qa [i4]):=chk (qca v0) (bif (!((qS v0):Bool))then (some (false,()))else (bif (!(decide ((v1.length:Int)=((v0.2:List (Val Y83)).length:Int))))then (some (false,()))else (chk (0≤(v0.1:Int)∧(v0.1:Int)≤(v0.1:Int)∧(v0.1:Int)≤1048576) (qbb N v1 (v0.1:Int) (v0.2:List (Val Y83)) (fun (v32:Int) (v33:Bool) (v34:List (Val (.int .i64)))=>qcY N v32 v33 (v0.1:Int) (v0.2:List (Val Y83)) v34 (fun (_:Unit)=>bif (decide ((0:Int)<v32))then (some (true,()))else (bif (decide (v32=(0:Int)))then (some (v33,()))else (some (false,())))) N (0:Int)) N (0:Int) false (0:Int) (List.replicate (v0.1:Int).toNat (qc (.int .i64)))))))
def Γ56:Gam:=[(46,g46),(47,g47)]
theorem qeU:Gam.get Γ56 46=some g46:=rfl
theorem qdT:Gam.get Γ56 47=some g47:=rfl
def qkz:Nm:=⟨[false,true,true,false,false,true,true,true,true,true],[],false⟩
theorem qfb:qkz.zero=false:=rfl
theorem qdR:qkz.fix=[]:=rfl
theorem qe1:qkz.keep=[false,true,true,false,false,true,true,true,true,true]:=rfl
def qiY:Nm:=⟨[false,true,true,false,false,true,true,true,true],[],false⟩
theorem qdG:qiY.zero=false:=rfl
theorem qeJ:qiY.fix=[]:=rfl
theorem qe2:qiY.keep=[false,true,true,false,false,true,true,true,true]:=rfl
def qjH:Nm:=⟨[false,false,true,false,false,true,true,true,false,false,true],[],false⟩
theorem qdM:qjH.zero=false:=rfl
theorem qdU:qjH.fix=[]:=rfl
theorem qfi:qjH.keep=[false,false,true,false,false,true,true,true,false,false,true]:=rfl
def qls:Nm:=⟨[false,false,true,false,false,true,true,true],[],false⟩
theorem qem:qls.zero=false:=rfl
theorem qe6:qls.fix=[]:=rfl
theorem qeA:qls.keep=[false,false,true,false,false,true,true,true]:=rfl
def qmb:Nm:=⟨[false,true,true,false,false,true,true,true,true],[],false⟩
theorem qdy:qmb.zero=false:=rfl
theorem qdC:qmb.fix=[]:=rfl
theorem qer:qmb.keep=[false,true,true,false,false,true,true,true,true]:=rfl
def qmz:Nm:=⟨[false,false,false,false,false,false,true,true],[],false⟩
theorem qeV:qmz.zero=false:=rfl
theorem qd9:qmz.fix=[]:=rfl
theorem qdX:qmz.keep=[false,false,false,false,false,false,true,true]:=rfl
def qck:Nat→Tree:=fun i=>if i=14 then .quiet 0 (.quiet 1 (.quiet 2 (.quiet 3 (.quiet 4 (.quiet 5 (.quiet 6 (.quiet 7 (.quiet 8 (.quiet 9 (.quiet 10 (.quiet 11 (.quiet 12 (.quiet 13 (.quiet 14 (.quiet 15 (.quiet 16 (.quiet 17 (.quiet 18 (.quiet 19 (.quiet 20 (.quiet 21 (.alt 22 .done .stop))))))))))))))))))))))else if i=15 then .quiet 0 (.quiet 1 (.quiet 2 (.quiet 3 (.quiet 4 (.quiet 5 (.quiet 6 (.quiet 7 (.quiet 8 (.quiet 9 (.quiet 10 (.quiet 11 (.quiet 12 (.quiet 13 .done)))))))))))))else .done
def qcF:Nat→Nm:=fun i=>if i=12 then qkz else if i=7 then qiY else if i=18 then qjH else ⟨[],[],false⟩
def qcM:Nat→Option Jn:=fun _=>none
def qcn:Nat→Option Nm:=fun i=>if i=0 then some qls else if i=2 then some qmb else if i=4 then some qmz else none
def qcI:Nat→Option Nm:=fun _=>none
theorem p56:qg qck (Try.f56.body.getD .skip)=true:=by kernel_rfl
def T56 (N:Nat):Tab:={tr:=qck,lp:=qcF,ex:=qcn,rg:=qcI,jn:=qcM,fuel:=N}
theorem qeE (N:Nat):(T56 N).pins=false:=rfl
theorem qFy (N:Nat):qk Try.prog (T56 N):=qn fun _=>rfl
theorem qdK (N:Nat) (i:Nat):(T56 N).tr i=qck i:=rfl
theorem qey (N:Nat) (i:Nat):(T56 N).lp i=qcF i:=rfl
theorem qej (N:Nat) (i:Nat):(T56 N).ex i=qcn i:=rfl
theorem qeO (N:Nat) (i:Nat):(T56 N).rg i=qcI i:=rfl
theorem qdZ (N:Nat) (i:Nat):(T56 N).jn i=qcM i:=rfl
theorem qdS (N:Nat):(T56 N).fuel=N:=rfl
noncomputable def qB5:Code:=cut [true,true,true,true,true,false,true,true,true,true,false,true,true,false,true,true,true] (Try.f56.body.getD .skip)
theorem qOs {N:Nat} {Q:X→St→Option (qa [i4])} {e:List LV} {h:List Blk}:qb tt Γ56 (T56 N) qB5 Q ⟨e,h⟩=qb tt Γ56 (T56 N) (cut [true,true,true,true,true,false,true,true,true,true,false,true,true,false,true,true,true] (Try.f56.body.getD .skip)) Q ⟨e,h⟩:=rfl
theorem qKw (N:Nat) (v19:List (Val (.int .i64))) (v20:Int) (v21:Bool) (v22:Int) (v24:Int) (v25:List (Val Y83)) {k2:(List (Val (.int .i64)))→Option (qa [i4])} {Q:X→St→Option (qa [i4])} {c:Code} (hc:c=qB5) (hret: ∀st,Q .ret st=qy tt true [i4] [.tmp 4] st) (h2: ∀(v27:List (Val (.int .i64))),Q (.exit 2) ⟨[u,.one (.sl 3 (.int .i64) v19 2),.one (.ptr 0 0 0),u,u,.one (.own 1),.one (.int .i64 v20),.one (.bool v21),.one (.int .i64 v22),u,u,u,u,u,u,u,u,u,u,u,u,u,u,u,u,u,u,u,u,u,u,u,u,u,u,u,u,u,u,u,u,u,u,u,u,u,u,u,u,u,u,u,u,u,u,u,u,u,u,u,u,u,u,u,u,u,u,u,u,u,u,u,u,u,u,u,u,u,u,u,u,u,u,u,u,u,u,u,u,u,u,u,u,u,u,u,u,u,u,u,u,u,u,u,u,u,u,u,u,u,u,u,u,u],[.box [.int .i64 v24,.sl 83 Y83 v25 2],.row 3 (.int .i64) v27 true true 0]⟩=k2 v27): ∀(n:Nat) (v23:Int) (v26:List (Val (.int .i64))),qx (qb tt Γ56 (T56 N) c) false qkz Q n ⟨[u,.one (.sl 3 (.int .i64) v19 2),.one (.ptr 0 0 0),u,u,.one (.own 1),.one (.int .i64 v20),.one (.bool v21),.one (.int .i64 v22),.one (.int .i64 v23),u,u,u,u,u,u,u,u,u,u,u,u,u,u,u,u,u,u,u,u,u,u,u,u,u,u,u,u,u,u,u,u,u,u,u,u,u,u,u,u,u,u,u,u,u,u,u,u,u,u,u,u,u,u,u,u,u,u,u,u,u,u,u,u,u,u,u,u,u,u,u,u,u,u,u,u,u,u,u,u,u,u,u,u,u,u,u,u,u,u,u,u,u,u,u,u,u,u,u,u,u,u,u,u],[.box [.int .i64 v24,.sl 83 Y83 v25 2],.row 3 (.int .i64) v26 true true 0]⟩=qeZ N v19 v20 v21 v22 v24 v25 k2 n v23 v26:=by
 subst hc;intro n;induction n with
 | zero=>intros;rfl
 | succ n ih=>
   intro v23 v26
   rw [qI,qOs,qeZ];unfold Try.f56
   simp (maxSteps:=10000000) -implicitDefEqProofs [qdK,qck,qey,qcF,qej,qcn,qeO,qcI,qdZ,qcM,qdS,qeE,qdR,qe1,qfb,qeJ,qe2,qdG,qdU,qfi,qdM,qe6,qeA,qem,qdC,qer,qdy,qd9,qdX,qeV,qeU,qdT,g46,g47,hret,h2,ih]
noncomputable def qBJ:Code:=cut [true,true,true,true,true,false,true,true,true] (Try.f56.body.getD .skip)
theorem qLC {N:Nat} {Q:X→St→Option (qa [i4])} {e:List LV} {h:List Blk}:qb tt Γ56 (T56 N) qBJ Q ⟨e,h⟩=qb tt Γ56 (T56 N) (cut [true,true,true,true,true,false,true,true,true] (Try.f56.body.getD .skip)) Q ⟨e,h⟩:=rfl
theorem qFv (N:Nat) (v2:List (Val (.int .i64))) (v6:Int) (v7:List (Val Y83)) {k0:Int→Bool→(List (Val (.int .i64)))→Option (qa [i4])} {Q:X→St→Option (qa [i4])} {c:Code} (hc:c=qBJ) (hret: ∀st,Q .ret st=qy tt true [i4] [.tmp 4] st) (h0: ∀(v29:Int) (v30:Bool) (v31:List (Val (.int .i64))),Q (.exit 0) ⟨[u,u,.one (.ptr 0 0 0),u,u,.one (.own 1),.one (.int .i64 v29),.one (.bool v30),u,u,u,u,u,u,u,u,u,u,u,u,u,u,u,u,u,u,u,u,u,u,u,u,u,u,u,u,u,u,u,u,u,u,u,u,u,u,u,u,u,u,u,u,u,u,u,u,u,u,u,u,u,u,u,u,u,u,u,u,u,u,u,u,u,u,u,u,u,u,u,u,u,u,u,u,u,u,u,u,u,u,u,u,u,u,u,u,u,u,u,u,u,u,u,u,u,u,u,u,u,u,u,u,u,u],[.box [.int .i64 v6,.sl 83 Y83 v7 2],.row 3 (.int .i64) v31 true true 0]⟩=k0 v29 v30 v31): ∀(n:Nat) (v3:Int) (v4:Bool) (v5:Int) (v8:List (Val (.int .i64))),qx (qb tt Γ56 (T56 N) c) false qiY Q n ⟨[u,.one (.sl 3 (.int .i64) v2 2),.one (.ptr 0 0 0),u,u,.one (.own 1),.one (.int .i64 v3),.one (.bool v4),.one (.int .i64 v5),u,u,u,u,u,u,u,u,u,u,u,u,u,u,u,u,u,u,u,u,u,u,u,u,u,u,u,u,u,u,u,u,u,u,u,u,u,u,u,u,u,u,u,u,u,u,u,u,u,u,u,u,u,u,u,u,u,u,u,u,u,u,u,u,u,u,u,u,u,u,u,u,u,u,u,u,u,u,u,u,u,u,u,u,u,u,u,u,u,u,u,u,u,u,u,u,u,u,u,u,u,u,u,u,u],[.box [.int .i64 v6,.sl 83 Y83 v7 2],.row 3 (.int .i64) v8 true true 0]⟩=qbb N v2 v6 v7 k0 n v3 v4 v5 v8:=by
 subst hc;intro n;induction n with
 | zero=>intros;rfl
 | succ n ih=>
   intro v3 v4 v5 v8
   rw [qI,qLC];unfold Try.f56
   simp (maxSteps:=10000000) -implicitDefEqProofs [qdK,qck,qey,qcF,qej,qcn,qeO,qcI,qdZ,qcM,qdS,qeE,qdR,qe1,qfb,qeJ,qe2,qdG,qdU,qfi,qdM,qe6,qeA,qem,qdC,qer,qdy,qd9,qdX,qeV,qeU,qdT,g46,g47,hret,h0,ih]
   rewrite [qKw (k2:=(fun (v28:List (Val (.int .i64)))=>chk (0≤v5∧v5<(v2.length:Int)) (chk (0≤v5∧v5<(v7.length:Int)) (bif v4 then (qbb N v2 v6 v7 k0 n (IntKind.i64.wrap (v3+(IntKind.i64.wrap (((v2.getD v5.toNat (qc (.int .i64))):Int)*(((v7.getD v5.toNat (qc Y83)).2).1:Int))))) true (IntKind.i64.wrap (v5+(1:Int))) v28)else (chk (0≤v5∧v5<(v2.length:Int)) (bif (decide ((0:Int)<((v2.getD v5.toNat (qc (.int .i64))):Int)))then (chk (0≤v5∧v5<(v7.length:Int)) (qbb N v2 v6 v7 k0 n (IntKind.i64.wrap (v3+(IntKind.i64.wrap (((v2.getD v5.toNat (qc (.int .i64))):Int)*(((v7.getD v5.toNat (qc Y83)).2).1:Int))))) (((v7.getD v5.toNat (qc Y83)).2).2:Bool) (IntKind.i64.wrap (v5+(1:Int))) v28))else (qbb N v2 v6 v7 k0 n (IntKind.i64.wrap (v3+(IntKind.i64.wrap (((v2.getD v5.toNat (qc (.int .i64))):Int)*(((v7.getD v5.toNat (qc Y83)).2).1:Int))))) false (IntKind.i64.wrap (v5+(1:Int))) v28))))))) N _ _ _ _ _ _ ?_ ?_ ?_]
   ·rewrite [qbb];first | rfl | simp (maxSteps:=10000000) -implicitDefEqProofs [ih]
   ·rfl
   ·intro;simp only [qD,qE,qF,qC,hret]
   ·intro v28;simp (maxSteps:=10000000) -implicitDefEqProofs [qdK,qck,qey,qcF,qej,qcn,qeO,qcI,qdZ,qcM,qdS,qeE,qdR,qe1,qfb,qeJ,qe2,qdG,qdU,qfi,qdM,qe6,qeA,qem,qdC,qer,qdy,qd9,qdX,qeV,qeU,qdT,g46,g47,hret,h0,ih]
noncomputable def qDD:Code:=cut [true,true,true,true,true,true,false,true,true,true] (Try.f56.body.getD .skip)
theorem qG0 {N:Nat} {Q:X→St→Option (qa [i4])} {e:List LV} {h:List Blk}:qb tt Γ56 (T56 N) qDD Q ⟨e,h⟩=qb tt Γ56 (T56 N) (cut [true,true,true,true,true,true,false,true,true,true] (Try.f56.body.getD .skip)) Q ⟨e,h⟩:=rfl
theorem qO7 (N:Nat) (v35:Int) (v36:Bool) (v38:Int) (v39:List (Val Y83)) (v40:List (Val (.int .i64))) {k4:Unit→Option (qa [i4])} {Q:X→St→Option (qa [i4])} {c:Code} (hc:c=qDD) (hret: ∀st,Q .ret st=qy tt true [i4] [.tmp 4] st) (h4:Q (.exit 4) ⟨[u,u,u,u,u,u,.one (.int .i64 v35),.one (.bool v36),u,u,u,u,u,u,u,u,u,u,u,u,u,u,u,u,u,u,u,u,u,u,u,u,u,u,u,u,u,u,u,u,u,u,u,u,u,u,u,u,u,u,u,u,u,u,u,u,u,u,u,u,u,u,u,u,u,u,u,u,u,u,u,u,u,u,u,u,u,u,u,u,u,u,u,u,u,u,u,u,u,u,u,u,u,u,u,u,u,u,u,u,u,u,u,u,u,u,u,u,u,u,u,u,u,u],[]⟩=k4 ()): ∀(n:Nat) (v37:Int),qx (qb tt Γ56 (T56 N) c) false qjH Q n ⟨[u,u,.one (.ptr 0 0 0),u,u,.one (.own 1),.one (.int .i64 v35),.one (.bool v36),u,u,.one (.int .i64 v37),u,u,u,u,u,u,u,u,u,u,u,u,u,u,u,u,u,u,u,u,u,u,u,u,u,u,u,u,u,u,u,u,u,u,u,u,u,u,u,u,u,u,u,u,u,u,u,u,u,u,u,u,u,u,u,u,u,u,u,u,u,u,u,u,u,u,u,u,u,u,u,u,u,u,u,u,u,u,u,u,u,u,u,u,u,u,u,u,u,u,u,u,u,u,u,u,u,u,u,u,u,u,u],[.box [.int .i64 v38,.sl 83 Y83 v39 2],.row 3 (.int .i64) v40 true true 0]⟩=qcY N v35 v36 v38 v39 v40 k4 n v37:=by
 subst hc;intro n;induction n with
 | zero=>intros;rfl
 | succ n ih=>
   intro v37
   rw [qI,qG0,qcY];unfold Try.f56
   simp (maxSteps:=10000000) -implicitDefEqProofs [qdK,qck,qey,qcF,qej,qcn,qeO,qcI,qdZ,qcM,qdS,qeE,qdR,qe1,qfb,qeJ,qe2,qdG,qdU,qfi,qdM,qe6,qeA,qem,qdC,qer,qdy,qd9,qdX,qeV,qeU,qdT,g46,g47,hret,h4,ih]
theorem qFY (N:Nat) (v0:Val Y26) (v1:List (Val (.int .i64))):qb tt Γ56 (T56 N) (Try.f56.body.getD .skip) (qh tt true [i4] [.tmp 4]) (ql [i26,i27] 114 (v0,v1,()))=m56 N v0 v1:=by
 unfold Try.f56
 simp (maxSteps:=10000000) -implicitDefEqProofs [qdK,qck,qey,qcF,qej,qcn,qeO,qcI,qdZ,qcM,qdS,qeE,qdR,qe1,qfb,qeJ,qe2,qdG,qdU,qfi,qdM,qe6,qeA,qem,qdC,qer,qdy,qd9,qdX,qeV,qeU,qdT,g46,g47]
 rewrite [qFv (k0:=(fun (v32:Int) (v33:Bool) (v34:List (Val (.int .i64)))=>qcY N v32 v33 (v0.1:Int) (v0.2:List (Val Y83)) v34 (fun (_:Unit)=>bif (decide ((0:Int)<v32))then (some (true,()))else (bif (decide (v32=(0:Int)))then (some (v33,()))else (some (false,())))) N (0:Int))) N _ _ _ ?_ ?_ ?_]
 ·rewrite [m56];first | rfl | simp (maxSteps:=10000000) -implicitDefEqProofs []
 ·rfl
 ·intro;simp only [qD,qE,qF,qC]
 ·intro v32 v33 v34;simp (maxSteps:=10000000) -implicitDefEqProofs [qdK,qck,qey,qcF,qej,qcn,qeO,qcI,qdZ,qcM,qdS,qeE,qdR,qe1,qfb,qeJ,qe2,qdG,qdU,qfi,qdM,qe6,qeA,qem,qdC,qer,qdy,qd9,qdX,qeV,qeU,qdT,g46,g47]
  rewrite [qO7 (k4:=(fun (_:Unit)=>bif (decide ((0:Int)<v32))then (some (true,()))else (bif (decide (v32=(0:Int)))then (some (v33,()))else (some (false,()))))) N _ _ _ _ _ ?_ ?_ ?_]
  ·first | rfl | simp (maxSteps:=10000000) -implicitDefEqProofs []
  ·rfl
  ·intro;simp only [qD,qE,qF,qC]
  ·simp (maxSteps:=10000000) -implicitDefEqProofs [qdK,qck,qey,qcF,qej,qcn,qeO,qcI,qdZ,qcM,qdS,qeE,qdR,qe1,qfb,qeJ,qe2,qdG,qdU,qfi,qdM,qe6,qeA,qem,qdC,qer,qdy,qd9,qdX,qeV,qeU,qdT,g46,g47]
theorem qCM (N:Nat) (v20:Int) (v21:Bool) (i:Nat) (m:List (Val (.int .i64))) (l:List (Val Y83)) (hm:i<m.length) (hl:i<l.length) (n:Int) (hmn:m[i]=n) (c:List (Val (.int .i64))) (hlc:l[i].1=c) (K:List (Val (.int .i64))→Option (qa [i4])) (hn:0≤n∧n≤400000000) (hi0:i<16) (hcl:c.length≤4): ∀(cs ss cp pre:List (Val (.int .i64))),c=cp++cs→cp.length=pre.length→cs.length=ss.length→(∀x∈cs, -400000000≤(x:Int)∧(x:Int)≤(400000000:Int))→(∀y∈ss,Int.natAbs y≤i*160000000000000000)→ ∀q,cs.length<q→
 qeZ N m v20 v21 i c.length l K q pre.length (pre++ss)=K (pre++qae n ss cs)
 | [],[],cp,pre,hc,hp,_,_,_,q+1,_=>by
   have:c.length=pre.length:=by rw [hc,List.append_nil,hp]
   rw [qeZ,qj (by omega)]
   simp [qae]
 | x::cs,y::ss,cp,pre,hc,hp,hlen0,hx,hy,q+1,hq=>by
   have hlen:c.length=pre.length+(cs.length+1):=by rw [hc,List.length_append,hp];rfl
   have hlen2:(pre++y::ss).length=pre.length+(ss.length+1):=by rw [List.length_append];rfl
   have gx: ∀dv:Val (.int .i64),c.getD pre.length dv=x:=fun dv=>by rw [hc,←hp];exact qdm cp x cs dv
   have gy: ∀dv:Val (.int .i64),(pre++y::ss).getD pre.length dv=y:=fun dv=>qdm pre y ss dv
   obtain ⟨w1,_⟩:=qpc (i:=i) (hy y (by simp)) hi0 hn (hx x (by simp))
   rw [qeZ,qi (by omega),qd (by omega),qd (by omega),qd (by omega),qd (by omega),qB hm,qB hl,hmn,hlc,qd (by omega),qd (by omega),qd (by omega),Int.toNat_natCast,gx,gy,w1,qBM,qje (n:=c.length) (by omega) (by omega)]
   have ih:=qCM N v20 v21 i m l hm hl n hmn c hlc K hn hi0 hcl cs ss (cp++[x]) (pre++[((y:Int)+n*(x:Int):Int)]) (by rw [hc];simp) (by simp [hp]) (by simpa using hlen0) (fun z hz=>hx z (by simp [hz])) (fun z hz=>hy z (by simp [hz])) q (by simp only [List.length_cons]at hq;omega)
   have e1:(((pre++[((y:Int)+n*(x:Int):Int)]).length:Nat):Int)=((pre.length+1:Nat):Int):=by simp
   rw [e1,List.append_assoc]at ih
   refine (show _=_ from ih).trans ?_
   simp [qae]
 | [],_::_,_,_,_,_,hlen0,_,_,_,_=>by simp at hlen0
 | _::_,[],_,_,_,_,hlen0,_,_,_,_=>by simp at hlen0
theorem qDX (N:Nat) (hN:10≤N) (d:Nat) (hd:d≤4) (c:List (Val (.int .i64))) (l:List (Val Y83)) (hl:l.length≤16) (hok: ∀a∈l,okD d a) (K:Int→Bool→List (Val (.int .i64))→Option (qa [i4])): ∀(ys:List (Val (.int .i64))) (aa:List (Val Y83)) (cp:List (Val (.int .i64))) (lp:List (Val Y83)),c=cp++ys→l=lp++aa→cp.length=lp.length→ys.length=aa.length→ ∀(k:Int) (b:Bool) (s:List (Val (.int .i64))),s.length=d→Int.natAbs k≤cp.length*160000000000000000→(∀y∈s,Int.natAbs y≤cp.length*160000000000000000)→ ∀m,ys.length<m→
 qbb N c d l K m k b cp.length s=bif ys.all (fun x=>inR x 0 400000000)then K (k+qQ (fun a=>a.2.1) ys aa) (b||qai ys aa) (qaJ s ys aa)else some (false,())
 | [],[],cp,lp,hc,hlp,hcl,_,k,b,s,_,_,_,m+1,_=>by
   have:c.length=cp.length:=by rw [hc,List.append_nil]
   rw [qbb,qj (by omega)]
   simp [qQ,qai,qaJ]
 | n::ys,a::aa,cp,lp,hc,hlp,hcl,hya,k,b,s,hs,hk,hsv,m+1,hm=>by
   have hlen:c.length=cp.length+(ys.length+1):=by rw [hc,List.length_append];rfl
   have hlen2:l.length=cp.length+(aa.length+1):=by rw [hlp,List.length_append,hcl];rfl
   have hyb:ys.length=aa.length:=by simpa using hya
   have hi:cp.length<16:=by omega
   have h1:cp.length<c.length:=by omega
   have h2:cp.length<l.length:=by omega
   have gn:c[cp.length]=n:=by
    have:=qdm cp n ys (qc (.int .i64))
    rw [←hc,List.getD_eq_getElem?_getD,List.getElem?_eq_getElem h1]at this
    exact this
   have ga:l[cp.length]=a:=by
    have:=qdm lp a aa (qc Y83)
    rw [←hlp,←hcl,List.getD_eq_getElem?_getD,List.getElem?_eq_getElem h2]at this
    exact this
   have ha:okD d a:=hok a (by rw [hlp];simp)
   have had:(List.length (α:=Int) a.1:Int)=d:=ha.2
   have hal:List.length (α:=Int) a.1=d:=by omega
   rw [qbb,qi (by omega),qd (by omega),qB h1,gn,List.all_cons]
   cases hin:inR n 0 400000000 with
   | false=>rfl
   | true=>
   have hn:0≤(n:Int)∧(n:Int)≤(400000000:Int):=of_decide_eq_true hin
   obtain ⟨w1,w2⟩:=qpc hk hi hn (qFb ha.1)
   simp only [Bool.not_true,cond_false]
   have t:=fun K'=>qCM N k b cp.length c l h1 h2 n gn a.1 (by rw [ga]) K' hn hi (by omega) a.1 s [] [] rfl rfl (by omega) (qoB ha.1) hsv N (by omega)
   simp only [List.nil_append,List.length_nil,hal]at t
   refine (show _=_ from t _).trans ?_
   rw [qd (by omega),qd (by omega),qd (by omega),qd (by omega),qB h2,ga,w1]
   rw [qE1 (x:=fun b'=>qbb N c d l K m (k+(n:Int)*(a.2.1:Int)) b' (IntKind.i64.wrap ((cp.length:Int)+1)) (qae n s a.1)),qje (n:=c.length) (by omega) (by omega)]
   have ih:=qDX N hN d hd c l hl hok K ys aa (cp++[n]) (lp++[a]) (by rw [hc];simp) (by rw [hlp];simp) (by simp [hcl]) hyb (k+(n:Int)*(a.2.1:Int)) (b||(decide ((0:Int)<n)&&a.2.2)) (qae n s a.1) (by rw [qkI (by omega)];exact hs) (by rw [List.length_append];exact w2) (by rw [List.length_append];exact qpT hn hsv (qoB ha.1)) m (by simp only [List.length_cons]at hm;omega)
   have e1:(((cp++[n]).length:Nat):Int)=((cp.length+1:Nat):Int):=by simp
   rw [e1]at ih
   refine (show _=_ from ih).trans ?_
   simp only [Bool.true_and]
   have e2:k+(n:Int)*(a.2.1:Int)+qQ (fun a=>a.2.1) ys aa=k+qQ (fun a=>a.2.1) (n::ys) (a::aa):=by
    show _=k+((n:Int)*(a.2.1:Int)+qQ (fun a=>a.2.1) ys aa)
    rw [Int.add_assoc]
   have e3:(b||(decide ((0:Int)<n)&&a.2.2)||qai ys aa)=(b||qai (n::ys) (a::aa)):=by
    show _=(b||((decide ((0:Int)<n)&&a.2.2)||qai ys aa))
    rw [Bool.or_assoc]
   rw [e2,e3]
   rfl
 | [],_::_,_,_,_,_,_,hya,_,_,_,_,_,_,_,_=>by simp at hya
 | _::_,[],_,_,_,_,_,hya,_,_,_,_,_,_,_,_=>by simp at hya
theorem e56 (c:Val Y26) (m:List (Val (.int .i64))) (h:qa9 c m): ∃N,m56 N c m=some (qal c m,()):=⟨20,by
 rw [m56,qd (show qca c from h.1)]
 cases hc:qS c with
 | false=>unfold qal;rw [hc];rfl
 | true=>
 obtain ⟨hd,hl,hok⟩:=qcd hc
 by_cases hm:(m.length:Int)=(List.length (α:=Val Y83) c.2:Int)
 ·rw [qBV hc hm,decide_eq_true hm]
  have ed:(((c.1:Int).toNat:Nat):Int)=(c.1:Int):=Int.toNat_of_nonneg hd.1
  have h4:(c.1:Int).toNat≤4:=Int.toNat_le.2 hd.2
  simp only [Bool.not_true,cond_false]
  rw [qd ⟨hd.1,Int.le_refl _,Int.le_trans hd.2 (by decide)⟩]
  have t:=fun K=>qDX 20 (by omega) (c.1:Int).toNat h4 m c.2 hl (fun a ha=>by rw [ed];exact hok a ha) K m c.2 [] [] rfl rfl rfl (by omega) 0 false (List.replicate (c.1:Int).toNat (0:Int)) (by simp) (by simp) (fun y hy=>by rw [(List.mem_replicate.1 hy).2];simp) 20 (by omega)
  simp only [ed,List.length_nil]at t
  refine (show _=_ from t _).trans ?_
  cases m.all (fun x=>inR x 0 400000000)with
  | false=>rfl
  | true=>
    simp only [cond_true,Bool.false_or,Int.zero_add]
    have hal: ∀a∈(c.2:List (Val Y83)),List.length (α:=Int) a.1=(c.1:Int).toNat:=fun a ha=>by
      have:(List.length (α:=Int) a.1:Int)=(c.1:Int):=(hok a ha).2
      rw [←this];rfl
    have hvl:(qaJ (List.replicate (c.1:Int).toNat (0:Int)) m c.2).length=(c.1:Int).toNat:=(ql8 (d:=(c.1:Int).toNat) m c.2 _ hal (by simp)).1
    generalize qaJ (List.replicate (c.1:Int).toNat (0:Int)) m c.2=V at hvl ⊢
    have hvd:(c.1:Int)=((V.length:Nat):Int):=by rw [hvl];exact ed.symm
    refine (q4 (xs:=(V:List (Val (.int .i64)))) (F:=fun n i (_:Unit)=>qcY 20 (qQ (fun a=>a.2.1) m c.2) (qai m c.2) (c.1:Int) c.2 V _ n i) (step:=fun _ x _ K=>bif decide ((x:Int)=(0:Int))then K ()else some (false,())) (k:=fun _=>bif decide (0<qQ (fun a=>a.2.1) m c.2)then some (true,())else bif decide (qQ (fun a=>a.2.1) m c.2=0)then some (qai m c.2,())else some (false,())) (by omega) (fun n i s hi=>by rw [qcY,qi (by rw [hvd];omega),qd (by omega),qd (by omega),qB hi,q9]) (fun n i s hi=>by rw [qcY,qj (by rw [hvd];omega)]) _ () (by omega)).trans ((qaZ V 0).trans ?_)
    cases V.all (fun x=>decide ((x:Int)=0))<;>cases decide (0<qQ (fun a=>a.2.1) m c.2)<;>cases decide (qQ (fun a=>a.2.1) m c.2=0)<;>cases qai m c.2<;>rfl
 ·unfold qal;rw [hc,decide_eq_false hm];rfl⟩
theorem s56:Sound Try.prog 56 g56:=qq (tt:=tt) (Γ:=Γ56) hT (qe s46 (qe s47 qp)) hm (fn:=Try.f56) Try.func56 (c:=Try.f56.body.getD .skip) (by kernel_rfl) (by kernel_rfl) fun x hx=>by
 obtain ⟨N,h⟩:=e56 x.1 x.2.1 hx
 exact ⟨T56 N,p56,qm _,qFy N,(qFY N x.1 x.2.1).trans h⟩
end Go.T
