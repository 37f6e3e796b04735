/- Mixed atoms. -/
import Derived.Test.YthefcjjgchekiaaGreatB6n
set_option linter.unusedSimpArgs false
set_option linter.unusedVariables false
namespace Go.T
open Go Go.Proofs
set_option maxHeartbeats 4000000
set_option maxRecDepth 100000
def qey (p q:Int) (xs ys:List Int):List Int:=(List.zip xs ys).map fun z=>p*z.1+q*z.2
def qat (a:Val qa) (p:Int) (b:Val qa) (q:Int):Val qa×Bool:=
 bif qP a&&qP b&&decide (List.length (α:=Int) a.1=List.length (α:=Int) b.1)&&inR p 0 400000000&&inR q 0 400000000 then qw (qey p q a.1 b.1) (p*a.2.1+q*b.2.1) ((a.2.2&&decide (0<p))||(b.2.2&&decide (0<q)))else (([],((0:Int),false)),false)
def qEA (a:Val qa) (_:Int) (b:Val qa) (_:Int):Prop:=qbF a∧qbF b
def qfY:G:={ps:=[ql,i3,ql,i3],rs:=[ql,i4],dp:=true,pre:=fun _=>True,fn:=fun x=>((qat x.1 x.2.1 x.2.2.1 x.2.2.2.1).1,(qat x.1 x.2.1 x.2.2.1 x.2.2.2.1).2,())}
def qfi:G:={ps:=[ql,i3,ql,i3],rs:=[ql,i4],dp:=true,pre:=fun x=>qEA x.1 x.2.1 x.2.2.1 x.2.2.2.1,fn:=fun x=>((qat x.1 x.2.1 x.2.2.1 x.2.2.2.1).1,(qat x.1 x.2.1 x.2.2.1 x.2.2.2.1).2,())}
noncomputable def qie (N:Nat) (v4:Int) (v5:Int) (v6:Int) (v8:List (Val (.int .i64))) (v9:Int) (v10:Bool) (v11:List (Val (.int .i64))) (v12:Int) (v13:Bool) (v14:Int) (v15:Bool) (k0:(List (Val (.int .i64)))→Option (qc [ql,i4])):Nat→Int→(List (Val (.int .i64)))→Option (qc [ql,i4])
 | 0,_,_=>none
 | n+1,v7,v16=>bif (decide (v7<v6))then (chk (0≤v7∧v7<(v8.length:Int)) (chk (0≤v7∧v7<(v11.length:Int)) (chk (0≤v7∧v7<(v16.length:Int)) (chk (v7.toNat<v16.length) (qie N v4 v5 v6 v8 v9 v10 v11 v12 v13 v14 v15 k0 n (IntKind.i64.wrap (v7+(1:Int))) (v16.set v7.toNat (IntKind.i64.wrap ((IntKind.i64.wrap (v4*((v8.getD v7.toNat (qb (.int .i64))):Int)))+(IntKind.i64.wrap (v5*((v11.getD v7.toNat (qb (.int .i64))):Int)))))))))))else (k0 v16)
noncomputable def qBH (N:Nat) (v0:Val qa) (v1:Int) (v2:Val qa) (v3:Int):Option (qc [ql,i4]):=bif (!((qP v0):Bool))then (some ((([]:List (Val (.int .i64))),(0:Int),false),false,()))else (bif (!((qP v2):Bool))then (some ((([]:List (Val (.int .i64))),(0:Int),false),false,()))else (bif (!(decide (((v0.1:List (Val (.int .i64))).length:Int)=((v2.1:List (Val (.int .i64))).length:Int))))then (some ((([]:List (Val (.int .i64))),(0:Int),false),false,()))else (bif (decide (v1<(0:Int)))then (some ((([]:List (Val (.int .i64))),(0:Int),false),false,()))else (bif (decide ((400000000:Int)<v1))then (some ((([]:List (Val (.int .i64))),(0:Int),false),false,()))else (bif (decide (v3<(0:Int)))then (some ((([]:List (Val (.int .i64))),(0:Int),false),false,()))else (bif (decide ((400000000:Int)<v3))then (some ((([]:List (Val (.int .i64))),(0:Int),false),false,()))else (chk (0≤((v0.1:List (Val (.int .i64))).length:Int)∧((v0.1:List (Val (.int .i64))).length:Int)≤((v0.1:List (Val (.int .i64))).length:Int)∧((v0.1:List (Val (.int .i64))).length:Int)≤1048576) (qie N v1 v3 ((List.replicate ((v0.1:List (Val (.int .i64))).length:Int).toNat (qb (.int .i64))).length:Int) (v0.1:List (Val (.int .i64))) (v0.2.1:Int) (v0.2.2:Bool) (v2.1:List (Val (.int .i64))) (v2.2.1:Int) (v2.2.2:Bool) (0:Int) false (fun (v18:List (Val (.int .i64)))=>bif (v0.2.2:Bool)then (bif (!(decide (v1=(0:Int))))then (chk (qaS v18 (IntKind.i64.wrap ((IntKind.i64.wrap (v1*(v0.2.1:Int)))+(IntKind.i64.wrap (v3*(v2.2.1:Int))))) true) (some (((((qw v18 (IntKind.i64.wrap ((IntKind.i64.wrap (v1*(v0.2.1:Int)))+(IntKind.i64.wrap (v3*(v2.2.1:Int))))) true).1).1:List (Val (.int .i64))),((((qw v18 (IntKind.i64.wrap ((IntKind.i64.wrap (v1*(v0.2.1:Int)))+(IntKind.i64.wrap (v3*(v2.2.1:Int))))) true).1).2).1:Int),((((qw v18 (IntKind.i64.wrap ((IntKind.i64.wrap (v1*(v0.2.1:Int)))+(IntKind.i64.wrap (v3*(v2.2.1:Int))))) true).1).2).2:Bool)),((qw v18 (IntKind.i64.wrap ((IntKind.i64.wrap (v1*(v0.2.1:Int)))+(IntKind.i64.wrap (v3*(v2.2.1:Int))))) true).2:Bool),())))else (bif (v2.2.2:Bool)then (chk (qaS v18 (IntKind.i64.wrap ((IntKind.i64.wrap (v1*(v0.2.1:Int)))+(IntKind.i64.wrap (v3*(v2.2.1:Int))))) (!(decide (v3=(0:Int))))) (some (((((qw v18 (IntKind.i64.wrap ((IntKind.i64.wrap (v1*(v0.2.1:Int)))+(IntKind.i64.wrap (v3*(v2.2.1:Int))))) (!(decide (v3=(0:Int))))).1).1:List (Val (.int .i64))),((((qw v18 (IntKind.i64.wrap ((IntKind.i64.wrap (v1*(v0.2.1:Int)))+(IntKind.i64.wrap (v3*(v2.2.1:Int))))) (!(decide (v3=(0:Int))))).1).2).1:Int),((((qw v18 (IntKind.i64.wrap ((IntKind.i64.wrap (v1*(v0.2.1:Int)))+(IntKind.i64.wrap (v3*(v2.2.1:Int))))) (!(decide (v3=(0:Int))))).1).2).2:Bool)),((qw v18 (IntKind.i64.wrap ((IntKind.i64.wrap (v1*(v0.2.1:Int)))+(IntKind.i64.wrap (v3*(v2.2.1:Int))))) (!(decide (v3=(0:Int))))).2:Bool),())))else (chk (qaS v18 (IntKind.i64.wrap ((IntKind.i64.wrap (v1*(v0.2.1:Int)))+(IntKind.i64.wrap (v3*(v2.2.1:Int))))) false) (some (((((qw v18 (IntKind.i64.wrap ((IntKind.i64.wrap (v1*(v0.2.1:Int)))+(IntKind.i64.wrap (v3*(v2.2.1:Int))))) false).1).1:List (Val (.int .i64))),((((qw v18 (IntKind.i64.wrap ((IntKind.i64.wrap (v1*(v0.2.1:Int)))+(IntKind.i64.wrap (v3*(v2.2.1:Int))))) false).1).2).1:Int),((((qw v18 (IntKind.i64.wrap ((IntKind.i64.wrap (v1*(v0.2.1:Int)))+(IntKind.i64.wrap (v3*(v2.2.1:Int))))) false).1).2).2:Bool)),((qw v18 (IntKind.i64.wrap ((IntKind.i64.wrap (v1*(v0.2.1:Int)))+(IntKind.i64.wrap (v3*(v2.2.1:Int))))) false).2:Bool),())))))else (bif (v2.2.2:Bool)then (chk (qaS v18 (IntKind.i64.wrap ((IntKind.i64.wrap (v1*(v0.2.1:Int)))+(IntKind.i64.wrap (v3*(v2.2.1:Int))))) (!(decide (v3=(0:Int))))) (some (((((qw v18 (IntKind.i64.wrap ((IntKind.i64.wrap (v1*(v0.2.1:Int)))+(IntKind.i64.wrap (v3*(v2.2.1:Int))))) (!(decide (v3=(0:Int))))).1).1:List (Val (.int .i64))),((((qw v18 (IntKind.i64.wrap ((IntKind.i64.wrap (v1*(v0.2.1:Int)))+(IntKind.i64.wrap (v3*(v2.2.1:Int))))) (!(decide (v3=(0:Int))))).1).2).1:Int),((((qw v18 (IntKind.i64.wrap ((IntKind.i64.wrap (v1*(v0.2.1:Int)))+(IntKind.i64.wrap (v3*(v2.2.1:Int))))) (!(decide (v3=(0:Int))))).1).2).2:Bool)),((qw v18 (IntKind.i64.wrap ((IntKind.i64.wrap (v1*(v0.2.1:Int)))+(IntKind.i64.wrap (v3*(v2.2.1:Int))))) (!(decide (v3=(0:Int))))).2:Bool),())))else (chk (qaS v18 (IntKind.i64.wrap ((IntKind.i64.wrap (v1*(v0.2.1:Int)))+(IntKind.i64.wrap (v3*(v2.2.1:Int))))) false) (some (((((qw v18 (IntKind.i64.wrap ((IntKind.i64.wrap (v1*(v0.2.1:Int)))+(IntKind.i64.wrap (v3*(v2.2.1:Int))))) false).1).1:List (Val (.int .i64))),((((qw v18 (IntKind.i64.wrap ((IntKind.i64.wrap (v1*(v0.2.1:Int)))+(IntKind.i64.wrap (v3*(v2.2.1:Int))))) false).1).2).1:Int),((((qw v18 (IntKind.i64.wrap ((IntKind.i64.wrap (v1*(v0.2.1:Int)))+(IntKind.i64.wrap (v3*(v2.2.1:Int))))) false).1).2).2:Bool)),((qw v18 (IntKind.i64.wrap ((IntKind.i64.wrap (v1*(v0.2.1:Int)))+(IntKind.i64.wrap (v3*(v2.2.1:Int))))) false).2:Bool),()))))) N (0:Int) (List.replicate ((v0.1:List (Val (.int .i64))).length:Int).toNat (qb (.int .i64)))))))))))
def qlC:Gam:=[(207,qeN),(279,qaV)]
theorem qSc:Gam.get qlC 207=some qeN:=rfl
theorem qXS:Gam.get qlC 279=some qaV:=rfl
def qxF:Nm:=⟨[false,true,false,true,true,false,true,false,true,false,true,false,false,false,false,false,false,false,false,false,false,false,false,false,false,false,false,false,false,false,false,false,false,false,false,false,false,false,false,false,false,false,false,false,false,false,false,false,false,false,true,true],[],false⟩
theorem qWo:qxF.zero=false:=rfl
theorem q1g:qxF.fix=[]:=rfl
theorem q3M:qxF.keep=[false,true,false,true,true,false,true,false,true,false,true,false,false,false,false,false,false,false,false,false,false,false,false,false,false,false,false,false,false,false,false,false,false,false,false,false,false,false,false,false,false,false,false,false,false,false,false,false,false,false,true,true]:=rfl
def qE0:Nm:=⟨[false,true,false,true,true,false,true,false,true,false,true],[],false⟩
theorem qMD:qE0.zero=false:=rfl
theorem qOA:qE0.fix=[]:=rfl
theorem q3Z:qE0.keep=[false,true,false,true,true,false,true,false,true,false,true]:=rfl
def qoE:Nat→Tree:=fun i=>if i=9 then .quiet 0 (.quiet 1 (.quiet 2 (.quiet 3 (.quiet 4 (.quiet 5 (.quiet 6 (.quiet 7 (.quiet 8 (.quiet 9 (.quiet 10 (.quiet 11 (.quiet 12 (.quiet 13 (.quiet 14 (.quiet 15 (.quiet 16 (.quiet 17 (.alt 18 .done .stop))))))))))))))))))else .done
def qp4:Nat→Nm:=fun i=>if i=7 then qxF else ⟨[],[],false⟩
def quZ:Nat→Option Jn:=fun _=>none
def qtB:Nat→Option Nm:=fun i=>if i=0 then some qE0 else none
def qpT:Nat→Option Nm:=fun _=>none
theorem zug:qh qoE (Tryz.f293.body.getD .skip)=true:=by kernel_rfl
def qdq (N:Nat):Tab:={tr:=qoE,lp:=qp4,ex:=qtB,rg:=qpT,jn:=quZ,fuel:=N}
theorem q1z (N:Nat):(qdq N).pins=false:=rfl
theorem zvC (N:Nat):qk Tryz.prog (qdq N):=qo fun _=>rfl
theorem qUQ (N:Nat) (i:Nat):(qdq N).tr i=qoE i:=rfl
theorem qOz (N:Nat) (i:Nat):(qdq N).lp i=qp4 i:=rfl
theorem q1t (N:Nat) (i:Nat):(qdq N).ex i=qtB i:=rfl
theorem q4P (N:Nat) (i:Nat):(qdq N).rg i=qpT i:=rfl
theorem qVN (N:Nat) (i:Nat):(qdq N).jn i=quZ i:=rfl
theorem qLH (N:Nat):(qdq N).fuel=N:=rfl
noncomputable def q8O:Code:=cut [true,true,true,true,false,true,true,true] (Tryz.f293.body.getD .skip)
theorem ztO {N:Nat} {Q:X→St→Option (qc [ql,i4])} {e:List LV} {h:List Blk}:qf tt qlC (qdq N) q8O Q ⟨e,h⟩=qf tt qlC (qdq N) (cut [true,true,true,true,false,true,true,true] (Tryz.f293.body.getD .skip)) Q ⟨e,h⟩:=rfl
theorem zAW (N:Nat) (v4:Int) (v5:Int) (v6:Int) (v8:List (Val (.int .i64))) (v9:Int) (v10:Bool) (v11:List (Val (.int .i64))) (v12:Int) (v13:Bool) (v14:Int) (v15:Bool) {k0:(List (Val (.int .i64)))→Option (qc [ql,i4])} {Q:X→St→Option (qc [ql,i4])} {c:Code} (hc:c=q8O) (hret: ∀st,Q .ret st=qC tt true [ql,i4] [.cell 8 108,.tmp 9] st) (h0: ∀(v17:List (Val (.int .i64))),Q (.exit 0) ⟨[u,.one (.int .i64 v4),u,.one (.int .i64 v5),.one (.ptr 0 0 0),u,.one (.ptr 1 0 0),u,.one (.ptr 2 0 0),u,.one (.own 3),u,u,u,u,u,u,u,u,u,u,u,u,u,u,u,u,u,u,u,u,u,u,u,u,u,u,u,u,u,u,u,u,u,u,u,u,u,u,u,u,u,u,u,u,u,u,u,u,u,u,u,u,u,u,u,u,u,u,u,u,u,u,u,u,u,u,u,u,u,u,u,u,u,u,u,u,u,u,u,u,u,u,u,u,u,u,u,u,u],[.box [.sl 3 (.int .i64) v8 4,.int .i64 v9,.bool v10],.box [.sl 3 (.int .i64) v11 4,.int .i64 v12,.bool v13],.box [.nils,.int .i64 v14,.bool v15],.row 3 (.int .i64) v17 true true 0]⟩=k0 v17): ∀(n:Nat) (v7:Int) (v16:List (Val (.int .i64))),qD (qf tt qlC (qdq N) c) false qxF Q n ⟨[u,.one (.int .i64 v4),u,.one (.int .i64 v5),.one (.ptr 0 0 0),u,.one (.ptr 1 0 0),u,.one (.ptr 2 0 0),u,.one (.own 3),u,u,u,u,u,u,u,u,u,u,u,u,u,u,u,u,u,u,u,u,u,u,u,u,u,u,u,u,u,u,u,u,u,u,u,u,u,u,u,.one (.int .i64 v6),.one (.int .i64 v7),u,u,u,u,u,u,u,u,u,u,u,u,u,u,u,u,u,u,u,u,u,u,u,u,u,u,u,u,u,u,u,u,u,u,u,u,u,u,u,u,u,u,u,u,u,u,u,u],[.box [.sl 3 (.int .i64) v8 4,.int .i64 v9,.bool v10],.box [.sl 3 (.int .i64) v11 4,.int .i64 v12,.bool v13],.box [.nils,.int .i64 v14,.bool v15],.row 3 (.int .i64) v16 true true 0]⟩=qie N v4 v5 v6 v8 v9 v10 v11 v12 v13 v14 v15 k0 n v7 v16:=by
 subst hc;intro n;induction n with
 | zero=>intros;rfl
 | succ n ih=>
   intro v7 v16
   rw [qN,ztO,qie];unfold Tryz.f293
   simp (maxSteps:=10000000) -implicitDefEqProofs [qUQ,qoE,qOz,qp4,q1t,qtB,q4P,qpT,qVN,quZ,qLH,q1z,q1g,q3M,qWo,qOA,q3Z,qMD,qSc,qXS,qeN,qaV,hret,h0,ih]
theorem znw (N:Nat) (v0:Val qa) (v1:Int) (v2:Val qa) (v3:Int):qf tt qlC (qdq N) (Tryz.f293.body.getD .skip) (qm tt true [ql,i4] [.cell 8 108,.tmp 9]) (qp [ql,i3,ql,i3] 100 (v0,v1,v2,v3,()))=qBH N v0 v1 v2 v3:=by
 unfold Tryz.f293
 simp (maxSteps:=10000000) -implicitDefEqProofs [qUQ,qoE,qOz,qp4,q1t,qtB,q4P,qpT,qVN,quZ,qLH,q1z,q1g,q3M,qWo,qOA,q3Z,qMD,qSc,qXS,qeN,qaV]
 rewrite [zAW (k0:=(fun (v18:List (Val (.int .i64)))=>bif (v0.2.2:Bool)then (bif (!(decide (v1=(0:Int))))then (chk (qaS v18 (IntKind.i64.wrap ((IntKind.i64.wrap (v1*(v0.2.1:Int)))+(IntKind.i64.wrap (v3*(v2.2.1:Int))))) true) (some (((((qw v18 (IntKind.i64.wrap ((IntKind.i64.wrap (v1*(v0.2.1:Int)))+(IntKind.i64.wrap (v3*(v2.2.1:Int))))) true).1).1:List (Val (.int .i64))),((((qw v18 (IntKind.i64.wrap ((IntKind.i64.wrap (v1*(v0.2.1:Int)))+(IntKind.i64.wrap (v3*(v2.2.1:Int))))) true).1).2).1:Int),((((qw v18 (IntKind.i64.wrap ((IntKind.i64.wrap (v1*(v0.2.1:Int)))+(IntKind.i64.wrap (v3*(v2.2.1:Int))))) true).1).2).2:Bool)),((qw v18 (IntKind.i64.wrap ((IntKind.i64.wrap (v1*(v0.2.1:Int)))+(IntKind.i64.wrap (v3*(v2.2.1:Int))))) true).2:Bool),())))else (bif (v2.2.2:Bool)then (chk (qaS v18 (IntKind.i64.wrap ((IntKind.i64.wrap (v1*(v0.2.1:Int)))+(IntKind.i64.wrap (v3*(v2.2.1:Int))))) (!(decide (v3=(0:Int))))) (some (((((qw v18 (IntKind.i64.wrap ((IntKind.i64.wrap (v1*(v0.2.1:Int)))+(IntKind.i64.wrap (v3*(v2.2.1:Int))))) (!(decide (v3=(0:Int))))).1).1:List (Val (.int .i64))),((((qw v18 (IntKind.i64.wrap ((IntKind.i64.wrap (v1*(v0.2.1:Int)))+(IntKind.i64.wrap (v3*(v2.2.1:Int))))) (!(decide (v3=(0:Int))))).1).2).1:Int),((((qw v18 (IntKind.i64.wrap ((IntKind.i64.wrap (v1*(v0.2.1:Int)))+(IntKind.i64.wrap (v3*(v2.2.1:Int))))) (!(decide (v3=(0:Int))))).1).2).2:Bool)),((qw v18 (IntKind.i64.wrap ((IntKind.i64.wrap (v1*(v0.2.1:Int)))+(IntKind.i64.wrap (v3*(v2.2.1:Int))))) (!(decide (v3=(0:Int))))).2:Bool),())))else (chk (qaS v18 (IntKind.i64.wrap ((IntKind.i64.wrap (v1*(v0.2.1:Int)))+(IntKind.i64.wrap (v3*(v2.2.1:Int))))) false) (some (((((qw v18 (IntKind.i64.wrap ((IntKind.i64.wrap (v1*(v0.2.1:Int)))+(IntKind.i64.wrap (v3*(v2.2.1:Int))))) false).1).1:List (Val (.int .i64))),((((qw v18 (IntKind.i64.wrap ((IntKind.i64.wrap (v1*(v0.2.1:Int)))+(IntKind.i64.wrap (v3*(v2.2.1:Int))))) false).1).2).1:Int),((((qw v18 (IntKind.i64.wrap ((IntKind.i64.wrap (v1*(v0.2.1:Int)))+(IntKind.i64.wrap (v3*(v2.2.1:Int))))) false).1).2).2:Bool)),((qw v18 (IntKind.i64.wrap ((IntKind.i64.wrap (v1*(v0.2.1:Int)))+(IntKind.i64.wrap (v3*(v2.2.1:Int))))) false).2:Bool),())))))else (bif (v2.2.2:Bool)then (chk (qaS v18 (IntKind.i64.wrap ((IntKind.i64.wrap (v1*(v0.2.1:Int)))+(IntKind.i64.wrap (v3*(v2.2.1:Int))))) (!(decide (v3=(0:Int))))) (some (((((qw v18 (IntKind.i64.wrap ((IntKind.i64.wrap (v1*(v0.2.1:Int)))+(IntKind.i64.wrap (v3*(v2.2.1:Int))))) (!(decide (v3=(0:Int))))).1).1:List (Val (.int .i64))),((((qw v18 (IntKind.i64.wrap ((IntKind.i64.wrap (v1*(v0.2.1:Int)))+(IntKind.i64.wrap (v3*(v2.2.1:Int))))) (!(decide (v3=(0:Int))))).1).2).1:Int),((((qw v18 (IntKind.i64.wrap ((IntKind.i64.wrap (v1*(v0.2.1:Int)))+(IntKind.i64.wrap (v3*(v2.2.1:Int))))) (!(decide (v3=(0:Int))))).1).2).2:Bool)),((qw v18 (IntKind.i64.wrap ((IntKind.i64.wrap (v1*(v0.2.1:Int)))+(IntKind.i64.wrap (v3*(v2.2.1:Int))))) (!(decide (v3=(0:Int))))).2:Bool),())))else (chk (qaS v18 (IntKind.i64.wrap ((IntKind.i64.wrap (v1*(v0.2.1:Int)))+(IntKind.i64.wrap (v3*(v2.2.1:Int))))) false) (some (((((qw v18 (IntKind.i64.wrap ((IntKind.i64.wrap (v1*(v0.2.1:Int)))+(IntKind.i64.wrap (v3*(v2.2.1:Int))))) false).1).1:List (Val (.int .i64))),((((qw v18 (IntKind.i64.wrap ((IntKind.i64.wrap (v1*(v0.2.1:Int)))+(IntKind.i64.wrap (v3*(v2.2.1:Int))))) false).1).2).1:Int),((((qw v18 (IntKind.i64.wrap ((IntKind.i64.wrap (v1*(v0.2.1:Int)))+(IntKind.i64.wrap (v3*(v2.2.1:Int))))) false).1).2).2:Bool)),((qw v18 (IntKind.i64.wrap ((IntKind.i64.wrap (v1*(v0.2.1:Int)))+(IntKind.i64.wrap (v3*(v2.2.1:Int))))) false).2:Bool),())))))) N _ _ _ _ _ _ _ _ _ _ _ ?_ ?_ ?_]
 ·rewrite [qBH];first | rfl | simp (maxSteps:=10000000) -implicitDefEqProofs []
 ·rfl
 ·intro;simp only [qK,qL,qJ,qB]
 ·intro v18;simp (maxSteps:=10000000) -implicitDefEqProofs [qUQ,qoE,qOz,qp4,q1t,qtB,q4P,qpT,qVN,quZ,qLH,q1z,q1g,q3M,qWo,qOA,q3Z,qMD,qSc,qXS,qeN,qaV]
noncomputable def qi5 (N:Nat) (v4:Int) (v5:Int) (v7:List (Val (.int .i64))) (v8:Int) (v9:Bool) (v10:List (Val (.int .i64))) (v11:Int) (v12:Bool) (v13:Int) (v14:Bool) (k0:(List (Val (.int .i64)))→Option (qc [ql,i4])):Nat→Int→(List (Val (.int .i64)))→Option (qc [ql,i4])
 | 0,_,_=>none
 | n+1,v6,v15=>bif (decide (v6<(v7.length:Int)))then (chk (0≤v6∧v6<(v7.length:Int)) (chk (0≤v6∧v6<(v10.length:Int)) (chk (v15.length+([(IntKind.i64.wrap ((IntKind.i64.wrap (v4*((v7.getD v6.toNat (qb (.int .i64))):Int)))+(IntKind.i64.wrap (v5*((v10.getD v6.toNat (qb (.int .i64))):Int)))))]:List (Val (.int .i64))).length≤1048576) (qi5 N v4 v5 v7 v8 v9 v10 v11 v12 v13 v14 k0 n (IntKind.i64.wrap (v6+(1:Int))) (v15++([(IntKind.i64.wrap ((IntKind.i64.wrap (v4*((v7.getD v6.toNat (qb (.int .i64))):Int)))+(IntKind.i64.wrap (v5*((v10.getD v6.toNat (qb (.int .i64))):Int)))))]:List (Val (.int .i64))))))))else (k0 v15)
noncomputable def qB9 (N:Nat) (v0:Val qa) (v1:Int) (v2:Val qa) (v3:Int):Option (qc [ql,i4]):=bif (!((qP v0):Bool))then (some ((([]:List (Val (.int .i64))),(0:Int),false),false,()))else (bif (!((qP v2):Bool))then (some ((([]:List (Val (.int .i64))),(0:Int),false),false,()))else (bif (!(decide (((v0.1:List (Val (.int .i64))).length:Int)=((v2.1:List (Val (.int .i64))).length:Int))))then (some ((([]:List (Val (.int .i64))),(0:Int),false),false,()))else (bif (!((inR v1 (0:Int) (400000000:Int)):Bool))then (some ((([]:List (Val (.int .i64))),(0:Int),false),false,()))else (bif (!((inR v3 (0:Int) (400000000:Int)):Bool))then (some ((([]:List (Val (.int .i64))),(0:Int),false),false,()))else (qi5 N v1 v3 (v0.1:List (Val (.int .i64))) (v0.2.1:Int) (v0.2.2:Bool) (v2.1:List (Val (.int .i64))) (v2.2.1:Int) (v2.2.2:Bool) (0:Int) false (fun (v17:List (Val (.int .i64)))=>bif (v0.2.2:Bool)then (bif (decide ((0:Int)<v1))then (chk (qaS v17 (IntKind.i64.wrap ((IntKind.i64.wrap (v1*(v0.2.1:Int)))+(IntKind.i64.wrap (v3*(v2.2.1:Int))))) true) (some (((((qw v17 (IntKind.i64.wrap ((IntKind.i64.wrap (v1*(v0.2.1:Int)))+(IntKind.i64.wrap (v3*(v2.2.1:Int))))) true).1).1:List (Val (.int .i64))),((((qw v17 (IntKind.i64.wrap ((IntKind.i64.wrap (v1*(v0.2.1:Int)))+(IntKind.i64.wrap (v3*(v2.2.1:Int))))) true).1).2).1:Int),((((qw v17 (IntKind.i64.wrap ((IntKind.i64.wrap (v1*(v0.2.1:Int)))+(IntKind.i64.wrap (v3*(v2.2.1:Int))))) true).1).2).2:Bool)),((qw v17 (IntKind.i64.wrap ((IntKind.i64.wrap (v1*(v0.2.1:Int)))+(IntKind.i64.wrap (v3*(v2.2.1:Int))))) true).2:Bool),())))else (bif (v2.2.2:Bool)then (chk (qaS v17 (IntKind.i64.wrap ((IntKind.i64.wrap (v1*(v0.2.1:Int)))+(IntKind.i64.wrap (v3*(v2.2.1:Int))))) (decide ((0:Int)<v3))) (some (((((qw v17 (IntKind.i64.wrap ((IntKind.i64.wrap (v1*(v0.2.1:Int)))+(IntKind.i64.wrap (v3*(v2.2.1:Int))))) (decide ((0:Int)<v3))).1).1:List (Val (.int .i64))),((((qw v17 (IntKind.i64.wrap ((IntKind.i64.wrap (v1*(v0.2.1:Int)))+(IntKind.i64.wrap (v3*(v2.2.1:Int))))) (decide ((0:Int)<v3))).1).2).1:Int),((((qw v17 (IntKind.i64.wrap ((IntKind.i64.wrap (v1*(v0.2.1:Int)))+(IntKind.i64.wrap (v3*(v2.2.1:Int))))) (decide ((0:Int)<v3))).1).2).2:Bool)),((qw v17 (IntKind.i64.wrap ((IntKind.i64.wrap (v1*(v0.2.1:Int)))+(IntKind.i64.wrap (v3*(v2.2.1:Int))))) (decide ((0:Int)<v3))).2:Bool),())))else (chk (qaS v17 (IntKind.i64.wrap ((IntKind.i64.wrap (v1*(v0.2.1:Int)))+(IntKind.i64.wrap (v3*(v2.2.1:Int))))) false) (some (((((qw v17 (IntKind.i64.wrap ((IntKind.i64.wrap (v1*(v0.2.1:Int)))+(IntKind.i64.wrap (v3*(v2.2.1:Int))))) false).1).1:List (Val (.int .i64))),((((qw v17 (IntKind.i64.wrap ((IntKind.i64.wrap (v1*(v0.2.1:Int)))+(IntKind.i64.wrap (v3*(v2.2.1:Int))))) false).1).2).1:Int),((((qw v17 (IntKind.i64.wrap ((IntKind.i64.wrap (v1*(v0.2.1:Int)))+(IntKind.i64.wrap (v3*(v2.2.1:Int))))) false).1).2).2:Bool)),((qw v17 (IntKind.i64.wrap ((IntKind.i64.wrap (v1*(v0.2.1:Int)))+(IntKind.i64.wrap (v3*(v2.2.1:Int))))) false).2:Bool),())))))else (bif (v2.2.2:Bool)then (chk (qaS v17 (IntKind.i64.wrap ((IntKind.i64.wrap (v1*(v0.2.1:Int)))+(IntKind.i64.wrap (v3*(v2.2.1:Int))))) (decide ((0:Int)<v3))) (some (((((qw v17 (IntKind.i64.wrap ((IntKind.i64.wrap (v1*(v0.2.1:Int)))+(IntKind.i64.wrap (v3*(v2.2.1:Int))))) (decide ((0:Int)<v3))).1).1:List (Val (.int .i64))),((((qw v17 (IntKind.i64.wrap ((IntKind.i64.wrap (v1*(v0.2.1:Int)))+(IntKind.i64.wrap (v3*(v2.2.1:Int))))) (decide ((0:Int)<v3))).1).2).1:Int),((((qw v17 (IntKind.i64.wrap ((IntKind.i64.wrap (v1*(v0.2.1:Int)))+(IntKind.i64.wrap (v3*(v2.2.1:Int))))) (decide ((0:Int)<v3))).1).2).2:Bool)),((qw v17 (IntKind.i64.wrap ((IntKind.i64.wrap (v1*(v0.2.1:Int)))+(IntKind.i64.wrap (v3*(v2.2.1:Int))))) (decide ((0:Int)<v3))).2:Bool),())))else (chk (qaS v17 (IntKind.i64.wrap ((IntKind.i64.wrap (v1*(v0.2.1:Int)))+(IntKind.i64.wrap (v3*(v2.2.1:Int))))) false) (some (((((qw v17 (IntKind.i64.wrap ((IntKind.i64.wrap (v1*(v0.2.1:Int)))+(IntKind.i64.wrap (v3*(v2.2.1:Int))))) false).1).1:List (Val (.int .i64))),((((qw v17 (IntKind.i64.wrap ((IntKind.i64.wrap (v1*(v0.2.1:Int)))+(IntKind.i64.wrap (v3*(v2.2.1:Int))))) false).1).2).1:Int),((((qw v17 (IntKind.i64.wrap ((IntKind.i64.wrap (v1*(v0.2.1:Int)))+(IntKind.i64.wrap (v3*(v2.2.1:Int))))) false).1).2).2:Bool)),((qw v17 (IntKind.i64.wrap ((IntKind.i64.wrap (v1*(v0.2.1:Int)))+(IntKind.i64.wrap (v3*(v2.2.1:Int))))) false).2:Bool),()))))) N (0:Int) ([]:List (Val (.int .i64))))))))
def qi8:Gam:=[(118,qao),(149,qe6),(193,qa9)]
theorem qPP:Gam.get qi8 118=some qao:=rfl
theorem q2i:Gam.get qi8 149=some qe6:=rfl
theorem qMH:Gam.get qi8 193=some qa9:=rfl
def quh:Nm:=⟨[false,true,false,true,true,false,true,false,true,false,true,true],[],false⟩
theorem q35:quh.zero=false:=rfl
theorem qO5:quh.fix=[]:=rfl
theorem qQK:quh.keep=[false,true,false,true,true,false,true,false,true,false,true,true]:=rfl
def qGt:Nm:=⟨[false,true,false,true,true,false,true,false,true,false,true],[],false⟩
theorem q3D:qGt.zero=false:=rfl
theorem qSm:qGt.fix=[]:=rfl
theorem qP8:qGt.keep=[false,true,false,true,true,false,true,false,true,false,true]:=rfl
def qpb:Nat→Tree:=fun i=>if i=7 then .quiet 1 (.quiet 2 (.quiet 3 (.quiet 4 (.quiet 5 (.quiet 6 (.quiet 7 (.quiet 8 (.quiet 9 (.quiet 10 (.quiet 11 (.quiet 12 (.quiet 13 (.quiet 14 (.quiet 15 (.first 0 (.alt 16 (.alt 17 (.quiet 18 .done) .stop) .stop))))))))))))))))else .done
def qq2:Nat→Nm:=fun i=>if i=5 then quh else ⟨[],[],false⟩
def qq7:Nat→Option Jn:=fun _=>none
def qt5:Nat→Option Nm:=fun i=>if i=0 then some qGt else none
def qrN:Nat→Option Nm:=fun _=>none
theorem zo4:qh qpb (Tryz.f235.body.getD .skip)=true:=by kernel_rfl
def qdp (N:Nat):Tab:={tr:=qpb,lp:=qq2,ex:=qt5,rg:=qrN,jn:=qq7,fuel:=N}
theorem qNU (N:Nat):(qdp N).pins=false:=rfl
theorem zmP (N:Nat):qk Tryz.prog (qdp N):=qo fun _=>rfl
theorem qMF (N:Nat) (i:Nat):(qdp N).tr i=qpb i:=rfl
theorem qSB (N:Nat) (i:Nat):(qdp N).lp i=qq2 i:=rfl
theorem qOZ (N:Nat) (i:Nat):(qdp N).ex i=qt5 i:=rfl
theorem qO1 (N:Nat) (i:Nat):(qdp N).rg i=qrN i:=rfl
theorem qXH (N:Nat) (i:Nat):(qdp N).jn i=qq7 i:=rfl
theorem qN4 (N:Nat):(qdp N).fuel=N:=rfl
noncomputable def q5f:Code:=cut [true,true,true,false,true,true,true] (Tryz.f235.body.getD .skip)
theorem zoM {N:Nat} {Q:X→St→Option (qc [ql,i4])} {e:List LV} {h:List Blk}:qf tt qi8 (qdp N) q5f Q ⟨e,h⟩=qf tt qi8 (qdp N) (cut [true,true,true,false,true,true,true] (Tryz.f235.body.getD .skip)) Q ⟨e,h⟩:=rfl
theorem zq0 (N:Nat) (v4:Int) (v5:Int) (v7:List (Val (.int .i64))) (v8:Int) (v9:Bool) (v10:List (Val (.int .i64))) (v11:Int) (v12:Bool) (v13:Int) (v14:Bool) {k0:(List (Val (.int .i64)))→Option (qc [ql,i4])} {Q:X→St→Option (qc [ql,i4])} {c:Code} (hc:c=q5f) (hret: ∀st,Q .ret st=qC tt true [ql,i4] [.cell 8 108,.tmp 9] st) (h0: ∀(v16:List (Val (.int .i64))),Q (.exit 0) ⟨[u,.one (.int .i64 v4),u,.one (.int .i64 v5),.one (.ptr 0 0 0),u,.one (.ptr 1 0 0),u,.one (.ptr 2 0 0),u,.one (.own 3),u,u,u,u,u,u,u,u,u,u,u,u,u,u,u,u,u,u,u,u,u,u,u,u,u,u,u,u,u,u,u,u,u,u,u,u,u,u,u,u,u,u,u,u,u,u,u,u,u,u,u,u,u,u,u,u,u,u,u,u,u,u,u,u,u,u,u,u,u,u,u,u,u,u,u,u,u,u,u,u,u,u,u,u,u,u,u],[.box [.sl 3 (.int .i64) v7 4,.int .i64 v8,.bool v9],.box [.sl 3 (.int .i64) v10 4,.int .i64 v11,.bool v12],.box [.nils,.int .i64 v13,.bool v14],.row 3 (.int .i64) v16 true true 0]⟩=k0 v16): ∀(n:Nat) (v6:Int) (v15:List (Val (.int .i64))),qD (qf tt qi8 (qdp N) c) false quh Q n ⟨[u,.one (.int .i64 v4),u,.one (.int .i64 v5),.one (.ptr 0 0 0),u,.one (.ptr 1 0 0),u,.one (.ptr 2 0 0),u,.one (.own 3),.one (.int .i64 v6),u,u,u,u,u,u,u,u,u,u,u,u,u,u,u,u,u,u,u,u,u,u,u,u,u,u,u,u,u,u,u,u,u,u,u,u,u,u,u,u,u,u,u,u,u,u,u,u,u,u,u,u,u,u,u,u,u,u,u,u,u,u,u,u,u,u,u,u,u,u,u,u,u,u,u,u,u,u,u,u,u,u,u,u,u,u],[.box [.sl 3 (.int .i64) v7 4,.int .i64 v8,.bool v9],.box [.sl 3 (.int .i64) v10 4,.int .i64 v11,.bool v12],.box [.nils,.int .i64 v13,.bool v14],.row 3 (.int .i64) v15 true true 0]⟩=qi5 N v4 v5 v7 v8 v9 v10 v11 v12 v13 v14 k0 n v6 v15:=by
 subst hc;intro n;induction n with
 | zero=>intros;rfl
 | succ n ih=>
   intro v6 v15
   rw [qN,zoM,qi5];unfold Tryz.f235
   simp (maxSteps:=10000000) -implicitDefEqProofs [qMF,qpb,qSB,qq2,qOZ,qt5,qO1,qrN,qXH,qq7,qN4,qNU,qO5,qQK,q35,qSm,qP8,q3D,qPP,q2i,qMH,qao,qe6,qa9,hret,h0,ih]
theorem zp0 (N:Nat) (v0:Val qa) (v1:Int) (v2:Val qa) (v3:Int):qf tt qi8 (qdp N) (Tryz.f235.body.getD .skip) (qm tt true [ql,i4] [.cell 8 108,.tmp 9]) (qp [ql,i3,ql,i3] 98 (v0,v1,v2,v3,()))=qB9 N v0 v1 v2 v3:=by
 unfold Tryz.f235
 simp (maxSteps:=10000000) -implicitDefEqProofs [qMF,qpb,qSB,qq2,qOZ,qt5,qO1,qrN,qXH,qq7,qN4,qNU,qO5,qQK,q35,qSm,qP8,q3D,qPP,q2i,qMH,qao,qe6,qa9]
 rewrite [zq0 (k0:=(fun (v17:List (Val (.int .i64)))=>bif (v0.2.2:Bool)then (bif (decide ((0:Int)<v1))then (chk (qaS v17 (IntKind.i64.wrap ((IntKind.i64.wrap (v1*(v0.2.1:Int)))+(IntKind.i64.wrap (v3*(v2.2.1:Int))))) true) (some (((((qw v17 (IntKind.i64.wrap ((IntKind.i64.wrap (v1*(v0.2.1:Int)))+(IntKind.i64.wrap (v3*(v2.2.1:Int))))) true).1).1:List (Val (.int .i64))),((((qw v17 (IntKind.i64.wrap ((IntKind.i64.wrap (v1*(v0.2.1:Int)))+(IntKind.i64.wrap (v3*(v2.2.1:Int))))) true).1).2).1:Int),((((qw v17 (IntKind.i64.wrap ((IntKind.i64.wrap (v1*(v0.2.1:Int)))+(IntKind.i64.wrap (v3*(v2.2.1:Int))))) true).1).2).2:Bool)),((qw v17 (IntKind.i64.wrap ((IntKind.i64.wrap (v1*(v0.2.1:Int)))+(IntKind.i64.wrap (v3*(v2.2.1:Int))))) true).2:Bool),())))else (bif (v2.2.2:Bool)then (chk (qaS v17 (IntKind.i64.wrap ((IntKind.i64.wrap (v1*(v0.2.1:Int)))+(IntKind.i64.wrap (v3*(v2.2.1:Int))))) (decide ((0:Int)<v3))) (some (((((qw v17 (IntKind.i64.wrap ((IntKind.i64.wrap (v1*(v0.2.1:Int)))+(IntKind.i64.wrap (v3*(v2.2.1:Int))))) (decide ((0:Int)<v3))).1).1:List (Val (.int .i64))),((((qw v17 (IntKind.i64.wrap ((IntKind.i64.wrap (v1*(v0.2.1:Int)))+(IntKind.i64.wrap (v3*(v2.2.1:Int))))) (decide ((0:Int)<v3))).1).2).1:Int),((((qw v17 (IntKind.i64.wrap ((IntKind.i64.wrap (v1*(v0.2.1:Int)))+(IntKind.i64.wrap (v3*(v2.2.1:Int))))) (decide ((0:Int)<v3))).1).2).2:Bool)),((qw v17 (IntKind.i64.wrap ((IntKind.i64.wrap (v1*(v0.2.1:Int)))+(IntKind.i64.wrap (v3*(v2.2.1:Int))))) (decide ((0:Int)<v3))).2:Bool),())))else (chk (qaS v17 (IntKind.i64.wrap ((IntKind.i64.wrap (v1*(v0.2.1:Int)))+(IntKind.i64.wrap (v3*(v2.2.1:Int))))) false) (some (((((qw v17 (IntKind.i64.wrap ((IntKind.i64.wrap (v1*(v0.2.1:Int)))+(IntKind.i64.wrap (v3*(v2.2.1:Int))))) false).1).1:List (Val (.int .i64))),((((qw v17 (IntKind.i64.wrap ((IntKind.i64.wrap (v1*(v0.2.1:Int)))+(IntKind.i64.wrap (v3*(v2.2.1:Int))))) false).1).2).1:Int),((((qw v17 (IntKind.i64.wrap ((IntKind.i64.wrap (v1*(v0.2.1:Int)))+(IntKind.i64.wrap (v3*(v2.2.1:Int))))) false).1).2).2:Bool)),((qw v17 (IntKind.i64.wrap ((IntKind.i64.wrap (v1*(v0.2.1:Int)))+(IntKind.i64.wrap (v3*(v2.2.1:Int))))) false).2:Bool),())))))else (bif (v2.2.2:Bool)then (chk (qaS v17 (IntKind.i64.wrap ((IntKind.i64.wrap (v1*(v0.2.1:Int)))+(IntKind.i64.wrap (v3*(v2.2.1:Int))))) (decide ((0:Int)<v3))) (some (((((qw v17 (IntKind.i64.wrap ((IntKind.i64.wrap (v1*(v0.2.1:Int)))+(IntKind.i64.wrap (v3*(v2.2.1:Int))))) (decide ((0:Int)<v3))).1).1:List (Val (.int .i64))),((((qw v17 (IntKind.i64.wrap ((IntKind.i64.wrap (v1*(v0.2.1:Int)))+(IntKind.i64.wrap (v3*(v2.2.1:Int))))) (decide ((0:Int)<v3))).1).2).1:Int),((((qw v17 (IntKind.i64.wrap ((IntKind.i64.wrap (v1*(v0.2.1:Int)))+(IntKind.i64.wrap (v3*(v2.2.1:Int))))) (decide ((0:Int)<v3))).1).2).2:Bool)),((qw v17 (IntKind.i64.wrap ((IntKind.i64.wrap (v1*(v0.2.1:Int)))+(IntKind.i64.wrap (v3*(v2.2.1:Int))))) (decide ((0:Int)<v3))).2:Bool),())))else (chk (qaS v17 (IntKind.i64.wrap ((IntKind.i64.wrap (v1*(v0.2.1:Int)))+(IntKind.i64.wrap (v3*(v2.2.1:Int))))) false) (some (((((qw v17 (IntKind.i64.wrap ((IntKind.i64.wrap (v1*(v0.2.1:Int)))+(IntKind.i64.wrap (v3*(v2.2.1:Int))))) false).1).1:List (Val (.int .i64))),((((qw v17 (IntKind.i64.wrap ((IntKind.i64.wrap (v1*(v0.2.1:Int)))+(IntKind.i64.wrap (v3*(v2.2.1:Int))))) false).1).2).1:Int),((((qw v17 (IntKind.i64.wrap ((IntKind.i64.wrap (v1*(v0.2.1:Int)))+(IntKind.i64.wrap (v3*(v2.2.1:Int))))) false).1).2).2:Bool)),((qw v17 (IntKind.i64.wrap ((IntKind.i64.wrap (v1*(v0.2.1:Int)))+(IntKind.i64.wrap (v3*(v2.2.1:Int))))) false).2:Bool),())))))) N _ _ _ _ _ _ _ _ _ _ ?_ ?_ ?_]
 ·rewrite [qB9];first | rfl | simp (maxSteps:=10000000) -implicitDefEqProofs []
 ·rfl
 ·intro;simp only [qK,qL,qJ,qB]
 ·intro v17;simp (maxSteps:=10000000) -implicitDefEqProofs [qMF,qpb,qSB,qq2,qOZ,qt5,qO1,qrN,qXH,qq7,qN4,qNU,qO5,qQK,q35,qSm,qP8,q3D,qPP,q2i,qMH,qao,qe6,qa9]
theorem qCB {p q x y:Int} (hp:0≤p∧p≤400000000) (hq:0≤q∧q≤400000000) (hx: -400000000≤x∧x≤400000000) (hy: -400000000≤y∧y≤400000000):
 IntKind.i64.wrap (IntKind.i64.wrap (p*x)+IntKind.i64.wrap (q*y))=p*x+q*y∧inI (p*x+q*y):=by
 have h1:(p*x).natAbs≤400000000*400000000:=by rw [Int.natAbs_mul];exact Nat.mul_le_mul (by omega) (by omega)
 have h2:(q*y).natAbs≤400000000*400000000:=by rw [Int.natAbs_mul];exact Nat.mul_le_mul (by omega) (by omega)
 generalize p*x=u at*
 generalize q*y=v at*
 rw [qaC (n:=u) (by omega) (by omega),qaC (n:=v) (by omega) (by omega),qaC (by omega) (by omega)]
 exact ⟨rfl,by unfold inI;omega⟩
theorem zvY {p q:Int} (hp:0≤p∧p≤400000000) (hq:0≤q∧q≤400000000) {xs ys:List Int} (hx: ∀x∈xs, -400000000≤x∧x≤400000000) (hy: ∀x∈ys, -400000000≤x∧x≤400000000): ∀z∈qey p q xs ys,inI z:=by
 intro z hz
 obtain ⟨⟨x,y⟩,hm,rfl⟩:=List.mem_map.1 hz
 obtain ⟨h1,h2⟩:=List.of_mem_zip hm
 exact (qCB hp hq (hx x h1) (hy y h2)).2
theorem qYp {p q:Int} {xs ys:List Int} (h:xs.length=ys.length):(qey p q xs ys).length=xs.length:=by simp [qey,h]
theorem zsz (N:Nat) (p q:Int) (hp:0≤p∧p≤400000000) (hq:0≤q∧q≤400000000) (xs ys:List (Val (.int .i64))) (c:Int) (s:Bool) (c':Int) (s':Bool) (d:Int) (e:Bool) (K:List (Val (.int .i64))→Option (qc [ql,i4])) (hl:xs.length≤1048576) (hxy:xs.length=ys.length)
 (hx: ∀x∈(xs:List Int), -400000000≤x∧x≤400000000) (hy: ∀x∈(ys:List Int), -400000000≤x∧x≤400000000) (n:Nat) (hn:xs.length<n):
 qie N p q xs.length xs c s ys c' s' d e K n 0 (List.replicate xs.length (qb (.int .i64)))=K (qey p q xs ys):=by
 have hm:=qYp (p:=p) (q:=q) hxy
 have:=qkI (xs:=(qey p q xs ys:List (Val (.int .i64)))) (F:=fun n i v=>qie N p q xs.length xs c s ys c' s' d e K n i v) (k:=K) (qb (.int .i64)) (by rw [hm];exact hl) (fun n i v hi hv=> ?_) (fun n i v hi=> ?_) n (by rw [hm];exact hn)
 ·rw [hm]at this;exact this
 ·have hi:i<xs.length:=by rw [hm]at hi;exact hi
  have hv:v.length=xs.length:=by rw [hm]at hv;exact hv
  have hi2:i<ys.length:=by omega
  rw [qie,qj (by omega),qe (by omega),qe (by omega),qe (by omega),qe (by simp;omega),qI hi,qI hi2,(qCB hp hq (hx _ (List.getElem_mem hi)) (hy _ (List.getElem_mem hi2))).1]
  have e:(qey p q xs ys)[i]=p*xs[i]+q*ys[i]:=by simp [qey]
  simp only [e,Int.toNat_natCast]
 ·have hi:xs.length≤i:=by rw [hm]at hi;exact hi
  rw [qie,qi (by omega)]
theorem zis (N:Nat) (p q:Int) (hp:0≤p∧p≤400000000) (hq:0≤q∧q≤400000000) (xs ys:List (Val (.int .i64))) (c:Int) (s:Bool) (c':Int) (s':Bool) (d:Int) (e:Bool) (K:List (Val (.int .i64))→Option (qc [ql,i4])) (hl:xs.length≤1048576) (hxy:xs.length=ys.length)
 (hx: ∀x∈(xs:List Int), -400000000≤x∧x≤400000000) (hy: ∀x∈(ys:List Int), -400000000≤x∧x≤400000000) (n:Nat) (hn:xs.length<n):
 qi5 N p q xs c s ys c' s' d e K n 0 []=K (qey p q xs ys):=by
 have hz:(List.zip (α:=Int) (β:=Int) xs ys).length=xs.length:=by simp [hxy]
 refine (qaZ (xs:=List.zip (α:=Int) (β:=Int) xs ys) (F:=fun n i v=>qi5 N p q xs c s ys c' s' d e K n i v) (step:=fun _ z (v:List (Val (.int .i64))) K=>chk (v.length+[p*z.1+q*z.2].length≤1048576) (K (v++[p*z.1+q*z.2]))) (k:=K) (by omega) (fun n i v hi=> ?_) (fun n i v hi=> ?_) n _ (by omega)).trans ((qzS (f:=fun (z:Int×Int)=>p*z.1+q*z.2) (k:=K) (List.zip (α:=Int) (β:=Int) xs ys) 0 [] (by simp;omega)).trans ?_)
 ·have hi1:i<xs.length:=by omega
  have hi2:i<ys.length:=by omega
  rw [qi5,qj (by omega),qe (by omega),qe (by omega),qI hi1,qI hi2,(qCB hp hq (hx _ (List.getElem_mem hi1)) (hy _ (List.getElem_mem hi2))).1]
  simp only [List.getElem_zip]
 ·rw [qi5,qi (by omega)]
 ·rw [List.nil_append];rfl
theorem qe0 {x a b:Int} (h:a≤x∧x≤b):inR x a b=true:=decide_eq_true h
theorem qfl {x a b:Int} (h: ¬(a≤x∧x≤b)):inR x a b=false:=decide_eq_false h
theorem qlz {a:Val qa} (h:qP a=true): ∀x∈(a.1:List Int), @LE.le Int _ (-400000000) x∧ @LE.le Int _ x 400000000:=(qbb h).2.2
theorem za4 {p q:Int} (hp:0≤p∧p≤400000000) (hq:0≤q∧q≤400000000) {a b:Val qa} (ha:qP a=true) (hb:qP b=true) (hl:List.length (α:=Int) a.1=List.length (α:=Int) b.1) (s:Bool):
 IntKind.i64.wrap (IntKind.i64.wrap (p*(a.2.1:Int))+IntKind.i64.wrap (q*(b.2.1:Int)))=p*a.2.1+q*b.2.1∧qaS (qey p q a.1 b.1) (p*a.2.1+q*b.2.1) s:=by
 obtain ⟨h1,h2⟩:=qCB hp hq (qgR ha) (qgR hb)
 have h4:=(qbb ha).1
 have hm:=qYp (p:=p) (q:=q) hl
 exact ⟨h1,⟨by have:(qey p q a.1 b.1).length≤1048576:=by omega
               exact this,h2,zvY hp hq (qlz ha) (qlz hb)⟩⟩
theorem zos (a:Val qa) (p:Int) (b:Val qa) (q:Int): ∃N,qBH N a p b q=some ((qat a p b q).1,(qat a p b q).2,()):=⟨List.length (α:=Int) a.1+1,by
 rw [qBH]
 unfold qat
 cases ha:qP a with
 | false=>rfl
 | true=>
 cases hb:qP b with
 | false=>rfl
 | true=>
 by_cases hl:List.length (α:=Int) a.1=List.length (α:=Int) b.1
 ·have hlI:((List.length (α:=Val (.int .i64)) a.1:Int)=(List.length (α:=Val (.int .i64)) b.1:Int)):=congrArg Int.ofNat hl
  by_cases hp:0≤p∧p≤400000000
  ·by_cases hq:0≤q∧q≤400000000
   ·rw [qe0 hp,qe0 hq,decide_eq_true hl,decide_eq_true hlI,qi (show ¬p<0 by omega),qi (show ¬400000000<p by omega),qi (show ¬q<0 by omega),qi (show ¬400000000<q by omega)]
    simp only [Bool.not_true,cond_false,cond_true,Bool.and_self]
    have h4:=(qbb ha).1
    rw [qe (qik (by omega)),Int.toNat_natCast,List.length_replicate,zsz _ p q hp hq a.1 b.1 _ _ _ _ _ _ _ (by omega) hl (qlz ha) (qlz hb) _ (Nat.lt_succ_self _)]
    have hw:=fun s=>za4 hp hq ha hb hl s
    rw [(hw true).1,qe (hw true).2,qe (hw false).2,qe (hw _).2]
    have ep:(!decide (p=0))=decide (0<p):=by by_cases h:p=0<;>simp [h]<;>omega
    have eq':(!decide (q=0))=decide (0<q):=by by_cases h:q=0<;>simp [h]<;>omega
    rw [ep,eq']
    cases a.2.2<;>cases b.2.2<;>cases decide (0<p)<;>cases decide (0<q)<;>rfl
   ·rw [qfl hq,decide_eq_true hlI,qi (show ¬p<0 by omega),qi (show ¬400000000<p by omega)]
    simp only [Bool.not_true,cond_false,Bool.and_false]
    by_cases hq0:q<0
    ·rw [qj hq0]
    ·rw [qi hq0,qj (show 400000000<q by omega)]
  ·rw [qfl hp,decide_eq_true hlI]
   simp only [Bool.not_true,cond_false,Bool.and_false,Bool.false_and]
   by_cases hp0:p<0
   ·rw [qj hp0]
   ·rw [qi hp0,qj (show 400000000<p by omega)]
 ·have hlI: ¬((List.length (α:=Val (.int .i64)) a.1:Int)=(List.length (α:=Val (.int .i64)) b.1:Int)):=fun h=>hl (Int.ofNat.inj h)
  rw [decide_eq_false hl,decide_eq_false hlI]
  rfl⟩
theorem zzm:Sound Tryz.prog 293 qfY:=qr (tt:=tt) (Γ:=qlC) hT (qg q7o (qg qnv qn)) hm (fn:=Tryz.f293) Tryz.func293 (c:=Tryz.f293.body.getD .skip) (by kernel_rfl) (by kernel_rfl) fun x hx=>by
 obtain ⟨N,h⟩:=zos x.1 x.2.1 x.2.2.1 x.2.2.2.1
 exact ⟨qdq N,zug,qu _,zvC N,(znw N x.1 x.2.1 x.2.2.1 x.2.2.2.1).trans h⟩
theorem znN (a:Val qa) (p:Int) (b:Val qa) (q:Int) (h:qEA a p b q): ∃N,qB9 N a p b q=some ((qat a p b q).1,(qat a p b q).2,()):=⟨List.length (α:=Int) a.1+1,by
 rw [qB9]
 unfold qat
 cases ha:qP a with
 | false=>rfl
 | true=>
 cases hb:qP b with
 | false=>rfl
 | true=>
 by_cases hl:List.length (α:=Int) a.1=List.length (α:=Int) b.1
 ·have hlI:((List.length (α:=Val (.int .i64)) a.1:Int)=(List.length (α:=Val (.int .i64)) b.1:Int)):=congrArg Int.ofNat hl
  by_cases hp:0≤p∧p≤400000000
  ·by_cases hq:0≤q∧q≤400000000
   ·rw [qe0 hp,qe0 hq,decide_eq_true hl,decide_eq_true hlI]
    simp only [Bool.not_true,cond_false,cond_true,Bool.and_self]
    have h4:=(qbb ha).1
    rw [zis _ p q hp hq a.1 b.1 _ _ _ _ _ _ _ (by omega) hl (qlz ha) (qlz hb) _ (Nat.lt_succ_self _)]
    have hw:=fun s=>za4 hp hq ha hb hl s
    rw [(hw true).1,qe (hw true).2,qe (hw false).2,qe (hw _).2]
    cases a.2.2<;>cases b.2.2<;>cases decide (0<p)<;>cases decide (0<q)<;>rfl
   ·rw [qfl hq,qe0 hp,decide_eq_true hlI]
    simp only [Bool.not_true,Bool.not_false,cond_false,cond_true,Bool.and_false]
  ·rw [qfl hp,decide_eq_true hlI]
   simp only [Bool.not_true,Bool.not_false,cond_false,cond_true,Bool.and_false,Bool.false_and]
 ·have hlI: ¬((List.length (α:=Val (.int .i64)) a.1:Int)=(List.length (α:=Val (.int .i64)) b.1:Int)):=fun h=>hl (Int.ofNat.inj h)
  rw [decide_eq_false hl,decide_eq_false hlI]
  rfl⟩
theorem zf0:Sound Tryz.prog 235 qfi:=qr (tt:=tt) (Γ:=qi8) hT (qg qgN (qg q9t (qg qrx qn))) hm (fn:=Tryz.f235) Tryz.func235 (c:=Tryz.f235.body.getD .skip) (by kernel_rfl) (by kernel_rfl) fun x hx=>by
 obtain ⟨N,h⟩:=znN x.1 x.2.1 x.2.2.1 x.2.2.2.1 hx
 exact ⟨qdp N,zo4,qu _,zmP N,(zp0 N x.1 x.2.1 x.2.2.1 x.2.2.2.1).trans h⟩
end Go.T
