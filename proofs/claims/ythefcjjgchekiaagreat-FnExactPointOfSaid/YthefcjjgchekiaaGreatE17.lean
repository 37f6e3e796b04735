/- Variables that are fixed. Run. -/
import Derived.Test.YthefcjjgchekiaaGreatE13
import Derived.Test.YthefcjjgchekiaaGreatB10a
set_option linter.unusedSimpArgs false
set_option linter.unusedVariables false
namespace Go.T
open Go Go.Proofs
set_option maxHeartbeats 4000000
set_option maxRecDepth 100000
abbrev q5k:Val qa×Bool:=(([],((0:Int),false)),false)
def qbY (co:List (Val (.int .i64))) (v:Nat) (e:Int):List (Val (.int .i64)):=(List.map (α:=Int) (fun x=>x*e) co).set v (0:Int)
def qak (a:Val qa) (v:Int) (r:Val Y28):Val qa×Bool:=bif qG a&&qi r&&decide (0≤v∧v<(List.length (α:=Int) a.1:Int))then qh (qbY a.1 v.toNat r.2) ((a.2.1:Int)*r.2+(List.getD (α:=Int) a.1 v.toNat 0)*r.1) a.2.2 else q5k
def qBE (a:Val qa) (_:Int) (_:Val Y28):Prop:=qbu a
def qfh:G:={ps:=[qr,i3,i28],rs:=[qr,i4],dp:=true,pre:=fun _=>True,fn:=fun x=>((qak x.1 x.2.1 x.2.2.1).1,(qak x.1 x.2.1 x.2.2.1).2,())}
noncomputable def qiX (N:Nat) (v3:Int) (v4:Int) (v6:List (Val (.int .i64))) (v7:Int) (v8:Bool) (v9:Int) (v10:Int) (v11:Int) (v12:Bool) (k0:(List (Val (.int .i64)))→Option (qc [qr,i4])):Nat→Int→(List (Val (.int .i64)))→Option (qc [qr,i4])
 | 0,_,_=>none
 | n+1,v5,v13=>bif (decide (v5<v4))then (chk (0≤v5∧v5<(v6.length:Int)) (chk (0≤v5∧v5<(v13.length:Int)) (chk (v5.toNat<v13.length) (qiX N v3 v4 v6 v7 v8 v9 v10 v11 v12 k0 n (IntKind.i64.wrap (v5+(1:Int))) (v13.set v5.toNat (IntKind.i64.wrap (((v6.getD v5.toNat (qb (.int .i64))):Int)*v10)))))))else (k0 v13)
noncomputable def qxM (N:Nat) (v0:Val qa) (v1:Int) (v2:Val Y28):Option (qc [qr,i4]):=bif (!((qG v0):Bool))then (some ((([]:List (Val (.int .i64))),(0:Int),false),false,()))else (bif (!((qi v2):Bool))then (some ((([]:List (Val (.int .i64))),(0:Int),false),false,()))else (bif (decide (v1<(0:Int)))then (some ((([]:List (Val (.int .i64))),(0:Int),false),false,()))else (bif (decide (((v0.1:List (Val (.int .i64))).length:Int)≤v1))then (some ((([]:List (Val (.int .i64))),(0:Int),false),false,()))else (chk (0≤((v0.1:List (Val (.int .i64))).length:Int)∧((v0.1:List (Val (.int .i64))).length:Int)≤((v0.1:List (Val (.int .i64))).length:Int)∧((v0.1:List (Val (.int .i64))).length:Int)≤1048576) (qiX N v1 ((List.replicate ((v0.1:List (Val (.int .i64))).length:Int).toNat (qb (.int .i64))).length:Int) (v0.1:List (Val (.int .i64))) (v0.2.1:Int) (v0.2.2:Bool) (v2.1:Int) (v2.2:Int) (0:Int) false (fun (v15:List (Val (.int .i64)))=>chk (0≤v1∧v1<(v15.length:Int)) (chk (v1.toNat<v15.length) (chk (0≤v1∧v1<((v0.1:List (Val (.int .i64))).length:Int)) (chk (qap (v15.set v1.toNat (0:Int)) (IntKind.i64.wrap ((IntKind.i64.wrap ((v0.2.1:Int)*(v2.2:Int)))+(IntKind.i64.wrap ((((v0.1:List (Val (.int .i64))).getD v1.toNat (qb (.int .i64))):Int)*(v2.1:Int))))) (v0.2.2:Bool)) (some (((((qh (v15.set v1.toNat (0:Int)) (IntKind.i64.wrap ((IntKind.i64.wrap ((v0.2.1:Int)*(v2.2:Int)))+(IntKind.i64.wrap ((((v0.1:List (Val (.int .i64))).getD v1.toNat (qb (.int .i64))):Int)*(v2.1:Int))))) (v0.2.2:Bool)).1).1:List (Val (.int .i64))),((((qh (v15.set v1.toNat (0:Int)) (IntKind.i64.wrap ((IntKind.i64.wrap ((v0.2.1:Int)*(v2.2:Int)))+(IntKind.i64.wrap ((((v0.1:List (Val (.int .i64))).getD v1.toNat (qb (.int .i64))):Int)*(v2.1:Int))))) (v0.2.2:Bool)).1).2).1:Int),((((qh (v15.set v1.toNat (0:Int)) (IntKind.i64.wrap ((IntKind.i64.wrap ((v0.2.1:Int)*(v2.2:Int)))+(IntKind.i64.wrap ((((v0.1:List (Val (.int .i64))).getD v1.toNat (qb (.int .i64))):Int)*(v2.1:Int))))) (v0.2.2:Bool)).1).2).2:Bool)),((qh (v15.set v1.toNat (0:Int)) (IntKind.i64.wrap ((IntKind.i64.wrap ((v0.2.1:Int)*(v2.2:Int)))+(IntKind.i64.wrap ((((v0.1:List (Val (.int .i64))).getD v1.toNat (qb (.int .i64))):Int)*(v2.1:Int))))) (v0.2.2:Bool)).2:Bool),())))))) N (0:Int) (List.replicate ((v0.1:List (Val (.int .i64))).length:Int).toNat (qb (.int .i64))))))))
def qi6:Gam:=[(114,qau),(207,qbT),(279,qa6)]
theorem qUt:Gam.get qi6 114=some qau:=rfl
theorem qKc:Gam.get qi6 207=some qbT:=rfl
theorem qIm:Gam.get qi6 279=some qa6:=rfl
def qts:Nm:=⟨[false,true,false,true,false,true,true,false,true,false,false,false,false,false,false,false,false,false,false,false,false,false,false,false,false,false,false,false,false,false,false,false,false,false,false,true,true],[],false⟩
theorem qXW:qts.zero=false:=rfl
theorem qUs:qts.fix=[]:=rfl
theorem qG4:qts.keep=[false,true,false,true,false,true,true,false,true,false,false,false,false,false,false,false,false,false,false,false,false,false,false,false,false,false,false,false,false,false,false,false,false,false,false,true,true]:=rfl
def qBC:Nm:=⟨[false,true,false,true,false,true,true,false,true],[],false⟩
theorem qVw:qBC.zero=false:=rfl
theorem qQq:qBC.fix=[]:=rfl
theorem qML:qBC.keep=[false,true,false,true,false,true,true,false,true]:=rfl
def qpb:Nat→Tree:=fun i=>if i=7 then .quiet 0 (.quiet 1 (.quiet 2 (.quiet 3 (.quiet 4 (.quiet 5 (.quiet 6 (.quiet 7 (.quiet 8 (.quiet 9 (.quiet 10 (.alt 11 .done .stop)))))))))))else if i=10 then .quiet 0 (.quiet 1 (.quiet 2 (.quiet 3 (.quiet 4 (.quiet 5 (.quiet 6 (.quiet 7 (.quiet 8 (.quiet 9 (.quiet 10 (.quiet 11 (.quiet 12 (.quiet 13 (.quiet 14 (.quiet 15 (.quiet 16 (.alt 17 (.quiet 18 (.quiet 19 (.alt 20 (.quiet 21 .done) .stop))) .stop)))))))))))))))))else .done
def qu6:Nat→Nm:=fun i=>if i=5 then qts else ⟨[],[],false⟩
def qty:Nat→Option Jn:=fun _=>none
def quu:Nat→Option Nm:=fun i=>if i=0 then some qBC else none
def qq3:Nat→Option Nm:=fun _=>none
theorem zl7:qn qpb (Tryz.f226.body.getD .skip)=true:=by kernel_rfl
def qdB (N:Nat):Tab:={tr:=qpb,lp:=qu6,ex:=quu,rg:=qq3,jn:=qty,fuel:=N}
theorem qF0 (N:Nat):(qdB N).pins=false:=rfl
theorem ziJ (N:Nat):qp Tryz.prog (qdB N):=qv fun _=>rfl
theorem qUb (N:Nat) (i:Nat):(qdB N).tr i=qpb i:=rfl
theorem qFu (N:Nat) (i:Nat):(qdB N).lp i=qu6 i:=rfl
theorem qT4 (N:Nat) (i:Nat):(qdB N).ex i=quu i:=rfl
theorem qGt (N:Nat) (i:Nat):(qdB N).rg i=qq3 i:=rfl
theorem qN0 (N:Nat) (i:Nat):(qdB N).jn i=qty i:=rfl
theorem qKG (N:Nat):(qdB N).fuel=N:=rfl
noncomputable def qYY:Code:=cut [true,true,true,false,true,true,true] (Tryz.f226.body.getD .skip)
theorem zeC {N:Nat} {Q:X→St→Option (qc [qr,i4])} {e:List LV} {h:List Blk}:qe tt qi6 (qdB N) qYY Q ⟨e,h⟩=qe tt qi6 (qdB N) (cut [true,true,true,false,true,true,true] (Tryz.f226.body.getD .skip)) Q ⟨e,h⟩:=rfl
theorem q9O (N:Nat) (v3:Int) (v4:Int) (v6:List (Val (.int .i64))) (v7:Int) (v8:Bool) (v9:Int) (v10:Int) (v11:Int) (v12:Bool) {k0:(List (Val (.int .i64)))→Option (qc [qr,i4])} {Q:X→St→Option (qc [qr,i4])} {c:Code} (hc:c=qYY) (hret: ∀st,Q .ret st=qI tt true [qr,i4] [.cell 6 108,.tmp 7] st) (h0: ∀(v14:List (Val (.int .i64))),Q (.exit 0) ⟨[u,.one (.int .i64 v3),u,.one (.ptr 0 0 0),u,.one (.ptr 1 0 0),.one (.ptr 2 0 0),u,.one (.own 3),u,u,u,u,u,u,u,u,u,u,u,u,u,u,u,u,u,u,u,u,u,u,u,u,u,u,u,u,u,u,u,u,u,u,u,u,u,u,u,u,u,u,u,u,u,u,u,u,u,u,u,u,u,u,u,u,u,u,u,u,u,u,u,u,u],[.box [.sl 3 (.int .i64) v6 4,.int .i64 v7,.bool v8],.box [.int .i64 v9,.int .i64 v10],.box [.nils,.int .i64 v11,.bool v12],.row 3 (.int .i64) v14 true true 0]⟩=k0 v14): ∀(n:Nat) (v5:Int) (v13:List (Val (.int .i64))),qE (qe tt qi6 (qdB N) c) false qts Q n ⟨[u,.one (.int .i64 v3),u,.one (.ptr 0 0 0),u,.one (.ptr 1 0 0),.one (.ptr 2 0 0),u,.one (.own 3),u,u,u,u,u,u,u,u,u,u,u,u,u,u,u,u,u,u,u,u,u,u,u,u,u,u,.one (.int .i64 v4),.one (.int .i64 v5),u,u,u,u,u,u,u,u,u,u,u,u,u,u,u,u,u,u,u,u,u,u,u,u,u,u,u,u,u,u,u,u,u,u,u,u,u],[.box [.sl 3 (.int .i64) v6 4,.int .i64 v7,.bool v8],.box [.int .i64 v9,.int .i64 v10],.box [.nils,.int .i64 v11,.bool v12],.row 3 (.int .i64) v13 true true 0]⟩=qiX N v3 v4 v6 v7 v8 v9 v10 v11 v12 k0 n v5 v13:=by
 subst hc;intro n;induction n with
 | zero=>intros;rfl
 | succ n ih=>
   intro v5 v13
   rw [qN,zeC,qiX];unfold Tryz.f226
   simp (maxSteps:=10000000) -implicitDefEqProofs [qUb,qpb,qFu,qu6,qT4,quu,qGt,qq3,qN0,qty,qKG,qF0,qUs,qG4,qXW,qQq,qML,qVw,qUt,qKc,qIm,qau,qbT,qa6,hret,h0,ih]
theorem zgi (N:Nat) (v0:Val qa) (v1:Int) (v2:Val Y28):qe tt qi6 (qdB N) (Tryz.f226.body.getD .skip) (qt tt true [qr,i4] [.cell 6 108,.tmp 7]) (qw [qr,i3,i28] 74 (v0,v1,v2,()))=qxM N v0 v1 v2:=by
 unfold Tryz.f226
 simp (maxSteps:=10000000) -implicitDefEqProofs [qUb,qpb,qFu,qu6,qT4,quu,qGt,qq3,qN0,qty,qKG,qF0,qUs,qG4,qXW,qQq,qML,qVw,qUt,qKc,qIm,qau,qbT,qa6]
 rewrite [q9O (k0:=(fun (v15:List (Val (.int .i64)))=>chk (0≤v1∧v1<(v15.length:Int)) (chk (v1.toNat<v15.length) (chk (0≤v1∧v1<((v0.1:List (Val (.int .i64))).length:Int)) (chk (qap (v15.set v1.toNat (0:Int)) (IntKind.i64.wrap ((IntKind.i64.wrap ((v0.2.1:Int)*(v2.2:Int)))+(IntKind.i64.wrap ((((v0.1:List (Val (.int .i64))).getD v1.toNat (qb (.int .i64))):Int)*(v2.1:Int))))) (v0.2.2:Bool)) (some (((((qh (v15.set v1.toNat (0:Int)) (IntKind.i64.wrap ((IntKind.i64.wrap ((v0.2.1:Int)*(v2.2:Int)))+(IntKind.i64.wrap ((((v0.1:List (Val (.int .i64))).getD v1.toNat (qb (.int .i64))):Int)*(v2.1:Int))))) (v0.2.2:Bool)).1).1:List (Val (.int .i64))),((((qh (v15.set v1.toNat (0:Int)) (IntKind.i64.wrap ((IntKind.i64.wrap ((v0.2.1:Int)*(v2.2:Int)))+(IntKind.i64.wrap ((((v0.1:List (Val (.int .i64))).getD v1.toNat (qb (.int .i64))):Int)*(v2.1:Int))))) (v0.2.2:Bool)).1).2).1:Int),((((qh (v15.set v1.toNat (0:Int)) (IntKind.i64.wrap ((IntKind.i64.wrap ((v0.2.1:Int)*(v2.2:Int)))+(IntKind.i64.wrap ((((v0.1:List (Val (.int .i64))).getD v1.toNat (qb (.int .i64))):Int)*(v2.1:Int))))) (v0.2.2:Bool)).1).2).2:Bool)),((qh (v15.set v1.toNat (0:Int)) (IntKind.i64.wrap ((IntKind.i64.wrap ((v0.2.1:Int)*(v2.2:Int)))+(IntKind.i64.wrap ((((v0.1:List (Val (.int .i64))).getD v1.toNat (qb (.int .i64))):Int)*(v2.1:Int))))) (v0.2.2:Bool)).2:Bool),()))))))) N _ _ _ _ _ _ _ _ _ ?_ ?_ ?_]
 ·rewrite [qxM];first | rfl | simp (maxSteps:=10000000) -implicitDefEqProofs []
 ·rfl
 ·intro;simp only [qJ,qL,qK,qB]
 ·intro v15;simp (maxSteps:=10000000) -implicitDefEqProofs [qUb,qpb,qFu,qu6,qT4,quu,qGt,qq3,qN0,qty,qKG,qF0,qUs,qG4,qXW,qQq,qML,qVw,qUt,qKc,qIm,qau,qbT,qa6]
def qd9:G:={ps:=[qr,i3,i28],rs:=[qr,i4],dp:=true,pre:=fun x=>qBE x.1 x.2.1 x.2.2.1,fn:=fun x=>((qak x.1 x.2.1 x.2.2.1).1,(qak x.1 x.2.1 x.2.2.1).2,())}
noncomputable def qjb (N:Nat) (v3:Int) (v5:List (Val (.int .i64))) (v6:Int) (v7:Bool) (v8:Int) (v9:Int) (v10:Int) (v11:Bool) (k0:(List (Val (.int .i64)))→Option (qc [qr,i4])):Nat→Int→(List (Val (.int .i64)))→Option (qc [qr,i4])
 | 0,_,_=>none
 | n+1,v4,v12=>bif (decide (v4<(v5.length:Int)))then (bif (decide (v4=v3))then (chk (v12.length+([(0:Int)]:List (Val (.int .i64))).length≤1048576) (qjb N v3 v5 v6 v7 v8 v9 v10 v11 k0 n (IntKind.i64.wrap (v4+(1:Int))) (v12++([(0:Int)]:List (Val (.int .i64))))))else (chk (0≤v4∧v4<(v5.length:Int)) (chk (v12.length+([(IntKind.i64.wrap (((v5.getD v4.toNat (qb (.int .i64))):Int)*v9))]:List (Val (.int .i64))).length≤1048576) (qjb N v3 v5 v6 v7 v8 v9 v10 v11 k0 n (IntKind.i64.wrap (v4+(1:Int))) (v12++([(IntKind.i64.wrap (((v5.getD v4.toNat (qb (.int .i64))):Int)*v9))]:List (Val (.int .i64))))))))else (k0 v12)
noncomputable def qxO (N:Nat) (v0:Val qa) (v1:Int) (v2:Val Y28):Option (qc [qr,i4]):=bif (!((qG v0):Bool))then (some ((([]:List (Val (.int .i64))),(0:Int),false),false,()))else (bif (!((qi v2):Bool))then (some ((([]:List (Val (.int .i64))),(0:Int),false),false,()))else (bif (!((inR v1 (0:Int) (IntKind.i64.wrap (((v0.1:List (Val (.int .i64))).length:Int) - (1:Int)))):Bool))then (some ((([]:List (Val (.int .i64))),(0:Int),false),false,()))else (qjb N v1 (v0.1:List (Val (.int .i64))) (v0.2.1:Int) (v0.2.2:Bool) (v2.1:Int) (v2.2:Int) (0:Int) false (fun (v14:List (Val (.int .i64)))=>chk (0≤v1∧v1<((v0.1:List (Val (.int .i64))).length:Int)) (chk (qap v14 (IntKind.i64.wrap ((IntKind.i64.wrap ((v0.2.1:Int)*(v2.2:Int)))+(IntKind.i64.wrap ((((v0.1:List (Val (.int .i64))).getD v1.toNat (qb (.int .i64))):Int)*(v2.1:Int))))) (v0.2.2:Bool)) (some (((((qh v14 (IntKind.i64.wrap ((IntKind.i64.wrap ((v0.2.1:Int)*(v2.2:Int)))+(IntKind.i64.wrap ((((v0.1:List (Val (.int .i64))).getD v1.toNat (qb (.int .i64))):Int)*(v2.1:Int))))) (v0.2.2:Bool)).1).1:List (Val (.int .i64))),((((qh v14 (IntKind.i64.wrap ((IntKind.i64.wrap ((v0.2.1:Int)*(v2.2:Int)))+(IntKind.i64.wrap ((((v0.1:List (Val (.int .i64))).getD v1.toNat (qb (.int .i64))):Int)*(v2.1:Int))))) (v0.2.2:Bool)).1).2).1:Int),((((qh v14 (IntKind.i64.wrap ((IntKind.i64.wrap ((v0.2.1:Int)*(v2.2:Int)))+(IntKind.i64.wrap ((((v0.1:List (Val (.int .i64))).getD v1.toNat (qb (.int .i64))):Int)*(v2.1:Int))))) (v0.2.2:Bool)).1).2).2:Bool)),((qh v14 (IntKind.i64.wrap ((IntKind.i64.wrap ((v0.2.1:Int)*(v2.2:Int)))+(IntKind.i64.wrap ((((v0.1:List (Val (.int .i64))).getD v1.toNat (qb (.int .i64))):Int)*(v2.1:Int))))) (v0.2.2:Bool)).2:Bool),())))) N (0:Int) ([]:List (Val (.int .i64))))))
def qgK:Gam:=[(109,qar),(118,qam),(149,qbt),(193,qbs)]
theorem qSm:Gam.get qgK 109=some qar:=rfl
theorem qO1:Gam.get qgK 118=some qam:=rfl
theorem qL0:Gam.get qgK 149=some qbt:=rfl
theorem qUi:Gam.get qgK 193=some qbs:=rfl
def qqK:Nm:=⟨[false,true,false,true,false,true,true,false,true,true],[],false⟩
theorem qTx:qqK.zero=false:=rfl
theorem qQI:qqK.fix=[]:=rfl
theorem qOu:qqK.keep=[false,true,false,true,false,true,true,false,true,true]:=rfl
def qy0:Nm:=⟨[false,true,false,true,false,true,true,false,true],[],false⟩
theorem qTU:qy0.zero=false:=rfl
theorem qRA:qy0.fix=[]:=rfl
theorem qKK:qy0.keep=[false,true,false,true,false,true,true,false,true]:=rfl
def qEU:Nm:=⟨[false,false,false,false,false,false,true,false,false,false,true,true],[],false⟩
theorem qWC:qEU.zero=false:=rfl
theorem qNu:qEU.fix=[]:=rfl
theorem qLC:qEU.keep=[false,false,false,false,false,false,true,false,false,false,true,true]:=rfl
def qph:Nat→Tree:=fun i=>if i=9 then .quiet 1 (.quiet 2 (.quiet 3 (.quiet 4 (.quiet 5 (.quiet 6 (.quiet 7 (.quiet 8 (.first 0 (.alt 9 (.alt 10 (.quiet 11 .done) .stop) .stop)))))))))else if i=10 then .first 0 (.first 8 (.grow 1 (.grow 2 (.grow 3 (.grow 4 (.first 5 (.grow 6 (.grow 7 (.grow 9 (.grow 10 (.grow 11 (.grow 12 (.first 13 (.first 14 (.grow 15 (.grow 16 (.alt 17 (.first 18 (.first 19 (.first 20 (.alt 21 (.alt 22 (.quiet 23 .done) .stop) .stop)))) (.alt 21 (.alt 17 (.quiet 18 (.quiet 19 (.first 20 (.alt 22 (.quiet 23 .done) .stop)))) .stop) .stop))))))))))))))))))else .done
def qr7:Nat→Nm:=fun i=>if i=5 then qqK else ⟨[],[],false⟩
def qtn:Nat→Option Jn:=fun _=>none
def qsA:Nat→Option Nm:=fun i=>if i=0 then some qy0 else none
def qrH:Nat→Option Nm:=fun i=>if i=10 then some qEU else none
theorem zkK:qn qph (Tryz.f223.body.getD .skip)=true:=by kernel_rfl
def qdp (N:Nat):Tab:={tr:=qph,lp:=qr7,ex:=qsA,rg:=qrH,jn:=qtn,fuel:=N}
theorem qKb (N:Nat):(qdp N).pins=false:=rfl
theorem zbE (N:Nat):qp Tryz.prog (qdp N):=qv fun _=>rfl
theorem qN8 (N:Nat) (i:Nat):(qdp N).tr i=qph i:=rfl
theorem qUo (N:Nat) (i:Nat):(qdp N).lp i=qr7 i:=rfl
theorem qNx (N:Nat) (i:Nat):(qdp N).ex i=qsA i:=rfl
theorem qXn (N:Nat) (i:Nat):(qdp N).rg i=qrH i:=rfl
theorem qJW (N:Nat) (i:Nat):(qdp N).jn i=qtn i:=rfl
theorem qN3 (N:Nat):(qdp N).fuel=N:=rfl
noncomputable def qYk:Code:=cut [true,true,true,false,true,true,true] (Tryz.f223.body.getD .skip)
theorem q9p {N:Nat} {Q:X→St→Option (qc [qr,i4])} {e:List LV} {h:List Blk}:qe tt qgK (qdp N) qYk Q ⟨e,h⟩=qe tt qgK (qdp N) (cut [true,true,true,false,true,true,true] (Tryz.f223.body.getD .skip)) Q ⟨e,h⟩:=rfl
theorem q4B (N:Nat) (v3:Int) (v5:List (Val (.int .i64))) (v6:Int) (v7:Bool) (v8:Int) (v9:Int) (v10:Int) (v11:Bool) {k0:(List (Val (.int .i64)))→Option (qc [qr,i4])} {Q:X→St→Option (qc [qr,i4])} {c:Code} (hc:c=qYk) (hret: ∀st,Q .ret st=qI tt true [qr,i4] [.cell 6 108,.tmp 7] st) (h0: ∀(v13:List (Val (.int .i64))),Q (.exit 0) ⟨[u,.one (.int .i64 v3),u,.one (.ptr 0 0 0),u,.one (.ptr 1 0 0),.one (.ptr 2 0 0),u,.one (.own 3),u,u,u,u,u,u,u,u,u,u,u,u,u,u,u,u,u,u,u,u,u,u,u,u,u,u,u,u,u,u,u,u,u,u,u,u,u,u,u,u,u,u,u,u,u,u,u,u,u,u,u,u,u,u,u,u,u,u,u,u,u,u,u,u,u,u,u,u,u],[.box [.sl 3 (.int .i64) v5 4,.int .i64 v6,.bool v7],.box [.int .i64 v8,.int .i64 v9],.box [.nils,.int .i64 v10,.bool v11],.row 3 (.int .i64) v13 true true 0]⟩=k0 v13): ∀(n:Nat) (v4:Int) (v12:List (Val (.int .i64))),qE (qe tt qgK (qdp N) c) false qqK Q n ⟨[u,.one (.int .i64 v3),u,.one (.ptr 0 0 0),u,.one (.ptr 1 0 0),.one (.ptr 2 0 0),u,.one (.own 3),.one (.int .i64 v4),u,u,u,u,u,u,u,u,u,u,u,u,u,u,u,u,u,u,u,u,u,u,u,u,u,u,u,u,u,u,u,u,u,u,u,u,u,u,u,u,u,u,u,u,u,u,u,u,u,u,u,u,u,u,u,u,u,u,u,u,u,u,u,u,u,u,u,u],[.box [.sl 3 (.int .i64) v5 4,.int .i64 v6,.bool v7],.box [.int .i64 v8,.int .i64 v9],.box [.nils,.int .i64 v10,.bool v11],.row 3 (.int .i64) v12 true true 0]⟩=qjb N v3 v5 v6 v7 v8 v9 v10 v11 k0 n v4 v12:=by
 subst hc;intro n;induction n with
 | zero=>intros;rfl
 | succ n ih=>
   intro v4 v12
   rw [qN,q9p,qjb];unfold Tryz.f223
   simp (maxSteps:=10000000) -implicitDefEqProofs [qN8,qph,qUo,qr7,qNx,qsA,qXn,qrH,qJW,qtn,qN3,qKb,qQI,qOu,qTx,qRA,qKK,qTU,qNu,qLC,qWC,qSm,qO1,qL0,qUi,qar,qam,qbt,qbs,hret,h0,ih]
theorem zqN (N:Nat) (v0:Val qa) (v1:Int) (v2:Val Y28):qe tt qgK (qdp N) (Tryz.f223.body.getD .skip) (qt tt true [qr,i4] [.cell 6 108,.tmp 7]) (qw [qr,i3,i28] 78 (v0,v1,v2,()))=qxO N v0 v1 v2:=by
 unfold Tryz.f223
 simp (maxSteps:=10000000) -implicitDefEqProofs [qN8,qph,qUo,qr7,qNx,qsA,qXn,qrH,qJW,qtn,qN3,qKb,qQI,qOu,qTx,qRA,qKK,qTU,qNu,qLC,qWC,qSm,qO1,qL0,qUi,qar,qam,qbt,qbs]
 rewrite [q4B (k0:=(fun (v14:List (Val (.int .i64)))=>chk (0≤v1∧v1<((v0.1:List (Val (.int .i64))).length:Int)) (chk (qap v14 (IntKind.i64.wrap ((IntKind.i64.wrap ((v0.2.1:Int)*(v2.2:Int)))+(IntKind.i64.wrap ((((v0.1:List (Val (.int .i64))).getD v1.toNat (qb (.int .i64))):Int)*(v2.1:Int))))) (v0.2.2:Bool)) (some (((((qh v14 (IntKind.i64.wrap ((IntKind.i64.wrap ((v0.2.1:Int)*(v2.2:Int)))+(IntKind.i64.wrap ((((v0.1:List (Val (.int .i64))).getD v1.toNat (qb (.int .i64))):Int)*(v2.1:Int))))) (v0.2.2:Bool)).1).1:List (Val (.int .i64))),((((qh v14 (IntKind.i64.wrap ((IntKind.i64.wrap ((v0.2.1:Int)*(v2.2:Int)))+(IntKind.i64.wrap ((((v0.1:List (Val (.int .i64))).getD v1.toNat (qb (.int .i64))):Int)*(v2.1:Int))))) (v0.2.2:Bool)).1).2).1:Int),((((qh v14 (IntKind.i64.wrap ((IntKind.i64.wrap ((v0.2.1:Int)*(v2.2:Int)))+(IntKind.i64.wrap ((((v0.1:List (Val (.int .i64))).getD v1.toNat (qb (.int .i64))):Int)*(v2.1:Int))))) (v0.2.2:Bool)).1).2).2:Bool)),((qh v14 (IntKind.i64.wrap ((IntKind.i64.wrap ((v0.2.1:Int)*(v2.2:Int)))+(IntKind.i64.wrap ((((v0.1:List (Val (.int .i64))).getD v1.toNat (qb (.int .i64))):Int)*(v2.1:Int))))) (v0.2.2:Bool)).2:Bool),()))))) N _ _ _ _ _ _ _ _ ?_ ?_ ?_]
 ·rewrite [qxO];first | rfl | simp (maxSteps:=10000000) -implicitDefEqProofs []
 ·rfl
 ·intro;simp only [qJ,qL,qK,qB]
 ·intro v14;simp (maxSteps:=10000000) -implicitDefEqProofs [qN8,qph,qUo,qr7,qNx,qsA,qXn,qrH,qJW,qtn,qN3,qKb,qQI,qOu,qTx,qRA,qKK,qTU,qNu,qLC,qWC,qSm,qO1,qL0,qUi,qar,qam,qbt,qbs]
end Go.T
