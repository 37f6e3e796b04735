/- Variables that are fixed. Run. -/
import Derived.Test.YthefcjjgchekiaaGreatE16
import Derived.Test.YthefcjjgchekiaaGreatB10a
set_option linter.unusedSimpArgs false
set_option linter.unusedVariables false
namespace Go.T
open Go Go.Proofs
set_option maxHeartbeats 4000000
set_option maxRecDepth 100000
abbrev zin:Val qa×Bool:=(([],((0:Int),false)),false)
def qcG (co:List (Val (.int .i64))) (v:Nat) (e:Int):List (Val (.int .i64)):=(List.map (α:=Int) (fun x=>x*e) co).set v (0:Int)
def qav (a:Val qa) (v:Int) (r:Val Y28):Val qa×Bool:=bif qP a&&qE r&&decide (0≤v∧v<(List.length (α:=Int) a.1:Int))then qw (qcG a.1 v.toNat r.2) ((a.2.1:Int)*r.2+(List.getD (α:=Int) a.1 v.toNat 0)*r.1) a.2.2 else zin
def qzn (a:Val qa) (_:Int) (_:Val Y28):Prop:=qbF a
def qnL:G:={ps:=[ql,i3,i28],rs:=[ql,i4],dp:=true,pre:=fun _=>True,fn:=fun x=>((qav x.1 x.2.1 x.2.2.1).1,(qav x.1 x.2.1 x.2.2.1).2,())}
noncomputable def qiQ (N:Nat) (v3:Int) (v4:Int) (v6:List (Val (.int .i64))) (v7:Int) (v8:Bool) (v9:Int) (v10:Int) (v11:Int) (v12:Bool) (k0:(List (Val (.int .i64)))→Option (qc [ql,i4])):Nat→Int→(List (Val (.int .i64)))→Option (qc [ql,i4])
 | 0,_,_=>none
 | n+1,v5,v13=>bif (decide (v5<v4))then (chk (0≤v5∧v5<(v6.length:Int)) (chk (0≤v5∧v5<(v13.length:Int)) (chk (v5.toNat<v13.length) (qiQ N v3 v4 v6 v7 v8 v9 v10 v11 v12 k0 n (IntKind.i64.wrap (v5+(1:Int))) (v13.set v5.toNat (IntKind.i64.wrap (((v6.getD v5.toNat (qb (.int .i64))):Int)*v10)))))))else (k0 v13)
noncomputable def qBn (N:Nat) (v0:Val qa) (v1:Int) (v2:Val Y28):Option (qc [ql,i4]):=bif (!((qP v0):Bool))then (some ((([]:List (Val (.int .i64))),(0:Int),false),false,()))else (bif (!((qE v2):Bool))then (some ((([]:List (Val (.int .i64))),(0:Int),false),false,()))else (bif (decide (v1<(0:Int)))then (some ((([]:List (Val (.int .i64))),(0:Int),false),false,()))else (bif (decide (((v0.1:List (Val (.int .i64))).length:Int)≤v1))then (some ((([]:List (Val (.int .i64))),(0:Int),false),false,()))else (chk (0≤((v0.1:List (Val (.int .i64))).length:Int)∧((v0.1:List (Val (.int .i64))).length:Int)≤((v0.1:List (Val (.int .i64))).length:Int)∧((v0.1:List (Val (.int .i64))).length:Int)≤1048576) (qiQ N v1 ((List.replicate ((v0.1:List (Val (.int .i64))).length:Int).toNat (qb (.int .i64))).length:Int) (v0.1:List (Val (.int .i64))) (v0.2.1:Int) (v0.2.2:Bool) (v2.1:Int) (v2.2:Int) (0:Int) false (fun (v15:List (Val (.int .i64)))=>chk (0≤v1∧v1<(v15.length:Int)) (chk (v1.toNat<v15.length) (chk (0≤v1∧v1<((v0.1:List (Val (.int .i64))).length:Int)) (chk (qaS (v15.set v1.toNat (0:Int)) (IntKind.i64.wrap ((IntKind.i64.wrap ((v0.2.1:Int)*(v2.2:Int)))+(IntKind.i64.wrap ((((v0.1:List (Val (.int .i64))).getD v1.toNat (qb (.int .i64))):Int)*(v2.1:Int))))) (v0.2.2:Bool)) (some (((((qw (v15.set v1.toNat (0:Int)) (IntKind.i64.wrap ((IntKind.i64.wrap ((v0.2.1:Int)*(v2.2:Int)))+(IntKind.i64.wrap ((((v0.1:List (Val (.int .i64))).getD v1.toNat (qb (.int .i64))):Int)*(v2.1:Int))))) (v0.2.2:Bool)).1).1:List (Val (.int .i64))),((((qw (v15.set v1.toNat (0:Int)) (IntKind.i64.wrap ((IntKind.i64.wrap ((v0.2.1:Int)*(v2.2:Int)))+(IntKind.i64.wrap ((((v0.1:List (Val (.int .i64))).getD v1.toNat (qb (.int .i64))):Int)*(v2.1:Int))))) (v0.2.2:Bool)).1).2).1:Int),((((qw (v15.set v1.toNat (0:Int)) (IntKind.i64.wrap ((IntKind.i64.wrap ((v0.2.1:Int)*(v2.2:Int)))+(IntKind.i64.wrap ((((v0.1:List (Val (.int .i64))).getD v1.toNat (qb (.int .i64))):Int)*(v2.1:Int))))) (v0.2.2:Bool)).1).2).2:Bool)),((qw (v15.set v1.toNat (0:Int)) (IntKind.i64.wrap ((IntKind.i64.wrap ((v0.2.1:Int)*(v2.2:Int)))+(IntKind.i64.wrap ((((v0.1:List (Val (.int .i64))).getD v1.toNat (qb (.int .i64))):Int)*(v2.1:Int))))) (v0.2.2:Bool)).2:Bool),())))))) N (0:Int) (List.replicate ((v0.1:List (Val (.int .i64))).length:Int).toNat (qb (.int .i64))))))))
def qi2:Gam:=[(114,qaR),(207,qeN),(279,qaV)]
theorem q3x:Gam.get qi2 114=some qaR:=rfl
theorem q3u:Gam.get qi2 207=some qeN:=rfl
theorem qZt:Gam.get qi2 279=some qaV:=rfl
def qqY:Nm:=⟨[false,true,false,true,false,true,true,false,true,false,false,false,false,false,false,false,false,false,false,false,false,false,false,false,false,false,false,false,false,false,false,false,false,false,false,true,true],[],false⟩
theorem qZ1:qqY.zero=false:=rfl
theorem qZY:qqY.fix=[]:=rfl
theorem qYl:qqY.keep=[false,true,false,true,false,true,true,false,true,false,false,false,false,false,false,false,false,false,false,false,false,false,false,false,false,false,false,false,false,false,false,false,false,false,false,true,true]:=rfl
def qGT:Nm:=⟨[false,true,false,true,false,true,true,false,true],[],false⟩
theorem qLo:qGT.zero=false:=rfl
theorem qKo:qGT.fix=[]:=rfl
theorem qUd:qGT.keep=[false,true,false,true,false,true,true,false,true]:=rfl
def qor:Nat→Tree:=fun i=>if i=7 then .quiet 0 (.quiet 1 (.quiet 2 (.quiet 3 (.quiet 4 (.quiet 5 (.quiet 6 (.quiet 7 (.quiet 8 (.quiet 9 (.quiet 10 (.alt 11 .done .stop)))))))))))else if i=10 then .quiet 0 (.quiet 1 (.quiet 2 (.quiet 3 (.quiet 4 (.quiet 5 (.quiet 6 (.quiet 7 (.quiet 8 (.quiet 9 (.quiet 10 (.quiet 11 (.quiet 12 (.quiet 13 (.quiet 14 (.quiet 15 (.quiet 16 (.alt 17 (.quiet 18 (.quiet 19 (.alt 20 (.quiet 21 .done) .stop))) .stop)))))))))))))))))else .done
def qwA:Nat→Nm:=fun i=>if i=5 then qqY else ⟨[],[],false⟩
def qvA:Nat→Option Jn:=fun _=>none
def qwK:Nat→Option Nm:=fun i=>if i=0 then some qGT else none
def qyn:Nat→Option Nm:=fun _=>none
theorem ztj:qh qor (Tryz.f226.body.getD .skip)=true:=by kernel_rfl
def qeb (N:Nat):Tab:={tr:=qor,lp:=qwA,ex:=qwK,rg:=qyn,jn:=qvA,fuel:=N}
theorem qW9 (N:Nat):(qeb N).pins=false:=rfl
theorem zkv (N:Nat):qk Tryz.prog (qeb N):=qo fun _=>rfl
theorem qWz (N:Nat) (i:Nat):(qeb N).tr i=qor i:=rfl
theorem qVd (N:Nat) (i:Nat):(qeb N).lp i=qwA i:=rfl
theorem qVV (N:Nat) (i:Nat):(qeb N).ex i=qwK i:=rfl
theorem qP7 (N:Nat) (i:Nat):(qeb N).rg i=qyn i:=rfl
theorem q3l (N:Nat) (i:Nat):(qeb N).jn i=qvA i:=rfl
theorem qTv (N:Nat):(qeb N).fuel=N:=rfl
noncomputable def q85:Code:=cut [true,true,true,false,true,true,true] (Tryz.f226.body.getD .skip)
theorem zvr {N:Nat} {Q:X→St→Option (qc [ql,i4])} {e:List LV} {h:List Blk}:qf tt qi2 (qeb N) q85 Q ⟨e,h⟩=qf tt qi2 (qeb N) (cut [true,true,true,false,true,true,true] (Tryz.f226.body.getD .skip)) Q ⟨e,h⟩:=rfl
theorem zzw (N:Nat) (v3:Int) (v4:Int) (v6:List (Val (.int .i64))) (v7:Int) (v8:Bool) (v9:Int) (v10:Int) (v11:Int) (v12:Bool) {k0:(List (Val (.int .i64)))→Option (qc [ql,i4])} {Q:X→St→Option (qc [ql,i4])} {c:Code} (hc:c=q85) (hret: ∀st,Q .ret st=qC tt true [ql,i4] [.cell 6 108,.tmp 7] st) (h0: ∀(v14:List (Val (.int .i64))),Q (.exit 0) ⟨[u,.one (.int .i64 v3),u,.one (.ptr 0 0 0),u,.one (.ptr 1 0 0),.one (.ptr 2 0 0),u,.one (.own 3),u,u,u,u,u,u,u,u,u,u,u,u,u,u,u,u,u,u,u,u,u,u,u,u,u,u,u,u,u,u,u,u,u,u,u,u,u,u,u,u,u,u,u,u,u,u,u,u,u,u,u,u,u,u,u,u,u,u,u,u,u,u,u,u,u],[.box [.sl 3 (.int .i64) v6 4,.int .i64 v7,.bool v8],.box [.int .i64 v9,.int .i64 v10],.box [.nils,.int .i64 v11,.bool v12],.row 3 (.int .i64) v14 true true 0]⟩=k0 v14): ∀(n:Nat) (v5:Int) (v13:List (Val (.int .i64))),qD (qf tt qi2 (qeb N) c) false qqY Q n ⟨[u,.one (.int .i64 v3),u,.one (.ptr 0 0 0),u,.one (.ptr 1 0 0),.one (.ptr 2 0 0),u,.one (.own 3),u,u,u,u,u,u,u,u,u,u,u,u,u,u,u,u,u,u,u,u,u,u,u,u,u,u,.one (.int .i64 v4),.one (.int .i64 v5),u,u,u,u,u,u,u,u,u,u,u,u,u,u,u,u,u,u,u,u,u,u,u,u,u,u,u,u,u,u,u,u,u,u,u,u,u],[.box [.sl 3 (.int .i64) v6 4,.int .i64 v7,.bool v8],.box [.int .i64 v9,.int .i64 v10],.box [.nils,.int .i64 v11,.bool v12],.row 3 (.int .i64) v13 true true 0]⟩=qiQ N v3 v4 v6 v7 v8 v9 v10 v11 v12 k0 n v5 v13:=by
 subst hc;intro n;induction n with
 | zero=>intros;rfl
 | succ n ih=>
   intro v5 v13
   rw [qN,zvr,qiQ];unfold Tryz.f226
   simp (maxSteps:=10000000) -implicitDefEqProofs [qWz,qor,qVd,qwA,qVV,qwK,qP7,qyn,q3l,qvA,qTv,qW9,qZY,qYl,qZ1,qKo,qUd,qLo,q3x,q3u,qZt,qaR,qeN,qaV,hret,h0,ih]
theorem zlM (N:Nat) (v0:Val qa) (v1:Int) (v2:Val Y28):qf tt qi2 (qeb N) (Tryz.f226.body.getD .skip) (qm tt true [ql,i4] [.cell 6 108,.tmp 7]) (qp [ql,i3,i28] 74 (v0,v1,v2,()))=qBn N v0 v1 v2:=by
 unfold Tryz.f226
 simp (maxSteps:=10000000) -implicitDefEqProofs [qWz,qor,qVd,qwA,qVV,qwK,qP7,qyn,q3l,qvA,qTv,qW9,qZY,qYl,qZ1,qKo,qUd,qLo,q3x,q3u,qZt,qaR,qeN,qaV]
 rewrite [zzw (k0:=(fun (v15:List (Val (.int .i64)))=>chk (0≤v1∧v1<(v15.length:Int)) (chk (v1.toNat<v15.length) (chk (0≤v1∧v1<((v0.1:List (Val (.int .i64))).length:Int)) (chk (qaS (v15.set v1.toNat (0:Int)) (IntKind.i64.wrap ((IntKind.i64.wrap ((v0.2.1:Int)*(v2.2:Int)))+(IntKind.i64.wrap ((((v0.1:List (Val (.int .i64))).getD v1.toNat (qb (.int .i64))):Int)*(v2.1:Int))))) (v0.2.2:Bool)) (some (((((qw (v15.set v1.toNat (0:Int)) (IntKind.i64.wrap ((IntKind.i64.wrap ((v0.2.1:Int)*(v2.2:Int)))+(IntKind.i64.wrap ((((v0.1:List (Val (.int .i64))).getD v1.toNat (qb (.int .i64))):Int)*(v2.1:Int))))) (v0.2.2:Bool)).1).1:List (Val (.int .i64))),((((qw (v15.set v1.toNat (0:Int)) (IntKind.i64.wrap ((IntKind.i64.wrap ((v0.2.1:Int)*(v2.2:Int)))+(IntKind.i64.wrap ((((v0.1:List (Val (.int .i64))).getD v1.toNat (qb (.int .i64))):Int)*(v2.1:Int))))) (v0.2.2:Bool)).1).2).1:Int),((((qw (v15.set v1.toNat (0:Int)) (IntKind.i64.wrap ((IntKind.i64.wrap ((v0.2.1:Int)*(v2.2:Int)))+(IntKind.i64.wrap ((((v0.1:List (Val (.int .i64))).getD v1.toNat (qb (.int .i64))):Int)*(v2.1:Int))))) (v0.2.2:Bool)).1).2).2:Bool)),((qw (v15.set v1.toNat (0:Int)) (IntKind.i64.wrap ((IntKind.i64.wrap ((v0.2.1:Int)*(v2.2:Int)))+(IntKind.i64.wrap ((((v0.1:List (Val (.int .i64))).getD v1.toNat (qb (.int .i64))):Int)*(v2.1:Int))))) (v0.2.2:Bool)).2:Bool),()))))))) N _ _ _ _ _ _ _ _ _ ?_ ?_ ?_]
 ·rewrite [qBn];first | rfl | simp (maxSteps:=10000000) -implicitDefEqProofs []
 ·rfl
 ·intro;simp only [qK,qL,qJ,qB]
 ·intro v15;simp (maxSteps:=10000000) -implicitDefEqProofs [qWz,qor,qVd,qwA,qVV,qwK,qP7,qyn,q3l,qvA,qTv,qW9,qZY,qYl,qZ1,qKo,qUd,qLo,q3x,q3u,qZt,qaR,qeN,qaV]
def qm7:G:={ps:=[ql,i3,i28],rs:=[ql,i4],dp:=true,pre:=fun x=>qzn x.1 x.2.1 x.2.2.1,fn:=fun x=>((qav x.1 x.2.1 x.2.2.1).1,(qav x.1 x.2.1 x.2.2.1).2,())}
noncomputable def qhQ (N:Nat) (v3:Int) (v5:List (Val (.int .i64))) (v6:Int) (v7:Bool) (v8:Int) (v9:Int) (v10:Int) (v11:Bool) (k0:(List (Val (.int .i64)))→Option (qc [ql,i4])):Nat→Int→(List (Val (.int .i64)))→Option (qc [ql,i4])
 | 0,_,_=>none
 | n+1,v4,v12=>bif (decide (v4<(v5.length:Int)))then (bif (decide (v4=v3))then (chk (v12.length+([(0:Int)]:List (Val (.int .i64))).length≤1048576) (qhQ N v3 v5 v6 v7 v8 v9 v10 v11 k0 n (IntKind.i64.wrap (v4+(1:Int))) (v12++([(0:Int)]:List (Val (.int .i64))))))else (chk (0≤v4∧v4<(v5.length:Int)) (chk (v12.length+([(IntKind.i64.wrap (((v5.getD v4.toNat (qb (.int .i64))):Int)*v9))]:List (Val (.int .i64))).length≤1048576) (qhQ N v3 v5 v6 v7 v8 v9 v10 v11 k0 n (IntKind.i64.wrap (v4+(1:Int))) (v12++([(IntKind.i64.wrap (((v5.getD v4.toNat (qb (.int .i64))):Int)*v9))]:List (Val (.int .i64))))))))else (k0 v12)
noncomputable def qBB (N:Nat) (v0:Val qa) (v1:Int) (v2:Val Y28):Option (qc [ql,i4]):=bif (!((qP v0):Bool))then (some ((([]:List (Val (.int .i64))),(0:Int),false),false,()))else (bif (!((qE v2):Bool))then (some ((([]:List (Val (.int .i64))),(0:Int),false),false,()))else (bif (!((inR v1 (0:Int) (IntKind.i64.wrap (((v0.1:List (Val (.int .i64))).length:Int) - (1:Int)))):Bool))then (some ((([]:List (Val (.int .i64))),(0:Int),false),false,()))else (qhQ N v1 (v0.1:List (Val (.int .i64))) (v0.2.1:Int) (v0.2.2:Bool) (v2.1:Int) (v2.2:Int) (0:Int) false (fun (v14:List (Val (.int .i64)))=>chk (0≤v1∧v1<((v0.1:List (Val (.int .i64))).length:Int)) (chk (qaS v14 (IntKind.i64.wrap ((IntKind.i64.wrap ((v0.2.1:Int)*(v2.2:Int)))+(IntKind.i64.wrap ((((v0.1:List (Val (.int .i64))).getD v1.toNat (qb (.int .i64))):Int)*(v2.1:Int))))) (v0.2.2:Bool)) (some (((((qw v14 (IntKind.i64.wrap ((IntKind.i64.wrap ((v0.2.1:Int)*(v2.2:Int)))+(IntKind.i64.wrap ((((v0.1:List (Val (.int .i64))).getD v1.toNat (qb (.int .i64))):Int)*(v2.1:Int))))) (v0.2.2:Bool)).1).1:List (Val (.int .i64))),((((qw v14 (IntKind.i64.wrap ((IntKind.i64.wrap ((v0.2.1:Int)*(v2.2:Int)))+(IntKind.i64.wrap ((((v0.1:List (Val (.int .i64))).getD v1.toNat (qb (.int .i64))):Int)*(v2.1:Int))))) (v0.2.2:Bool)).1).2).1:Int),((((qw v14 (IntKind.i64.wrap ((IntKind.i64.wrap ((v0.2.1:Int)*(v2.2:Int)))+(IntKind.i64.wrap ((((v0.1:List (Val (.int .i64))).getD v1.toNat (qb (.int .i64))):Int)*(v2.1:Int))))) (v0.2.2:Bool)).1).2).2:Bool)),((qw v14 (IntKind.i64.wrap ((IntKind.i64.wrap ((v0.2.1:Int)*(v2.2:Int)))+(IntKind.i64.wrap ((((v0.1:List (Val (.int .i64))).getD v1.toNat (qb (.int .i64))):Int)*(v2.1:Int))))) (v0.2.2:Bool)).2:Bool),())))) N (0:Int) ([]:List (Val (.int .i64))))))
def qhD:Gam:=[(109,qaK),(118,qao),(149,qe6),(193,qa9)]
theorem qVP:Gam.get qhD 109=some qaK:=rfl
theorem qZd:Gam.get qhD 118=some qao:=rfl
theorem qMB:Gam.get qhD 149=some qe6:=rfl
theorem q3d:Gam.get qhD 193=some qa9:=rfl
def qpO:Nm:=⟨[false,true,false,true,false,true,true,false,true,true],[],false⟩
theorem qVo:qpO.zero=false:=rfl
theorem qSL:qpO.fix=[]:=rfl
theorem qVn:qpO.keep=[false,true,false,true,false,true,true,false,true,true]:=rfl
def qHf:Nm:=⟨[false,true,false,true,false,true,true,false,true],[],false⟩
theorem qHP:qHf.zero=false:=rfl
theorem qYu:qHf.fix=[]:=rfl
theorem qKN:qHf.keep=[false,true,false,true,false,true,true,false,true]:=rfl
def qGz:Nm:=⟨[false,false,false,false,false,false,true,false,false,false,true,true],[],false⟩
theorem qUT:qGz.zero=false:=rfl
theorem q0y:qGz.fix=[]:=rfl
theorem q2Y:qGz.keep=[false,false,false,false,false,false,true,false,false,false,true,true]:=rfl
def qmT:Nat→Tree:=fun i=>if i=9 then .quiet 1 (.quiet 2 (.quiet 3 (.quiet 4 (.quiet 5 (.quiet 6 (.quiet 7 (.quiet 8 (.first 0 (.alt 9 (.alt 10 (.quiet 11 .done) .stop) .stop)))))))))else if i=10 then .first 0 (.first 8 (.grow 1 (.grow 2 (.grow 3 (.grow 4 (.first 5 (.grow 6 (.grow 7 (.grow 9 (.grow 10 (.grow 11 (.grow 12 (.first 13 (.first 14 (.grow 15 (.grow 16 (.alt 17 (.first 18 (.first 19 (.first 20 (.alt 21 (.alt 22 (.quiet 23 .done) .stop) .stop)))) (.alt 21 (.alt 17 (.quiet 18 (.quiet 19 (.first 20 (.alt 22 (.quiet 23 .done) .stop)))) .stop) .stop))))))))))))))))))else .done
def qqn:Nat→Nm:=fun i=>if i=5 then qpO else ⟨[],[],false⟩
def qrX:Nat→Option Jn:=fun _=>none
def qyo:Nat→Option Nm:=fun i=>if i=0 then some qHf else none
def qyz:Nat→Option Nm:=fun i=>if i=10 then some qGz else none
theorem zrc:qh qmT (Tryz.f223.body.getD .skip)=true:=by kernel_rfl
def qd4 (N:Nat):Tab:={tr:=qmT,lp:=qqn,ex:=qyo,rg:=qyz,jn:=qrX,fuel:=N}
theorem qMK (N:Nat):(qd4 N).pins=false:=rfl
theorem zdK (N:Nat):qk Tryz.prog (qd4 N):=qo fun _=>rfl
theorem qPS (N:Nat) (i:Nat):(qd4 N).tr i=qmT i:=rfl
theorem qOR (N:Nat) (i:Nat):(qd4 N).lp i=qqn i:=rfl
theorem qSA (N:Nat) (i:Nat):(qd4 N).ex i=qyo i:=rfl
theorem qHU (N:Nat) (i:Nat):(qd4 N).rg i=qyz i:=rfl
theorem q3e (N:Nat) (i:Nat):(qd4 N).jn i=qrX i:=rfl
theorem qQ7 (N:Nat):(qd4 N).fuel=N:=rfl
noncomputable def zaB:Code:=cut [true,true,true,false,true,true,true] (Tryz.f223.body.getD .skip)
theorem zjv {N:Nat} {Q:X→St→Option (qc [ql,i4])} {e:List LV} {h:List Blk}:qf tt qhD (qd4 N) zaB Q ⟨e,h⟩=qf tt qhD (qd4 N) (cut [true,true,true,false,true,true,true] (Tryz.f223.body.getD .skip)) Q ⟨e,h⟩:=rfl
theorem znF (N:Nat) (v3:Int) (v5:List (Val (.int .i64))) (v6:Int) (v7:Bool) (v8:Int) (v9:Int) (v10:Int) (v11:Bool) {k0:(List (Val (.int .i64)))→Option (qc [ql,i4])} {Q:X→St→Option (qc [ql,i4])} {c:Code} (hc:c=zaB) (hret: ∀st,Q .ret st=qC tt true [ql,i4] [.cell 6 108,.tmp 7] st) (h0: ∀(v13:List (Val (.int .i64))),Q (.exit 0) ⟨[u,.one (.int .i64 v3),u,.one (.ptr 0 0 0),u,.one (.ptr 1 0 0),.one (.ptr 2 0 0),u,.one (.own 3),u,u,u,u,u,u,u,u,u,u,u,u,u,u,u,u,u,u,u,u,u,u,u,u,u,u,u,u,u,u,u,u,u,u,u,u,u,u,u,u,u,u,u,u,u,u,u,u,u,u,u,u,u,u,u,u,u,u,u,u,u,u,u,u,u,u,u,u,u],[.box [.sl 3 (.int .i64) v5 4,.int .i64 v6,.bool v7],.box [.int .i64 v8,.int .i64 v9],.box [.nils,.int .i64 v10,.bool v11],.row 3 (.int .i64) v13 true true 0]⟩=k0 v13): ∀(n:Nat) (v4:Int) (v12:List (Val (.int .i64))),qD (qf tt qhD (qd4 N) c) false qpO Q n ⟨[u,.one (.int .i64 v3),u,.one (.ptr 0 0 0),u,.one (.ptr 1 0 0),.one (.ptr 2 0 0),u,.one (.own 3),.one (.int .i64 v4),u,u,u,u,u,u,u,u,u,u,u,u,u,u,u,u,u,u,u,u,u,u,u,u,u,u,u,u,u,u,u,u,u,u,u,u,u,u,u,u,u,u,u,u,u,u,u,u,u,u,u,u,u,u,u,u,u,u,u,u,u,u,u,u,u,u,u,u],[.box [.sl 3 (.int .i64) v5 4,.int .i64 v6,.bool v7],.box [.int .i64 v8,.int .i64 v9],.box [.nils,.int .i64 v10,.bool v11],.row 3 (.int .i64) v12 true true 0]⟩=qhQ N v3 v5 v6 v7 v8 v9 v10 v11 k0 n v4 v12:=by
 subst hc;intro n;induction n with
 | zero=>intros;rfl
 | succ n ih=>
   intro v4 v12
   rw [qN,zjv,qhQ];unfold Tryz.f223
   simp (maxSteps:=10000000) -implicitDefEqProofs [qPS,qmT,qOR,qqn,qSA,qyo,qHU,qyz,q3e,qrX,qQ7,qMK,qSL,qVn,qVo,qYu,qKN,qHP,q0y,q2Y,qUT,qVP,qZd,qMB,q3d,qaK,qao,qe6,qa9,hret,h0,ih]
theorem zkj (N:Nat) (v0:Val qa) (v1:Int) (v2:Val Y28):qf tt qhD (qd4 N) (Tryz.f223.body.getD .skip) (qm tt true [ql,i4] [.cell 6 108,.tmp 7]) (qp [ql,i3,i28] 78 (v0,v1,v2,()))=qBB N v0 v1 v2:=by
 unfold Tryz.f223
 simp (maxSteps:=10000000) -implicitDefEqProofs [qPS,qmT,qOR,qqn,qSA,qyo,qHU,qyz,q3e,qrX,qQ7,qMK,qSL,qVn,qVo,qYu,qKN,qHP,q0y,q2Y,qUT,qVP,qZd,qMB,q3d,qaK,qao,qe6,qa9]
 rewrite [znF (k0:=(fun (v14:List (Val (.int .i64)))=>chk (0≤v1∧v1<((v0.1:List (Val (.int .i64))).length:Int)) (chk (qaS v14 (IntKind.i64.wrap ((IntKind.i64.wrap ((v0.2.1:Int)*(v2.2:Int)))+(IntKind.i64.wrap ((((v0.1:List (Val (.int .i64))).getD v1.toNat (qb (.int .i64))):Int)*(v2.1:Int))))) (v0.2.2:Bool)) (some (((((qw v14 (IntKind.i64.wrap ((IntKind.i64.wrap ((v0.2.1:Int)*(v2.2:Int)))+(IntKind.i64.wrap ((((v0.1:List (Val (.int .i64))).getD v1.toNat (qb (.int .i64))):Int)*(v2.1:Int))))) (v0.2.2:Bool)).1).1:List (Val (.int .i64))),((((qw v14 (IntKind.i64.wrap ((IntKind.i64.wrap ((v0.2.1:Int)*(v2.2:Int)))+(IntKind.i64.wrap ((((v0.1:List (Val (.int .i64))).getD v1.toNat (qb (.int .i64))):Int)*(v2.1:Int))))) (v0.2.2:Bool)).1).2).1:Int),((((qw v14 (IntKind.i64.wrap ((IntKind.i64.wrap ((v0.2.1:Int)*(v2.2:Int)))+(IntKind.i64.wrap ((((v0.1:List (Val (.int .i64))).getD v1.toNat (qb (.int .i64))):Int)*(v2.1:Int))))) (v0.2.2:Bool)).1).2).2:Bool)),((qw v14 (IntKind.i64.wrap ((IntKind.i64.wrap ((v0.2.1:Int)*(v2.2:Int)))+(IntKind.i64.wrap ((((v0.1:List (Val (.int .i64))).getD v1.toNat (qb (.int .i64))):Int)*(v2.1:Int))))) (v0.2.2:Bool)).2:Bool),()))))) N _ _ _ _ _ _ _ _ ?_ ?_ ?_]
 ·rewrite [qBB];first | rfl | simp (maxSteps:=10000000) -implicitDefEqProofs []
 ·rfl
 ·intro;simp only [qK,qL,qJ,qB]
 ·intro v14;simp (maxSteps:=10000000) -implicitDefEqProofs [qPS,qmT,qOR,qqn,qSA,qyo,qHU,qyz,q3e,qrX,qQ7,qMK,qSL,qVn,qVo,qYu,qKN,qHP,q0y,q2Y,qUT,qVP,qZd,qMB,q3d,qaK,qao,qe6,qa9]
end Go.T
