/- Dropping variables. -/
import Derived.Test.YthefcjjgchekiaaGreatB6
import Derived.Test.YthefcjjgchekiaaGreatB8
set_option linter.unusedSimpArgs false
set_option linter.unusedVariables false
namespace Go.T
open Go Go.Proofs
set_option maxHeartbeats 4000000
set_option maxRecDepth 100000
def cfV (v:Int) (a:Val qa):Int:=List.getD (α:=Int) a.1 v.toNat 0
def qdY (v:Int) (a:Val qa):List (Val qa)→List (Val qa)→Option (List (Val qa))
 | [],s=>some s
 | b::r,s=>bif decide (cfV v b<0)then (bif (qat a (-cfV v b) b (cfV v a)).2 then qdY v a r (s++[(qat a (-cfV v b) b (cfV v a)).1])else none)else qdY v a r s
def qcT (v:Int) (l:List (Val qa)):List (Val qa)→List (Val qa)→Option (List (Val qa))
 | [],s=>some s
 | a::r,s=>bif decide (0<cfV v a)then (match qdY v a l s with
   | some s'=>qcT v l r s'
   | none=>none)else qcT v l r s
def qaq (c:Val Y33) (v:Int):Val Y33×Bool:=match qcT v c.2 c.2 (List.filter (α:=Val qa) (fun a=>decide (cfV v a=0)) c.2)with
 | some l=>qbn c.1 l
 | none=>(((0:Int),[]),false)
def qnN (c:Val Y33) (v:Int):Prop:=qz c=true∧0≤v∧v<(c.1:Int)
def qcF (c:Val Y33) (v:Int):Val Y33×Bool:=bif qz c&&decide (0≤v∧v<(c.1:Int))then qaq c v else (((0:Int),[]),false)
def qeM:G:={ps:=[i33,i3],rs:=[i33,i4],dp:=true,pre:=fun _=>True,fn:=fun x=>((qcF x.1 x.2.1).1,(qcF x.1 x.2.1).2,())}
def qeI:G:={ps:=[i33,i3],rs:=[i33,i4],dp:=false,pre:=fun x=>qnN x.1 x.2.1,fn:=fun x=>((qaq x.1 x.2.1).1,(qaq x.1 x.2.1).2,())}
noncomputable def qgx (N:Nat) (v2:Int) (v3:List (Val qa)) (v4:Int) (v6:Int) (v7:List (Val qa)) (v8:Int) (k0:(List (Val qa))→Option (qc [i33,i4])):Nat→Int→(List (Val qa))→Option (qc [i33,i4])
 | 0,_,_=>none
 | n+1,v5,v9=>bif (decide (v5<v4))then (chk (0≤v5∧v5<(v3.length:Int)) (chk (0≤v2∧v2<(((v3.getD v5.toNat (qb qa)).1:List (Val (.int .i64))).length:Int)) (bif (decide (((((v3.getD v5.toNat (qb qa)).1:List (Val (.int .i64))).getD v2.toNat (qb (.int .i64))):Int)=(0:Int)))then (chk (v9.length+([(v3.getD v5.toNat (qb qa))]:List (Val qa)).length≤1048576) (qgx N v2 v3 v4 v6 v7 v8 k0 n (IntKind.i64.wrap (v5+(1:Int))) (v9++([(v3.getD v5.toNat (qb qa))]:List (Val qa)))))else (qgx N v2 v3 v4 v6 v7 v8 k0 n (IntKind.i64.wrap (v5+(1:Int))) v9))))else (k0 v9)
noncomputable def qg9 (N:Nat) (v36:Int) (v37:List (Val qa)) (v38:Int) (v39:Int) (v40:List (Val qa)) (v41:Int) (v43:Int) (v44:List (Val qa)) (v45:Int) (v47:List (Val (.int .i64))) (v48:Int) (v49:Bool) (k4:(List (Val qa))→Option (qc [i33,i4])):Nat→Int→(List (Val qa))→Option (qc [i33,i4])
 | 0,_,_=>none
 | n+1,v42,v46=>bif (decide (v42<v41))then (chk (0≤v42∧v42<(v40.length:Int)) (chk (0≤v36∧v36<(((v40.getD v42.toNat (qb qa)).1:List (Val (.int .i64))).length:Int)) (bif (decide ((0:Int)≤((((v40.getD v42.toNat (qb qa)).1:List (Val (.int .i64))).getD v36.toNat (qb (.int .i64))):Int)))then (qg9 N v36 v37 v38 v39 v40 v41 v43 v44 v45 v47 v48 v49 k4 n (IntKind.i64.wrap (v42+(1:Int))) v46)else (chk (0≤v36∧v36<(((v40.getD v42.toNat (qb qa)).1:List (Val (.int .i64))).length:Int)) (chk (0≤v36∧v36<(v47.length:Int)) (bif (!((qat (v47,v48,v49) (IntKind.i64.wrap (0 - ((((v40.getD v42.toNat (qb qa)).1:List (Val (.int .i64))).getD v36.toNat (qb (.int .i64))):Int))) (v40.getD v42.toNat (qb qa)) ((v47.getD v36.toNat (qb (.int .i64))):Int)).2:Bool))then (some (((0:Int),([]:List (Val qa))),false,()))else (chk (v46.length+([((((qat (v47,v48,v49) (IntKind.i64.wrap (0 - ((((v40.getD v42.toNat (qb qa)).1:List (Val (.int .i64))).getD v36.toNat (qb (.int .i64))):Int))) (v40.getD v42.toNat (qb qa)) ((v47.getD v36.toNat (qb (.int .i64))):Int)).1).1:List (Val (.int .i64))),((((qat (v47,v48,v49) (IntKind.i64.wrap (0 - ((((v40.getD v42.toNat (qb qa)).1:List (Val (.int .i64))).getD v36.toNat (qb (.int .i64))):Int))) (v40.getD v42.toNat (qb qa)) ((v47.getD v36.toNat (qb (.int .i64))):Int)).1).2).1:Int),((((qat (v47,v48,v49) (IntKind.i64.wrap (0 - ((((v40.getD v42.toNat (qb qa)).1:List (Val (.int .i64))).getD v36.toNat (qb (.int .i64))):Int))) (v40.getD v42.toNat (qb qa)) ((v47.getD v36.toNat (qb (.int .i64))):Int)).1).2).2:Bool))]:List (Val qa)).length≤1048576) (qg9 N v36 v37 v38 v39 v40 v41 v43 v44 v45 v47 v48 v49 k4 n (IntKind.i64.wrap (v42+(1:Int))) (v46++([((((qat (v47,v48,v49) (IntKind.i64.wrap (0 - ((((v40.getD v42.toNat (qb qa)).1:List (Val (.int .i64))).getD v36.toNat (qb (.int .i64))):Int))) (v40.getD v42.toNat (qb qa)) ((v47.getD v36.toNat (qb (.int .i64))):Int)).1).1:List (Val (.int .i64))),((((qat (v47,v48,v49) (IntKind.i64.wrap (0 - ((((v40.getD v42.toNat (qb qa)).1:List (Val (.int .i64))).getD v36.toNat (qb (.int .i64))):Int))) (v40.getD v42.toNat (qb qa)) ((v47.getD v36.toNat (qb (.int .i64))):Int)).1).2).1:Int),((((qat (v47,v48,v49) (IntKind.i64.wrap (0 - ((((v40.getD v42.toNat (qb qa)).1:List (Val (.int .i64))).getD v36.toNat (qb (.int .i64))):Int))) (v40.getD v42.toNat (qb qa)) ((v47.getD v36.toNat (qb (.int .i64))):Int)).1).2).2:Bool))]:List (Val qa)))))))))))else (k4 v46)
noncomputable def qfw (N:Nat) (v12:Int) (v13:List (Val qa)) (v14:Int) (v16:Int) (v17:List (Val qa)) (v18:Int) (k2:(List (Val qa))→Option (qc [i33,i4])):Nat→Int→(List (Val qa))→Option (qc [i33,i4])
 | 0,_,_=>none
 | n+1,v15,v19=>bif (decide (v15<v14))then (chk (0≤v15∧v15<(v13.length:Int)) (chk (0≤v12∧v12<(((v13.getD v15.toNat (qb qa)).1:List (Val (.int .i64))).length:Int)) (bif (decide (((((v13.getD v15.toNat (qb qa)).1:List (Val (.int .i64))).getD v12.toNat (qb (.int .i64))):Int)≤(0:Int)))then (qfw N v12 v13 v14 v16 v17 v18 k2 n (IntKind.i64.wrap (v15+(1:Int))) v19)else (qg9 N v12 v13 v14 v15 v17 (v17.length:Int) v16 v17 v18 ((v13.getD v15.toNat (qb qa)).1:List (Val (.int .i64))) (((v13.getD v15.toNat (qb qa)).2).1:Int) (((v13.getD v15.toNat (qb qa)).2).2:Bool) (fun (v51:List (Val qa))=>qfw N v12 v13 v14 v16 v17 v18 k2 n (IntKind.i64.wrap (v15+(1:Int))) v51) N (0:Int) v19))))else (k2 v19)
noncomputable def qC0 (N:Nat) (v0:Val Y33) (v1:Int):Option (qc [i33,i4]):=bif (!((qz v0):Bool))then (some (((0:Int),([]:List (Val qa))),false,()))else (bif (decide (v1<(0:Int)))then (some (((0:Int),([]:List (Val qa))),false,()))else (bif (decide ((v0.1:Int)≤v1))then (some (((0:Int),([]:List (Val qa))),false,()))else (qgx N v1 (v0.2:List (Val qa)) ((v0.2:List (Val qa)).length:Int) (v0.1:Int) (v0.2:List (Val qa)) (0:Int) (fun (v11:List (Val qa))=>qfw N v1 (v0.2:List (Val qa)) ((v0.2:List (Val qa)).length:Int) (v0.1:Int) (v0.2:List (Val qa)) (0:Int) (fun (v53:List (Val qa))=>chk (qhL (v0.1:Int) v53) (some (((((qbn (v0.1:Int) v53).1).1:Int),(((qbn (v0.1:Int) v53).1).2:List (Val qa))),((qbn (v0.1:Int) v53).2:Bool),()))) N (0:Int) v11) N (0:Int) ([]:List (Val qa)))))
def qcU:Gam:=[(199,qaB),(255,qdz),(293,qfY)]
theorem qmt:Gam.get qcU 199=some qaB:=rfl
theorem qj5:Gam.get qcU 255=some qdz:=rfl
theorem qjT:Gam.get qcU 293=some qfY:=rfl
def qqH:Nm:=⟨[false,true,true,false,true,false,true,false,false,false,false,false,false,false,false,false,false,false,false,false,false,false,false,false,false,false,false,false,false,false,false,true,true,true],[.und 6 0 108 qa],false⟩
theorem qjk:qqH.zero=false:=rfl
theorem qkl:qqH.fix=[.und 6 0 108 qa]:=rfl
theorem qjM:qqH.keep=[false,true,true,false,true,false,true,false,false,false,false,false,false,false,false,false,false,false,false,false,false,false,false,false,false,false,false,false,false,false,false,true,true,true]:=rfl
def qsi:Nm:=⟨[false,true,true,false,true,false,true,false,false,false,true,false,false,false,false,false,false,false,false,false,false,false,false,false,false,false,false,false,false,false,false,false,false,false,false,false,false,false,false,false,false,false,false,false,false,false,false,false,false,true,true,true,false,false,false,false,false,false,false,false,false,false,true,true,true],[],false⟩
theorem qlJ:qsi.zero=false:=rfl
theorem qjh:qsi.fix=[]:=rfl
theorem qlS:qsi.keep=[false,true,true,false,true,false,true,false,false,false,true,false,false,false,false,false,false,false,false,false,false,false,false,false,false,false,false,false,false,false,false,false,false,false,false,false,false,false,false,false,false,false,false,false,false,false,false,false,false,true,true,true,false,false,false,false,false,false,false,false,false,false,true,true,true]:=rfl
def qwd:Nm:=⟨[false,true,true,false,true,false,true,false,false,false,false,false,false,false,false,false,false,false,false,false,false,false,false,false,false,false,false,false,false,false,false,false,false,false,false,false,false,false,false,false,false,false,false,false,false,false,false,false,false,true,true,true],[],false⟩
theorem qkr:qwd.zero=false:=rfl
theorem qj8:qwd.fix=[]:=rfl
theorem qla:qwd.keep=[false,true,true,false,true,false,true,false,false,false,false,false,false,false,false,false,false,false,false,false,false,false,false,false,false,false,false,false,false,false,false,false,false,false,false,false,false,false,false,false,false,false,false,false,false,false,false,false,false,true,true,true]:=rfl
def qDm:Nm:=⟨[false,true,true,false,true,false,true],[],false⟩
theorem qkp:qDm.zero=false:=rfl
theorem qkx:qDm.fix=[]:=rfl
theorem qke:qDm.keep=[false,true,true,false,true,false,true]:=rfl
def qE1:Nm:=⟨[false,false,true,false,true,false,true],[],false⟩
theorem qjL:qE1.zero=false:=rfl
theorem qkQ:qE1.fix=[]:=rfl
theorem qmD:qE1.keep=[false,false,true,false,true,false,true]:=rfl
def qEm:Nm:=⟨[false,true,true,false,true,false,true,false,false,false,false,false,false,false,false,false,false,false,false,false,false,false,false,false,false,false,false,false,false,false,false,false,false,false,false,false,false,false,false,false,false,false,false,false,false,false,false,false,false,true,true,true],[],false⟩
theorem qmn:qEm.zero=false:=rfl
theorem qmm:qEm.fix=[]:=rfl
theorem qlt:qEm.keep=[false,true,true,false,true,false,true,false,false,false,false,false,false,false,false,false,false,false,false,false,false,false,false,false,false,false,false,false,false,false,false,false,false,false,false,false,false,false,false,false,false,false,false,false,false,false,false,false,false,true,true,true]:=rfl
def qFH:Nm:=⟨[false,true,true,false,true,false,true,false,false,false,true,false,false,true,true,false,false,false,false,false,false,false,false,false,false,false,false,false,false,false,false,false,false,false,false,false,false,false,false,false,false,false,false,false,false,false,false,false,false,true,true,true,false,false,false,false,false,false,false,false,false,false,true,true,true],[],false⟩
theorem qlR:qFH.zero=false:=rfl
theorem qjn:qFH.fix=[]:=rfl
theorem qjS:qFH.keep=[false,true,true,false,true,false,true,false,false,false,true,false,false,true,true,false,false,false,false,false,false,false,false,false,false,false,false,false,false,false,false,false,false,false,false,false,false,false,false,false,false,false,false,false,false,false,false,false,false,true,true,true,false,false,false,false,false,false,false,false,false,false,true,true,true]:=rfl
def qfH:Nat→Tree:=fun i=>if i=18 then .first 3 (.first 10 (.grow 0 (.grow 1 (.grow 2 (.grow 4 (.grow 5 (.first 6 (.grow 7 (.grow 8 (.grow 9 (.grow 11 (.grow 12 (.alt 13 (.first 14 (.first 15 (.first 16 (.alt 17 (.alt 18 (.quiet 19 .done) .stop) .stop)))) (.alt 17 (.alt 13 (.quiet 14 (.quiet 15 (.first 16 (.alt 18 (.quiet 19 .done) .stop)))) .stop) .stop))))))))))))))else .done
def qgQ:Nat→Nm:=fun i=>if i=5 then qqH else if i=15 then qsi else if i=11 then qwd else ⟨[],[],false⟩
def qhb:Nat→Option Jn:=fun _=>none
def qgS:Nat→Option Nm:=fun i=>if i=0 then some qDm else if i=2 then some qE1 else if i=4 then some qEm else none
def qgZ:Nat→Option Nm:=fun i=>if i=18 then some qFH else none
theorem zqs:qh qfH (Tryz.f237.body.getD .skip)=true:=by kernel_rfl
def qb3 (N:Nat):Tab:={tr:=qfH,lp:=qgQ,ex:=qgS,rg:=qgZ,jn:=qhb,fuel:=N}
theorem qkh (N:Nat):(qb3 N).pins=false:=rfl
theorem zyC (N:Nat):qk Tryz.prog (qb3 N):=qo fun _=>rfl
theorem qjJ (N:Nat) (i:Nat):(qb3 N).tr i=qfH i:=rfl
theorem qjI (N:Nat) (i:Nat):(qb3 N).lp i=qgQ i:=rfl
theorem qlj (N:Nat) (i:Nat):(qb3 N).ex i=qgS i:=rfl
theorem qlr (N:Nat) (i:Nat):(qb3 N).rg i=qgZ i:=rfl
theorem qkg (N:Nat) (i:Nat):(qb3 N).jn i=qhb i:=rfl
theorem qk8 (N:Nat):(qb3 N).fuel=N:=rfl
noncomputable def q5b:Code:=cut [true,true,true,false,true,true,true] (Tryz.f237.body.getD .skip)
theorem zbQ {N:Nat} {Q:X→St→Option (qc [i33,i4])} {e:List LV} {h:List Blk}:qf tt qcU (qb3 N) q5b Q ⟨e,h⟩=qf tt qcU (qb3 N) (cut [true,true,true,false,true,true,true] (Tryz.f237.body.getD .skip)) Q ⟨e,h⟩:=rfl
theorem zrQ (N:Nat) (v2:Int) (v3:List (Val qa)) (v4:Int) (v6:Int) (v7:List (Val qa)) (v8:Int) {k0:(List (Val qa))→Option (qc [i33,i4])} {Q:X→St→Option (qc [i33,i4])} {c:Code} (hc:c=q5b) (hret: ∀st,Q .ret st=qC tt true [i33,i4] [.cell 4 33,.tmp 5] st) (h0: ∀(v10:List (Val qa)),Q (.exit 0) ⟨[u,.one (.int .i64 v2),.one (.ptr 0 0 0),u,.one (.ptr 1 0 0),u,.one (.own 2),u,u,u,u,u,u,u,u,u,u,u,u,u,u,u,u,u,u,u,u,u,u,u,u,u,u,u,u,u,u,u,u,u,u,u,u,u,u,u,u,u,u,u,u,u,u,u,u,u,u,u,u,u,u,u,u,u,u,u,u,u,u,u,u,u,u,u,u,u,u,u,u,u,u,u,u,u,u,u,u,u,u,u,u,u,u,u,u,u,u,u,u,u,u,u,u,u,u,u],[.box [.int .i64 v6,.sl 108 qa v7 3],.box [.int .i64 v8,.nils],.row 108 qa v10 false true 3]⟩=k0 v10): ∀(n:Nat) (v5:Int) (v9:List (Val qa)),qD (qf tt qcU (qb3 N) c) false qqH Q n ⟨[u,.one (.int .i64 v2),.one (.ptr 0 0 0),u,.one (.ptr 1 0 0),u,.one (.own 2),u,u,u,u,u,u,u,u,u,u,u,u,u,u,u,u,u,u,u,u,u,u,u,u,.one (.sl 108 qa v3 3),.one (.int .i64 v4),.one (.int .i64 v5),u,u,u,u,u,u,u,u,u,u,u,u,u,u,u,u,u,u,u,u,u,u,u,u,u,u,u,u,u,u,u,u,u,u,u,u,u,u,u,u,u,u,u,u,u,u,u,u,u,u,u,u,u,u,u,u,u,u,u,u,u,u,u,u,u,u,u,u,u,u,u,u],[.box [.int .i64 v6,.sl 108 qa v7 3],.box [.int .i64 v8,.nils],.row 108 qa v9 false true 3]⟩=qgx N v2 v3 v4 v6 v7 v8 k0 n v5 v9:=by
 subst hc;intro n;induction n with
 | zero=>intros;rfl
 | succ n ih=>
   intro v5 v9
   rw [qN,zbQ,qgx];unfold Tryz.f237
   simp (maxSteps:=10000000) -implicitDefEqProofs [qjJ,qfH,qjI,qgQ,qlj,qgS,qlr,qgZ,qkg,qhb,qk8,qkh,qkl,qjM,qjk,qjh,qlS,qlJ,qj8,qla,qkr,qkx,qke,qkp,qkQ,qmD,qjL,qmm,qlt,qmn,qjn,qjS,qlR,qmt,qj5,qjT,qaB,qdz,qfY,hret,h0,ih]
noncomputable def q8j:Code:=cut [true,true,true,true,false,true,true,true,true,true,false,true,true,true,true,true,true] (Tryz.f237.body.getD .skip)
theorem zjM {N:Nat} {Q:X→St→Option (qc [i33,i4])} {e:List LV} {h:List Blk}:qf tt qcU (qb3 N) q8j Q ⟨e,h⟩=qf tt qcU (qb3 N) (cut [true,true,true,true,false,true,true,true,true,true,false,true,true,true,true,true,true] (Tryz.f237.body.getD .skip)) Q ⟨e,h⟩:=rfl
theorem zbG (N:Nat) (v36:Int) (v37:List (Val qa)) (v38:Int) (v39:Int) (v40:List (Val qa)) (v41:Int) (v43:Int) (v44:List (Val qa)) (v45:Int) (v47:List (Val (.int .i64))) (v48:Int) (v49:Bool) {k4:(List (Val qa))→Option (qc [i33,i4])} {Q:X→St→Option (qc [i33,i4])} {c:Code} (hc:c=q8j) (hret: ∀st,Q .ret st=qC tt true [i33,i4] [.cell 4 33,.tmp 5] st) (h4: ∀(v50:List (Val qa)),Q (.exit 4) ⟨[u,.one (.int .i64 v36),.one (.ptr 0 0 0),u,.one (.ptr 1 0 0),u,.one (.own 2),u,u,u,u,u,u,u,u,u,u,u,u,u,u,u,u,u,u,u,u,u,u,u,u,u,u,u,u,u,u,u,u,u,u,u,u,u,u,u,u,u,u,.one (.sl 108 qa v37 3),.one (.int .i64 v38),.one (.int .i64 v39),u,u,u,u,u,u,u,u,u,u,u,u,u,u,u,u,u,u,u,u,u,u,u,u,u,u,u,u,u,u,u,u,u,u,u,u,u,u,u,u,u,u,u,u,u,u,u,u,u,u,u,u,u,u],[.box [.int .i64 v43,.sl 108 qa v44 3],.box [.int .i64 v45,.nils],.row 108 qa v50 false true 3]⟩=k4 v50): ∀(n:Nat) (v42:Int) (v46:List (Val qa)),qD (qf tt qcU (qb3 N) c) false qsi Q n ⟨[u,.one (.int .i64 v36),.one (.ptr 0 0 0),u,.one (.ptr 1 0 0),u,.one (.own 2),u,u,u,.one (.ptr 3 0 0),u,u,u,u,u,u,u,u,u,u,u,u,u,u,u,u,u,u,u,u,u,u,u,u,u,u,u,u,u,u,u,u,u,u,u,u,u,u,.one (.sl 108 qa v37 4),.one (.int .i64 v38),.one (.int .i64 v39),u,u,u,u,u,u,u,u,u,u,.one (.sl 108 qa v40 4),.one (.int .i64 v41),.one (.int .i64 v42),u,u,u,u,u,u,u,u,u,u,u,u,u,u,u,u,u,u,u,u,u,u,u,u,u,u,u,u,u,u,u,u,u,u,u,u,u,u,u,u,u],[.box [.int .i64 v43,.sl 108 qa v44 4],.box [.int .i64 v45,.nils],.row 108 qa v46 false true 4,.box [.sl 3 (.int .i64) v47 4,.int .i64 v48,.bool v49]]⟩=qg9 N v36 v37 v38 v39 v40 v41 v43 v44 v45 v47 v48 v49 k4 n v42 v46:=by
 subst hc;intro n;induction n with
 | zero=>intros;rfl
 | succ n ih=>
   intro v42 v46
   rw [qN,zjM,qg9];unfold Tryz.f237
   simp (maxSteps:=10000000) -implicitDefEqProofs [qjJ,qfH,qjI,qgQ,qlj,qgS,qlr,qgZ,qkg,qhb,qk8,qkh,qkl,qjM,qjk,qjh,qlS,qlJ,qj8,qla,qkr,qkx,qke,qkp,qkQ,qmD,qjL,qmm,qlt,qmn,qjn,qjS,qlR,qmt,qj5,qjT,qaB,qdz,qfY,hret,h4,ih]
noncomputable def q6n:Code:=cut [true,true,true,true,false,true,true,true] (Tryz.f237.body.getD .skip)
theorem zyZ {N:Nat} {Q:X→St→Option (qc [i33,i4])} {e:List LV} {h:List Blk}:qf tt qcU (qb3 N) q6n Q ⟨e,h⟩=qf tt qcU (qb3 N) (cut [true,true,true,true,false,true,true,true] (Tryz.f237.body.getD .skip)) Q ⟨e,h⟩:=rfl
theorem zlO (N:Nat) (v12:Int) (v13:List (Val qa)) (v14:Int) (v16:Int) (v17:List (Val qa)) (v18:Int) {k2:(List (Val qa))→Option (qc [i33,i4])} {Q:X→St→Option (qc [i33,i4])} {c:Code} (hc:c=q6n) (hret: ∀st,Q .ret st=qC tt true [i33,i4] [.cell 4 33,.tmp 5] st) (h2: ∀(v52:List (Val qa)),Q (.exit 2) ⟨[u,u,.one (.ptr 0 0 0),u,.one (.ptr 1 0 0),u,.one (.own 2),u,u,u,u,u,u,u,u,u,u,u,u,u,u,u,u,u,u,u,u,u,u,u,u,u,u,u,u,u,u,u,u,u,u,u,u,u,u,u,u,u,u,u,u,u,u,u,u,u,u,u,u,u,u,u,u,u,u,u,u,u,u,u,u,u,u,u,u,u,u,u,u,u,u,u,u,u,u,u,u,u,u,u,u,u,u,u,u,u,u,u,u,u,u,u,u,u,u,u],[.box [.int .i64 v16,.sl 108 qa v17 3],.box [.int .i64 v18,.nils],.row 108 qa v52 false true 3]⟩=k2 v52): ∀(n:Nat) (v15:Int) (v19:List (Val qa)),qD (qf tt qcU (qb3 N) c) false qwd Q n ⟨[u,.one (.int .i64 v12),.one (.ptr 0 0 0),u,.one (.ptr 1 0 0),u,.one (.own 2),u,u,u,u,u,u,u,u,u,u,u,u,u,u,u,u,u,u,u,u,u,u,u,u,u,u,u,u,u,u,u,u,u,u,u,u,u,u,u,u,u,u,.one (.sl 108 qa v13 3),.one (.int .i64 v14),.one (.int .i64 v15),u,u,u,u,u,u,u,u,u,u,u,u,u,u,u,u,u,u,u,u,u,u,u,u,u,u,u,u,u,u,u,u,u,u,u,u,u,u,u,u,u,u,u,u,u,u,u,u,u,u,u,u,u,u],[.box [.int .i64 v16,.sl 108 qa v17 3],.box [.int .i64 v18,.nils],.row 108 qa v19 false true 3]⟩=qfw N v12 v13 v14 v16 v17 v18 k2 n v15 v19:=by
 subst hc;intro n;induction n with
 | zero=>intros;rfl
 | succ n ih=>
   intro v15 v19
   rw [qN,zyZ];unfold Tryz.f237
   simp (maxSteps:=10000000) -implicitDefEqProofs [qjJ,qfH,qjI,qgQ,qlj,qgS,qlr,qgZ,qkg,qhb,qk8,qkh,qkl,qjM,qjk,qjh,qlS,qlJ,qj8,qla,qkr,qkx,qke,qkp,qkQ,qmD,qjL,qmm,qlt,qmn,qjn,qjS,qlR,qmt,qj5,qjT,qaB,qdz,qfY,hret,h2,ih]
   rewrite [zbG (k4:=(fun (v51:List (Val qa))=>qfw N v12 v13 v14 v16 v17 v18 k2 n (IntKind.i64.wrap (v15+(1:Int))) v51)) N _ _ _ _ _ _ _ _ _ _ _ _ ?_ ?_ ?_]
   ·rewrite [qfw];first | rfl | simp (maxSteps:=10000000) -implicitDefEqProofs [ih]
   ·rfl
   ·intro;simp only [qK,qL,qJ,qB,hret]
   ·intro v51;simp (maxSteps:=10000000) -implicitDefEqProofs [qjJ,qfH,qjI,qgQ,qlj,qgS,qlr,qgZ,qkg,qhb,qk8,qkh,qkl,qjM,qjk,qjh,qlS,qlJ,qj8,qla,qkr,qkx,qke,qkp,qkQ,qmD,qjL,qmm,qlt,qmn,qjn,qjS,qlR,qmt,qj5,qjT,qaB,qdz,qfY,hret,h2,ih]
theorem zlo (N:Nat) (v0:Val Y33) (v1:Int):qf tt qcU (qb3 N) (Tryz.f237.body.getD .skip) (qm tt true [i33,i4] [.cell 4 33,.tmp 5]) (qp [i33,i3] 106 (v0,v1,()))=qC0 N v0 v1:=by
 unfold Tryz.f237
 simp (maxSteps:=10000000) -implicitDefEqProofs [qjJ,qfH,qjI,qgQ,qlj,qgS,qlr,qgZ,qkg,qhb,qk8,qkh,qkl,qjM,qjk,qjh,qlS,qlJ,qj8,qla,qkr,qkx,qke,qkp,qkQ,qmD,qjL,qmm,qlt,qmn,qjn,qjS,qlR,qmt,qj5,qjT,qaB,qdz,qfY]
 rewrite [zrQ (k0:=(fun (v11:List (Val qa))=>qfw N v1 (v0.2:List (Val qa)) ((v0.2:List (Val qa)).length:Int) (v0.1:Int) (v0.2:List (Val qa)) (0:Int) (fun (v53:List (Val qa))=>chk (qhL (v0.1:Int) v53) (some (((((qbn (v0.1:Int) v53).1).1:Int),(((qbn (v0.1:Int) v53).1).2:List (Val qa))),((qbn (v0.1:Int) v53).2:Bool),()))) N (0:Int) v11)) N _ _ _ _ _ _ ?_ ?_ ?_]
 ·rewrite [qC0];first | rfl | simp (maxSteps:=10000000) -implicitDefEqProofs []
 ·rfl
 ·intro;simp only [qK,qL,qJ,qB]
 ·intro v11;simp (maxSteps:=10000000) -implicitDefEqProofs [qjJ,qfH,qjI,qgQ,qlj,qgS,qlr,qgZ,qkg,qhb,qk8,qkh,qkl,qjM,qjk,qjh,qlS,qlJ,qj8,qla,qkr,qkx,qke,qkp,qkQ,qmD,qjL,qmm,qlt,qmn,qjn,qjS,qlR,qmt,qj5,qjT,qaB,qdz,qfY]
  rewrite [zlO (k2:=(fun (v53:List (Val qa))=>chk (qhL (v0.1:Int) v53) (some (((((qbn (v0.1:Int) v53).1).1:Int),(((qbn (v0.1:Int) v53).1).2:List (Val qa))),((qbn (v0.1:Int) v53).2:Bool),())))) N _ _ _ _ _ _ ?_ ?_ ?_]
  ·first | rfl | simp (maxSteps:=10000000) -implicitDefEqProofs []
  ·rfl
  ·intro;simp only [qK,qL,qJ,qB]
  ·intro v53;simp (maxSteps:=10000000) -implicitDefEqProofs [qjJ,qfH,qjI,qgQ,qlj,qgS,qlr,qgZ,qkg,qhb,qk8,qkh,qkl,qjM,qjk,qjh,qlS,qlJ,qj8,qla,qkr,qkx,qke,qkp,qkQ,qmD,qjL,qmm,qlt,qmn,qjn,qjS,qlR,qmt,qj5,qjT,qaB,qdz,qfY]
noncomputable def qg5 (N:Nat) (v2:Int) (v4:Int) (v5:List (Val qa)) (v6:Int) (k0:(List (Val qa))→Option (qc [i33,i4])):Nat→Int→(List (Val qa))→Option (qc [i33,i4])
 | 0,_,_=>none
 | n+1,v3,v7=>bif (decide (v3<(v5.length:Int)))then (chk (0≤v3∧v3<(v5.length:Int)) (chk (0≤v2∧v2<(((v5.getD v3.toNat (qb qa)).1:List (Val (.int .i64))).length:Int)) (bif (decide (((((v5.getD v3.toNat (qb qa)).1:List (Val (.int .i64))).getD v2.toNat (qb (.int .i64))):Int)=(0:Int)))then (chk (0≤v3∧v3<(v5.length:Int)) (chk (v7.length+([(v5.getD v3.toNat (qb qa))]:List (Val qa)).length≤1048576) (qg5 N v2 v4 v5 v6 k0 n (IntKind.i64.wrap (v3+(1:Int))) (v7++([(v5.getD v3.toNat (qb qa))]:List (Val qa))))))else (qg5 N v2 v4 v5 v6 k0 n (IntKind.i64.wrap (v3+(1:Int))) v7))))else (k0 v7)
noncomputable def qfG (N:Nat) (v25:Int) (v26:Int) (v28:Int) (v29:List (Val qa)) (v30:Int) (k4:(List (Val qa))→Option (qc [i33,i4])):Nat→Int→(List (Val qa))→Option (qc [i33,i4])
 | 0,_,_=>none
 | n+1,v27,v31=>bif (decide (v27<(v29.length:Int)))then (chk (0≤v26∧v26<(v29.length:Int)) (chk (0≤v25∧v25<(((v29.getD v26.toNat (qb qa)).1:List (Val (.int .i64))).length:Int)) (chk (0≤v27∧v27<(v29.length:Int)) (chk (0≤v25∧v25<(((v29.getD v27.toNat (qb qa)).1:List (Val (.int .i64))).length:Int)) (bif (decide (((((v29.getD v26.toNat (qb qa)).1:List (Val (.int .i64))).getD v25.toNat (qb (.int .i64))):Int)≤(0:Int)))then (qfG N v25 v26 v28 v29 v30 k4 n (IntKind.i64.wrap (v27+(1:Int))) v31)else (bif (decide ((0:Int)≤((((v29.getD v27.toNat (qb qa)).1:List (Val (.int .i64))).getD v25.toNat (qb (.int .i64))):Int)))then (qfG N v25 v26 v28 v29 v30 k4 n (IntKind.i64.wrap (v27+(1:Int))) v31)else (chk (0≤v26∧v26<(v29.length:Int)) (chk (0≤v27∧v27<(v29.length:Int)) (chk (qEA (v29.getD v26.toNat (qb qa)) (IntKind.i64.wrap (0 - ((((v29.getD v27.toNat (qb qa)).1:List (Val (.int .i64))).getD v25.toNat (qb (.int .i64))):Int))) (v29.getD v27.toNat (qb qa)) ((((v29.getD v26.toNat (qb qa)).1:List (Val (.int .i64))).getD v25.toNat (qb (.int .i64))):Int)) (bif (!((qat (v29.getD v26.toNat (qb qa)) (IntKind.i64.wrap (0 - ((((v29.getD v27.toNat (qb qa)).1:List (Val (.int .i64))).getD v25.toNat (qb (.int .i64))):Int))) (v29.getD v27.toNat (qb qa)) ((((v29.getD v26.toNat (qb qa)).1:List (Val (.int .i64))).getD v25.toNat (qb (.int .i64))):Int)).2:Bool))then (some (((0:Int),([]:List (Val qa))),false,()))else (chk (v31.length+([((((qat (v29.getD v26.toNat (qb qa)) (IntKind.i64.wrap (0 - ((((v29.getD v27.toNat (qb qa)).1:List (Val (.int .i64))).getD v25.toNat (qb (.int .i64))):Int))) (v29.getD v27.toNat (qb qa)) ((((v29.getD v26.toNat (qb qa)).1:List (Val (.int .i64))).getD v25.toNat (qb (.int .i64))):Int)).1).1:List (Val (.int .i64))),((((qat (v29.getD v26.toNat (qb qa)) (IntKind.i64.wrap (0 - ((((v29.getD v27.toNat (qb qa)).1:List (Val (.int .i64))).getD v25.toNat (qb (.int .i64))):Int))) (v29.getD v27.toNat (qb qa)) ((((v29.getD v26.toNat (qb qa)).1:List (Val (.int .i64))).getD v25.toNat (qb (.int .i64))):Int)).1).2).1:Int),((((qat (v29.getD v26.toNat (qb qa)) (IntKind.i64.wrap (0 - ((((v29.getD v27.toNat (qb qa)).1:List (Val (.int .i64))).getD v25.toNat (qb (.int .i64))):Int))) (v29.getD v27.toNat (qb qa)) ((((v29.getD v26.toNat (qb qa)).1:List (Val (.int .i64))).getD v25.toNat (qb (.int .i64))):Int)).1).2).2:Bool))]:List (Val qa)).length≤1048576) (qfG N v25 v26 v28 v29 v30 k4 n (IntKind.i64.wrap (v27+(1:Int))) (v31++([((((qat (v29.getD v26.toNat (qb qa)) (IntKind.i64.wrap (0 - ((((v29.getD v27.toNat (qb qa)).1:List (Val (.int .i64))).getD v25.toNat (qb (.int .i64))):Int))) (v29.getD v27.toNat (qb qa)) ((((v29.getD v26.toNat (qb qa)).1:List (Val (.int .i64))).getD v25.toNat (qb (.int .i64))):Int)).1).1:List (Val (.int .i64))),((((qat (v29.getD v26.toNat (qb qa)) (IntKind.i64.wrap (0 - ((((v29.getD v27.toNat (qb qa)).1:List (Val (.int .i64))).getD v25.toNat (qb (.int .i64))):Int))) (v29.getD v27.toNat (qb qa)) ((((v29.getD v26.toNat (qb qa)).1:List (Val (.int .i64))).getD v25.toNat (qb (.int .i64))):Int)).1).2).1:Int),((((qat (v29.getD v26.toNat (qb qa)) (IntKind.i64.wrap (0 - ((((v29.getD v27.toNat (qb qa)).1:List (Val (.int .i64))).getD v25.toNat (qb (.int .i64))):Int))) (v29.getD v27.toNat (qb qa)) ((((v29.getD v26.toNat (qb qa)).1:List (Val (.int .i64))).getD v25.toNat (qb (.int .i64))):Int)).1).2).2:Bool))]:List (Val qa)))))))))))))))else (k4 v31)
noncomputable def qhx (N:Nat) (v10:Int) (v12:Int) (v13:List (Val qa)) (v14:Int) (k2:(List (Val qa))→Option (qc [i33,i4])):Nat→Int→(List (Val qa))→Option (qc [i33,i4])
 | 0,_,_=>none
 | n+1,v11,v15=>bif (decide (v11<(v13.length:Int)))then (qfG N v10 v11 v12 v13 v14 (fun (v33:List (Val qa))=>qhx N v10 v12 v13 v14 k2 n (IntKind.i64.wrap (v11+(1:Int))) v33) N (0:Int) v15)else (k2 v15)
noncomputable def qAv (N:Nat) (v0:Val Y33) (v1:Int):Option (qc [i33,i4]):=qg5 N v1 (v0.1:Int) (v0.2:List (Val qa)) (0:Int) (fun (v9:List (Val qa))=>qhx N v1 (v0.1:Int) (v0.2:List (Val qa)) (0:Int) (fun (v35:List (Val qa))=>chk (qaF (v0.1:Int) v35) (bif (decide ((16:Int)<(((qv (v0.1:Int) v35).2:List (Val qa)).length:Int)))then (some (((0:Int),([]:List (Val qa))),false,()))else (some ((qv (v0.1:Int) v35),true,())))) N (0:Int) v9) N (0:Int) ([]:List (Val qa))
def qdk:Gam:=[(150,qai),(235,qfi)]
theorem qjH:Gam.get qdk 150=some qai:=rfl
theorem ql4:Gam.get qdk 235=some qfi:=rfl
def qti:Nm:=⟨[false,true,true,false,true,false,true,true],[.und 6 0 108 qa],false⟩
theorem ql0:qti.zero=false:=rfl
theorem qj7:qti.fix=[.und 6 0 108 qa]:=rfl
theorem qmf:qti.keep=[false,true,true,false,true,false,true,true]:=rfl
def qrV:Nm:=⟨[false,true,true,false,true,false,true,false,true,true],[],false⟩
theorem qlg:qrV.zero=false:=rfl
theorem qll:qrV.fix=[]:=rfl
theorem qmH:qrV.keep=[false,true,true,false,true,false,true,false,true,true]:=rfl
def qsw:Nm:=⟨[false,true,true,false,true,false,true,false,true],[],false⟩
theorem qjf:qsw.zero=false:=rfl
theorem qmu:qsw.fix=[]:=rfl
theorem qlH:qsw.keep=[false,true,true,false,true,false,true,false,true]:=rfl
def qHn:Nm:=⟨[false,true,true,false,true,false,true],[],false⟩
theorem qk2:qHn.zero=false:=rfl
theorem qkE:qHn.fix=[]:=rfl
theorem qj9:qHn.keep=[false,true,true,false,true,false,true]:=rfl
def qzN:Nm:=⟨[false,false,true,false,true,false,true],[],false⟩
theorem qmk:qzN.zero=false:=rfl
theorem qlL:qzN.fix=[]:=rfl
theorem qlq:qzN.keep=[false,false,true,false,true,false,true]:=rfl
def qAB:Nm:=⟨[false,true,true,false,true,false,true,false,true],[],false⟩
theorem qjU:qAB.zero=false:=rfl
theorem qlU:qAB.fix=[]:=rfl
theorem qj2:qAB.keep=[false,true,true,false,true,false,true,false,true]:=rfl
def qCE:Nm:=⟨[false,true,true,false,true,false,true,false,true,true,false,false,true,true],[],false⟩
theorem qjY:qCE.zero=false:=rfl
theorem qjX:qCE.fix=[]:=rfl
theorem qk3:qCE.keep=[false,true,true,false,true,false,true,false,true,true,false,false,true,true]:=rfl
def qgm:Nat→Tree:=fun i=>if i=16 then .first 2 (.first 5 (.first 6 (.first 9 (.first 12 (.grow 0 (.grow 1 (.grow 3 (.grow 4 (.grow 7 (.grow 8 (.grow 10 (.grow 11 (.alt 13 (.first 14 (.first 15 (.first 16 (.alt 17 (.alt 18 (.quiet 19 .done) .stop) .stop)))) (.alt 17 (.alt 13 (.quiet 14 (.quiet 15 (.first 16 (.alt 18 (.quiet 19 .done) .stop)))) .stop) .stop))))))))))))))else .done
def qgI:Nat→Nm:=fun i=>if i=3 then qti else if i=11 then qrV else if i=8 then qsw else ⟨[],[],false⟩
def qg3:Nat→Option Jn:=fun _=>none
def qhI:Nat→Option Nm:=fun i=>if i=0 then some qHn else if i=2 then some qzN else if i=4 then some qAB else none
def qgO:Nat→Option Nm:=fun i=>if i=16 then some qCE else none
theorem zjo:qh qgm (Tryz.f151.body.getD .skip)=true:=by kernel_rfl
def qb5 (N:Nat):Tab:={tr:=qgm,lp:=qgI,ex:=qhI,rg:=qgO,jn:=qg3,fuel:=N}
theorem qmr (N:Nat):(qb5 N).pins=false:=rfl
theorem zzh (N:Nat):qk Tryz.prog (qb5 N):=qo fun _=>rfl
theorem qkw (N:Nat) (i:Nat):(qb5 N).tr i=qgm i:=rfl
theorem qlh (N:Nat) (i:Nat):(qb5 N).lp i=qgI i:=rfl
theorem qmx (N:Nat) (i:Nat):(qb5 N).ex i=qhI i:=rfl
theorem qlA (N:Nat) (i:Nat):(qb5 N).rg i=qgO i:=rfl
theorem qlV (N:Nat) (i:Nat):(qb5 N).jn i=qg3 i:=rfl
theorem qkv (N:Nat):(qb5 N).fuel=N:=rfl
noncomputable def q9A:Code:=cut [true,true,false,true,true,true] (Tryz.f151.body.getD .skip)
theorem zyK {N:Nat} {Q:X→St→Option (qc [i33,i4])} {e:List LV} {h:List Blk}:qf tt qdk (qb5 N) q9A Q ⟨e,h⟩=qf tt qdk (qb5 N) (cut [true,true,false,true,true,true] (Tryz.f151.body.getD .skip)) Q ⟨e,h⟩:=rfl
theorem zBa (N:Nat) (v2:Int) (v4:Int) (v5:List (Val qa)) (v6:Int) {k0:(List (Val qa))→Option (qc [i33,i4])} {Q:X→St→Option (qc [i33,i4])} {c:Code} (hc:c=q9A) (hret: ∀st,Q .ret st=qC tt false [i33,i4] [.cell 4 33,.tmp 5] st) (h0: ∀(v8:List (Val qa)),Q (.exit 0) ⟨[u,.one (.int .i64 v2),.one (.ptr 0 0 0),u,.one (.ptr 1 0 0),u,.one (.own 2),u,u,u,u,u,u,u,u,u,u,u,u,u,u,u,u,u,u,u,u,u,u,u,u,u,u,u,u,u,u,u,u,u,u,u,u,u,u,u,u,u,u,u,u,u,u,u,u,u,u,u,u,u,u,u,u,u,u,u,u,u,u,u,u,u,u,u,u,u,u,u,u,u,u,u,u,u,u,u,u,u,u,u,u,u,u,u,u,u,u,u,u,u,u,u,u,u,u,u,u,u,u,u,u,u,u],[.box [.int .i64 v4,.sl 108 qa v5 3],.box [.int .i64 v6,.nils],.row 108 qa v8 false true 3]⟩=k0 v8): ∀(n:Nat) (v3:Int) (v7:List (Val qa)),qD (qf tt qdk (qb5 N) c) false qti Q n ⟨[u,.one (.int .i64 v2),.one (.ptr 0 0 0),u,.one (.ptr 1 0 0),u,.one (.own 2),.one (.int .i64 v3),u,u,u,u,u,u,u,u,u,u,u,u,u,u,u,u,u,u,u,u,u,u,u,u,u,u,u,u,u,u,u,u,u,u,u,u,u,u,u,u,u,u,u,u,u,u,u,u,u,u,u,u,u,u,u,u,u,u,u,u,u,u,u,u,u,u,u,u,u,u,u,u,u,u,u,u,u,u,u,u,u,u,u,u,u,u,u,u,u,u,u,u,u,u,u,u,u,u,u,u,u,u,u,u,u],[.box [.int .i64 v4,.sl 108 qa v5 3],.box [.int .i64 v6,.nils],.row 108 qa v7 false true 3]⟩=qg5 N v2 v4 v5 v6 k0 n v3 v7:=by
 subst hc;intro n;induction n with
 | zero=>intros;rfl
 | succ n ih=>
   intro v3 v7
   rw [qN,zyK,qg5];unfold Tryz.f151
   simp (maxSteps:=10000000) -implicitDefEqProofs [qkw,qgm,qlh,qgI,qmx,qhI,qlA,qgO,qlV,qg3,qkv,qmr,qj7,qmf,ql0,qll,qmH,qlg,qmu,qlH,qjf,qkE,qj9,qk2,qlL,qlq,qmk,qlU,qj2,qjU,qjX,qk3,qjY,qjH,ql4,qai,qfi,hret,h0,ih]
noncomputable def q5q:Code:=cut [true,true,true,false,true,true,true,true,false,true,true,true,true] (Tryz.f151.body.getD .skip)
theorem zi3 {N:Nat} {Q:X→St→Option (qc [i33,i4])} {e:List LV} {h:List Blk}:qf tt qdk (qb5 N) q5q Q ⟨e,h⟩=qf tt qdk (qb5 N) (cut [true,true,true,false,true,true,true,true,false,true,true,true,true] (Tryz.f151.body.getD .skip)) Q ⟨e,h⟩:=rfl
theorem zdU (N:Nat) (v25:Int) (v26:Int) (v28:Int) (v29:List (Val qa)) (v30:Int) {k4:(List (Val qa))→Option (qc [i33,i4])} {Q:X→St→Option (qc [i33,i4])} {c:Code} (hc:c=q5q) (hret: ∀st,Q .ret st=qC tt false [i33,i4] [.cell 4 33,.tmp 5] st) (h4: ∀(v32:List (Val qa)),Q (.exit 4) ⟨[u,.one (.int .i64 v25),.one (.ptr 0 0 0),u,.one (.ptr 1 0 0),u,.one (.own 2),u,.one (.int .i64 v26),u,u,u,u,u,u,u,u,u,u,u,u,u,u,u,u,u,u,u,u,u,u,u,u,u,u,u,u,u,u,u,u,u,u,u,u,u,u,u,u,u,u,u,u,u,u,u,u,u,u,u,u,u,u,u,u,u,u,u,u,u,u,u,u,u,u,u,u,u,u,u,u,u,u,u,u,u,u,u,u,u,u,u,u,u,u,u,u,u,u,u,u,u,u,u,u,u,u,u,u,u,u,u,u],[.box [.int .i64 v28,.sl 108 qa v29 3],.box [.int .i64 v30,.nils],.row 108 qa v32 false true 3]⟩=k4 v32): ∀(n:Nat) (v27:Int) (v31:List (Val qa)),qD (qf tt qdk (qb5 N) c) false qrV Q n ⟨[u,.one (.int .i64 v25),.one (.ptr 0 0 0),u,.one (.ptr 1 0 0),u,.one (.own 2),u,.one (.int .i64 v26),.one (.int .i64 v27),u,u,u,u,u,u,u,u,u,u,u,u,u,u,u,u,u,u,u,u,u,u,u,u,u,u,u,u,u,u,u,u,u,u,u,u,u,u,u,u,u,u,u,u,u,u,u,u,u,u,u,u,u,u,u,u,u,u,u,u,u,u,u,u,u,u,u,u,u,u,u,u,u,u,u,u,u,u,u,u,u,u,u,u,u,u,u,u,u,u,u,u,u,u,u,u,u,u,u,u,u,u,u],[.box [.int .i64 v28,.sl 108 qa v29 3],.box [.int .i64 v30,.nils],.row 108 qa v31 false true 3]⟩=qfG N v25 v26 v28 v29 v30 k4 n v27 v31:=by
 subst hc;intro n;induction n with
 | zero=>intros;rfl
 | succ n ih=>
   intro v27 v31
   rw [qN,zi3,qfG];unfold Tryz.f151
   simp (maxSteps:=10000000) -implicitDefEqProofs [qkw,qgm,qlh,qgI,qmx,qhI,qlA,qgO,qlV,qg3,qkv,qmr,qj7,qmf,ql0,qll,qmH,qlg,qmu,qlH,qjf,qkE,qj9,qk2,qlL,qlq,qmk,qlU,qj2,qjU,qjX,qk3,qjY,qjH,ql4,qai,qfi,hret,h4,ih]
noncomputable def q46:Code:=cut [true,true,true,false,true,true,true] (Tryz.f151.body.getD .skip)
theorem zuq {N:Nat} {Q:X→St→Option (qc [i33,i4])} {e:List LV} {h:List Blk}:qf tt qdk (qb5 N) q46 Q ⟨e,h⟩=qf tt qdk (qb5 N) (cut [true,true,true,false,true,true,true] (Tryz.f151.body.getD .skip)) Q ⟨e,h⟩:=rfl
theorem zc7 (N:Nat) (v10:Int) (v12:Int) (v13:List (Val qa)) (v14:Int) {k2:(List (Val qa))→Option (qc [i33,i4])} {Q:X→St→Option (qc [i33,i4])} {c:Code} (hc:c=q46) (hret: ∀st,Q .ret st=qC tt false [i33,i4] [.cell 4 33,.tmp 5] st) (h2: ∀(v34:List (Val qa)),Q (.exit 2) ⟨[u,u,.one (.ptr 0 0 0),u,.one (.ptr 1 0 0),u,.one (.own 2),u,u,u,u,u,u,u,u,u,u,u,u,u,u,u,u,u,u,u,u,u,u,u,u,u,u,u,u,u,u,u,u,u,u,u,u,u,u,u,u,u,u,u,u,u,u,u,u,u,u,u,u,u,u,u,u,u,u,u,u,u,u,u,u,u,u,u,u,u,u,u,u,u,u,u,u,u,u,u,u,u,u,u,u,u,u,u,u,u,u,u,u,u,u,u,u,u,u,u,u,u,u,u,u,u,u],[.box [.int .i64 v12,.sl 108 qa v13 3],.box [.int .i64 v14,.nils],.row 108 qa v34 false true 3]⟩=k2 v34): ∀(n:Nat) (v11:Int) (v15:List (Val qa)),qD (qf tt qdk (qb5 N) c) false qsw Q n ⟨[u,.one (.int .i64 v10),.one (.ptr 0 0 0),u,.one (.ptr 1 0 0),u,.one (.own 2),u,.one (.int .i64 v11),u,u,u,u,u,u,u,u,u,u,u,u,u,u,u,u,u,u,u,u,u,u,u,u,u,u,u,u,u,u,u,u,u,u,u,u,u,u,u,u,u,u,u,u,u,u,u,u,u,u,u,u,u,u,u,u,u,u,u,u,u,u,u,u,u,u,u,u,u,u,u,u,u,u,u,u,u,u,u,u,u,u,u,u,u,u,u,u,u,u,u,u,u,u,u,u,u,u,u,u,u,u,u,u],[.box [.int .i64 v12,.sl 108 qa v13 3],.box [.int .i64 v14,.nils],.row 108 qa v15 false true 3]⟩=qhx N v10 v12 v13 v14 k2 n v11 v15:=by
 subst hc;intro n;induction n with
 | zero=>intros;rfl
 | succ n ih=>
   intro v11 v15
   rw [qN,zuq];unfold Tryz.f151
   simp (maxSteps:=10000000) -implicitDefEqProofs [qkw,qgm,qlh,qgI,qmx,qhI,qlA,qgO,qlV,qg3,qkv,qmr,qj7,qmf,ql0,qll,qmH,qlg,qmu,qlH,qjf,qkE,qj9,qk2,qlL,qlq,qmk,qlU,qj2,qjU,qjX,qk3,qjY,qjH,ql4,qai,qfi,hret,h2,ih]
   rewrite [zdU (k4:=(fun (v33:List (Val qa))=>qhx N v10 v12 v13 v14 k2 n (IntKind.i64.wrap (v11+(1:Int))) v33)) N _ _ _ _ _ ?_ ?_ ?_]
   ·rewrite [qhx];first | rfl | simp (maxSteps:=10000000) -implicitDefEqProofs [ih]
   ·rfl
   ·intro;simp only [qK,qL,qJ,qB,hret]
   ·intro v33;simp (maxSteps:=10000000) -implicitDefEqProofs [qkw,qgm,qlh,qgI,qmx,qhI,qlA,qgO,qlV,qg3,qkv,qmr,qj7,qmf,ql0,qll,qmH,qlg,qmu,qlH,qjf,qkE,qj9,qk2,qlL,qlq,qmk,qlU,qj2,qjU,qjX,qk3,qjY,qjH,ql4,qai,qfi,hret,h2,ih]
theorem zqN (N:Nat) (v0:Val Y33) (v1:Int):qf tt qdk (qb5 N) (Tryz.f151.body.getD .skip) (qm tt false [i33,i4] [.cell 4 33,.tmp 5]) (qp [i33,i3] 113 (v0,v1,()))=qAv N v0 v1:=by
 unfold Tryz.f151
 simp (maxSteps:=10000000) -implicitDefEqProofs [qkw,qgm,qlh,qgI,qmx,qhI,qlA,qgO,qlV,qg3,qkv,qmr,qj7,qmf,ql0,qll,qmH,qlg,qmu,qlH,qjf,qkE,qj9,qk2,qlL,qlq,qmk,qlU,qj2,qjU,qjX,qk3,qjY,qjH,ql4,qai,qfi]
 rewrite [zBa (k0:=(fun (v9:List (Val qa))=>qhx N v1 (v0.1:Int) (v0.2:List (Val qa)) (0:Int) (fun (v35:List (Val qa))=>chk (qaF (v0.1:Int) v35) (bif (decide ((16:Int)<(((qv (v0.1:Int) v35).2:List (Val qa)).length:Int)))then (some (((0:Int),([]:List (Val qa))),false,()))else (some ((qv (v0.1:Int) v35),true,())))) N (0:Int) v9)) N _ _ _ _ ?_ ?_ ?_]
 ·rewrite [qAv];first | rfl | simp (maxSteps:=10000000) -implicitDefEqProofs []
 ·rfl
 ·intro;simp only [qK,qL,qJ,qB]
 ·intro v9;simp (maxSteps:=10000000) -implicitDefEqProofs [qkw,qgm,qlh,qgI,qmx,qhI,qlA,qgO,qlV,qg3,qkv,qmr,qj7,qmf,ql0,qll,qmH,qlg,qmu,qlH,qjf,qkE,qj9,qk2,qlL,qlq,qmk,qlU,qj2,qjU,qjX,qk3,qjY,qjH,ql4,qai,qfi]
  rewrite [zc7 (k2:=(fun (v35:List (Val qa))=>chk (qaF (v0.1:Int) v35) (bif (decide ((16:Int)<(((qv (v0.1:Int) v35).2:List (Val qa)).length:Int)))then (some (((0:Int),([]:List (Val qa))),false,()))else (some ((qv (v0.1:Int) v35),true,()))))) N _ _ _ _ ?_ ?_ ?_]
  ·first | rfl | simp (maxSteps:=10000000) -implicitDefEqProofs []
  ·rfl
  ·intro;simp only [qK,qL,qJ,qB]
  ·intro v35;simp (maxSteps:=10000000) -implicitDefEqProofs [qkw,qgm,qlh,qgI,qmx,qhI,qlA,qgO,qlV,qg3,qkv,qmr,qj7,qmf,ql0,qll,qmH,qlg,qmu,qlH,qjf,qkE,qj9,qk2,qlL,qlq,qmk,qlU,qj2,qjU,qjX,qk3,qjY,qjH,ql4,qai,qfi]
def okD (d:Int) (a:Val qa):Prop:=okA a∧(List.length (α:=Int) a.1:Int)=d
abbrev qn1:Option (qc [i33,i4]):=some (((0:Int),([]:List (Val qa))),false,())
theorem qjm (v:Int) (a:Val qa):List.getD (α:=Val (.int .i64)) a.1 v.toNat (qb (.int .i64))=cfV v a:=rfl
theorem qBg {v:Int} {a:Val qa} (h:okA a): -400000000≤cfV v a∧cfV v a≤400000000:=by
 unfold cfV
 by_cases hv:v.toNat<List.length (α:=Int) a.1
 ·rw [List.getD_eq_getElem?_getD,List.getElem?_eq_getElem hv]
  exact qlz h _ (List.getElem_mem hv)
 ·rw [List.getD_eq_getElem?_getD,List.getElem?_eq_none (by omega)]
  exact ⟨by decide,by decide⟩
theorem q7t {co:List Int} {k:Int} {s:Bool} (h:(qw co k s).2=true):okA (qw co k s).1∧List.length (α:=Int) (qw co k s).1.1=co.length:=by
 unfold qw qXN at*
 generalize max 1 (gL k.natAbs co)=g at*
 cases hb:qP (List.map (α:=Int) (fun x=>x.tdiv (g:Int)) co,k.tdiv (g:Int),s)with
 | true=>exact ⟨hb,by simp⟩
 | false=>rw [hb]at h;simp at h
theorem zr9 {d p q:Int} {a b:Val qa} (ha:okD d a) (hb:okD d b) (h:(qat a p b q).2=true):okD d (qat a p b q).1:=by
 unfold qat at*
 cases hc:(qP a&&qP b&&decide (List.length (α:=Int) a.1=List.length (α:=Int) b.1)&&inR p 0 400000000&&inR q 0 400000000)with
 | false=>rw [hc]at h;simp at h
 | true=>
   rw [hc]at h
   obtain ⟨h1,h2⟩:=q7t h
   simp only [Bool.and_eq_true,decide_eq_true_eq]at hc
   refine ⟨h1,?_⟩
   have:=ha.2
   have e:=qYp (p:=p) (q:=q) hc.1.1.2
   show (List.length (α:=Int) (qw (qey p q a.1 b.1) _ _).1.1:Int)=d
   rw [h2,e];exact this
theorem qqu {v d:Int} {a:Val qa} (ha:okD d a): ∀{xs s s':List (Val qa)},(∀b∈xs,okD d b)→(∀b∈s,okD d b)→qdY v a xs s=some s'→(∀b∈s',okD d b)∧s'.length≤s.length+xs.length
 | [],s,s',_,hs,h=>by simp only [qdY,Option.some.injEq]at h;subst h;exact ⟨hs,by simp⟩
 | b::r,s,s',hx,hs,h=>by
   simp only [qdY]at h
   cases hn:decide (cfV v b<0)with
   | false=>
     rw [hn]at h
     obtain ⟨h1,h2⟩:=qqu ha (fun c hc=>hx c (by simp [hc])) hs h
     exact ⟨h1,by simp;omega⟩
   | true=>
     rw [hn]at h
     cases hm:(qat a (-cfV v b) b (cfV v a)).2 with
     | false=>rw [hm]at h;simp at h
     | true=>
       rw [hm]at h
       simp only [cond_true]at h
       obtain ⟨h1,h2⟩:=qqu ha (fun c hc=>hx c (by simp [hc])) (fun c hc=>by
        rcases List.mem_append.1 hc with hc | hc
        ·exact hs c hc
        ·simp only [List.mem_singleton]at hc;subst hc;exact zr9 ha (hx b (by simp)) hm) h
       exact ⟨h1,by simp at h2 ⊢;omega⟩
theorem q2l {v d:Int} {l:List (Val qa)} (hl: ∀b∈l,okD d b): ∀{xs s s':List (Val qa)},(∀b∈xs,okD d b)→(∀b∈s,okD d b)→qcT v l xs s=some s'→(∀b∈s',okD d b)∧s'.length≤s.length+xs.length*l.length
 | [],s,s',_,hs,h=>by simp only [qcT,Option.some.injEq]at h;subst h;exact ⟨hs,by simp⟩
 | a::r,s,s',hx,hs,h=>by
   simp only [qcT]at h
   cases hn:decide (0<cfV v a)with
   | false=>
     rw [hn]at h
     obtain ⟨h1,h2⟩:=q2l hl (fun c hc=>hx c (by simp [hc])) hs h
     exact ⟨h1,by simp [Nat.add_mul];omega⟩
   | true=>
     rw [hn]at h
     simp only [cond_true]at h
     cases hm:qdY v a l s with
     | none=>rw [hm]at h;simp at h
     | some s1=>
       rw [hm]at h
       obtain ⟨g1,g2⟩:=qqu (hx a (by simp)) hl hs hm
       obtain ⟨h1,h2⟩:=q2l hl (fun c hc=>hx c (by simp [hc])) g1 h
       exact ⟨h1,by simp [Nat.add_mul];omega⟩
theorem qC1 {ρ:Type} {v:Int} {k:List (Val qa)→Option ρ}: ∀(xs:List (Val qa)) (i:Nat) (s:List (Val qa)),s.length+xs.length≤1048576→
 qad (fun _ (x:Val qa) (s:List (Val qa)) K=>bif decide (cfV v x=0)then chk (s.length+[x].length≤1048576) (K (s++[x]))else K s) i xs s k=k (s++xs.filter fun a=>decide (cfV v a=0))
 | [],_,s,_=>by rw [qad];simp
 | x::xs,i,s,h=>by
   simp only [List.length_cons]at h
   rw [qad,List.filter_cons]
   cases hb:decide (cfV v x=0)with
   | true=>simp only [cond_true];rw [qe (by simp;omega),qC1 xs _ _ (by simp;omega)];simp
   | false=>simp only [cond_false];rw [qC1 xs _ _ (by omega)];simp
theorem qEC {ρ:Type} {v:Int} {a:Val qa} {r:Option ρ} {k:List (Val qa)→Option ρ}: ∀(xs:List (Val qa)) (i:Nat) (s:List (Val qa)),s.length+xs.length≤1048576→
 qad (fun _ (b:Val qa) (s:List (Val qa)) K=>bif decide (0≤cfV v b)then K s else bif !(qat a (-cfV v b) b (cfV v a)).2 then r else chk (s.length+[(qat a (-cfV v b) b (cfV v a)).1].length≤1048576) (K (s++[(qat a (-cfV v b) b (cfV v a)).1]))) i xs s k=match qdY v a xs s with
  | some s'=>k s'
  | none=>r
 | [],_,s,_=>by rw [qad];rfl
 | b::xs,i,s,h=>by
   simp only [List.length_cons]at h
   rw [qad,qdY]
   by_cases hb:cfV v b<0
   ·rw [qi (show ¬0≤cfV v b by omega),qj hb]
    cases hm:(qat a (-cfV v b) b (cfV v a)).2 with
    | false=>rfl
    | true=>
      simp only [Bool.not_true,cond_false,cond_true]
      rw [qe (by simp;omega)]
      exact qEC xs _ _ (by simp;omega)
   ·rw [qj (show 0≤cfV v b by omega),qi hb]
    exact qEC xs _ _ (by omega)
theorem zrv (N:Nat) (d v:Int) (l:List (Val qa)) (hv:0≤v∧v<d) (hl:l.length≤1048576) (h: ∀b∈l,okD d b) (K:List (Val qa)→Option (qc [i33,i4])) (n:Nat) (hn:l.length<n):
 qgx N v l l.length d l 0 K n 0 []=K (l.filter fun a=>decide (cfV v a=0)):=
 (qaZ (xs:=l) (F:=fun n i s=>qgx N v l l.length d l 0 K n i s) (step:=fun _ (x:Val qa) (s:List (Val qa)) K=>bif decide (cfV v x=0)then chk (s.length+[x].length≤1048576) (K (s++[x]))else K s) (k:=K) hl (fun n i s hi=>by
   have hd:=(h _ (List.getElem_mem hi)).2
   rw [qgx,qj (by omega),qe (by omega),qI hi,qe ⟨hv.1,by rw [show (List.length (α:=Val (.int .i64)) l[i].1:Int)=d from hd];exact hv.2⟩]
   try rfl) (fun n i s hi=>by rw [qgx,qi (by omega)]) n [] hn).trans (qC1 l 0 [] (by simpa using hl))
theorem zs5 (N:Nat) (d v:Int) (l:List (Val qa)) (hv:0≤v∧v<d) (hl:l.length≤1048576) (h: ∀b∈l,okD d b) (a:Val qa) (ha:okD d a) (i0:Int) (K:List (Val qa)→Option (qc [i33,i4])) (n:Nat) (hn:l.length<n) (s:List (Val qa)) (hs:s.length+l.length≤1048576):
 qg9 N v l l.length i0 l l.length d l 0 a.1 a.2.1 a.2.2 K n 0 s=match qdY v a l s with
  | some s'=>K s'
  | none=>qn1:=
 (qaZ (xs:=l) (F:=fun n i s=>qg9 N v l l.length i0 l l.length d l 0 a.1 a.2.1 a.2.2 K n i s) (step:=fun _ (b:Val qa) (s:List (Val qa)) K=>bif decide (0≤cfV v b)then K s else bif !(qat a (-cfV v b) b (cfV v a)).2 then qn1 else chk (s.length+[(qat a (-cfV v b) b (cfV v a)).1].length≤1048576) (K (s++[(qat a (-cfV v b) b (cfV v a)).1]))) (k:=K) hl (fun n i s hi=>by
   have hb:=h _ (List.getElem_mem hi)
   have hbd:=hb.2
   have had:=ha.2
   have hc:=qBg (v:=v) hb.1
   rw [qg9,qj (by omega),qe (by omega),qI hi,qe ⟨hv.1,by rw [show (List.length (α:=Val (.int .i64)) l[i].1:Int)=d from hbd];exact hv.2⟩,qe ⟨hv.1,by rw [show (List.length (α:=Val (.int .i64)) l[i].1:Int)=d from hbd];exact hv.2⟩,qe ⟨hv.1,by rw [show (List.length (α:=Val (.int .i64)) a.1:Int)=d from had];exact hv.2⟩,qjm,qjm,qek (by unfold inI;omega)]
   try rfl) (fun n i s hi=>by rw [qg9,qi (by omega)]) n s hn).trans (qEC l 0 s hs)
theorem qT7 (N:Nat) (d v:Int) (l:List (Val qa)) (hv:0≤v∧v<d) (hl:l.length≤16) (h: ∀b∈l,okD d b) (hN:l.length<N) (K:List (Val qa)→Option (qc [i33,i4])): ∀(k i:Nat),l.length - i=k→ ∀n,k<n→ ∀s:List (Val qa),s.length+k*l.length≤1000→(∀b∈s,okD d b)→
 qfw N v l l.length d l 0 K n i s=match qcT v l (l.drop i) s with
  | some s'=>K s'
  | none=>qn1
 | 0,i,hi,n+1,_,s,_,_=>by
   rw [qfw,qi (by omega),List.drop_eq_nil_of_le (by omega)]
   rfl
 | k+1,i,hi,n+1,hn,s,hs,hsd=>by
   have h1:i<l.length:=by omega
   have ha:=h _ (List.getElem_mem h1)
   have had:=ha.2
   have hk:s.length+(k*l.length+l.length)≤1000:=by rw [Nat.add_mul,Nat.one_mul]at hs;exact hs
   rw [qfw,qj (by omega),qe (by omega),qI h1,qe ⟨hv.1,by rw [show (List.length (α:=Val (.int .i64)) l[i].1:Int)=d from had];exact hv.2⟩,qjm,qbr h1 (by omega),qbE h1,qcT]
   by_cases hc:0<cfV v l[i]
   ·rw [qi (show ¬cfV v l[i]≤0 by omega),qj hc,zs5 N d v l hv (by omega) h l[i] ha _ _ N hN s (by omega)]
    cases hm:qdY v l[i] l s with
    | none=>rfl
    | some s1=>
      obtain ⟨g1,g2⟩:=qqu ha h hsd hm
      exact qT7 N d v l hv hl h hN K k (i+1) (by omega) n (by omega) s1 (by omega) g1
   ·rw [qj (show cfV v l[i]≤0 by omega),qi hc]
    exact qT7 N d v l hv hl h hN K k (i+1) (by omega) n (by omega) s (by omega) hsd
theorem qMy {d v:Int} {l s:List (Val qa)} (hd:0≤d∧d≤4) (hl:l.length≤16) (h: ∀b∈l,okD d b) (hm:qcT v l l (l.filter fun a=>decide (cfV v a=0))=some s):okL d s:=by
 have hf:=List.length_filter_le (fun a:Val qa=>decide (cfV v a=0)) l
 obtain ⟨g1,g2⟩:=q2l h h (fun b hb=>h b (List.mem_filter.1 hb).1) hm
 have:l.length*l.length≤16*16:=Nat.mul_le_mul hl hl
 exact ⟨hd,by omega,g1⟩
theorem zej (c:Val Y33) (v:Int): ∃N,qC0 N c v=some ((qcF c v).1,(qcF c v).2,()):=⟨List.length (α:=Val qa) c.2+1,by
 rw [qC0]
 unfold qcF
 cases hc:qz c with
 | false=>rfl
 | true=>
 obtain ⟨hd,hl,hok⟩:=qaG hc
 simp only [Bool.not_true,cond_false,Bool.true_and]
 by_cases h1:v<0
 ·rw [qj h1,decide_eq_false (by omega)];rfl
 rw [qi h1]
 by_cases h2:(c.1:Int)≤v
 ·rw [qj h2,decide_eq_false (fun h=>absurd h.2 (Int.not_lt.2 h2))];rfl
 have hv:0≤v∧v<(c.1:Int):=⟨by omega,Int.not_le.1 h2⟩
 rw [qi h2,decide_eq_true hv]
 have hf:=List.length_filter_le (fun a:Val qa=>decide (cfV v a=0)) c.2
 have hll:List.length (α:=Val qa) c.2*List.length (α:=Val qa) c.2≤16*16:=Nat.mul_le_mul hl hl
 rw [zrv _ c.1 v c.2 hv (by omega) hok _ _ (Nat.lt_succ_self _)]
 have hfs: ∀b∈List.filter (α:=Val qa) (fun a=>decide (cfV v a=0)) c.2,okD c.1 b:=fun b hb=>hok b (List.mem_filter.1 hb).1
 unfold qaq
 generalize hS:List.filter (α:=Val qa) (fun a=>decide (cfV v a=0)) c.2=S at hf hfs ⊢
 refine (qT7 _ c.1 v c.2 hv hl hok (Nat.lt_succ_self _) _ (List.length (α:=Val qa) c.2) 0 rfl _ (Nat.lt_succ_self _) S (by have h5:S.length≤List.length (α:=Val qa) c.2:=hf;omega) hfs).trans ?_
 rw [List.drop_zero]
 simp only [cond_true]
 cases hm:qcT v c.2 c.2 S with
 | none=>rfl
 | some s=>
   dsimp only
   rw [qe (show qhL c.1 s from qMy hd hl hok (hS▸hm))]⟩
theorem zaP:Sound Tryz.prog 237 qeM:=qr (tt:=tt) (Γ:=qcU) hT (qg qjP (qg q9C (qg zzm qn))) hm (fn:=Tryz.f237) Tryz.func237 (c:=Tryz.f237.body.getD .skip) (by kernel_rfl) (by kernel_rfl) fun x hx=>by
 obtain ⟨N,h⟩:=zej x.1 x.2.1
 exact ⟨qb3 N,zqs,qu _,zyC N,(zlo N x.1 x.2.1).trans h⟩
theorem zaj {ρ α σ:Type} {k:σ→Option ρ}: ∀(xs:List α) (i:Nat) (s:σ),qad (fun _ (_:α) (s:σ) (K:σ→Option ρ)=>K s) i xs s k=k s
 | [],_,_=>rfl
 | _::xs,i,s=>by rw [qad];exact zaj xs _ s
theorem zAe (N:Nat) (d v:Int) (l:List (Val qa)) (hv:0≤v∧v<d) (hl:l.length≤1048576) (h: ∀b∈l,okD d b) (K:List (Val qa)→Option (qc [i33,i4])) (n:Nat) (hn:l.length<n):
 qg5 N v d l 0 K n 0 []=K (l.filter fun a=>decide (cfV v a=0)):=
 (qaZ (xs:=l) (F:=fun n i s=>qg5 N v d l 0 K n i s) (step:=fun _ (x:Val qa) (s:List (Val qa)) K=>bif decide (cfV v x=0)then chk (s.length+[x].length≤1048576) (K (s++[x]))else K s) (k:=K) hl (fun n i s hi=>by
   have hd:=(h _ (List.getElem_mem hi)).2
   rw [qg5,qj (by omega),qe (by omega),qI hi,qe ⟨hv.1,by rw [show (List.length (α:=Val (.int .i64)) l[i].1:Int)=d from hd];exact hv.2⟩,qe (by omega)]
   try rfl) (fun n i s hi=>by rw [qg5,qi (by omega)]) n [] hn).trans (qC1 l 0 [] (by simpa using hl))
theorem zq4 (N:Nat) (d v:Int) (l:List (Val qa)) (hv:0≤v∧v<d) (hl:l.length≤1048576) (h: ∀b∈l,okD d b) (i0:Nat) (h0:i0<l.length) (K:List (Val qa)→Option (qc [i33,i4])) (n:Nat) (hn:l.length<n) (s:List (Val qa)) (hs:s.length+l.length≤1048576):
 qfG N v i0 d l 0 K n 0 s=bif decide (0<cfV v l[i0])then (match qdY v l[i0] l s with
  | some s'=>K s'
  | none=>qn1)else K s:=by
 refine (qaZ (xs:=l) (F:=fun n i s=>qfG N v i0 d l 0 K n i s) (step:=fun _ (b:Val qa) (s:List (Val qa)) K=>bif decide (cfV v l[i0]≤0)then K s else bif decide (0≤cfV v b)then K s else bif !(qat l[i0] (-cfV v b) b (cfV v l[i0])).2 then qn1 else chk (s.length+[(qat l[i0] (-cfV v b) b (cfV v l[i0])).1].length≤1048576) (K (s++[(qat l[i0] (-cfV v b) b (cfV v l[i0])).1]))) (k:=K) hl (fun n i s hi=> ?_) (fun n i s hi=>by rw [qfG,qi (by omega)]) n s hn).trans ?_
 ·have ha:=h _ (List.getElem_mem h0)
  have hb:=h _ (List.getElem_mem hi)
  have hbd:=hb.2
  have had:=ha.2
  have hc:=qBg (v:=v) hb.1
  have p1:qbF l[i0]:=by have:=(qbb ha.1).1;show List.length (α:=Val (.int .i64)) l[i0].1≤1048576;exact Nat.le_trans this (by decide)
  have p2:qbF l[i]:=by have:=(qbb hb.1).1;show List.length (α:=Val (.int .i64)) l[i].1≤1048576;exact Nat.le_trans this (by decide)
  rw [qfG,qj (by omega),qI h0,qI hi]
  have ng:IntKind.i64.wrap (0 - cfV v l[i])= -cfV v l[i]:=qek (by unfold inI;omega)
  rw [qjm v l[i0],qjm v l[i],ng,qe (by omega),qe ⟨hv.1,by rw [show (List.length (α:=Val (.int .i64)) l[i0].1:Int)=d from had];exact hv.2⟩,qe (by omega),qe ⟨hv.1,by rw [show (List.length (α:=Val (.int .i64)) l[i].1:Int)=d from hbd];exact hv.2⟩,qe (by omega),qe (by omega),qe (show qEA l[i0] _ l[i] _ from ⟨p1,p2⟩)]
  try rfl
 ·by_cases hx:0<cfV v l[i0]
  ·rw [qj hx,decide_eq_false (show ¬cfV v l[i0]≤0 by omega)]
   exact qEC l 0 s hs
  ·rw [qi hx,decide_eq_true (show cfV v l[i0]≤0 by omega)]
   exact zaj l 0 s
theorem qUv (N:Nat) (d v:Int) (l:List (Val qa)) (hv:0≤v∧v<d) (hl:l.length≤16) (h: ∀b∈l,okD d b) (hN:l.length<N) (K:List (Val qa)→Option (qc [i33,i4])): ∀(k i:Nat),l.length - i=k→ ∀n,k<n→ ∀s:List (Val qa),s.length+k*l.length≤1000→(∀b∈s,okD d b)→
 qhx N v d l 0 K n i s=match qcT v l (l.drop i) s with
  | some s'=>K s'
  | none=>qn1
 | 0,i,hi,n+1,_,s,_,_=>by
   rw [qhx,qi (by omega),List.drop_eq_nil_of_le (by omega)]
   rfl
 | k+1,i,hi,n+1,hn,s,hs,hsd=>by
   have h1:i<l.length:=by omega
   have ha:=h _ (List.getElem_mem h1)
   have hk:s.length+(k*l.length+l.length)≤1000:=by rw [Nat.add_mul,Nat.one_mul]at hs;exact hs
   rw [qhx,qj (by omega),qbr h1 (by omega),qbE h1,qcT,zq4 N d v l hv (by omega) h i h1 _ N hN s (by omega)]
   by_cases hc:0<cfV v l[i]
   ·rw [qj hc,qj hc]
    cases hm:qdY v l[i] l s with
    | none=>rfl
    | some s1=>
      obtain ⟨g1,g2⟩:=qqu ha h hsd hm
      exact qUv N d v l hv hl h hN K k (i+1) (by omega) n (by omega) s1 (by omega) g1
   ·rw [qi hc,qi hc]
    exact qUv N d v l hv hl h hN K k (i+1) (by omega) n (by omega) s (by omega) hsd
theorem zdp (c:Val Y33) (v:Int) (h:qnN c v): ∃N,qAv N c v=some ((qaq c v).1,(qaq c v).2,()):=⟨List.length (α:=Val qa) c.2+1,by
 obtain ⟨hc,hv⟩:=h
 rw [qAv]
 obtain ⟨hd,hl,hok⟩:=qaG hc
 have hf:=List.length_filter_le (fun a:Val qa=>decide (cfV v a=0)) c.2
 have hll:List.length (α:=Val qa) c.2*List.length (α:=Val qa) c.2≤16*16:=Nat.mul_le_mul hl hl
 rw [zAe _ c.1 v c.2 hv (by omega) hok _ _ (Nat.lt_succ_self _)]
 have hfs: ∀b∈List.filter (α:=Val qa) (fun a=>decide (cfV v a=0)) c.2,okD c.1 b:=fun b hb=>hok b (List.mem_filter.1 hb).1
 unfold qaq
 generalize hS:List.filter (α:=Val qa) (fun a=>decide (cfV v a=0)) c.2=S at hf hfs ⊢
 refine (qUv _ c.1 v c.2 hv hl hok (Nat.lt_succ_self _) _ (List.length (α:=Val qa) c.2) 0 rfl _ (Nat.lt_succ_self _) S (by have h5:S.length≤List.length (α:=Val qa) c.2:=hf;omega) hfs).trans ?_
 rw [List.drop_zero]
 cases hm:qcT v c.2 c.2 S with
 | none=>rfl
 | some s=>
   dsimp only
   rw [qe (show qaF c.1 s from qMy hd hl hok (hS▸hm))]
   unfold qbn
   cases decide ((16:Int)<(List.length (α:=Val qa) (qv c.1 s).2:Int))<;>rfl⟩
theorem q7Y:Sound Tryz.prog 151 qeI:=qr (tt:=tt) (Γ:=qdk) hT (qg qhd (qg zf0 qn)) hm (fn:=Tryz.f151) Tryz.func151 (c:=Tryz.f151.body.getD .skip) (by kernel_rfl) (by kernel_rfl) fun x hx=>by
 obtain ⟨N,h⟩:=zdp x.1 x.2.1 hx
 exact ⟨qb5 N,zjo,qu _,zzh N,(zqN N x.1 x.2.1).trans h⟩
end Go.T
