/- Dropping variables. -/
import Derived.Test.YthefcjjgchekiaaGreatB6n
import Derived.Test.YthefcjjgchekiaaGreatB8
set_option linter.unusedSimpArgs false
set_option linter.unusedVariables false
namespace Go.T
open Go Go.Proofs
set_option maxHeartbeats 4000000
set_option maxRecDepth 100000
def cfV (v:Int) (a:Val qa):Int:=List.getD (α:=Int) a.1 v.toNat 0
def qb1 (v:Int) (a:Val qa):List (Val qa)→List (Val qa)→Option (List (Val qa))
 | [],s=>some s
 | b::r,s=>bif decide (cfV v b<0)then (bif (q4 a (-cfV v b) b (cfV v a)).2 then qb1 v a r (s++[(q4 a (-cfV v b) b (cfV v a)).1])else none)else qb1 v a r s
def qbQ (v:Int) (l:List (Val qa)):List (Val qa)→List (Val qa)→Option (List (Val qa))
 | [],s=>some s
 | a::r,s=>bif decide (0<cfV v a)then (match qb1 v a l s with
   | some s'=>qbQ v l r s'
   | none=>none)else qbQ v l r s
def qU (c:Val Y33) (v:Int):Val Y33×Bool:=match qbQ v c.2 c.2 (List.filter (α:=Val qa) (fun a=>decide (cfV v a=0)) c.2)with
 | some l=>qbi c.1 l
 | none=>(((0:Int),[]),false)
def qnm (c:Val Y33) (v:Int):Prop:=qH c=true∧0≤v∧v<(c.1:Int)
def qcp (c:Val Y33) (v:Int):Val Y33×Bool:=bif qH c&&decide (0≤v∧v<(c.1:Int))then qU c v else (((0:Int),[]),false)
def qeA:G:={ps:=[i33,i3],rs:=[i33,i4],dp:=true,pre:=fun _=>True,fn:=fun x=>((qcp x.1 x.2.1).1,(qcp x.1 x.2.1).2,())}
def qb7:G:={ps:=[i33,i3],rs:=[i33,i4],dp:=false,pre:=fun x=>qnm x.1 x.2.1,fn:=fun x=>((qU x.1 x.2.1).1,(qU x.1 x.2.1).2,())}
noncomputable def qg6 (N:Nat) (v2:Int) (v3:List (Val qa)) (v4:Int) (v6:Int) (v7:List (Val qa)) (v8:Int) (k0:(List (Val qa))→Option (qc [i33,i4])):Nat→Int→(List (Val qa))→Option (qc [i33,i4])
 | 0,_,_=>none
 | n+1,v5,v9=>bif (decide (v5<v4))then (chk (0≤v5∧v5<(v3.length:Int)) (chk (0≤v2∧v2<(((v3.getD v5.toNat (qb qa)).1:List (Val (.int .i64))).length:Int)) (bif (decide (((((v3.getD v5.toNat (qb qa)).1:List (Val (.int .i64))).getD v2.toNat (qb (.int .i64))):Int)=(0:Int)))then (chk (v9.length+([(v3.getD v5.toNat (qb qa))]:List (Val qa)).length≤1048576) (qg6 N v2 v3 v4 v6 v7 v8 k0 n (IntKind.i64.wrap (v5+(1:Int))) (v9++([(v3.getD v5.toNat (qb qa))]:List (Val qa)))))else (qg6 N v2 v3 v4 v6 v7 v8 k0 n (IntKind.i64.wrap (v5+(1:Int))) v9))))else (k0 v9)
noncomputable def qhT (N:Nat) (v36:Int) (v37:List (Val qa)) (v38:Int) (v39:Int) (v40:List (Val qa)) (v41:Int) (v43:Int) (v44:List (Val qa)) (v45:Int) (v47:List (Val (.int .i64))) (v48:Int) (v49:Bool) (k4:(List (Val qa))→Option (qc [i33,i4])):Nat→Int→(List (Val qa))→Option (qc [i33,i4])
 | 0,_,_=>none
 | n+1,v42,v46=>bif (decide (v42<v41))then (chk (0≤v42∧v42<(v40.length:Int)) (chk (0≤v36∧v36<(((v40.getD v42.toNat (qb qa)).1:List (Val (.int .i64))).length:Int)) (bif (decide ((0:Int)≤((((v40.getD v42.toNat (qb qa)).1:List (Val (.int .i64))).getD v36.toNat (qb (.int .i64))):Int)))then (qhT N v36 v37 v38 v39 v40 v41 v43 v44 v45 v47 v48 v49 k4 n (IntKind.i64.wrap (v42+(1:Int))) v46)else (chk (0≤v36∧v36<(((v40.getD v42.toNat (qb qa)).1:List (Val (.int .i64))).length:Int)) (chk (0≤v36∧v36<(v47.length:Int)) (bif (!((q4 (v47,v48,v49) (IntKind.i64.wrap (0 - ((((v40.getD v42.toNat (qb qa)).1:List (Val (.int .i64))).getD v36.toNat (qb (.int .i64))):Int))) (v40.getD v42.toNat (qb qa)) ((v47.getD v36.toNat (qb (.int .i64))):Int)).2:Bool))then (some (((0:Int),([]:List (Val qa))),false,()))else (chk (v46.length+([((((q4 (v47,v48,v49) (IntKind.i64.wrap (0 - ((((v40.getD v42.toNat (qb qa)).1:List (Val (.int .i64))).getD v36.toNat (qb (.int .i64))):Int))) (v40.getD v42.toNat (qb qa)) ((v47.getD v36.toNat (qb (.int .i64))):Int)).1).1:List (Val (.int .i64))),((((q4 (v47,v48,v49) (IntKind.i64.wrap (0 - ((((v40.getD v42.toNat (qb qa)).1:List (Val (.int .i64))).getD v36.toNat (qb (.int .i64))):Int))) (v40.getD v42.toNat (qb qa)) ((v47.getD v36.toNat (qb (.int .i64))):Int)).1).2).1:Int),((((q4 (v47,v48,v49) (IntKind.i64.wrap (0 - ((((v40.getD v42.toNat (qb qa)).1:List (Val (.int .i64))).getD v36.toNat (qb (.int .i64))):Int))) (v40.getD v42.toNat (qb qa)) ((v47.getD v36.toNat (qb (.int .i64))):Int)).1).2).2:Bool))]:List (Val qa)).length≤1048576) (qhT N v36 v37 v38 v39 v40 v41 v43 v44 v45 v47 v48 v49 k4 n (IntKind.i64.wrap (v42+(1:Int))) (v46++([((((q4 (v47,v48,v49) (IntKind.i64.wrap (0 - ((((v40.getD v42.toNat (qb qa)).1:List (Val (.int .i64))).getD v36.toNat (qb (.int .i64))):Int))) (v40.getD v42.toNat (qb qa)) ((v47.getD v36.toNat (qb (.int .i64))):Int)).1).1:List (Val (.int .i64))),((((q4 (v47,v48,v49) (IntKind.i64.wrap (0 - ((((v40.getD v42.toNat (qb qa)).1:List (Val (.int .i64))).getD v36.toNat (qb (.int .i64))):Int))) (v40.getD v42.toNat (qb qa)) ((v47.getD v36.toNat (qb (.int .i64))):Int)).1).2).1:Int),((((q4 (v47,v48,v49) (IntKind.i64.wrap (0 - ((((v40.getD v42.toNat (qb qa)).1:List (Val (.int .i64))).getD v36.toNat (qb (.int .i64))):Int))) (v40.getD v42.toNat (qb qa)) ((v47.getD v36.toNat (qb (.int .i64))):Int)).1).2).2:Bool))]:List (Val qa)))))))))))else (k4 v46)
noncomputable def qfU (N:Nat) (v12:Int) (v13:List (Val qa)) (v14:Int) (v16:Int) (v17:List (Val qa)) (v18:Int) (k2:(List (Val qa))→Option (qc [i33,i4])):Nat→Int→(List (Val qa))→Option (qc [i33,i4])
 | 0,_,_=>none
 | n+1,v15,v19=>bif (decide (v15<v14))then (chk (0≤v15∧v15<(v13.length:Int)) (chk (0≤v12∧v12<(((v13.getD v15.toNat (qb qa)).1:List (Val (.int .i64))).length:Int)) (bif (decide (((((v13.getD v15.toNat (qb qa)).1:List (Val (.int .i64))).getD v12.toNat (qb (.int .i64))):Int)≤(0:Int)))then (qfU N v12 v13 v14 v16 v17 v18 k2 n (IntKind.i64.wrap (v15+(1:Int))) v19)else (qhT N v12 v13 v14 v15 v17 (v17.length:Int) v16 v17 v18 ((v13.getD v15.toNat (qb qa)).1:List (Val (.int .i64))) (((v13.getD v15.toNat (qb qa)).2).1:Int) (((v13.getD v15.toNat (qb qa)).2).2:Bool) (fun (v51:List (Val qa))=>qfU N v12 v13 v14 v16 v17 v18 k2 n (IntKind.i64.wrap (v15+(1:Int))) v51) N (0:Int) v19))))else (k2 v19)
noncomputable def qx4 (N:Nat) (v0:Val Y33) (v1:Int):Option (qc [i33,i4]):=bif (!((qH v0):Bool))then (some (((0:Int),([]:List (Val qa))),false,()))else (bif (decide (v1<(0:Int)))then (some (((0:Int),([]:List (Val qa))),false,()))else (bif (decide ((v0.1:Int)≤v1))then (some (((0:Int),([]:List (Val qa))),false,()))else (qg6 N v1 (v0.2:List (Val qa)) ((v0.2:List (Val qa)).length:Int) (v0.1:Int) (v0.2:List (Val qa)) (0:Int) (fun (v11:List (Val qa))=>qfU N v1 (v0.2:List (Val qa)) ((v0.2:List (Val qa)).length:Int) (v0.1:Int) (v0.2:List (Val qa)) (0:Int) (fun (v53:List (Val qa))=>chk (qn6 (v0.1:Int) v53) (some (((((qbi (v0.1:Int) v53).1).1:Int),(((qbi (v0.1:Int) v53).1).2:List (Val qa))),((qbi (v0.1:Int) v53).2:Bool),()))) N (0:Int) v11) N (0:Int) ([]:List (Val qa)))))
def qcW:Gam:=[(199,qaS),(255,qgg),(293,qfy)]
theorem qkn:Gam.get qcW 199=some qaS:=rfl
theorem qmD:Gam.get qcW 255=some qgg:=rfl
theorem qjY:Gam.get qcW 293=some qfy:=rfl
def qtP:Nm:=⟨[false,true,true,false,true,false,true,false,false,false,false,false,false,false,false,false,false,false,false,false,false,false,false,false,false,false,false,false,false,false,false,true,true,true],[.und 6 0 108 qa],false⟩
theorem qjw:qtP.zero=false:=rfl
theorem qkm:qtP.fix=[.und 6 0 108 qa]:=rfl
theorem qmG:qtP.keep=[false,true,true,false,true,false,true,false,false,false,false,false,false,false,false,false,false,false,false,false,false,false,false,false,false,false,false,false,false,false,false,true,true,true]:=rfl
def qur:Nm:=⟨[false,true,true,false,true,false,true,false,false,false,true,false,false,false,false,false,false,false,false,false,false,false,false,false,false,false,false,false,false,false,false,false,false,false,false,false,false,false,false,false,false,false,false,false,false,false,false,false,false,true,true,true,false,false,false,false,false,false,false,false,false,false,true,true,true],[],false⟩
theorem qmQ:qur.zero=false:=rfl
theorem ql2:qur.fix=[]:=rfl
theorem qlm:qur.keep=[false,true,true,false,true,false,true,false,false,false,true,false,false,false,false,false,false,false,false,false,false,false,false,false,false,false,false,false,false,false,false,false,false,false,false,false,false,false,false,false,false,false,false,false,false,false,false,false,false,true,true,true,false,false,false,false,false,false,false,false,false,false,true,true,true]:=rfl
def qt2:Nm:=⟨[false,true,true,false,true,false,true,false,false,false,false,false,false,false,false,false,false,false,false,false,false,false,false,false,false,false,false,false,false,false,false,false,false,false,false,false,false,false,false,false,false,false,false,false,false,false,false,false,false,true,true,true],[],false⟩
theorem qlr:qt2.zero=false:=rfl
theorem qjU:qt2.fix=[]:=rfl
theorem qkG:qt2.keep=[false,true,true,false,true,false,true,false,false,false,false,false,false,false,false,false,false,false,false,false,false,false,false,false,false,false,false,false,false,false,false,false,false,false,false,false,false,false,false,false,false,false,false,false,false,false,false,false,false,true,true,true]:=rfl
def qDN:Nm:=⟨[false,true,true,false,true,false,true],[],false⟩
theorem qlq:qDN.zero=false:=rfl
theorem qmk:qDN.fix=[]:=rfl
theorem qjH:qDN.keep=[false,true,true,false,true,false,true]:=rfl
def qD4:Nm:=⟨[false,false,true,false,true,false,true],[],false⟩
theorem qk3:qD4.zero=false:=rfl
theorem qj4:qD4.fix=[]:=rfl
theorem qjz:qD4.keep=[false,false,true,false,true,false,true]:=rfl
def qDe:Nm:=⟨[false,true,true,false,true,false,true,false,false,false,false,false,false,false,false,false,false,false,false,false,false,false,false,false,false,false,false,false,false,false,false,false,false,false,false,false,false,false,false,false,false,false,false,false,false,false,false,false,false,true,true,true],[],false⟩
theorem qmj:qDe.zero=false:=rfl
theorem qkf:qDe.fix=[]:=rfl
theorem ql4:qDe.keep=[false,true,true,false,true,false,true,false,false,false,false,false,false,false,false,false,false,false,false,false,false,false,false,false,false,false,false,false,false,false,false,false,false,false,false,false,false,false,false,false,false,false,false,false,false,false,false,false,false,true,true,true]:=rfl
def qA8:Nm:=⟨[false,true,true,false,true,false,true,false,false,false,true,false,false,true,true,false,false,false,false,false,false,false,false,false,false,false,false,false,false,false,false,false,false,false,false,false,false,false,false,false,false,false,false,false,false,false,false,false,false,true,true,true,false,false,false,false,false,false,false,false,false,false,true,true,true],[],false⟩
theorem qk0:qA8.zero=false:=rfl
theorem qlP:qA8.fix=[]:=rfl
theorem qjN:qA8.keep=[false,true,true,false,true,false,true,false,false,false,true,false,false,true,true,false,false,false,false,false,false,false,false,false,false,false,false,false,false,false,false,false,false,false,false,false,false,false,false,false,false,false,false,false,false,false,false,false,false,true,true,true,false,false,false,false,false,false,false,false,false,false,true,true,true]:=rfl
def qfe:Nat→Tree:=fun i=>if i=18 then .first 3 (.first 10 (.grow 0 (.grow 1 (.grow 2 (.grow 4 (.grow 5 (.first 6 (.grow 7 (.grow 8 (.grow 9 (.grow 11 (.grow 12 (.alt 13 (.first 14 (.first 15 (.first 16 (.alt 17 (.alt 18 (.quiet 19 .done) .stop) .stop)))) (.alt 17 (.alt 13 (.quiet 14 (.quiet 15 (.first 16 (.alt 18 (.quiet 19 .done) .stop)))) .stop) .stop))))))))))))))else .done
def qhx:Nat→Nm:=fun i=>if i=5 then qtP else if i=15 then qur else if i=11 then qt2 else ⟨[],[],false⟩
def qgz:Nat→Option Jn:=fun _=>none
def qh9:Nat→Option Nm:=fun i=>if i=0 then some qDN else if i=2 then some qD4 else if i=4 then some qDe else none
def qgA:Nat→Option Nm:=fun i=>if i=18 then some qA8 else none
theorem znw:qn qfe (Tryz.f237.body.getD .skip)=true:=by kernel_rfl
def qbN (N:Nat):Tab:={tr:=qfe,lp:=qhx,ex:=qh9,rg:=qgA,jn:=qgz,fuel:=N}
theorem qkr (N:Nat):(qbN N).pins=false:=rfl
theorem zpb (N:Nat):qp Tryz.prog (qbN N):=qv fun _=>rfl
theorem qjq (N:Nat) (i:Nat):(qbN N).tr i=qfe i:=rfl
theorem qjG (N:Nat) (i:Nat):(qbN N).lp i=qhx i:=rfl
theorem qmT (N:Nat) (i:Nat):(qbN N).ex i=qh9 i:=rfl
theorem qkW (N:Nat) (i:Nat):(qbN N).rg i=qgA i:=rfl
theorem qkP (N:Nat) (i:Nat):(qbN N).jn i=qgz i:=rfl
theorem qlL (N:Nat):(qbN N).fuel=N:=rfl
noncomputable def q1S:Code:=cut [true,true,true,false,true,true,true] (Tryz.f237.body.getD .skip)
theorem q6r {N:Nat} {Q:X→St→Option (qc [i33,i4])} {e:List LV} {h:List Blk}:qe tt qcW (qbN N) q1S Q ⟨e,h⟩=qe tt qcW (qbN N) (cut [true,true,true,false,true,true,true] (Tryz.f237.body.getD .skip)) Q ⟨e,h⟩:=rfl
theorem zc0 (N:Nat) (v2:Int) (v3:List (Val qa)) (v4:Int) (v6:Int) (v7:List (Val qa)) (v8:Int) {k0:(List (Val qa))→Option (qc [i33,i4])} {Q:X→St→Option (qc [i33,i4])} {c:Code} (hc:c=q1S) (hret: ∀st,Q .ret st=qI tt true [i33,i4] [.cell 4 33,.tmp 5] st) (h0: ∀(v10:List (Val qa)),Q (.exit 0) ⟨[u,.one (.int .i64 v2),.one (.ptr 0 0 0),u,.one (.ptr 1 0 0),u,.one (.own 2),u,u,u,u,u,u,u,u,u,u,u,u,u,u,u,u,u,u,u,u,u,u,u,u,u,u,u,u,u,u,u,u,u,u,u,u,u,u,u,u,u,u,u,u,u,u,u,u,u,u,u,u,u,u,u,u,u,u,u,u,u,u,u,u,u,u,u,u,u,u,u,u,u,u,u,u,u,u,u,u,u,u,u,u,u,u,u,u,u,u,u,u,u,u,u,u,u,u,u],[.box [.int .i64 v6,.sl 108 qa v7 3],.box [.int .i64 v8,.nils],.row 108 qa v10 false true 3]⟩=k0 v10): ∀(n:Nat) (v5:Int) (v9:List (Val qa)),qE (qe tt qcW (qbN N) c) false qtP Q n ⟨[u,.one (.int .i64 v2),.one (.ptr 0 0 0),u,.one (.ptr 1 0 0),u,.one (.own 2),u,u,u,u,u,u,u,u,u,u,u,u,u,u,u,u,u,u,u,u,u,u,u,u,.one (.sl 108 qa v3 3),.one (.int .i64 v4),.one (.int .i64 v5),u,u,u,u,u,u,u,u,u,u,u,u,u,u,u,u,u,u,u,u,u,u,u,u,u,u,u,u,u,u,u,u,u,u,u,u,u,u,u,u,u,u,u,u,u,u,u,u,u,u,u,u,u,u,u,u,u,u,u,u,u,u,u,u,u,u,u,u,u,u,u,u],[.box [.int .i64 v6,.sl 108 qa v7 3],.box [.int .i64 v8,.nils],.row 108 qa v9 false true 3]⟩=qg6 N v2 v3 v4 v6 v7 v8 k0 n v5 v9:=by
 subst hc;intro n;induction n with
 | zero=>intros;rfl
 | succ n ih=>
   intro v5 v9
   rw [qN,q6r,qg6];unfold Tryz.f237
   simp (maxSteps:=10000000) -implicitDefEqProofs [qjq,qfe,qjG,qhx,qmT,qh9,qkW,qgA,qkP,qgz,qlL,qkr,qkm,qmG,qjw,ql2,qlm,qmQ,qjU,qkG,qlr,qmk,qjH,qlq,qj4,qjz,qk3,qkf,ql4,qmj,qlP,qjN,qk0,qkn,qmD,qjY,qaS,qgg,qfy,hret,h0,ih]
noncomputable def qYE:Code:=cut [true,true,true,true,false,true,true,true,true,true,false,true,true,true,true,true,true] (Tryz.f237.body.getD .skip)
theorem zhI {N:Nat} {Q:X→St→Option (qc [i33,i4])} {e:List LV} {h:List Blk}:qe tt qcW (qbN N) qYE Q ⟨e,h⟩=qe tt qcW (qbN N) (cut [true,true,true,true,false,true,true,true,true,true,false,true,true,true,true,true,true] (Tryz.f237.body.getD .skip)) Q ⟨e,h⟩:=rfl
theorem q4K (N:Nat) (v36:Int) (v37:List (Val qa)) (v38:Int) (v39:Int) (v40:List (Val qa)) (v41:Int) (v43:Int) (v44:List (Val qa)) (v45:Int) (v47:List (Val (.int .i64))) (v48:Int) (v49:Bool) {k4:(List (Val qa))→Option (qc [i33,i4])} {Q:X→St→Option (qc [i33,i4])} {c:Code} (hc:c=qYE) (hret: ∀st,Q .ret st=qI tt true [i33,i4] [.cell 4 33,.tmp 5] st) (h4: ∀(v50:List (Val qa)),Q (.exit 4) ⟨[u,.one (.int .i64 v36),.one (.ptr 0 0 0),u,.one (.ptr 1 0 0),u,.one (.own 2),u,u,u,u,u,u,u,u,u,u,u,u,u,u,u,u,u,u,u,u,u,u,u,u,u,u,u,u,u,u,u,u,u,u,u,u,u,u,u,u,u,u,.one (.sl 108 qa v37 3),.one (.int .i64 v38),.one (.int .i64 v39),u,u,u,u,u,u,u,u,u,u,u,u,u,u,u,u,u,u,u,u,u,u,u,u,u,u,u,u,u,u,u,u,u,u,u,u,u,u,u,u,u,u,u,u,u,u,u,u,u,u,u,u,u,u],[.box [.int .i64 v43,.sl 108 qa v44 3],.box [.int .i64 v45,.nils],.row 108 qa v50 false true 3]⟩=k4 v50): ∀(n:Nat) (v42:Int) (v46:List (Val qa)),qE (qe tt qcW (qbN N) c) false qur Q n ⟨[u,.one (.int .i64 v36),.one (.ptr 0 0 0),u,.one (.ptr 1 0 0),u,.one (.own 2),u,u,u,.one (.ptr 3 0 0),u,u,u,u,u,u,u,u,u,u,u,u,u,u,u,u,u,u,u,u,u,u,u,u,u,u,u,u,u,u,u,u,u,u,u,u,u,u,.one (.sl 108 qa v37 4),.one (.int .i64 v38),.one (.int .i64 v39),u,u,u,u,u,u,u,u,u,u,.one (.sl 108 qa v40 4),.one (.int .i64 v41),.one (.int .i64 v42),u,u,u,u,u,u,u,u,u,u,u,u,u,u,u,u,u,u,u,u,u,u,u,u,u,u,u,u,u,u,u,u,u,u,u,u,u,u,u,u,u],[.box [.int .i64 v43,.sl 108 qa v44 4],.box [.int .i64 v45,.nils],.row 108 qa v46 false true 4,.box [.sl 3 (.int .i64) v47 4,.int .i64 v48,.bool v49]]⟩=qhT N v36 v37 v38 v39 v40 v41 v43 v44 v45 v47 v48 v49 k4 n v42 v46:=by
 subst hc;intro n;induction n with
 | zero=>intros;rfl
 | succ n ih=>
   intro v42 v46
   rw [qN,zhI,qhT];unfold Tryz.f237
   simp (maxSteps:=10000000) -implicitDefEqProofs [qjq,qfe,qjG,qhx,qmT,qh9,qkW,qgA,qkP,qgz,qlL,qkr,qkm,qmG,qjw,ql2,qlm,qmQ,qjU,qkG,qlr,qmk,qjH,qlq,qj4,qjz,qk3,qkf,ql4,qmj,qlP,qjN,qk0,qkn,qmD,qjY,qaS,qgg,qfy,hret,h4,ih]
noncomputable def q4h:Code:=cut [true,true,true,true,false,true,true,true] (Tryz.f237.body.getD .skip)
theorem ziX {N:Nat} {Q:X→St→Option (qc [i33,i4])} {e:List LV} {h:List Blk}:qe tt qcW (qbN N) q4h Q ⟨e,h⟩=qe tt qcW (qbN N) (cut [true,true,true,true,false,true,true,true] (Tryz.f237.body.getD .skip)) Q ⟨e,h⟩:=rfl
theorem zjF (N:Nat) (v12:Int) (v13:List (Val qa)) (v14:Int) (v16:Int) (v17:List (Val qa)) (v18:Int) {k2:(List (Val qa))→Option (qc [i33,i4])} {Q:X→St→Option (qc [i33,i4])} {c:Code} (hc:c=q4h) (hret: ∀st,Q .ret st=qI tt true [i33,i4] [.cell 4 33,.tmp 5] st) (h2: ∀(v52:List (Val qa)),Q (.exit 2) ⟨[u,u,.one (.ptr 0 0 0),u,.one (.ptr 1 0 0),u,.one (.own 2),u,u,u,u,u,u,u,u,u,u,u,u,u,u,u,u,u,u,u,u,u,u,u,u,u,u,u,u,u,u,u,u,u,u,u,u,u,u,u,u,u,u,u,u,u,u,u,u,u,u,u,u,u,u,u,u,u,u,u,u,u,u,u,u,u,u,u,u,u,u,u,u,u,u,u,u,u,u,u,u,u,u,u,u,u,u,u,u,u,u,u,u,u,u,u,u,u,u,u],[.box [.int .i64 v16,.sl 108 qa v17 3],.box [.int .i64 v18,.nils],.row 108 qa v52 false true 3]⟩=k2 v52): ∀(n:Nat) (v15:Int) (v19:List (Val qa)),qE (qe tt qcW (qbN N) c) false qt2 Q n ⟨[u,.one (.int .i64 v12),.one (.ptr 0 0 0),u,.one (.ptr 1 0 0),u,.one (.own 2),u,u,u,u,u,u,u,u,u,u,u,u,u,u,u,u,u,u,u,u,u,u,u,u,u,u,u,u,u,u,u,u,u,u,u,u,u,u,u,u,u,u,.one (.sl 108 qa v13 3),.one (.int .i64 v14),.one (.int .i64 v15),u,u,u,u,u,u,u,u,u,u,u,u,u,u,u,u,u,u,u,u,u,u,u,u,u,u,u,u,u,u,u,u,u,u,u,u,u,u,u,u,u,u,u,u,u,u,u,u,u,u,u,u,u,u],[.box [.int .i64 v16,.sl 108 qa v17 3],.box [.int .i64 v18,.nils],.row 108 qa v19 false true 3]⟩=qfU N v12 v13 v14 v16 v17 v18 k2 n v15 v19:=by
 subst hc;intro n;induction n with
 | zero=>intros;rfl
 | succ n ih=>
   intro v15 v19
   rw [qN,ziX];unfold Tryz.f237
   simp (maxSteps:=10000000) -implicitDefEqProofs [qjq,qfe,qjG,qhx,qmT,qh9,qkW,qgA,qkP,qgz,qlL,qkr,qkm,qmG,qjw,ql2,qlm,qmQ,qjU,qkG,qlr,qmk,qjH,qlq,qj4,qjz,qk3,qkf,ql4,qmj,qlP,qjN,qk0,qkn,qmD,qjY,qaS,qgg,qfy,hret,h2,ih]
   rewrite [q4K (k4:=(fun (v51:List (Val qa))=>qfU N v12 v13 v14 v16 v17 v18 k2 n (IntKind.i64.wrap (v15+(1:Int))) v51)) N _ _ _ _ _ _ _ _ _ _ _ _ ?_ ?_ ?_]
   ·rewrite [qfU];first | rfl | simp (maxSteps:=10000000) -implicitDefEqProofs [ih]
   ·rfl
   ·intro;simp only [qJ,qL,qK,qB,hret]
   ·intro v51;simp (maxSteps:=10000000) -implicitDefEqProofs [qjq,qfe,qjG,qhx,qmT,qh9,qkW,qgA,qkP,qgz,qlL,qkr,qkm,qmG,qjw,ql2,qlm,qmQ,qjU,qkG,qlr,qmk,qjH,qlq,qj4,qjz,qk3,qkf,ql4,qmj,qlP,qjN,qk0,qkn,qmD,qjY,qaS,qgg,qfy,hret,h2,ih]
theorem zb8 (N:Nat) (v0:Val Y33) (v1:Int):qe tt qcW (qbN N) (Tryz.f237.body.getD .skip) (qt tt true [i33,i4] [.cell 4 33,.tmp 5]) (qw [i33,i3] 106 (v0,v1,()))=qx4 N v0 v1:=by
 unfold Tryz.f237
 simp (maxSteps:=10000000) -implicitDefEqProofs [qjq,qfe,qjG,qhx,qmT,qh9,qkW,qgA,qkP,qgz,qlL,qkr,qkm,qmG,qjw,ql2,qlm,qmQ,qjU,qkG,qlr,qmk,qjH,qlq,qj4,qjz,qk3,qkf,ql4,qmj,qlP,qjN,qk0,qkn,qmD,qjY,qaS,qgg,qfy]
 rewrite [zc0 (k0:=(fun (v11:List (Val qa))=>qfU N v1 (v0.2:List (Val qa)) ((v0.2:List (Val qa)).length:Int) (v0.1:Int) (v0.2:List (Val qa)) (0:Int) (fun (v53:List (Val qa))=>chk (qn6 (v0.1:Int) v53) (some (((((qbi (v0.1:Int) v53).1).1:Int),(((qbi (v0.1:Int) v53).1).2:List (Val qa))),((qbi (v0.1:Int) v53).2:Bool),()))) N (0:Int) v11)) N _ _ _ _ _ _ ?_ ?_ ?_]
 ·rewrite [qx4];first | rfl | simp (maxSteps:=10000000) -implicitDefEqProofs []
 ·rfl
 ·intro;simp only [qJ,qL,qK,qB]
 ·intro v11;simp (maxSteps:=10000000) -implicitDefEqProofs [qjq,qfe,qjG,qhx,qmT,qh9,qkW,qgA,qkP,qgz,qlL,qkr,qkm,qmG,qjw,ql2,qlm,qmQ,qjU,qkG,qlr,qmk,qjH,qlq,qj4,qjz,qk3,qkf,ql4,qmj,qlP,qjN,qk0,qkn,qmD,qjY,qaS,qgg,qfy]
  rewrite [zjF (k2:=(fun (v53:List (Val qa))=>chk (qn6 (v0.1:Int) v53) (some (((((qbi (v0.1:Int) v53).1).1:Int),(((qbi (v0.1:Int) v53).1).2:List (Val qa))),((qbi (v0.1:Int) v53).2:Bool),())))) N _ _ _ _ _ _ ?_ ?_ ?_]
  ·first | rfl | simp (maxSteps:=10000000) -implicitDefEqProofs []
  ·rfl
  ·intro;simp only [qJ,qL,qK,qB]
  ·intro v53;simp (maxSteps:=10000000) -implicitDefEqProofs [qjq,qfe,qjG,qhx,qmT,qh9,qkW,qgA,qkP,qgz,qlL,qkr,qkm,qmG,qjw,ql2,qlm,qmQ,qjU,qkG,qlr,qmk,qjH,qlq,qj4,qjz,qk3,qkf,ql4,qmj,qlP,qjN,qk0,qkn,qmD,qjY,qaS,qgg,qfy]
noncomputable def qh5 (N:Nat) (v2:Int) (v4:Int) (v5:List (Val qa)) (v6:Int) (k0:(List (Val qa))→Option (qc [i33,i4])):Nat→Int→(List (Val qa))→Option (qc [i33,i4])
 | 0,_,_=>none
 | n+1,v3,v7=>bif (decide (v3<(v5.length:Int)))then (chk (0≤v3∧v3<(v5.length:Int)) (chk (0≤v2∧v2<(((v5.getD v3.toNat (qb qa)).1:List (Val (.int .i64))).length:Int)) (bif (decide (((((v5.getD v3.toNat (qb qa)).1:List (Val (.int .i64))).getD v2.toNat (qb (.int .i64))):Int)=(0:Int)))then (chk (0≤v3∧v3<(v5.length:Int)) (chk (v7.length+([(v5.getD v3.toNat (qb qa))]:List (Val qa)).length≤1048576) (qh5 N v2 v4 v5 v6 k0 n (IntKind.i64.wrap (v3+(1:Int))) (v7++([(v5.getD v3.toNat (qb qa))]:List (Val qa))))))else (qh5 N v2 v4 v5 v6 k0 n (IntKind.i64.wrap (v3+(1:Int))) v7))))else (k0 v7)
noncomputable def qf3 (N:Nat) (v25:Int) (v26:Int) (v28:Int) (v29:List (Val qa)) (v30:Int) (k4:(List (Val qa))→Option (qc [i33,i4])):Nat→Int→(List (Val qa))→Option (qc [i33,i4])
 | 0,_,_=>none
 | n+1,v27,v31=>bif (decide (v27<(v29.length:Int)))then (chk (0≤v26∧v26<(v29.length:Int)) (chk (0≤v25∧v25<(((v29.getD v26.toNat (qb qa)).1:List (Val (.int .i64))).length:Int)) (chk (0≤v27∧v27<(v29.length:Int)) (chk (0≤v25∧v25<(((v29.getD v27.toNat (qb qa)).1:List (Val (.int .i64))).length:Int)) (bif (decide (((((v29.getD v26.toNat (qb qa)).1:List (Val (.int .i64))).getD v25.toNat (qb (.int .i64))):Int)≤(0:Int)))then (qf3 N v25 v26 v28 v29 v30 k4 n (IntKind.i64.wrap (v27+(1:Int))) v31)else (bif (decide ((0:Int)≤((((v29.getD v27.toNat (qb qa)).1:List (Val (.int .i64))).getD v25.toNat (qb (.int .i64))):Int)))then (qf3 N v25 v26 v28 v29 v30 k4 n (IntKind.i64.wrap (v27+(1:Int))) v31)else (chk (0≤v26∧v26<(v29.length:Int)) (chk (0≤v27∧v27<(v29.length:Int)) (chk (qDQ (v29.getD v26.toNat (qb qa)) (IntKind.i64.wrap (0 - ((((v29.getD v27.toNat (qb qa)).1:List (Val (.int .i64))).getD v25.toNat (qb (.int .i64))):Int))) (v29.getD v27.toNat (qb qa)) ((((v29.getD v26.toNat (qb qa)).1:List (Val (.int .i64))).getD v25.toNat (qb (.int .i64))):Int)) (bif (!((q4 (v29.getD v26.toNat (qb qa)) (IntKind.i64.wrap (0 - ((((v29.getD v27.toNat (qb qa)).1:List (Val (.int .i64))).getD v25.toNat (qb (.int .i64))):Int))) (v29.getD v27.toNat (qb qa)) ((((v29.getD v26.toNat (qb qa)).1:List (Val (.int .i64))).getD v25.toNat (qb (.int .i64))):Int)).2:Bool))then (some (((0:Int),([]:List (Val qa))),false,()))else (chk (v31.length+([((((q4 (v29.getD v26.toNat (qb qa)) (IntKind.i64.wrap (0 - ((((v29.getD v27.toNat (qb qa)).1:List (Val (.int .i64))).getD v25.toNat (qb (.int .i64))):Int))) (v29.getD v27.toNat (qb qa)) ((((v29.getD v26.toNat (qb qa)).1:List (Val (.int .i64))).getD v25.toNat (qb (.int .i64))):Int)).1).1:List (Val (.int .i64))),((((q4 (v29.getD v26.toNat (qb qa)) (IntKind.i64.wrap (0 - ((((v29.getD v27.toNat (qb qa)).1:List (Val (.int .i64))).getD v25.toNat (qb (.int .i64))):Int))) (v29.getD v27.toNat (qb qa)) ((((v29.getD v26.toNat (qb qa)).1:List (Val (.int .i64))).getD v25.toNat (qb (.int .i64))):Int)).1).2).1:Int),((((q4 (v29.getD v26.toNat (qb qa)) (IntKind.i64.wrap (0 - ((((v29.getD v27.toNat (qb qa)).1:List (Val (.int .i64))).getD v25.toNat (qb (.int .i64))):Int))) (v29.getD v27.toNat (qb qa)) ((((v29.getD v26.toNat (qb qa)).1:List (Val (.int .i64))).getD v25.toNat (qb (.int .i64))):Int)).1).2).2:Bool))]:List (Val qa)).length≤1048576) (qf3 N v25 v26 v28 v29 v30 k4 n (IntKind.i64.wrap (v27+(1:Int))) (v31++([((((q4 (v29.getD v26.toNat (qb qa)) (IntKind.i64.wrap (0 - ((((v29.getD v27.toNat (qb qa)).1:List (Val (.int .i64))).getD v25.toNat (qb (.int .i64))):Int))) (v29.getD v27.toNat (qb qa)) ((((v29.getD v26.toNat (qb qa)).1:List (Val (.int .i64))).getD v25.toNat (qb (.int .i64))):Int)).1).1:List (Val (.int .i64))),((((q4 (v29.getD v26.toNat (qb qa)) (IntKind.i64.wrap (0 - ((((v29.getD v27.toNat (qb qa)).1:List (Val (.int .i64))).getD v25.toNat (qb (.int .i64))):Int))) (v29.getD v27.toNat (qb qa)) ((((v29.getD v26.toNat (qb qa)).1:List (Val (.int .i64))).getD v25.toNat (qb (.int .i64))):Int)).1).2).1:Int),((((q4 (v29.getD v26.toNat (qb qa)) (IntKind.i64.wrap (0 - ((((v29.getD v27.toNat (qb qa)).1:List (Val (.int .i64))).getD v25.toNat (qb (.int .i64))):Int))) (v29.getD v27.toNat (qb qa)) ((((v29.getD v26.toNat (qb qa)).1:List (Val (.int .i64))).getD v25.toNat (qb (.int .i64))):Int)).1).2).2:Bool))]:List (Val qa)))))))))))))))else (k4 v31)
noncomputable def qgM (N:Nat) (v10:Int) (v12:Int) (v13:List (Val qa)) (v14:Int) (k2:(List (Val qa))→Option (qc [i33,i4])):Nat→Int→(List (Val qa))→Option (qc [i33,i4])
 | 0,_,_=>none
 | n+1,v11,v15=>bif (decide (v11<(v13.length:Int)))then (qf3 N v10 v11 v12 v13 v14 (fun (v33:List (Val qa))=>qgM N v10 v12 v13 v14 k2 n (IntKind.i64.wrap (v11+(1:Int))) v33) N (0:Int) v15)else (k2 v15)
noncomputable def qEc (N:Nat) (v0:Val Y33) (v1:Int):Option (qc [i33,i4]):=qh5 N v1 (v0.1:Int) (v0.2:List (Val qa)) (0:Int) (fun (v9:List (Val qa))=>qgM N v1 (v0.1:Int) (v0.2:List (Val qa)) (0:Int) (fun (v35:List (Val qa))=>chk (qbR (v0.1:Int) v35) (bif (decide ((16:Int)<(((qO (v0.1:Int) v35).2:List (Val qa)).length:Int)))then (some (((0:Int),([]:List (Val qa))),false,()))else (some ((qO (v0.1:Int) v35),true,())))) N (0:Int) v9) N (0:Int) ([]:List (Val qa))
def qdQ:Gam:=[(150,qaW),(235,qf2)]
theorem qka:Gam.get qdQ 150=some qaW:=rfl
theorem qjl:Gam.get qdQ 235=some qf2:=rfl
def qrO:Nm:=⟨[false,true,true,false,true,false,true,true],[.und 6 0 108 qa],false⟩
theorem qlg:qrO.zero=false:=rfl
theorem qkz:qrO.fix=[.und 6 0 108 qa]:=rfl
theorem qjB:qrO.keep=[false,true,true,false,true,false,true,true]:=rfl
def qtS:Nm:=⟨[false,true,true,false,true,false,true,false,true,true],[],false⟩
theorem qjy:qtS.zero=false:=rfl
theorem qkK:qtS.fix=[]:=rfl
theorem qmR:qtS.keep=[false,true,true,false,true,false,true,false,true,true]:=rfl
def qvE:Nm:=⟨[false,true,true,false,true,false,true,false,true],[],false⟩
theorem qj5:qvE.zero=false:=rfl
theorem qme:qvE.fix=[]:=rfl
theorem qkM:qvE.keep=[false,true,true,false,true,false,true,false,true]:=rfl
def qz2:Nm:=⟨[false,true,true,false,true,false,true],[],false⟩
theorem qjR:qz2.zero=false:=rfl
theorem qlj:qz2.fix=[]:=rfl
theorem qlH:qz2.keep=[false,true,true,false,true,false,true]:=rfl
def qBP:Nm:=⟨[false,false,true,false,true,false,true],[],false⟩
theorem qmF:qBP.zero=false:=rfl
theorem qmP:qBP.fix=[]:=rfl
theorem qk4:qBP.keep=[false,false,true,false,true,false,true]:=rfl
def qEJ:Nm:=⟨[false,true,true,false,true,false,true,false,true],[],false⟩
theorem qjW:qEJ.zero=false:=rfl
theorem qlo:qEJ.fix=[]:=rfl
theorem qly:qEJ.keep=[false,true,true,false,true,false,true,false,true]:=rfl
def qCP:Nm:=⟨[false,true,true,false,true,false,true,false,true,true,false,false,true,true],[],false⟩
theorem qlS:qCP.zero=false:=rfl
theorem qmM:qCP.fix=[]:=rfl
theorem qmI:qCP.keep=[false,true,true,false,true,false,true,false,true,true,false,false,true,true]:=rfl
def qgo:Nat→Tree:=fun i=>if i=16 then .first 2 (.first 5 (.first 6 (.first 9 (.first 12 (.grow 0 (.grow 1 (.grow 3 (.grow 4 (.grow 7 (.grow 8 (.grow 10 (.grow 11 (.alt 13 (.first 14 (.first 15 (.first 16 (.alt 17 (.alt 18 (.quiet 19 .done) .stop) .stop)))) (.alt 17 (.alt 13 (.quiet 14 (.quiet 15 (.first 16 (.alt 18 (.quiet 19 .done) .stop)))) .stop) .stop))))))))))))))else .done
def qhG:Nat→Nm:=fun i=>if i=3 then qrO else if i=11 then qtS else if i=8 then qvE else ⟨[],[],false⟩
def qha:Nat→Option Jn:=fun _=>none
def qgV:Nat→Option Nm:=fun i=>if i=0 then some qz2 else if i=2 then some qBP else if i=4 then some qEJ else none
def qhI:Nat→Option Nm:=fun i=>if i=16 then some qCP else none
theorem zps:qn qgo (Tryz.f151.body.getD .skip)=true:=by kernel_rfl
def qbO (N:Nat):Tab:={tr:=qgo,lp:=qhG,ex:=qgV,rg:=qhI,jn:=qha,fuel:=N}
theorem qkE (N:Nat):(qbO N).pins=false:=rfl
theorem zia (N:Nat):qp Tryz.prog (qbO N):=qv fun _=>rfl
theorem qll (N:Nat) (i:Nat):(qbO N).tr i=qgo i:=rfl
theorem qks (N:Nat) (i:Nat):(qbO N).lp i=qhG i:=rfl
theorem qkT (N:Nat) (i:Nat):(qbO N).ex i=qgV i:=rfl
theorem qlW (N:Nat) (i:Nat):(qbO N).rg i=qhI i:=rfl
theorem qju (N:Nat) (i:Nat):(qbO N).jn i=qha i:=rfl
theorem qku (N:Nat):(qbO N).fuel=N:=rfl
noncomputable def q1e:Code:=cut [true,true,false,true,true,true] (Tryz.f151.body.getD .skip)
theorem zdh {N:Nat} {Q:X→St→Option (qc [i33,i4])} {e:List LV} {h:List Blk}:qe tt qdQ (qbO N) q1e Q ⟨e,h⟩=qe tt qdQ (qbO N) (cut [true,true,false,true,true,true] (Tryz.f151.body.getD .skip)) Q ⟨e,h⟩:=rfl
theorem q8I (N:Nat) (v2:Int) (v4:Int) (v5:List (Val qa)) (v6:Int) {k0:(List (Val qa))→Option (qc [i33,i4])} {Q:X→St→Option (qc [i33,i4])} {c:Code} (hc:c=q1e) (hret: ∀st,Q .ret st=qI tt false [i33,i4] [.cell 4 33,.tmp 5] st) (h0: ∀(v8:List (Val qa)),Q (.exit 0) ⟨[u,.one (.int .i64 v2),.one (.ptr 0 0 0),u,.one (.ptr 1 0 0),u,.one (.own 2),u,u,u,u,u,u,u,u,u,u,u,u,u,u,u,u,u,u,u,u,u,u,u,u,u,u,u,u,u,u,u,u,u,u,u,u,u,u,u,u,u,u,u,u,u,u,u,u,u,u,u,u,u,u,u,u,u,u,u,u,u,u,u,u,u,u,u,u,u,u,u,u,u,u,u,u,u,u,u,u,u,u,u,u,u,u,u,u,u,u,u,u,u,u,u,u,u,u,u,u,u,u,u,u,u,u],[.box [.int .i64 v4,.sl 108 qa v5 3],.box [.int .i64 v6,.nils],.row 108 qa v8 false true 3]⟩=k0 v8): ∀(n:Nat) (v3:Int) (v7:List (Val qa)),qE (qe tt qdQ (qbO N) c) false qrO Q n ⟨[u,.one (.int .i64 v2),.one (.ptr 0 0 0),u,.one (.ptr 1 0 0),u,.one (.own 2),.one (.int .i64 v3),u,u,u,u,u,u,u,u,u,u,u,u,u,u,u,u,u,u,u,u,u,u,u,u,u,u,u,u,u,u,u,u,u,u,u,u,u,u,u,u,u,u,u,u,u,u,u,u,u,u,u,u,u,u,u,u,u,u,u,u,u,u,u,u,u,u,u,u,u,u,u,u,u,u,u,u,u,u,u,u,u,u,u,u,u,u,u,u,u,u,u,u,u,u,u,u,u,u,u,u,u,u,u,u,u],[.box [.int .i64 v4,.sl 108 qa v5 3],.box [.int .i64 v6,.nils],.row 108 qa v7 false true 3]⟩=qh5 N v2 v4 v5 v6 k0 n v3 v7:=by
 subst hc;intro n;induction n with
 | zero=>intros;rfl
 | succ n ih=>
   intro v3 v7
   rw [qN,zdh,qh5];unfold Tryz.f151
   simp (maxSteps:=10000000) -implicitDefEqProofs [qll,qgo,qks,qhG,qkT,qgV,qlW,qhI,qju,qha,qku,qkE,qkz,qjB,qlg,qkK,qmR,qjy,qme,qkM,qj5,qlj,qlH,qjR,qmP,qk4,qmF,qlo,qly,qjW,qmM,qmI,qlS,qka,qjl,qaW,qf2,hret,h0,ih]
noncomputable def q1F:Code:=cut [true,true,true,false,true,true,true,true,false,true,true,true,true] (Tryz.f151.body.getD .skip)
theorem zlj {N:Nat} {Q:X→St→Option (qc [i33,i4])} {e:List LV} {h:List Blk}:qe tt qdQ (qbO N) q1F Q ⟨e,h⟩=qe tt qdQ (qbO N) (cut [true,true,true,false,true,true,true,true,false,true,true,true,true] (Tryz.f151.body.getD .skip)) Q ⟨e,h⟩:=rfl
theorem zaC (N:Nat) (v25:Int) (v26:Int) (v28:Int) (v29:List (Val qa)) (v30:Int) {k4:(List (Val qa))→Option (qc [i33,i4])} {Q:X→St→Option (qc [i33,i4])} {c:Code} (hc:c=q1F) (hret: ∀st,Q .ret st=qI tt false [i33,i4] [.cell 4 33,.tmp 5] st) (h4: ∀(v32:List (Val qa)),Q (.exit 4) ⟨[u,.one (.int .i64 v25),.one (.ptr 0 0 0),u,.one (.ptr 1 0 0),u,.one (.own 2),u,.one (.int .i64 v26),u,u,u,u,u,u,u,u,u,u,u,u,u,u,u,u,u,u,u,u,u,u,u,u,u,u,u,u,u,u,u,u,u,u,u,u,u,u,u,u,u,u,u,u,u,u,u,u,u,u,u,u,u,u,u,u,u,u,u,u,u,u,u,u,u,u,u,u,u,u,u,u,u,u,u,u,u,u,u,u,u,u,u,u,u,u,u,u,u,u,u,u,u,u,u,u,u,u,u,u,u,u,u,u],[.box [.int .i64 v28,.sl 108 qa v29 3],.box [.int .i64 v30,.nils],.row 108 qa v32 false true 3]⟩=k4 v32): ∀(n:Nat) (v27:Int) (v31:List (Val qa)),qE (qe tt qdQ (qbO N) c) false qtS Q n ⟨[u,.one (.int .i64 v25),.one (.ptr 0 0 0),u,.one (.ptr 1 0 0),u,.one (.own 2),u,.one (.int .i64 v26),.one (.int .i64 v27),u,u,u,u,u,u,u,u,u,u,u,u,u,u,u,u,u,u,u,u,u,u,u,u,u,u,u,u,u,u,u,u,u,u,u,u,u,u,u,u,u,u,u,u,u,u,u,u,u,u,u,u,u,u,u,u,u,u,u,u,u,u,u,u,u,u,u,u,u,u,u,u,u,u,u,u,u,u,u,u,u,u,u,u,u,u,u,u,u,u,u,u,u,u,u,u,u,u,u,u,u,u,u],[.box [.int .i64 v28,.sl 108 qa v29 3],.box [.int .i64 v30,.nils],.row 108 qa v31 false true 3]⟩=qf3 N v25 v26 v28 v29 v30 k4 n v27 v31:=by
 subst hc;intro n;induction n with
 | zero=>intros;rfl
 | succ n ih=>
   intro v27 v31
   rw [qN,zlj,qf3];unfold Tryz.f151
   simp (maxSteps:=10000000) -implicitDefEqProofs [qll,qgo,qks,qhG,qkT,qgV,qlW,qhI,qju,qha,qku,qkE,qkz,qjB,qlg,qkK,qmR,qjy,qme,qkM,qj5,qlj,qlH,qjR,qmP,qk4,qmF,qlo,qly,qjW,qmM,qmI,qlS,qka,qjl,qaW,qf2,hret,h4,ih]
noncomputable def q05:Code:=cut [true,true,true,false,true,true,true] (Tryz.f151.body.getD .skip)
theorem q75 {N:Nat} {Q:X→St→Option (qc [i33,i4])} {e:List LV} {h:List Blk}:qe tt qdQ (qbO N) q05 Q ⟨e,h⟩=qe tt qdQ (qbO N) (cut [true,true,true,false,true,true,true] (Tryz.f151.body.getD .skip)) Q ⟨e,h⟩:=rfl
theorem q76 (N:Nat) (v10:Int) (v12:Int) (v13:List (Val qa)) (v14:Int) {k2:(List (Val qa))→Option (qc [i33,i4])} {Q:X→St→Option (qc [i33,i4])} {c:Code} (hc:c=q05) (hret: ∀st,Q .ret st=qI tt false [i33,i4] [.cell 4 33,.tmp 5] st) (h2: ∀(v34:List (Val qa)),Q (.exit 2) ⟨[u,u,.one (.ptr 0 0 0),u,.one (.ptr 1 0 0),u,.one (.own 2),u,u,u,u,u,u,u,u,u,u,u,u,u,u,u,u,u,u,u,u,u,u,u,u,u,u,u,u,u,u,u,u,u,u,u,u,u,u,u,u,u,u,u,u,u,u,u,u,u,u,u,u,u,u,u,u,u,u,u,u,u,u,u,u,u,u,u,u,u,u,u,u,u,u,u,u,u,u,u,u,u,u,u,u,u,u,u,u,u,u,u,u,u,u,u,u,u,u,u,u,u,u,u,u,u,u],[.box [.int .i64 v12,.sl 108 qa v13 3],.box [.int .i64 v14,.nils],.row 108 qa v34 false true 3]⟩=k2 v34): ∀(n:Nat) (v11:Int) (v15:List (Val qa)),qE (qe tt qdQ (qbO N) c) false qvE Q n ⟨[u,.one (.int .i64 v10),.one (.ptr 0 0 0),u,.one (.ptr 1 0 0),u,.one (.own 2),u,.one (.int .i64 v11),u,u,u,u,u,u,u,u,u,u,u,u,u,u,u,u,u,u,u,u,u,u,u,u,u,u,u,u,u,u,u,u,u,u,u,u,u,u,u,u,u,u,u,u,u,u,u,u,u,u,u,u,u,u,u,u,u,u,u,u,u,u,u,u,u,u,u,u,u,u,u,u,u,u,u,u,u,u,u,u,u,u,u,u,u,u,u,u,u,u,u,u,u,u,u,u,u,u,u,u,u,u,u,u],[.box [.int .i64 v12,.sl 108 qa v13 3],.box [.int .i64 v14,.nils],.row 108 qa v15 false true 3]⟩=qgM N v10 v12 v13 v14 k2 n v11 v15:=by
 subst hc;intro n;induction n with
 | zero=>intros;rfl
 | succ n ih=>
   intro v11 v15
   rw [qN,q75];unfold Tryz.f151
   simp (maxSteps:=10000000) -implicitDefEqProofs [qll,qgo,qks,qhG,qkT,qgV,qlW,qhI,qju,qha,qku,qkE,qkz,qjB,qlg,qkK,qmR,qjy,qme,qkM,qj5,qlj,qlH,qjR,qmP,qk4,qmF,qlo,qly,qjW,qmM,qmI,qlS,qka,qjl,qaW,qf2,hret,h2,ih]
   rewrite [zaC (k4:=(fun (v33:List (Val qa))=>qgM N v10 v12 v13 v14 k2 n (IntKind.i64.wrap (v11+(1:Int))) v33)) N _ _ _ _ _ ?_ ?_ ?_]
   ·rewrite [qgM];first | rfl | simp (maxSteps:=10000000) -implicitDefEqProofs [ih]
   ·rfl
   ·intro;simp only [qJ,qL,qK,qB,hret]
   ·intro v33;simp (maxSteps:=10000000) -implicitDefEqProofs [qll,qgo,qks,qhG,qkT,qgV,qlW,qhI,qju,qha,qku,qkE,qkz,qjB,qlg,qkK,qmR,qjy,qme,qkM,qj5,qlj,qlH,qjR,qmP,qk4,qmF,qlo,qly,qjW,qmM,qmI,qlS,qka,qjl,qaW,qf2,hret,h2,ih]
theorem q5R (N:Nat) (v0:Val Y33) (v1:Int):qe tt qdQ (qbO N) (Tryz.f151.body.getD .skip) (qt tt false [i33,i4] [.cell 4 33,.tmp 5]) (qw [i33,i3] 113 (v0,v1,()))=qEc N v0 v1:=by
 unfold Tryz.f151
 simp (maxSteps:=10000000) -implicitDefEqProofs [qll,qgo,qks,qhG,qkT,qgV,qlW,qhI,qju,qha,qku,qkE,qkz,qjB,qlg,qkK,qmR,qjy,qme,qkM,qj5,qlj,qlH,qjR,qmP,qk4,qmF,qlo,qly,qjW,qmM,qmI,qlS,qka,qjl,qaW,qf2]
 rewrite [q8I (k0:=(fun (v9:List (Val qa))=>qgM N v1 (v0.1:Int) (v0.2:List (Val qa)) (0:Int) (fun (v35:List (Val qa))=>chk (qbR (v0.1:Int) v35) (bif (decide ((16:Int)<(((qO (v0.1:Int) v35).2:List (Val qa)).length:Int)))then (some (((0:Int),([]:List (Val qa))),false,()))else (some ((qO (v0.1:Int) v35),true,())))) N (0:Int) v9)) N _ _ _ _ ?_ ?_ ?_]
 ·rewrite [qEc];first | rfl | simp (maxSteps:=10000000) -implicitDefEqProofs []
 ·rfl
 ·intro;simp only [qJ,qL,qK,qB]
 ·intro v9;simp (maxSteps:=10000000) -implicitDefEqProofs [qll,qgo,qks,qhG,qkT,qgV,qlW,qhI,qju,qha,qku,qkE,qkz,qjB,qlg,qkK,qmR,qjy,qme,qkM,qj5,qlj,qlH,qjR,qmP,qk4,qmF,qlo,qly,qjW,qmM,qmI,qlS,qka,qjl,qaW,qf2]
  rewrite [q76 (k2:=(fun (v35:List (Val qa))=>chk (qbR (v0.1:Int) v35) (bif (decide ((16:Int)<(((qO (v0.1:Int) v35).2:List (Val qa)).length:Int)))then (some (((0:Int),([]:List (Val qa))),false,()))else (some ((qO (v0.1:Int) v35),true,()))))) N _ _ _ _ ?_ ?_ ?_]
  ·first | rfl | simp (maxSteps:=10000000) -implicitDefEqProofs []
  ·rfl
  ·intro;simp only [qJ,qL,qK,qB]
  ·intro v35;simp (maxSteps:=10000000) -implicitDefEqProofs [qll,qgo,qks,qhG,qkT,qgV,qlW,qhI,qju,qha,qku,qkE,qkz,qjB,qlg,qkK,qmR,qjy,qme,qkM,qj5,qlj,qlH,qjR,qmP,qk4,qmF,qlo,qly,qjW,qmM,qmI,qlS,qka,qjl,qaW,qf2]
def okD (d:Int) (a:Val qa):Prop:=okA a∧(List.length (α:=Int) a.1:Int)=d
abbrev qoM:Option (qc [i33,i4]):=some (((0:Int),([]:List (Val qa))),false,())
theorem qld (v:Int) (a:Val qa):List.getD (α:=Val (.int .i64)) a.1 v.toNat (qb (.int .i64))=cfV v a:=rfl
theorem qtp {v:Int} {a:Val qa} (h:okA a): -400000000≤cfV v a∧cfV v a≤400000000:=by
 unfold cfV
 by_cases hv:v.toNat<List.length (α:=Int) a.1
 ·rw [List.getD_eq_getElem?_getD,List.getElem?_eq_getElem hv]
  exact qmt h _ (List.getElem_mem hv)
 ·rw [List.getD_eq_getElem?_getD,List.getElem?_eq_none (by omega)]
  exact ⟨by decide,by decide⟩
theorem q1q {co:List Int} {k:Int} {s:Bool} (h:(qh co k s).2=true):okA (qh co k s).1∧List.length (α:=Int) (qh co k s).1.1=co.length:=by
 unfold qh qjD at*
 generalize max 1 (gL k.natAbs co)=g at*
 cases hb:qG (List.map (α:=Int) (fun x=>x.tdiv (g:Int)) co,k.tdiv (g:Int),s)with
 | true=>exact ⟨hb,by simp⟩
 | false=>rw [hb]at h;simp at h
theorem q8p {d p q:Int} {a b:Val qa} (ha:okD d a) (hb:okD d b) (h:(q4 a p b q).2=true):okD d (q4 a p b q).1:=by
 unfold q4 at*
 cases hc:(qG a&&qG b&&decide (List.length (α:=Int) a.1=List.length (α:=Int) b.1)&&inR p 0 400000000&&inR q 0 400000000)with
 | false=>rw [hc]at h;simp at h
 | true=>
   rw [hc]at h
   obtain ⟨h1,h2⟩:=q1q h
   simp only [Bool.and_eq_true,decide_eq_true_eq]at hc
   refine ⟨h1,?_⟩
   have:=ha.2
   have e:=qtD (p:=p) (q:=q) hc.1.1.2
   show (List.length (α:=Int) (qh (qbz p q a.1 b.1) _ _).1.1:Int)=d
   rw [h2,e];exact this
theorem qvW {v d:Int} {a:Val qa} (ha:okD d a): ∀{xs s s':List (Val qa)},(∀b∈xs,okD d b)→(∀b∈s,okD d b)→qb1 v a xs s=some s'→(∀b∈s',okD d b)∧s'.length≤s.length+xs.length
 | [],s,s',_,hs,h=>by simp only [qb1,Option.some.injEq]at h;subst h;exact ⟨hs,by simp⟩
 | b::r,s,s',hx,hs,h=>by
   simp only [qb1]at h
   cases hn:decide (cfV v b<0)with
   | false=>
     rw [hn]at h
     obtain ⟨h1,h2⟩:=qvW ha (fun c hc=>hx c (by simp [hc])) hs h
     exact ⟨h1,by simp;omega⟩
   | true=>
     rw [hn]at h
     cases hm:(q4 a (-cfV v b) b (cfV v a)).2 with
     | false=>rw [hm]at h;simp at h
     | true=>
       rw [hm]at h
       simp only [cond_true]at h
       obtain ⟨h1,h2⟩:=qvW ha (fun c hc=>hx c (by simp [hc])) (fun c hc=>by
        rcases List.mem_append.1 hc with hc | hc
        ·exact hs c hc
        ·simp only [List.mem_singleton]at hc;subst hc;exact q8p ha (hx b (by simp)) hm) h
       exact ⟨h1,by simp at h2 ⊢;omega⟩
theorem qVG {v d:Int} {l:List (Val qa)} (hl: ∀b∈l,okD d b): ∀{xs s s':List (Val qa)},(∀b∈xs,okD d b)→(∀b∈s,okD d b)→qbQ v l xs s=some s'→(∀b∈s',okD d b)∧s'.length≤s.length+xs.length*l.length
 | [],s,s',_,hs,h=>by simp only [qbQ,Option.some.injEq]at h;subst h;exact ⟨hs,by simp⟩
 | a::r,s,s',hx,hs,h=>by
   simp only [qbQ]at h
   cases hn:decide (0<cfV v a)with
   | false=>
     rw [hn]at h
     obtain ⟨h1,h2⟩:=qVG hl (fun c hc=>hx c (by simp [hc])) hs h
     exact ⟨h1,by simp [Nat.add_mul];omega⟩
   | true=>
     rw [hn]at h
     simp only [cond_true]at h
     cases hm:qb1 v a l s with
     | none=>rw [hm]at h;simp at h
     | some s1=>
       rw [hm]at h
       obtain ⟨g1,g2⟩:=qvW (hx a (by simp)) hl hs hm
       obtain ⟨h1,h2⟩:=qVG hl (fun c hc=>hx c (by simp [hc])) g1 h
       exact ⟨h1,by simp [Nat.add_mul];omega⟩
theorem qAM {ρ:Type} {v:Int} {k:List (Val qa)→Option ρ}: ∀(xs:List (Val qa)) (i:Nat) (s:List (Val qa)),s.length+xs.length≤1048576→
 qat (fun _ (x:Val qa) (s:List (Val qa)) K=>bif decide (cfV v x=0)then chk (s.length+[x].length≤1048576) (K (s++[x]))else K s) i xs s k=k (s++xs.filter fun a=>decide (cfV v a=0))
 | [],_,s,_=>by rw [qat];simp
 | x::xs,i,s,h=>by
   simp only [List.length_cons]at h
   rw [qat,List.filter_cons]
   cases hb:decide (cfV v x=0)with
   | true=>simp only [cond_true];rw [qd (by simp;omega),qAM xs _ _ (by simp;omega)];simp
   | false=>simp only [cond_false];rw [qAM xs _ _ (by omega)];simp
theorem qy5 {ρ:Type} {v:Int} {a:Val qa} {r:Option ρ} {k:List (Val qa)→Option ρ}: ∀(xs:List (Val qa)) (i:Nat) (s:List (Val qa)),s.length+xs.length≤1048576→
 qat (fun _ (b:Val qa) (s:List (Val qa)) K=>bif decide (0≤cfV v b)then K s else bif !(q4 a (-cfV v b) b (cfV v a)).2 then r else chk (s.length+[(q4 a (-cfV v b) b (cfV v a)).1].length≤1048576) (K (s++[(q4 a (-cfV v b) b (cfV v a)).1]))) i xs s k=match qb1 v a xs s with
  | some s'=>k s'
  | none=>r
 | [],_,s,_=>by rw [qat];rfl
 | b::xs,i,s,h=>by
   simp only [List.length_cons]at h
   rw [qat,qb1]
   by_cases hb:cfV v b<0
   ·rw [qj (show ¬0≤cfV v b by omega),qk hb]
    cases hm:(q4 a (-cfV v b) b (cfV v a)).2 with
    | false=>rfl
    | true=>
      simp only [Bool.not_true,cond_false,cond_true]
      rw [qd (by simp;omega)]
      exact qy5 xs _ _ (by simp;omega)
   ·rw [qk (show 0≤cfV v b by omega),qj hb]
    exact qy5 xs _ _ (by omega)
theorem zi7 (N:Nat) (d v:Int) (l:List (Val qa)) (hv:0≤v∧v<d) (hl:l.length≤1048576) (h: ∀b∈l,okD d b) (K:List (Val qa)→Option (qc [i33,i4])) (n:Nat) (hn:l.length<n):
 qg6 N v l l.length d l 0 K n 0 []=K (l.filter fun a=>decide (cfV v a=0)):=
 (qaP (xs:=l) (F:=fun n i s=>qg6 N v l l.length d l 0 K n i s) (step:=fun _ (x:Val qa) (s:List (Val qa)) K=>bif decide (cfV v x=0)then chk (s.length+[x].length≤1048576) (K (s++[x]))else K s) (k:=K) hl (fun n i s hi=>by
   have hd:=(h _ (List.getElem_mem hi)).2
   rw [qg6,qk (by omega),qd (by omega),qF hi,qd ⟨hv.1,by rw [show (List.length (α:=Val (.int .i64)) l[i].1:Int)=d from hd];exact hv.2⟩]
   try rfl) (fun n i s hi=>by rw [qg6,qj (by omega)]) n [] hn).trans (qAM l 0 [] (by simpa using hl))
theorem q4u (N:Nat) (d v:Int) (l:List (Val qa)) (hv:0≤v∧v<d) (hl:l.length≤1048576) (h: ∀b∈l,okD d b) (a:Val qa) (ha:okD d a) (i0:Int) (K:List (Val qa)→Option (qc [i33,i4])) (n:Nat) (hn:l.length<n) (s:List (Val qa)) (hs:s.length+l.length≤1048576):
 qhT N v l l.length i0 l l.length d l 0 a.1 a.2.1 a.2.2 K n 0 s=match qb1 v a l s with
  | some s'=>K s'
  | none=>qoM:=
 (qaP (xs:=l) (F:=fun n i s=>qhT N v l l.length i0 l l.length d l 0 a.1 a.2.1 a.2.2 K n i s) (step:=fun _ (b:Val qa) (s:List (Val qa)) K=>bif decide (0≤cfV v b)then K s else bif !(q4 a (-cfV v b) b (cfV v a)).2 then qoM else chk (s.length+[(q4 a (-cfV v b) b (cfV v a)).1].length≤1048576) (K (s++[(q4 a (-cfV v b) b (cfV v a)).1]))) (k:=K) hl (fun n i s hi=>by
   have hb:=h _ (List.getElem_mem hi)
   have hbd:=hb.2
   have had:=ha.2
   have hc:=qtp (v:=v) hb.1
   rw [qhT,qk (by omega),qd (by omega),qF hi,qd ⟨hv.1,by rw [show (List.length (α:=Val (.int .i64)) l[i].1:Int)=d from hbd];exact hv.2⟩,qd ⟨hv.1,by rw [show (List.length (α:=Val (.int .i64)) l[i].1:Int)=d from hbd];exact hv.2⟩,qd ⟨hv.1,by rw [show (List.length (α:=Val (.int .i64)) a.1:Int)=d from had];exact hv.2⟩,qld,qld,qjd (by unfold inI;omega)]
   try rfl) (fun n i s hi=>by rw [qhT,qj (by omega)]) n s hn).trans (qy5 l 0 s hs)
theorem qNH (N:Nat) (d v:Int) (l:List (Val qa)) (hv:0≤v∧v<d) (hl:l.length≤16) (h: ∀b∈l,okD d b) (hN:l.length<N) (K:List (Val qa)→Option (qc [i33,i4])): ∀(k i:Nat),l.length - i=k→ ∀n,k<n→ ∀s:List (Val qa),s.length+k*l.length≤1000→(∀b∈s,okD d b)→
 qfU N v l l.length d l 0 K n i s=match qbQ v l (l.drop i) s with
  | some s'=>K s'
  | none=>qoM
 | 0,i,hi,n+1,_,s,_,_=>by
   rw [qfU,qj (by omega),List.drop_eq_nil_of_le (by omega)]
   rfl
 | k+1,i,hi,n+1,hn,s,hs,hsd=>by
   have h1:i<l.length:=by omega
   have ha:=h _ (List.getElem_mem h1)
   have had:=ha.2
   have hk:s.length+(k*l.length+l.length)≤1000:=by rw [Nat.add_mul,Nat.one_mul]at hs;exact hs
   rw [qfU,qk (by omega),qd (by omega),qF h1,qd ⟨hv.1,by rw [show (List.length (α:=Val (.int .i64)) l[i].1:Int)=d from had];exact hv.2⟩,qld,qa2 h1 (by omega),qbo h1,qbQ]
   by_cases hc:0<cfV v l[i]
   ·rw [qj (show ¬cfV v l[i]≤0 by omega),qk hc,q4u N d v l hv (by omega) h l[i] ha _ _ N hN s (by omega)]
    cases hm:qb1 v l[i] l s with
    | none=>rfl
    | some s1=>
      obtain ⟨g1,g2⟩:=qvW ha h hsd hm
      exact qNH N d v l hv hl h hN K k (i+1) (by omega) n (by omega) s1 (by omega) g1
   ·rw [qk (show cfV v l[i]≤0 by omega),qj hc]
    exact qNH N d v l hv hl h hN K k (i+1) (by omega) n (by omega) s (by omega) hsd
theorem qOD {d v:Int} {l s:List (Val qa)} (hd:0≤d∧d≤4) (hl:l.length≤16) (h: ∀b∈l,okD d b) (hm:qbQ v l l (l.filter fun a=>decide (cfV v a=0))=some s):okL d s:=by
 have hf:=List.length_filter_le (fun a:Val qa=>decide (cfV v a=0)) l
 obtain ⟨g1,g2⟩:=qVG h h (fun b hb=>h b (List.mem_filter.1 hb).1) hm
 have:l.length*l.length≤16*16:=Nat.mul_le_mul hl hl
 exact ⟨hd,by omega,g1⟩
theorem q5Y (c:Val Y33) (v:Int): ∃N,qx4 N c v=some ((qcp c v).1,(qcp c v).2,()):=⟨List.length (α:=Val qa) c.2+1,by
 rw [qx4]
 unfold qcp
 cases hc:qH c with
 | false=>rfl
 | true=>
 obtain ⟨hd,hl,hok⟩:=qaJ hc
 simp only [Bool.not_true,cond_false,Bool.true_and]
 by_cases h1:v<0
 ·rw [qk h1,decide_eq_false (by omega)];rfl
 rw [qj h1]
 by_cases h2:(c.1:Int)≤v
 ·rw [qk h2,decide_eq_false (fun h=>absurd h.2 (Int.not_lt.2 h2))];rfl
 have hv:0≤v∧v<(c.1:Int):=⟨by omega,Int.not_le.1 h2⟩
 rw [qj h2,decide_eq_true hv]
 have hf:=List.length_filter_le (fun a:Val qa=>decide (cfV v a=0)) c.2
 have hll:List.length (α:=Val qa) c.2*List.length (α:=Val qa) c.2≤16*16:=Nat.mul_le_mul hl hl
 rw [zi7 _ c.1 v c.2 hv (by omega) hok _ _ (Nat.lt_succ_self _)]
 have hfs: ∀b∈List.filter (α:=Val qa) (fun a=>decide (cfV v a=0)) c.2,okD c.1 b:=fun b hb=>hok b (List.mem_filter.1 hb).1
 unfold qU
 generalize hS:List.filter (α:=Val qa) (fun a=>decide (cfV v a=0)) c.2=S at hf hfs ⊢
 refine (qNH _ c.1 v c.2 hv hl hok (Nat.lt_succ_self _) _ (List.length (α:=Val qa) c.2) 0 rfl _ (Nat.lt_succ_self _) S (by have h5:S.length≤List.length (α:=Val qa) c.2:=hf;omega) hfs).trans ?_
 rw [List.drop_zero]
 simp only [cond_true]
 cases hm:qbQ v c.2 c.2 S with
 | none=>rfl
 | some s=>
   dsimp only
   rw [qd (show qn6 c.1 s from qOD hd hl hok (hS▸hm))]⟩
theorem q1M:Sound Tryz.prog 237 qeA:=qx (tt:=tt) (Γ:=qcW) hT (qg qv0 (qg zmF (qg q6U qu))) hm (fn:=Tryz.f237) Tryz.func237 (c:=Tryz.f237.body.getD .skip) (by kernel_rfl) (by kernel_rfl) fun x hx=>by
 obtain ⟨N,h⟩:=q5Y x.1 x.2.1
 exact ⟨qbN N,znw,qy _,zpb N,(zb8 N x.1 x.2.1).trans h⟩
theorem q1B {ρ α σ:Type} {k:σ→Option ρ}: ∀(xs:List α) (i:Nat) (s:σ),qat (fun _ (_:α) (s:σ) (K:σ→Option ρ)=>K s) i xs s k=k s
 | [],_,_=>rfl
 | _::xs,i,s=>by rw [qat];exact q1B xs _ s
theorem zeS (N:Nat) (d v:Int) (l:List (Val qa)) (hv:0≤v∧v<d) (hl:l.length≤1048576) (h: ∀b∈l,okD d b) (K:List (Val qa)→Option (qc [i33,i4])) (n:Nat) (hn:l.length<n):
 qh5 N v d l 0 K n 0 []=K (l.filter fun a=>decide (cfV v a=0)):=
 (qaP (xs:=l) (F:=fun n i s=>qh5 N v d l 0 K n i s) (step:=fun _ (x:Val qa) (s:List (Val qa)) K=>bif decide (cfV v x=0)then chk (s.length+[x].length≤1048576) (K (s++[x]))else K s) (k:=K) hl (fun n i s hi=>by
   have hd:=(h _ (List.getElem_mem hi)).2
   rw [qh5,qk (by omega),qd (by omega),qF hi,qd ⟨hv.1,by rw [show (List.length (α:=Val (.int .i64)) l[i].1:Int)=d from hd];exact hv.2⟩,qd (by omega)]
   try rfl) (fun n i s hi=>by rw [qh5,qj (by omega)]) n [] hn).trans (qAM l 0 [] (by simpa using hl))
theorem zkn (N:Nat) (d v:Int) (l:List (Val qa)) (hv:0≤v∧v<d) (hl:l.length≤1048576) (h: ∀b∈l,okD d b) (i0:Nat) (h0:i0<l.length) (K:List (Val qa)→Option (qc [i33,i4])) (n:Nat) (hn:l.length<n) (s:List (Val qa)) (hs:s.length+l.length≤1048576):
 qf3 N v i0 d l 0 K n 0 s=bif decide (0<cfV v l[i0])then (match qb1 v l[i0] l s with
  | some s'=>K s'
  | none=>qoM)else K s:=by
 refine (qaP (xs:=l) (F:=fun n i s=>qf3 N v i0 d l 0 K n i s) (step:=fun _ (b:Val qa) (s:List (Val qa)) K=>bif decide (cfV v l[i0]≤0)then K s else bif decide (0≤cfV v b)then K s else bif !(q4 l[i0] (-cfV v b) b (cfV v l[i0])).2 then qoM else chk (s.length+[(q4 l[i0] (-cfV v b) b (cfV v l[i0])).1].length≤1048576) (K (s++[(q4 l[i0] (-cfV v b) b (cfV v l[i0])).1]))) (k:=K) hl (fun n i s hi=> ?_) (fun n i s hi=>by rw [qf3,qj (by omega)]) n s hn).trans ?_
 ·have ha:=h _ (List.getElem_mem h0)
  have hb:=h _ (List.getElem_mem hi)
  have hbd:=hb.2
  have had:=ha.2
  have hc:=qtp (v:=v) hb.1
  have p1:qbu l[i0]:=by have:=(qbv ha.1).1;show List.length (α:=Val (.int .i64)) l[i0].1≤1048576;exact Nat.le_trans this (by decide)
  have p2:qbu l[i]:=by have:=(qbv hb.1).1;show List.length (α:=Val (.int .i64)) l[i].1≤1048576;exact Nat.le_trans this (by decide)
  rw [qf3,qk (by omega),qF h0,qF hi]
  have ng:IntKind.i64.wrap (0 - cfV v l[i])= -cfV v l[i]:=qjd (by unfold inI;omega)
  rw [qld v l[i0],qld v l[i],ng,qd (by omega),qd ⟨hv.1,by rw [show (List.length (α:=Val (.int .i64)) l[i0].1:Int)=d from had];exact hv.2⟩,qd (by omega),qd ⟨hv.1,by rw [show (List.length (α:=Val (.int .i64)) l[i].1:Int)=d from hbd];exact hv.2⟩,qd (by omega),qd (by omega),qd (show qDQ l[i0] _ l[i] _ from ⟨p1,p2⟩)]
  try rfl
 ·by_cases hx:0<cfV v l[i0]
  ·rw [qk hx,decide_eq_false (show ¬cfV v l[i0]≤0 by omega)]
   exact qy5 l 0 s hs
  ·rw [qj hx,decide_eq_true (show cfV v l[i0]≤0 by omega)]
   exact q1B l 0 s
theorem qL9 (N:Nat) (d v:Int) (l:List (Val qa)) (hv:0≤v∧v<d) (hl:l.length≤16) (h: ∀b∈l,okD d b) (hN:l.length<N) (K:List (Val qa)→Option (qc [i33,i4])): ∀(k i:Nat),l.length - i=k→ ∀n,k<n→ ∀s:List (Val qa),s.length+k*l.length≤1000→(∀b∈s,okD d b)→
 qgM N v d l 0 K n i s=match qbQ v l (l.drop i) s with
  | some s'=>K s'
  | none=>qoM
 | 0,i,hi,n+1,_,s,_,_=>by
   rw [qgM,qj (by omega),List.drop_eq_nil_of_le (by omega)]
   rfl
 | k+1,i,hi,n+1,hn,s,hs,hsd=>by
   have h1:i<l.length:=by omega
   have ha:=h _ (List.getElem_mem h1)
   have hk:s.length+(k*l.length+l.length)≤1000:=by rw [Nat.add_mul,Nat.one_mul]at hs;exact hs
   rw [qgM,qk (by omega),qa2 h1 (by omega),qbo h1,qbQ,zkn N d v l hv (by omega) h i h1 _ N hN s (by omega)]
   by_cases hc:0<cfV v l[i]
   ·rw [qk hc,qk hc]
    cases hm:qb1 v l[i] l s with
    | none=>rfl
    | some s1=>
      obtain ⟨g1,g2⟩:=qvW ha h hsd hm
      exact qL9 N d v l hv hl h hN K k (i+1) (by omega) n (by omega) s1 (by omega) g1
   ·rw [qj hc,qj hc]
    exact qL9 N d v l hv hl h hN K k (i+1) (by omega) n (by omega) s (by omega) hsd
theorem za8 (c:Val Y33) (v:Int) (h:qnm c v): ∃N,qEc N c v=some ((qU c v).1,(qU c v).2,()):=⟨List.length (α:=Val qa) c.2+1,by
 obtain ⟨hc,hv⟩:=h
 rw [qEc]
 obtain ⟨hd,hl,hok⟩:=qaJ hc
 have hf:=List.length_filter_le (fun a:Val qa=>decide (cfV v a=0)) c.2
 have hll:List.length (α:=Val qa) c.2*List.length (α:=Val qa) c.2≤16*16:=Nat.mul_le_mul hl hl
 rw [zeS _ c.1 v c.2 hv (by omega) hok _ _ (Nat.lt_succ_self _)]
 have hfs: ∀b∈List.filter (α:=Val qa) (fun a=>decide (cfV v a=0)) c.2,okD c.1 b:=fun b hb=>hok b (List.mem_filter.1 hb).1
 unfold qU
 generalize hS:List.filter (α:=Val qa) (fun a=>decide (cfV v a=0)) c.2=S at hf hfs ⊢
 refine (qL9 _ c.1 v c.2 hv hl hok (Nat.lt_succ_self _) _ (List.length (α:=Val qa) c.2) 0 rfl _ (Nat.lt_succ_self _) S (by have h5:S.length≤List.length (α:=Val qa) c.2:=hf;omega) hfs).trans ?_
 rw [List.drop_zero]
 cases hm:qbQ v c.2 c.2 S with
 | none=>rfl
 | some s=>
   dsimp only
   rw [qd (show qbR c.1 s from qOD hd hl hok (hS▸hm))]
   unfold qbi
   cases decide ((16:Int)<(List.length (α:=Val qa) (qO c.1 s).2:Int))<;>rfl⟩
theorem q2t:Sound Tryz.prog 151 qb7:=qx (tt:=tt) (Γ:=qdQ) hT (qg qOO (qg zjl qu)) hm (fn:=Tryz.f151) Tryz.func151 (c:=Tryz.f151.body.getD .skip) (by kernel_rfl) (by kernel_rfl) fun x hx=>by
 obtain ⟨N,h⟩:=za8 x.1 x.2.1 hx
 exact ⟨qbO N,zps,qy _,zia N,(q5R N x.1 x.2.1).trans h⟩
end Go.T
