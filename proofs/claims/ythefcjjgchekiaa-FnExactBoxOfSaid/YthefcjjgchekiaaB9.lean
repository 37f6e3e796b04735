/- Dropping variables. -/
import Derived.Test.YthefcjjgchekiaaB6
import Derived.Test.YthefcjjgchekiaaB8
set_option linter.unusedSimpArgs false
set_option linter.unusedVariables false
namespace Go.T
open Go Go.Proofs
set_option maxHeartbeats 4000000
set_option maxRecDepth 100000
def cfV (v:Int) (a:Val Y36):Int:=List.getD (α:=Int) a.1 v.toNat 0
def qcC (v:Int) (a:Val Y36):List (Val Y36)→List (Val Y36)→Option (List (Val Y36))
 | [],s=>some s
 | b::r,s=>bif decide (cfV v b<0)then (bif (qU a (-cfV v b) b (cfV v a)).2 then qcC v a r (s++[(qU a (-cfV v b) b (cfV v a)).1])else none)else qcC v a r s
def qcn (v:Int) (l:List (Val Y36)):List (Val Y36)→List (Val Y36)→Option (List (Val Y36))
 | [],s=>some s
 | a::r,s=>bif decide (0<cfV v a)then (match qcC v a l s with
   | some s'=>qcn v l r s'
   | none=>none)else qcn v l r s
def qaS (c:Val Y32) (v:Int):Val Y32×Bool:=match qcn v c.2 c.2 (List.filter (α:=Val Y36) (fun a=>decide (cfV v a=0)) c.2)with
 | some l=>qb2 c.1 l
 | none=>(((0:Int),[]),false)
def qn1 (c:Val Y32) (v:Int):Prop:=qac c=true∧0≤v∧v<(c.1:Int)
def qdg (c:Val Y32) (v:Int):Val Y32×Bool:=bif qac c&&decide (0≤v∧v<(c.1:Int))then qaS c v else (((0:Int),[]),false)
def g53:G:={ps:=[i32,i3],rs:=[i32,i4],dp:=true,pre:=fun _=>True,fn:=fun x=>((qdg x.1 x.2.1).1,(qdg x.1 x.2.1).2,())}
def g50:G:={ps:=[i32,i3],rs:=[i32,i4],dp:=false,pre:=fun x=>qn1 x.1 x.2.1,fn:=fun x=>((qaS x.1 x.2.1).1,(qaS x.1 x.2.1).2,())}
noncomputable def qdU (N:Nat) (v2:Int) (v3:List (Val Y36)) (v4:Int) (v6:Int) (v7:List (Val Y36)) (v8:Int) (k0:(List (Val Y36))→Option (qb [i32,i4])):Nat→Int→(List (Val Y36))→Option (qb [i32,i4])
 | 0,_,_=>none
 | n+1,v5,v9=>bif (decide (v5<v4))then (chk (0≤v5∧v5<(v3.length:Int)) (chk (0≤v2∧v2<(((v3.getD v5.toNat (qa Y36)).1:List (Val (.int .i64))).length:Int)) (bif (decide (((((v3.getD v5.toNat (qa Y36)).1:List (Val (.int .i64))).getD v2.toNat (qa (.int .i64))):Int)=(0:Int)))then (chk (v9.length+([(v3.getD v5.toNat (qa Y36))]:List (Val Y36)).length≤1048576) (qdU N v2 v3 v4 v6 v7 v8 k0 n (IntKind.i64.wrap (v5+(1:Int))) (v9++([(v3.getD v5.toNat (qa Y36))]:List (Val Y36)))))else (qdU N v2 v3 v4 v6 v7 v8 k0 n (IntKind.i64.wrap (v5+(1:Int))) v9))))else (k0 v9)
noncomputable def qd5 (N:Nat) (v36:Int) (v37:List (Val Y36)) (v38:Int) (v39:Int) (v40:List (Val Y36)) (v41:Int) (v43:Int) (v44:List (Val Y36)) (v45:Int) (v47:List (Val (.int .i64))) (v48:Int) (v49:Bool) (k4:(List (Val Y36))→Option (qb [i32,i4])):Nat→Int→(List (Val Y36))→Option (qb [i32,i4])
 | 0,_,_=>none
 | n+1,v42,v46=>bif (decide (v42<v41))then (chk (0≤v42∧v42<(v40.length:Int)) (chk (0≤v36∧v36<(((v40.getD v42.toNat (qa Y36)).1:List (Val (.int .i64))).length:Int)) (bif (decide ((0:Int)≤((((v40.getD v42.toNat (qa Y36)).1:List (Val (.int .i64))).getD v36.toNat (qa (.int .i64))):Int)))then (qd5 N v36 v37 v38 v39 v40 v41 v43 v44 v45 v47 v48 v49 k4 n (IntKind.i64.wrap (v42+(1:Int))) v46)else (chk (0≤v36∧v36<(((v40.getD v42.toNat (qa Y36)).1:List (Val (.int .i64))).length:Int)) (chk (0≤v36∧v36<(v47.length:Int)) (bif (!((qU (v47,v48,v49) (IntKind.i64.wrap (0 - ((((v40.getD v42.toNat (qa Y36)).1:List (Val (.int .i64))).getD v36.toNat (qa (.int .i64))):Int))) (v40.getD v42.toNat (qa Y36)) ((v47.getD v36.toNat (qa (.int .i64))):Int)).2:Bool))then (some (((0:Int),([]:List (Val Y36))),false,()))else (chk (v46.length+([((((qU (v47,v48,v49) (IntKind.i64.wrap (0 - ((((v40.getD v42.toNat (qa Y36)).1:List (Val (.int .i64))).getD v36.toNat (qa (.int .i64))):Int))) (v40.getD v42.toNat (qa Y36)) ((v47.getD v36.toNat (qa (.int .i64))):Int)).1).1:List (Val (.int .i64))),((((qU (v47,v48,v49) (IntKind.i64.wrap (0 - ((((v40.getD v42.toNat (qa Y36)).1:List (Val (.int .i64))).getD v36.toNat (qa (.int .i64))):Int))) (v40.getD v42.toNat (qa Y36)) ((v47.getD v36.toNat (qa (.int .i64))):Int)).1).2).1:Int),((((qU (v47,v48,v49) (IntKind.i64.wrap (0 - ((((v40.getD v42.toNat (qa Y36)).1:List (Val (.int .i64))).getD v36.toNat (qa (.int .i64))):Int))) (v40.getD v42.toNat (qa Y36)) ((v47.getD v36.toNat (qa (.int .i64))):Int)).1).2).2:Bool))]:List (Val Y36)).length≤1048576) (qd5 N v36 v37 v38 v39 v40 v41 v43 v44 v45 v47 v48 v49 k4 n (IntKind.i64.wrap (v42+(1:Int))) (v46++([((((qU (v47,v48,v49) (IntKind.i64.wrap (0 - ((((v40.getD v42.toNat (qa Y36)).1:List (Val (.int .i64))).getD v36.toNat (qa (.int .i64))):Int))) (v40.getD v42.toNat (qa Y36)) ((v47.getD v36.toNat (qa (.int .i64))):Int)).1).1:List (Val (.int .i64))),((((qU (v47,v48,v49) (IntKind.i64.wrap (0 - ((((v40.getD v42.toNat (qa Y36)).1:List (Val (.int .i64))).getD v36.toNat (qa (.int .i64))):Int))) (v40.getD v42.toNat (qa Y36)) ((v47.getD v36.toNat (qa (.int .i64))):Int)).1).2).1:Int),((((qU (v47,v48,v49) (IntKind.i64.wrap (0 - ((((v40.getD v42.toNat (qa Y36)).1:List (Val (.int .i64))).getD v36.toNat (qa (.int .i64))):Int))) (v40.getD v42.toNat (qa Y36)) ((v47.getD v36.toNat (qa (.int .i64))):Int)).1).2).2:Bool))]:List (Val Y36)))))))))))else (k4 v46)
noncomputable def qdu (N:Nat) (v12:Int) (v13:List (Val Y36)) (v14:Int) (v16:Int) (v17:List (Val Y36)) (v18:Int) (k2:(List (Val Y36))→Option (qb [i32,i4])):Nat→Int→(List (Val Y36))→Option (qb [i32,i4])
 | 0,_,_=>none
 | n+1,v15,v19=>bif (decide (v15<v14))then (chk (0≤v15∧v15<(v13.length:Int)) (chk (0≤v12∧v12<(((v13.getD v15.toNat (qa Y36)).1:List (Val (.int .i64))).length:Int)) (bif (decide (((((v13.getD v15.toNat (qa Y36)).1:List (Val (.int .i64))).getD v12.toNat (qa (.int .i64))):Int)≤(0:Int)))then (qdu N v12 v13 v14 v16 v17 v18 k2 n (IntKind.i64.wrap (v15+(1:Int))) v19)else (qd5 N v12 v13 v14 v15 v17 (v17.length:Int) v16 v17 v18 ((v13.getD v15.toNat (qa Y36)).1:List (Val (.int .i64))) (((v13.getD v15.toNat (qa Y36)).2).1:Int) (((v13.getD v15.toNat (qa Y36)).2).2:Bool) (fun (v51:List (Val Y36))=>qdu N v12 v13 v14 v16 v17 v18 k2 n (IntKind.i64.wrap (v15+(1:Int))) v51) N (0:Int) v19))))else (k2 v19)
noncomputable def m53 (N:Nat) (v0:Val Y32) (v1:Int):Option (qb [i32,i4]):=bif (!((qac v0):Bool))then (some (((0:Int),([]:List (Val Y36))),false,()))else (bif (decide (v1<(0:Int)))then (some (((0:Int),([]:List (Val Y36))),false,()))else (bif (decide ((v0.1:Int)≤v1))then (some (((0:Int),([]:List (Val Y36))),false,()))else (qdU N v1 (v0.2:List (Val Y36)) ((v0.2:List (Val Y36)).length:Int) (v0.1:Int) (v0.2:List (Val Y36)) (0:Int) (fun (v11:List (Val Y36))=>qdu N v1 (v0.2:List (Val Y36)) ((v0.2:List (Val Y36)).length:Int) (v0.1:Int) (v0.2:List (Val Y36)) (0:Int) (fun (v53:List (Val Y36))=>chk (qik (v0.1:Int) v53) (some (((((qb2 (v0.1:Int) v53).1).1:Int),(((qb2 (v0.1:Int) v53).1).2:List (Val Y36))),((qb2 (v0.1:Int) v53).2:Bool),()))) N (0:Int) v11) N (0:Int) ([]:List (Val Y36)))))
def Γ53:Gam:=[(40,g40),(46,g46),(77,g77)]
theorem qf7:Gam.get Γ53 40=some g40:=rfl
theorem qfF:Gam.get Γ53 46=some g46:=rfl
theorem qgn:Gam.get Γ53 77=some g77:=rfl
def qi4:Nm:=⟨[false,true,true,false,true,false,true,false,false,false,false,false,false,false,false,false,false,false,false,false,false,false,false,false,false,false,false,false,false,false,false,true,true,true],[.und 6 0 36 Y36],false⟩
theorem qgv:qi4.zero=false:=rfl
theorem qfs:qi4.fix=[.und 6 0 36 Y36]:=rfl
theorem qgR:qi4.keep=[false,true,true,false,true,false,true,false,false,false,false,false,false,false,false,false,false,false,false,false,false,false,false,false,false,false,false,false,false,false,false,true,true,true]:=rfl
def qiy:Nm:=⟨[false,true,true,false,true,false,true,false,false,false,true,false,false,false,false,false,false,false,false,false,false,false,false,false,false,false,false,false,false,false,false,false,false,false,false,false,false,false,false,false,false,false,false,false,false,false,false,false,false,true,true,true,false,false,false,false,false,false,false,false,false,false,true,true,true],[],false⟩
theorem qfx:qiy.zero=false:=rfl
theorem qgH:qiy.fix=[]:=rfl
theorem qff:qiy.keep=[false,true,true,false,true,false,true,false,false,false,true,false,false,false,false,false,false,false,false,false,false,false,false,false,false,false,false,false,false,false,false,false,false,false,false,false,false,false,false,false,false,false,false,false,false,false,false,false,false,true,true,true,false,false,false,false,false,false,false,false,false,false,true,true,true]:=rfl
def qjB:Nm:=⟨[false,true,true,false,true,false,true,false,false,false,false,false,false,false,false,false,false,false,false,false,false,false,false,false,false,false,false,false,false,false,false,false,false,false,false,false,false,false,false,false,false,false,false,false,false,false,false,false,false,true,true,true],[],false⟩
theorem qfj:qjB.zero=false:=rfl
theorem qfV:qjB.fix=[]:=rfl
theorem qft:qjB.keep=[false,true,true,false,true,false,true,false,false,false,false,false,false,false,false,false,false,false,false,false,false,false,false,false,false,false,false,false,false,false,false,false,false,false,false,false,false,false,false,false,false,false,false,false,false,false,false,false,false,true,true,true]:=rfl
def qoO:Nm:=⟨[false,true,true,false,true,false,true],[],false⟩
theorem qgS:qoO.zero=false:=rfl
theorem qg2:qoO.fix=[]:=rfl
theorem qfq:qoO.keep=[false,true,true,false,true,false,true]:=rfl
def qp5:Nm:=⟨[false,false,true,false,true,false,true],[],false⟩
theorem qe9:qp5.zero=false:=rfl
theorem qfQ:qp5.fix=[]:=rfl
theorem qfz:qp5.keep=[false,false,true,false,true,false,true]:=rfl
def qoQ:Nm:=⟨[false,true,true,false,true,false,true,false,false,false,false,false,false,false,false,false,false,false,false,false,false,false,false,false,false,false,false,false,false,false,false,false,false,false,false,false,false,false,false,false,false,false,false,false,false,false,false,false,false,true,true,true],[],false⟩
theorem qfd:qoQ.zero=false:=rfl
theorem qgQ:qoQ.fix=[]:=rfl
theorem qgt:qoQ.keep=[false,true,true,false,true,false,true,false,false,false,false,false,false,false,false,false,false,false,false,false,false,false,false,false,false,false,false,false,false,false,false,false,false,false,false,false,false,false,false,false,false,false,false,false,false,false,false,false,false,true,true,true]:=rfl
def qoK:Nm:=⟨[false,true,true,false,true,false,true,false,false,false,true,false,false,true,true,false,false,false,false,false,false,false,false,false,false,false,false,false,false,false,false,false,false,false,false,false,false,false,false,false,false,false,false,false,false,false,false,false,false,true,true,true,false,false,false,false,false,false,false,false,false,false,true,true,true],[],false⟩
theorem qfH:qoK.zero=false:=rfl
theorem qfr:qoK.fix=[]:=rfl
theorem qfk:qoK.keep=[false,true,true,false,true,false,true,false,false,false,true,false,false,true,true,false,false,false,false,false,false,false,false,false,false,false,false,false,false,false,false,false,false,false,false,false,false,false,false,false,false,false,false,false,false,false,false,false,false,true,true,true,false,false,false,false,false,false,false,false,false,false,true,true,true]:=rfl
def qdh:Nat→Tree:=fun i=>if i=18 then .first 3 (.first 10 (.grow 0 (.grow 1 (.grow 2 (.grow 4 (.grow 5 (.first 6 (.grow 7 (.grow 8 (.grow 9 (.grow 11 (.grow 12 (.alt 13 (.first 14 (.first 15 (.first 16 (.alt 17 (.alt 18 (.quiet 19 .done) .stop) .stop)))) (.alt 17 (.alt 13 (.quiet 14 (.quiet 15 (.first 16 (.alt 18 (.quiet 19 .done) .stop)))) .stop) .stop))))))))))))))else .done
def qeh:Nat→Nm:=fun i=>if i=5 then qi4 else if i=15 then qiy else if i=11 then qjB else ⟨[],[],false⟩
def qdK:Nat→Option Jn:=fun _=>none
def qen:Nat→Option Nm:=fun i=>if i=0 then some qoO else if i=2 then some qp5 else if i=4 then some qoQ else none
def qdL:Nat→Option Nm:=fun i=>if i=18 then some qoK else none
theorem p53:ql qdh (Try.f53.body.getD .skip)=true:=by kernel_rfl
def T53 (N:Nat):Tab:={tr:=qdh,lp:=qeh,ex:=qen,rg:=qdL,jn:=qdK,fuel:=N}
theorem qfU (N:Nat):(T53 N).pins=false:=rfl
theorem qM8 (N:Nat):qm Try.prog (T53 N):=qu fun _=>rfl
theorem qf4 (N:Nat) (i:Nat):(T53 N).tr i=qdh i:=rfl
theorem qgi (N:Nat) (i:Nat):(T53 N).lp i=qeh i:=rfl
theorem qgW (N:Nat) (i:Nat):(T53 N).ex i=qen i:=rfl
theorem qfE (N:Nat) (i:Nat):(T53 N).rg i=qdL i:=rfl
theorem qf0 (N:Nat) (i:Nat):(T53 N).jn i=qdK i:=rfl
theorem qfJ (N:Nat):(T53 N).fuel=N:=rfl
noncomputable def qDB:Code:=cut [true,true,true,false,true,true,true] (Try.f53.body.getD .skip)
theorem qPm {N:Nat} {Q:X→St→Option (qb [i32,i4])} {e:List LV} {h:List Blk}:qd tt Γ53 (T53 N) qDB Q ⟨e,h⟩=qd tt Γ53 (T53 N) (cut [true,true,true,false,true,true,true] (Try.f53.body.getD .skip)) Q ⟨e,h⟩:=rfl
theorem qL1 (N:Nat) (v2:Int) (v3:List (Val Y36)) (v4:Int) (v6:Int) (v7:List (Val Y36)) (v8:Int) {k0:(List (Val Y36))→Option (qb [i32,i4])} {Q:X→St→Option (qb [i32,i4])} {c:Code} (hc:c=qDB) (hret: ∀st,Q .ret st=qI tt true [i32,i4] [.cell 4 32,.tmp 5] st) (h0: ∀(v10:List (Val Y36)),Q (.exit 0) ⟨[u,.one (.int .i64 v2),.one (.ptr 0 0 0),u,.one (.ptr 1 0 0),u,.one (.own 2),u,u,u,u,u,u,u,u,u,u,u,u,u,u,u,u,u,u,u,u,u,u,u,u,u,u,u,u,u,u,u,u,u,u,u,u,u,u,u,u,u,u,u,u,u,u,u,u,u,u,u,u,u,u,u,u,u,u,u,u,u,u,u,u,u,u,u,u,u,u,u,u,u,u,u,u,u,u,u,u,u,u,u,u,u,u,u,u,u,u,u,u,u,u,u,u,u,u,u],[.box [.int .i64 v6,.sl 36 Y36 v7 3],.box [.int .i64 v8,.nils],.row 36 Y36 v10 false true 3]⟩=k0 v10): ∀(n:Nat) (v5:Int) (v9:List (Val Y36)),qD (qd tt Γ53 (T53 N) c) false qi4 Q n ⟨[u,.one (.int .i64 v2),.one (.ptr 0 0 0),u,.one (.ptr 1 0 0),u,.one (.own 2),u,u,u,u,u,u,u,u,u,u,u,u,u,u,u,u,u,u,u,u,u,u,u,u,.one (.sl 36 Y36 v3 3),.one (.int .i64 v4),.one (.int .i64 v5),u,u,u,u,u,u,u,u,u,u,u,u,u,u,u,u,u,u,u,u,u,u,u,u,u,u,u,u,u,u,u,u,u,u,u,u,u,u,u,u,u,u,u,u,u,u,u,u,u,u,u,u,u,u,u,u,u,u,u,u,u,u,u,u,u,u,u,u,u,u,u,u],[.box [.int .i64 v6,.sl 36 Y36 v7 3],.box [.int .i64 v8,.nils],.row 36 Y36 v9 false true 3]⟩=qdU N v2 v3 v4 v6 v7 v8 k0 n v5 v9:=by
 subst hc;intro n;induction n with
 | zero=>intros;rfl
 | succ n ih=>
   intro v5 v9
   rw [qR,qPm,qdU];unfold Try.f53
   simp (maxSteps:=10000000) -implicitDefEqProofs [qf4,qdh,qgi,qeh,qgW,qen,qfE,qdL,qf0,qdK,qfJ,qfU,qfs,qgR,qgv,qgH,qff,qfx,qfV,qft,qfj,qg2,qfq,qgS,qfQ,qfz,qe9,qgQ,qgt,qfd,qfr,qfk,qfH,qf7,qfF,qgn,g40,g46,g77,hret,h0,ih]
noncomputable def qFC:Code:=cut [true,true,true,true,false,true,true,true,true,true,false,true,true,true,true,true,true] (Try.f53.body.getD .skip)
theorem qOn {N:Nat} {Q:X→St→Option (qb [i32,i4])} {e:List LV} {h:List Blk}:qd tt Γ53 (T53 N) qFC Q ⟨e,h⟩=qd tt Γ53 (T53 N) (cut [true,true,true,true,false,true,true,true,true,true,false,true,true,true,true,true,true] (Try.f53.body.getD .skip)) Q ⟨e,h⟩:=rfl
theorem qPG (N:Nat) (v36:Int) (v37:List (Val Y36)) (v38:Int) (v39:Int) (v40:List (Val Y36)) (v41:Int) (v43:Int) (v44:List (Val Y36)) (v45:Int) (v47:List (Val (.int .i64))) (v48:Int) (v49:Bool) {k4:(List (Val Y36))→Option (qb [i32,i4])} {Q:X→St→Option (qb [i32,i4])} {c:Code} (hc:c=qFC) (hret: ∀st,Q .ret st=qI tt true [i32,i4] [.cell 4 32,.tmp 5] st) (h4: ∀(v50:List (Val Y36)),Q (.exit 4) ⟨[u,.one (.int .i64 v36),.one (.ptr 0 0 0),u,.one (.ptr 1 0 0),u,.one (.own 2),u,u,u,u,u,u,u,u,u,u,u,u,u,u,u,u,u,u,u,u,u,u,u,u,u,u,u,u,u,u,u,u,u,u,u,u,u,u,u,u,u,u,.one (.sl 36 Y36 v37 3),.one (.int .i64 v38),.one (.int .i64 v39),u,u,u,u,u,u,u,u,u,u,u,u,u,u,u,u,u,u,u,u,u,u,u,u,u,u,u,u,u,u,u,u,u,u,u,u,u,u,u,u,u,u,u,u,u,u,u,u,u,u,u,u,u,u],[.box [.int .i64 v43,.sl 36 Y36 v44 3],.box [.int .i64 v45,.nils],.row 36 Y36 v50 false true 3]⟩=k4 v50): ∀(n:Nat) (v42:Int) (v46:List (Val Y36)),qD (qd tt Γ53 (T53 N) c) false qiy Q n ⟨[u,.one (.int .i64 v36),.one (.ptr 0 0 0),u,.one (.ptr 1 0 0),u,.one (.own 2),u,u,u,.one (.ptr 3 0 0),u,u,u,u,u,u,u,u,u,u,u,u,u,u,u,u,u,u,u,u,u,u,u,u,u,u,u,u,u,u,u,u,u,u,u,u,u,u,.one (.sl 36 Y36 v37 4),.one (.int .i64 v38),.one (.int .i64 v39),u,u,u,u,u,u,u,u,u,u,.one (.sl 36 Y36 v40 4),.one (.int .i64 v41),.one (.int .i64 v42),u,u,u,u,u,u,u,u,u,u,u,u,u,u,u,u,u,u,u,u,u,u,u,u,u,u,u,u,u,u,u,u,u,u,u,u,u,u,u,u,u],[.box [.int .i64 v43,.sl 36 Y36 v44 4],.box [.int .i64 v45,.nils],.row 36 Y36 v46 false true 4,.box [.sl 3 (.int .i64) v47 4,.int .i64 v48,.bool v49]]⟩=qd5 N v36 v37 v38 v39 v40 v41 v43 v44 v45 v47 v48 v49 k4 n v42 v46:=by
 subst hc;intro n;induction n with
 | zero=>intros;rfl
 | succ n ih=>
   intro v42 v46
   rw [qR,qOn,qd5];unfold Try.f53
   simp (maxSteps:=10000000) -implicitDefEqProofs [qf4,qdh,qgi,qeh,qgW,qen,qfE,qdL,qf0,qdK,qfJ,qfU,qfs,qgR,qgv,qgH,qff,qfx,qfV,qft,qfj,qg2,qfq,qgS,qfQ,qfz,qe9,qgQ,qgt,qfd,qfr,qfk,qfH,qf7,qfF,qgn,g40,g46,g77,hret,h4,ih]
noncomputable def qFr:Code:=cut [true,true,true,true,false,true,true,true] (Try.f53.body.getD .skip)
theorem qKX {N:Nat} {Q:X→St→Option (qb [i32,i4])} {e:List LV} {h:List Blk}:qd tt Γ53 (T53 N) qFr Q ⟨e,h⟩=qd tt Γ53 (T53 N) (cut [true,true,true,true,false,true,true,true] (Try.f53.body.getD .skip)) Q ⟨e,h⟩:=rfl
theorem qLZ (N:Nat) (v12:Int) (v13:List (Val Y36)) (v14:Int) (v16:Int) (v17:List (Val Y36)) (v18:Int) {k2:(List (Val Y36))→Option (qb [i32,i4])} {Q:X→St→Option (qb [i32,i4])} {c:Code} (hc:c=qFr) (hret: ∀st,Q .ret st=qI tt true [i32,i4] [.cell 4 32,.tmp 5] st) (h2: ∀(v52:List (Val Y36)),Q (.exit 2) ⟨[u,u,.one (.ptr 0 0 0),u,.one (.ptr 1 0 0),u,.one (.own 2),u,u,u,u,u,u,u,u,u,u,u,u,u,u,u,u,u,u,u,u,u,u,u,u,u,u,u,u,u,u,u,u,u,u,u,u,u,u,u,u,u,u,u,u,u,u,u,u,u,u,u,u,u,u,u,u,u,u,u,u,u,u,u,u,u,u,u,u,u,u,u,u,u,u,u,u,u,u,u,u,u,u,u,u,u,u,u,u,u,u,u,u,u,u,u,u,u,u,u],[.box [.int .i64 v16,.sl 36 Y36 v17 3],.box [.int .i64 v18,.nils],.row 36 Y36 v52 false true 3]⟩=k2 v52): ∀(n:Nat) (v15:Int) (v19:List (Val Y36)),qD (qd tt Γ53 (T53 N) c) false qjB Q n ⟨[u,.one (.int .i64 v12),.one (.ptr 0 0 0),u,.one (.ptr 1 0 0),u,.one (.own 2),u,u,u,u,u,u,u,u,u,u,u,u,u,u,u,u,u,u,u,u,u,u,u,u,u,u,u,u,u,u,u,u,u,u,u,u,u,u,u,u,u,u,.one (.sl 36 Y36 v13 3),.one (.int .i64 v14),.one (.int .i64 v15),u,u,u,u,u,u,u,u,u,u,u,u,u,u,u,u,u,u,u,u,u,u,u,u,u,u,u,u,u,u,u,u,u,u,u,u,u,u,u,u,u,u,u,u,u,u,u,u,u,u,u,u,u,u],[.box [.int .i64 v16,.sl 36 Y36 v17 3],.box [.int .i64 v18,.nils],.row 36 Y36 v19 false true 3]⟩=qdu N v12 v13 v14 v16 v17 v18 k2 n v15 v19:=by
 subst hc;intro n;induction n with
 | zero=>intros;rfl
 | succ n ih=>
   intro v15 v19
   rw [qR,qKX];unfold Try.f53
   simp (maxSteps:=10000000) -implicitDefEqProofs [qf4,qdh,qgi,qeh,qgW,qen,qfE,qdL,qf0,qdK,qfJ,qfU,qfs,qgR,qgv,qgH,qff,qfx,qfV,qft,qfj,qg2,qfq,qgS,qfQ,qfz,qe9,qgQ,qgt,qfd,qfr,qfk,qfH,qf7,qfF,qgn,g40,g46,g77,hret,h2,ih]
   rewrite [qPG (k4:=(fun (v51:List (Val Y36))=>qdu N v12 v13 v14 v16 v17 v18 k2 n (IntKind.i64.wrap (v15+(1:Int))) v51)) N _ _ _ _ _ _ _ _ _ _ _ _ ?_ ?_ ?_]
   ·rewrite [qdu];first | rfl | simp (maxSteps:=10000000) -implicitDefEqProofs [ih]
   ·rfl
   ·intro;simp only [qK,qM,qO,qv,hret]
   ·intro v51;simp (maxSteps:=10000000) -implicitDefEqProofs [qf4,qdh,qgi,qeh,qgW,qen,qfE,qdL,qf0,qdK,qfJ,qfU,qfs,qgR,qgv,qgH,qff,qfx,qfV,qft,qfj,qg2,qfq,qgS,qfQ,qfz,qe9,qgQ,qgt,qfd,qfr,qfk,qfH,qf7,qfF,qgn,g40,g46,g77,hret,h2,ih]
theorem qHy (N:Nat) (v0:Val Y32) (v1:Int):qd tt Γ53 (T53 N) (Try.f53.body.getD .skip) (qp tt true [i32,i4] [.cell 4 32,.tmp 5]) (qt [i32,i3] 106 (v0,v1,()))=m53 N v0 v1:=by
 unfold Try.f53
 simp (maxSteps:=10000000) -implicitDefEqProofs [qf4,qdh,qgi,qeh,qgW,qen,qfE,qdL,qf0,qdK,qfJ,qfU,qfs,qgR,qgv,qgH,qff,qfx,qfV,qft,qfj,qg2,qfq,qgS,qfQ,qfz,qe9,qgQ,qgt,qfd,qfr,qfk,qfH,qf7,qfF,qgn,g40,g46,g77]
 rewrite [qL1 (k0:=(fun (v11:List (Val Y36))=>qdu N v1 (v0.2:List (Val Y36)) ((v0.2:List (Val Y36)).length:Int) (v0.1:Int) (v0.2:List (Val Y36)) (0:Int) (fun (v53:List (Val Y36))=>chk (qik (v0.1:Int) v53) (some (((((qb2 (v0.1:Int) v53).1).1:Int),(((qb2 (v0.1:Int) v53).1).2:List (Val Y36))),((qb2 (v0.1:Int) v53).2:Bool),()))) N (0:Int) v11)) N _ _ _ _ _ _ ?_ ?_ ?_]
 ·rewrite [m53];first | rfl | simp (maxSteps:=10000000) -implicitDefEqProofs []
 ·rfl
 ·intro;simp only [qK,qM,qO,qv]
 ·intro v11;simp (maxSteps:=10000000) -implicitDefEqProofs [qf4,qdh,qgi,qeh,qgW,qen,qfE,qdL,qf0,qdK,qfJ,qfU,qfs,qgR,qgv,qgH,qff,qfx,qfV,qft,qfj,qg2,qfq,qgS,qfQ,qfz,qe9,qgQ,qgt,qfd,qfr,qfk,qfH,qf7,qfF,qgn,g40,g46,g77]
  rewrite [qLZ (k2:=(fun (v53:List (Val Y36))=>chk (qik (v0.1:Int) v53) (some (((((qb2 (v0.1:Int) v53).1).1:Int),(((qb2 (v0.1:Int) v53).1).2:List (Val Y36))),((qb2 (v0.1:Int) v53).2:Bool),())))) N _ _ _ _ _ _ ?_ ?_ ?_]
  ·first | rfl | simp (maxSteps:=10000000) -implicitDefEqProofs []
  ·rfl
  ·intro;simp only [qK,qM,qO,qv]
  ·intro v53;simp (maxSteps:=10000000) -implicitDefEqProofs [qf4,qdh,qgi,qeh,qgW,qen,qfE,qdL,qf0,qdK,qfJ,qfU,qfs,qgR,qgv,qgH,qff,qfx,qfV,qft,qfj,qg2,qfq,qgS,qfQ,qfz,qe9,qgQ,qgt,qfd,qfr,qfk,qfH,qf7,qfF,qgn,g40,g46,g77]
noncomputable def qd9 (N:Nat) (v2:Int) (v4:Int) (v5:List (Val Y36)) (v6:Int) (k0:(List (Val Y36))→Option (qb [i32,i4])):Nat→Int→(List (Val Y36))→Option (qb [i32,i4])
 | 0,_,_=>none
 | n+1,v3,v7=>bif (decide (v3<(v5.length:Int)))then (chk (0≤v3∧v3<(v5.length:Int)) (chk (0≤v2∧v2<(((v5.getD v3.toNat (qa Y36)).1:List (Val (.int .i64))).length:Int)) (bif (decide (((((v5.getD v3.toNat (qa Y36)).1:List (Val (.int .i64))).getD v2.toNat (qa (.int .i64))):Int)=(0:Int)))then (chk (0≤v3∧v3<(v5.length:Int)) (chk (v7.length+([(v5.getD v3.toNat (qa Y36))]:List (Val Y36)).length≤1048576) (qd9 N v2 v4 v5 v6 k0 n (IntKind.i64.wrap (v3+(1:Int))) (v7++([(v5.getD v3.toNat (qa Y36))]:List (Val Y36))))))else (qd9 N v2 v4 v5 v6 k0 n (IntKind.i64.wrap (v3+(1:Int))) v7))))else (k0 v7)
noncomputable def qdi (N:Nat) (v25:Int) (v26:Int) (v28:Int) (v29:List (Val Y36)) (v30:Int) (k4:(List (Val Y36))→Option (qb [i32,i4])):Nat→Int→(List (Val Y36))→Option (qb [i32,i4])
 | 0,_,_=>none
 | n+1,v27,v31=>bif (decide (v27<(v29.length:Int)))then (chk (0≤v26∧v26<(v29.length:Int)) (chk (0≤v25∧v25<(((v29.getD v26.toNat (qa Y36)).1:List (Val (.int .i64))).length:Int)) (chk (0≤v27∧v27<(v29.length:Int)) (chk (0≤v25∧v25<(((v29.getD v27.toNat (qa Y36)).1:List (Val (.int .i64))).length:Int)) (bif (decide (((((v29.getD v26.toNat (qa Y36)).1:List (Val (.int .i64))).getD v25.toNat (qa (.int .i64))):Int)≤(0:Int)))then (qdi N v25 v26 v28 v29 v30 k4 n (IntKind.i64.wrap (v27+(1:Int))) v31)else (bif (decide ((0:Int)≤((((v29.getD v27.toNat (qa Y36)).1:List (Val (.int .i64))).getD v25.toNat (qa (.int .i64))):Int)))then (qdi N v25 v26 v28 v29 v30 k4 n (IntKind.i64.wrap (v27+(1:Int))) v31)else (chk (0≤v26∧v26<(v29.length:Int)) (chk (0≤v27∧v27<(v29.length:Int)) (chk (qpl (v29.getD v26.toNat (qa Y36)) (IntKind.i64.wrap (0 - ((((v29.getD v27.toNat (qa Y36)).1:List (Val (.int .i64))).getD v25.toNat (qa (.int .i64))):Int))) (v29.getD v27.toNat (qa Y36)) ((((v29.getD v26.toNat (qa Y36)).1:List (Val (.int .i64))).getD v25.toNat (qa (.int .i64))):Int)) (bif (!((qU (v29.getD v26.toNat (qa Y36)) (IntKind.i64.wrap (0 - ((((v29.getD v27.toNat (qa Y36)).1:List (Val (.int .i64))).getD v25.toNat (qa (.int .i64))):Int))) (v29.getD v27.toNat (qa Y36)) ((((v29.getD v26.toNat (qa Y36)).1:List (Val (.int .i64))).getD v25.toNat (qa (.int .i64))):Int)).2:Bool))then (some (((0:Int),([]:List (Val Y36))),false,()))else (chk (v31.length+([((((qU (v29.getD v26.toNat (qa Y36)) (IntKind.i64.wrap (0 - ((((v29.getD v27.toNat (qa Y36)).1:List (Val (.int .i64))).getD v25.toNat (qa (.int .i64))):Int))) (v29.getD v27.toNat (qa Y36)) ((((v29.getD v26.toNat (qa Y36)).1:List (Val (.int .i64))).getD v25.toNat (qa (.int .i64))):Int)).1).1:List (Val (.int .i64))),((((qU (v29.getD v26.toNat (qa Y36)) (IntKind.i64.wrap (0 - ((((v29.getD v27.toNat (qa Y36)).1:List (Val (.int .i64))).getD v25.toNat (qa (.int .i64))):Int))) (v29.getD v27.toNat (qa Y36)) ((((v29.getD v26.toNat (qa Y36)).1:List (Val (.int .i64))).getD v25.toNat (qa (.int .i64))):Int)).1).2).1:Int),((((qU (v29.getD v26.toNat (qa Y36)) (IntKind.i64.wrap (0 - ((((v29.getD v27.toNat (qa Y36)).1:List (Val (.int .i64))).getD v25.toNat (qa (.int .i64))):Int))) (v29.getD v27.toNat (qa Y36)) ((((v29.getD v26.toNat (qa Y36)).1:List (Val (.int .i64))).getD v25.toNat (qa (.int .i64))):Int)).1).2).2:Bool))]:List (Val Y36)).length≤1048576) (qdi N v25 v26 v28 v29 v30 k4 n (IntKind.i64.wrap (v27+(1:Int))) (v31++([((((qU (v29.getD v26.toNat (qa Y36)) (IntKind.i64.wrap (0 - ((((v29.getD v27.toNat (qa Y36)).1:List (Val (.int .i64))).getD v25.toNat (qa (.int .i64))):Int))) (v29.getD v27.toNat (qa Y36)) ((((v29.getD v26.toNat (qa Y36)).1:List (Val (.int .i64))).getD v25.toNat (qa (.int .i64))):Int)).1).1:List (Val (.int .i64))),((((qU (v29.getD v26.toNat (qa Y36)) (IntKind.i64.wrap (0 - ((((v29.getD v27.toNat (qa Y36)).1:List (Val (.int .i64))).getD v25.toNat (qa (.int .i64))):Int))) (v29.getD v27.toNat (qa Y36)) ((((v29.getD v26.toNat (qa Y36)).1:List (Val (.int .i64))).getD v25.toNat (qa (.int .i64))):Int)).1).2).1:Int),((((qU (v29.getD v26.toNat (qa Y36)) (IntKind.i64.wrap (0 - ((((v29.getD v27.toNat (qa Y36)).1:List (Val (.int .i64))).getD v25.toNat (qa (.int .i64))):Int))) (v29.getD v27.toNat (qa Y36)) ((((v29.getD v26.toNat (qa Y36)).1:List (Val (.int .i64))).getD v25.toNat (qa (.int .i64))):Int)).1).2).2:Bool))]:List (Val Y36)))))))))))))))else (k4 v31)
noncomputable def qef (N:Nat) (v10:Int) (v12:Int) (v13:List (Val Y36)) (v14:Int) (k2:(List (Val Y36))→Option (qb [i32,i4])):Nat→Int→(List (Val Y36))→Option (qb [i32,i4])
 | 0,_,_=>none
 | n+1,v11,v15=>bif (decide (v11<(v13.length:Int)))then (qdi N v10 v11 v12 v13 v14 (fun (v33:List (Val Y36))=>qef N v10 v12 v13 v14 k2 n (IntKind.i64.wrap (v11+(1:Int))) v33) N (0:Int) v15)else (k2 v15)
noncomputable def m50 (N:Nat) (v0:Val Y32) (v1:Int):Option (qb [i32,i4]):=qd9 N v1 (v0.1:Int) (v0.2:List (Val Y36)) (0:Int) (fun (v9:List (Val Y36))=>qef N v1 (v0.1:Int) (v0.2:List (Val Y36)) (0:Int) (fun (v35:List (Val Y36))=>chk (qco (v0.1:Int) v35) (bif (decide ((16:Int)<(((qX (v0.1:Int) v35).2:List (Val Y36)).length:Int)))then (some (((0:Int),([]:List (Val Y36))),false,()))else (some ((qX (v0.1:Int) v35),true,())))) N (0:Int) v9) N (0:Int) ([]:List (Val Y36))
def Γ50:Gam:=[(44,g44),(68,g68)]
theorem qfv:Gam.get Γ50 44=some g44:=rfl
theorem qgN:Gam.get Γ50 68=some g68:=rfl
def qk3:Nm:=⟨[false,true,true,false,true,false,true,true],[.und 6 0 36 Y36],false⟩
theorem qfB:qk3.zero=false:=rfl
theorem qgY:qk3.fix=[.und 6 0 36 Y36]:=rfl
theorem qfA:qk3.keep=[false,true,true,false,true,false,true,true]:=rfl
def qkX:Nm:=⟨[false,true,true,false,true,false,true,false,true,true],[],false⟩
theorem qe6:qkX.zero=false:=rfl
theorem qgF:qkX.fix=[]:=rfl
theorem qgO:qkX.keep=[false,true,true,false,true,false,true,false,true,true]:=rfl
def qkv:Nm:=⟨[false,true,true,false,true,false,true,false,true],[],false⟩
theorem qf5:qkv.zero=false:=rfl
theorem qgh:qkv.fix=[]:=rfl
theorem qe8:qkv.keep=[false,true,true,false,true,false,true,false,true]:=rfl
def qn8:Nm:=⟨[false,true,true,false,true,false,true],[],false⟩
theorem qgx:qn8.zero=false:=rfl
theorem qfI:qn8.fix=[]:=rfl
theorem qgM:qn8.keep=[false,true,true,false,true,false,true]:=rfl
def qnR:Nm:=⟨[false,false,true,false,true,false,true],[],false⟩
theorem qgo:qnR.zero=false:=rfl
theorem qgU:qnR.fix=[]:=rfl
theorem qgI:qnR.keep=[false,false,true,false,true,false,true]:=rfl
def qmQ:Nm:=⟨[false,true,true,false,true,false,true,false,true],[],false⟩
theorem qfo:qmQ.zero=false:=rfl
theorem qe3:qmQ.fix=[]:=rfl
theorem qgk:qmQ.keep=[false,true,true,false,true,false,true,false,true]:=rfl
def qnG:Nm:=⟨[false,true,true,false,true,false,true,false,true,true,false,false,true,true],[],false⟩
theorem qgr:qnG.zero=false:=rfl
theorem qg1:qnG.fix=[]:=rfl
theorem qgy:qnG.keep=[false,true,true,false,true,false,true,false,true,true,false,false,true,true]:=rfl
def qdy:Nat→Tree:=fun i=>if i=16 then .first 2 (.first 5 (.first 6 (.first 9 (.first 12 (.grow 0 (.grow 1 (.grow 3 (.grow 4 (.grow 7 (.grow 8 (.grow 10 (.grow 11 (.alt 13 (.first 14 (.first 15 (.first 16 (.alt 17 (.alt 18 (.quiet 19 .done) .stop) .stop)))) (.alt 17 (.alt 13 (.quiet 14 (.quiet 15 (.first 16 (.alt 18 (.quiet 19 .done) .stop)))) .stop) .stop))))))))))))))else .done
def qd2:Nat→Nm:=fun i=>if i=3 then qk3 else if i=11 then qkX else if i=8 then qkv else ⟨[],[],false⟩
def qek:Nat→Option Jn:=fun _=>none
def qd1:Nat→Option Nm:=fun i=>if i=0 then some qn8 else if i=2 then some qnR else if i=4 then some qmQ else none
def qdM:Nat→Option Nm:=fun i=>if i=16 then some qnG else none
theorem p50:ql qdy (Try.f50.body.getD .skip)=true:=by kernel_rfl
def T50 (N:Nat):Tab:={tr:=qdy,lp:=qd2,ex:=qd1,rg:=qdM,jn:=qek,fuel:=N}
theorem qfL (N:Nat):(T50 N).pins=false:=rfl
theorem qPg (N:Nat):qm Try.prog (T50 N):=qu fun _=>rfl
theorem qfa (N:Nat) (i:Nat):(T50 N).tr i=qdy i:=rfl
theorem qgb (N:Nat) (i:Nat):(T50 N).lp i=qd2 i:=rfl
theorem qfT (N:Nat) (i:Nat):(T50 N).ex i=qd1 i:=rfl
theorem qf8 (N:Nat) (i:Nat):(T50 N).rg i=qdM i:=rfl
theorem qgf (N:Nat) (i:Nat):(T50 N).jn i=qek i:=rfl
theorem qgZ (N:Nat):(T50 N).fuel=N:=rfl
noncomputable def qE4:Code:=cut [true,true,false,true,true,true] (Try.f50.body.getD .skip)
theorem qHm {N:Nat} {Q:X→St→Option (qb [i32,i4])} {e:List LV} {h:List Blk}:qd tt Γ50 (T50 N) qE4 Q ⟨e,h⟩=qd tt Γ50 (T50 N) (cut [true,true,false,true,true,true] (Try.f50.body.getD .skip)) Q ⟨e,h⟩:=rfl
theorem qNw (N:Nat) (v2:Int) (v4:Int) (v5:List (Val Y36)) (v6:Int) {k0:(List (Val Y36))→Option (qb [i32,i4])} {Q:X→St→Option (qb [i32,i4])} {c:Code} (hc:c=qE4) (hret: ∀st,Q .ret st=qI tt false [i32,i4] [.cell 4 32,.tmp 5] st) (h0: ∀(v8:List (Val Y36)),Q (.exit 0) ⟨[u,.one (.int .i64 v2),.one (.ptr 0 0 0),u,.one (.ptr 1 0 0),u,.one (.own 2),u,u,u,u,u,u,u,u,u,u,u,u,u,u,u,u,u,u,u,u,u,u,u,u,u,u,u,u,u,u,u,u,u,u,u,u,u,u,u,u,u,u,u,u,u,u,u,u,u,u,u,u,u,u,u,u,u,u,u,u,u,u,u,u,u,u,u,u,u,u,u,u,u,u,u,u,u,u,u,u,u,u,u,u,u,u,u,u,u,u,u,u,u,u,u,u,u,u,u,u,u,u,u,u,u,u],[.box [.int .i64 v4,.sl 36 Y36 v5 3],.box [.int .i64 v6,.nils],.row 36 Y36 v8 false true 3]⟩=k0 v8): ∀(n:Nat) (v3:Int) (v7:List (Val Y36)),qD (qd tt Γ50 (T50 N) c) false qk3 Q n ⟨[u,.one (.int .i64 v2),.one (.ptr 0 0 0),u,.one (.ptr 1 0 0),u,.one (.own 2),.one (.int .i64 v3),u,u,u,u,u,u,u,u,u,u,u,u,u,u,u,u,u,u,u,u,u,u,u,u,u,u,u,u,u,u,u,u,u,u,u,u,u,u,u,u,u,u,u,u,u,u,u,u,u,u,u,u,u,u,u,u,u,u,u,u,u,u,u,u,u,u,u,u,u,u,u,u,u,u,u,u,u,u,u,u,u,u,u,u,u,u,u,u,u,u,u,u,u,u,u,u,u,u,u,u,u,u,u,u,u],[.box [.int .i64 v4,.sl 36 Y36 v5 3],.box [.int .i64 v6,.nils],.row 36 Y36 v7 false true 3]⟩=qd9 N v2 v4 v5 v6 k0 n v3 v7:=by
 subst hc;intro n;induction n with
 | zero=>intros;rfl
 | succ n ih=>
   intro v3 v7
   rw [qR,qHm,qd9];unfold Try.f50
   simp (maxSteps:=10000000) -implicitDefEqProofs [qfa,qdy,qgb,qd2,qfT,qd1,qf8,qdM,qgf,qek,qgZ,qfL,qgY,qfA,qfB,qgF,qgO,qe6,qgh,qe8,qf5,qfI,qgM,qgx,qgU,qgI,qgo,qe3,qgk,qfo,qg1,qgy,qgr,qfv,qgN,g44,g68,hret,h0,ih]
noncomputable def qFL:Code:=cut [true,true,true,false,true,true,true,true,false,true,true,true,true] (Try.f50.body.getD .skip)
theorem qOP {N:Nat} {Q:X→St→Option (qb [i32,i4])} {e:List LV} {h:List Blk}:qd tt Γ50 (T50 N) qFL Q ⟨e,h⟩=qd tt Γ50 (T50 N) (cut [true,true,true,false,true,true,true,true,false,true,true,true,true] (Try.f50.body.getD .skip)) Q ⟨e,h⟩:=rfl
theorem qH0 (N:Nat) (v25:Int) (v26:Int) (v28:Int) (v29:List (Val Y36)) (v30:Int) {k4:(List (Val Y36))→Option (qb [i32,i4])} {Q:X→St→Option (qb [i32,i4])} {c:Code} (hc:c=qFL) (hret: ∀st,Q .ret st=qI tt false [i32,i4] [.cell 4 32,.tmp 5] st) (h4: ∀(v32:List (Val Y36)),Q (.exit 4) ⟨[u,.one (.int .i64 v25),.one (.ptr 0 0 0),u,.one (.ptr 1 0 0),u,.one (.own 2),u,.one (.int .i64 v26),u,u,u,u,u,u,u,u,u,u,u,u,u,u,u,u,u,u,u,u,u,u,u,u,u,u,u,u,u,u,u,u,u,u,u,u,u,u,u,u,u,u,u,u,u,u,u,u,u,u,u,u,u,u,u,u,u,u,u,u,u,u,u,u,u,u,u,u,u,u,u,u,u,u,u,u,u,u,u,u,u,u,u,u,u,u,u,u,u,u,u,u,u,u,u,u,u,u,u,u,u,u,u,u],[.box [.int .i64 v28,.sl 36 Y36 v29 3],.box [.int .i64 v30,.nils],.row 36 Y36 v32 false true 3]⟩=k4 v32): ∀(n:Nat) (v27:Int) (v31:List (Val Y36)),qD (qd tt Γ50 (T50 N) c) false qkX Q n ⟨[u,.one (.int .i64 v25),.one (.ptr 0 0 0),u,.one (.ptr 1 0 0),u,.one (.own 2),u,.one (.int .i64 v26),.one (.int .i64 v27),u,u,u,u,u,u,u,u,u,u,u,u,u,u,u,u,u,u,u,u,u,u,u,u,u,u,u,u,u,u,u,u,u,u,u,u,u,u,u,u,u,u,u,u,u,u,u,u,u,u,u,u,u,u,u,u,u,u,u,u,u,u,u,u,u,u,u,u,u,u,u,u,u,u,u,u,u,u,u,u,u,u,u,u,u,u,u,u,u,u,u,u,u,u,u,u,u,u,u,u,u,u,u],[.box [.int .i64 v28,.sl 36 Y36 v29 3],.box [.int .i64 v30,.nils],.row 36 Y36 v31 false true 3]⟩=qdi N v25 v26 v28 v29 v30 k4 n v27 v31:=by
 subst hc;intro n;induction n with
 | zero=>intros;rfl
 | succ n ih=>
   intro v27 v31
   rw [qR,qOP,qdi];unfold Try.f50
   simp (maxSteps:=10000000) -implicitDefEqProofs [qfa,qdy,qgb,qd2,qfT,qd1,qf8,qdM,qgf,qek,qgZ,qfL,qgY,qfA,qfB,qgF,qgO,qe6,qgh,qe8,qf5,qfI,qgM,qgx,qgU,qgI,qgo,qe3,qgk,qfo,qg1,qgy,qgr,qfv,qgN,g44,g68,hret,h4,ih]
noncomputable def qCD:Code:=cut [true,true,true,false,true,true,true] (Try.f50.body.getD .skip)
theorem qRI {N:Nat} {Q:X→St→Option (qb [i32,i4])} {e:List LV} {h:List Blk}:qd tt Γ50 (T50 N) qCD Q ⟨e,h⟩=qd tt Γ50 (T50 N) (cut [true,true,true,false,true,true,true] (Try.f50.body.getD .skip)) Q ⟨e,h⟩:=rfl
theorem qMq (N:Nat) (v10:Int) (v12:Int) (v13:List (Val Y36)) (v14:Int) {k2:(List (Val Y36))→Option (qb [i32,i4])} {Q:X→St→Option (qb [i32,i4])} {c:Code} (hc:c=qCD) (hret: ∀st,Q .ret st=qI tt false [i32,i4] [.cell 4 32,.tmp 5] st) (h2: ∀(v34:List (Val Y36)),Q (.exit 2) ⟨[u,u,.one (.ptr 0 0 0),u,.one (.ptr 1 0 0),u,.one (.own 2),u,u,u,u,u,u,u,u,u,u,u,u,u,u,u,u,u,u,u,u,u,u,u,u,u,u,u,u,u,u,u,u,u,u,u,u,u,u,u,u,u,u,u,u,u,u,u,u,u,u,u,u,u,u,u,u,u,u,u,u,u,u,u,u,u,u,u,u,u,u,u,u,u,u,u,u,u,u,u,u,u,u,u,u,u,u,u,u,u,u,u,u,u,u,u,u,u,u,u,u,u,u,u,u,u,u],[.box [.int .i64 v12,.sl 36 Y36 v13 3],.box [.int .i64 v14,.nils],.row 36 Y36 v34 false true 3]⟩=k2 v34): ∀(n:Nat) (v11:Int) (v15:List (Val Y36)),qD (qd tt Γ50 (T50 N) c) false qkv Q n ⟨[u,.one (.int .i64 v10),.one (.ptr 0 0 0),u,.one (.ptr 1 0 0),u,.one (.own 2),u,.one (.int .i64 v11),u,u,u,u,u,u,u,u,u,u,u,u,u,u,u,u,u,u,u,u,u,u,u,u,u,u,u,u,u,u,u,u,u,u,u,u,u,u,u,u,u,u,u,u,u,u,u,u,u,u,u,u,u,u,u,u,u,u,u,u,u,u,u,u,u,u,u,u,u,u,u,u,u,u,u,u,u,u,u,u,u,u,u,u,u,u,u,u,u,u,u,u,u,u,u,u,u,u,u,u,u,u,u,u],[.box [.int .i64 v12,.sl 36 Y36 v13 3],.box [.int .i64 v14,.nils],.row 36 Y36 v15 false true 3]⟩=qef N v10 v12 v13 v14 k2 n v11 v15:=by
 subst hc;intro n;induction n with
 | zero=>intros;rfl
 | succ n ih=>
   intro v11 v15
   rw [qR,qRI];unfold Try.f50
   simp (maxSteps:=10000000) -implicitDefEqProofs [qfa,qdy,qgb,qd2,qfT,qd1,qf8,qdM,qgf,qek,qgZ,qfL,qgY,qfA,qfB,qgF,qgO,qe6,qgh,qe8,qf5,qfI,qgM,qgx,qgU,qgI,qgo,qe3,qgk,qfo,qg1,qgy,qgr,qfv,qgN,g44,g68,hret,h2,ih]
   rewrite [qH0 (k4:=(fun (v33:List (Val Y36))=>qef N v10 v12 v13 v14 k2 n (IntKind.i64.wrap (v11+(1:Int))) v33)) N _ _ _ _ _ ?_ ?_ ?_]
   ·rewrite [qef];first | rfl | simp (maxSteps:=10000000) -implicitDefEqProofs [ih]
   ·rfl
   ·intro;simp only [qK,qM,qO,qv,hret]
   ·intro v33;simp (maxSteps:=10000000) -implicitDefEqProofs [qfa,qdy,qgb,qd2,qfT,qd1,qf8,qdM,qgf,qek,qgZ,qfL,qgY,qfA,qfB,qgF,qgO,qe6,qgh,qe8,qf5,qfI,qgM,qgx,qgU,qgI,qgo,qe3,qgk,qfo,qg1,qgy,qgr,qfv,qgN,g44,g68,hret,h2,ih]
theorem qQa (N:Nat) (v0:Val Y32) (v1:Int):qd tt Γ50 (T50 N) (Try.f50.body.getD .skip) (qp tt false [i32,i4] [.cell 4 32,.tmp 5]) (qt [i32,i3] 113 (v0,v1,()))=m50 N v0 v1:=by
 unfold Try.f50
 simp (maxSteps:=10000000) -implicitDefEqProofs [qfa,qdy,qgb,qd2,qfT,qd1,qf8,qdM,qgf,qek,qgZ,qfL,qgY,qfA,qfB,qgF,qgO,qe6,qgh,qe8,qf5,qfI,qgM,qgx,qgU,qgI,qgo,qe3,qgk,qfo,qg1,qgy,qgr,qfv,qgN,g44,g68]
 rewrite [qNw (k0:=(fun (v9:List (Val Y36))=>qef N v1 (v0.1:Int) (v0.2:List (Val Y36)) (0:Int) (fun (v35:List (Val Y36))=>chk (qco (v0.1:Int) v35) (bif (decide ((16:Int)<(((qX (v0.1:Int) v35).2:List (Val Y36)).length:Int)))then (some (((0:Int),([]:List (Val Y36))),false,()))else (some ((qX (v0.1:Int) v35),true,())))) N (0:Int) v9)) N _ _ _ _ ?_ ?_ ?_]
 ·rewrite [m50];first | rfl | simp (maxSteps:=10000000) -implicitDefEqProofs []
 ·rfl
 ·intro;simp only [qK,qM,qO,qv]
 ·intro v9;simp (maxSteps:=10000000) -implicitDefEqProofs [qfa,qdy,qgb,qd2,qfT,qd1,qf8,qdM,qgf,qek,qgZ,qfL,qgY,qfA,qfB,qgF,qgO,qe6,qgh,qe8,qf5,qfI,qgM,qgx,qgU,qgI,qgo,qe3,qgk,qfo,qg1,qgy,qgr,qfv,qgN,g44,g68]
  rewrite [qMq (k2:=(fun (v35:List (Val Y36))=>chk (qco (v0.1:Int) v35) (bif (decide ((16:Int)<(((qX (v0.1:Int) v35).2:List (Val Y36)).length:Int)))then (some (((0:Int),([]:List (Val Y36))),false,()))else (some ((qX (v0.1:Int) v35),true,()))))) N _ _ _ _ ?_ ?_ ?_]
  ·first | rfl | simp (maxSteps:=10000000) -implicitDefEqProofs []
  ·rfl
  ·intro;simp only [qK,qM,qO,qv]
  ·intro v35;simp (maxSteps:=10000000) -implicitDefEqProofs [qfa,qdy,qgb,qd2,qfT,qd1,qf8,qdM,qgf,qek,qgZ,qfL,qgY,qfA,qfB,qgF,qgO,qe6,qgh,qe8,qf5,qfI,qgM,qgx,qgU,qgI,qgo,qe3,qgk,qfo,qg1,qgy,qgr,qfv,qgN,g44,g68]
def okD (d:Int) (a:Val Y36):Prop:=okA a∧(List.length (α:=Int) a.1:Int)=d
abbrev qhE:Option (qb [i32,i4]):=some (((0:Int),([]:List (Val Y36))),false,())
theorem qe7 (v:Int) (a:Val Y36):List.getD (α:=Val (.int .i64)) a.1 v.toNat (qa (.int .i64))=cfV v a:=rfl
theorem qmO {v:Int} {a:Val Y36} (h:okA a): -400000000≤cfV v a∧cfV v a≤400000000:=by
 unfold cfV
 by_cases hv:v.toNat<List.length (α:=Int) a.1
 ·rw [List.getD_eq_getElem?_getD,List.getElem?_eq_getElem hv]
  exact qgK h _ (List.getElem_mem hv)
 ·rw [List.getD_eq_getElem?_getD,List.getElem?_eq_none (by omega)]
  exact ⟨by decide,by decide⟩
theorem qHu {co:List Int} {k:Int} {s:Bool} (h:(qk co k s).2=true):okA (qk co k s).1∧List.length (α:=Int) (qk co k s).1.1=co.length:=by
 unfold qk qsn at*
 generalize max 1 (gL k.natAbs co)=g at*
 cases hb:qz (List.map (α:=Int) (fun x=>x.tdiv (g:Int)) co,k.tdiv (g:Int),s)with
 | true=>exact ⟨hb,by simp⟩
 | false=>rw [hb]at h;simp at h
theorem qKd {d p q:Int} {a b:Val Y36} (ha:okD d a) (hb:okD d b) (h:(qU a p b q).2=true):okD d (qU a p b q).1:=by
 unfold qU at*
 cases hc:(qz a&&qz b&&decide (List.length (α:=Int) a.1=List.length (α:=Int) b.1)&&inR p 0 400000000&&inR q 0 400000000)with
 | false=>rw [hc]at h;simp at h
 | true=>
   rw [hc]at h
   obtain ⟨h1,h2⟩:=qHu h
   simp only [Bool.and_eq_true,decide_eq_true_eq]at hc
   refine ⟨h1,?_⟩
   have:=ha.2
   have e:=qrl (p:=p) (q:=q) hc.1.1.2
   show (List.length (α:=Int) (qk (qcO p q a.1 b.1) _ _).1.1:Int)=d
   rw [h2,e];exact this
theorem qlx {v d:Int} {a:Val Y36} (ha:okD d a): ∀{xs s s':List (Val Y36)},(∀b∈xs,okD d b)→(∀b∈s,okD d b)→qcC v a xs s=some s'→(∀b∈s',okD d b)∧s'.length≤s.length+xs.length
 | [],s,s',_,hs,h=>by simp only [qcC,Option.some.injEq]at h;subst h;exact ⟨hs,by simp⟩
 | b::r,s,s',hx,hs,h=>by
   simp only [qcC]at h
   cases hn:decide (cfV v b<0)with
   | false=>
     rw [hn]at h
     obtain ⟨h1,h2⟩:=qlx ha (fun c hc=>hx c (by simp [hc])) hs h
     exact ⟨h1,by simp;omega⟩
   | true=>
     rw [hn]at h
     cases hm:(qU a (-cfV v b) b (cfV v a)).2 with
     | false=>rw [hm]at h;simp at h
     | true=>
       rw [hm]at h
       simp only [cond_true]at h
       obtain ⟨h1,h2⟩:=qlx ha (fun c hc=>hx c (by simp [hc])) (fun c hc=>by
        rcases List.mem_append.1 hc with hc | hc
        ·exact hs c hc
        ·simp only [List.mem_singleton]at hc;subst hc;exact qKd ha (hx b (by simp)) hm) h
       exact ⟨h1,by simp at h2 ⊢;omega⟩
theorem qy3 {v d:Int} {l:List (Val Y36)} (hl: ∀b∈l,okD d b): ∀{xs s s':List (Val Y36)},(∀b∈xs,okD d b)→(∀b∈s,okD d b)→qcn v l xs s=some s'→(∀b∈s',okD d b)∧s'.length≤s.length+xs.length*l.length
 | [],s,s',_,hs,h=>by simp only [qcn,Option.some.injEq]at h;subst h;exact ⟨hs,by simp⟩
 | a::r,s,s',hx,hs,h=>by
   simp only [qcn]at h
   cases hn:decide (0<cfV v a)with
   | false=>
     rw [hn]at h
     obtain ⟨h1,h2⟩:=qy3 hl (fun c hc=>hx c (by simp [hc])) hs h
     exact ⟨h1,by simp [Nat.add_mul];omega⟩
   | true=>
     rw [hn]at h
     simp only [cond_true]at h
     cases hm:qcC v a l s with
     | none=>rw [hm]at h;simp at h
     | some s1=>
       rw [hm]at h
       obtain ⟨g1,g2⟩:=qlx (hx a (by simp)) hl hs hm
       obtain ⟨h1,h2⟩:=qy3 hl (fun c hc=>hx c (by simp [hc])) g1 h
       exact ⟨h1,by simp [Nat.add_mul];omega⟩
theorem qqb {ρ:Type} {v:Int} {k:List (Val Y36)→Option ρ}: ∀(xs:List (Val Y36)) (i:Nat) (s:List (Val Y36)),s.length+xs.length≤1048576→
 qaa (fun _ (x:Val Y36) (s:List (Val Y36)) K=>bif decide (cfV v x=0)then chk (s.length+[x].length≤1048576) (K (s++[x]))else K s) i xs s k=k (s++xs.filter fun a=>decide (cfV v a=0))
 | [],_,s,_=>by rw [qaa];simp
 | x::xs,i,s,h=>by
   simp only [List.length_cons]at h
   rw [qaa,List.filter_cons]
   cases hb:decide (cfV v x=0)with
   | true=>simp only [cond_true];rw [qc (by simp;omega),qqb xs _ _ (by simp;omega)];simp
   | false=>simp only [cond_false];rw [qqb xs _ _ (by omega)];simp
theorem qof {ρ:Type} {v:Int} {a:Val Y36} {r:Option ρ} {k:List (Val Y36)→Option ρ}: ∀(xs:List (Val Y36)) (i:Nat) (s:List (Val Y36)),s.length+xs.length≤1048576→
 qaa (fun _ (b:Val Y36) (s:List (Val Y36)) K=>bif decide (0≤cfV v b)then K s else bif !(qU a (-cfV v b) b (cfV v a)).2 then r else chk (s.length+[(qU a (-cfV v b) b (cfV v a)).1].length≤1048576) (K (s++[(qU a (-cfV v b) b (cfV v a)).1]))) i xs s k=match qcC v a xs s with
  | some s'=>k s'
  | none=>r
 | [],_,s,_=>by rw [qaa];rfl
 | b::xs,i,s,h=>by
   simp only [List.length_cons]at h
   rw [qaa,qcC]
   by_cases hb:cfV v b<0
   ·rw [qi (show ¬0≤cfV v b by omega),qh hb]
    cases hm:(qU a (-cfV v b) b (cfV v a)).2 with
    | false=>rfl
    | true=>
      simp only [Bool.not_true,cond_false,cond_true]
      rw [qc (by simp;omega)]
      exact qof xs _ _ (by simp;omega)
   ·rw [qh (show 0≤cfV v b by omega),qi hb]
    exact qof xs _ _ (by omega)
theorem qQj (N:Nat) (d v:Int) (l:List (Val Y36)) (hv:0≤v∧v<d) (hl:l.length≤1048576) (h: ∀b∈l,okD d b) (K:List (Val Y36)→Option (qb [i32,i4])) (n:Nat) (hn:l.length<n):
 qdU N v l l.length d l 0 K n 0 []=K (l.filter fun a=>decide (cfV v a=0)):=
 (qb6 (xs:=l) (F:=fun n i s=>qdU N v l l.length d l 0 K n i s) (step:=fun _ (x:Val Y36) (s:List (Val Y36)) K=>bif decide (cfV v x=0)then chk (s.length+[x].length≤1048576) (K (s++[x]))else K s) (k:=K) hl (fun n i s hi=>by
   have hd:=(h _ (List.getElem_mem hi)).2
   rw [qdU,qh (by omega),qc (by omega),qL hi,qc ⟨hv.1,by rw [show (List.length (α:=Val (.int .i64)) l[i].1:Int)=d from hd];exact hv.2⟩]
   try rfl) (fun n i s hi=>by rw [qdU,qi (by omega)]) n [] hn).trans (qqb l 0 [] (by simpa using hl))
theorem qOf (N:Nat) (d v:Int) (l:List (Val Y36)) (hv:0≤v∧v<d) (hl:l.length≤1048576) (h: ∀b∈l,okD d b) (a:Val Y36) (ha:okD d a) (i0:Int) (K:List (Val Y36)→Option (qb [i32,i4])) (n:Nat) (hn:l.length<n) (s:List (Val Y36)) (hs:s.length+l.length≤1048576):
 qd5 N v l l.length i0 l l.length d l 0 a.1 a.2.1 a.2.2 K n 0 s=match qcC v a l s with
  | some s'=>K s'
  | none=>qhE:=
 (qb6 (xs:=l) (F:=fun n i s=>qd5 N v l l.length i0 l l.length d l 0 a.1 a.2.1 a.2.2 K n i s) (step:=fun _ (b:Val Y36) (s:List (Val Y36)) K=>bif decide (0≤cfV v b)then K s else bif !(qU a (-cfV v b) b (cfV v a)).2 then qhE else chk (s.length+[(qU a (-cfV v b) b (cfV v a)).1].length≤1048576) (K (s++[(qU a (-cfV v b) b (cfV v a)).1]))) (k:=K) hl (fun n i s hi=>by
   have hb:=h _ (List.getElem_mem hi)
   have hbd:=hb.2
   have had:=ha.2
   have hc:=qmO (v:=v) hb.1
   rw [qd5,qh (by omega),qc (by omega),qL hi,qc ⟨hv.1,by rw [show (List.length (α:=Val (.int .i64)) l[i].1:Int)=d from hbd];exact hv.2⟩,qc ⟨hv.1,by rw [show (List.length (α:=Val (.int .i64)) l[i].1:Int)=d from hbd];exact hv.2⟩,qc ⟨hv.1,by rw [show (List.length (α:=Val (.int .i64)) a.1:Int)=d from had];exact hv.2⟩,qe7,qe7,qeQ (by unfold inI;omega)]
   try rfl) (fun n i s hi=>by rw [qd5,qi (by omega)]) n s hn).trans (qof l 0 s hs)
theorem qss (N:Nat) (d v:Int) (l:List (Val Y36)) (hv:0≤v∧v<d) (hl:l.length≤16) (h: ∀b∈l,okD d b) (hN:l.length<N) (K:List (Val Y36)→Option (qb [i32,i4])): ∀(k i:Nat),l.length - i=k→ ∀n,k<n→ ∀s:List (Val Y36),s.length+k*l.length≤1000→(∀b∈s,okD d b)→
 qdu N v l l.length d l 0 K n i s=match qcn v l (l.drop i) s with
  | some s'=>K s'
  | none=>qhE
 | 0,i,hi,n+1,_,s,_,_=>by
   rw [qdu,qi (by omega),List.drop_eq_nil_of_le (by omega)]
   rfl
 | k+1,i,hi,n+1,hn,s,hs,hsd=>by
   have h1:i<l.length:=by omega
   have ha:=h _ (List.getElem_mem h1)
   have had:=ha.2
   have hk:s.length+(k*l.length+l.length)≤1000:=by rw [Nat.add_mul,Nat.one_mul]at hs;exact hs
   rw [qdu,qh (by omega),qc (by omega),qL h1,qc ⟨hv.1,by rw [show (List.length (α:=Val (.int .i64)) l[i].1:Int)=d from had];exact hv.2⟩,qe7,qeD h1 (by omega),qdw h1,qcn]
   by_cases hc:0<cfV v l[i]
   ·rw [qi (show ¬cfV v l[i]≤0 by omega),qh hc,qOf N d v l hv (by omega) h l[i] ha _ _ N hN s (by omega)]
    cases hm:qcC v l[i] l s with
    | none=>rfl
    | some s1=>
      obtain ⟨g1,g2⟩:=qlx ha h hsd hm
      exact qss N d v l hv hl h hN K k (i+1) (by omega) n (by omega) s1 (by omega) g1
   ·rw [qh (show cfV v l[i]≤0 by omega),qi hc]
    exact qss N d v l hv hl h hN K k (i+1) (by omega) n (by omega) s (by omega) hsd
theorem qqQ {d v:Int} {l s:List (Val Y36)} (hd:0≤d∧d≤4) (hl:l.length≤16) (h: ∀b∈l,okD d b) (hm:qcn v l l (l.filter fun a=>decide (cfV v a=0))=some s):okL d s:=by
 have hf:=List.length_filter_le (fun a:Val Y36=>decide (cfV v a=0)) l
 obtain ⟨g1,g2⟩:=qy3 h h (fun b hb=>h b (List.mem_filter.1 hb).1) hm
 have:l.length*l.length≤16*16:=Nat.mul_le_mul hl hl
 exact ⟨hd,by omega,g1⟩
theorem e53 (c:Val Y32) (v:Int): ∃N,m53 N c v=some ((qdg c v).1,(qdg c v).2,()):=⟨List.length (α:=Val Y36) c.2+1,by
 rw [m53]
 unfold qdg
 cases hc:qac c with
 | false=>rfl
 | true=>
 obtain ⟨hd,hl,hok⟩:=qcI hc
 simp only [Bool.not_true,cond_false,Bool.true_and]
 by_cases h1:v<0
 ·rw [qh h1,decide_eq_false (by omega)];rfl
 rw [qi h1]
 by_cases h2:(c.1:Int)≤v
 ·rw [qh h2,decide_eq_false (fun h=>absurd h.2 (Int.not_lt.2 h2))];rfl
 have hv:0≤v∧v<(c.1:Int):=⟨by omega,Int.not_le.1 h2⟩
 rw [qi h2,decide_eq_true hv]
 have hf:=List.length_filter_le (fun a:Val Y36=>decide (cfV v a=0)) c.2
 have hll:List.length (α:=Val Y36) c.2*List.length (α:=Val Y36) c.2≤16*16:=Nat.mul_le_mul hl hl
 rw [qQj _ c.1 v c.2 hv (by omega) hok _ _ (Nat.lt_succ_self _)]
 have hfs: ∀b∈List.filter (α:=Val Y36) (fun a=>decide (cfV v a=0)) c.2,okD c.1 b:=fun b hb=>hok b (List.mem_filter.1 hb).1
 unfold qaS
 generalize hS:List.filter (α:=Val Y36) (fun a=>decide (cfV v a=0)) c.2=S at hf hfs ⊢
 refine (qss _ c.1 v c.2 hv hl hok (Nat.lt_succ_self _) _ (List.length (α:=Val Y36) c.2) 0 rfl _ (Nat.lt_succ_self _) S (by have h5:S.length≤List.length (α:=Val Y36) c.2:=hf;omega) hfs).trans ?_
 rw [List.drop_zero]
 simp only [cond_true]
 cases hm:qcn v c.2 c.2 S with
 | none=>rfl
 | some s=>
   dsimp only
   rw [qc (show qik c.1 s from qqQ hd hl hok (hS▸hm))]⟩
theorem s53:Sound Try.prog 53 g53:=qw (tt:=tt) (Γ:=Γ53) hT (qf s40 (qf s46 (qf s77 qq))) hm (fn:=Try.f53) Try.func53 (c:=Try.f53.body.getD .skip) (by kernel_rfl) (by kernel_rfl) fun x hx=>by
 obtain ⟨N,h⟩:=e53 x.1 x.2.1
 exact ⟨T53 N,p53,qx _,qM8 N,(qHy N x.1 x.2.1).trans h⟩
theorem qCI {ρ α σ:Type} {k:σ→Option ρ}: ∀(xs:List α) (i:Nat) (s:σ),qaa (fun _ (_:α) (s:σ) (K:σ→Option ρ)=>K s) i xs s k=k s
 | [],_,_=>rfl
 | _::xs,i,s=>by rw [qaa];exact qCI xs _ s
theorem qPE (N:Nat) (d v:Int) (l:List (Val Y36)) (hv:0≤v∧v<d) (hl:l.length≤1048576) (h: ∀b∈l,okD d b) (K:List (Val Y36)→Option (qb [i32,i4])) (n:Nat) (hn:l.length<n):
 qd9 N v d l 0 K n 0 []=K (l.filter fun a=>decide (cfV v a=0)):=
 (qb6 (xs:=l) (F:=fun n i s=>qd9 N v d l 0 K n i s) (step:=fun _ (x:Val Y36) (s:List (Val Y36)) K=>bif decide (cfV v x=0)then chk (s.length+[x].length≤1048576) (K (s++[x]))else K s) (k:=K) hl (fun n i s hi=>by
   have hd:=(h _ (List.getElem_mem hi)).2
   rw [qd9,qh (by omega),qc (by omega),qL hi,qc ⟨hv.1,by rw [show (List.length (α:=Val (.int .i64)) l[i].1:Int)=d from hd];exact hv.2⟩,qc (by omega)]
   try rfl) (fun n i s hi=>by rw [qd9,qi (by omega)]) n [] hn).trans (qqb l 0 [] (by simpa using hl))
theorem qMK (N:Nat) (d v:Int) (l:List (Val Y36)) (hv:0≤v∧v<d) (hl:l.length≤1048576) (h: ∀b∈l,okD d b) (i0:Nat) (h0:i0<l.length) (K:List (Val Y36)→Option (qb [i32,i4])) (n:Nat) (hn:l.length<n) (s:List (Val Y36)) (hs:s.length+l.length≤1048576):
 qdi N v i0 d l 0 K n 0 s=bif decide (0<cfV v l[i0])then (match qcC v l[i0] l s with
  | some s'=>K s'
  | none=>qhE)else K s:=by
 refine (qb6 (xs:=l) (F:=fun n i s=>qdi N v i0 d l 0 K n i s) (step:=fun _ (b:Val Y36) (s:List (Val Y36)) K=>bif decide (cfV v l[i0]≤0)then K s else bif decide (0≤cfV v b)then K s else bif !(qU l[i0] (-cfV v b) b (cfV v l[i0])).2 then qhE else chk (s.length+[(qU l[i0] (-cfV v b) b (cfV v l[i0])).1].length≤1048576) (K (s++[(qU l[i0] (-cfV v b) b (cfV v l[i0])).1]))) (k:=K) hl (fun n i s hi=> ?_) (fun n i s hi=>by rw [qdi,qi (by omega)]) n s hn).trans ?_
 ·have ha:=h _ (List.getElem_mem h0)
  have hb:=h _ (List.getElem_mem hi)
  have hbd:=hb.2
  have had:=ha.2
  have hc:=qmO (v:=v) hb.1
  have p1:qcu l[i0]:=by have:=(qcc ha.1).1;show List.length (α:=Val (.int .i64)) l[i0].1≤1048576;exact Nat.le_trans this (by decide)
  have p2:qcu l[i]:=by have:=(qcc hb.1).1;show List.length (α:=Val (.int .i64)) l[i].1≤1048576;exact Nat.le_trans this (by decide)
  rw [qdi,qh (by omega),qL h0,qL hi]
  have ng:IntKind.i64.wrap (0 - cfV v l[i])= -cfV v l[i]:=qeQ (by unfold inI;omega)
  rw [qe7 v l[i0],qe7 v l[i],ng,qc (by omega),qc ⟨hv.1,by rw [show (List.length (α:=Val (.int .i64)) l[i0].1:Int)=d from had];exact hv.2⟩,qc (by omega),qc ⟨hv.1,by rw [show (List.length (α:=Val (.int .i64)) l[i].1:Int)=d from hbd];exact hv.2⟩,qc (by omega),qc (by omega),qc (show qpl l[i0] _ l[i] _ from ⟨p1,p2⟩)]
  try rfl
 ·by_cases hx:0<cfV v l[i0]
  ·rw [qh hx,decide_eq_false (show ¬cfV v l[i0]≤0 by omega)]
   exact qof l 0 s hs
  ·rw [qi hx,decide_eq_true (show cfV v l[i0]≤0 by omega)]
   exact qCI l 0 s
theorem qB5 (N:Nat) (d v:Int) (l:List (Val Y36)) (hv:0≤v∧v<d) (hl:l.length≤16) (h: ∀b∈l,okD d b) (hN:l.length<N) (K:List (Val Y36)→Option (qb [i32,i4])): ∀(k i:Nat),l.length - i=k→ ∀n,k<n→ ∀s:List (Val Y36),s.length+k*l.length≤1000→(∀b∈s,okD d b)→
 qef N v d l 0 K n i s=match qcn v l (l.drop i) s with
  | some s'=>K s'
  | none=>qhE
 | 0,i,hi,n+1,_,s,_,_=>by
   rw [qef,qi (by omega),List.drop_eq_nil_of_le (by omega)]
   rfl
 | k+1,i,hi,n+1,hn,s,hs,hsd=>by
   have h1:i<l.length:=by omega
   have ha:=h _ (List.getElem_mem h1)
   have hk:s.length+(k*l.length+l.length)≤1000:=by rw [Nat.add_mul,Nat.one_mul]at hs;exact hs
   rw [qef,qh (by omega),qeD h1 (by omega),qdw h1,qcn,qMK N d v l hv (by omega) h i h1 _ N hN s (by omega)]
   by_cases hc:0<cfV v l[i]
   ·rw [qh hc,qh hc]
    cases hm:qcC v l[i] l s with
    | none=>rfl
    | some s1=>
      obtain ⟨g1,g2⟩:=qlx ha h hsd hm
      exact qB5 N d v l hv hl h hN K k (i+1) (by omega) n (by omega) s1 (by omega) g1
   ·rw [qi hc,qi hc]
    exact qB5 N d v l hv hl h hN K k (i+1) (by omega) n (by omega) s (by omega) hsd
theorem e50 (c:Val Y32) (v:Int) (h:qn1 c v): ∃N,m50 N c v=some ((qaS c v).1,(qaS c v).2,()):=⟨List.length (α:=Val Y36) c.2+1,by
 obtain ⟨hc,hv⟩:=h
 rw [m50]
 obtain ⟨hd,hl,hok⟩:=qcI hc
 have hf:=List.length_filter_le (fun a:Val Y36=>decide (cfV v a=0)) c.2
 have hll:List.length (α:=Val Y36) c.2*List.length (α:=Val Y36) c.2≤16*16:=Nat.mul_le_mul hl hl
 rw [qPE _ c.1 v c.2 hv (by omega) hok _ _ (Nat.lt_succ_self _)]
 have hfs: ∀b∈List.filter (α:=Val Y36) (fun a=>decide (cfV v a=0)) c.2,okD c.1 b:=fun b hb=>hok b (List.mem_filter.1 hb).1
 unfold qaS
 generalize hS:List.filter (α:=Val Y36) (fun a=>decide (cfV v a=0)) c.2=S at hf hfs ⊢
 refine (qB5 _ c.1 v c.2 hv hl hok (Nat.lt_succ_self _) _ (List.length (α:=Val Y36) c.2) 0 rfl _ (Nat.lt_succ_self _) S (by have h5:S.length≤List.length (α:=Val Y36) c.2:=hf;omega) hfs).trans ?_
 rw [List.drop_zero]
 cases hm:qcn v c.2 c.2 S with
 | none=>rfl
 | some s=>
   dsimp only
   rw [qc (show qco c.1 s from qqQ hd hl hok (hS▸hm))]
   unfold qb2
   cases decide ((16:Int)<(List.length (α:=Val Y36) (qX c.1 s).2:Int))<;>rfl⟩
theorem s50:Sound Try.prog 50 g50:=qw (tt:=tt) (Γ:=Γ50) hT (qf s44 (qf s68 qq)) hm (fn:=Try.f50) Try.func50 (c:=Try.f50.body.getD .skip) (by kernel_rfl) (by kernel_rfl) fun x hx=>by
 obtain ⟨N,h⟩:=e50 x.1 x.2.1 hx
 exact ⟨T50 N,p50,qx _,qPg N,(qQa N x.1 x.2.1).trans h⟩
end Go.T
