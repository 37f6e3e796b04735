/- Dropping variables. -/
import Derived.Test.YthefcjjgchekiaaGreatB6
import Derived.Test.YthefcjjgchekiaaGreatB8
set_option linter.unusedSimpArgs false
set_option linter.unusedVariables false
namespace Go.T
open Go Go.Proofs
set_option maxHeartbeats 4000000
set_option maxRecDepth 100000
def cfV (v:Int) (a:Val qa):Int:=List.getD (α:=Int) a.1 v.toNat 0
def qbz (v:Int) (a:Val qa):List (Val qa)→List (Val qa)→Option (List (Val qa))
 | [],s=>some s
 | b::r,s=>bif decide (cfV v b<0)then (bif (qT a (-cfV v b) b (cfV v a)).2 then qbz v a r (s++[(qT a (-cfV v b) b (cfV v a)).1])else none)else qbz v a r s
def qbr (v:Int) (l:List (Val qa)):List (Val qa)→List (Val qa)→Option (List (Val qa))
 | [],s=>some s
 | a::r,s=>bif decide (0<cfV v a)then (match qbz v a l s with
   | some s'=>qbr v l r s'
   | none=>none)else qbr v l r s
def qR (c:Val Y33) (v:Int):Val Y33×Bool:=match qbr v c.2 c.2 (List.filter (α:=Val qa) (fun a=>decide (cfV v a=0)) c.2)with
 | some l=>qay c.1 l
 | none=>(((0:Int),[]),false)
def qnv (c:Val Y33) (v:Int):Prop:=qD c=true∧0≤v∧v<(c.1:Int)
def qbZ (c:Val Y33) (v:Int):Val Y33×Bool:=bif qD c&&decide (0≤v∧v<(c.1:Int))then qR c v else (((0:Int),[]),false)
def qbe:G:={ps:=[i33,i3],rs:=[i33,i4],dp:=true,pre:=fun _=>True,fn:=fun x=>((qbZ x.1 x.2.1).1,(qbZ x.1 x.2.1).2,())}
def qa0:G:={ps:=[i33,i3],rs:=[i33,i4],dp:=false,pre:=fun x=>qnv x.1 x.2.1,fn:=fun x=>((qR x.1 x.2.1).1,(qR x.1 x.2.1).2,())}
noncomputable def qhg (N:Nat) (v2:Int) (v3:List (Val qa)) (v4:Int) (v6:Int) (v7:List (Val qa)) (v8:Int) (k0:(List (Val qa))→Option (qb [i33,i4])):Nat→Int→(List (Val qa))→Option (qb [i33,i4])
 | 0,_,_=>none
 | n+1,v5,v9=>bif (decide (v5<v4))then (chk (0≤v5∧v5<(v3.length:Int)) (chk (0≤v2∧v2<(((v3.getD v5.toNat (qc qa)).1:List (Val (.int .i64))).length:Int)) (bif (decide (((((v3.getD v5.toNat (qc qa)).1:List (Val (.int .i64))).getD v2.toNat (qc (.int .i64))):Int)=(0:Int)))then (chk (v9.length+([(v3.getD v5.toNat (qc qa))]:List (Val qa)).length≤1048576) (qhg N v2 v3 v4 v6 v7 v8 k0 n (IntKind.i64.wrap (v5+(1:Int))) (v9++([(v3.getD v5.toNat (qc qa))]:List (Val qa)))))else (qhg N v2 v3 v4 v6 v7 v8 k0 n (IntKind.i64.wrap (v5+(1:Int))) v9))))else (k0 v9)
noncomputable def qhH (N:Nat) (v36:Int) (v37:List (Val qa)) (v38:Int) (v39:Int) (v40:List (Val qa)) (v41:Int) (v43:Int) (v44:List (Val qa)) (v45:Int) (v47:List (Val (.int .i64))) (v48:Int) (v49:Bool) (k4:(List (Val qa))→Option (qb [i33,i4])):Nat→Int→(List (Val qa))→Option (qb [i33,i4])
 | 0,_,_=>none
 | n+1,v42,v46=>bif (decide (v42<v41))then (chk (0≤v42∧v42<(v40.length:Int)) (chk (0≤v36∧v36<(((v40.getD v42.toNat (qc qa)).1:List (Val (.int .i64))).length:Int)) (bif (decide ((0:Int)≤((((v40.getD v42.toNat (qc qa)).1:List (Val (.int .i64))).getD v36.toNat (qc (.int .i64))):Int)))then (qhH N v36 v37 v38 v39 v40 v41 v43 v44 v45 v47 v48 v49 k4 n (IntKind.i64.wrap (v42+(1:Int))) v46)else (chk (0≤v36∧v36<(((v40.getD v42.toNat (qc qa)).1:List (Val (.int .i64))).length:Int)) (chk (0≤v36∧v36<(v47.length:Int)) (bif (!((qT (v47,v48,v49) (IntKind.i64.wrap (0 - ((((v40.getD v42.toNat (qc qa)).1:List (Val (.int .i64))).getD v36.toNat (qc (.int .i64))):Int))) (v40.getD v42.toNat (qc qa)) ((v47.getD v36.toNat (qc (.int .i64))):Int)).2:Bool))then (some (((0:Int),([]:List (Val qa))),false,()))else (chk (v46.length+([((((qT (v47,v48,v49) (IntKind.i64.wrap (0 - ((((v40.getD v42.toNat (qc qa)).1:List (Val (.int .i64))).getD v36.toNat (qc (.int .i64))):Int))) (v40.getD v42.toNat (qc qa)) ((v47.getD v36.toNat (qc (.int .i64))):Int)).1).1:List (Val (.int .i64))),((((qT (v47,v48,v49) (IntKind.i64.wrap (0 - ((((v40.getD v42.toNat (qc qa)).1:List (Val (.int .i64))).getD v36.toNat (qc (.int .i64))):Int))) (v40.getD v42.toNat (qc qa)) ((v47.getD v36.toNat (qc (.int .i64))):Int)).1).2).1:Int),((((qT (v47,v48,v49) (IntKind.i64.wrap (0 - ((((v40.getD v42.toNat (qc qa)).1:List (Val (.int .i64))).getD v36.toNat (qc (.int .i64))):Int))) (v40.getD v42.toNat (qc qa)) ((v47.getD v36.toNat (qc (.int .i64))):Int)).1).2).2:Bool))]:List (Val qa)).length≤1048576) (qhH N v36 v37 v38 v39 v40 v41 v43 v44 v45 v47 v48 v49 k4 n (IntKind.i64.wrap (v42+(1:Int))) (v46++([((((qT (v47,v48,v49) (IntKind.i64.wrap (0 - ((((v40.getD v42.toNat (qc qa)).1:List (Val (.int .i64))).getD v36.toNat (qc (.int .i64))):Int))) (v40.getD v42.toNat (qc qa)) ((v47.getD v36.toNat (qc (.int .i64))):Int)).1).1:List (Val (.int .i64))),((((qT (v47,v48,v49) (IntKind.i64.wrap (0 - ((((v40.getD v42.toNat (qc qa)).1:List (Val (.int .i64))).getD v36.toNat (qc (.int .i64))):Int))) (v40.getD v42.toNat (qc qa)) ((v47.getD v36.toNat (qc (.int .i64))):Int)).1).2).1:Int),((((qT (v47,v48,v49) (IntKind.i64.wrap (0 - ((((v40.getD v42.toNat (qc qa)).1:List (Val (.int .i64))).getD v36.toNat (qc (.int .i64))):Int))) (v40.getD v42.toNat (qc qa)) ((v47.getD v36.toNat (qc (.int .i64))):Int)).1).2).2:Bool))]:List (Val qa)))))))))))else (k4 v46)
noncomputable def qgI (N:Nat) (v12:Int) (v13:List (Val qa)) (v14:Int) (v16:Int) (v17:List (Val qa)) (v18:Int) (k2:(List (Val qa))→Option (qb [i33,i4])):Nat→Int→(List (Val qa))→Option (qb [i33,i4])
 | 0,_,_=>none
 | n+1,v15,v19=>bif (decide (v15<v14))then (chk (0≤v15∧v15<(v13.length:Int)) (chk (0≤v12∧v12<(((v13.getD v15.toNat (qc qa)).1:List (Val (.int .i64))).length:Int)) (bif (decide (((((v13.getD v15.toNat (qc qa)).1:List (Val (.int .i64))).getD v12.toNat (qc (.int .i64))):Int)≤(0:Int)))then (qgI N v12 v13 v14 v16 v17 v18 k2 n (IntKind.i64.wrap (v15+(1:Int))) v19)else (qhH N v12 v13 v14 v15 v17 (v17.length:Int) v16 v17 v18 ((v13.getD v15.toNat (qc qa)).1:List (Val (.int .i64))) (((v13.getD v15.toNat (qc qa)).2).1:Int) (((v13.getD v15.toNat (qc qa)).2).2:Bool) (fun (v51:List (Val qa))=>qgI N v12 v13 v14 v16 v17 v18 k2 n (IntKind.i64.wrap (v15+(1:Int))) v51) N (0:Int) v19))))else (k2 v19)
noncomputable def qvn (N:Nat) (v0:Val Y33) (v1:Int):Option (qb [i33,i4]):=bif (!((qD v0):Bool))then (some (((0:Int),([]:List (Val qa))),false,()))else (bif (decide (v1<(0:Int)))then (some (((0:Int),([]:List (Val qa))),false,()))else (bif (decide ((v0.1:Int)≤v1))then (some (((0:Int),([]:List (Val qa))),false,()))else (qhg N v1 (v0.2:List (Val qa)) ((v0.2:List (Val qa)).length:Int) (v0.1:Int) (v0.2:List (Val qa)) (0:Int) (fun (v11:List (Val qa))=>qgI N v1 (v0.2:List (Val qa)) ((v0.2:List (Val qa)).length:Int) (v0.1:Int) (v0.2:List (Val qa)) (0:Int) (fun (v53:List (Val qa))=>chk (qiL (v0.1:Int) v53) (some (((((qay (v0.1:Int) v53).1).1:Int),(((qay (v0.1:Int) v53).1).2:List (Val qa))),((qay (v0.1:Int) v53).2:Bool),()))) N (0:Int) v11) N (0:Int) ([]:List (Val qa)))))
def qcq:Gam:=[(199,qaz),(255,qc6),(293,qf3)]
theorem qkf:Gam.get qcq 199=some qaz:=rfl
theorem qki:Gam.get qcq 255=some qc6:=rfl
theorem qjY:Gam.get qcq 293=some qf3:=rfl
def qoM:Nm:=⟨[false,true,true,false,true,false,true,false,false,false,false,false,false,false,false,false,false,false,false,false,false,false,false,false,false,false,false,false,false,false,false,true,true,true],[.und 6 0 108 qa],false⟩
theorem qiV:qoM.zero=false:=rfl
theorem qlp:qoM.fix=[.und 6 0 108 qa]:=rfl
theorem qk1:qoM.keep=[false,true,true,false,true,false,true,false,false,false,false,false,false,false,false,false,false,false,false,false,false,false,false,false,false,false,false,false,false,false,false,true,true,true]:=rfl
def qsI:Nm:=⟨[false,true,true,false,true,false,true,false,false,false,true,false,false,false,false,false,false,false,false,false,false,false,false,false,false,false,false,false,false,false,false,false,false,false,false,false,false,false,false,false,false,false,false,false,false,false,false,false,false,true,true,true,false,false,false,false,false,false,false,false,false,false,true,true,true],[],false⟩
theorem qkg:qsI.zero=false:=rfl
theorem qjV:qsI.fix=[]:=rfl
theorem qjn:qsI.keep=[false,true,true,false,true,false,true,false,false,false,true,false,false,false,false,false,false,false,false,false,false,false,false,false,false,false,false,false,false,false,false,false,false,false,false,false,false,false,false,false,false,false,false,false,false,false,false,false,false,true,true,true,false,false,false,false,false,false,false,false,false,false,true,true,true]:=rfl
def qqj:Nm:=⟨[false,true,true,false,true,false,true,false,false,false,false,false,false,false,false,false,false,false,false,false,false,false,false,false,false,false,false,false,false,false,false,false,false,false,false,false,false,false,false,false,false,false,false,false,false,false,false,false,false,true,true,true],[],false⟩
theorem qkQ:qqj.zero=false:=rfl
theorem qkr:qqj.fix=[]:=rfl
theorem qjX:qqj.keep=[false,true,true,false,true,false,true,false,false,false,false,false,false,false,false,false,false,false,false,false,false,false,false,false,false,false,false,false,false,false,false,false,false,false,false,false,false,false,false,false,false,false,false,false,false,false,false,false,false,true,true,true]:=rfl
def qz2:Nm:=⟨[false,true,true,false,true,false,true],[],false⟩
theorem qlP:qz2.zero=false:=rfl
theorem qkL:qz2.fix=[]:=rfl
theorem qj1:qz2.keep=[false,true,true,false,true,false,true]:=rfl
def qxs:Nm:=⟨[false,false,true,false,true,false,true],[],false⟩
theorem qj8:qxs.zero=false:=rfl
theorem qk7:qxs.fix=[]:=rfl
theorem qln:qxs.keep=[false,false,true,false,true,false,true]:=rfl
def qvB:Nm:=⟨[false,true,true,false,true,false,true,false,false,false,false,false,false,false,false,false,false,false,false,false,false,false,false,false,false,false,false,false,false,false,false,false,false,false,false,false,false,false,false,false,false,false,false,false,false,false,false,false,false,true,true,true],[],false⟩
theorem qjD:qvB.zero=false:=rfl
theorem qlD:qvB.fix=[]:=rfl
theorem qi4:qvB.keep=[false,true,true,false,true,false,true,false,false,false,false,false,false,false,false,false,false,false,false,false,false,false,false,false,false,false,false,false,false,false,false,false,false,false,false,false,false,false,false,false,false,false,false,false,false,false,false,false,false,true,true,true]:=rfl
def qwP:Nm:=⟨[false,true,true,false,true,false,true,false,false,false,true,false,false,true,true,false,false,false,false,false,false,false,false,false,false,false,false,false,false,false,false,false,false,false,false,false,false,false,false,false,false,false,false,false,false,false,false,false,false,true,true,true,false,false,false,false,false,false,false,false,false,false,true,true,true],[],false⟩
theorem qk3:qwP.zero=false:=rfl
theorem qlG:qwP.fix=[]:=rfl
theorem qi3:qwP.keep=[false,true,true,false,true,false,true,false,false,false,true,false,false,true,true,false,false,false,false,false,false,false,false,false,false,false,false,false,false,false,false,false,false,false,false,false,false,false,false,false,false,false,false,false,false,false,false,false,false,true,true,true,false,false,false,false,false,false,false,false,false,false,true,true,true]:=rfl
def qfS:Nat→Tree:=fun i=>if i=18 then .first 3 (.first 10 (.grow 0 (.grow 1 (.grow 2 (.grow 4 (.grow 5 (.first 6 (.grow 7 (.grow 8 (.grow 9 (.grow 11 (.grow 12 (.alt 13 (.first 14 (.first 15 (.first 16 (.alt 17 (.alt 18 (.quiet 19 .done) .stop) .stop)))) (.alt 17 (.alt 13 (.quiet 14 (.quiet 15 (.first 16 (.alt 18 (.quiet 19 .done) .stop)))) .stop) .stop))))))))))))))else .done
def qhF:Nat→Nm:=fun i=>if i=5 then qoM else if i=15 then qsI else if i=11 then qqj else ⟨[],[],false⟩
def qhk:Nat→Option Jn:=fun _=>none
def qgT:Nat→Option Nm:=fun i=>if i=0 then some qz2 else if i=2 then some qxs else if i=4 then some qvB else none
def qg5:Nat→Option Nm:=fun i=>if i=18 then some qwP else none
theorem zaF:qj qfS (Tryz.f237.body.getD .skip)=true:=by kernel_rfl
def qbi (N:Nat):Tab:={tr:=qfS,lp:=qhF,ex:=qgT,rg:=qg5,jn:=qhk,fuel:=N}
theorem qjW (N:Nat):(qbi N).pins=false:=rfl
theorem zdg (N:Nat):qn Tryz.prog (qbi N):=qr fun _=>rfl
theorem qku (N:Nat) (i:Nat):(qbi N).tr i=qfS i:=rfl
theorem qkB (N:Nat) (i:Nat):(qbi N).lp i=qhF i:=rfl
theorem qiQ (N:Nat) (i:Nat):(qbi N).ex i=qgT i:=rfl
theorem qja (N:Nat) (i:Nat):(qbi N).rg i=qg5 i:=rfl
theorem qi0 (N:Nat) (i:Nat):(qbi N).jn i=qhk i:=rfl
theorem qjb (N:Nat):(qbi N).fuel=N:=rfl
noncomputable def qQJ:Code:=cut [true,true,true,false,true,true,true] (Tryz.f237.body.getD .skip)
theorem q9c {N:Nat} {Q:X→St→Option (qb [i33,i4])} {e:List LV} {h:List Blk}:qd tt qcq (qbi N) qQJ Q ⟨e,h⟩=qd tt qcq (qbi N) (cut [true,true,true,false,true,true,true] (Tryz.f237.body.getD .skip)) Q ⟨e,h⟩:=rfl
theorem qWM (N:Nat) (v2:Int) (v3:List (Val qa)) (v4:Int) (v6:Int) (v7:List (Val qa)) (v8:Int) {k0:(List (Val qa))→Option (qb [i33,i4])} {Q:X→St→Option (qb [i33,i4])} {c:Code} (hc:c=qQJ) (hret: ∀st,Q .ret st=qB tt true [i33,i4] [.cell 4 33,.tmp 5] st) (h0: ∀(v10:List (Val qa)),Q (.exit 0) ⟨[u,.one (.int .i64 v2),.one (.ptr 0 0 0),u,.one (.ptr 1 0 0),u,.one (.own 2),u,u,u,u,u,u,u,u,u,u,u,u,u,u,u,u,u,u,u,u,u,u,u,u,u,u,u,u,u,u,u,u,u,u,u,u,u,u,u,u,u,u,u,u,u,u,u,u,u,u,u,u,u,u,u,u,u,u,u,u,u,u,u,u,u,u,u,u,u,u,u,u,u,u,u,u,u,u,u,u,u,u,u,u,u,u,u,u,u,u,u,u,u,u,u,u,u,u,u],[.box [.int .i64 v6,.sl 108 qa v7 3],.box [.int .i64 v8,.nils],.row 108 qa v10 false true 3]⟩=k0 v10): ∀(n:Nat) (v5:Int) (v9:List (Val qa)),qC (qd tt qcq (qbi N) c) false qoM Q n ⟨[u,.one (.int .i64 v2),.one (.ptr 0 0 0),u,.one (.ptr 1 0 0),u,.one (.own 2),u,u,u,u,u,u,u,u,u,u,u,u,u,u,u,u,u,u,u,u,u,u,u,u,.one (.sl 108 qa v3 3),.one (.int .i64 v4),.one (.int .i64 v5),u,u,u,u,u,u,u,u,u,u,u,u,u,u,u,u,u,u,u,u,u,u,u,u,u,u,u,u,u,u,u,u,u,u,u,u,u,u,u,u,u,u,u,u,u,u,u,u,u,u,u,u,u,u,u,u,u,u,u,u,u,u,u,u,u,u,u,u,u,u,u,u],[.box [.int .i64 v6,.sl 108 qa v7 3],.box [.int .i64 v8,.nils],.row 108 qa v9 false true 3]⟩=qhg N v2 v3 v4 v6 v7 v8 k0 n v5 v9:=by
 subst hc;intro n;induction n with
 | zero=>intros;rfl
 | succ n ih=>
   intro v5 v9
   rw [qL,q9c,qhg];unfold Tryz.f237
   simp (maxSteps:=10000000) -implicitDefEqProofs [qku,qfS,qkB,qhF,qiQ,qgT,qja,qg5,qi0,qhk,qjb,qjW,qlp,qk1,qiV,qjV,qjn,qkg,qkr,qjX,qkQ,qkL,qj1,qlP,qk7,qln,qj8,qlD,qi4,qjD,qlG,qi3,qk3,qkf,qki,qjY,qaz,qc6,qf3,hret,h0,ih]
noncomputable def qUd:Code:=cut [true,true,true,true,false,true,true,true,true,true,false,true,true,true,true,true,true] (Tryz.f237.body.getD .skip)
theorem zaC {N:Nat} {Q:X→St→Option (qb [i33,i4])} {e:List LV} {h:List Blk}:qd tt qcq (qbi N) qUd Q ⟨e,h⟩=qd tt qcq (qbi N) (cut [true,true,true,true,false,true,true,true,true,true,false,true,true,true,true,true,true] (Tryz.f237.body.getD .skip)) Q ⟨e,h⟩:=rfl
theorem q2n (N:Nat) (v36:Int) (v37:List (Val qa)) (v38:Int) (v39:Int) (v40:List (Val qa)) (v41:Int) (v43:Int) (v44:List (Val qa)) (v45:Int) (v47:List (Val (.int .i64))) (v48:Int) (v49:Bool) {k4:(List (Val qa))→Option (qb [i33,i4])} {Q:X→St→Option (qb [i33,i4])} {c:Code} (hc:c=qUd) (hret: ∀st,Q .ret st=qB tt true [i33,i4] [.cell 4 33,.tmp 5] st) (h4: ∀(v50:List (Val qa)),Q (.exit 4) ⟨[u,.one (.int .i64 v36),.one (.ptr 0 0 0),u,.one (.ptr 1 0 0),u,.one (.own 2),u,u,u,u,u,u,u,u,u,u,u,u,u,u,u,u,u,u,u,u,u,u,u,u,u,u,u,u,u,u,u,u,u,u,u,u,u,u,u,u,u,u,.one (.sl 108 qa v37 3),.one (.int .i64 v38),.one (.int .i64 v39),u,u,u,u,u,u,u,u,u,u,u,u,u,u,u,u,u,u,u,u,u,u,u,u,u,u,u,u,u,u,u,u,u,u,u,u,u,u,u,u,u,u,u,u,u,u,u,u,u,u,u,u,u,u],[.box [.int .i64 v43,.sl 108 qa v44 3],.box [.int .i64 v45,.nils],.row 108 qa v50 false true 3]⟩=k4 v50): ∀(n:Nat) (v42:Int) (v46:List (Val qa)),qC (qd tt qcq (qbi N) c) false qsI Q n ⟨[u,.one (.int .i64 v36),.one (.ptr 0 0 0),u,.one (.ptr 1 0 0),u,.one (.own 2),u,u,u,.one (.ptr 3 0 0),u,u,u,u,u,u,u,u,u,u,u,u,u,u,u,u,u,u,u,u,u,u,u,u,u,u,u,u,u,u,u,u,u,u,u,u,u,u,.one (.sl 108 qa v37 4),.one (.int .i64 v38),.one (.int .i64 v39),u,u,u,u,u,u,u,u,u,u,.one (.sl 108 qa v40 4),.one (.int .i64 v41),.one (.int .i64 v42),u,u,u,u,u,u,u,u,u,u,u,u,u,u,u,u,u,u,u,u,u,u,u,u,u,u,u,u,u,u,u,u,u,u,u,u,u,u,u,u,u],[.box [.int .i64 v43,.sl 108 qa v44 4],.box [.int .i64 v45,.nils],.row 108 qa v46 false true 4,.box [.sl 3 (.int .i64) v47 4,.int .i64 v48,.bool v49]]⟩=qhH N v36 v37 v38 v39 v40 v41 v43 v44 v45 v47 v48 v49 k4 n v42 v46:=by
 subst hc;intro n;induction n with
 | zero=>intros;rfl
 | succ n ih=>
   intro v42 v46
   rw [qL,zaC,qhH];unfold Tryz.f237
   simp (maxSteps:=10000000) -implicitDefEqProofs [qku,qfS,qkB,qhF,qiQ,qgT,qja,qg5,qi0,qhk,qjb,qjW,qlp,qk1,qiV,qjV,qjn,qkg,qkr,qjX,qkQ,qkL,qj1,qlP,qk7,qln,qj8,qlD,qi4,qjD,qlG,qi3,qk3,qkf,qki,qjY,qaz,qc6,qf3,hret,h4,ih]
noncomputable def qS2:Code:=cut [true,true,true,true,false,true,true,true] (Tryz.f237.body.getD .skip)
theorem q67 {N:Nat} {Q:X→St→Option (qb [i33,i4])} {e:List LV} {h:List Blk}:qd tt qcq (qbi N) qS2 Q ⟨e,h⟩=qd tt qcq (qbi N) (cut [true,true,true,true,false,true,true,true] (Tryz.f237.body.getD .skip)) Q ⟨e,h⟩:=rfl
theorem q5C (N:Nat) (v12:Int) (v13:List (Val qa)) (v14:Int) (v16:Int) (v17:List (Val qa)) (v18:Int) {k2:(List (Val qa))→Option (qb [i33,i4])} {Q:X→St→Option (qb [i33,i4])} {c:Code} (hc:c=qS2) (hret: ∀st,Q .ret st=qB tt true [i33,i4] [.cell 4 33,.tmp 5] st) (h2: ∀(v52:List (Val qa)),Q (.exit 2) ⟨[u,u,.one (.ptr 0 0 0),u,.one (.ptr 1 0 0),u,.one (.own 2),u,u,u,u,u,u,u,u,u,u,u,u,u,u,u,u,u,u,u,u,u,u,u,u,u,u,u,u,u,u,u,u,u,u,u,u,u,u,u,u,u,u,u,u,u,u,u,u,u,u,u,u,u,u,u,u,u,u,u,u,u,u,u,u,u,u,u,u,u,u,u,u,u,u,u,u,u,u,u,u,u,u,u,u,u,u,u,u,u,u,u,u,u,u,u,u,u,u,u],[.box [.int .i64 v16,.sl 108 qa v17 3],.box [.int .i64 v18,.nils],.row 108 qa v52 false true 3]⟩=k2 v52): ∀(n:Nat) (v15:Int) (v19:List (Val qa)),qC (qd tt qcq (qbi N) c) false qqj Q n ⟨[u,.one (.int .i64 v12),.one (.ptr 0 0 0),u,.one (.ptr 1 0 0),u,.one (.own 2),u,u,u,u,u,u,u,u,u,u,u,u,u,u,u,u,u,u,u,u,u,u,u,u,u,u,u,u,u,u,u,u,u,u,u,u,u,u,u,u,u,u,.one (.sl 108 qa v13 3),.one (.int .i64 v14),.one (.int .i64 v15),u,u,u,u,u,u,u,u,u,u,u,u,u,u,u,u,u,u,u,u,u,u,u,u,u,u,u,u,u,u,u,u,u,u,u,u,u,u,u,u,u,u,u,u,u,u,u,u,u,u,u,u,u,u],[.box [.int .i64 v16,.sl 108 qa v17 3],.box [.int .i64 v18,.nils],.row 108 qa v19 false true 3]⟩=qgI N v12 v13 v14 v16 v17 v18 k2 n v15 v19:=by
 subst hc;intro n;induction n with
 | zero=>intros;rfl
 | succ n ih=>
   intro v15 v19
   rw [qL,q67];unfold Tryz.f237
   simp (maxSteps:=10000000) -implicitDefEqProofs [qku,qfS,qkB,qhF,qiQ,qgT,qja,qg5,qi0,qhk,qjb,qjW,qlp,qk1,qiV,qjV,qjn,qkg,qkr,qjX,qkQ,qkL,qj1,qlP,qk7,qln,qj8,qlD,qi4,qjD,qlG,qi3,qk3,qkf,qki,qjY,qaz,qc6,qf3,hret,h2,ih]
   rewrite [q2n (k4:=(fun (v51:List (Val qa))=>qgI N v12 v13 v14 v16 v17 v18 k2 n (IntKind.i64.wrap (v15+(1:Int))) v51)) N _ _ _ _ _ _ _ _ _ _ _ _ ?_ ?_ ?_]
   ·rewrite [qgI];first | rfl | simp (maxSteps:=10000000) -implicitDefEqProofs [ih]
   ·rfl
   ·intro;simp only [qK,qI,qJ,qy,hret]
   ·intro v51;simp (maxSteps:=10000000) -implicitDefEqProofs [qku,qfS,qkB,qhF,qiQ,qgT,qja,qg5,qi0,qhk,qjb,qjW,qlp,qk1,qiV,qjV,qjn,qkg,qkr,qjX,qkQ,qkL,qj1,qlP,qk7,qln,qj8,qlD,qi4,qjD,qlG,qi3,qk3,qkf,qki,qjY,qaz,qc6,qf3,hret,h2,ih]
theorem q0q (N:Nat) (v0:Val Y33) (v1:Int):qd tt qcq (qbi N) (Tryz.f237.body.getD .skip) (qo tt true [i33,i4] [.cell 4 33,.tmp 5]) (qt [i33,i3] 106 (v0,v1,()))=qvn N v0 v1:=by
 unfold Tryz.f237
 simp (maxSteps:=10000000) -implicitDefEqProofs [qku,qfS,qkB,qhF,qiQ,qgT,qja,qg5,qi0,qhk,qjb,qjW,qlp,qk1,qiV,qjV,qjn,qkg,qkr,qjX,qkQ,qkL,qj1,qlP,qk7,qln,qj8,qlD,qi4,qjD,qlG,qi3,qk3,qkf,qki,qjY,qaz,qc6,qf3]
 rewrite [qWM (k0:=(fun (v11:List (Val qa))=>qgI N v1 (v0.2:List (Val qa)) ((v0.2:List (Val qa)).length:Int) (v0.1:Int) (v0.2:List (Val qa)) (0:Int) (fun (v53:List (Val qa))=>chk (qiL (v0.1:Int) v53) (some (((((qay (v0.1:Int) v53).1).1:Int),(((qay (v0.1:Int) v53).1).2:List (Val qa))),((qay (v0.1:Int) v53).2:Bool),()))) N (0:Int) v11)) N _ _ _ _ _ _ ?_ ?_ ?_]
 ·rewrite [qvn];first | rfl | simp (maxSteps:=10000000) -implicitDefEqProofs []
 ·rfl
 ·intro;simp only [qK,qI,qJ,qy]
 ·intro v11;simp (maxSteps:=10000000) -implicitDefEqProofs [qku,qfS,qkB,qhF,qiQ,qgT,qja,qg5,qi0,qhk,qjb,qjW,qlp,qk1,qiV,qjV,qjn,qkg,qkr,qjX,qkQ,qkL,qj1,qlP,qk7,qln,qj8,qlD,qi4,qjD,qlG,qi3,qk3,qkf,qki,qjY,qaz,qc6,qf3]
  rewrite [q5C (k2:=(fun (v53:List (Val qa))=>chk (qiL (v0.1:Int) v53) (some (((((qay (v0.1:Int) v53).1).1:Int),(((qay (v0.1:Int) v53).1).2:List (Val qa))),((qay (v0.1:Int) v53).2:Bool),())))) N _ _ _ _ _ _ ?_ ?_ ?_]
  ·first | rfl | simp (maxSteps:=10000000) -implicitDefEqProofs []
  ·rfl
  ·intro;simp only [qK,qI,qJ,qy]
  ·intro v53;simp (maxSteps:=10000000) -implicitDefEqProofs [qku,qfS,qkB,qhF,qiQ,qgT,qja,qg5,qi0,qhk,qjb,qjW,qlp,qk1,qiV,qjV,qjn,qkg,qkr,qjX,qkQ,qkL,qj1,qlP,qk7,qln,qj8,qlD,qi4,qjD,qlG,qi3,qk3,qkf,qki,qjY,qaz,qc6,qf3]
noncomputable def qgY (N:Nat) (v2:Int) (v4:Int) (v5:List (Val qa)) (v6:Int) (k0:(List (Val qa))→Option (qb [i33,i4])):Nat→Int→(List (Val qa))→Option (qb [i33,i4])
 | 0,_,_=>none
 | n+1,v3,v7=>bif (decide (v3<(v5.length:Int)))then (chk (0≤v3∧v3<(v5.length:Int)) (chk (0≤v2∧v2<(((v5.getD v3.toNat (qc qa)).1:List (Val (.int .i64))).length:Int)) (bif (decide (((((v5.getD v3.toNat (qc qa)).1:List (Val (.int .i64))).getD v2.toNat (qc (.int .i64))):Int)=(0:Int)))then (chk (0≤v3∧v3<(v5.length:Int)) (chk (v7.length+([(v5.getD v3.toNat (qc qa))]:List (Val qa)).length≤1048576) (qgY N v2 v4 v5 v6 k0 n (IntKind.i64.wrap (v3+(1:Int))) (v7++([(v5.getD v3.toNat (qc qa))]:List (Val qa))))))else (qgY N v2 v4 v5 v6 k0 n (IntKind.i64.wrap (v3+(1:Int))) v7))))else (k0 v7)
noncomputable def qge (N:Nat) (v25:Int) (v26:Int) (v28:Int) (v29:List (Val qa)) (v30:Int) (k4:(List (Val qa))→Option (qb [i33,i4])):Nat→Int→(List (Val qa))→Option (qb [i33,i4])
 | 0,_,_=>none
 | n+1,v27,v31=>bif (decide (v27<(v29.length:Int)))then (chk (0≤v26∧v26<(v29.length:Int)) (chk (0≤v25∧v25<(((v29.getD v26.toNat (qc qa)).1:List (Val (.int .i64))).length:Int)) (chk (0≤v27∧v27<(v29.length:Int)) (chk (0≤v25∧v25<(((v29.getD v27.toNat (qc qa)).1:List (Val (.int .i64))).length:Int)) (bif (decide (((((v29.getD v26.toNat (qc qa)).1:List (Val (.int .i64))).getD v25.toNat (qc (.int .i64))):Int)≤(0:Int)))then (qge N v25 v26 v28 v29 v30 k4 n (IntKind.i64.wrap (v27+(1:Int))) v31)else (bif (decide ((0:Int)≤((((v29.getD v27.toNat (qc qa)).1:List (Val (.int .i64))).getD v25.toNat (qc (.int .i64))):Int)))then (qge N v25 v26 v28 v29 v30 k4 n (IntKind.i64.wrap (v27+(1:Int))) v31)else (chk (0≤v26∧v26<(v29.length:Int)) (chk (0≤v27∧v27<(v29.length:Int)) (chk (qxT (v29.getD v26.toNat (qc qa)) (IntKind.i64.wrap (0 - ((((v29.getD v27.toNat (qc qa)).1:List (Val (.int .i64))).getD v25.toNat (qc (.int .i64))):Int))) (v29.getD v27.toNat (qc qa)) ((((v29.getD v26.toNat (qc qa)).1:List (Val (.int .i64))).getD v25.toNat (qc (.int .i64))):Int)) (bif (!((qT (v29.getD v26.toNat (qc qa)) (IntKind.i64.wrap (0 - ((((v29.getD v27.toNat (qc qa)).1:List (Val (.int .i64))).getD v25.toNat (qc (.int .i64))):Int))) (v29.getD v27.toNat (qc qa)) ((((v29.getD v26.toNat (qc qa)).1:List (Val (.int .i64))).getD v25.toNat (qc (.int .i64))):Int)).2:Bool))then (some (((0:Int),([]:List (Val qa))),false,()))else (chk (v31.length+([((((qT (v29.getD v26.toNat (qc qa)) (IntKind.i64.wrap (0 - ((((v29.getD v27.toNat (qc qa)).1:List (Val (.int .i64))).getD v25.toNat (qc (.int .i64))):Int))) (v29.getD v27.toNat (qc qa)) ((((v29.getD v26.toNat (qc qa)).1:List (Val (.int .i64))).getD v25.toNat (qc (.int .i64))):Int)).1).1:List (Val (.int .i64))),((((qT (v29.getD v26.toNat (qc qa)) (IntKind.i64.wrap (0 - ((((v29.getD v27.toNat (qc qa)).1:List (Val (.int .i64))).getD v25.toNat (qc (.int .i64))):Int))) (v29.getD v27.toNat (qc qa)) ((((v29.getD v26.toNat (qc qa)).1:List (Val (.int .i64))).getD v25.toNat (qc (.int .i64))):Int)).1).2).1:Int),((((qT (v29.getD v26.toNat (qc qa)) (IntKind.i64.wrap (0 - ((((v29.getD v27.toNat (qc qa)).1:List (Val (.int .i64))).getD v25.toNat (qc (.int .i64))):Int))) (v29.getD v27.toNat (qc qa)) ((((v29.getD v26.toNat (qc qa)).1:List (Val (.int .i64))).getD v25.toNat (qc (.int .i64))):Int)).1).2).2:Bool))]:List (Val qa)).length≤1048576) (qge N v25 v26 v28 v29 v30 k4 n (IntKind.i64.wrap (v27+(1:Int))) (v31++([((((qT (v29.getD v26.toNat (qc qa)) (IntKind.i64.wrap (0 - ((((v29.getD v27.toNat (qc qa)).1:List (Val (.int .i64))).getD v25.toNat (qc (.int .i64))):Int))) (v29.getD v27.toNat (qc qa)) ((((v29.getD v26.toNat (qc qa)).1:List (Val (.int .i64))).getD v25.toNat (qc (.int .i64))):Int)).1).1:List (Val (.int .i64))),((((qT (v29.getD v26.toNat (qc qa)) (IntKind.i64.wrap (0 - ((((v29.getD v27.toNat (qc qa)).1:List (Val (.int .i64))).getD v25.toNat (qc (.int .i64))):Int))) (v29.getD v27.toNat (qc qa)) ((((v29.getD v26.toNat (qc qa)).1:List (Val (.int .i64))).getD v25.toNat (qc (.int .i64))):Int)).1).2).1:Int),((((qT (v29.getD v26.toNat (qc qa)) (IntKind.i64.wrap (0 - ((((v29.getD v27.toNat (qc qa)).1:List (Val (.int .i64))).getD v25.toNat (qc (.int .i64))):Int))) (v29.getD v27.toNat (qc qa)) ((((v29.getD v26.toNat (qc qa)).1:List (Val (.int .i64))).getD v25.toNat (qc (.int .i64))):Int)).1).2).2:Bool))]:List (Val qa)))))))))))))))else (k4 v31)
noncomputable def qhG (N:Nat) (v10:Int) (v12:Int) (v13:List (Val qa)) (v14:Int) (k2:(List (Val qa))→Option (qb [i33,i4])):Nat→Int→(List (Val qa))→Option (qb [i33,i4])
 | 0,_,_=>none
 | n+1,v11,v15=>bif (decide (v11<(v13.length:Int)))then (qge N v10 v11 v12 v13 v14 (fun (v33:List (Val qa))=>qhG N v10 v12 v13 v14 k2 n (IntKind.i64.wrap (v11+(1:Int))) v33) N (0:Int) v15)else (k2 v15)
noncomputable def qz3 (N:Nat) (v0:Val Y33) (v1:Int):Option (qb [i33,i4]):=qgY N v1 (v0.1:Int) (v0.2:List (Val qa)) (0:Int) (fun (v9:List (Val qa))=>qhG N v1 (v0.1:Int) (v0.2:List (Val qa)) (0:Int) (fun (v35:List (Val qa))=>chk (qaK (v0.1:Int) v35) (bif (decide ((16:Int)<(((qm (v0.1:Int) v35).2:List (Val qa)).length:Int)))then (some (((0:Int),([]:List (Val qa))),false,()))else (some ((qm (v0.1:Int) v35),true,())))) N (0:Int) v9) N (0:Int) ([]:List (Val qa))
def qc2:Gam:=[(150,q9),(235,qfJ)]
theorem qlI:Gam.get qc2 150=some q9:=rfl
theorem qi5:Gam.get qc2 235=some qfJ:=rfl
def qq7:Nm:=⟨[false,true,true,false,true,false,true,true],[.und 6 0 108 qa],false⟩
theorem qkR:qq7.zero=false:=rfl
theorem qiR:qq7.fix=[.und 6 0 108 qa]:=rfl
theorem qiS:qq7.keep=[false,true,true,false,true,false,true,true]:=rfl
def qpp:Nm:=⟨[false,true,true,false,true,false,true,false,true,true],[],false⟩
theorem qiY:qpp.zero=false:=rfl
theorem qkI:qpp.fix=[]:=rfl
theorem qjo:qpp.keep=[false,true,true,false,true,false,true,false,true,true]:=rfl
def qsY:Nm:=⟨[false,true,true,false,true,false,true,false,true],[],false⟩
theorem qi8:qsY.zero=false:=rfl
theorem qlj:qsY.fix=[]:=rfl
theorem qlq:qsY.keep=[false,true,true,false,true,false,true,false,true]:=rfl
def qxH:Nm:=⟨[false,true,true,false,true,false,true],[],false⟩
theorem qjU:qxH.zero=false:=rfl
theorem qkm:qxH.fix=[]:=rfl
theorem qkx:qxH.keep=[false,true,true,false,true,false,true]:=rfl
def qyr:Nm:=⟨[false,false,true,false,true,false,true],[],false⟩
theorem qlE:qyr.zero=false:=rfl
theorem qjR:qyr.fix=[]:=rfl
theorem qlt:qyr.keep=[false,false,true,false,true,false,true]:=rfl
def qA2:Nm:=⟨[false,true,true,false,true,false,true,false,true],[],false⟩
theorem qkp:qA2.zero=false:=rfl
theorem qlT:qA2.fix=[]:=rfl
theorem qj7:qA2.keep=[false,true,true,false,true,false,true,false,true]:=rfl
def qA6:Nm:=⟨[false,true,true,false,true,false,true,false,true,true,false,false,true,true],[],false⟩
theorem qi2:qA6.zero=false:=rfl
theorem qjZ:qA6.fix=[]:=rfl
theorem qjO:qA6.keep=[false,true,true,false,true,false,true,false,true,true,false,false,true,true]:=rfl
def qfP:Nat→Tree:=fun i=>if i=16 then .first 2 (.first 5 (.first 6 (.first 9 (.first 12 (.grow 0 (.grow 1 (.grow 3 (.grow 4 (.grow 7 (.grow 8 (.grow 10 (.grow 11 (.alt 13 (.first 14 (.first 15 (.first 16 (.alt 17 (.alt 18 (.quiet 19 .done) .stop) .stop)))) (.alt 17 (.alt 13 (.quiet 14 (.quiet 15 (.first 16 (.alt 18 (.quiet 19 .done) .stop)))) .stop) .stop))))))))))))))else .done
def qhz:Nat→Nm:=fun i=>if i=3 then qq7 else if i=11 then qpp else if i=8 then qsY else ⟨[],[],false⟩
def qhb:Nat→Option Jn:=fun _=>none
def qhI:Nat→Option Nm:=fun i=>if i=0 then some qxH else if i=2 then some qyr else if i=4 then some qA2 else none
def qhn:Nat→Option Nm:=fun i=>if i=16 then some qA6 else none
theorem q1O:qj qfP (Tryz.f151.body.getD .skip)=true:=by kernel_rfl
def qbh (N:Nat):Tab:={tr:=qfP,lp:=qhz,ex:=qhI,rg:=qhn,jn:=qhb,fuel:=N}
theorem qjp (N:Nat):(qbh N).pins=false:=rfl
theorem q6A (N:Nat):qn Tryz.prog (qbh N):=qr fun _=>rfl
theorem qlL (N:Nat) (i:Nat):(qbh N).tr i=qfP i:=rfl
theorem qlU (N:Nat) (i:Nat):(qbh N).lp i=qhz i:=rfl
theorem qjJ (N:Nat) (i:Nat):(qbh N).ex i=qhI i:=rfl
theorem qkW (N:Nat) (i:Nat):(qbh N).rg i=qhn i:=rfl
theorem qkz (N:Nat) (i:Nat):(qbh N).jn i=qhb i:=rfl
theorem qk4 (N:Nat):(qbh N).fuel=N:=rfl
noncomputable def qRm:Code:=cut [true,true,false,true,true,true] (Tryz.f151.body.getD .skip)
theorem q4f {N:Nat} {Q:X→St→Option (qb [i33,i4])} {e:List LV} {h:List Blk}:qd tt qc2 (qbh N) qRm Q ⟨e,h⟩=qd tt qc2 (qbh N) (cut [true,true,false,true,true,true] (Tryz.f151.body.getD .skip)) Q ⟨e,h⟩:=rfl
theorem qZx (N:Nat) (v2:Int) (v4:Int) (v5:List (Val qa)) (v6:Int) {k0:(List (Val qa))→Option (qb [i33,i4])} {Q:X→St→Option (qb [i33,i4])} {c:Code} (hc:c=qRm) (hret: ∀st,Q .ret st=qB tt false [i33,i4] [.cell 4 33,.tmp 5] st) (h0: ∀(v8:List (Val qa)),Q (.exit 0) ⟨[u,.one (.int .i64 v2),.one (.ptr 0 0 0),u,.one (.ptr 1 0 0),u,.one (.own 2),u,u,u,u,u,u,u,u,u,u,u,u,u,u,u,u,u,u,u,u,u,u,u,u,u,u,u,u,u,u,u,u,u,u,u,u,u,u,u,u,u,u,u,u,u,u,u,u,u,u,u,u,u,u,u,u,u,u,u,u,u,u,u,u,u,u,u,u,u,u,u,u,u,u,u,u,u,u,u,u,u,u,u,u,u,u,u,u,u,u,u,u,u,u,u,u,u,u,u,u,u,u,u,u,u,u],[.box [.int .i64 v4,.sl 108 qa v5 3],.box [.int .i64 v6,.nils],.row 108 qa v8 false true 3]⟩=k0 v8): ∀(n:Nat) (v3:Int) (v7:List (Val qa)),qC (qd tt qc2 (qbh N) c) false qq7 Q n ⟨[u,.one (.int .i64 v2),.one (.ptr 0 0 0),u,.one (.ptr 1 0 0),u,.one (.own 2),.one (.int .i64 v3),u,u,u,u,u,u,u,u,u,u,u,u,u,u,u,u,u,u,u,u,u,u,u,u,u,u,u,u,u,u,u,u,u,u,u,u,u,u,u,u,u,u,u,u,u,u,u,u,u,u,u,u,u,u,u,u,u,u,u,u,u,u,u,u,u,u,u,u,u,u,u,u,u,u,u,u,u,u,u,u,u,u,u,u,u,u,u,u,u,u,u,u,u,u,u,u,u,u,u,u,u,u,u,u,u],[.box [.int .i64 v4,.sl 108 qa v5 3],.box [.int .i64 v6,.nils],.row 108 qa v7 false true 3]⟩=qgY N v2 v4 v5 v6 k0 n v3 v7:=by
 subst hc;intro n;induction n with
 | zero=>intros;rfl
 | succ n ih=>
   intro v3 v7
   rw [qL,q4f,qgY];unfold Tryz.f151
   simp (maxSteps:=10000000) -implicitDefEqProofs [qlL,qfP,qlU,qhz,qjJ,qhI,qkW,qhn,qkz,qhb,qk4,qjp,qiR,qiS,qkR,qkI,qjo,qiY,qlj,qlq,qi8,qkm,qkx,qjU,qjR,qlt,qlE,qlT,qj7,qkp,qjZ,qjO,qi2,qlI,qi5,q9,qfJ,hret,h0,ih]
noncomputable def qUC:Code:=cut [true,true,true,false,true,true,true,true,false,true,true,true,true] (Tryz.f151.body.getD .skip)
theorem zbk {N:Nat} {Q:X→St→Option (qb [i33,i4])} {e:List LV} {h:List Blk}:qd tt qc2 (qbh N) qUC Q ⟨e,h⟩=qd tt qc2 (qbh N) (cut [true,true,true,false,true,true,true,true,false,true,true,true,true] (Tryz.f151.body.getD .skip)) Q ⟨e,h⟩:=rfl
theorem qY8 (N:Nat) (v25:Int) (v26:Int) (v28:Int) (v29:List (Val qa)) (v30:Int) {k4:(List (Val qa))→Option (qb [i33,i4])} {Q:X→St→Option (qb [i33,i4])} {c:Code} (hc:c=qUC) (hret: ∀st,Q .ret st=qB tt false [i33,i4] [.cell 4 33,.tmp 5] st) (h4: ∀(v32:List (Val qa)),Q (.exit 4) ⟨[u,.one (.int .i64 v25),.one (.ptr 0 0 0),u,.one (.ptr 1 0 0),u,.one (.own 2),u,.one (.int .i64 v26),u,u,u,u,u,u,u,u,u,u,u,u,u,u,u,u,u,u,u,u,u,u,u,u,u,u,u,u,u,u,u,u,u,u,u,u,u,u,u,u,u,u,u,u,u,u,u,u,u,u,u,u,u,u,u,u,u,u,u,u,u,u,u,u,u,u,u,u,u,u,u,u,u,u,u,u,u,u,u,u,u,u,u,u,u,u,u,u,u,u,u,u,u,u,u,u,u,u,u,u,u,u,u,u],[.box [.int .i64 v28,.sl 108 qa v29 3],.box [.int .i64 v30,.nils],.row 108 qa v32 false true 3]⟩=k4 v32): ∀(n:Nat) (v27:Int) (v31:List (Val qa)),qC (qd tt qc2 (qbh N) c) false qpp Q n ⟨[u,.one (.int .i64 v25),.one (.ptr 0 0 0),u,.one (.ptr 1 0 0),u,.one (.own 2),u,.one (.int .i64 v26),.one (.int .i64 v27),u,u,u,u,u,u,u,u,u,u,u,u,u,u,u,u,u,u,u,u,u,u,u,u,u,u,u,u,u,u,u,u,u,u,u,u,u,u,u,u,u,u,u,u,u,u,u,u,u,u,u,u,u,u,u,u,u,u,u,u,u,u,u,u,u,u,u,u,u,u,u,u,u,u,u,u,u,u,u,u,u,u,u,u,u,u,u,u,u,u,u,u,u,u,u,u,u,u,u,u,u,u,u],[.box [.int .i64 v28,.sl 108 qa v29 3],.box [.int .i64 v30,.nils],.row 108 qa v31 false true 3]⟩=qge N v25 v26 v28 v29 v30 k4 n v27 v31:=by
 subst hc;intro n;induction n with
 | zero=>intros;rfl
 | succ n ih=>
   intro v27 v31
   rw [qL,zbk,qge];unfold Tryz.f151
   simp (maxSteps:=10000000) -implicitDefEqProofs [qlL,qfP,qlU,qhz,qjJ,qhI,qkW,qhn,qkz,qhb,qk4,qjp,qiR,qiS,qkR,qkI,qjo,qiY,qlj,qlq,qi8,qkm,qkx,qjU,qjR,qlt,qlE,qlT,qj7,qkp,qjZ,qjO,qi2,qlI,qi5,q9,qfJ,hret,h4,ih]
noncomputable def qQs:Code:=cut [true,true,true,false,true,true,true] (Tryz.f151.body.getD .skip)
theorem q3M {N:Nat} {Q:X→St→Option (qb [i33,i4])} {e:List LV} {h:List Blk}:qd tt qc2 (qbh N) qQs Q ⟨e,h⟩=qd tt qc2 (qbh N) (cut [true,true,true,false,true,true,true] (Tryz.f151.body.getD .skip)) Q ⟨e,h⟩:=rfl
theorem q0W (N:Nat) (v10:Int) (v12:Int) (v13:List (Val qa)) (v14:Int) {k2:(List (Val qa))→Option (qb [i33,i4])} {Q:X→St→Option (qb [i33,i4])} {c:Code} (hc:c=qQs) (hret: ∀st,Q .ret st=qB tt false [i33,i4] [.cell 4 33,.tmp 5] st) (h2: ∀(v34:List (Val qa)),Q (.exit 2) ⟨[u,u,.one (.ptr 0 0 0),u,.one (.ptr 1 0 0),u,.one (.own 2),u,u,u,u,u,u,u,u,u,u,u,u,u,u,u,u,u,u,u,u,u,u,u,u,u,u,u,u,u,u,u,u,u,u,u,u,u,u,u,u,u,u,u,u,u,u,u,u,u,u,u,u,u,u,u,u,u,u,u,u,u,u,u,u,u,u,u,u,u,u,u,u,u,u,u,u,u,u,u,u,u,u,u,u,u,u,u,u,u,u,u,u,u,u,u,u,u,u,u,u,u,u,u,u,u,u],[.box [.int .i64 v12,.sl 108 qa v13 3],.box [.int .i64 v14,.nils],.row 108 qa v34 false true 3]⟩=k2 v34): ∀(n:Nat) (v11:Int) (v15:List (Val qa)),qC (qd tt qc2 (qbh N) c) false qsY Q n ⟨[u,.one (.int .i64 v10),.one (.ptr 0 0 0),u,.one (.ptr 1 0 0),u,.one (.own 2),u,.one (.int .i64 v11),u,u,u,u,u,u,u,u,u,u,u,u,u,u,u,u,u,u,u,u,u,u,u,u,u,u,u,u,u,u,u,u,u,u,u,u,u,u,u,u,u,u,u,u,u,u,u,u,u,u,u,u,u,u,u,u,u,u,u,u,u,u,u,u,u,u,u,u,u,u,u,u,u,u,u,u,u,u,u,u,u,u,u,u,u,u,u,u,u,u,u,u,u,u,u,u,u,u,u,u,u,u,u,u],[.box [.int .i64 v12,.sl 108 qa v13 3],.box [.int .i64 v14,.nils],.row 108 qa v15 false true 3]⟩=qhG N v10 v12 v13 v14 k2 n v11 v15:=by
 subst hc;intro n;induction n with
 | zero=>intros;rfl
 | succ n ih=>
   intro v11 v15
   rw [qL,q3M];unfold Tryz.f151
   simp (maxSteps:=10000000) -implicitDefEqProofs [qlL,qfP,qlU,qhz,qjJ,qhI,qkW,qhn,qkz,qhb,qk4,qjp,qiR,qiS,qkR,qkI,qjo,qiY,qlj,qlq,qi8,qkm,qkx,qjU,qjR,qlt,qlE,qlT,qj7,qkp,qjZ,qjO,qi2,qlI,qi5,q9,qfJ,hret,h2,ih]
   rewrite [qY8 (k4:=(fun (v33:List (Val qa))=>qhG N v10 v12 v13 v14 k2 n (IntKind.i64.wrap (v11+(1:Int))) v33)) N _ _ _ _ _ ?_ ?_ ?_]
   ·rewrite [qhG];first | rfl | simp (maxSteps:=10000000) -implicitDefEqProofs [ih]
   ·rfl
   ·intro;simp only [qK,qI,qJ,qy,hret]
   ·intro v33;simp (maxSteps:=10000000) -implicitDefEqProofs [qlL,qfP,qlU,qhz,qjJ,qhI,qkW,qhn,qkz,qhb,qk4,qjp,qiR,qiS,qkR,qkI,qjo,qiY,qlj,qlq,qi8,qkm,qkx,qjU,qjR,qlt,qlE,qlT,qj7,qkp,qjZ,qjO,qi2,qlI,qi5,q9,qfJ,hret,h2,ih]
theorem q6K (N:Nat) (v0:Val Y33) (v1:Int):qd tt qc2 (qbh N) (Tryz.f151.body.getD .skip) (qo tt false [i33,i4] [.cell 4 33,.tmp 5]) (qt [i33,i3] 113 (v0,v1,()))=qz3 N v0 v1:=by
 unfold Tryz.f151
 simp (maxSteps:=10000000) -implicitDefEqProofs [qlL,qfP,qlU,qhz,qjJ,qhI,qkW,qhn,qkz,qhb,qk4,qjp,qiR,qiS,qkR,qkI,qjo,qiY,qlj,qlq,qi8,qkm,qkx,qjU,qjR,qlt,qlE,qlT,qj7,qkp,qjZ,qjO,qi2,qlI,qi5,q9,qfJ]
 rewrite [qZx (k0:=(fun (v9:List (Val qa))=>qhG N v1 (v0.1:Int) (v0.2:List (Val qa)) (0:Int) (fun (v35:List (Val qa))=>chk (qaK (v0.1:Int) v35) (bif (decide ((16:Int)<(((qm (v0.1:Int) v35).2:List (Val qa)).length:Int)))then (some (((0:Int),([]:List (Val qa))),false,()))else (some ((qm (v0.1:Int) v35),true,())))) N (0:Int) v9)) N _ _ _ _ ?_ ?_ ?_]
 ·rewrite [qz3];first | rfl | simp (maxSteps:=10000000) -implicitDefEqProofs []
 ·rfl
 ·intro;simp only [qK,qI,qJ,qy]
 ·intro v9;simp (maxSteps:=10000000) -implicitDefEqProofs [qlL,qfP,qlU,qhz,qjJ,qhI,qkW,qhn,qkz,qhb,qk4,qjp,qiR,qiS,qkR,qkI,qjo,qiY,qlj,qlq,qi8,qkm,qkx,qjU,qjR,qlt,qlE,qlT,qj7,qkp,qjZ,qjO,qi2,qlI,qi5,q9,qfJ]
  rewrite [q0W (k2:=(fun (v35:List (Val qa))=>chk (qaK (v0.1:Int) v35) (bif (decide ((16:Int)<(((qm (v0.1:Int) v35).2:List (Val qa)).length:Int)))then (some (((0:Int),([]:List (Val qa))),false,()))else (some ((qm (v0.1:Int) v35),true,()))))) N _ _ _ _ ?_ ?_ ?_]
  ·first | rfl | simp (maxSteps:=10000000) -implicitDefEqProofs []
  ·rfl
  ·intro;simp only [qK,qI,qJ,qy]
  ·intro v35;simp (maxSteps:=10000000) -implicitDefEqProofs [qlL,qfP,qlU,qhz,qjJ,qhI,qkW,qhn,qkz,qhb,qk4,qjp,qiR,qiS,qkR,qkI,qjo,qiY,qlj,qlq,qi8,qkm,qkx,qjU,qjR,qlt,qlE,qlT,qj7,qkp,qjZ,qjO,qi2,qlI,qi5,q9,qfJ]
def okD (d:Int) (a:Val qa):Prop:=okA a∧(List.length (α:=Int) a.1:Int)=d
abbrev qnT:Option (qb [i33,i4]):=some (((0:Int),([]:List (Val qa))),false,())
theorem qrf (v:Int) (a:Val qa):List.getD (α:=Val (.int .i64)) a.1 v.toNat (qc (.int .i64))=cfV v a:=rfl
theorem qQF {v:Int} {a:Val qa} (h:okA a): -400000000≤cfV v a∧cfV v a≤400000000:=by
 unfold cfV
 by_cases hv:v.toNat<List.length (α:=Int) a.1
 ·rw [List.getD_eq_getElem?_getD,List.getElem?_eq_getElem hv]
  exact qj0 h _ (List.getElem_mem hv)
 ·rw [List.getD_eq_getElem?_getD,List.getElem?_eq_none (by omega)]
  exact ⟨by decide,by decide⟩
theorem qSo {co:List Int} {k:Int} {s:Bool} (h:(qh co k s).2=true):okA (qh co k s).1∧List.length (α:=Int) (qh co k s).1.1=co.length:=by
 unfold qh quC at*
 generalize max 1 (gL k.natAbs co)=g at*
 cases hb:qA (List.map (α:=Int) (fun x=>x.tdiv (g:Int)) co,k.tdiv (g:Int),s)with
 | true=>exact ⟨hb,by simp⟩
 | false=>rw [hb]at h;simp at h
theorem zbM {d p q:Int} {a b:Val qa} (ha:okD d a) (hb:okD d b) (h:(qT a p b q).2=true):okD d (qT a p b q).1:=by
 unfold qT at*
 cases hc:(qA a&&qA b&&decide (List.length (α:=Int) a.1=List.length (α:=Int) b.1)&&inR p 0 400000000&&inR q 0 400000000)with
 | false=>rw [hc]at h;simp at h
 | true=>
   rw [hc]at h
   obtain ⟨h1,h2⟩:=qSo h
   simp only [Bool.and_eq_true,decide_eq_true_eq]at hc
   refine ⟨h1,?_⟩
   have:=ha.2
   have e:=qqT (p:=p) (q:=q) hc.1.1.2
   show (List.length (α:=Int) (qh (qbO p q a.1 b.1) _ _).1.1:Int)=d
   rw [h2,e];exact this
theorem qon {v d:Int} {a:Val qa} (ha:okD d a): ∀{xs s s':List (Val qa)},(∀b∈xs,okD d b)→(∀b∈s,okD d b)→qbz v a xs s=some s'→(∀b∈s',okD d b)∧s'.length≤s.length+xs.length
 | [],s,s',_,hs,h=>by simp only [qbz,Option.some.injEq]at h;subst h;exact ⟨hs,by simp⟩
 | b::r,s,s',hx,hs,h=>by
   simp only [qbz]at h
   cases hn:decide (cfV v b<0)with
   | false=>
     rw [hn]at h
     obtain ⟨h1,h2⟩:=qon ha (fun c hc=>hx c (by simp [hc])) hs h
     exact ⟨h1,by simp;omega⟩
   | true=>
     rw [hn]at h
     cases hm:(qT a (-cfV v b) b (cfV v a)).2 with
     | false=>rw [hm]at h;simp at h
     | true=>
       rw [hm]at h
       simp only [cond_true]at h
       obtain ⟨h1,h2⟩:=qon ha (fun c hc=>hx c (by simp [hc])) (fun c hc=>by
        rcases List.mem_append.1 hc with hc | hc
        ·exact hs c hc
        ·simp only [List.mem_singleton]at hc;subst hc;exact zbM ha (hx b (by simp)) hm) h
       exact ⟨h1,by simp at h2 ⊢;omega⟩
theorem qHw {v d:Int} {l:List (Val qa)} (hl: ∀b∈l,okD d b): ∀{xs s s':List (Val qa)},(∀b∈xs,okD d b)→(∀b∈s,okD d b)→qbr v l xs s=some s'→(∀b∈s',okD d b)∧s'.length≤s.length+xs.length*l.length
 | [],s,s',_,hs,h=>by simp only [qbr,Option.some.injEq]at h;subst h;exact ⟨hs,by simp⟩
 | a::r,s,s',hx,hs,h=>by
   simp only [qbr]at h
   cases hn:decide (0<cfV v a)with
   | false=>
     rw [hn]at h
     obtain ⟨h1,h2⟩:=qHw hl (fun c hc=>hx c (by simp [hc])) hs h
     exact ⟨h1,by simp [Nat.add_mul];omega⟩
   | true=>
     rw [hn]at h
     simp only [cond_true]at h
     cases hm:qbz v a l s with
     | none=>rw [hm]at h;simp at h
     | some s1=>
       rw [hm]at h
       obtain ⟨g1,g2⟩:=qon (hx a (by simp)) hl hs hm
       obtain ⟨h1,h2⟩:=qHw hl (fun c hc=>hx c (by simp [hc])) g1 h
       exact ⟨h1,by simp [Nat.add_mul];omega⟩
theorem qvz {ρ:Type} {v:Int} {k:List (Val qa)→Option ρ}: ∀(xs:List (Val qa)) (i:Nat) (s:List (Val qa)),s.length+xs.length≤1048576→
 qO (fun _ (x:Val qa) (s:List (Val qa)) K=>bif decide (cfV v x=0)then chk (s.length+[x].length≤1048576) (K (s++[x]))else K s) i xs s k=k (s++xs.filter fun a=>decide (cfV v a=0))
 | [],_,s,_=>by rw [qO];simp
 | x::xs,i,s,h=>by
   simp only [List.length_cons]at h
   rw [qO,List.filter_cons]
   cases hb:decide (cfV v x=0)with
   | true=>simp only [cond_true];rw [qe (by simp;omega),qvz xs _ _ (by simp;omega)];simp
   | false=>simp only [cond_false];rw [qvz xs _ _ (by omega)];simp
theorem qxb {ρ:Type} {v:Int} {a:Val qa} {r:Option ρ} {k:List (Val qa)→Option ρ}: ∀(xs:List (Val qa)) (i:Nat) (s:List (Val qa)),s.length+xs.length≤1048576→
 qO (fun _ (b:Val qa) (s:List (Val qa)) K=>bif decide (0≤cfV v b)then K s else bif !(qT a (-cfV v b) b (cfV v a)).2 then r else chk (s.length+[(qT a (-cfV v b) b (cfV v a)).1].length≤1048576) (K (s++[(qT a (-cfV v b) b (cfV v a)).1]))) i xs s k=match qbz v a xs s with
  | some s'=>k s'
  | none=>r
 | [],_,s,_=>by rw [qO];rfl
 | b::xs,i,s,h=>by
   simp only [List.length_cons]at h
   rw [qO,qbz]
   by_cases hb:cfV v b<0
   ·rw [qi (show ¬0≤cfV v b by omega),ql hb]
    cases hm:(qT a (-cfV v b) b (cfV v a)).2 with
    | false=>rfl
    | true=>
      simp only [Bool.not_true,cond_false,cond_true]
      rw [qe (by simp;omega)]
      exact qxb xs _ _ (by simp;omega)
   ·rw [ql (show 0≤cfV v b by omega),qi hb]
    exact qxb xs _ _ (by omega)
theorem q3c (N:Nat) (d v:Int) (l:List (Val qa)) (hv:0≤v∧v<d) (hl:l.length≤1048576) (h: ∀b∈l,okD d b) (K:List (Val qa)→Option (qb [i33,i4])) (n:Nat) (hn:l.length<n):
 qhg N v l l.length d l 0 K n 0 []=K (l.filter fun a=>decide (cfV v a=0)):=
 (qaj (xs:=l) (F:=fun n i s=>qhg N v l l.length d l 0 K n i s) (step:=fun _ (x:Val qa) (s:List (Val qa)) K=>bif decide (cfV v x=0)then chk (s.length+[x].length≤1048576) (K (s++[x]))else K s) (k:=K) hl (fun n i s hi=>by
   have hd:=(h _ (List.getElem_mem hi)).2
   rw [qhg,ql (by omega),qe (by omega),qH hi,qe ⟨hv.1,by rw [show (List.length (α:=Val (.int .i64)) l[i].1:Int)=d from hd];exact hv.2⟩]
   try rfl) (fun n i s hi=>by rw [qhg,qi (by omega)]) n [] hn).trans (qvz l 0 [] (by simpa using hl))
theorem qYm (N:Nat) (d v:Int) (l:List (Val qa)) (hv:0≤v∧v<d) (hl:l.length≤1048576) (h: ∀b∈l,okD d b) (a:Val qa) (ha:okD d a) (i0:Int) (K:List (Val qa)→Option (qb [i33,i4])) (n:Nat) (hn:l.length<n) (s:List (Val qa)) (hs:s.length+l.length≤1048576):
 qhH N v l l.length i0 l l.length d l 0 a.1 a.2.1 a.2.2 K n 0 s=match qbz v a l s with
  | some s'=>K s'
  | none=>qnT:=
 (qaj (xs:=l) (F:=fun n i s=>qhH N v l l.length i0 l l.length d l 0 a.1 a.2.1 a.2.2 K n i s) (step:=fun _ (b:Val qa) (s:List (Val qa)) K=>bif decide (0≤cfV v b)then K s else bif !(qT a (-cfV v b) b (cfV v a)).2 then qnT else chk (s.length+[(qT a (-cfV v b) b (cfV v a)).1].length≤1048576) (K (s++[(qT a (-cfV v b) b (cfV v a)).1]))) (k:=K) hl (fun n i s hi=>by
   have hb:=h _ (List.getElem_mem hi)
   have hbd:=hb.2
   have had:=ha.2
   have hc:=qQF (v:=v) hb.1
   rw [qhH,ql (by omega),qe (by omega),qH hi,qe ⟨hv.1,by rw [show (List.length (α:=Val (.int .i64)) l[i].1:Int)=d from hbd];exact hv.2⟩,qe ⟨hv.1,by rw [show (List.length (α:=Val (.int .i64)) l[i].1:Int)=d from hbd];exact hv.2⟩,qe ⟨hv.1,by rw [show (List.length (α:=Val (.int .i64)) a.1:Int)=d from had];exact hv.2⟩,qrf,qrf,ql2 (by unfold inI;omega)]
   try rfl) (fun n i s hi=>by rw [qhH,qi (by omega)]) n s hn).trans (qxb l 0 s hs)
theorem qGQ (N:Nat) (d v:Int) (l:List (Val qa)) (hv:0≤v∧v<d) (hl:l.length≤16) (h: ∀b∈l,okD d b) (hN:l.length<N) (K:List (Val qa)→Option (qb [i33,i4])): ∀(k i:Nat),l.length - i=k→ ∀n,k<n→ ∀s:List (Val qa),s.length+k*l.length≤1000→(∀b∈s,okD d b)→
 qgI N v l l.length d l 0 K n i s=match qbr v l (l.drop i) s with
  | some s'=>K s'
  | none=>qnT
 | 0,i,hi,n+1,_,s,_,_=>by
   rw [qgI,qi (by omega),List.drop_eq_nil_of_le (by omega)]
   rfl
 | k+1,i,hi,n+1,hn,s,hs,hsd=>by
   have h1:i<l.length:=by omega
   have ha:=h _ (List.getElem_mem h1)
   have had:=ha.2
   have hk:s.length+(k*l.length+l.length)≤1000:=by rw [Nat.add_mul,Nat.one_mul]at hs;exact hs
   rw [qgI,ql (by omega),qe (by omega),qH h1,qe ⟨hv.1,by rw [show (List.length (α:=Val (.int .i64)) l[i].1:Int)=d from had];exact hv.2⟩,qrf,qfh h1 (by omega),qgg h1,qbr]
   by_cases hc:0<cfV v l[i]
   ·rw [qi (show ¬cfV v l[i]≤0 by omega),ql hc,qYm N d v l hv (by omega) h l[i] ha _ _ N hN s (by omega)]
    cases hm:qbz v l[i] l s with
    | none=>rfl
    | some s1=>
      obtain ⟨g1,g2⟩:=qon ha h hsd hm
      exact qGQ N d v l hv hl h hN K k (i+1) (by omega) n (by omega) s1 (by omega) g1
   ·rw [ql (show cfV v l[i]≤0 by omega),qi hc]
    exact qGQ N d v l hv hl h hN K k (i+1) (by omega) n (by omega) s (by omega) hsd
theorem qMm {d v:Int} {l s:List (Val qa)} (hd:0≤d∧d≤4) (hl:l.length≤16) (h: ∀b∈l,okD d b) (hm:qbr v l l (l.filter fun a=>decide (cfV v a=0))=some s):okL d s:=by
 have hf:=List.length_filter_le (fun a:Val qa=>decide (cfV v a=0)) l
 obtain ⟨g1,g2⟩:=qHw h h (fun b hb=>h b (List.mem_filter.1 hb).1) hm
 have:l.length*l.length≤16*16:=Nat.mul_le_mul hl hl
 exact ⟨hd,by omega,g1⟩
theorem qXS (c:Val Y33) (v:Int): ∃N,qvn N c v=some ((qbZ c v).1,(qbZ c v).2,()):=⟨List.length (α:=Val qa) c.2+1,by
 rw [qvn]
 unfold qbZ
 cases hc:qD c with
 | false=>rfl
 | true=>
 obtain ⟨hd,hl,hok⟩:=qaD hc
 simp only [Bool.not_true,cond_false,Bool.true_and]
 by_cases h1:v<0
 ·rw [ql h1,decide_eq_false (by omega)];rfl
 rw [qi h1]
 by_cases h2:(c.1:Int)≤v
 ·rw [ql h2,decide_eq_false (fun h=>absurd h.2 (Int.not_lt.2 h2))];rfl
 have hv:0≤v∧v<(c.1:Int):=⟨by omega,Int.not_le.1 h2⟩
 rw [qi h2,decide_eq_true hv]
 have hf:=List.length_filter_le (fun a:Val qa=>decide (cfV v a=0)) c.2
 have hll:List.length (α:=Val qa) c.2*List.length (α:=Val qa) c.2≤16*16:=Nat.mul_le_mul hl hl
 rw [q3c _ c.1 v c.2 hv (by omega) hok _ _ (Nat.lt_succ_self _)]
 have hfs: ∀b∈List.filter (α:=Val qa) (fun a=>decide (cfV v a=0)) c.2,okD c.1 b:=fun b hb=>hok b (List.mem_filter.1 hb).1
 unfold qR
 generalize hS:List.filter (α:=Val qa) (fun a=>decide (cfV v a=0)) c.2=S at hf hfs ⊢
 refine (qGQ _ c.1 v c.2 hv hl hok (Nat.lt_succ_self _) _ (List.length (α:=Val qa) c.2) 0 rfl _ (Nat.lt_succ_self _) S (by have h5:S.length≤List.length (α:=Val qa) c.2:=hf;omega) hfs).trans ?_
 rw [List.drop_zero]
 simp only [cond_true]
 cases hm:qbr v c.2 c.2 S with
 | none=>rfl
 | some s=>
   dsimp only
   rw [qe (show qiL c.1 s from qMm hd hl hok (hS▸hm))]⟩
theorem qUO:Sound Tryz.prog 237 qbe:=qu (tt:=tt) (Γ:=qcq) hT (qf qrl (qf qQb (qf q0w qq))) hm (fn:=Tryz.f237) Tryz.func237 (c:=Tryz.f237.body.getD .skip) (by kernel_rfl) (by kernel_rfl) fun x hx=>by
 obtain ⟨N,h⟩:=qXS x.1 x.2.1
 exact ⟨qbi N,zaF,qv _,zdg N,(q0q N x.1 x.2.1).trans h⟩
theorem qSt {ρ α σ:Type} {k:σ→Option ρ}: ∀(xs:List α) (i:Nat) (s:σ),qO (fun _ (_:α) (s:σ) (K:σ→Option ρ)=>K s) i xs s k=k s
 | [],_,_=>rfl
 | _::xs,i,s=>by rw [qO];exact qSt xs _ s
theorem q8a (N:Nat) (d v:Int) (l:List (Val qa)) (hv:0≤v∧v<d) (hl:l.length≤1048576) (h: ∀b∈l,okD d b) (K:List (Val qa)→Option (qb [i33,i4])) (n:Nat) (hn:l.length<n):
 qgY N v d l 0 K n 0 []=K (l.filter fun a=>decide (cfV v a=0)):=
 (qaj (xs:=l) (F:=fun n i s=>qgY N v d l 0 K n i s) (step:=fun _ (x:Val qa) (s:List (Val qa)) K=>bif decide (cfV v x=0)then chk (s.length+[x].length≤1048576) (K (s++[x]))else K s) (k:=K) hl (fun n i s hi=>by
   have hd:=(h _ (List.getElem_mem hi)).2
   rw [qgY,ql (by omega),qe (by omega),qH hi,qe ⟨hv.1,by rw [show (List.length (α:=Val (.int .i64)) l[i].1:Int)=d from hd];exact hv.2⟩,qe (by omega)]
   try rfl) (fun n i s hi=>by rw [qgY,qi (by omega)]) n [] hn).trans (qvz l 0 [] (by simpa using hl))
theorem qU2 (N:Nat) (d v:Int) (l:List (Val qa)) (hv:0≤v∧v<d) (hl:l.length≤1048576) (h: ∀b∈l,okD d b) (i0:Nat) (h0:i0<l.length) (K:List (Val qa)→Option (qb [i33,i4])) (n:Nat) (hn:l.length<n) (s:List (Val qa)) (hs:s.length+l.length≤1048576):
 qge N v i0 d l 0 K n 0 s=bif decide (0<cfV v l[i0])then (match qbz v l[i0] l s with
  | some s'=>K s'
  | none=>qnT)else K s:=by
 refine (qaj (xs:=l) (F:=fun n i s=>qge N v i0 d l 0 K n i s) (step:=fun _ (b:Val qa) (s:List (Val qa)) K=>bif decide (cfV v l[i0]≤0)then K s else bif decide (0≤cfV v b)then K s else bif !(qT l[i0] (-cfV v b) b (cfV v l[i0])).2 then qnT else chk (s.length+[(qT l[i0] (-cfV v b) b (cfV v l[i0])).1].length≤1048576) (K (s++[(qT l[i0] (-cfV v b) b (cfV v l[i0])).1]))) (k:=K) hl (fun n i s hi=> ?_) (fun n i s hi=>by rw [qge,qi (by omega)]) n s hn).trans ?_
 ·have ha:=h _ (List.getElem_mem h0)
  have hb:=h _ (List.getElem_mem hi)
  have hbd:=hb.2
  have had:=ha.2
  have hc:=qQF (v:=v) hb.1
  have p1:qa3 l[i0]:=by have:=(qaN ha.1).1;show List.length (α:=Val (.int .i64)) l[i0].1≤1048576;exact Nat.le_trans this (by decide)
  have p2:qa3 l[i]:=by have:=(qaN hb.1).1;show List.length (α:=Val (.int .i64)) l[i].1≤1048576;exact Nat.le_trans this (by decide)
  rw [qge,ql (by omega),qH h0,qH hi]
  have ng:IntKind.i64.wrap (0 - cfV v l[i])= -cfV v l[i]:=ql2 (by unfold inI;omega)
  rw [qrf v l[i0],qrf v l[i],ng,qe (by omega),qe ⟨hv.1,by rw [show (List.length (α:=Val (.int .i64)) l[i0].1:Int)=d from had];exact hv.2⟩,qe (by omega),qe ⟨hv.1,by rw [show (List.length (α:=Val (.int .i64)) l[i].1:Int)=d from hbd];exact hv.2⟩,qe (by omega),qe (by omega),qe (show qxT l[i0] _ l[i] _ from ⟨p1,p2⟩)]
  try rfl
 ·by_cases hx:0<cfV v l[i0]
  ·rw [ql hx,decide_eq_false (show ¬cfV v l[i0]≤0 by omega)]
   exact qxb l 0 s hs
  ·rw [qi hx,decide_eq_true (show cfV v l[i0]≤0 by omega)]
   exact qSt l 0 s
theorem qIS (N:Nat) (d v:Int) (l:List (Val qa)) (hv:0≤v∧v<d) (hl:l.length≤16) (h: ∀b∈l,okD d b) (hN:l.length<N) (K:List (Val qa)→Option (qb [i33,i4])): ∀(k i:Nat),l.length - i=k→ ∀n,k<n→ ∀s:List (Val qa),s.length+k*l.length≤1000→(∀b∈s,okD d b)→
 qhG N v d l 0 K n i s=match qbr v l (l.drop i) s with
  | some s'=>K s'
  | none=>qnT
 | 0,i,hi,n+1,_,s,_,_=>by
   rw [qhG,qi (by omega),List.drop_eq_nil_of_le (by omega)]
   rfl
 | k+1,i,hi,n+1,hn,s,hs,hsd=>by
   have h1:i<l.length:=by omega
   have ha:=h _ (List.getElem_mem h1)
   have hk:s.length+(k*l.length+l.length)≤1000:=by rw [Nat.add_mul,Nat.one_mul]at hs;exact hs
   rw [qhG,ql (by omega),qfh h1 (by omega),qgg h1,qbr,qU2 N d v l hv (by omega) h i h1 _ N hN s (by omega)]
   by_cases hc:0<cfV v l[i]
   ·rw [ql hc,ql hc]
    cases hm:qbz v l[i] l s with
    | none=>rfl
    | some s1=>
      obtain ⟨g1,g2⟩:=qon ha h hsd hm
      exact qIS N d v l hv hl h hN K k (i+1) (by omega) n (by omega) s1 (by omega) g1
   ·rw [qi hc,qi hc]
    exact qIS N d v l hv hl h hN K k (i+1) (by omega) n (by omega) s (by omega) hsd
theorem qYJ (c:Val Y33) (v:Int) (h:qnv c v): ∃N,qz3 N c v=some ((qR c v).1,(qR c v).2,()):=⟨List.length (α:=Val qa) c.2+1,by
 obtain ⟨hc,hv⟩:=h
 rw [qz3]
 obtain ⟨hd,hl,hok⟩:=qaD hc
 have hf:=List.length_filter_le (fun a:Val qa=>decide (cfV v a=0)) c.2
 have hll:List.length (α:=Val qa) c.2*List.length (α:=Val qa) c.2≤16*16:=Nat.mul_le_mul hl hl
 rw [q8a _ c.1 v c.2 hv (by omega) hok _ _ (Nat.lt_succ_self _)]
 have hfs: ∀b∈List.filter (α:=Val qa) (fun a=>decide (cfV v a=0)) c.2,okD c.1 b:=fun b hb=>hok b (List.mem_filter.1 hb).1
 unfold qR
 generalize hS:List.filter (α:=Val qa) (fun a=>decide (cfV v a=0)) c.2=S at hf hfs ⊢
 refine (qIS _ c.1 v c.2 hv hl hok (Nat.lt_succ_self _) _ (List.length (α:=Val qa) c.2) 0 rfl _ (Nat.lt_succ_self _) S (by have h5:S.length≤List.length (α:=Val qa) c.2:=hf;omega) hfs).trans ?_
 rw [List.drop_zero]
 cases hm:qbr v c.2 c.2 S with
 | none=>rfl
 | some s=>
   dsimp only
   rw [qe (show qaK c.1 s from qMm hd hl hok (hS▸hm))]
   unfold qay
   cases decide ((16:Int)<(List.length (α:=Val qa) (qm c.1 s).2:Int))<;>rfl⟩
theorem qQd:Sound Tryz.prog 151 qa0:=qu (tt:=tt) (Γ:=qc2) hT (qf qtd (qf za6 qq)) hm (fn:=Tryz.f151) Tryz.func151 (c:=Tryz.f151.body.getD .skip) (by kernel_rfl) (by kernel_rfl) fun x hx=>by
 obtain ⟨N,h⟩:=qYJ x.1 x.2.1 hx
 exact ⟨qbh N,q1O,qv _,q6A N,(q6K N x.1 x.2.1).trans h⟩
end Go.T
