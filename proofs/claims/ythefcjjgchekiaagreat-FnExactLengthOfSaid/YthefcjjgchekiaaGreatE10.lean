/- A cell taken from a region: run. -/
import Derived.Test.YthefcjjgchekiaaGreatE9
import Derived.Test.YthefcjjgchekiaaGreatB6n
set_option linter.unusedSimpArgs false
set_option linter.unusedVariables false
namespace Go.T
open Go Go.Proofs
set_option maxHeartbeats 4000000
set_option maxRecDepth 100000
def qcd (d:Int) (l:List (Val qa)) (k:Nat):Val Y33:=(d,l.take k++[(qt (l.getD k dA)).1])
def qbV (d:Int) (l:List (Val qa)) (c:Val Y33):Nat→Nat→Val Y50→Val Y50×Bool
 | 0,_,r=>(r,true)
 | n+1,k,r=>bif (qZ c (qcd d l k)).2 then (bif (qag r (qZ c (qcd d l k)).1).2 then qbV d l c n (k+1) (qag r (qZ c (qcd d l k)).1).1 else qa5)else qa5
def qb9 (d:Int) (l:List (Val qa)):List (Val Y33)→Val Y50→Val Y50×Bool
 | [],r=>(r,true)
 | c::cs,r=>bif (qbV d l c l.length 0 r).2 then qb9 d l cs (qbV d l c l.length 0 r).1 else qa5
def qbL (r:Val Y50) (m:Val Y33):Val Y50×Bool:=qb9 r.1 m.2 r.2 (r.1,[])
def qDN (r:Val Y50) (m:Val Y33):Prop:=q7 r=true∧qz m=true∧(m.1:Int)=(r.1:Int)
def qnG:G:={ps:=[i50,i33],rs:=[i50,i4],dp:=true,pre:=fun x=>qDN x.1 x.2.1,fn:=fun x=>((qbL x.1 x.2.1).1,(qbL x.1 x.2.1).2,())}
noncomputable def qix (N:Nat) (v31:List (Val Y33)) (v32:Int) (v33:Int) (v34:List (Val qa)) (v35:Int) (v37:Int) (v38:List (Val Y33)) (v39:Int) (v40:List (Val qa)) (v41:Int) (v43:Int) (v44:List (Val qa)) (k2:Int→(List (Val Y33))→Option (qc [i50,i4])):Nat→Int→Int→(List (Val Y33))→Option (qc [i50,i4])
 | 0,_,_,_=>none
 | n+1,v36,v42,v45=>bif (decide (v36<v35))then (chk (0≤v36∧v36<(v34.length:Int)) (bif (!((qt (v34.getD v36.toNat (qb qa))).2:Bool))then (some (((0:Int),([]:List (Val Y33))),false,()))else (chk (0≤(0:Int)∧(0:Int)≤v36∧v36≤(v40.length:Int)) (chk (([]:List (Val qa)).length+((v40.take v36.toNat).drop (0:Int).toNat).length≤1048576) (chk ((([]:List (Val qa))++((v40.take v36.toNat).drop (0:Int).toNat)).length+([((((qt (v34.getD v36.toNat (qb qa))).1).1:List (Val (.int .i64))),((((qt (v34.getD v36.toNat (qb qa))).1).2).1:Int),((((qt (v34.getD v36.toNat (qb qa))).1).2).2:Bool))]:List (Val qa)).length≤1048576) (bif (!((qZ (v43,v44) (v37,((([]:List (Val qa))++((v40.take v36.toNat).drop (0:Int).toNat))++([((((qt (v34.getD v36.toNat (qb qa))).1).1:List (Val (.int .i64))),((((qt (v34.getD v36.toNat (qb qa))).1).2).1:Int),((((qt (v34.getD v36.toNat (qb qa))).1).2).2:Bool))]:List (Val qa))))).2:Bool))then (some (((0:Int),([]:List (Val Y33))),false,()))else (chk (qkD (v42,v45) ((((qZ (v43,v44) (v37,((([]:List (Val qa))++((v40.take v36.toNat).drop (0:Int).toNat))++([((((qt (v34.getD v36.toNat (qb qa))).1).1:List (Val (.int .i64))),((((qt (v34.getD v36.toNat (qb qa))).1).2).1:Int),((((qt (v34.getD v36.toNat (qb qa))).1).2).2:Bool))]:List (Val qa))))).1).1:Int),(((qZ (v43,v44) (v37,((([]:List (Val qa))++((v40.take v36.toNat).drop (0:Int).toNat))++([((((qt (v34.getD v36.toNat (qb qa))).1).1:List (Val (.int .i64))),((((qt (v34.getD v36.toNat (qb qa))).1).2).1:Int),((((qt (v34.getD v36.toNat (qb qa))).1).2).2:Bool))]:List (Val qa))))).1).2:List (Val qa)))) (bif (!((qyj (v42,v45) ((((qZ (v43,v44) (v37,((([]:List (Val qa))++((v40.take v36.toNat).drop (0:Int).toNat))++([((((qt (v34.getD v36.toNat (qb qa))).1).1:List (Val (.int .i64))),((((qt (v34.getD v36.toNat (qb qa))).1).2).1:Int),((((qt (v34.getD v36.toNat (qb qa))).1).2).2:Bool))]:List (Val qa))))).1).1:Int),(((qZ (v43,v44) (v37,((([]:List (Val qa))++((v40.take v36.toNat).drop (0:Int).toNat))++([((((qt (v34.getD v36.toNat (qb qa))).1).1:List (Val (.int .i64))),((((qt (v34.getD v36.toNat (qb qa))).1).2).1:Int),((((qt (v34.getD v36.toNat (qb qa))).1).2).2:Bool))]:List (Val qa))))).1).2:List (Val qa)))):Bool))then (some (((0:Int),([]:List (Val Y33))),false,()))else (qix N v31 v32 v33 v34 v35 v37 v38 v39 v40 v41 v43 v44 k2 n (IntKind.i64.wrap (v36+(1:Int))) ((qkt (v42,v45) ((((qZ (v43,v44) (v37,((([]:List (Val qa))++((v40.take v36.toNat).drop (0:Int).toNat))++([((((qt (v34.getD v36.toNat (qb qa))).1).1:List (Val (.int .i64))),((((qt (v34.getD v36.toNat (qb qa))).1).2).1:Int),((((qt (v34.getD v36.toNat (qb qa))).1).2).2:Bool))]:List (Val qa))))).1).1:Int),(((qZ (v43,v44) (v37,((([]:List (Val qa))++((v40.take v36.toNat).drop (0:Int).toNat))++([((((qt (v34.getD v36.toNat (qb qa))).1).1:List (Val (.int .i64))),((((qt (v34.getD v36.toNat (qb qa))).1).2).1:Int),((((qt (v34.getD v36.toNat (qb qa))).1).2).2:Bool))]:List (Val qa))))).1).2:List (Val qa)))).1:Int) ((qkt (v42,v45) ((((qZ (v43,v44) (v37,((([]:List (Val qa))++((v40.take v36.toNat).drop (0:Int).toNat))++([((((qt (v34.getD v36.toNat (qb qa))).1).1:List (Val (.int .i64))),((((qt (v34.getD v36.toNat (qb qa))).1).2).1:Int),((((qt (v34.getD v36.toNat (qb qa))).1).2).2:Bool))]:List (Val qa))))).1).1:Int),(((qZ (v43,v44) (v37,((([]:List (Val qa))++((v40.take v36.toNat).drop (0:Int).toNat))++([((((qt (v34.getD v36.toNat (qb qa))).1).1:List (Val (.int .i64))),((((qt (v34.getD v36.toNat (qb qa))).1).2).1:Int),((((qt (v34.getD v36.toNat (qb qa))).1).2).2:Bool))]:List (Val qa))))).1).2:List (Val qa)))).2:List (Val Y33)))))))))))else (k2 v42 v45)
noncomputable def qh4 (N:Nat) (v2:List (Val Y33)) (v3:Int) (v5:Int) (v6:List (Val Y33)) (v7:Int) (v8:List (Val qa)) (v9:Int) (k0:Int→(List (Val Y33))→Option (qc [i50,i4])):Nat→Int→Int→(List (Val Y33))→Option (qc [i50,i4])
 | 0,_,_,_=>none
 | n+1,v4,v10,v11=>bif (decide (v4<v3))then (chk (0≤v4∧v4<(v2.length:Int)) (qix N v2 v3 v4 v8 (v8.length:Int) v5 v6 v7 v8 v9 ((v2.getD v4.toNat (qb Y33)).1:Int) ((v2.getD v4.toNat (qb Y33)).2:List (Val qa)) (fun (v48:Int) (v49:List (Val Y33))=>qh4 N v2 v3 v5 v6 v7 v8 v9 k0 n (IntKind.i64.wrap (v4+(1:Int))) v48 v49) N (0:Int) v10 v11))else (k0 v10 v11)
noncomputable def qEi (N:Nat) (v0:Val Y50) (v1:Val Y33):Option (qc [i50,i4]):=qh4 N (v0.2:List (Val Y33)) ((v0.2:List (Val Y33)).length:Int) (v0.1:Int) (v0.2:List (Val Y33)) (v1.1:Int) (v1.2:List (Val qa)) (0:Int) (fun (v52:Int) (v53:List (Val Y33))=>some ((v52,v53),true,())) N (0:Int) (v0.1:Int) ([]:List (Val Y33))
def qe5:Gam:=[(182,qeD),(221,qeV)]
theorem qwg:Gam.get qe5 182=some qeD:=rfl
theorem quS:Gam.get qe5 221=some qeV:=rfl
theorem qsZ:Gam.get qe5 222=none:=rfl
def qtv:Nm:=⟨[false,false,true,true,true,false,true,false,true,false,false,false,false,false,false,false,false,false,false,false,true,true,true,false,false,false,false,true,true,true],[],true⟩
theorem qvf:qtv.zero=true:=rfl
theorem qxE:qtv.fix=[]:=rfl
theorem qqC:qtv.keep=[false,false,true,true,true,false,true,false,true,false,false,false,false,false,false,false,false,false,false,false,true,true,true,false,false,false,false,true,true,true]:=rfl
def qtb:Nm:=⟨[false,false,true,true,true,false,true,false,false,false,false,false,false,false,false,false,false,false,false,false,true,true,true],[],true⟩
theorem qqQ:qtb.zero=true:=rfl
theorem qsh:qtb.fix=[]:=rfl
theorem quy:qtb.keep=[false,false,true,true,true,false,true,false,false,false,false,false,false,false,false,false,false,false,false,false,true,true,true]:=rfl
def qFm:Nm:=⟨[false,false,false,false,true,false,true],[],true⟩
theorem qs8:qFm.zero=true:=rfl
theorem qsE:qFm.fix=[]:=rfl
theorem qq0:qFm.keep=[false,false,false,false,true,false,true]:=rfl
def qFO:Nm:=⟨[false,false,true,true,true,false,true,false,false,false,false,false,false,false,false,false,false,false,false,false,true,true,true],[],true⟩
theorem qsb:qFO.zero=true:=rfl
theorem qsJ:qFO.fix=[]:=rfl
theorem qye:qFO.keep=[false,false,true,true,true,false,true,false,false,false,false,false,false,false,false,false,false,false,false,false,true,true,true]:=rfl
def qDr:Nm:=⟨[false,false,true,true,true,false,true,false,true,false,false,false,false,true,false,false,false,false,false,false,true,true,true,false,false,false,false,true,true,true],[],true⟩
theorem qyu:qDr.zero=true:=rfl
theorem qp2:qDr.fix=[]:=rfl
theorem qy1:qDr.keep=[false,false,true,true,true,false,true,false,true,false,false,false,false,true,false,false,false,false,false,false,true,true,true,false,false,false,false,true,true,true]:=rfl
def qks:Sem:=qjl [(222,qeP)] []
def qh1:Nat→Tree:=fun i=>if i=11 then .first 5 (.keep 0 (.keep 1 (.keep 3 (.keep 4 (.keep 8 (.pure 6 (.alt 2 (.alt 7 (.alt 9 (.alt 10 (.first 11 (.alt 12 (.alt 13 .done .stop) .stop)) (.alt 12 (.alt 10 (.quiet 11 (.alt 13 .done .stop)) .stop) .stop)) (.alt 12 (.alt 9 (.alt 10 (.quiet 11 (.alt 13 .done .stop)) .stop) .stop) .stop)) (.alt 9 (.alt 7 (.alt 10 (.first 11 (.alt 12 (.alt 13 .done .stop) .stop)) (.alt 12 (.alt 10 (.quiet 11 (.alt 13 .done .stop)) .stop) .stop)) (.alt 12 (.alt 7 (.alt 10 (.quiet 11 (.alt 13 .done .stop)) .stop) .stop) .stop)) (.alt 12 (.alt 7 (.alt 9 (.alt 10 (.quiet 11 (.alt 13 .done .stop)) .stop) .stop) (.alt 9 (.alt 7 (.alt 10 (.quiet 11 (.alt 13 .done .stop)) .stop) .stop) .stop)) .stop))) (.alt 9 (.alt 2 (.alt 7 (.alt 10 (.first 11 (.alt 12 (.alt 13 .done .stop) .stop)) (.alt 12 (.alt 10 (.quiet 11 (.alt 13 .done .stop)) .stop) .stop)) (.alt 12 (.alt 7 (.alt 10 (.quiet 11 (.alt 13 .done .stop)) .stop) .stop) .stop)) (.alt 12 (.alt 2 (.alt 7 (.alt 10 (.quiet 11 (.alt 13 .done .stop)) .stop) .stop) .stop) .stop)) (.alt 12 (.alt 2 (.alt 7 (.alt 9 (.alt 10 (.quiet 11 (.alt 13 .done .stop)) .stop) .stop) (.alt 9 (.alt 7 (.alt 10 (.quiet 11 (.alt 13 .done .stop)) .stop) .stop) .stop)) (.alt 9 (.alt 2 (.alt 7 (.alt 10 (.quiet 11 (.alt 13 .done .stop)) .stop) .stop) .stop) .stop)) .stop)))))))))else .done
def qjO:Nat→Nm:=fun i=>if i=6 then qtv else if i=3 then qtb else ⟨[],[],false⟩
def qkP:Nat→Option Jn:=fun _=>none
def qlK:Nat→Option Nm:=fun i=>if i=0 then some qFm else if i=2 then some qFO else none
def qjz:Nat→Option Nm:=fun i=>if i=11 then some qDr else none
theorem zsB:qh qh1 (Tryz.f139.body.getD .skip)=true:=by kernel_rfl
def qcq (N:Nat):Tab:={tr:=qh1,lp:=qjO,ex:=qlK,rg:=qjz,jn:=qkP,fuel:=N,sem:=qks}
theorem qve (N:Nat):(qcq N).pins=false:=rfl
theorem zrj (N:Nat):qk Tryz.prog (qcq N):=qo fun _=>rfl
theorem qtu (N:Nat):(qcq N).sem=qks:=rfl
theorem qyw (N:Nat) (i:Nat):(qcq N).tr i=qh1 i:=rfl
theorem qyr (N:Nat) (i:Nat):(qcq N).lp i=qjO i:=rfl
theorem qqo (N:Nat) (i:Nat):(qcq N).ex i=qlK i:=rfl
theorem qxd (N:Nat) (i:Nat):(qcq N).rg i=qjz i:=rfl
theorem qvx (N:Nat) (i:Nat):(qcq N).jn i=qkP i:=rfl
theorem qtd (N:Nat):(qcq N).fuel=N:=rfl
noncomputable def q8G:Code:=cut [true,true,false,true,true,true,true,true,false,true,true,true,true,true] (Tryz.f139.body.getD .skip)
theorem zAp {N:Nat} {Q:X→St→Option (qc [i50,i4])} {e:List LV} {h:List Blk}:qf tt qe5 (qcq N) q8G Q ⟨e,h⟩=qf tt qe5 (qcq N) (cut [true,true,false,true,true,true,true,true,false,true,true,true,true,true] (Tryz.f139.body.getD .skip)) Q ⟨e,h⟩:=rfl
theorem zhV (N:Nat) (v31:List (Val Y33)) (v32:Int) (v33:Int) (v34:List (Val qa)) (v35:Int) (v37:Int) (v38:List (Val Y33)) (v39:Int) (v40:List (Val qa)) (v41:Int) (v43:Int) (v44:List (Val qa)) {k2:Int→(List (Val Y33))→Option (qc [i50,i4])} {Q:X→St→Option (qc [i50,i4])} {c:Code} (hc:c=q8G) (hret: ∀st,Q .ret st=qC tt true [i50,i4] [.cell 4 50,.tmp 5] st) (h2: ∀(v46:Int) (v47:List (Val Y33)),Q (.exit 2) ⟨[u,u,.one (.ptr 0 0 0),.one (.ptr 1 0 0),.one (.ptr 2 0 0),u,.one (.ptr 3 0 0),u,u,u,u,u,u,u,u,u,u,u,u,u,.one (.sl 33 Y33 v31 0),.one (.int .i64 v32),.one (.int .i64 v33),u,u,u,u,u,u,u,u,u,u,u,u,u,u,u,u,u,u,u,u,u,u,u,u,u,u,u,u,u,u,u,u,u,u,u,u,u,u,u,u,u,u,u,u,u,u,u,u],[.box [.int .i64 v37,.sl 33 Y33 v38 0],.box [.int .i64 v39,.sl 108 qa v40 0],.box [.int .i64 v41,.nils],.box [.int .i64 v46,.own 4],.row 33 Y33 v47 true true 0]⟩=k2 v46 v47): ∀(n:Nat) (v36:Int) (v42:Int) (v45:List (Val Y33)),qD (qf tt qe5 (qcq N) c) false qtv Q n ⟨[u,u,.one (.ptr 0 0 0),.one (.ptr 1 0 0),.one (.ptr 2 0 0),u,.one (.ptr 3 0 0),u,.one (.ptr 4 0 0),u,u,u,u,u,u,u,u,u,u,u,.one (.sl 33 Y33 v31 0),.one (.int .i64 v32),.one (.int .i64 v33),u,u,u,u,.one (.sl 108 qa v34 0),.one (.int .i64 v35),.one (.int .i64 v36),u,u,u,u,u,u,u,u,u,u,u,u,u,u,u,u,u,u,u,u,u,u,u,u,u,u,u,u,u,u,u,u,u,u,u,u,u,u,u,u,u],[.box [.int .i64 v37,.sl 33 Y33 v38 0],.box [.int .i64 v39,.sl 108 qa v40 0],.box [.int .i64 v41,.nils],.box [.int .i64 v42,.own 5],.box [.int .i64 v43,.sl 108 qa v44 0],.row 33 Y33 v45 true true 0]⟩=qix N v31 v32 v33 v34 v35 v37 v38 v39 v40 v41 v43 v44 k2 n v36 v42 v45:=by
 subst hc;intro n;induction n with
 | zero=>intros;rfl
 | succ n ih=>
   intro v36 v42 v45
   rw [qN,zAp,qix];unfold Tryz.f139
   simp (maxSteps:=10000000) -implicitDefEqProofs [qyw,qh1,qyr,qjO,qqo,qlK,qxd,qjz,qvx,qkP,qtd,qve,qtu,qks,qaa,qsZ,qeP,qxE,qqC,qvf,qsh,quy,qqQ,qsE,qq0,qs8,qsJ,qye,qsb,qp2,qy1,qyu,qwg,quS,qeD,qeV,hret,h2,ih]
noncomputable def q5v:Code:=cut [true,true,false,true,true,true] (Tryz.f139.body.getD .skip)
theorem zek {N:Nat} {Q:X→St→Option (qc [i50,i4])} {e:List LV} {h:List Blk}:qf tt qe5 (qcq N) q5v Q ⟨e,h⟩=qf tt qe5 (qcq N) (cut [true,true,false,true,true,true] (Tryz.f139.body.getD .skip)) Q ⟨e,h⟩:=rfl
theorem zbr (N:Nat) (v2:List (Val Y33)) (v3:Int) (v5:Int) (v6:List (Val Y33)) (v7:Int) (v8:List (Val qa)) (v9:Int) {k0:Int→(List (Val Y33))→Option (qc [i50,i4])} {Q:X→St→Option (qc [i50,i4])} {c:Code} (hc:c=q5v) (hret: ∀st,Q .ret st=qC tt true [i50,i4] [.cell 4 50,.tmp 5] st) (h0: ∀(v50:Int) (v51:List (Val Y33)),Q (.exit 0) ⟨[u,u,u,u,.one (.ptr 0 0 0),u,.one (.ptr 1 0 0),u,u,u,u,u,u,u,u,u,u,u,u,u,u,u,u,u,u,u,u,u,u,u,u,u,u,u,u,u,u,u,u,u,u,u,u,u,u,u,u,u,u,u,u,u,u,u,u,u,u,u,u,u,u,u,u,u,u,u,u,u,u,u,u],[.box [.int .i64 v9,.nils],.box [.int .i64 v50,.own 2],.row 33 Y33 v51 true true 0]⟩=k0 v50 v51): ∀(n:Nat) (v4:Int) (v10:Int) (v11:List (Val Y33)),qD (qf tt qe5 (qcq N) c) false qtb Q n ⟨[u,u,.one (.ptr 0 0 0),.one (.ptr 1 0 0),.one (.ptr 2 0 0),u,.one (.ptr 3 0 0),u,u,u,u,u,u,u,u,u,u,u,u,u,.one (.sl 33 Y33 v2 0),.one (.int .i64 v3),.one (.int .i64 v4),u,u,u,u,u,u,u,u,u,u,u,u,u,u,u,u,u,u,u,u,u,u,u,u,u,u,u,u,u,u,u,u,u,u,u,u,u,u,u,u,u,u,u,u,u,u,u,u],[.box [.int .i64 v5,.sl 33 Y33 v6 0],.box [.int .i64 v7,.sl 108 qa v8 0],.box [.int .i64 v9,.nils],.box [.int .i64 v10,.own 4],.row 33 Y33 v11 true true 0]⟩=qh4 N v2 v3 v5 v6 v7 v8 v9 k0 n v4 v10 v11:=by
 subst hc;intro n;induction n with
 | zero=>intros;rfl
 | succ n ih=>
   intro v4 v10 v11
   rw [qN,zek];unfold Tryz.f139
   simp (maxSteps:=10000000) -implicitDefEqProofs [qyw,qh1,qyr,qjO,qqo,qlK,qxd,qjz,qvx,qkP,qtd,qve,qtu,qks,qaa,qsZ,qeP,qxE,qqC,qvf,qsh,quy,qqQ,qsE,qq0,qs8,qsJ,qye,qsb,qp2,qy1,qyu,qwg,quS,qeD,qeV,hret,h0,ih]
   rewrite [zhV (k2:=(fun (v48:Int) (v49:List (Val Y33))=>qh4 N v2 v3 v5 v6 v7 v8 v9 k0 n (IntKind.i64.wrap (v4+(1:Int))) v48 v49)) N _ _ _ _ _ _ _ _ _ _ _ _ ?_ ?_ ?_]
   ·rewrite [qh4];first | rfl | simp (maxSteps:=10000000) -implicitDefEqProofs [ih]
   ·rfl
   ·intro;simp only [qK,qL,qJ,qB,hret]
   ·intro v48 v49;simp (maxSteps:=10000000) -implicitDefEqProofs [qyw,qh1,qyr,qjO,qqo,qlK,qxd,qjz,qvx,qkP,qtd,qve,qtu,qks,qaa,qsZ,qeP,qxE,qqC,qvf,qsh,quy,qqQ,qsE,qq0,qs8,qsJ,qye,qsb,qp2,qy1,qyu,qwg,quS,qeD,qeV,hret,h0,ih]
theorem zvb (N:Nat) (v0:Val Y50) (v1:Val Y33):qf tt qe5 (qcq N) (Tryz.f139.body.getD .skip) (qm tt true [i50,i4] [.cell 4 50,.tmp 5]) (qp [i50,i33] 71 (v0,v1,()))=qEi N v0 v1:=by
 unfold Tryz.f139
 simp (maxSteps:=10000000) -implicitDefEqProofs [qyw,qh1,qyr,qjO,qqo,qlK,qxd,qjz,qvx,qkP,qtd,qve,qtu,qks,qaa,qsZ,qeP,qxE,qqC,qvf,qsh,quy,qqQ,qsE,qq0,qs8,qsJ,qye,qsb,qp2,qy1,qyu,qwg,quS,qeD,qeV]
 rewrite [zbr (k0:=(fun (v52:Int) (v53:List (Val Y33))=>some ((v52,v53),true,()))) N _ _ _ _ _ _ _ ?_ ?_ ?_]
 ·rewrite [qEi];first | rfl | simp (maxSteps:=10000000) -implicitDefEqProofs []
 ·rfl
 ·intro;simp only [qK,qL,qJ,qB]
 ·intro v52 v53;simp (maxSteps:=10000000) -implicitDefEqProofs [qyw,qh1,qyr,qjO,qqo,qlK,qxd,qjz,qvx,qkP,qtd,qve,qtu,qks,qaa,qsZ,qeP,qxE,qqC,qvf,qsh,quy,qqQ,qsE,qq0,qs8,qsJ,qye,qsb,qp2,qy1,qyu,qwg,quS,qeD,qeV]
def qdC (r:Val Y50) (c:Val Y33):Val Y50×Bool:=bif (qaj (qv c.1 c.2)).2 then qbL r (qaj (qv c.1 c.2)).1 else qa5
def qDs (r:Val Y50) (c:Val Y33):Prop:=q7 r=true∧qz c=true∧(c.1:Int)=(r.1:Int)
def qoM:G:={ps:=[i50,i33],rs:=[i50,i4],dp:=false,pre:=fun x=>qDs x.1 x.2.1,fn:=fun x=>((qdC x.1 x.2.1).1,(qdC x.1 x.2.1).2,())}
noncomputable def qi4 (N:Nat) (v23:Int) (v25:Int) (v26:List (Val Y33)) (v27:Int) (v28:Int) (v31:List (Val qa)) (k2:Int→(List (Val Y33))→Option (qc [i50,i4])):Nat→Int→Int→(List (Val Y33))→Option (qc [i50,i4])
 | 0,_,_,_=>none
 | n+1,v24,v29,v30=>bif (decide (v24<(v31.length:Int)))then (chk (0≤v24∧v24<(v31.length:Int)) (chk (v24.toNat<v31.length) (chk (qoI (v31.getD v24.toNat (qb qa))) (chk (0≤(0:Int)∧(0:Int)≤v24∧v24≤(v31.length:Int)) (chk (([]:List (Val qa)).length+((v31.take v24.toNat).drop (0:Int).toNat).length≤1048576) (chk ((([]:List (Val qa))++((v31.take v24.toNat).drop (0:Int).toNat)).length+([((((qt (v31.getD v24.toNat (qb qa))).1).1:List (Val (.int .i64))),((((qt (v31.getD v24.toNat (qb qa))).1).2).1:Int),((((qt (v31.getD v24.toNat (qb qa))).1).2).2:Bool))]:List (Val qa)).length≤1048576) (chk (0≤v23∧v23<(v26.length:Int)) (chk (qnz (v26.getD v23.toNat (qb Y33)) (v25,((([]:List (Val qa))++((v31.take v24.toNat).drop (0:Int).toNat))++([((((qt (v31.getD v24.toNat (qb qa))).1).1:List (Val (.int .i64))),((((qt (v31.getD v24.toNat (qb qa))).1).2).1:Int),((((qt (v31.getD v24.toNat (qb qa))).1).2).2:Bool))]:List (Val qa))))) (bif (!((qZ (v26.getD v23.toNat (qb Y33)) (v25,((([]:List (Val qa))++((v31.take v24.toNat).drop (0:Int).toNat))++([((((qt (v31.getD v24.toNat (qb qa))).1).1:List (Val (.int .i64))),((((qt (v31.getD v24.toNat (qb qa))).1).2).1:Int),((((qt (v31.getD v24.toNat (qb qa))).1).2).2:Bool))]:List (Val qa))))).2:Bool))then (some (((0:Int),([]:List (Val Y33))),false,()))else (chk (qfp (v29,v30) ((qZ (v26.getD v23.toNat (qb Y33)) (v25,((([]:List (Val qa))++((v31.take v24.toNat).drop (0:Int).toNat))++([((((qt (v31.getD v24.toNat (qb qa))).1).1:List (Val (.int .i64))),((((qt (v31.getD v24.toNat (qb qa))).1).2).1:Int),((((qt (v31.getD v24.toNat (qb qa))).1).2).2:Bool))]:List (Val qa))))).1)) (bif (!((qa1 (v29,v30) ((qZ (v26.getD v23.toNat (qb Y33)) (v25,((([]:List (Val qa))++((v31.take v24.toNat).drop (0:Int).toNat))++([((((qt (v31.getD v24.toNat (qb qa))).1).1:List (Val (.int .i64))),((((qt (v31.getD v24.toNat (qb qa))).1).2).1:Int),((((qt (v31.getD v24.toNat (qb qa))).1).2).2:Bool))]:List (Val qa))))).1)).2:Bool))then (some (((0:Int),([]:List (Val Y33))),false,()))else (qi4 N v23 v25 v26 v27 v28 v31 k2 n (IntKind.i64.wrap (v24+(1:Int))) (((qa1 (v29,v30) ((qZ (v26.getD v23.toNat (qb Y33)) (v25,((([]:List (Val qa))++((v31.take v24.toNat).drop (0:Int).toNat))++([((((qt (v31.getD v24.toNat (qb qa))).1).1:List (Val (.int .i64))),((((qt (v31.getD v24.toNat (qb qa))).1).2).1:Int),((((qt (v31.getD v24.toNat (qb qa))).1).2).2:Bool))]:List (Val qa))))).1)).1).1:Int) (((qa1 (v29,v30) ((qZ (v26.getD v23.toNat (qb Y33)) (v25,((([]:List (Val qa))++((v31.take v24.toNat).drop (0:Int).toNat))++([((((qt (v31.getD v24.toNat (qb qa))).1).1:List (Val (.int .i64))),((((qt (v31.getD v24.toNat (qb qa))).1).2).1:Int),((((qt (v31.getD v24.toNat (qb qa))).1).2).2:Bool))]:List (Val qa))))).1)).1).2:List (Val Y33))))))))))))))else (k2 v29 v30)
noncomputable def qif (N:Nat) (v3:Int) (v4:List (Val Y33)) (v5:Int) (v6:Int) (v9:List (Val qa)) (k0:Int→(List (Val Y33))→Option (qc [i50,i4])):Nat→Int→Int→(List (Val Y33))→Option (qc [i50,i4])
 | 0,_,_,_=>none
 | n+1,v2,v7,v8=>bif (decide (v2<(v4.length:Int)))then (qi4 N v2 v3 v4 v5 v6 v9 (fun (v34:Int) (v35:List (Val Y33))=>qif N v3 v4 v5 v6 v9 k0 n (IntKind.i64.wrap (v2+(1:Int))) v34 v35) N (0:Int) v7 v8)else (k0 v7 v8)
noncomputable def qCP (N:Nat) (v0:Val Y50) (v1:Val Y33):Option (qc [i50,i4]):=chk (qaF (v1.1:Int) (v1.2:List (Val qa))) (chk (qne (qv (v1.1:Int) (v1.2:List (Val qa)))) (bif (!((qaj (qv (v1.1:Int) (v1.2:List (Val qa)))).2:Bool))then (some (((0:Int),([]:List (Val Y33))),false,()))else (qif N (v0.1:Int) (v0.2:List (Val Y33)) (0:Int) (((qaj (qv (v1.1:Int) (v1.2:List (Val qa)))).1).1:Int) (((qaj (qv (v1.1:Int) (v1.2:List (Val qa)))).1).2:List (Val qa)) (fun (v38:Int) (v39:List (Val Y33))=>some ((v38,v39),true,())) N (0:Int) (v0.1:Int) ([]:List (Val Y33)))))
def qda:Gam:=[(143,qdM),(150,qai),(178,qe1),(217,qcS),(218,qeZ)]
theorem qqp:Gam.get qda 143=some qdM:=rfl
theorem qsG:Gam.get qda 150=some qai:=rfl
theorem qyK:Gam.get qda 178=some qe1:=rfl
theorem qsQ:Gam.get qda 217=some qcS:=rfl
theorem qwS:Gam.get qda 218=some qeZ:=rfl
def qsS:Nm:=⟨[false,false,true,false,true,false,true,false,true,true,true],[.nsb 8 1 33 Y33,.frb 6 1 108 qa],false⟩
theorem qu4:qsS.zero=false:=rfl
theorem qxA:qsS.fix=[.nsb 8 1 33 Y33,.frb 6 1 108 qa]:=rfl
theorem quV:qsS.keep=[false,false,true,false,true,false,true,false,true,true,true]:=rfl
def qwF:Nm:=⟨[false,false,true,false,true,false,true,false,true,true],[.nsb 8 1 33 Y33,.frb 6 1 108 qa],false⟩
theorem qxT:qwF.zero=false:=rfl
theorem qvk:qwF.fix=[.nsb 8 1 33 Y33,.frb 6 1 108 qa]:=rfl
theorem qqx:qwF.keep=[false,false,true,false,true,false,true,false,true,true]:=rfl
def qCi:Nm:=⟨[false,false,false,false,true,false,false,false,true],[],false⟩
theorem qrz:qCi.zero=false:=rfl
theorem qrI:qCi.fix=[]:=rfl
theorem qtR:qCi.keep=[false,false,false,false,true,false,false,false,true]:=rfl
def qBF:Nm:=⟨[false,false,true,false,true,false,true,false,true,true],[],false⟩
theorem qvD:qBF.zero=false:=rfl
theorem qyE:qBF.fix=[]:=rfl
theorem qp1:qBF.keep=[false,false,true,false,true,false,true,false,true,true]:=rfl
def qGe:Nm:=⟨[false,false,true,false,true,false,true,false,true,true,true,false,false,true],[],false⟩
theorem qur:qGe.zero=false:=rfl
theorem qql:qGe.fix=[]:=rfl
theorem qtr:qGe.keep=[false,false,true,false,true,false,true,false,true,true,true,false,false,true]:=rfl
def qzy:Nm:=⟨[false,false,true,false,true,false,true,false,true,true,true,false,false,false,true,true],[],false⟩
theorem qwp:qzy.zero=false:=rfl
theorem qwY:qzy.fix=[]:=rfl
theorem qwn:qzy.keep=[false,false,true,false,true,false,true,false,true,true,true,false,false,false,true,true]:=rfl
def qiE:Nat→Tree:=fun i=>if i=12 then .first 5 (.keep 0 (.keep 1 (.keep 3 (.keep 4 (.keep 8 (.alt 2 (.alt 6 (.alt 7 (.alt 9 (.alt 10 (.first 11 (.alt 12 (.alt 13 .done .stop) .stop)) (.alt 12 (.alt 10 (.quiet 11 (.alt 13 .done .stop)) .stop) .stop)) (.alt 12 (.alt 9 (.alt 10 (.quiet 11 (.alt 13 .done .stop)) .stop) .stop) .stop)) (.alt 9 (.alt 7 (.alt 10 (.first 11 (.alt 12 (.alt 13 .done .stop) .stop)) (.alt 12 (.alt 10 (.quiet 11 (.alt 13 .done .stop)) .stop) .stop)) (.alt 12 (.alt 7 (.alt 10 (.quiet 11 (.alt 13 .done .stop)) .stop) .stop) .stop)) (.alt 12 (.alt 7 (.alt 9 (.alt 10 (.quiet 11 (.alt 13 .done .stop)) .stop) .stop) (.alt 9 (.alt 7 (.alt 10 (.quiet 11 (.alt 13 .done .stop)) .stop) .stop) .stop)) .stop))) (.alt 9 (.alt 6 (.alt 7 (.alt 10 (.first 11 (.alt 12 (.alt 13 .done .stop) .stop)) (.alt 12 (.alt 10 (.quiet 11 (.alt 13 .done .stop)) .stop) .stop)) (.alt 12 (.alt 7 (.alt 10 (.quiet 11 (.alt 13 .done .stop)) .stop) .stop) .stop)) (.alt 12 (.alt 6 (.alt 7 (.alt 10 (.quiet 11 (.alt 13 .done .stop)) .stop) .stop) .stop) .stop)) (.alt 12 (.alt 6 (.alt 7 (.alt 9 (.alt 10 (.quiet 11 (.alt 13 .done .stop)) .stop) .stop) (.alt 9 (.alt 7 (.alt 10 (.quiet 11 (.alt 13 .done .stop)) .stop) .stop) .stop)) (.alt 9 (.alt 6 (.alt 7 (.alt 10 (.quiet 11 (.alt 13 .done .stop)) .stop) .stop) .stop) .stop)) .stop))) (.alt 6 (.alt 2 (.alt 7 (.alt 9 (.alt 10 (.first 11 (.alt 12 (.alt 13 .done .stop) .stop)) (.alt 12 (.alt 10 (.quiet 11 (.alt 13 .done .stop)) .stop) .stop)) (.alt 12 (.alt 9 (.alt 10 (.quiet 11 (.alt 13 .done .stop)) .stop) .stop) .stop)) (.alt 9 (.alt 7 (.alt 10 (.first 11 (.alt 12 (.alt 13 .done .stop) .stop)) (.alt 12 (.alt 10 (.quiet 11 (.alt 13 .done .stop)) .stop) .stop)) (.alt 12 (.alt 7 (.alt 10 (.quiet 11 (.alt 13 .done .stop)) .stop) .stop) .stop)) (.alt 12 (.alt 7 (.alt 9 (.alt 10 (.quiet 11 (.alt 13 .done .stop)) .stop) .stop) (.alt 9 (.alt 7 (.alt 10 (.quiet 11 (.alt 13 .done .stop)) .stop) .stop) .stop)) .stop))) (.alt 9 (.alt 2 (.alt 7 (.alt 10 (.first 11 (.alt 12 (.alt 13 .done .stop) .stop)) (.alt 12 (.alt 10 (.quiet 11 (.alt 13 .done .stop)) .stop) .stop)) (.alt 12 (.alt 7 (.alt 10 (.quiet 11 (.alt 13 .done .stop)) .stop) .stop) .stop)) (.alt 12 (.alt 2 (.alt 7 (.alt 10 (.quiet 11 (.alt 13 .done .stop)) .stop) .stop) .stop) .stop)) (.alt 12 (.alt 2 (.alt 7 (.alt 9 (.alt 10 (.quiet 11 (.alt 13 .done .stop)) .stop) .stop) (.alt 9 (.alt 7 (.alt 10 (.quiet 11 (.alt 13 .done .stop)) .stop) .stop) .stop)) (.alt 9 (.alt 2 (.alt 7 (.alt 10 (.quiet 11 (.alt 13 .done .stop)) .stop) .stop) .stop) .stop)) .stop))) (.alt 9 (.alt 2 (.alt 6 (.alt 7 (.alt 10 (.first 11 (.alt 12 (.alt 13 .done .stop) .stop)) (.alt 12 (.alt 10 (.quiet 11 (.alt 13 .done .stop)) .stop) .stop)) (.alt 12 (.alt 7 (.alt 10 (.quiet 11 (.alt 13 .done .stop)) .stop) .stop) .stop)) (.alt 12 (.alt 6 (.alt 7 (.alt 10 (.quiet 11 (.alt 13 .done .stop)) .stop) .stop) .stop) .stop)) (.alt 6 (.alt 2 (.alt 7 (.alt 10 (.first 11 (.alt 12 (.alt 13 .done .stop) .stop)) (.alt 12 (.alt 10 (.quiet 11 (.alt 13 .done .stop)) .stop) .stop)) (.alt 12 (.alt 7 (.alt 10 (.quiet 11 (.alt 13 .done .stop)) .stop) .stop) .stop)) (.alt 12 (.alt 2 (.alt 7 (.alt 10 (.quiet 11 (.alt 13 .done .stop)) .stop) .stop) .stop) .stop)) (.alt 12 (.alt 2 (.alt 6 (.alt 7 (.alt 10 (.quiet 11 (.alt 13 .done .stop)) .stop) .stop) .stop) (.alt 6 (.alt 2 (.alt 7 (.alt 10 (.quiet 11 (.alt 13 .done .stop)) .stop) .stop) .stop) .stop)) .stop))) (.alt 12 (.alt 2 (.alt 6 (.alt 7 (.alt 9 (.alt 10 (.quiet 11 (.alt 13 .done .stop)) .stop) .stop) (.alt 9 (.alt 7 (.alt 10 (.quiet 11 (.alt 13 .done .stop)) .stop) .stop) .stop)) (.alt 9 (.alt 6 (.alt 7 (.alt 10 (.quiet 11 (.alt 13 .done .stop)) .stop) .stop) .stop) .stop)) (.alt 6 (.alt 2 (.alt 7 (.alt 9 (.alt 10 (.quiet 11 (.alt 13 .done .stop)) .stop) .stop) (.alt 9 (.alt 7 (.alt 10 (.quiet 11 (.alt 13 .done .stop)) .stop) .stop) .stop)) (.alt 9 (.alt 2 (.alt 7 (.alt 10 (.quiet 11 (.alt 13 .done .stop)) .stop) .stop) .stop) .stop)) (.alt 9 (.alt 2 (.alt 6 (.alt 7 (.alt 10 (.quiet 11 (.alt 13 .done .stop)) .stop) .stop) .stop) (.alt 6 (.alt 2 (.alt 7 (.alt 10 (.quiet 11 (.alt 13 .done .stop)) .stop) .stop) .stop) .stop)) .stop))) .stop)))))))))else if i=13 then .first 2 (.grow 0 (.grow 1 (.grow 3 (.grow 4 (.grow 5 (.alt 6 (.first 7 (.first 8 (.first 9 (.alt 10 (.alt 11 (.quiet 12 .done) .stop) .stop)))) (.alt 10 (.alt 6 (.quiet 7 (.quiet 8 (.first 9 (.alt 11 (.quiet 12 .done) .stop)))) .stop) .stop)))))))else .done
def qlc:Nat→Nm:=fun i=>if i=9 then qsS else if i=6 then qwF else ⟨[],[],false⟩
def qlN:Nat→Option Jn:=fun _=>none
def qj3:Nat→Option Nm:=fun i=>if i=0 then some qCi else if i=2 then some qBF else none
def qkb:Nat→Option Nm:=fun i=>if i=12 then some qGe else if i=13 then some qzy else none
theorem zja:qh qiE (Tryz.f137.body.getD .skip)=true:=by kernel_rfl
def qcw (N:Nat):Tab:={tr:=qiE,lp:=qlc,ex:=qj3,rg:=qkb,jn:=qlN,fuel:=N}
theorem qxq (N:Nat):(qcw N).pins=false:=rfl
theorem ztg (N:Nat):qk Tryz.prog (qcw N):=qo fun _=>rfl
theorem qv2 (N:Nat) (i:Nat):(qcw N).tr i=qiE i:=rfl
theorem qyT (N:Nat) (i:Nat):(qcw N).lp i=qlc i:=rfl
theorem qvj (N:Nat) (i:Nat):(qcw N).ex i=qj3 i:=rfl
theorem quf (N:Nat) (i:Nat):(qcw N).rg i=qkb i:=rfl
theorem qut (N:Nat) (i:Nat):(qcw N).jn i=qlN i:=rfl
theorem qpQ (N:Nat):(qcw N).fuel=N:=rfl
noncomputable def q69:Code:=cut [true,true,true,true,false,true,true,true,true,false,true,true,true,true] (Tryz.f137.body.getD .skip)
theorem zd9 {N:Nat} {Q:X→St→Option (qc [i50,i4])} {e:List LV} {h:List Blk}:qf tt qda (qcw N) q69 Q ⟨e,h⟩=qf tt qda (qcw N) (cut [true,true,true,true,false,true,true,true,true,false,true,true,true,true] (Tryz.f137.body.getD .skip)) Q ⟨e,h⟩:=rfl
theorem zgj (N:Nat) (v23:Int) (v25:Int) (v26:List (Val Y33)) (v27:Int) (v28:Int) (v31:List (Val qa)) {k2:Int→(List (Val Y33))→Option (qc [i50,i4])} {Q:X→St→Option (qc [i50,i4])} {c:Code} (hc:c=q69) (hret: ∀st,Q .ret st=qC tt false [i50,i4] [.cell 4 50,.tmp 5] st) (h2: ∀(v32:Int) (v33:List (Val Y33)),Q (.exit 2) ⟨[u,u,.one (.ptr 0 0 0),u,.one (.ptr 1 0 0),u,.one (.ptr 2 0 0),u,.one (.ptr 3 0 0),.one (.int .i64 v23),u,u,u,u,u,u,u,u,u,u,u,u,u,u,u,u,u,u,u,u,u,u,u,u,u,u,u,u,u,u,u,u,u,u,u,u,u,u,u,u,u,u,u,u,u,u,u,u,u,u,u,u,u,u,u,u,u,u,u,u,u,u,u,u,u,u,u,u,u,u,u,u,u,u,u,u,u,u,u,u,u,u],[.box [.int .i64 v25,.sl 33 Y33 v26 5],.box [.int .i64 v27,.nils],.box [.int .i64 v28,.own 4],.box [.int .i64 v32,.sl 33 Y33 v33 5],.row 108 qa v31 true false 0]⟩=k2 v32 v33): ∀(n:Nat) (v24:Int) (v29:Int) (v30:List (Val Y33)),qD (qf tt qda (qcw N) c) false qsS Q n ⟨[u,u,.one (.ptr 0 0 0),u,.one (.ptr 1 0 0),u,.one (.ptr 2 0 0),u,.one (.ptr 3 0 0),.one (.int .i64 v23),.one (.int .i64 v24),u,u,u,u,u,u,u,u,u,u,u,u,u,u,u,u,u,u,u,u,u,u,u,u,u,u,u,u,u,u,u,u,u,u,u,u,u,u,u,u,u,u,u,u,u,u,u,u,u,u,u,u,u,u,u,u,u,u,u,u,u,u,u,u,u,u,u,u,u,u,u,u,u,u,u,u,u,u,u,u,u],[.box [.int .i64 v25,.sl 33 Y33 v26 5],.box [.int .i64 v27,.nils],.box [.int .i64 v28,.own 4],.box [.int .i64 v29,.sl 33 Y33 v30 5],.row 108 qa v31 true false 0]⟩=qi4 N v23 v25 v26 v27 v28 v31 k2 n v24 v29 v30:=by
 subst hc;intro n;induction n with
 | zero=>intros;rfl
 | succ n ih=>
   intro v24 v29 v30
   rw [qN,zd9,qi4];unfold Tryz.f137
   simp (maxSteps:=10000000) -implicitDefEqProofs [qv2,qiE,qyT,qlc,qvj,qj3,quf,qkb,qut,qlN,qpQ,qxq,qxA,quV,qu4,qvk,qqx,qxT,qrI,qtR,qrz,qyE,qp1,qvD,qql,qtr,qur,qwY,qwn,qwp,qqp,qsG,qyK,qsQ,qwS,qdM,qai,qe1,qcS,qeZ,hret,h2,ih]
noncomputable def q79:Code:=cut [true,true,true,true,false,true,true,true] (Tryz.f137.body.getD .skip)
theorem zoo {N:Nat} {Q:X→St→Option (qc [i50,i4])} {e:List LV} {h:List Blk}:qf tt qda (qcw N) q79 Q ⟨e,h⟩=qf tt qda (qcw N) (cut [true,true,true,true,false,true,true,true] (Tryz.f137.body.getD .skip)) Q ⟨e,h⟩:=rfl
theorem zmS (N:Nat) (v3:Int) (v4:List (Val Y33)) (v5:Int) (v6:Int) (v9:List (Val qa)) {k0:Int→(List (Val Y33))→Option (qc [i50,i4])} {Q:X→St→Option (qc [i50,i4])} {c:Code} (hc:c=q79) (hret: ∀st,Q .ret st=qC tt false [i50,i4] [.cell 4 50,.tmp 5] st) (h0: ∀(v36:Int) (v37:List (Val Y33)),Q (.exit 0) ⟨[u,u,u,u,.one (.ptr 0 0 0),u,u,u,.one (.ptr 1 0 0),u,u,u,u,u,u,u,u,u,u,u,u,u,u,u,u,u,u,u,u,u,u,u,u,u,u,u,u,u,u,u,u,u,u,u,u,u,u,u,u,u,u,u,u,u,u,u,u,u,u,u,u,u,u,u,u,u,u,u,u,u,u,u,u,u,u,u,u,u,u,u,u,u,u,u,u,u,u,u,u,u,u,u],[.box [.int .i64 v5,.nils],.box [.int .i64 v36,.sl 33 Y33 v37 2]]⟩=k0 v36 v37): ∀(n:Nat) (v2:Int) (v7:Int) (v8:List (Val Y33)),qD (qf tt qda (qcw N) c) false qwF Q n ⟨[u,u,.one (.ptr 0 0 0),u,.one (.ptr 1 0 0),u,.one (.ptr 2 0 0),u,.one (.ptr 3 0 0),.one (.int .i64 v2),u,u,u,u,u,u,u,u,u,u,u,u,u,u,u,u,u,u,u,u,u,u,u,u,u,u,u,u,u,u,u,u,u,u,u,u,u,u,u,u,u,u,u,u,u,u,u,u,u,u,u,u,u,u,u,u,u,u,u,u,u,u,u,u,u,u,u,u,u,u,u,u,u,u,u,u,u,u,u,u,u,u],[.box [.int .i64 v3,.sl 33 Y33 v4 5],.box [.int .i64 v5,.nils],.box [.int .i64 v6,.own 4],.box [.int .i64 v7,.sl 33 Y33 v8 5],.row 108 qa v9 true false 0]⟩=qif N v3 v4 v5 v6 v9 k0 n v2 v7 v8:=by
 subst hc;intro n;induction n with
 | zero=>intros;rfl
 | succ n ih=>
   intro v2 v7 v8
   rw [qN,zoo];unfold Tryz.f137
   simp (maxSteps:=10000000) -implicitDefEqProofs [qv2,qiE,qyT,qlc,qvj,qj3,quf,qkb,qut,qlN,qpQ,qxq,qxA,quV,qu4,qvk,qqx,qxT,qrI,qtR,qrz,qyE,qp1,qvD,qql,qtr,qur,qwY,qwn,qwp,qqp,qsG,qyK,qsQ,qwS,qdM,qai,qe1,qcS,qeZ,hret,h0,ih]
   rewrite [zgj (k2:=(fun (v34:Int) (v35:List (Val Y33))=>qif N v3 v4 v5 v6 v9 k0 n (IntKind.i64.wrap (v2+(1:Int))) v34 v35)) N _ _ _ _ _ _ ?_ ?_ ?_]
   ·rewrite [qif];first | rfl | simp (maxSteps:=10000000) -implicitDefEqProofs [ih]
   ·rfl
   ·intro;simp only [qK,qL,qJ,qB,hret]
   ·intro v34 v35;simp (maxSteps:=10000000) -implicitDefEqProofs [qv2,qiE,qyT,qlc,qvj,qj3,quf,qkb,qut,qlN,qpQ,qxq,qxA,quV,qu4,qvk,qqx,qxT,qrI,qtR,qrz,qyE,qp1,qvD,qql,qtr,qur,qwY,qwn,qwp,qqp,qsG,qyK,qsQ,qwS,qdM,qai,qe1,qcS,qeZ,hret,h0,ih]
theorem zlS (N:Nat) (v0:Val Y50) (v1:Val Y33):qf tt qda (qcw N) (Tryz.f137.body.getD .skip) (qm tt false [i50,i4] [.cell 4 50,.tmp 5]) (qp [i50,i33] 92 (v0,v1,()))=qCP N v0 v1:=by
 unfold Tryz.f137
 simp (maxSteps:=10000000) -implicitDefEqProofs [qv2,qiE,qyT,qlc,qvj,qj3,quf,qkb,qut,qlN,qpQ,qxq,qxA,quV,qu4,qvk,qqx,qxT,qrI,qtR,qrz,qyE,qp1,qvD,qql,qtr,qur,qwY,qwn,qwp,qqp,qsG,qyK,qsQ,qwS,qdM,qai,qe1,qcS,qeZ]
 rewrite [zmS (k0:=(fun (v38:Int) (v39:List (Val Y33))=>some ((v38,v39),true,()))) N _ _ _ _ _ ?_ ?_ ?_]
 ·rewrite [qCP];first | rfl | simp (maxSteps:=10000000) -implicitDefEqProofs []
 ·rfl
 ·intro;simp only [qK,qL,qJ,qB]
 ·intro v38 v39;simp (maxSteps:=10000000) -implicitDefEqProofs [qv2,qiE,qyT,qlc,qvj,qj3,quf,qkb,qut,qlN,qpQ,qxq,qxA,quV,qu4,qvk,qqx,qxT,qrI,qtR,qrz,qyE,qp1,qvD,qql,qtr,qur,qwY,qwn,qwp,qqp,qsG,qyK,qsQ,qwS,qdM,qai,qe1,qcS,qeZ]
end Go.T
