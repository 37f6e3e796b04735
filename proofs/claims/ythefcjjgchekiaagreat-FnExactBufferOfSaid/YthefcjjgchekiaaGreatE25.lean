/- Regions widened. Run. -/
import Derived.Test.YthefcjjgchekiaaGreatE7w
import Derived.Test.YthefcjjgchekiaaGreatE9
import Derived.Test.YthefcjjgchekiaaGreatB21
set_option linter.unusedSimpArgs false
set_option linter.unusedVariables false
namespace Go.T
open Go Go.Proofs
set_option maxHeartbeats 4000000
set_option maxRecDepth 100000
def qbv (n:Int) (a:Val qa):Val qa:=(List.replicate n.toNat (0:Int)++(a.1:List Int),a.2)
def qqR (n i s e:Int):List (Val (.int .i64)):=((List.replicate (2*n).toNat (0:Int)).set i.toNat (s*e)).set (n+i).toNat (-s*e)
def qaq (n i s:Int) (d:Val Y28):Val qa×Bool:=qh (qqR n i s d.2) (-(d.1:Int)) false
def qej (n i:Int) (d:Val Y28) (l:List (Val qa)):Option (List (Val qa)):=bif (qaq n i 1 d).2 then (bif (qaq n i (-1) d).2 then some (l++[(qaq n i 1 d).1]++[(qaq n i (-1) d).1])else none)else none
def qcd (n:Int) (d:Val Y28):Nat→Nat→List (Val qa)→Option (List (Val qa))
 | 0,_,l=>some l
 | k+1,i,l=>match qej n i d l with
   | some l'=>qcd n d k (i+1) l'
   | none=>none
def qce (n:Int):Nat→Val Y33→Option (Val Y33)
 | 0,x=>some x
 | k+1,x=>bif (qR x (n+k)).2 then qce n k (qR x (n+k)).1 else none
def qbP (n:Int) (a:Val qa):Val qa:=(List.take n.toNat (a.1:List Int),a.2)
def qbX (c:Val Y33) (d:Val Y28):Val Y33×Bool:=match qcd c.1 d (c.1:Int).toNat 0 (List.map (α:=Val qa) (qbv c.1) c.2)with
 | none=>qb7
 | some l=>bif decide ((16:Int)<(l.length:Int))then qb7 else match qce c.1 (c.1:Int).toNat (qm (2*(c.1:Int)) l)with
   | none=>qb7
   | some x=>((c.1,List.map (α:=Val qa) (qbP c.1) x.2),true)
def qjz (c:Val Y33) (d:Val Y28):Prop:=qD c=true∧(1≤(c.1:Int)∧(c.1:Int)≤2)∧qaQ d=true
def qwg:G:={ps:=[i33,i28],rs:=[i33,i4],dp:=true,pre:=fun x=>qjz x.1 x.2.1,fn:=fun x=>((qbX x.1 x.2.1).1,(qbX x.1 x.2.1).2,())}
noncomputable def qiu (N:Nat) (v2:Int) (v3:List (Val qa)) (v4:Int) (v6:Int) (v7:Int) (v8:Int) (v9:Int) (k0:(List (Val qa))→Option (qb [i33,i4])):Nat→Int→(List (Val qa))→Option (qb [i33,i4])
 | 0,_,_=>none
 | n+1,v5,v10=>bif (decide (v5<v4))then (chk (0≤v5∧v5<(v3.length:Int)) (chk (qa3 (v3.getD v5.toNat (qc qa))) (chk (0≤v2∧v2≤v2∧v2≤1048576) (chk ((List.replicate v2.toNat (qc (.int .i64))).length+((idA (v3.getD v5.toNat (qc qa))).1:List (Val (.int .i64))).length≤1048576) (chk (v10.length+([(((List.replicate v2.toNat (qc (.int .i64)))++((idA (v3.getD v5.toNat (qc qa))).1:List (Val (.int .i64)))),(((idA (v3.getD v5.toNat (qc qa))).2).1:Int),(((idA (v3.getD v5.toNat (qc qa))).2).2:Bool))]:List (Val qa)).length≤1048576) (qiu N v2 v3 v4 v6 v7 v8 v9 k0 n (IntKind.i64.wrap (v5+(1:Int))) (v10++([(((List.replicate v2.toNat (qc (.int .i64)))++((idA (v3.getD v5.toNat (qc qa))).1:List (Val (.int .i64)))),(((idA (v3.getD v5.toNat (qc qa))).2).1:Int),(((idA (v3.getD v5.toNat (qc qa))).2).2:Bool))]:List (Val qa)))))))))else (k0 v10)
noncomputable def qgr (N:Nat) (v32:Int) (v33:Int) (v34:Int) (v36:Int) (v37:Int) (v38:Int) (v39:Int) (v40:List (Val (.int .i64))) (k4:(List (Val qa))→Option (qb [i33,i4])):Nat→Int→(List (Val qa))→Option (qb [i33,i4])
 | 0,_,_=>none
 | n+1,v35,v41=>bif (decide (v35<v34))then (chk (0≤v35∧v35<(v40.length:Int)) (chk (v35.toNat<v40.length) (chk (0≤(IntKind.i64.wrap ((2:Int)*v32))∧(IntKind.i64.wrap ((2:Int)*v32))≤(IntKind.i64.wrap ((2:Int)*v32))∧(IntKind.i64.wrap ((2:Int)*v32))≤1048576) (chk (0≤v33∧v33<((List.replicate (IntKind.i64.wrap ((2:Int)*v32)).toNat (qc (.int .i64))).length:Int)) (chk (v33.toNat<(List.replicate (IntKind.i64.wrap ((2:Int)*v32)).toNat (qc (.int .i64))).length) (chk (0≤(IntKind.i64.wrap (v32+v33))∧(IntKind.i64.wrap (v32+v33))<(((List.replicate (IntKind.i64.wrap ((2:Int)*v32)).toNat (qc (.int .i64))).set v33.toNat (IntKind.i64.wrap (((v40.getD v35.toNat (qc (.int .i64))):Int)*v37))).length:Int)) (chk ((IntKind.i64.wrap (v32+v33)).toNat<((List.replicate (IntKind.i64.wrap ((2:Int)*v32)).toNat (qc (.int .i64))).set v33.toNat (IntKind.i64.wrap (((v40.getD v35.toNat (qc (.int .i64))):Int)*v37))).length) (chk (qac (((List.replicate (IntKind.i64.wrap ((2:Int)*v32)).toNat (qc (.int .i64))).set v33.toNat (IntKind.i64.wrap (((v40.getD v35.toNat (qc (.int .i64))):Int)*v37))).set ((IntKind.i64.wrap (v32+v33)).toNat) (IntKind.i64.wrap ((IntKind.i64.wrap (0 - ((v40.getD v35.toNat (qc (.int .i64))):Int)))*v37))) (IntKind.i64.wrap (0 - v36)) false) (bif (!((qh (((List.replicate (IntKind.i64.wrap ((2:Int)*v32)).toNat (qc (.int .i64))).set v33.toNat (IntKind.i64.wrap (((v40.getD v35.toNat (qc (.int .i64))):Int)*v37))).set ((IntKind.i64.wrap (v32+v33)).toNat) (IntKind.i64.wrap ((IntKind.i64.wrap (0 - ((v40.getD v35.toNat (qc (.int .i64))):Int)))*v37))) (IntKind.i64.wrap (0 - v36)) false).2:Bool))then (some (((0:Int),([]:List (Val qa))),false,()))else (chk (v41.length+([((((qh (((List.replicate (IntKind.i64.wrap ((2:Int)*v32)).toNat (qc (.int .i64))).set v33.toNat (IntKind.i64.wrap (((v40.getD v35.toNat (qc (.int .i64))):Int)*v37))).set ((IntKind.i64.wrap (v32+v33)).toNat) (IntKind.i64.wrap ((IntKind.i64.wrap (0 - ((v40.getD v35.toNat (qc (.int .i64))):Int)))*v37))) (IntKind.i64.wrap (0 - v36)) false).1).1:List (Val (.int .i64))),((((qh (((List.replicate (IntKind.i64.wrap ((2:Int)*v32)).toNat (qc (.int .i64))).set v33.toNat (IntKind.i64.wrap (((v40.getD v35.toNat (qc (.int .i64))):Int)*v37))).set ((IntKind.i64.wrap (v32+v33)).toNat) (IntKind.i64.wrap ((IntKind.i64.wrap (0 - ((v40.getD v35.toNat (qc (.int .i64))):Int)))*v37))) (IntKind.i64.wrap (0 - v36)) false).1).2).1:Int),((((qh (((List.replicate (IntKind.i64.wrap ((2:Int)*v32)).toNat (qc (.int .i64))).set v33.toNat (IntKind.i64.wrap (((v40.getD v35.toNat (qc (.int .i64))):Int)*v37))).set ((IntKind.i64.wrap (v32+v33)).toNat) (IntKind.i64.wrap ((IntKind.i64.wrap (0 - ((v40.getD v35.toNat (qc (.int .i64))):Int)))*v37))) (IntKind.i64.wrap (0 - v36)) false).1).2).2:Bool))]:List (Val qa)).length≤1048576) (qgr N v32 v33 v34 v36 v37 v38 v39 v40 k4 n (IntKind.i64.wrap (v35+(1:Int))) (v41++([((((qh (((List.replicate (IntKind.i64.wrap ((2:Int)*v32)).toNat (qc (.int .i64))).set v33.toNat (IntKind.i64.wrap (((v40.getD v35.toNat (qc (.int .i64))):Int)*v37))).set ((IntKind.i64.wrap (v32+v33)).toNat) (IntKind.i64.wrap ((IntKind.i64.wrap (0 - ((v40.getD v35.toNat (qc (.int .i64))):Int)))*v37))) (IntKind.i64.wrap (0 - v36)) false).1).1:List (Val (.int .i64))),((((qh (((List.replicate (IntKind.i64.wrap ((2:Int)*v32)).toNat (qc (.int .i64))).set v33.toNat (IntKind.i64.wrap (((v40.getD v35.toNat (qc (.int .i64))):Int)*v37))).set ((IntKind.i64.wrap (v32+v33)).toNat) (IntKind.i64.wrap ((IntKind.i64.wrap (0 - ((v40.getD v35.toNat (qc (.int .i64))):Int)))*v37))) (IntKind.i64.wrap (0 - v36)) false).1).2).1:Int),((((qh (((List.replicate (IntKind.i64.wrap ((2:Int)*v32)).toNat (qc (.int .i64))).set v33.toNat (IntKind.i64.wrap (((v40.getD v35.toNat (qc (.int .i64))):Int)*v37))).set ((IntKind.i64.wrap (v32+v33)).toNat) (IntKind.i64.wrap ((IntKind.i64.wrap (0 - ((v40.getD v35.toNat (qc (.int .i64))):Int)))*v37))) (IntKind.i64.wrap (0 - v36)) false).1).2).2:Bool))]:List (Val qa))))))))))))))else (k4 v41)
noncomputable def qhK (N:Nat) (v13:Int) (v15:Int) (v16:Int) (v17:Int) (v18:Int) (k2:(List (Val qa))→Option (qb [i33,i4])):Nat→Int→(List (Val qa))→Option (qb [i33,i4])
 | 0,_,_=>none
 | n+1,v14,v19=>bif (decide (v14<v13))then (qgr N v13 v14 (([(1:Int),(-1:Int)]:List (Val (.int .i64))).length:Int) v15 v16 v17 v18 ([(1:Int),(-1:Int)]:List (Val (.int .i64))) (fun (v43:List (Val qa))=>qhK N v13 v15 v16 v17 v18 k2 n (IntKind.i64.wrap (v14+(1:Int))) v43) N (0:Int) v19)else (k2 v19)
noncomputable def qeT (N:Nat) (v46:Int) (v49:Int) (k6:Bool→Int→(List (Val qa))→Option (qb [i33,i4])):Nat→Bool→Int→Int→(List (Val qa))→Option (qb [i33,i4])
 | 0,_,_,_,_=>none
 | n+1,v47,v48,v50,v51=>bif (decide (v46≤v48))then (bif v47 then (qeT N v46 v49 k6 n ((qbZ (v50,v51) v48).2:Bool) (IntKind.i64.wrap (v48 - (1:Int))) (((qbZ (v50,v51) v48).1).1:Int) (((qbZ (v50,v51) v48).1).2:List (Val qa)))else (k6 v47 v50 v51))else (k6 v47 v50 v51)
noncomputable def qe3 (N:Nat) (v58:Int) (v59:Int) (v61:Int) (v62:Int) (v63:List (Val qa)) (k8:(List (Val qa))→Option (qb [i33,i4])):Nat→Int→(List (Val qa))→Option (qb [i33,i4])
 | 0,_,_=>none
 | n+1,v60,v64=>bif (decide (v60<v59))then (chk (0≤v60∧v60<(v63.length:Int)) (chk (v60.toNat<v63.length) (chk (0≤(0:Int)∧(0:Int)≤v58∧v58≤(((v63.getD v60.toNat (qc qa)).1:List (Val (.int .i64))).length:Int)) (chk (qkl ((((v63.getD v60.toNat (qc qa)).1:List (Val (.int .i64))).take v58.toNat).drop (0:Int).toNat)) (chk (v64.length+([(((idL ((((v63.getD v60.toNat (qc qa)).1:List (Val (.int .i64))).take v58.toNat).drop (0:Int).toNat)):List (Val (.int .i64))),(((v63.getD v60.toNat (qc qa)).2).1:Int),(((v63.getD v60.toNat (qc qa)).2).2:Bool))]:List (Val qa)).length≤1048576) (qe3 N v58 v59 v61 v62 v63 k8 n (IntKind.i64.wrap (v60+(1:Int))) (v64++([(((idL ((((v63.getD v60.toNat (qc qa)).1:List (Val (.int .i64))).take v58.toNat).drop (0:Int).toNat)):List (Val (.int .i64))),(((v63.getD v60.toNat (qc qa)).2).1:Int),(((v63.getD v60.toNat (qc qa)).2).2:Bool))]:List (Val qa)))))))))else (k8 v64)
noncomputable def qxn (N:Nat) (v0:Val Y33) (v1:Val Y28):Option (qb [i33,i4]):=qiu N (v0.1:Int) (v0.2:List (Val qa)) ((v0.2:List (Val qa)).length:Int) (v1.1:Int) (v1.2:Int) (0:Int) (IntKind.i64.wrap ((2:Int)*(v0.1:Int))) (fun (v12:List (Val qa))=>qhK N (v0.1:Int) (v1.1:Int) (v1.2:Int) (0:Int) (IntKind.i64.wrap ((2:Int)*(v0.1:Int))) (fun (v45:List (Val qa))=>qeT N (v0.1:Int) (0:Int) (fun (v55:Bool) (v56:Int) (v57:List (Val qa))=>bif (!v55)then (some (((0:Int),([]:List (Val qa))),false,()))else (qe3 N (v0.1:Int) (v57.length:Int) (0:Int) (v0.1:Int) v57 (fun (v66:List (Val qa))=>some (((v0.1:Int),v66),true,())) N (0:Int) ([]:List (Val qa)))) N ((qV ((IntKind.i64.wrap ((2:Int)*(v0.1:Int))),v45)).2:Bool) (IntKind.i64.wrap ((IntKind.i64.wrap ((2:Int)*(v0.1:Int))) - (1:Int))) (((qV ((IntKind.i64.wrap ((2:Int)*(v0.1:Int))),v45)).1).1:Int) (((qV ((IntKind.i64.wrap ((2:Int)*(v0.1:Int))),v45)).1).2:List (Val qa))) N (0:Int) v12) N (0:Int) ([]:List (Val qa))
def qaV:Gam:=[(207,qbk),(215,qaX),(236,qa2),(237,qbe),(238,qbB)]
theorem qfv:Gam.get qaV 207=some qbk:=rfl
theorem qff:Gam.get qaV 215=some qaX:=rfl
theorem qfg:Gam.get qaV 236=some qa2:=rfl
theorem qe4:Gam.get qaV 237=some qbe:=rfl
theorem qfp:Gam.get qaV 238=some qbB:=rfl
def qoN:Nm:=⟨[false,false,false,true,true,false,true,true,false,false,false,false,false,false,false,false,false,false,false,false,false,false,false,false,false,false,false,false,false,true,true,true],[],false⟩
theorem qeR:qoN.zero=false:=rfl
theorem qex:qoN.fix=[]:=rfl
theorem qeD:qoN.keep=[false,false,false,true,true,false,true,true,false,false,false,false,false,false,false,false,false,false,false,false,false,false,false,false,false,false,false,false,false,true,true,true]:=rfl
def qsW:Nm:=⟨[false,false,false,true,true,false,true,true,false,false,false,true,false,false,false,false,false,false,false,false,false,false,false,false,false,false,false,false,false,false,false,false,false,false,false,false,false,false,false,false,false,false,false,false,false,false,false,false,false,false,false,false,false,false,false,true,true,true],[],false⟩
theorem qeX:qsW.zero=false:=rfl
theorem qfe:qsW.fix=[]:=rfl
theorem qeG:qsW.keep=[false,false,false,true,true,false,true,true,false,false,false,true,false,false,false,false,false,false,false,false,false,false,false,false,false,false,false,false,false,false,false,false,false,false,false,false,false,false,false,false,false,false,false,false,false,false,false,false,false,false,false,false,false,false,false,true,true,true]:=rfl
def qtI:Nm:=⟨[false,false,false,true,true,false,true,true,false,false,false,true],[],false⟩
theorem qeC:qtI.zero=false:=rfl
theorem qfs:qtI.fix=[]:=rfl
theorem qez:qtI.keep=[false,false,false,true,true,false,true,true,false,false,false,true]:=rfl
def qoo:Nm:=⟨[false,false,false,false,true,false,true,true,false,false,false,false,false,false,false,false,false,true,true],[],false⟩
theorem qft:qoo.zero=false:=rfl
theorem qeM:qoo.fix=[]:=rfl
theorem qfx:qoo.keep=[false,false,false,false,true,false,true,true,false,false,false,false,false,false,false,false,false,true,true]:=rfl
def qoI:Nm:=⟨[false,false,false,false,true,false,true,false,false,false,false,false,false,false,false,false,false,false,false,true,false,false,false,false,false,false,false,false,false,false,false,false,false,false,false,false,false,false,false,false,false,false,false,false,false,false,false,false,false,false,false,false,false,false,false,false,false,false,false,false,false,false,false,false,false,false,false,false,false,false,false,false,false,false,false,false,false,false,false,false,false,false,false,false,false,false,false,false,false,false,false,false,false,false,false,false,false,false,false,false,false,false,false,false,false,false,false,false,false,false,false,false,false,false,false,false,false,false,false,false,false,false,false,false,false,false,false,false,true,true,true],[],false⟩
theorem qeZ:qoI.zero=false:=rfl
theorem qfm:qoI.fix=[]:=rfl
theorem qfc:qoI.keep=[false,false,false,false,true,false,true,false,false,false,false,false,false,false,false,false,false,false,false,true,false,false,false,false,false,false,false,false,false,false,false,false,false,false,false,false,false,false,false,false,false,false,false,false,false,false,false,false,false,false,false,false,false,false,false,false,false,false,false,false,false,false,false,false,false,false,false,false,false,false,false,false,false,false,false,false,false,false,false,false,false,false,false,false,false,false,false,false,false,false,false,false,false,false,false,false,false,false,false,false,false,false,false,false,false,false,false,false,false,false,false,false,false,false,false,false,false,false,false,false,false,false,false,false,false,false,false,false,true,true,true]:=rfl
def qzZ:Nm:=⟨[false,false,false,true,true,false,true,true],[],false⟩
theorem qfl:qzZ.zero=false:=rfl
theorem qeP:qzZ.fix=[]:=rfl
theorem qe9:qzZ.keep=[false,false,false,true,true,false,true,true]:=rfl
def qAe:Nm:=⟨[false,false,false,false,true,false,true,true],[],false⟩
theorem qe2:qAe.zero=false:=rfl
theorem qeI:qAe.fix=[]:=rfl
theorem qe0:qAe.keep=[false,false,false,false,true,false,true,true]:=rfl
def qu7:Nm:=⟨[false,false,false,true,true,false,true,true,false,false,false,true],[],false⟩
theorem qfB:qu7.zero=false:=rfl
theorem qfz:qu7.fix=[]:=rfl
theorem qfA:qu7.keep=[false,false,false,true,true,false,true,true,false,false,false,true]:=rfl
def qAF:Nm:=⟨[false,false,false,false,true,false,true,true,false,false,false,false,false,false,false,false,false,true],[],false⟩
theorem qfb:qAF.zero=false:=rfl
theorem qeQ:qAF.fix=[]:=rfl
theorem qeY:qAF.keep=[false,false,false,false,true,false,true,true,false,false,false,false,false,false,false,false,false,true]:=rfl
def qy6:Nm:=⟨[false,false,false,false,true,false,false,false,false,false,false,false,false,false,false,false,false,false,false,true],[],false⟩
theorem qfa:qy6.zero=false:=rfl
theorem qeL:qy6.fix=[]:=rfl
theorem qeV:qy6.keep=[false,false,false,false,true,false,false,false,false,false,false,false,false,false,false,false,false,false,false,true]:=rfl
def qxA:Nm:=⟨[false,false,false,true,true,false,true,true,false,false,false,true,false,false,true,false,false,false,false,false,false,false,false,false,false,false,false,false,false,false,false,false,false,false,false,false,false,false,false,false,false,false,false,false,false,false,false,false,false,false,false,false,false,false,false,true,true,true],[],false⟩
theorem qfj:qxA.zero=false:=rfl
theorem qfw:qxA.fix=[]:=rfl
theorem qeJ:qxA.keep=[false,false,false,true,true,false,true,true,false,false,false,true,false,false,true,false,false,false,false,false,false,false,false,false,false,false,false,false,false,false,false,false,false,false,false,false,false,false,false,false,false,false,false,false,false,false,false,false,false,false,false,false,false,false,false,true,true,true]:=rfl
def qcn:Nat→Tree:=fun i=>if i=7 then .quiet 0 (.grow 2 (.grow 3 (.alt 1 (.alt 4 (.quiet 5 (.alt 6 .done .stop)) .stop) .stop)))else if i=17 then .quiet 0 (.quiet 1 (.quiet 6 (.quiet 7 (.quiet 8 (.quiet 9 (.quiet 15 (.first 2 (.first 3 (.first 4 (.first 5 (.first 10 (.first 11 (.alt 12 (.alt 13 (.first 14 (.alt 16 (.quiet 17 (.alt 18 .done .stop)) .stop)) (.alt 16 (.quiet 13 (.quiet 14 (.quiet 17 (.alt 18 .done .stop)))) .stop)) (.alt 16 (.quiet 12 (.quiet 13 (.quiet 14 (.quiet 17 (.alt 18 .done .stop))))) .stop))))))))))))))else .done
def qcT:Nat→Nm:=fun i=>if i=4 then qoN else if i=14 then qsW else if i=11 then qtI else if i=25 then qoo else if i=32 then qoI else ⟨[],[],false⟩
def qd7:Nat→Option Jn:=fun _=>none
def qcI:Nat→Option Nm:=fun i=>if i=0 then some qzZ else if i=2 then some qAe else if i=4 then some qu7 else if i=6 then some qAF else if i=8 then some qy6 else none
def qcU:Nat→Option Nm:=fun i=>if i=17 then some qxA else none
theorem q7e:qj qcn (Tryz.f153.body.getD .skip)=true:=by kernel_rfl
def qaC (N:Nat):Tab:={tr:=qcn,lp:=qcT,ex:=qcI,rg:=qcU,jn:=qd7,fuel:=N}
theorem qe5 (N:Nat):(qaC N).pins=false:=rfl
theorem zcz (N:Nat):qn Tryz.prog (qaC N):=qr fun _=>rfl
theorem qeU (N:Nat) (i:Nat):(qaC N).tr i=qcn i:=rfl
theorem qeF (N:Nat) (i:Nat):(qaC N).lp i=qcT i:=rfl
theorem qeN (N:Nat) (i:Nat):(qaC N).ex i=qcI i:=rfl
theorem qfn (N:Nat) (i:Nat):(qaC N).rg i=qcU i:=rfl
theorem qfi (N:Nat) (i:Nat):(qaC N).jn i=qd7 i:=rfl
theorem qfd (N:Nat):(qaC N).fuel=N:=rfl
noncomputable def qQr:Code:=cut [true,true,true,false,true,true,true] (Tryz.f153.body.getD .skip)
theorem q6S {N:Nat} {Q:X→St→Option (qb [i33,i4])} {e:List LV} {h:List Blk}:qd tt qaV (qaC N) qQr Q ⟨e,h⟩=qd tt qaV (qaC N) (cut [true,true,true,false,true,true,true] (Tryz.f153.body.getD .skip)) Q ⟨e,h⟩:=rfl
theorem zbq (N:Nat) (v2:Int) (v3:List (Val qa)) (v4:Int) (v6:Int) (v7:Int) (v8:Int) (v9:Int) {k0:(List (Val qa))→Option (qb [i33,i4])} {Q:X→St→Option (qb [i33,i4])} {c:Code} (hc:c=qQr) (hret: ∀st,Q .ret st=qB tt true [i33,i4] [.cell 4 33,.tmp 5] st) (h0: ∀(v11:List (Val qa)),Q (.exit 0) ⟨[u,u,u,.one (.ptr 0 0 0),.one (.ptr 1 0 0),u,.one (.int .i64 v2),.one (.ptr 2 0 0),u,u,u,u,u,u,u,u,u,u,u,u,u,u,u,u,u,u,u,u,u,u,u,u,u,u,u,u,u,u,u,u,u,u,u,u,u,u,u,u,u,u,u,u,u,u,u,u,u,u,u,u,u,u,u,u,u,u,u,u,u,u,u,u,u,u,u,u,u,u,u,u,u,u,u,u,u,u,u,u,u,u,u,u,u,u,u,u,u,u,u,u,u,u,u,u,u,u,u,u,u,u,u,u,u,u,u,u,u,u,u,u,u,u,u,u,u,u,u,u,u,u,u,u,u,u,u,u,u,u,u,u,u,u,u,u,u,u,u,u],[.box [.int .i64 v6,.int .i64 v7],.box [.int .i64 v8,.nils],.box [.int .i64 v9,.own 3],.row 108 qa v11 true true 0]⟩=k0 v11): ∀(n:Nat) (v5:Int) (v10:List (Val qa)),qC (qd tt qaV (qaC N) c) false qoN Q n ⟨[u,u,u,.one (.ptr 0 0 0),.one (.ptr 1 0 0),u,.one (.int .i64 v2),.one (.ptr 2 0 0),u,u,u,u,u,u,u,u,u,u,u,u,u,u,u,u,u,u,u,u,u,.one (.sl 108 qa v3 4),.one (.int .i64 v4),.one (.int .i64 v5),u,u,u,u,u,u,u,u,u,u,u,u,u,u,u,u,u,u,u,u,u,u,u,u,u,u,u,u,u,u,u,u,u,u,u,u,u,u,u,u,u,u,u,u,u,u,u,u,u,u,u,u,u,u,u,u,u,u,u,u,u,u,u,u,u,u,u,u,u,u,u,u,u,u,u,u,u,u,u,u,u,u,u,u,u,u,u,u,u,u,u,u,u,u,u,u,u,u,u,u,u,u,u,u,u,u,u,u,u,u,u,u,u,u,u,u],[.box [.int .i64 v6,.int .i64 v7],.box [.int .i64 v8,.nils],.box [.int .i64 v9,.own 3],.row 108 qa v10 true true 0]⟩=qiu N v2 v3 v4 v6 v7 v8 v9 k0 n v5 v10:=by
 subst hc;intro n;induction n with
 | zero=>intros;rfl
 | succ n ih=>
   intro v5 v10
   rw [qL,q6S,qiu];unfold Tryz.f153
   simp (maxSteps:=10000000) -implicitDefEqProofs [qeU,qcn,qeF,qcT,qeN,qcI,qfn,qcU,qfi,qd7,qfd,qe5,qex,qeD,qeR,qfe,qeG,qeX,qfs,qez,qeC,qeM,qfx,qft,qfm,qfc,qeZ,qeP,qe9,qfl,qeI,qe0,qe2,qfz,qfA,qfB,qeQ,qeY,qfb,qeL,qeV,qfa,qfw,qeJ,qfj,qfv,qff,qfg,qe4,qfp,qbk,qaX,qa2,qbe,qbB,hret,h0,ih]
noncomputable def qP8:Code:=cut [true,true,true,true,false,true,true,true,true,false,true,true,true,true] (Tryz.f153.body.getD .skip)
theorem q9C {N:Nat} {Q:X→St→Option (qb [i33,i4])} {e:List LV} {h:List Blk}:qd tt qaV (qaC N) qP8 Q ⟨e,h⟩=qd tt qaV (qaC N) (cut [true,true,true,true,false,true,true,true,true,false,true,true,true,true] (Tryz.f153.body.getD .skip)) Q ⟨e,h⟩:=rfl
theorem q1m (N:Nat) (v32:Int) (v33:Int) (v34:Int) (v36:Int) (v37:Int) (v38:Int) (v39:Int) (v40:List (Val (.int .i64))) {k4:(List (Val qa))→Option (qb [i33,i4])} {Q:X→St→Option (qb [i33,i4])} {c:Code} (hc:c=qP8) (hret: ∀st,Q .ret st=qB tt true [i33,i4] [.cell 4 33,.tmp 5] st) (h4: ∀(v42:List (Val qa)),Q (.exit 4) ⟨[u,u,u,.one (.ptr 0 0 0),.one (.ptr 1 0 0),u,.one (.int .i64 v32),.one (.ptr 2 0 0),u,u,u,.one (.int .i64 v33),u,u,u,u,u,u,u,u,u,u,u,u,u,u,u,u,u,u,u,u,u,u,u,u,u,u,u,u,u,u,u,u,u,u,u,u,u,u,u,u,u,u,u,u,u,u,u,u,u,u,u,u,u,u,u,u,u,u,u,u,u,u,u,u,u,u,u,u,u,u,u,u,u,u,u,u,u,u,u,u,u,u,u,u,u,u,u,u,u,u,u,u,u,u,u,u,u,u,u,u,u,u,u,u,u,u,u,u,u,u,u,u,u,u,u,u,u,u,u,u,u,u,u,u,u,u,u,u,u,u,u,u,u,u,u,u],[.box [.int .i64 v36,.int .i64 v37],.box [.int .i64 v38,.nils],.box [.int .i64 v39,.own 3],.row 108 qa v42 true true 0]⟩=k4 v42): ∀(n:Nat) (v35:Int) (v41:List (Val qa)),qC (qd tt qaV (qaC N) c) false qsW Q n ⟨[u,u,u,.one (.ptr 0 0 0),.one (.ptr 1 0 0),u,.one (.int .i64 v32),.one (.ptr 2 0 0),u,u,u,.one (.int .i64 v33),u,u,u,u,u,u,u,u,u,u,u,u,u,u,u,u,u,u,u,u,u,u,u,u,u,u,u,u,u,u,u,u,u,u,u,u,u,u,u,u,u,u,u,.one (.own 3),.one (.int .i64 v34),.one (.int .i64 v35),u,u,u,u,u,u,u,u,u,u,u,u,u,u,u,u,u,u,u,u,u,u,u,u,u,u,u,u,u,u,u,u,u,u,u,u,u,u,u,u,u,u,u,u,u,u,u,u,u,u,u,u,u,u,u,u,u,u,u,u,u,u,u,u,u,u,u,u,u,u,u,u,u,u,u,u,u,u,u,u,u,u,u,u,u,u,u,u,u,u],[.box [.int .i64 v36,.int .i64 v37],.box [.int .i64 v38,.nils],.box [.int .i64 v39,.own 4],.row 3 (.int .i64) v40 true true 0,.row 108 qa v41 true true 0]⟩=qgr N v32 v33 v34 v36 v37 v38 v39 v40 k4 n v35 v41:=by
 subst hc;intro n;induction n with
 | zero=>intros;rfl
 | succ n ih=>
   intro v35 v41
   rw [qL,q9C,qgr];unfold Tryz.f153
   simp (maxSteps:=10000000) -implicitDefEqProofs [qeU,qcn,qeF,qcT,qeN,qcI,qfn,qcU,qfi,qd7,qfd,qe5,qex,qeD,qeR,qfe,qeG,qeX,qfs,qez,qeC,qeM,qfx,qft,qfm,qfc,qeZ,qeP,qe9,qfl,qeI,qe0,qe2,qfz,qfA,qfB,qeQ,qeY,qfb,qeL,qeV,qfa,qfw,qeJ,qfj,qfv,qff,qfg,qe4,qfp,qbk,qaX,qa2,qbe,qbB,hret,h4,ih]
noncomputable def qSu:Code:=cut [true,true,true,true,false,true,true,true] (Tryz.f153.body.getD .skip)
theorem qYU {N:Nat} {Q:X→St→Option (qb [i33,i4])} {e:List LV} {h:List Blk}:qd tt qaV (qaC N) qSu Q ⟨e,h⟩=qd tt qaV (qaC N) (cut [true,true,true,true,false,true,true,true] (Tryz.f153.body.getD .skip)) Q ⟨e,h⟩:=rfl
theorem q3z (N:Nat) (v13:Int) (v15:Int) (v16:Int) (v17:Int) (v18:Int) {k2:(List (Val qa))→Option (qb [i33,i4])} {Q:X→St→Option (qb [i33,i4])} {c:Code} (hc:c=qSu) (hret: ∀st,Q .ret st=qB tt true [i33,i4] [.cell 4 33,.tmp 5] st) (h2: ∀(v44:List (Val qa)),Q (.exit 2) ⟨[u,u,u,u,.one (.ptr 0 0 0),u,.one (.int .i64 v13),.one (.ptr 1 0 0),u,u,u,u,u,u,u,u,u,u,u,u,u,u,u,u,u,u,u,u,u,u,u,u,u,u,u,u,u,u,u,u,u,u,u,u,u,u,u,u,u,u,u,u,u,u,u,u,u,u,u,u,u,u,u,u,u,u,u,u,u,u,u,u,u,u,u,u,u,u,u,u,u,u,u,u,u,u,u,u,u,u,u,u,u,u,u,u,u,u,u,u,u,u,u,u,u,u,u,u,u,u,u,u,u,u,u,u,u,u,u,u,u,u,u,u,u,u,u,u,u,u,u,u,u,u,u,u,u,u,u,u,u,u,u,u,u,u,u,u],[.box [.int .i64 v17,.nils],.box [.int .i64 v18,.own 2],.row 108 qa v44 true true 0]⟩=k2 v44): ∀(n:Nat) (v14:Int) (v19:List (Val qa)),qC (qd tt qaV (qaC N) c) false qtI Q n ⟨[u,u,u,.one (.ptr 0 0 0),.one (.ptr 1 0 0),u,.one (.int .i64 v13),.one (.ptr 2 0 0),u,u,u,.one (.int .i64 v14),u,u,u,u,u,u,u,u,u,u,u,u,u,u,u,u,u,u,u,u,u,u,u,u,u,u,u,u,u,u,u,u,u,u,u,u,u,u,u,u,u,u,u,u,u,u,u,u,u,u,u,u,u,u,u,u,u,u,u,u,u,u,u,u,u,u,u,u,u,u,u,u,u,u,u,u,u,u,u,u,u,u,u,u,u,u,u,u,u,u,u,u,u,u,u,u,u,u,u,u,u,u,u,u,u,u,u,u,u,u,u,u,u,u,u,u,u,u,u,u,u,u,u,u,u,u,u,u,u,u,u,u,u,u,u,u],[.box [.int .i64 v15,.int .i64 v16],.box [.int .i64 v17,.nils],.box [.int .i64 v18,.own 3],.row 108 qa v19 true true 0]⟩=qhK N v13 v15 v16 v17 v18 k2 n v14 v19:=by
 subst hc;intro n;induction n with
 | zero=>intros;rfl
 | succ n ih=>
   intro v14 v19
   rw [qL,qYU];unfold Tryz.f153
   simp (maxSteps:=10000000) -implicitDefEqProofs [qeU,qcn,qeF,qcT,qeN,qcI,qfn,qcU,qfi,qd7,qfd,qe5,qex,qeD,qeR,qfe,qeG,qeX,qfs,qez,qeC,qeM,qfx,qft,qfm,qfc,qeZ,qeP,qe9,qfl,qeI,qe0,qe2,qfz,qfA,qfB,qeQ,qeY,qfb,qeL,qeV,qfa,qfw,qeJ,qfj,qfv,qff,qfg,qe4,qfp,qbk,qaX,qa2,qbe,qbB,hret,h2,ih]
   rewrite [q1m (k4:=(fun (v43:List (Val qa))=>qhK N v13 v15 v16 v17 v18 k2 n (IntKind.i64.wrap (v14+(1:Int))) v43)) N _ _ _ _ _ _ _ _ ?_ ?_ ?_]
   ·rewrite [qhK];first | rfl | simp (maxSteps:=10000000) -implicitDefEqProofs [ih]
   ·rfl
   ·intro;simp only [qK,qI,qJ,qy,hret]
   ·intro v43;simp (maxSteps:=10000000) -implicitDefEqProofs [qeU,qcn,qeF,qcT,qeN,qcI,qfn,qcU,qfi,qd7,qfd,qe5,qex,qeD,qeR,qfe,qeG,qeX,qfs,qez,qeC,qeM,qfx,qft,qfm,qfc,qeZ,qeP,qe9,qfl,qeI,qe0,qe2,qfz,qfA,qfB,qeQ,qeY,qfb,qeL,qeV,qfa,qfw,qeJ,qfj,qfv,qff,qfg,qe4,qfp,qbk,qaX,qa2,qbe,qbB,hret,h2,ih]
noncomputable def qQ3:Code:=cut [true,true,true,true,true,true,false,true,true,true] (Tryz.f153.body.getD .skip)
theorem qZQ {N:Nat} {Q:X→St→Option (qb [i33,i4])} {e:List LV} {h:List Blk}:qd tt qaV (qaC N) qQ3 Q ⟨e,h⟩=qd tt qaV (qaC N) (cut [true,true,true,true,true,true,false,true,true,true] (Tryz.f153.body.getD .skip)) Q ⟨e,h⟩:=rfl
theorem qVp (N:Nat) (v46:Int) (v49:Int) {k6:Bool→Int→(List (Val qa))→Option (qb [i33,i4])} {Q:X→St→Option (qb [i33,i4])} {c:Code} (hc:c=qQ3) (hret: ∀st,Q .ret st=qB tt true [i33,i4] [.cell 4 33,.tmp 5] st) (h6: ∀(v52:Bool) (v53:Int) (v54:List (Val qa)),Q (.exit 6) ⟨[u,u,u,u,.one (.ptr 0 0 0),u,.one (.int .i64 v46),.one (.ptr 1 0 0),u,u,u,u,u,u,u,u,u,.one (.bool v52),u,u,u,u,u,u,u,u,u,u,u,u,u,u,u,u,u,u,u,u,u,u,u,u,u,u,u,u,u,u,u,u,u,u,u,u,u,u,u,u,u,u,u,u,u,u,u,u,u,u,u,u,u,u,u,u,u,u,u,u,u,u,u,u,u,u,u,u,u,u,u,u,u,u,u,u,u,u,u,u,u,u,u,u,u,u,u,u,u,u,u,u,u,u,u,u,u,u,u,u,u,u,u,u,u,u,u,u,u,u,u,u,u,u,u,u,u,u,u,u,u,u,u,u,u,u,u,u,u,u],[.box [.int .i64 v49,.nils],.box [.int .i64 v53,.own 2],.row 108 qa v54 true true 0]⟩=k6 v52 v53 v54): ∀(n:Nat) (v47:Bool) (v48:Int) (v50:Int) (v51:List (Val qa)),qC (qd tt qaV (qaC N) c) false qoo Q n ⟨[u,u,u,u,.one (.ptr 0 0 0),u,.one (.int .i64 v46),.one (.ptr 1 0 0),u,u,u,u,u,u,u,u,u,.one (.bool v47),.one (.int .i64 v48),u,u,u,u,u,u,u,u,u,u,u,u,u,u,u,u,u,u,u,u,u,u,u,u,u,u,u,u,u,u,u,u,u,u,u,u,u,u,u,u,u,u,u,u,u,u,u,u,u,u,u,u,u,u,u,u,u,u,u,u,u,u,u,u,u,u,u,u,u,u,u,u,u,u,u,u,u,u,u,u,u,u,u,u,u,u,u,u,u,u,u,u,u,u,u,u,u,u,u,u,u,u,u,u,u,u,u,u,u,u,u,u,u,u,u,u,u,u,u,u,u,u,u,u,u,u,u,u,u],[.box [.int .i64 v49,.nils],.box [.int .i64 v50,.own 2],.row 108 qa v51 true true 0]⟩=qeT N v46 v49 k6 n v47 v48 v50 v51:=by
 subst hc;intro n;induction n with
 | zero=>intros;rfl
 | succ n ih=>
   intro v47 v48 v50 v51
   rw [qL,qZQ,qeT];unfold Tryz.f153
   simp (maxSteps:=10000000) -implicitDefEqProofs [qeU,qcn,qeF,qcT,qeN,qcI,qfn,qcU,qfi,qd7,qfd,qe5,qex,qeD,qeR,qfe,qeG,qeX,qfs,qez,qeC,qeM,qfx,qft,qfm,qfc,qeZ,qeP,qe9,qfl,qeI,qe0,qe2,qfz,qfA,qfB,qeQ,qeY,qfb,qeL,qeV,qfa,qfw,qeJ,qfj,qfv,qff,qfg,qe4,qfp,qbk,qaX,qa2,qbe,qbB,hret,h6,ih]
noncomputable def qP3:Code:=cut [true,true,true,true,true,true,true,true,true,false,true,true,true] (Tryz.f153.body.getD .skip)
theorem q7d {N:Nat} {Q:X→St→Option (qb [i33,i4])} {e:List LV} {h:List Blk}:qd tt qaV (qaC N) qP3 Q ⟨e,h⟩=qd tt qaV (qaC N) (cut [true,true,true,true,true,true,true,true,true,false,true,true,true] (Tryz.f153.body.getD .skip)) Q ⟨e,h⟩:=rfl
theorem qYj (N:Nat) (v58:Int) (v59:Int) (v61:Int) (v62:Int) (v63:List (Val qa)) {k8:(List (Val qa))→Option (qb [i33,i4])} {Q:X→St→Option (qb [i33,i4])} {c:Code} (hc:c=qP3) (hret: ∀st,Q .ret st=qB tt true [i33,i4] [.cell 4 33,.tmp 5] st) (h8: ∀(v65:List (Val qa)),Q (.exit 8) ⟨[u,u,u,u,.one (.ptr 0 0 0),u,u,u,u,u,u,u,u,u,u,u,u,u,u,.one (.ptr 1 0 0),u,u,u,u,u,u,u,u,u,u,u,u,u,u,u,u,u,u,u,u,u,u,u,u,u,u,u,u,u,u,u,u,u,u,u,u,u,u,u,u,u,u,u,u,u,u,u,u,u,u,u,u,u,u,u,u,u,u,u,u,u,u,u,u,u,u,u,u,u,u,u,u,u,u,u,u,u,u,u,u,u,u,u,u,u,u,u,u,u,u,u,u,u,u,u,u,u,u,u,u,u,u,u,u,u,u,u,u,u,u,u,u,u,u,u,u,u,u,u,u,u,u,u,u,u,u,u,u],[.box [.int .i64 v61,.nils],.box [.int .i64 v62,.own 2],.row 108 qa v65 true true 0]⟩=k8 v65): ∀(n:Nat) (v60:Int) (v64:List (Val qa)),qC (qd tt qaV (qaC N) c) false qoI Q n ⟨[u,u,u,u,.one (.ptr 0 0 0),u,.one (.int .i64 v58),u,u,u,u,u,u,u,u,u,u,u,u,.one (.ptr 1 0 0),u,u,u,u,u,u,u,u,u,u,u,u,u,u,u,u,u,u,u,u,u,u,u,u,u,u,u,u,u,u,u,u,u,u,u,u,u,u,u,u,u,u,u,u,u,u,u,u,u,u,u,u,u,u,u,u,u,u,u,u,u,u,u,u,u,u,u,u,u,u,u,u,u,u,u,u,u,u,u,u,u,u,u,u,u,u,u,u,u,u,u,u,u,u,u,u,u,u,u,u,u,u,u,u,u,u,u,u,.one (.own 2),.one (.int .i64 v59),.one (.int .i64 v60),u,u,u,u,u,u,u,u,u,u,u,u,u,u,u,u,u],[.box [.int .i64 v61,.nils],.box [.int .i64 v62,.own 3],.row 108 qa v63 true true 0,.row 108 qa v64 true true 0]⟩=qe3 N v58 v59 v61 v62 v63 k8 n v60 v64:=by
 subst hc;intro n;induction n with
 | zero=>intros;rfl
 | succ n ih=>
   intro v60 v64
   rw [qL,q7d,qe3];unfold Tryz.f153
   simp (maxSteps:=10000000) -implicitDefEqProofs [qeU,qcn,qeF,qcT,qeN,qcI,qfn,qcU,qfi,qd7,qfd,qe5,qex,qeD,qeR,qfe,qeG,qeX,qfs,qez,qeC,qeM,qfx,qft,qfm,qfc,qeZ,qeP,qe9,qfl,qeI,qe0,qe2,qfz,qfA,qfB,qeQ,qeY,qfb,qeL,qeV,qfa,qfw,qeJ,qfj,qfv,qff,qfg,qe4,qfp,qbk,qaX,qa2,qbe,qbB,hret,h8,ih]
theorem q89 (N:Nat) (v0:Val Y33) (v1:Val Y28):qd tt qaV (qaC N) (Tryz.f153.body.getD .skip) (qo tt true [i33,i4] [.cell 4 33,.tmp 5]) (qt [i33,i28] 148 (v0,v1,()))=qxn N v0 v1:=by
 unfold Tryz.f153
 simp (maxSteps:=10000000) -implicitDefEqProofs [qeU,qcn,qeF,qcT,qeN,qcI,qfn,qcU,qfi,qd7,qfd,qe5,qex,qeD,qeR,qfe,qeG,qeX,qfs,qez,qeC,qeM,qfx,qft,qfm,qfc,qeZ,qeP,qe9,qfl,qeI,qe0,qe2,qfz,qfA,qfB,qeQ,qeY,qfb,qeL,qeV,qfa,qfw,qeJ,qfj,qfv,qff,qfg,qe4,qfp,qbk,qaX,qa2,qbe,qbB]
 rewrite [zbq (k0:=(fun (v12:List (Val qa))=>qhK N (v0.1:Int) (v1.1:Int) (v1.2:Int) (0:Int) (IntKind.i64.wrap ((2:Int)*(v0.1:Int))) (fun (v45:List (Val qa))=>qeT N (v0.1:Int) (0:Int) (fun (v55:Bool) (v56:Int) (v57:List (Val qa))=>bif (!v55)then (some (((0:Int),([]:List (Val qa))),false,()))else (qe3 N (v0.1:Int) (v57.length:Int) (0:Int) (v0.1:Int) v57 (fun (v66:List (Val qa))=>some (((v0.1:Int),v66),true,())) N (0:Int) ([]:List (Val qa)))) N ((qV ((IntKind.i64.wrap ((2:Int)*(v0.1:Int))),v45)).2:Bool) (IntKind.i64.wrap ((IntKind.i64.wrap ((2:Int)*(v0.1:Int))) - (1:Int))) (((qV ((IntKind.i64.wrap ((2:Int)*(v0.1:Int))),v45)).1).1:Int) (((qV ((IntKind.i64.wrap ((2:Int)*(v0.1:Int))),v45)).1).2:List (Val qa))) N (0:Int) v12)) N _ _ _ _ _ _ _ ?_ ?_ ?_]
 ·rewrite [qxn];first | rfl | simp (maxSteps:=10000000) -implicitDefEqProofs []
 ·rfl
 ·intro;simp only [qK,qI,qJ,qy]
 ·intro v12;simp (maxSteps:=10000000) -implicitDefEqProofs [qeU,qcn,qeF,qcT,qeN,qcI,qfn,qcU,qfi,qd7,qfd,qe5,qex,qeD,qeR,qfe,qeG,qeX,qfs,qez,qeC,qeM,qfx,qft,qfm,qfc,qeZ,qeP,qe9,qfl,qeI,qe0,qe2,qfz,qfA,qfB,qeQ,qeY,qfb,qeL,qeV,qfa,qfw,qeJ,qfj,qfv,qff,qfg,qe4,qfp,qbk,qaX,qa2,qbe,qbB]
  rewrite [q3z (k2:=(fun (v45:List (Val qa))=>qeT N (v0.1:Int) (0:Int) (fun (v55:Bool) (v56:Int) (v57:List (Val qa))=>bif (!v55)then (some (((0:Int),([]:List (Val qa))),false,()))else (qe3 N (v0.1:Int) (v57.length:Int) (0:Int) (v0.1:Int) v57 (fun (v66:List (Val qa))=>some (((v0.1:Int),v66),true,())) N (0:Int) ([]:List (Val qa)))) N ((qV ((IntKind.i64.wrap ((2:Int)*(v0.1:Int))),v45)).2:Bool) (IntKind.i64.wrap ((IntKind.i64.wrap ((2:Int)*(v0.1:Int))) - (1:Int))) (((qV ((IntKind.i64.wrap ((2:Int)*(v0.1:Int))),v45)).1).1:Int) (((qV ((IntKind.i64.wrap ((2:Int)*(v0.1:Int))),v45)).1).2:List (Val qa)))) N _ _ _ _ _ ?_ ?_ ?_]
  ·first | rfl | simp (maxSteps:=10000000) -implicitDefEqProofs []
  ·rfl
  ·intro;simp only [qK,qI,qJ,qy]
  ·intro v45;simp (maxSteps:=10000000) -implicitDefEqProofs [qeU,qcn,qeF,qcT,qeN,qcI,qfn,qcU,qfi,qd7,qfd,qe5,qex,qeD,qeR,qfe,qeG,qeX,qfs,qez,qeC,qeM,qfx,qft,qfm,qfc,qeZ,qeP,qe9,qfl,qeI,qe0,qe2,qfz,qfA,qfB,qeQ,qeY,qfb,qeL,qeV,qfa,qfw,qeJ,qfj,qfv,qff,qfg,qe4,qfp,qbk,qaX,qa2,qbe,qbB]
   rewrite [qVp (k6:=(fun (v55:Bool) (v56:Int) (v57:List (Val qa))=>bif (!v55)then (some (((0:Int),([]:List (Val qa))),false,()))else (qe3 N (v0.1:Int) (v57.length:Int) (0:Int) (v0.1:Int) v57 (fun (v66:List (Val qa))=>some (((v0.1:Int),v66),true,())) N (0:Int) ([]:List (Val qa))))) N _ _ ?_ ?_ ?_]
   ·first | rfl | simp (maxSteps:=10000000) -implicitDefEqProofs []
   ·rfl
   ·intro;simp only [qK,qI,qJ,qy]
   ·intro v55 v56 v57;simp (maxSteps:=10000000) -implicitDefEqProofs [qeU,qcn,qeF,qcT,qeN,qcI,qfn,qcU,qfi,qd7,qfd,qe5,qex,qeD,qeR,qfe,qeG,qeX,qfs,qez,qeC,qeM,qfx,qft,qfm,qfc,qeZ,qeP,qe9,qfl,qeI,qe0,qe2,qfz,qfA,qfB,qeQ,qeY,qfb,qeL,qeV,qfa,qfw,qeJ,qfj,qfv,qff,qfg,qe4,qfp,qbk,qaX,qa2,qbe,qbB]
    rewrite [qYj (k8:=(fun (v66:List (Val qa))=>some (((v0.1:Int),v66),true,()))) N _ _ _ _ _ ?_ ?_ ?_]
    ·first | rfl | simp (maxSteps:=10000000) -implicitDefEqProofs []
    ·rfl
    ·intro;simp only [qK,qI,qJ,qy]
    ·intro v66;simp (maxSteps:=10000000) -implicitDefEqProofs [qeU,qcn,qeF,qcT,qeN,qcI,qfn,qcU,qfi,qd7,qfd,qe5,qex,qeD,qeR,qfe,qeG,qeX,qfs,qez,qeC,qeM,qfx,qft,qfm,qfc,qeZ,qeP,qe9,qfl,qeI,qe0,qe2,qfz,qfA,qfB,qeQ,qeY,qfb,qeL,qeV,qfa,qfw,qeJ,qfj,qfv,qff,qfg,qe4,qfp,qbk,qaX,qa2,qbe,qbB]
def qAW (d:Val Y28) (c:Val Y33):Val Y33×Bool:=qbX c d
def qQg (d:Val Y28) (c:Val Y33):Prop:=qjz c d
def qgL:Gc [i33] [i33,i4]:={cs:=[i28],pre:=fun c x=>qQg c.1 x.1,fn:=fun c x=>((qAW c.1 x.1).1,(qAW c.1 x.1).2,())}
theorem zdJ:qgL.cs=[i28]:=rfl
noncomputable def qxi (N:Nat) (v0:Val Y33) (v1:Val Y28):Option (qb [i33,i4]):=chk (qjz v0 v1) (some (((((qbX v0 v1).1).1:Int),(((qbX v0 v1).1).2:List (Val qa))),((qbX v0 v1).2:Bool),()))
def qCp:Gam:=[(153,qwg)]
theorem q19:Gam.get qCp 153=some qwg:=rfl
def qwT:Nat→Tree:=fun _=> .done
def qMK:Nat→Nm:=fun _=>⟨[],[],false⟩
def qC0:Nat→Option Jn:=fun _=>none
def qMB:Nat→Option Nm:=fun _=>none
def qEE:Nat→Option Nm:=fun _=>none
theorem q3w:qj qwT (Tryz.f152.body.getD .skip)=true:=by kernel_rfl
def qfL (N:Nat):Tab:={tr:=qwT,lp:=qMK,ex:=qMB,rg:=qEE,jn:=qC0,fuel:=N}
theorem qYa (N:Nat):(qfL N).pins=false:=rfl
theorem q7z (N:Nat):qn Tryz.prog (qfL N):=qr fun _=>rfl
theorem q6o (N:Nat) (i:Nat):(qfL N).tr i=qwT i:=rfl
theorem q0R (N:Nat) (i:Nat):(qfL N).lp i=qMK i:=rfl
theorem q8z (N:Nat) (i:Nat):(qfL N).ex i=qMB i:=rfl
theorem qVl (N:Nat) (i:Nat):(qfL N).rg i=qEE i:=rfl
theorem qWQ (N:Nat) (i:Nat):(qfL N).jn i=qC0 i:=rfl
theorem qX4 (N:Nat):(qfL N).fuel=N:=rfl
theorem q1H (N:Nat) (v0:Val Y33) (v1:Val Y28):qd tt qCp (qfL N) (Tryz.f152.body.getD .skip) (qo tt false [i33,i4] [.cell 3 33,.tmp 4]) (qpS [i33] [i28] 10 (v1,()) (v0,()))=qxi N v0 v1:=by
 rw [qxi];unfold Tryz.f152
 simp (maxSteps:=10000000) -implicitDefEqProofs [q6o,qwT,q0R,qMK,q8z,qMB,qVl,qEE,qWQ,qC0,qX4,qYa,q19,qwg]
 try rfl
def qmB (d:Val Y28) (x:qb [i33]):qb [i33,i4]:=((qbX x.1 d).1,(qbX x.1 d).2,())
def qaP (r:Val Y50) (d:Val Y28):Val Y50×Bool:=bif qcc r&&decide (1≤(r.1:Int)∧(r.1:Int)≤2)&&qaQ d&&decide (0≤(d.1:Int))then qii (qmB d) r else qvy
def qAO (r:Val Y50) (_:Val Y28):Prop:=qm2 r
def g56:G:={ps:=[i50,i28],rs:=[i50,i4],dp:=true,pre:=fun _=>True,fn:=fun x=>((qaP x.1 x.2.1).1,(qaP x.1 x.2.1).2,())}
noncomputable def m56 (N:Nat) (v0:Val Y50) (v1:Val Y28):Option (qb [i50,i4]):=bif (!((qcc v0):Bool))then (some (((0:Int),([]:List (Val Y33))),false,()))else (bif (decide ((v0.1:Int)<(1:Int)))then (some (((0:Int),([]:List (Val Y33))),false,()))else (bif (decide ((2:Int)<(v0.1:Int)))then (some (((0:Int),([]:List (Val Y33))),false,()))else (bif (!((qaQ v1):Bool))then (some (((0:Int),([]:List (Val Y33))),false,()))else (bif (decide ((v1.1:Int)<(0:Int)))then (some (((0:Int),([]:List (Val Y33))),false,()))else (chk (qAb (qgL.pre (v1,())) (qgL.fn (v1,())) v0) (some (((((qii (qgL.fn (v1,())) v0).1).1:Int),(((qii (qgL.fn (v1,())) v0).1).2:List (Val Y33))),((qii (qgL.fn (v1,())) v0).2:Bool),())))))))
def Γ56:Gam:=[(114,qwj),(124,qBh)]
theorem qZl:Gam.get Γ56 114=some qwj:=rfl
theorem zcq:Gam.get Γ56 124=some qBh:=rfl
theorem q2a:Gam.get Γ56 144=none:=rfl
def qPr:Sem:=quA [] [(144,⟨qI2,[(152,qgL)]⟩)]
def qvg:Nat→Tree:=fun _=> .done
def qHP:Nat→Nm:=fun _=>⟨[],[],false⟩
def qO9:Nat→Option Jn:=fun _=>none
def qNw:Nat→Option Nm:=fun _=>none
def qEQ:Nat→Option Nm:=fun _=>none
theorem p56:qj qvg (Tryz.f56.body.getD .skip)=true:=by kernel_rfl
def T56 (N:Nat):Tab:={tr:=qvg,lp:=qHP,ex:=qNw,rg:=qEQ,jn:=qO9,fuel:=N,sem:=qPr}
theorem zby (N:Nat):(T56 N).pins=false:=rfl
theorem zdj (N:Nat):qn Tryz.prog (T56 N):=qr fun _=>rfl
theorem qYX (N:Nat):(T56 N).sem=qPr:=rfl
theorem zcQ (N:Nat) (i:Nat):(T56 N).tr i=qvg i:=rfl
theorem q3a (N:Nat) (i:Nat):(T56 N).lp i=qHP i:=rfl
theorem q1r (N:Nat) (i:Nat):(T56 N).ex i=qNw i:=rfl
theorem zbz (N:Nat) (i:Nat):(T56 N).rg i=qEQ i:=rfl
theorem q1U (N:Nat) (i:Nat):(T56 N).jn i=qO9 i:=rfl
theorem qXD (N:Nat):(T56 N).fuel=N:=rfl
theorem zdp (N:Nat) (v0:Val Y50) (v1:Val Y28):qd tt Γ56 (T56 N) (Tryz.f56.body.getD .skip) (qo tt true [i50,i4] [.cell 4 50,.tmp 5]) (qt [i50,i28] 35 (v0,v1,()))=m56 N v0 v1:=by
 rw [m56];unfold Tryz.f56
 simp (maxSteps:=10000000) -implicitDefEqProofs [zcQ,qvg,q3a,qHP,q1r,qNw,zbz,qEQ,q1U,qO9,qXD,zby,qYX,qPr,qP,q2a,qI2,zdJ,qZl,zcq,qwj,qBh]
 try rfl
def g55:G:={ps:=[i50,i28],rs:=[i50,i4],dp:=true,pre:=fun x=>qAO x.1 x.2.1,fn:=fun x=>((qaP x.1 x.2.1).1,(qaP x.1 x.2.1).2,())}
noncomputable def qhQ (N:Nat) (v94:Int) (v96:Int) (v97:List (Val Y33)) (v98:Int) (v99:Int) (v100:Int) (v101:Int) (v102:Int) (v103:List (Val Y33)) (k2:(List (Val qa))→Option (qb [i50,i4])):Nat→Int→(List (Val qa))→Option (qb [i50,i4])
 | 0,_,_=>none
 | n+1,v95,v104=>chk (0≤v94∧v94<(v97.length:Int)) (bif (decide (v95<(((v97.getD v94.toNat (qc Y33)).2:List (Val qa)).length:Int)))then (chk (0≤v94∧v94<(v97.length:Int)) (chk (0≤v95∧v95<(((v97.getD v94.toNat (qc Y33)).2:List (Val qa)).length:Int)) (chk (0≤v96∧v96≤v96∧v96≤1048576) (chk ((List.replicate v96.toNat (qc (.int .i64))).length+((((v97.getD v94.toNat (qc Y33)).2:List (Val qa)).getD v95.toNat (qc qa)).1:List (Val (.int .i64))).length≤1048576) (chk (v104.length+([(((List.replicate v96.toNat (qc (.int .i64)))++((((v97.getD v94.toNat (qc Y33)).2:List (Val qa)).getD v95.toNat (qc qa)).1:List (Val (.int .i64)))),(((((v97.getD v94.toNat (qc Y33)).2:List (Val qa)).getD v95.toNat (qc qa)).2).1:Int),(((((v97.getD v94.toNat (qc Y33)).2:List (Val qa)).getD v95.toNat (qc qa)).2).2:Bool))]:List (Val qa)).length≤1048576) (qhQ N v94 v96 v97 v98 v99 v100 v101 v102 v103 k2 n (IntKind.i64.wrap (v95+(1:Int))) (v104++([(((List.replicate v96.toNat (qc (.int .i64)))++((((v97.getD v94.toNat (qc Y33)).2:List (Val qa)).getD v95.toNat (qc qa)).1:List (Val (.int .i64)))),(((((v97.getD v94.toNat (qc Y33)).2:List (Val qa)).getD v95.toNat (qc qa)).2).1:Int),(((((v97.getD v94.toNat (qc Y33)).2:List (Val qa)).getD v95.toNat (qc qa)).2).2:Bool))]:List (Val qa)))))))))else (k2 v104))
noncomputable def qgE (N:Nat) (v132:Int) (v133:Int) (v135:Int) (v136:List (Val Y33)) (v137:Int) (v138:Int) (v139:Int) (v140:Int) (v141:Int) (v142:List (Val Y33)) (k6:(List (Val qa))→Option (qb [i50,i4])):Nat→Int→(List (Val qa))→Option (qb [i50,i4])
 | 0,_,_=>none
 | n+1,v134,v143=>bif (decide ((-1:Int)≤v134))then (chk (0≤(IntKind.i64.wrap ((2:Int)*v135))∧(IntKind.i64.wrap ((2:Int)*v135))≤(IntKind.i64.wrap ((2:Int)*v135))∧(IntKind.i64.wrap ((2:Int)*v135))≤1048576) (chk (0≤v133∧v133<((List.replicate (IntKind.i64.wrap ((2:Int)*v135)).toNat (qc (.int .i64))).length:Int)) (chk (v133.toNat<(List.replicate (IntKind.i64.wrap ((2:Int)*v135)).toNat (qc (.int .i64))).length) (chk (0≤(IntKind.i64.wrap (v135+v133))∧(IntKind.i64.wrap (v135+v133))<(((List.replicate (IntKind.i64.wrap ((2:Int)*v135)).toNat (qc (.int .i64))).set v133.toNat (IntKind.i64.wrap (v134*v138))).length:Int)) (chk ((IntKind.i64.wrap (v135+v133)).toNat<((List.replicate (IntKind.i64.wrap ((2:Int)*v135)).toNat (qc (.int .i64))).set v133.toNat (IntKind.i64.wrap (v134*v138))).length) (chk (qac (((List.replicate (IntKind.i64.wrap ((2:Int)*v135)).toNat (qc (.int .i64))).set v133.toNat (IntKind.i64.wrap (v134*v138))).set ((IntKind.i64.wrap (v135+v133)).toNat) (IntKind.i64.wrap ((IntKind.i64.wrap (0 - v134))*v138))) (IntKind.i64.wrap (0 - v137)) false) (bif (!((qh (((List.replicate (IntKind.i64.wrap ((2:Int)*v135)).toNat (qc (.int .i64))).set v133.toNat (IntKind.i64.wrap (v134*v138))).set ((IntKind.i64.wrap (v135+v133)).toNat) (IntKind.i64.wrap ((IntKind.i64.wrap (0 - v134))*v138))) (IntKind.i64.wrap (0 - v137)) false).2:Bool))then (some (((0:Int),([]:List (Val Y33))),false,()))else (chk (v143.length+([((((qh (((List.replicate (IntKind.i64.wrap ((2:Int)*v135)).toNat (qc (.int .i64))).set v133.toNat (IntKind.i64.wrap (v134*v138))).set ((IntKind.i64.wrap (v135+v133)).toNat) (IntKind.i64.wrap ((IntKind.i64.wrap (0 - v134))*v138))) (IntKind.i64.wrap (0 - v137)) false).1).1:List (Val (.int .i64))),((((qh (((List.replicate (IntKind.i64.wrap ((2:Int)*v135)).toNat (qc (.int .i64))).set v133.toNat (IntKind.i64.wrap (v134*v138))).set ((IntKind.i64.wrap (v135+v133)).toNat) (IntKind.i64.wrap ((IntKind.i64.wrap (0 - v134))*v138))) (IntKind.i64.wrap (0 - v137)) false).1).2).1:Int),((((qh (((List.replicate (IntKind.i64.wrap ((2:Int)*v135)).toNat (qc (.int .i64))).set v133.toNat (IntKind.i64.wrap (v134*v138))).set ((IntKind.i64.wrap (v135+v133)).toNat) (IntKind.i64.wrap ((IntKind.i64.wrap (0 - v134))*v138))) (IntKind.i64.wrap (0 - v137)) false).1).2).2:Bool))]:List (Val qa)).length≤1048576) (qgE N v132 v133 v135 v136 v137 v138 v139 v140 v141 v142 k6 n (IntKind.i64.wrap (v134 - (2:Int))) (v143++([((((qh (((List.replicate (IntKind.i64.wrap ((2:Int)*v135)).toNat (qc (.int .i64))).set v133.toNat (IntKind.i64.wrap (v134*v138))).set ((IntKind.i64.wrap (v135+v133)).toNat) (IntKind.i64.wrap ((IntKind.i64.wrap (0 - v134))*v138))) (IntKind.i64.wrap (0 - v137)) false).1).1:List (Val (.int .i64))),((((qh (((List.replicate (IntKind.i64.wrap ((2:Int)*v135)).toNat (qc (.int .i64))).set v133.toNat (IntKind.i64.wrap (v134*v138))).set ((IntKind.i64.wrap (v135+v133)).toNat) (IntKind.i64.wrap ((IntKind.i64.wrap (0 - v134))*v138))) (IntKind.i64.wrap (0 - v137)) false).1).2).1:Int),((((qh (((List.replicate (IntKind.i64.wrap ((2:Int)*v135)).toNat (qc (.int .i64))).set v133.toNat (IntKind.i64.wrap (v134*v138))).set ((IntKind.i64.wrap (v135+v133)).toNat) (IntKind.i64.wrap ((IntKind.i64.wrap (0 - v134))*v138))) (IntKind.i64.wrap (0 - v137)) false).1).2).2:Bool))]:List (Val qa))))))))))))else (k6 v143)
noncomputable def qhD (N:Nat) (v107:Int) (v109:Int) (v110:List (Val Y33)) (v111:Int) (v112:Int) (v113:Int) (v114:Int) (v115:Int) (v116:List (Val Y33)) (k4:(List (Val qa))→Option (qb [i50,i4])):Nat→Int→(List (Val qa))→Option (qb [i50,i4])
 | 0,_,_=>none
 | n+1,v108,v117=>bif (decide (v108<v109))then (qgE N v107 v108 v109 v110 v111 v112 v113 v114 v115 v116 (fun (v145:List (Val qa))=>qhD N v107 v109 v110 v111 v112 v113 v114 v115 v116 k4 n (IntKind.i64.wrap (v108+(1:Int))) v145) N (1:Int) v117)else (k4 v117)
noncomputable def qhl (N:Nat) (v148:Int) (v150:Int) (v151:List (Val Y33)) (v152:Int) (v153:Int) (v154:Int) (v155:Int) (v158:List (Val Y33)) (k8:Int→(List (Val qa))→Option (qb [i50,i4])):Nat→Int→Int→(List (Val qa))→Option (qb [i50,i4])
 | 0,_,_,_=>none
 | n+1,v149,v156,v157=>bif (decide (v150≤v149))then (chk (qnv (v156,v157) v149) (bif (!((qR (v156,v157) v149).2:Bool))then (some (((0:Int),([]:List (Val Y33))),false,()))else (qhl N v148 v150 v151 v152 v153 v154 v155 v158 k8 n (IntKind.i64.wrap (v149 - (1:Int))) (((qR (v156,v157) v149).1).1:Int) (((qR (v156,v157) v149).1).2:List (Val qa)))))else (k8 v156 v157)
noncomputable def qeH (N:Nat) (v163:Int) (v165:Int) (v166:List (Val Y33)) (v167:Int) (v168:Int) (v169:Int) (v170:Int) (v171:Int) (v172:List (Val qa)) (v173:Int) (v174:List (Val Y33)) (k10:(List (Val qa))→Option (qb [i50,i4])):Nat→Int→(List (Val qa))→Option (qb [i50,i4])
 | 0,_,_=>none
 | n+1,v164,v175=>bif (decide (v164<(v172.length:Int)))then (chk (0≤v164∧v164<(v172.length:Int)) (chk (0≤(0:Int)∧(0:Int)≤v165∧v165≤(((v172.getD v164.toNat (qc qa)).1:List (Val (.int .i64))).length:Int)) (chk (0≤v164∧v164<(v172.length:Int)) (chk (0≤v164∧v164<(v172.length:Int)) (chk (qac ((((v172.getD v164.toNat (qc qa)).1:List (Val (.int .i64))).take v165.toNat).drop (0:Int).toNat) (((v172.getD v164.toNat (qc qa)).2).1:Int) (((v172.getD v164.toNat (qc qa)).2).2:Bool)) (chk (v175.length+([((((qh ((((v172.getD v164.toNat (qc qa)).1:List (Val (.int .i64))).take v165.toNat).drop (0:Int).toNat) (((v172.getD v164.toNat (qc qa)).2).1:Int) (((v172.getD v164.toNat (qc qa)).2).2:Bool)).1).1:List (Val (.int .i64))),((((qh ((((v172.getD v164.toNat (qc qa)).1:List (Val (.int .i64))).take v165.toNat).drop (0:Int).toNat) (((v172.getD v164.toNat (qc qa)).2).1:Int) (((v172.getD v164.toNat (qc qa)).2).2:Bool)).1).2).1:Int),((((qh ((((v172.getD v164.toNat (qc qa)).1:List (Val (.int .i64))).take v165.toNat).drop (0:Int).toNat) (((v172.getD v164.toNat (qc qa)).2).1:Int) (((v172.getD v164.toNat (qc qa)).2).2:Bool)).1).2).2:Bool))]:List (Val qa)).length≤1048576) (qeH N v163 v165 v166 v167 v168 v169 v170 v171 v172 v173 v174 k10 n (IntKind.i64.wrap (v164+(1:Int))) (v175++([((((qh ((((v172.getD v164.toNat (qc qa)).1:List (Val (.int .i64))).take v165.toNat).drop (0:Int).toNat) (((v172.getD v164.toNat (qc qa)).2).1:Int) (((v172.getD v164.toNat (qc qa)).2).2:Bool)).1).1:List (Val (.int .i64))),((((qh ((((v172.getD v164.toNat (qc qa)).1:List (Val (.int .i64))).take v165.toNat).drop (0:Int).toNat) (((v172.getD v164.toNat (qc qa)).2).1:Int) (((v172.getD v164.toNat (qc qa)).2).2:Bool)).1).2).1:Int),((((qh ((((v172.getD v164.toNat (qc qa)).1:List (Val (.int .i64))).take v165.toNat).drop (0:Int).toNat) (((v172.getD v164.toNat (qc qa)).2).1:Int) (((v172.getD v164.toNat (qc qa)).2).2:Bool)).1).2).2:Bool))]:List (Val qa))))))))))else (k10 v175)
noncomputable def qep (N:Nat) (v3:Int) (v4:List (Val Y33)) (v5:Int) (v6:Int) (v7:Int) (k0:Int→(List (Val Y33))→Option (qb [i50,i4])):Nat→Int→Int→(List (Val Y33))→Option (qb [i50,i4])
 | 0,_,_,_=>none
 | n+1,v2,v8,v9=>bif (decide (v2<(v4.length:Int)))then (qhQ N v2 v3 v4 v5 v6 v7 v8 (IntKind.i64.wrap ((2:Int)*v3)) v9 (fun (v106:List (Val qa))=>qhD N v2 v3 v4 v5 v6 v7 v8 (IntKind.i64.wrap ((2:Int)*v3)) v9 (fun (v147:List (Val qa))=>bif (decide ((16:Int)<(v147.length:Int)))then (some (((0:Int),([]:List (Val Y33))),false,()))else (chk (qaK (IntKind.i64.wrap ((2:Int)*v3)) v147) (qhl N v2 v3 v4 v5 v6 v7 v8 v9 (fun (v161:Int) (v162:List (Val qa))=>qeH N v2 v3 v4 v5 v6 v7 v8 v161 v162 v3 v9 (fun (v177:List (Val qa))=>chk (qgO (v8,v9) (v3,v177)) (bif (!((qax (v8,v9) (v3,v177)).2:Bool))then (some (((0:Int),([]:List (Val Y33))),false,()))else (qep N v3 v4 v5 v6 v7 k0 n (IntKind.i64.wrap (v2+(1:Int))) (((qax (v8,v9) (v3,v177)).1).1:Int) (((qax (v8,v9) (v3,v177)).1).2:List (Val Y33))))) N (0:Int) ([]:List (Val qa))) N (IntKind.i64.wrap ((IntKind.i64.wrap ((2:Int)*v3)) - (1:Int))) ((qm (IntKind.i64.wrap ((2:Int)*v3)) v147).1:Int) ((qm (IntKind.i64.wrap ((2:Int)*v3)) v147).2:List (Val qa))))) N (0:Int) v106) N (0:Int) ([]:List (Val qa)))else (k0 v8 v9)
noncomputable def m55 (N:Nat) (v0:Val Y50) (v1:Val Y28):Option (qb [i50,i4]):=chk (qm2 v0) (bif (!((qcc v0):Bool))then (some (((0:Int),([]:List (Val Y33))),false,()))else (bif (!((inR (v0.1:Int) (1:Int) (2:Int)):Bool))then (some (((0:Int),([]:List (Val Y33))),false,()))else (bif (!((qaQ v1):Bool))then (some (((0:Int),([]:List (Val Y33))),false,()))else (bif (decide ((v1.1:Int)<(0:Int)))then (some (((0:Int),([]:List (Val Y33))),false,()))else (qep N (v0.1:Int) (v0.2:List (Val Y33)) (v1.1:Int) (v1.2:Int) (0:Int) (fun (v180:Int) (v181:List (Val Y33))=>some ((v180,v181),true,())) N (0:Int) (v0.1:Int) ([]:List (Val Y33)))))))
def Γ55:Gam:=[(109,qbR),(117,qbQ),(118,q5),(149,qaZ),(150,q9),(151,qa0)]
theorem qdo:Gam.get Γ55 109=some qbR:=rfl
theorem qd5:Gam.get Γ55 117=some qbQ:=rfl
theorem qcL:Gam.get Γ55 118=some q5:=rfl
theorem qdS:Gam.get Γ55 149=some qaZ:=rfl
theorem qd6:Gam.get Γ55 150=some q9:=rfl
theorem qdM:Gam.get Γ55 151=some qa0:=rfl
theorem qdD:Gam.get Γ55 143=none:=rfl
def que:Nm:=⟨[false,false,true,true,true,false,true,true,true,true],[.box 8 1 108 qa],true⟩
theorem qdH:que.zero=true:=rfl
theorem qdG:que.fix=[.box 8 1 108 qa]:=rfl
theorem qdc:que.keep=[false,false,true,true,true,false,true,true,true,true]:=rfl
def qsb:Nm:=⟨[false,false,true,true,true,false,true,true,true,false,false,true,true],[],true⟩
theorem qcR:qsb.zero=true:=rfl
theorem qdC:qsb.fix=[]:=rfl
theorem qdY:qsb.keep=[false,false,true,true,true,false,true,true,true,false,false,true,true]:=rfl
def qpb:Nm:=⟨[false,false,true,true,true,false,true,true,true,false,false,true],[],true⟩
theorem qdV:qpb.zero=true:=rfl
theorem qcQ:qpb.fix=[]:=rfl
theorem qdq:qpb.keep=[false,false,true,true,true,false,true,true,true,false,false,true]:=rfl
def qsa:Nm:=⟨[false,false,true,true,true,false,true,true,true,false,false,false,false,false,false,false,true],[],true⟩
theorem qd9:qsa.zero=true:=rfl
theorem qdg:qsa.fix=[]:=rfl
theorem qcP:qsa.keep=[false,false,true,true,true,false,true,true,true,false,false,false,false,false,false,false,true]:=rfl
def qth:Nm:=⟨[false,false,true,true,true,false,true,true,true,false,false,false,false,false,false,false,false,false,false,true,true],[.box 19 1 108 qa],true⟩
theorem qd1:qth.zero=true:=rfl
theorem qdN:qth.fix=[.box 19 1 108 qa]:=rfl
theorem qdP:qth.keep=[false,false,true,true,true,false,true,true,true,false,false,false,false,false,false,false,false,false,false,true,true]:=rfl
def qpR:Nm:=⟨[false,false,true,true,true,false,true,true],[.box 6 1 33 Y33],true⟩
theorem qcO:qpR.zero=true:=rfl
theorem qd4:qpR.fix=[.box 6 1 33 Y33]:=rfl
theorem qed:qpR.keep=[false,false,true,true,true,false,true,true]:=rfl
def qzK:Nm:=⟨[false,false,false,false,true,false,true],[],true⟩
theorem qd8:qzK.zero=true:=rfl
theorem qcM:qzK.fix=[]:=rfl
theorem qcW:qzK.keep=[false,false,false,false,true,false,true]:=rfl
def qyh:Nm:=⟨[false,false,true,true,true,false,true,true,true],[],true⟩
theorem qeb:qyh.zero=true:=rfl
theorem qcV:qyh.fix=[]:=rfl
theorem qdv:qyh.keep=[false,false,true,true,true,false,true,true,true]:=rfl
def qww:Nm:=⟨[false,false,true,true,true,false,true,true,true],[],true⟩
theorem qdy:qww.zero=true:=rfl
theorem qdT:qww.fix=[]:=rfl
theorem qdf:qww.keep=[false,false,true,true,true,false,true,true,true]:=rfl
def qBw:Nm:=⟨[false,false,true,true,true,false,true,true,true,false,false,true],[],true⟩
theorem qdz:qBw.zero=true:=rfl
theorem qdk:qBw.fix=[]:=rfl
theorem qd0:qBw.keep=[false,false,true,true,true,false,true,true,true,false,false,true]:=rfl
def qxx:Nm:=⟨[false,false,true,true,true,false,true,true,true],[],true⟩
theorem qdr:qxx.zero=true:=rfl
theorem qcC:qxx.fix=[]:=rfl
theorem qdO:qxx.keep=[false,false,true,true,true,false,true,true,true]:=rfl
def qxm:Nm:=⟨[false,false,true,true,true,false,true,true,false,false,false,false,false,false,false,false,false,false,false,true],[],true⟩
theorem qc5:qxm.zero=true:=rfl
theorem qdB:qxm.fix=[]:=rfl
theorem qcA:qxm.keep=[false,false,true,true,true,false,true,true,false,false,false,false,false,false,false,false,false,false,false,true]:=rfl
def qz5:Nm:=⟨[false,false,true,true,true,false,true,true,true,false,false,false,false,false,false,false,false,false,false,true,true,true],[],true⟩
theorem qdl:qz5.zero=true:=rfl
theorem qc7:qz5.fix=[]:=rfl
theorem qdu:qz5.keep=[false,false,true,true,true,false,true,true,true,false,false,false,false,false,false,false,false,false,false,true,true,true]:=rfl
def qcb:Sem:=qu6 [(143,qb2)] (qg8)
def qbG:Nat→Tree:=fun i=>if i=12 then .quiet 2 (.quiet 3 (.grow 5 (.grow 6 (.keep 0 (.keep 1 (.keep 8 (.keep 9 (.keep 10 (.keep 11 (.alt 4 (.alt 7 (.quiet 12 (.alt 13 (.alt 14 (.quiet 15 (.alt 16 .done .stop)) .stop) .stop)) .stop) .stop))))))))))else if i=40 then .first 2 (.first 11 (.first 17 (.grow 0 (.grow 1 (.grow 3 (.grow 4 (.grow 5 (.grow 6 (.grow 7 (.pure 8 (.grow 9 (.grow 10 (.grow 12 (.grow 13 (.grow 14 (.grow 15 (.grow 16 (.grow 18 (.grow 19 (.grow 20 (.alt 21 (.first 22 (.first 23 (.first 24 (.alt 25 (.alt 26 (.quiet 27 .done) .stop) .stop)))) (.alt 25 (.alt 21 (.quiet 22 (.quiet 23 (.first 24 (.alt 26 (.quiet 27 .done) .stop)))) .stop) .stop))))))))))))))))))))))else .done
def qb6:Nat→Nm:=fun i=>if i=9 then que else if i=17 then qsb else if i=14 then qpb else if i=30 then qsa else if i=38 then qth else if i=5 then qpR else ⟨[],[],false⟩
def qb3:Nat→Option Jn:=fun _=>none
def qb5:Nat→Option Nm:=fun i=>if i=0 then some qzK else if i=2 then some qyh else if i=4 then some qww else if i=6 then some qBw else if i=8 then some qxx else if i=10 then some qxm else none
def qbV:Nat→Option Nm:=fun i=>if i=40 then some qz5 else none
theorem p55:qj qbG (Tryz.f55.body.getD .skip)=true:=by kernel_rfl
def T55 (N:Nat):Tab:={tr:=qbG,lp:=qb6,ex:=qb5,rg:=qbV,jn:=qb3,fuel:=N,sem:=qcb}
theorem qdd (N:Nat):(T55 N).pins=false:=rfl
theorem q6l (N:Nat):qn Tryz.prog (T55 N):=qr fun _=>rfl
theorem qda (N:Nat):(T55 N).sem=qcb:=rfl
theorem qdL (N:Nat) (i:Nat):(T55 N).tr i=qbG i:=rfl
theorem qc9 (N:Nat) (i:Nat):(T55 N).lp i=qb6 i:=rfl
theorem qdX (N:Nat) (i:Nat):(T55 N).ex i=qb5 i:=rfl
theorem qdw (N:Nat) (i:Nat):(T55 N).rg i=qbV i:=rfl
theorem qea (N:Nat) (i:Nat):(T55 N).jn i=qb3 i:=rfl
theorem qcz (N:Nat):(T55 N).fuel=N:=rfl
noncomputable def qP7:Code:=cut [true,true,true,false,true,true,true,true,false,true,true,false,true,true,true] (Tryz.f55.body.getD .skip)
theorem q1A {N:Nat} {Q:X→St→Option (qb [i50,i4])} {e:List LV} {h:List Blk}:qd tt Γ55 (T55 N) qP7 Q ⟨e,h⟩=qd tt Γ55 (T55 N) (cut [true,true,true,false,true,true,true,true,false,true,true,false,true,true,true] (Tryz.f55.body.getD .skip)) Q ⟨e,h⟩:=rfl
theorem q2U (N:Nat) (v94:Int) (v96:Int) (v97:List (Val Y33)) (v98:Int) (v99:Int) (v100:Int) (v101:Int) (v102:Int) (v103:List (Val Y33)) {k2:(List (Val qa))→Option (qb [i50,i4])} {Q:X→St→Option (qb [i50,i4])} {c:Code} (hc:c=qP7) (hret: ∀st,Q .ret st=qB tt true [i50,i4] [.cell 4 50,.tmp 5] st) (h2: ∀(v105:List (Val qa)),Q (.exit 2) ⟨[u,u,.one (.ptr 0 0 0),.one (.ptr 1 0 0),.one (.ptr 2 0 0),u,.one (.ptr 3 0 0),.one (.int .i64 v94),.one (.ptr 4 0 0),u,u,u,u,u,u,u,u,u,u,u,u,u,u,u,u,u,u,u,u,u,u,u,u,u,u,u,u,u,u,u,u,u,u,u,u,u,u,u,u,u,u,u,u,u,u,u,u,u,u,u,u,u,u,u,u,u,u,u,u,u,u,u,u,u,u,u,u,u,u,u,u,u,u,u,u,u,u,u,u,u,u,u,u,u,u,u,u,u,u,u,u,u,u,u,u,u,u,u,u,u,u,u,u,u,u,u,u,u,u,u,u,u,u,u,u,u,u,u,u,u,u,u,u,u,u,u,u,u,u,u,u,u,u,u,u,u,u,u,u,u,u,u,u,u,u,u,u,u,u,u,u,u,u,u,u,u,u,u,u,u,u,u,u,u,u,u,u,u,u,u,u,u,u,u,u,u,u,u,u,u,u,u,u,u,u,u,u,u,u,u,u,u,u,u,u,u,u,u,u,u,u,u,u,u,u,u,u,u,u,u,u,u,u,u,u,u],[.box [.int .i64 v96,.sl 33 Y33 v97 0],.box [.int .i64 v98,.int .i64 v99],.box [.int .i64 v100,.nils],.box [.int .i64 v101,.own 5],.box [.int .i64 v102,.own 6],.row 33 Y33 v103 true true 0,.row 108 qa v105 true true 0]⟩=k2 v105): ∀(n:Nat) (v95:Int) (v104:List (Val qa)),qC (qd tt Γ55 (T55 N) c) false que Q n ⟨[u,u,.one (.ptr 0 0 0),.one (.ptr 1 0 0),.one (.ptr 2 0 0),u,.one (.ptr 3 0 0),.one (.int .i64 v94),.one (.ptr 4 0 0),.one (.int .i64 v95),u,u,u,u,u,u,u,u,u,u,u,u,u,u,u,u,u,u,u,u,u,u,u,u,u,u,u,u,u,u,u,u,u,u,u,u,u,u,u,u,u,u,u,u,u,u,u,u,u,u,u,u,u,u,u,u,u,u,u,u,u,u,u,u,u,u,u,u,u,u,u,u,u,u,u,u,u,u,u,u,u,u,u,u,u,u,u,u,u,u,u,u,u,u,u,u,u,u,u,u,u,u,u,u,u,u,u,u,u,u,u,u,u,u,u,u,u,u,u,u,u,u,u,u,u,u,u,u,u,u,u,u,u,u,u,u,u,u,u,u,u,u,u,u,u,u,u,u,u,u,u,u,u,u,u,u,u,u,u,u,u,u,u,u,u,u,u,u,u,u,u,u,u,u,u,u,u,u,u,u,u,u,u,u,u,u,u,u,u,u,u,u,u,u,u,u,u,u,u,u,u,u,u,u,u,u,u,u,u,u,u,u,u,u,u,u],[.box [.int .i64 v96,.sl 33 Y33 v97 0],.box [.int .i64 v98,.int .i64 v99],.box [.int .i64 v100,.nils],.box [.int .i64 v101,.own 5],.box [.int .i64 v102,.own 6],.row 33 Y33 v103 true true 0,.row 108 qa v104 true true 0]⟩=qhQ N v94 v96 v97 v98 v99 v100 v101 v102 v103 k2 n v95 v104:=by
 subst hc;intro n;induction n with
 | zero=>intros;rfl
 | succ n ih=>
   intro v95 v104
   rw [qL,q1A,qhQ];unfold Tryz.f55
   simp (maxSteps:=10000000) -implicitDefEqProofs [qdL,qbG,qc9,qb6,qdX,qb5,qdw,qbV,qea,qb3,qcz,qdd,qda,qcb,qP,qdD,qb2,qdG,qdc,qdH,qdC,qdY,qcR,qcQ,qdq,qdV,qdg,qcP,qd9,qdN,qdP,qd1,qd4,qed,qcO,qcM,qcW,qd8,qcV,qdv,qeb,qdT,qdf,qdy,qdk,qd0,qdz,qcC,qdO,qdr,qdB,qcA,qc5,qc7,qdu,qdl,qdo,qd5,qcL,qdS,qd6,qdM,qbR,qbQ,q5,qaZ,q9,qa0,hret,h2,ih]
noncomputable def qRq:Code:=cut [true,true,true,false,true,true,true,true,false,true,true,true,false,true,true,true,true,false,true,true,true,true] (Tryz.f55.body.getD .skip)
theorem q84 {N:Nat} {Q:X→St→Option (qb [i50,i4])} {e:List LV} {h:List Blk}:qd tt Γ55 (T55 N) qRq Q ⟨e,h⟩=qd tt Γ55 (T55 N) (cut [true,true,true,false,true,true,true,true,false,true,true,true,false,true,true,true,true,false,true,true,true,true] (Tryz.f55.body.getD .skip)) Q ⟨e,h⟩:=rfl
theorem zcO (N:Nat) (v132:Int) (v133:Int) (v135:Int) (v136:List (Val Y33)) (v137:Int) (v138:Int) (v139:Int) (v140:Int) (v141:Int) (v142:List (Val Y33)) {k6:(List (Val qa))→Option (qb [i50,i4])} {Q:X→St→Option (qb [i50,i4])} {c:Code} (hc:c=qRq) (hret: ∀st,Q .ret st=qB tt true [i50,i4] [.cell 4 50,.tmp 5] st) (h6: ∀(v144:List (Val qa)),Q (.exit 6) ⟨[u,u,.one (.ptr 0 0 0),.one (.ptr 1 0 0),.one (.ptr 2 0 0),u,.one (.ptr 3 0 0),.one (.int .i64 v132),.one (.ptr 4 0 0),u,u,.one (.int .i64 v133),u,u,u,u,u,u,u,u,u,u,u,u,u,u,u,u,u,u,u,u,u,u,u,u,u,u,u,u,u,u,u,u,u,u,u,u,u,u,u,u,u,u,u,u,u,u,u,u,u,u,u,u,u,u,u,u,u,u,u,u,u,u,u,u,u,u,u,u,u,u,u,u,u,u,u,u,u,u,u,u,u,u,u,u,u,u,u,u,u,u,u,u,u,u,u,u,u,u,u,u,u,u,u,u,u,u,u,u,u,u,u,u,u,u,u,u,u,u,u,u,u,u,u,u,u,u,u,u,u,u,u,u,u,u,u,u,u,u,u,u,u,u,u,u,u,u,u,u,u,u,u,u,u,u,u,u,u,u,u,u,u,u,u,u,u,u,u,u,u,u,u,u,u,u,u,u,u,u,u,u,u,u,u,u,u,u,u,u,u,u,u,u,u,u,u,u,u,u,u,u,u,u,u,u,u,u,u,u,u,u,u,u,u,u],[.box [.int .i64 v135,.sl 33 Y33 v136 0],.box [.int .i64 v137,.int .i64 v138],.box [.int .i64 v139,.nils],.box [.int .i64 v140,.own 5],.box [.int .i64 v141,.own 6],.row 33 Y33 v142 true true 0,.row 108 qa v144 true true 0]⟩=k6 v144): ∀(n:Nat) (v134:Int) (v143:List (Val qa)),qC (qd tt Γ55 (T55 N) c) false qsb Q n ⟨[u,u,.one (.ptr 0 0 0),.one (.ptr 1 0 0),.one (.ptr 2 0 0),u,.one (.ptr 3 0 0),.one (.int .i64 v132),.one (.ptr 4 0 0),u,u,.one (.int .i64 v133),.one (.int .i64 v134),u,u,u,u,u,u,u,u,u,u,u,u,u,u,u,u,u,u,u,u,u,u,u,u,u,u,u,u,u,u,u,u,u,u,u,u,u,u,u,u,u,u,u,u,u,u,u,u,u,u,u,u,u,u,u,u,u,u,u,u,u,u,u,u,u,u,u,u,u,u,u,u,u,u,u,u,u,u,u,u,u,u,u,u,u,u,u,u,u,u,u,u,u,u,u,u,u,u,u,u,u,u,u,u,u,u,u,u,u,u,u,u,u,u,u,u,u,u,u,u,u,u,u,u,u,u,u,u,u,u,u,u,u,u,u,u,u,u,u,u,u,u,u,u,u,u,u,u,u,u,u,u,u,u,u,u,u,u,u,u,u,u,u,u,u,u,u,u,u,u,u,u,u,u,u,u,u,u,u,u,u,u,u,u,u,u,u,u,u,u,u,u,u,u,u,u,u,u,u,u,u,u,u,u,u,u,u,u,u,u,u,u,u],[.box [.int .i64 v135,.sl 33 Y33 v136 0],.box [.int .i64 v137,.int .i64 v138],.box [.int .i64 v139,.nils],.box [.int .i64 v140,.own 5],.box [.int .i64 v141,.own 6],.row 33 Y33 v142 true true 0,.row 108 qa v143 true true 0]⟩=qgE N v132 v133 v135 v136 v137 v138 v139 v140 v141 v142 k6 n v134 v143:=by
 subst hc;intro n;induction n with
 | zero=>intros;rfl
 | succ n ih=>
   intro v134 v143
   rw [qL,q84,qgE];unfold Tryz.f55
   simp (maxSteps:=10000000) -implicitDefEqProofs [qdL,qbG,qc9,qb6,qdX,qb5,qdw,qbV,qea,qb3,qcz,qdd,qda,qcb,qP,qdD,qb2,qdG,qdc,qdH,qdC,qdY,qcR,qcQ,qdq,qdV,qdg,qcP,qd9,qdN,qdP,qd1,qd4,qed,qcO,qcM,qcW,qd8,qcV,qdv,qeb,qdT,qdf,qdy,qdk,qd0,qdz,qcC,qdO,qdr,qdB,qcA,qc5,qc7,qdu,qdl,qdo,qd5,qcL,qdS,qd6,qdM,qbR,qbQ,q5,qaZ,q9,qa0,hret,h6,ih]
noncomputable def qS3:Code:=cut [true,true,true,false,true,true,true,true,false,true,true,true,false,true,true,true] (Tryz.f55.body.getD .skip)
theorem zbf {N:Nat} {Q:X→St→Option (qb [i50,i4])} {e:List LV} {h:List Blk}:qd tt Γ55 (T55 N) qS3 Q ⟨e,h⟩=qd tt Γ55 (T55 N) (cut [true,true,true,false,true,true,true,true,false,true,true,true,false,true,true,true] (Tryz.f55.body.getD .skip)) Q ⟨e,h⟩:=rfl
theorem zck (N:Nat) (v107:Int) (v109:Int) (v110:List (Val Y33)) (v111:Int) (v112:Int) (v113:Int) (v114:Int) (v115:Int) (v116:List (Val Y33)) {k4:(List (Val qa))→Option (qb [i50,i4])} {Q:X→St→Option (qb [i50,i4])} {c:Code} (hc:c=qS3) (hret: ∀st,Q .ret st=qB tt true [i50,i4] [.cell 4 50,.tmp 5] st) (h4: ∀(v146:List (Val qa)),Q (.exit 4) ⟨[u,u,.one (.ptr 0 0 0),.one (.ptr 1 0 0),.one (.ptr 2 0 0),u,.one (.ptr 3 0 0),.one (.int .i64 v107),.one (.ptr 4 0 0),u,u,u,u,u,u,u,u,u,u,u,u,u,u,u,u,u,u,u,u,u,u,u,u,u,u,u,u,u,u,u,u,u,u,u,u,u,u,u,u,u,u,u,u,u,u,u,u,u,u,u,u,u,u,u,u,u,u,u,u,u,u,u,u,u,u,u,u,u,u,u,u,u,u,u,u,u,u,u,u,u,u,u,u,u,u,u,u,u,u,u,u,u,u,u,u,u,u,u,u,u,u,u,u,u,u,u,u,u,u,u,u,u,u,u,u,u,u,u,u,u,u,u,u,u,u,u,u,u,u,u,u,u,u,u,u,u,u,u,u,u,u,u,u,u,u,u,u,u,u,u,u,u,u,u,u,u,u,u,u,u,u,u,u,u,u,u,u,u,u,u,u,u,u,u,u,u,u,u,u,u,u,u,u,u,u,u,u,u,u,u,u,u,u,u,u,u,u,u,u,u,u,u,u,u,u,u,u,u,u,u,u,u,u,u,u,u],[.box [.int .i64 v109,.sl 33 Y33 v110 0],.box [.int .i64 v111,.int .i64 v112],.box [.int .i64 v113,.nils],.box [.int .i64 v114,.own 5],.box [.int .i64 v115,.own 6],.row 33 Y33 v116 true true 0,.row 108 qa v146 true true 0]⟩=k4 v146): ∀(n:Nat) (v108:Int) (v117:List (Val qa)),qC (qd tt Γ55 (T55 N) c) false qpb Q n ⟨[u,u,.one (.ptr 0 0 0),.one (.ptr 1 0 0),.one (.ptr 2 0 0),u,.one (.ptr 3 0 0),.one (.int .i64 v107),.one (.ptr 4 0 0),u,u,.one (.int .i64 v108),u,u,u,u,u,u,u,u,u,u,u,u,u,u,u,u,u,u,u,u,u,u,u,u,u,u,u,u,u,u,u,u,u,u,u,u,u,u,u,u,u,u,u,u,u,u,u,u,u,u,u,u,u,u,u,u,u,u,u,u,u,u,u,u,u,u,u,u,u,u,u,u,u,u,u,u,u,u,u,u,u,u,u,u,u,u,u,u,u,u,u,u,u,u,u,u,u,u,u,u,u,u,u,u,u,u,u,u,u,u,u,u,u,u,u,u,u,u,u,u,u,u,u,u,u,u,u,u,u,u,u,u,u,u,u,u,u,u,u,u,u,u,u,u,u,u,u,u,u,u,u,u,u,u,u,u,u,u,u,u,u,u,u,u,u,u,u,u,u,u,u,u,u,u,u,u,u,u,u,u,u,u,u,u,u,u,u,u,u,u,u,u,u,u,u,u,u,u,u,u,u,u,u,u,u,u,u,u,u,u,u,u,u,u],[.box [.int .i64 v109,.sl 33 Y33 v110 0],.box [.int .i64 v111,.int .i64 v112],.box [.int .i64 v113,.nils],.box [.int .i64 v114,.own 5],.box [.int .i64 v115,.own 6],.row 33 Y33 v116 true true 0,.row 108 qa v117 true true 0]⟩=qhD N v107 v109 v110 v111 v112 v113 v114 v115 v116 k4 n v108 v117:=by
 subst hc;intro n;induction n with
 | zero=>intros;rfl
 | succ n ih=>
   intro v108 v117
   rw [qL,zbf];unfold Tryz.f55
   simp (maxSteps:=10000000) -implicitDefEqProofs [qdL,qbG,qc9,qb6,qdX,qb5,qdw,qbV,qea,qb3,qcz,qdd,qda,qcb,qP,qdD,qb2,qdG,qdc,qdH,qdC,qdY,qcR,qcQ,qdq,qdV,qdg,qcP,qd9,qdN,qdP,qd1,qd4,qed,qcO,qcM,qcW,qd8,qcV,qdv,qeb,qdT,qdf,qdy,qdk,qd0,qdz,qcC,qdO,qdr,qdB,qcA,qc5,qc7,qdu,qdl,qdo,qd5,qcL,qdS,qd6,qdM,qbR,qbQ,q5,qaZ,q9,qa0,hret,h4,ih]
   rewrite [zcO (k6:=(fun (v145:List (Val qa))=>qhD N v107 v109 v110 v111 v112 v113 v114 v115 v116 k4 n (IntKind.i64.wrap (v108+(1:Int))) v145)) N _ _ _ _ _ _ _ _ _ _ ?_ ?_ ?_]
   ·rewrite [qhD];first | rfl | simp (maxSteps:=10000000) -implicitDefEqProofs [ih]
   ·rfl
   ·intro;simp only [qK,qI,qJ,qy,hret]
   ·intro v145;simp (maxSteps:=10000000) -implicitDefEqProofs [qdL,qbG,qc9,qb6,qdX,qb5,qdw,qbV,qea,qb3,qcz,qdd,qda,qcb,qP,qdD,qb2,qdG,qdc,qdH,qdC,qdY,qcR,qcQ,qdq,qdV,qdg,qcP,qd9,qdN,qdP,qd1,qd4,qed,qcO,qcM,qcW,qd8,qcV,qdv,qeb,qdT,qdf,qdy,qdk,qd0,qdz,qcC,qdO,qdr,qdB,qcA,qc5,qc7,qdu,qdl,qdo,qd5,qcL,qdS,qd6,qdM,qbR,qbQ,q5,qaZ,q9,qa0,hret,h4,ih]
noncomputable def qTI:Code:=cut [true,true,true,false,true,true,true,true,false,true,true,true,true,true,true,false,true,true,true] (Tryz.f55.body.getD .skip)
theorem zcC {N:Nat} {Q:X→St→Option (qb [i50,i4])} {e:List LV} {h:List Blk}:qd tt Γ55 (T55 N) qTI Q ⟨e,h⟩=qd tt Γ55 (T55 N) (cut [true,true,true,false,true,true,true,true,false,true,true,true,true,true,true,false,true,true,true] (Tryz.f55.body.getD .skip)) Q ⟨e,h⟩:=rfl
theorem zdA (N:Nat) (v148:Int) (v150:Int) (v151:List (Val Y33)) (v152:Int) (v153:Int) (v154:Int) (v155:Int) (v158:List (Val Y33)) {k8:Int→(List (Val qa))→Option (qb [i50,i4])} {Q:X→St→Option (qb [i50,i4])} {c:Code} (hc:c=qTI) (hret: ∀st,Q .ret st=qB tt true [i50,i4] [.cell 4 50,.tmp 5] st) (h8: ∀(v159:Int) (v160:List (Val qa)),Q (.exit 8) ⟨[u,u,.one (.ptr 0 0 0),.one (.ptr 1 0 0),.one (.ptr 2 0 0),u,.one (.ptr 3 0 0),.one (.int .i64 v148),.one (.ptr 4 0 0),u,u,u,u,u,u,u,u,u,u,u,u,u,u,u,u,u,u,u,u,u,u,u,u,u,u,u,u,u,u,u,u,u,u,u,u,u,u,u,u,u,u,u,u,u,u,u,u,u,u,u,u,u,u,u,u,u,u,u,u,u,u,u,u,u,u,u,u,u,u,u,u,u,u,u,u,u,u,u,u,u,u,u,u,u,u,u,u,u,u,u,u,u,u,u,u,u,u,u,u,u,u,u,u,u,u,u,u,u,u,u,u,u,u,u,u,u,u,u,u,u,u,u,u,u,u,u,u,u,u,u,u,u,u,u,u,u,u,u,u,u,u,u,u,u,u,u,u,u,u,u,u,u,u,u,u,u,u,u,u,u,u,u,u,u,u,u,u,u,u,u,u,u,u,u,u,u,u,u,u,u,u,u,u,u,u,u,u,u,u,u,u,u,u,u,u,u,u,u,u,u,u,u,u,u,u,u,u,u,u,u,u,u,u,u,u,u],[.box [.int .i64 v150,.sl 33 Y33 v151 0],.box [.int .i64 v152,.int .i64 v153],.box [.int .i64 v154,.nils],.box [.int .i64 v155,.own 5],.box [.int .i64 v159,.sl 108 qa v160 6],.row 33 Y33 v158 true true 0]⟩=k8 v159 v160): ∀(n:Nat) (v149:Int) (v156:Int) (v157:List (Val qa)),qC (qd tt Γ55 (T55 N) c) false qsa Q n ⟨[u,u,.one (.ptr 0 0 0),.one (.ptr 1 0 0),.one (.ptr 2 0 0),u,.one (.ptr 3 0 0),.one (.int .i64 v148),.one (.ptr 4 0 0),u,u,u,u,u,u,u,.one (.int .i64 v149),u,u,u,u,u,u,u,u,u,u,u,u,u,u,u,u,u,u,u,u,u,u,u,u,u,u,u,u,u,u,u,u,u,u,u,u,u,u,u,u,u,u,u,u,u,u,u,u,u,u,u,u,u,u,u,u,u,u,u,u,u,u,u,u,u,u,u,u,u,u,u,u,u,u,u,u,u,u,u,u,u,u,u,u,u,u,u,u,u,u,u,u,u,u,u,u,u,u,u,u,u,u,u,u,u,u,u,u,u,u,u,u,u,u,u,u,u,u,u,u,u,u,u,u,u,u,u,u,u,u,u,u,u,u,u,u,u,u,u,u,u,u,u,u,u,u,u,u,u,u,u,u,u,u,u,u,u,u,u,u,u,u,u,u,u,u,u,u,u,u,u,u,u,u,u,u,u,u,u,u,u,u,u,u,u,u,u,u,u,u,u,u,u,u,u,u,u,u,u,u,u,u,u,u,u,u,u,u,u],[.box [.int .i64 v150,.sl 33 Y33 v151 0],.box [.int .i64 v152,.int .i64 v153],.box [.int .i64 v154,.nils],.box [.int .i64 v155,.own 5],.box [.int .i64 v156,.sl 108 qa v157 6],.row 33 Y33 v158 true true 0]⟩=qhl N v148 v150 v151 v152 v153 v154 v155 v158 k8 n v149 v156 v157:=by
 subst hc;intro n;induction n with
 | zero=>intros;rfl
 | succ n ih=>
   intro v149 v156 v157
   rw [qL,zcC,qhl];unfold Tryz.f55
   simp (maxSteps:=10000000) -implicitDefEqProofs [qdL,qbG,qc9,qb6,qdX,qb5,qdw,qbV,qea,qb3,qcz,qdd,qda,qcb,qP,qdD,qb2,qdG,qdc,qdH,qdC,qdY,qcR,qcQ,qdq,qdV,qdg,qcP,qd9,qdN,qdP,qd1,qd4,qed,qcO,qcM,qcW,qd8,qcV,qdv,qeb,qdT,qdf,qdy,qdk,qd0,qdz,qcC,qdO,qdr,qdB,qcA,qc5,qc7,qdu,qdl,qdo,qd5,qcL,qdS,qd6,qdM,qbR,qbQ,q5,qaZ,q9,qa0,hret,h8,ih]
noncomputable def qSQ:Code:=cut [true,true,true,false,true,true,true,true,false,true,true,true,true,true,true,true,true,false,true,true,true] (Tryz.f55.body.getD .skip)
theorem q0T {N:Nat} {Q:X→St→Option (qb [i50,i4])} {e:List LV} {h:List Blk}:qd tt Γ55 (T55 N) qSQ Q ⟨e,h⟩=qd tt Γ55 (T55 N) (cut [true,true,true,false,true,true,true,true,false,true,true,true,true,true,true,true,true,false,true,true,true] (Tryz.f55.body.getD .skip)) Q ⟨e,h⟩:=rfl
theorem q9H (N:Nat) (v163:Int) (v165:Int) (v166:List (Val Y33)) (v167:Int) (v168:Int) (v169:Int) (v170:Int) (v171:Int) (v172:List (Val qa)) (v173:Int) (v174:List (Val Y33)) {k10:(List (Val qa))→Option (qb [i50,i4])} {Q:X→St→Option (qb [i50,i4])} {c:Code} (hc:c=qSQ) (hret: ∀st,Q .ret st=qB tt true [i50,i4] [.cell 4 50,.tmp 5] st) (h10: ∀(v176:List (Val qa)),Q (.exit 10) ⟨[u,u,.one (.ptr 0 0 0),.one (.ptr 1 0 0),.one (.ptr 2 0 0),u,.one (.ptr 3 0 0),.one (.int .i64 v163),u,u,u,u,u,u,u,u,u,u,u,.one (.ptr 4 0 0),u,u,u,u,u,u,u,u,u,u,u,u,u,u,u,u,u,u,u,u,u,u,u,u,u,u,u,u,u,u,u,u,u,u,u,u,u,u,u,u,u,u,u,u,u,u,u,u,u,u,u,u,u,u,u,u,u,u,u,u,u,u,u,u,u,u,u,u,u,u,u,u,u,u,u,u,u,u,u,u,u,u,u,u,u,u,u,u,u,u,u,u,u,u,u,u,u,u,u,u,u,u,u,u,u,u,u,u,u,u,u,u,u,u,u,u,u,u,u,u,u,u,u,u,u,u,u,u,u,u,u,u,u,u,u,u,u,u,u,u,u,u,u,u,u,u,u,u,u,u,u,u,u,u,u,u,u,u,u,u,u,u,u,u,u,u,u,u,u,u,u,u,u,u,u,u,u,u,u,u,u,u,u,u,u,u,u,u,u,u,u,u,u,u,u,u,u,u,u,u,u,u,u,u,u,u],[.box [.int .i64 v165,.sl 33 Y33 v166 0],.box [.int .i64 v167,.int .i64 v168],.box [.int .i64 v169,.nils],.box [.int .i64 v170,.own 5],.box [.int .i64 v173,.own 6],.row 33 Y33 v174 true true 0,.row 108 qa v176 true true 0]⟩=k10 v176): ∀(n:Nat) (v164:Int) (v175:List (Val qa)),qC (qd tt Γ55 (T55 N) c) false qth Q n ⟨[u,u,.one (.ptr 0 0 0),.one (.ptr 1 0 0),.one (.ptr 2 0 0),u,.one (.ptr 3 0 0),.one (.int .i64 v163),.one (.ptr 4 0 0),u,u,u,u,u,u,u,u,u,u,.one (.ptr 5 0 0),.one (.int .i64 v164),u,u,u,u,u,u,u,u,u,u,u,u,u,u,u,u,u,u,u,u,u,u,u,u,u,u,u,u,u,u,u,u,u,u,u,u,u,u,u,u,u,u,u,u,u,u,u,u,u,u,u,u,u,u,u,u,u,u,u,u,u,u,u,u,u,u,u,u,u,u,u,u,u,u,u,u,u,u,u,u,u,u,u,u,u,u,u,u,u,u,u,u,u,u,u,u,u,u,u,u,u,u,u,u,u,u,u,u,u,u,u,u,u,u,u,u,u,u,u,u,u,u,u,u,u,u,u,u,u,u,u,u,u,u,u,u,u,u,u,u,u,u,u,u,u,u,u,u,u,u,u,u,u,u,u,u,u,u,u,u,u,u,u,u,u,u,u,u,u,u,u,u,u,u,u,u,u,u,u,u,u,u,u,u,u,u,u,u,u,u,u,u,u,u,u,u,u,u,u,u,u,u,u,u,u],[.box [.int .i64 v165,.sl 33 Y33 v166 0],.box [.int .i64 v167,.int .i64 v168],.box [.int .i64 v169,.nils],.box [.int .i64 v170,.own 6],.box [.int .i64 v171,.sl 108 qa v172 8],.box [.int .i64 v173,.own 7],.row 33 Y33 v174 true true 0,.row 108 qa v175 true true 0]⟩=qeH N v163 v165 v166 v167 v168 v169 v170 v171 v172 v173 v174 k10 n v164 v175:=by
 subst hc;intro n;induction n with
 | zero=>intros;rfl
 | succ n ih=>
   intro v164 v175
   rw [qL,q0T,qeH];unfold Tryz.f55
   simp (maxSteps:=10000000) -implicitDefEqProofs [qdL,qbG,qc9,qb6,qdX,qb5,qdw,qbV,qea,qb3,qcz,qdd,qda,qcb,qP,qdD,qb2,qdG,qdc,qdH,qdC,qdY,qcR,qcQ,qdq,qdV,qdg,qcP,qd9,qdN,qdP,qd1,qd4,qed,qcO,qcM,qcW,qd8,qcV,qdv,qeb,qdT,qdf,qdy,qdk,qd0,qdz,qcC,qdO,qdr,qdB,qcA,qc5,qc7,qdu,qdl,qdo,qd5,qcL,qdS,qd6,qdM,qbR,qbQ,q5,qaZ,q9,qa0,hret,h10,ih]
noncomputable def qUA:Code:=cut [true,true,true,false,true,true,true] (Tryz.f55.body.getD .skip)
theorem q4d {N:Nat} {Q:X→St→Option (qb [i50,i4])} {e:List LV} {h:List Blk}:qd tt Γ55 (T55 N) qUA Q ⟨e,h⟩=qd tt Γ55 (T55 N) (cut [true,true,true,false,true,true,true] (Tryz.f55.body.getD .skip)) Q ⟨e,h⟩:=rfl
theorem qZq (N:Nat) (v3:Int) (v4:List (Val Y33)) (v5:Int) (v6:Int) (v7:Int) {k0:Int→(List (Val Y33))→Option (qb [i50,i4])} {Q:X→St→Option (qb [i50,i4])} {c:Code} (hc:c=qUA) (hret: ∀st,Q .ret st=qB tt true [i50,i4] [.cell 4 50,.tmp 5] st) (h0: ∀(v178:Int) (v179:List (Val Y33)),Q (.exit 0) ⟨[u,u,u,u,.one (.ptr 0 0 0),u,.one (.ptr 1 0 0),u,u,u,u,u,u,u,u,u,u,u,u,u,u,u,u,u,u,u,u,u,u,u,u,u,u,u,u,u,u,u,u,u,u,u,u,u,u,u,u,u,u,u,u,u,u,u,u,u,u,u,u,u,u,u,u,u,u,u,u,u,u,u,u,u,u,u,u,u,u,u,u,u,u,u,u,u,u,u,u,u,u,u,u,u,u,u,u,u,u,u,u,u,u,u,u,u,u,u,u,u,u,u,u,u,u,u,u,u,u,u,u,u,u,u,u,u,u,u,u,u,u,u,u,u,u,u,u,u,u,u,u,u,u,u,u,u,u,u,u,u,u,u,u,u,u,u,u,u,u,u,u,u,u,u,u,u,u,u,u,u,u,u,u,u,u,u,u,u,u,u,u,u,u,u,u,u,u,u,u,u,u,u,u,u,u,u,u,u,u,u,u,u,u,u,u,u,u,u,u,u,u,u,u,u,u,u,u,u,u,u,u,u,u,u,u,u,u,u],[.box [.int .i64 v7,.nils],.box [.int .i64 v178,.own 2],.row 33 Y33 v179 true true 0]⟩=k0 v178 v179): ∀(n:Nat) (v2:Int) (v8:Int) (v9:List (Val Y33)),qC (qd tt Γ55 (T55 N) c) false qpR Q n ⟨[u,u,.one (.ptr 0 0 0),.one (.ptr 1 0 0),.one (.ptr 2 0 0),u,.one (.ptr 3 0 0),.one (.int .i64 v2),u,u,u,u,u,u,u,u,u,u,u,u,u,u,u,u,u,u,u,u,u,u,u,u,u,u,u,u,u,u,u,u,u,u,u,u,u,u,u,u,u,u,u,u,u,u,u,u,u,u,u,u,u,u,u,u,u,u,u,u,u,u,u,u,u,u,u,u,u,u,u,u,u,u,u,u,u,u,u,u,u,u,u,u,u,u,u,u,u,u,u,u,u,u,u,u,u,u,u,u,u,u,u,u,u,u,u,u,u,u,u,u,u,u,u,u,u,u,u,u,u,u,u,u,u,u,u,u,u,u,u,u,u,u,u,u,u,u,u,u,u,u,u,u,u,u,u,u,u,u,u,u,u,u,u,u,u,u,u,u,u,u,u,u,u,u,u,u,u,u,u,u,u,u,u,u,u,u,u,u,u,u,u,u,u,u,u,u,u,u,u,u,u,u,u,u,u,u,u,u,u,u,u,u,u,u,u,u,u,u,u,u,u,u,u,u,u,u],[.box [.int .i64 v3,.sl 33 Y33 v4 0],.box [.int .i64 v5,.int .i64 v6],.box [.int .i64 v7,.nils],.box [.int .i64 v8,.own 4],.row 33 Y33 v9 true true 0]⟩=qep N v3 v4 v5 v6 v7 k0 n v2 v8 v9:=by
 subst hc;intro n;induction n with
 | zero=>intros;rfl
 | succ n ih=>
   intro v2 v8 v9
   rw [qL,q4d];unfold Tryz.f55
   simp (maxSteps:=10000000) -implicitDefEqProofs [qdL,qbG,qc9,qb6,qdX,qb5,qdw,qbV,qea,qb3,qcz,qdd,qda,qcb,qP,qdD,qb2,qdG,qdc,qdH,qdC,qdY,qcR,qcQ,qdq,qdV,qdg,qcP,qd9,qdN,qdP,qd1,qd4,qed,qcO,qcM,qcW,qd8,qcV,qdv,qeb,qdT,qdf,qdy,qdk,qd0,qdz,qcC,qdO,qdr,qdB,qcA,qc5,qc7,qdu,qdl,qdo,qd5,qcL,qdS,qd6,qdM,qbR,qbQ,q5,qaZ,q9,qa0,hret,h0,ih]
   rewrite [q2U (k2:=(fun (v106:List (Val qa))=>qhD N v2 v3 v4 v5 v6 v7 v8 (IntKind.i64.wrap ((2:Int)*v3)) v9 (fun (v147:List (Val qa))=>bif (decide ((16:Int)<(v147.length:Int)))then (some (((0:Int),([]:List (Val Y33))),false,()))else (chk (qaK (IntKind.i64.wrap ((2:Int)*v3)) v147) (qhl N v2 v3 v4 v5 v6 v7 v8 v9 (fun (v161:Int) (v162:List (Val qa))=>qeH N v2 v3 v4 v5 v6 v7 v8 v161 v162 v3 v9 (fun (v177:List (Val qa))=>chk (qgO (v8,v9) (v3,v177)) (bif (!((qax (v8,v9) (v3,v177)).2:Bool))then (some (((0:Int),([]:List (Val Y33))),false,()))else (qep N v3 v4 v5 v6 v7 k0 n (IntKind.i64.wrap (v2+(1:Int))) (((qax (v8,v9) (v3,v177)).1).1:Int) (((qax (v8,v9) (v3,v177)).1).2:List (Val Y33))))) N (0:Int) ([]:List (Val qa))) N (IntKind.i64.wrap ((IntKind.i64.wrap ((2:Int)*v3)) - (1:Int))) ((qm (IntKind.i64.wrap ((2:Int)*v3)) v147).1:Int) ((qm (IntKind.i64.wrap ((2:Int)*v3)) v147).2:List (Val qa))))) N (0:Int) v106)) N _ _ _ _ _ _ _ _ _ ?_ ?_ ?_]
   ·rewrite [qep];first | rfl | simp (maxSteps:=10000000) -implicitDefEqProofs [ih]
   ·rfl
   ·intro;simp only [qK,qI,qJ,qy,hret]
   ·intro v106;simp (maxSteps:=10000000) -implicitDefEqProofs [qdL,qbG,qc9,qb6,qdX,qb5,qdw,qbV,qea,qb3,qcz,qdd,qda,qcb,qP,qdD,qb2,qdG,qdc,qdH,qdC,qdY,qcR,qcQ,qdq,qdV,qdg,qcP,qd9,qdN,qdP,qd1,qd4,qed,qcO,qcM,qcW,qd8,qcV,qdv,qeb,qdT,qdf,qdy,qdk,qd0,qdz,qcC,qdO,qdr,qdB,qcA,qc5,qc7,qdu,qdl,qdo,qd5,qcL,qdS,qd6,qdM,qbR,qbQ,q5,qaZ,q9,qa0,hret,h0,ih]
    rewrite [zck (k4:=(fun (v147:List (Val qa))=>bif (decide ((16:Int)<(v147.length:Int)))then (some (((0:Int),([]:List (Val Y33))),false,()))else (chk (qaK (IntKind.i64.wrap ((2:Int)*v3)) v147) (qhl N v2 v3 v4 v5 v6 v7 v8 v9 (fun (v161:Int) (v162:List (Val qa))=>qeH N v2 v3 v4 v5 v6 v7 v8 v161 v162 v3 v9 (fun (v177:List (Val qa))=>chk (qgO (v8,v9) (v3,v177)) (bif (!((qax (v8,v9) (v3,v177)).2:Bool))then (some (((0:Int),([]:List (Val Y33))),false,()))else (qep N v3 v4 v5 v6 v7 k0 n (IntKind.i64.wrap (v2+(1:Int))) (((qax (v8,v9) (v3,v177)).1).1:Int) (((qax (v8,v9) (v3,v177)).1).2:List (Val Y33))))) N (0:Int) ([]:List (Val qa))) N (IntKind.i64.wrap ((IntKind.i64.wrap ((2:Int)*v3)) - (1:Int))) ((qm (IntKind.i64.wrap ((2:Int)*v3)) v147).1:Int) ((qm (IntKind.i64.wrap ((2:Int)*v3)) v147).2:List (Val qa)))))) N _ _ _ _ _ _ _ _ _ ?_ ?_ ?_]
    ·first | rfl | simp (maxSteps:=10000000) -implicitDefEqProofs [ih]
    ·rfl
    ·intro;simp only [qK,qI,qJ,qy,hret]
    ·intro v147;simp (maxSteps:=10000000) -implicitDefEqProofs [qdL,qbG,qc9,qb6,qdX,qb5,qdw,qbV,qea,qb3,qcz,qdd,qda,qcb,qP,qdD,qb2,qdG,qdc,qdH,qdC,qdY,qcR,qcQ,qdq,qdV,qdg,qcP,qd9,qdN,qdP,qd1,qd4,qed,qcO,qcM,qcW,qd8,qcV,qdv,qeb,qdT,qdf,qdy,qdk,qd0,qdz,qcC,qdO,qdr,qdB,qcA,qc5,qc7,qdu,qdl,qdo,qd5,qcL,qdS,qd6,qdM,qbR,qbQ,q5,qaZ,q9,qa0,hret,h0,ih]
     rewrite [zdA (k8:=(fun (v161:Int) (v162:List (Val qa))=>qeH N v2 v3 v4 v5 v6 v7 v8 v161 v162 v3 v9 (fun (v177:List (Val qa))=>chk (qgO (v8,v9) (v3,v177)) (bif (!((qax (v8,v9) (v3,v177)).2:Bool))then (some (((0:Int),([]:List (Val Y33))),false,()))else (qep N v3 v4 v5 v6 v7 k0 n (IntKind.i64.wrap (v2+(1:Int))) (((qax (v8,v9) (v3,v177)).1).1:Int) (((qax (v8,v9) (v3,v177)).1).2:List (Val Y33))))) N (0:Int) ([]:List (Val qa)))) N _ _ _ _ _ _ _ _ ?_ ?_ ?_]
     ·first | rfl | simp (maxSteps:=10000000) -implicitDefEqProofs [ih]
     ·rfl
     ·intro;simp only [qK,qI,qJ,qy,hret]
     ·intro v161 v162;simp (maxSteps:=10000000) -implicitDefEqProofs [qdL,qbG,qc9,qb6,qdX,qb5,qdw,qbV,qea,qb3,qcz,qdd,qda,qcb,qP,qdD,qb2,qdG,qdc,qdH,qdC,qdY,qcR,qcQ,qdq,qdV,qdg,qcP,qd9,qdN,qdP,qd1,qd4,qed,qcO,qcM,qcW,qd8,qcV,qdv,qeb,qdT,qdf,qdy,qdk,qd0,qdz,qcC,qdO,qdr,qdB,qcA,qc5,qc7,qdu,qdl,qdo,qd5,qcL,qdS,qd6,qdM,qbR,qbQ,q5,qaZ,q9,qa0,hret,h0,ih]
      rewrite [q9H (k10:=(fun (v177:List (Val qa))=>chk (qgO (v8,v9) (v3,v177)) (bif (!((qax (v8,v9) (v3,v177)).2:Bool))then (some (((0:Int),([]:List (Val Y33))),false,()))else (qep N v3 v4 v5 v6 v7 k0 n (IntKind.i64.wrap (v2+(1:Int))) (((qax (v8,v9) (v3,v177)).1).1:Int) (((qax (v8,v9) (v3,v177)).1).2:List (Val Y33)))))) N _ _ _ _ _ _ _ _ _ _ _ ?_ ?_ ?_]
      ·first | rfl | simp (maxSteps:=10000000) -implicitDefEqProofs [ih]
      ·rfl
      ·intro;simp only [qK,qI,qJ,qy,hret]
      ·intro v177;simp (maxSteps:=10000000) -implicitDefEqProofs [qdL,qbG,qc9,qb6,qdX,qb5,qdw,qbV,qea,qb3,qcz,qdd,qda,qcb,qP,qdD,qb2,qdG,qdc,qdH,qdC,qdY,qcR,qcQ,qdq,qdV,qdg,qcP,qd9,qdN,qdP,qd1,qd4,qed,qcO,qcM,qcW,qd8,qcV,qdv,qeb,qdT,qdf,qdy,qdk,qd0,qdz,qcC,qdO,qdr,qdB,qcA,qc5,qc7,qdu,qdl,qdo,qd5,qcL,qdS,qd6,qdM,qbR,qbQ,q5,qaZ,q9,qa0,hret,h0,ih]
theorem q0j (N:Nat) (v0:Val Y50) (v1:Val Y28):qd tt Γ55 (T55 N) (Tryz.f55.body.getD .skip) (qo tt true [i50,i4] [.cell 4 50,.tmp 5]) (qt [i50,i28] 226 (v0,v1,()))=m55 N v0 v1:=by
 unfold Tryz.f55
 simp (maxSteps:=10000000) -implicitDefEqProofs [qdL,qbG,qc9,qb6,qdX,qb5,qdw,qbV,qea,qb3,qcz,qdd,qda,qcb,qP,qdD,qb2,qdG,qdc,qdH,qdC,qdY,qcR,qcQ,qdq,qdV,qdg,qcP,qd9,qdN,qdP,qd1,qd4,qed,qcO,qcM,qcW,qd8,qcV,qdv,qeb,qdT,qdf,qdy,qdk,qd0,qdz,qcC,qdO,qdr,qdB,qcA,qc5,qc7,qdu,qdl,qdo,qd5,qcL,qdS,qd6,qdM,qbR,qbQ,q5,qaZ,q9,qa0]
 rewrite [qZq (k0:=(fun (v180:Int) (v181:List (Val Y33))=>some ((v180,v181),true,()))) N _ _ _ _ _ ?_ ?_ ?_]
 ·rewrite [m55];first | rfl | simp (maxSteps:=10000000) -implicitDefEqProofs []
 ·rfl
 ·intro;simp only [qK,qI,qJ,qy]
 ·intro v180 v181;simp (maxSteps:=10000000) -implicitDefEqProofs [qdL,qbG,qc9,qb6,qdX,qb5,qdw,qbV,qea,qb3,qcz,qdd,qda,qcb,qP,qdD,qb2,qdG,qdc,qdH,qdC,qdY,qcR,qcQ,qdq,qdV,qdg,qcP,qd9,qdN,qdP,qd1,qd4,qed,qcO,qcM,qcW,qd8,qcV,qdv,qeb,qdT,qdf,qdy,qdk,qd0,qdz,qcC,qdO,qdr,qdB,qcA,qc5,qc7,qdu,qdl,qdo,qd5,qcL,qdS,qd6,qdM,qbR,qbQ,q5,qaZ,q9,qa0]
end Go.T
