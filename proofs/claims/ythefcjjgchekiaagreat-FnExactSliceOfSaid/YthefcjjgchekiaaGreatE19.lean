/- Slices of cells and regions. Run. -/
import Derived.Test.YthefcjjgchekiaaGreatE18
import Derived.Test.YthefcjjgchekiaaGreatE7w
set_option linter.unusedSimpArgs false
set_option linter.unusedVariables false
namespace Go.T
open Go Go.Proofs
set_option maxHeartbeats 4000000
set_option maxRecDepth 100000
def qbS (v:Int) (r:Val Y28):List (Val qa)→List (Val qa)→List (Val qa)×Bool
 | [],l=>(l,true)
 | a::as',l=>bif (qav a v r).2 then qbS v r as' (l++[(qav a v r).1])else ([],false)
def qaU (c:Val Y33) (v:Int) (r:Val Y28):Val Y33×Bool:=bif qz c&&decide (0≤v∧v<(c.1:Int))&&qE r then (bif (qbS v r c.2 []).2 then (qv c.1 (qbS v r c.2 []).1,true)else qe9)else qe9
def qCe (c:Val Y33) (_:Int) (_:Val Y28):Prop:=qbf c
def qzh:G:={ps:=[i33,i3,i28],rs:=[i33,i4],dp:=true,pre:=fun _=>True,fn:=fun x=>((qaU x.1 x.2.1 x.2.2.1).1,(qaU x.1 x.2.1 x.2.2.1).2,())}
noncomputable def qhX (N:Nat) (v3:Int) (v4:List (Val qa)) (v5:Int) (v7:Int) (v8:List (Val qa)) (v9:Int) (v10:Int) (v11:Int) (k0:(List (Val qa))→Option (qc [i33,i4])):Nat→Int→(List (Val qa))→Option (qc [i33,i4])
 | 0,_,_=>none
 | n+1,v6,v12=>bif (decide (v6<v5))then (chk (0≤v6∧v6<(v4.length:Int)) (bif (!((qav (v4.getD v6.toNat (qb qa)) v3 (v9,v10)).2:Bool))then (some (((0:Int),([]:List (Val qa))),false,()))else (chk (v12.length+([((((qav (v4.getD v6.toNat (qb qa)) v3 (v9,v10)).1).1:List (Val (.int .i64))),((((qav (v4.getD v6.toNat (qb qa)) v3 (v9,v10)).1).2).1:Int),((((qav (v4.getD v6.toNat (qb qa)) v3 (v9,v10)).1).2).2:Bool))]:List (Val qa)).length≤1048576) (qhX N v3 v4 v5 v7 v8 v9 v10 v11 k0 n (IntKind.i64.wrap (v6+(1:Int))) (v12++([((((qav (v4.getD v6.toNat (qb qa)) v3 (v9,v10)).1).1:List (Val (.int .i64))),((((qav (v4.getD v6.toNat (qb qa)) v3 (v9,v10)).1).2).1:Int),((((qav (v4.getD v6.toNat (qb qa)) v3 (v9,v10)).1).2).2:Bool))]:List (Val qa)))))))else (k0 v12)
noncomputable def qFX (N:Nat) (v0:Val Y33) (v1:Int) (v2:Val Y28):Option (qc [i33,i4]):=bif (!((qz v0):Bool))then (some (((0:Int),([]:List (Val qa))),false,()))else (bif (decide (v1<(0:Int)))then (some (((0:Int),([]:List (Val qa))),false,()))else (bif (decide ((v0.1:Int)≤v1))then (some (((0:Int),([]:List (Val qa))),false,()))else (bif (!((qE v2):Bool))then (some (((0:Int),([]:List (Val qa))),false,()))else (qhX N v1 (v0.2:List (Val qa)) ((v0.2:List (Val qa)).length:Int) (v0.1:Int) (v0.2:List (Val qa)) (v2.1:Int) (v2.2:Int) (0:Int) (fun (v14:List (Val qa))=>chk (qaF (v0.1:Int) v14) (some ((((qv (v0.1:Int) v14).1:Int),((qv (v0.1:Int) v14).2:List (Val qa))),true,()))) N (0:Int) ([]:List (Val qa))))))
def qho:Gam:=[(114,qaR),(199,qaB),(226,qnL),(230,qbz)]
theorem qTn:Gam.get qho 114=some qaR:=rfl
theorem qJb:Gam.get qho 199=some qaB:=rfl
theorem qWK:Gam.get qho 226=some qnL:=rfl
theorem qIg:Gam.get qho 230=some qbz:=rfl
def qw1:Nm:=⟨[false,true,false,true,false,true,true,false,true,false,false,false,false,false,false,false,false,false,false,false,false,false,false,false,false,false,false,false,false,false,false,false,false,false,true,true,true],[],false⟩
theorem qOX:qw1.zero=false:=rfl
theorem qPj:qw1.fix=[]:=rfl
theorem qPm:qw1.keep=[false,true,false,true,false,true,true,false,true,false,false,false,false,false,false,false,false,false,false,false,false,false,false,false,false,false,false,false,false,false,false,false,false,false,true,true,true]:=rfl
def qDo:Nm:=⟨[false,false,false,true,false,false,true,false,true],[],false⟩
theorem qMa:qDo.zero=false:=rfl
theorem qIz:qDo.fix=[]:=rfl
theorem qN6:qDo.keep=[false,false,false,true,false,false,true,false,true]:=rfl
def qo2:Nat→Tree:=fun _=> .done
def qsK:Nat→Nm:=fun i=>if i=5 then qw1 else ⟨[],[],false⟩
def qyt:Nat→Option Jn:=fun _=>none
def quJ:Nat→Option Nm:=fun i=>if i=0 then some qDo else none
def qri:Nat→Option Nm:=fun _=>none
theorem zx9:qh qo2 (Tryz.f146.body.getD .skip)=true:=by kernel_rfl
def qdU (N:Nat):Tab:={tr:=qo2,lp:=qsK,ex:=quJ,rg:=qri,jn:=qyt,fuel:=N}
theorem q2z (N:Nat):(qdU N).pins=false:=rfl
theorem zqA (N:Nat):qk Tryz.prog (qdU N):=qo fun _=>rfl
theorem qSv (N:Nat) (i:Nat):(qdU N).tr i=qo2 i:=rfl
theorem q4n (N:Nat) (i:Nat):(qdU N).lp i=qsK i:=rfl
theorem q0J (N:Nat) (i:Nat):(qdU N).ex i=quJ i:=rfl
theorem qQ4 (N:Nat) (i:Nat):(qdU N).rg i=qri i:=rfl
theorem qSD (N:Nat) (i:Nat):(qdU N).jn i=qyt i:=rfl
theorem qXw (N:Nat):(qdU N).fuel=N:=rfl
noncomputable def q9a:Code:=cut [true,true,true,false,true,true,true] (Tryz.f146.body.getD .skip)
theorem zfK {N:Nat} {Q:X→St→Option (qc [i33,i4])} {e:List LV} {h:List Blk}:qf tt qho (qdU N) q9a Q ⟨e,h⟩=qf tt qho (qdU N) (cut [true,true,true,false,true,true,true] (Tryz.f146.body.getD .skip)) Q ⟨e,h⟩:=rfl
theorem zey (N:Nat) (v3:Int) (v4:List (Val qa)) (v5:Int) (v7:Int) (v8:List (Val qa)) (v9:Int) (v10:Int) (v11:Int) {k0:(List (Val qa))→Option (qc [i33,i4])} {Q:X→St→Option (qc [i33,i4])} {c:Code} (hc:c=q9a) (hret: ∀st,Q .ret st=qC tt true [i33,i4] [.cell 6 33,.tmp 7] st) (h0: ∀(v13:List (Val qa)),Q (.exit 0) ⟨[u,u,u,.one (.ptr 0 0 0),u,u,.one (.ptr 1 0 0),u,.one (.own 2),u,u,u,u,u,u,u,u,u,u,u,u,u,u,u,u,u,u,u,u,u,u,u,u,u,u,u,u,u,u,u,u,u,u,u,u,u,u,u,u,u,u,u,u,u,u,u,u,u,u],[.box [.int .i64 v7,.sl 108 qa v8 3],.box [.int .i64 v11,.nils],.row 108 qa v13 true true 0]⟩=k0 v13): ∀(n:Nat) (v6:Int) (v12:List (Val qa)),qD (qf tt qho (qdU N) c) false qw1 Q n ⟨[u,.one (.int .i64 v3),u,.one (.ptr 0 0 0),u,.one (.ptr 1 0 0),.one (.ptr 2 0 0),u,.one (.own 3),u,u,u,u,u,u,u,u,u,u,u,u,u,u,u,u,u,u,u,u,u,u,u,u,u,.one (.sl 108 qa v4 4),.one (.int .i64 v5),.one (.int .i64 v6),u,u,u,u,u,u,u,u,u,u,u,u,u,u,u,u,u,u,u,u,u,u],[.box [.int .i64 v7,.sl 108 qa v8 4],.box [.int .i64 v9,.int .i64 v10],.box [.int .i64 v11,.nils],.row 108 qa v12 true true 0]⟩=qhX N v3 v4 v5 v7 v8 v9 v10 v11 k0 n v6 v12:=by
 subst hc;intro n;induction n with
 | zero=>intros;rfl
 | succ n ih=>
   intro v6 v12
   rw [qN,zfK,qhX];unfold Tryz.f146
   simp (maxSteps:=10000000) -implicitDefEqProofs [qSv,qo2,q4n,qsK,q0J,quJ,qQ4,qri,qSD,qyt,qXw,q2z,qPj,qPm,qOX,qIz,qN6,qMa,qTn,qJb,qWK,qIg,qaR,qaB,qnL,qbz,hret,h0,ih]
theorem zyk (N:Nat) (v0:Val Y33) (v1:Int) (v2:Val Y28):qf tt qho (qdU N) (Tryz.f146.body.getD .skip) (qm tt true [i33,i4] [.cell 6 33,.tmp 7]) (qp [i33,i3,i28] 59 (v0,v1,v2,()))=qFX N v0 v1 v2:=by
 unfold Tryz.f146
 simp (maxSteps:=10000000) -implicitDefEqProofs [qSv,qo2,q4n,qsK,q0J,quJ,qQ4,qri,qSD,qyt,qXw,q2z,qPj,qPm,qOX,qIz,qN6,qMa,qTn,qJb,qWK,qIg,qaR,qaB,qnL,qbz]
 rewrite [zey (k0:=(fun (v14:List (Val qa))=>chk (qaF (v0.1:Int) v14) (some ((((qv (v0.1:Int) v14).1:Int),((qv (v0.1:Int) v14).2:List (Val qa))),true,())))) N _ _ _ _ _ _ _ _ ?_ ?_ ?_]
 ·rewrite [qFX];first | rfl | simp (maxSteps:=10000000) -implicitDefEqProofs []
 ·rfl
 ·intro;simp only [qK,qL,qJ,qB]
 ·intro v14;simp (maxSteps:=10000000) -implicitDefEqProofs [qSv,qo2,q4n,qsK,q0J,quJ,qQ4,qri,qSD,qyt,qXw,q2z,qPj,qPm,qOX,qIz,qN6,qMa,qTn,qJb,qWK,qIg,qaR,qaB,qnL,qbz]
def qnw:G:={ps:=[i33,i3,i28],rs:=[i33,i4],dp:=false,pre:=fun x=>qCe x.1 x.2.1 x.2.2.1,fn:=fun x=>((qaU x.1 x.2.1 x.2.2.1).1,(qaU x.1 x.2.1 x.2.2.1).2,())}
noncomputable def qiz (N:Nat) (v3:Int) (v5:Int) (v6:List (Val qa)) (v7:Int) (v8:Int) (v9:Int) (k0:(List (Val qa))→Option (qc [i33,i4])):Nat→Int→(List (Val qa))→Option (qc [i33,i4])
 | 0,_,_=>none
 | n+1,v4,v10=>bif (decide (v4<(v6.length:Int)))then (chk (0≤v4∧v4<(v6.length:Int)) (chk (qzn (v6.getD v4.toNat (qb qa)) v3 (v7,v8)) (bif (!((qav (v6.getD v4.toNat (qb qa)) v3 (v7,v8)).2:Bool))then (some (((0:Int),([]:List (Val qa))),false,()))else (chk (v10.length+([((((qav (v6.getD v4.toNat (qb qa)) v3 (v7,v8)).1).1:List (Val (.int .i64))),((((qav (v6.getD v4.toNat (qb qa)) v3 (v7,v8)).1).2).1:Int),((((qav (v6.getD v4.toNat (qb qa)) v3 (v7,v8)).1).2).2:Bool))]:List (Val qa)).length≤1048576) (qiz N v3 v5 v6 v7 v8 v9 k0 n (IntKind.i64.wrap (v4+(1:Int))) (v10++([((((qav (v6.getD v4.toNat (qb qa)) v3 (v7,v8)).1).1:List (Val (.int .i64))),((((qav (v6.getD v4.toNat (qb qa)) v3 (v7,v8)).1).2).1:Int),((((qav (v6.getD v4.toNat (qb qa)) v3 (v7,v8)).1).2).2:Bool))]:List (Val qa))))))))else (k0 v10)
noncomputable def qzm (N:Nat) (v0:Val Y33) (v1:Int) (v2:Val Y28):Option (qc [i33,i4]):=chk (qbf v0) (bif (!((qz v0):Bool))then (some (((0:Int),([]:List (Val qa))),false,()))else (bif (!((inR v1 (0:Int) (IntKind.i64.wrap ((v0.1:Int) - (1:Int)))):Bool))then (some (((0:Int),([]:List (Val qa))),false,()))else (bif (!((qE v2):Bool))then (some (((0:Int),([]:List (Val qa))),false,()))else (qiz N v1 (v0.1:Int) (v0.2:List (Val qa)) (v2.1:Int) (v2.2:Int) (0:Int) (fun (v12:List (Val qa))=>chk (qaF (v0.1:Int) v12) (some ((qv (v0.1:Int) v12),true,()))) N (0:Int) ([]:List (Val qa))))))
def qgf:Gam:=[(104,qbt),(109,qaK),(118,qao),(150,qai),(223,qm7)]
theorem qSs:Gam.get qgf 104=some qbt:=rfl
theorem qMf:Gam.get qgf 109=some qaK:=rfl
theorem qOG:Gam.get qgf 118=some qao:=rfl
theorem qQi:Gam.get qgf 150=some qai:=rfl
theorem qTY:Gam.get qgf 223=some qm7:=rfl
def qtz:Nm:=⟨[false,true,false,true,false,true,true,false,true,true],[],false⟩
theorem qX3:qtz.zero=false:=rfl
theorem qPw:qtz.fix=[]:=rfl
theorem qQd:qtz.keep=[false,true,false,true,false,true,true,false,true,true]:=rfl
def qAJ:Nm:=⟨[false,false,false,true,false,false,true,false,true],[],false⟩
theorem q4q:qAJ.zero=false:=rfl
theorem q3j:qAJ.fix=[]:=rfl
theorem q2b:qAJ.keep=[false,false,false,true,false,false,true,false,true]:=rfl
def qGZ:Nm:=⟨[false,true,false,true,false,true,true,false,true,true,true,true],[],false⟩
theorem qRa:qGZ.zero=false:=rfl
theorem qVC:qGZ.fix=[]:=rfl
theorem qTs:qGZ.keep=[false,true,false,true,false,true,true,false,true,true,true,true]:=rfl
def qm4:Nat→Tree:=fun i=>if i=7 then .first 2 (.first 5 (.grow 0 (.grow 1 (.grow 3 (.grow 4 (.grow 6 (.alt 7 (.first 8 (.first 9 (.first 10 (.alt 11 (.alt 12 (.quiet 13 .done) .stop) .stop)))) (.alt 11 (.alt 7 (.quiet 8 (.quiet 9 (.first 10 (.alt 12 (.quiet 13 .done) .stop)))) .stop) .stop))))))))else .done
def quN:Nat→Nm:=fun i=>if i=5 then qtz else ⟨[],[],false⟩
def qqX:Nat→Option Jn:=fun _=>none
def qyB:Nat→Option Nm:=fun i=>if i=0 then some qAJ else none
def quU:Nat→Option Nm:=fun i=>if i=7 then some qGZ else none
theorem zub:qh qm4 (Tryz.f142.body.getD .skip)=true:=by kernel_rfl
def qdd (N:Nat):Tab:={tr:=qm4,lp:=quN,ex:=qyB,rg:=quU,jn:=qqX,fuel:=N}
theorem qRL (N:Nat):(qdd N).pins=false:=rfl
theorem zt6 (N:Nat):qk Tryz.prog (qdd N):=qo fun _=>rfl
theorem qRH (N:Nat) (i:Nat):(qdd N).tr i=qm4 i:=rfl
theorem qNH (N:Nat) (i:Nat):(qdd N).lp i=quN i:=rfl
theorem qP1 (N:Nat) (i:Nat):(qdd N).ex i=qyB i:=rfl
theorem qNi (N:Nat) (i:Nat):(qdd N).rg i=quU i:=rfl
theorem qIL (N:Nat) (i:Nat):(qdd N).jn i=qqX i:=rfl
theorem qND (N:Nat):(qdd N).fuel=N:=rfl
noncomputable def q6r:Code:=cut [true,true,true,false,true,true,true] (Tryz.f142.body.getD .skip)
theorem zyT {N:Nat} {Q:X→St→Option (qc [i33,i4])} {e:List LV} {h:List Blk}:qf tt qgf (qdd N) q6r Q ⟨e,h⟩=qf tt qgf (qdd N) (cut [true,true,true,false,true,true,true] (Tryz.f142.body.getD .skip)) Q ⟨e,h⟩:=rfl
theorem zka (N:Nat) (v3:Int) (v5:Int) (v6:List (Val qa)) (v7:Int) (v8:Int) (v9:Int) {k0:(List (Val qa))→Option (qc [i33,i4])} {Q:X→St→Option (qc [i33,i4])} {c:Code} (hc:c=q6r) (hret: ∀st,Q .ret st=qC tt false [i33,i4] [.cell 6 33,.tmp 7] st) (h0: ∀(v11:List (Val qa)),Q (.exit 0) ⟨[u,u,u,.one (.ptr 0 0 0),u,u,.one (.ptr 1 0 0),u,.one (.own 2),u,u,u,u,u,u,u,u,u,u,u,u,u,u,u,u,u,u,u,u,u,u,u,u,u,u,u,u,u,u,u,u,u,u,u,u,u,u,u,u,u,u,u,u,u,u,u,u,u,u],[.box [.int .i64 v5,.sl 108 qa v6 3],.box [.int .i64 v9,.nils],.row 108 qa v11 true true 0]⟩=k0 v11): ∀(n:Nat) (v4:Int) (v10:List (Val qa)),qD (qf tt qgf (qdd N) c) false qtz Q n ⟨[u,.one (.int .i64 v3),u,.one (.ptr 0 0 0),u,.one (.ptr 1 0 0),.one (.ptr 2 0 0),u,.one (.own 3),.one (.int .i64 v4),u,u,u,u,u,u,u,u,u,u,u,u,u,u,u,u,u,u,u,u,u,u,u,u,u,u,u,u,u,u,u,u,u,u,u,u,u,u,u,u,u,u,u,u,u,u,u,u,u],[.box [.int .i64 v5,.sl 108 qa v6 4],.box [.int .i64 v7,.int .i64 v8],.box [.int .i64 v9,.nils],.row 108 qa v10 true true 0]⟩=qiz N v3 v5 v6 v7 v8 v9 k0 n v4 v10:=by
 subst hc;intro n;induction n with
 | zero=>intros;rfl
 | succ n ih=>
   intro v4 v10
   rw [qN,zyT,qiz];unfold Tryz.f142
   simp (maxSteps:=10000000) -implicitDefEqProofs [qRH,qm4,qNH,quN,qP1,qyB,qNi,quU,qIL,qqX,qND,qRL,qPw,qQd,qX3,q3j,q2b,q4q,qVC,qTs,qRa,qSs,qMf,qOG,qQi,qTY,qbt,qaK,qao,qai,qm7,hret,h0,ih]
theorem zpR (N:Nat) (v0:Val Y33) (v1:Int) (v2:Val Y28):qf tt qgf (qdd N) (Tryz.f142.body.getD .skip) (qm tt false [i33,i4] [.cell 6 33,.tmp 7]) (qp [i33,i3,i28] 59 (v0,v1,v2,()))=qzm N v0 v1 v2:=by
 unfold Tryz.f142
 simp (maxSteps:=10000000) -implicitDefEqProofs [qRH,qm4,qNH,quN,qP1,qyB,qNi,quU,qIL,qqX,qND,qRL,qPw,qQd,qX3,q3j,q2b,q4q,qVC,qTs,qRa,qSs,qMf,qOG,qQi,qTY,qbt,qaK,qao,qai,qm7]
 rewrite [zka (k0:=(fun (v12:List (Val qa))=>chk (qaF (v0.1:Int) v12) (some ((qv (v0.1:Int) v12),true,())))) N _ _ _ _ _ _ ?_ ?_ ?_]
 ·rewrite [qzm];first | rfl | simp (maxSteps:=10000000) -implicitDefEqProofs []
 ·rfl
 ·intro;simp only [qK,qL,qJ,qB]
 ·intro v12;simp (maxSteps:=10000000) -implicitDefEqProofs [qRH,qm4,qNH,quN,qP1,qyB,qNi,quU,qIL,qqX,qND,qRL,qPw,qQd,qX3,q3j,q2b,q4q,qVC,qTs,qRa,qSs,qMf,qOG,qQi,qTY,qbt,qaK,qao,qai,qm7]
def qEV (v:Int) (r:Val Y28) (c:Val Y33):Val Y33×Bool:=qaU c v r
def qib:Gc [i33] [i33,i4]:={cs:=[i3,i28],pre:=fun _ x=>True,fn:=fun c x=>((qEV c.1 c.2.1 x.1).1,(qEV c.1 c.2.1 x.1).2,())}
theorem ziK:qib.cs=[i3,i28]:=rfl
noncomputable def qQ5 (N:Nat) (v0:Val Y33) (v1:Int) (v2:Val Y28):Option (qc [i33,i4]):=some (((((qaU v0 v1 v2).1).1:Int),(((qaU v0 v1 v2).1).2:List (Val qa))),((qaU v0 v1 v2).2:Bool),())
def qQo:Gam:=[(146,qzh)]
theorem zc5:Gam.get qQo 146=some qzh:=rfl
def qBy:Nat→Tree:=fun _=> .done
def qZf:Nat→Nm:=fun _=>⟨[],[],false⟩
def qQW:Nat→Option Jn:=fun _=>none
def qYP:Nat→Option Nm:=fun _=>none
def qMN:Nat→Option Nm:=fun _=>none
theorem zpo:qh qBy (Tryz.f145.body.getD .skip)=true:=by kernel_rfl
def qf2 (N:Nat):Tab:={tr:=qBy,lp:=qZf,ex:=qYP,rg:=qMN,jn:=qQW,fuel:=N}
theorem zsc (N:Nat):(qf2 N).pins=false:=rfl
theorem zgc (N:Nat):qk Tryz.prog (qf2 N):=qo fun _=>rfl
theorem zuK (N:Nat) (i:Nat):(qf2 N).tr i=qBy i:=rfl
theorem zyJ (N:Nat) (i:Nat):(qf2 N).lp i=qZf i:=rfl
theorem zog (N:Nat) (i:Nat):(qf2 N).ex i=qYP i:=rfl
theorem zwv (N:Nat) (i:Nat):(qf2 N).rg i=qMN i:=rfl
theorem zcx (N:Nat) (i:Nat):(qf2 N).jn i=qQW i:=rfl
theorem zzk (N:Nat):(qf2 N).fuel=N:=rfl
theorem ze3 (N:Nat) (v0:Val Y33) (v1:Int) (v2:Val Y28):qf tt qQo (qf2 N) (Tryz.f145.body.getD .skip) (qm tt false [i33,i4] [.cell 4 33,.tmp 5]) (qoW [i33] [i3,i28] 12 (v1,v2,()) (v0,()))=qQ5 N v0 v1 v2:=by
 rw [qQ5];unfold Tryz.f145
 simp (maxSteps:=10000000) -implicitDefEqProofs [zuK,qBy,zyJ,qZf,zog,qYP,zwv,qMN,zcx,qQW,zzk,zsc,zc5,qzh]
 try rfl
def qmZ (v:Int) (q:Val Y28) (x:qc [i33]):qc [i33,i4]:=((qaU x.1 v q).1,(qaU x.1 v q).2,())
def qbu (r:Val Y50) (v:Int) (q:Val Y28):Val Y50×Bool:=bif q7 r&&decide (0≤v∧v<(r.1:Int))&&qE q then qep (qmZ v q) r else qa5
def qBX (r:Val Y50) (_:Int) (_:Val Y28):Prop:=qbs r
def g52:G:={ps:=[i50,i3,i28],rs:=[i50,i4],dp:=true,pre:=fun _=>True,fn:=fun x=>((qbu x.1 x.2.1 x.2.2.1).1,(qbu x.1 x.2.1 x.2.2.1).2,())}
noncomputable def m52 (N:Nat) (v0:Val Y50) (v1:Int) (v2:Val Y28):Option (qc [i50,i4]):=bif (!((q7 v0):Bool))then (some (((0:Int),([]:List (Val Y33))),false,()))else (bif (decide (v1<(0:Int)))then (some (((0:Int),([]:List (Val Y33))),false,()))else (bif (decide ((v0.1:Int)≤v1))then (some (((0:Int),([]:List (Val Y33))),false,()))else (bif (!((qE v2):Bool))then (some (((0:Int),([]:List (Val Y33))),false,()))else (chk (qm8 (qib.pre (v1,v2,())) (qib.fn (v1,v2,())) v0) (some (((((qep (qib.fn (v1,v2,())) v0).1).1:Int),(((qep (qib.fn (v1,v2,())) v0).1).2:List (Val Y33))),((qep (qib.fn (v1,v2,())) v0).2:Bool),()))))))
def Γ52:Gam:=[(114,qaR),(124,qbW)]
theorem zvV:Gam.get Γ52 114=some qaR:=rfl
theorem zs7:Gam.get Γ52 124=some qbW:=rfl
theorem zgL:Gam.get Γ52 144=none:=rfl
def qXT:Sem:=qjl [] [(144,⟨qqw,[(145,qib)]⟩)]
def qEw:Nat→Tree:=fun _=> .done
def qVz:Nat→Nm:=fun _=>⟨[],[],false⟩
def q3X:Nat→Option Jn:=fun _=>none
def qYN:Nat→Option Nm:=fun _=>none
def qTH:Nat→Option Nm:=fun _=>none
theorem p52:qh qEw (Tryz.f52.body.getD .skip)=true:=by kernel_rfl
def T52 (N:Nat):Tab:={tr:=qEw,lp:=qVz,ex:=qYN,rg:=qTH,jn:=q3X,fuel:=N,sem:=qXT}
theorem ziy (N:Nat):(T52 N).pins=false:=rfl
theorem zv7 (N:Nat):qk Tryz.prog (T52 N):=qo fun _=>rfl
theorem zwS (N:Nat):(T52 N).sem=qXT:=rfl
theorem zfT (N:Nat) (i:Nat):(T52 N).tr i=qEw i:=rfl
theorem zyu (N:Nat) (i:Nat):(T52 N).lp i=qVz i:=rfl
theorem zrm (N:Nat) (i:Nat):(T52 N).ex i=qYN i:=rfl
theorem zm0 (N:Nat) (i:Nat):(T52 N).rg i=qTH i:=rfl
theorem zfM (N:Nat) (i:Nat):(T52 N).jn i=q3X i:=rfl
theorem zel (N:Nat):(T52 N).fuel=N:=rfl
theorem zgZ (N:Nat) (v0:Val Y50) (v1:Int) (v2:Val Y28):qf tt Γ52 (T52 N) (Tryz.f52.body.getD .skip) (qm tt true [i50,i4] [.cell 6 50,.tmp 7]) (qp [i50,i3,i28] 32 (v0,v1,v2,()))=m52 N v0 v1 v2:=by
 rw [m52];unfold Tryz.f52
 simp (maxSteps:=10000000) -implicitDefEqProofs [zfT,qEw,zyu,qVz,zrm,qYN,zm0,qTH,zfM,q3X,zel,ziy,zwS,qXT,qaa,zgL,qqw,ziK,zvV,zs7,qaR,qbW]
 try rfl
def g50:G:={ps:=[i50,i3,i28],rs:=[i50,i4],dp:=true,pre:=fun x=>qBX x.1 x.2.1 x.2.2.1,fn:=fun x=>((qbu x.1 x.2.1 x.2.2.1).1,(qbu x.1 x.2.1 x.2.2.1).2,())}
noncomputable def qhP (N:Nat) (v3:Int) (v5:Int) (v6:List (Val Y33)) (v7:Int) (v8:Int) (v9:Int) (k0:Int→(List (Val Y33))→Option (qc [i50,i4])):Nat→Int→Int→(List (Val Y33))→Option (qc [i50,i4])
 | 0,_,_,_=>none
 | n+1,v4,v10,v11=>bif (decide (v4<(v6.length:Int)))then (chk (0≤v4∧v4<(v6.length:Int)) (chk (qCe (v6.getD v4.toNat (qb Y33)) v3 (v7,v8)) (bif (!((qaU (v6.getD v4.toNat (qb Y33)) v3 (v7,v8)).2:Bool))then (some (((0:Int),([]:List (Val Y33))),false,()))else (chk (qfp (v10,v11) ((qaU (v6.getD v4.toNat (qb Y33)) v3 (v7,v8)).1)) (bif (!((qa1 (v10,v11) ((qaU (v6.getD v4.toNat (qb Y33)) v3 (v7,v8)).1)).2:Bool))then (some (((0:Int),([]:List (Val Y33))),false,()))else (qhP N v3 v5 v6 v7 v8 v9 k0 n (IntKind.i64.wrap (v4+(1:Int))) (((qa1 (v10,v11) ((qaU (v6.getD v4.toNat (qb Y33)) v3 (v7,v8)).1)).1).1:Int) (((qa1 (v10,v11) ((qaU (v6.getD v4.toNat (qb Y33)) v3 (v7,v8)).1)).1).2:List (Val Y33))))))))else (k0 v10 v11)
noncomputable def m50 (N:Nat) (v0:Val Y50) (v1:Int) (v2:Val Y28):Option (qc [i50,i4]):=chk (qbs v0) (bif (!((q7 v0):Bool))then (some (((0:Int),([]:List (Val Y33))),false,()))else (bif (!((inR v1 (0:Int) (IntKind.i64.wrap ((v0.1:Int) - (1:Int)))):Bool))then (some (((0:Int),([]:List (Val Y33))),false,()))else (bif (!((qE v2):Bool))then (some (((0:Int),([]:List (Val Y33))),false,()))else (qhP N v1 (v0.1:Int) (v0.2:List (Val Y33)) (v2.1:Int) (v2.2:Int) (0:Int) (fun (v14:Int) (v15:List (Val Y33))=>some ((v14,v15),true,())) N (0:Int) (v0.1:Int) ([]:List (Val Y33))))))
def Γ50:Gam:=[(109,qaK),(117,qaX),(118,qao),(142,qnw)]
theorem q0m:Gam.get Γ50 109=some qaK:=rfl
theorem qTu:Gam.get Γ50 117=some qaX:=rfl
theorem q1A:Gam.get Γ50 118=some qao:=rfl
theorem qKd:Gam.get Γ50 142=some qnw:=rfl
theorem qMQ:Gam.get Γ50 143=none:=rfl
def qto:Nm:=⟨[false,true,false,true,false,true,true,false,true,true],[.box 8 1 33 Y33],true⟩
theorem qVF:qto.zero=true:=rfl
theorem qTC:qto.fix=[.box 8 1 33 Y33]:=rfl
theorem q0E:qto.keep=[false,true,false,true,false,true,true,false,true,true]:=rfl
def qFL:Nm:=⟨[false,false,false,false,false,false,true,false,true],[],true⟩
theorem qLR:qFL.zero=true:=rfl
theorem qJA:qFL.fix=[]:=rfl
theorem qHX:qFL.keep=[false,false,false,false,false,false,true,false,true]:=rfl
def qFu:Nm:=⟨[false,true,false,true,false,true,true,false,true,true,true,true],[],true⟩
theorem qJB:qFu.zero=true:=rfl
theorem qWg:qFu.fix=[]:=rfl
theorem qQJ:qFu.keep=[false,true,false,true,false,true,true,false,true,true,true,true]:=rfl
def qyM:Sem:=qws [(143,qgL)] (qft)
def qo0:Nat→Tree:=fun i=>if i=7 then .first 2 (.first 5 (.grow 0 (.grow 1 (.grow 3 (.grow 4 (.grow 6 (.alt 7 (.first 8 (.first 9 (.first 10 (.alt 11 (.alt 12 (.quiet 13 .done) .stop) .stop)))) (.alt 11 (.alt 7 (.quiet 8 (.quiet 9 (.first 10 (.alt 12 (.quiet 13 .done) .stop)))) .stop) .stop))))))))else .done
def qvN:Nat→Nm:=fun i=>if i=5 then qto else ⟨[],[],false⟩
def qr7:Nat→Option Jn:=fun _=>none
def qrR:Nat→Option Nm:=fun i=>if i=0 then some qFL else none
def qsy:Nat→Option Nm:=fun i=>if i=7 then some qFu else none
theorem p50:qh qo0 (Tryz.f50.body.getD .skip)=true:=by kernel_rfl
def T50 (N:Nat):Tab:={tr:=qo0,lp:=qvN,ex:=qrR,rg:=qsy,jn:=qr7,fuel:=N,sem:=qyM}
theorem qSp (N:Nat):(T50 N).pins=false:=rfl
theorem zn7 (N:Nat):qk Tryz.prog (T50 N):=qo fun _=>rfl
theorem qSt (N:Nat):(T50 N).sem=qyM:=rfl
theorem qTi (N:Nat) (i:Nat):(T50 N).tr i=qo0 i:=rfl
theorem qW3 (N:Nat) (i:Nat):(T50 N).lp i=qvN i:=rfl
theorem qNz (N:Nat) (i:Nat):(T50 N).ex i=qrR i:=rfl
theorem qQs (N:Nat) (i:Nat):(T50 N).rg i=qsy i:=rfl
theorem qT2 (N:Nat) (i:Nat):(T50 N).jn i=qr7 i:=rfl
theorem qTr (N:Nat):(T50 N).fuel=N:=rfl
noncomputable def q8p:Code:=cut [true,true,true,false,true,true,true] (Tryz.f50.body.getD .skip)
theorem zm3 {N:Nat} {Q:X→St→Option (qc [i50,i4])} {e:List LV} {h:List Blk}:qf tt Γ50 (T50 N) q8p Q ⟨e,h⟩=qf tt Γ50 (T50 N) (cut [true,true,true,false,true,true,true] (Tryz.f50.body.getD .skip)) Q ⟨e,h⟩:=rfl
theorem zg9 (N:Nat) (v3:Int) (v5:Int) (v6:List (Val Y33)) (v7:Int) (v8:Int) (v9:Int) {k0:Int→(List (Val Y33))→Option (qc [i50,i4])} {Q:X→St→Option (qc [i50,i4])} {c:Code} (hc:c=q8p) (hret: ∀st,Q .ret st=qC tt true [i50,i4] [.cell 6 50,.tmp 7] st) (h0: ∀(v12:Int) (v13:List (Val Y33)),Q (.exit 0) ⟨[u,u,u,u,u,u,.one (.ptr 0 0 0),u,.one (.ptr 1 0 0),u,u,u,u,u,u,u,u,u,u,u,u,u,u,u,u,u,u,u,u,u,u,u,u,u,u,u,u,u,u,u,u,u,u,u,u,u,u,u,u,u,u,u,u,u,u,u,u,u,u,u,u,u,u,u,u,u],[.box [.int .i64 v9,.nils],.box [.int .i64 v12,.own 2],.row 33 Y33 v13 true true 0]⟩=k0 v12 v13): ∀(n:Nat) (v4:Int) (v10:Int) (v11:List (Val Y33)),qD (qf tt Γ50 (T50 N) c) false qto Q n ⟨[u,.one (.int .i64 v3),u,.one (.ptr 0 0 0),u,.one (.ptr 1 0 0),.one (.ptr 2 0 0),u,.one (.ptr 3 0 0),.one (.int .i64 v4),u,u,u,u,u,u,u,u,u,u,u,u,u,u,u,u,u,u,u,u,u,u,u,u,u,u,u,u,u,u,u,u,u,u,u,u,u,u,u,u,u,u,u,u,u,u,u,u,u,u,u,u,u,u,u,u],[.box [.int .i64 v5,.sl 33 Y33 v6 0],.box [.int .i64 v7,.int .i64 v8],.box [.int .i64 v9,.nils],.box [.int .i64 v10,.own 4],.row 33 Y33 v11 true true 0]⟩=qhP N v3 v5 v6 v7 v8 v9 k0 n v4 v10 v11:=by
 subst hc;intro n;induction n with
 | zero=>intros;rfl
 | succ n ih=>
   intro v4 v10 v11
   rw [qN,zm3,qhP];unfold Tryz.f50
   simp (maxSteps:=10000000) -implicitDefEqProofs [qTi,qo0,qW3,qvN,qNz,qrR,qQs,qsy,qT2,qr7,qTr,qSp,qSt,qyM,qaa,qMQ,qgL,qTC,q0E,qVF,qJA,qHX,qLR,qWg,qQJ,qJB,q0m,qTu,q1A,qKd,qaK,qaX,qao,qnw,hret,h0,ih]
theorem zck (N:Nat) (v0:Val Y50) (v1:Int) (v2:Val Y28):qf tt Γ50 (T50 N) (Tryz.f50.body.getD .skip) (qm tt true [i50,i4] [.cell 6 50,.tmp 7]) (qp [i50,i3,i28] 66 (v0,v1,v2,()))=m50 N v0 v1 v2:=by
 unfold Tryz.f50
 simp (maxSteps:=10000000) -implicitDefEqProofs [qTi,qo0,qW3,qvN,qNz,qrR,qQs,qsy,qT2,qr7,qTr,qSp,qSt,qyM,qaa,qMQ,qgL,qTC,q0E,qVF,qJA,qHX,qLR,qWg,qQJ,qJB,q0m,qTu,q1A,qKd,qaK,qaX,qao,qnw]
 rewrite [zg9 (k0:=(fun (v14:Int) (v15:List (Val Y33))=>some ((v14,v15),true,()))) N _ _ _ _ _ _ ?_ ?_ ?_]
 ·rewrite [m50];first | rfl | simp (maxSteps:=10000000) -implicitDefEqProofs []
 ·rfl
 ·intro;simp only [qK,qL,qJ,qB]
 ·intro v14 v15;simp (maxSteps:=10000000) -implicitDefEqProofs [qTi,qo0,qW3,qvN,qNz,qrR,qQs,qsy,qT2,qr7,qTr,qSp,qSt,qyM,qaa,qMQ,qgL,qTC,q0E,qVF,qJA,qHX,qLR,qWg,qQJ,qJB,q0m,qTu,q1A,qKd,qaK,qaX,qao,qnw]
end Go.T
