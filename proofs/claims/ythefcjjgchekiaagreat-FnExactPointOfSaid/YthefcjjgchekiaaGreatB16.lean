/- Bounds of a variable in a cell. -/
import Derived.Test.YthefcjjgchekiaaGreatB15
set_option linter.unusedSimpArgs false
set_option linter.unusedVariables false
namespace Go.T
open Go Go.Proofs
set_option maxHeartbeats 4000000
set_option maxRecDepth 100000
def qA (c:Val Y33) (v:Int):Val qad×Bool:=bif qH c&&decide (0≤v∧v<(c.1:Int))then (match qbp v (c.1:Int).toNat (qO c.1 c.2)with
    | some x=>(qm x v,true)
    | none=>(noB,false))else (noB,false)
def qt4 (c:Val Y33) (_:Int):Prop:=qci c
def qdi:G:={ps:=[i33,i3],rs:=[qD,i4],dp:=true,pre:=fun _=>True,fn:=fun x=>((qA x.1 x.2.1).1,(qA x.1 x.2.1).2,())}
def qgR:G:={ps:=[i33,i3],rs:=[qD,i4],dp:=true,pre:=fun x=>qt4 x.1 x.2.1,fn:=fun x=>((qA x.1 x.2.1).1,(qA x.1 x.2.1).2,())}
noncomputable def qja (N:Nat) (v2:Int) (v4:Bool) (v5:Int) (v6:Int) (v7:Bool) (v8:Bool) (v9:Int) (v10:Int) (v11:Bool) (v12:Bool) (k0:Int→(List (Val qa))→Option (qc [qD,i4])):Nat→Int→Int→(List (Val qa))→Option (qc [qD,i4])
 | 0,_,_,_=>none
 | n+1,v3,v13,v14=>bif (decide ((0:Int)≤v3))then (bif (decide (v3=v2))then (qja N v2 v4 v5 v6 v7 v8 v9 v10 v11 v12 k0 n (IntKind.i64.wrap (v3 - (1:Int))) v13 v14)else (bif (!((qcp (v13,v14) v3).2:Bool))then (some ((false,((0:Int),(0:Int)),false,false,((0:Int),(0:Int)),false,false),false,()))else (qja N v2 v4 v5 v6 v7 v8 v9 v10 v11 v12 k0 n (IntKind.i64.wrap (v3 - (1:Int))) (((qcp (v13,v14) v3).1).1:Int) (((qcp (v13,v14) v3).1).2:List (Val qa)))))else (k0 v13 v14)
noncomputable def qDj (N:Nat) (v0:Val Y33) (v1:Int):Option (qc [qD,i4]):=bif (!((qH v0):Bool))then (some ((false,((0:Int),(0:Int)),false,false,((0:Int),(0:Int)),false,false),false,()))else (bif (decide (v1<(0:Int)))then (some ((false,((0:Int),(0:Int)),false,false,((0:Int),(0:Int)),false,false),false,()))else (bif (decide ((v0.1:Int)≤v1))then (some ((false,((0:Int),(0:Int)),false,false,((0:Int),(0:Int)),false,false),false,()))else (chk (qbR (v0.1:Int) (v0.2:List (Val qa))) (qja N v1 false (0:Int) (0:Int) false false (0:Int) (0:Int) false false (fun (v17:Int) (v18:List (Val qa))=>chk (qqd (v17,v18)) (bif ((qcK (v17,v18)):Bool)then (some ((false,((0:Int),(0:Int)),false,false,((0:Int),(0:Int)),false,true),true,()))else (chk (qhf (v17,v18) v1) (bif ((qf (v17,v18) v1).1:Bool)then (bif (((((qf (v17,v18) v1).2).2).2).1:Bool)then (bif (decide ((0:Int)<((qbd (((((qf (v17,v18) v1).2).1).1:Int),((((qf (v17,v18) v1).2).1).2:Int)) ((((((((qf (v17,v18) v1).2).2).2).2).1).1:Int),(((((((qf (v17,v18) v1).2).2).2).2).1).2:Int))):Int)))then (some ((false,((0:Int),(0:Int)),false,false,((0:Int),(0:Int)),false,true),true,()))else (bif (decide (((qbd (((((qf (v17,v18) v1).2).1).1:Int),((((qf (v17,v18) v1).2).1).2:Int)) ((((((((qf (v17,v18) v1).2).2).2).2).1).1:Int),(((((((qf (v17,v18) v1).2).2).2).2).1).2:Int))):Int)=(0:Int)))then (bif ((((qf (v17,v18) v1).2).2).1:Bool)then (some ((false,((0:Int),(0:Int)),false,false,((0:Int),(0:Int)),false,true),true,()))else (bif (((((((qf (v17,v18) v1).2).2).2).2).2).1:Bool)then (some ((false,((0:Int),(0:Int)),false,false,((0:Int),(0:Int)),false,true),true,()))else (some ((((qf (v17,v18) v1).1:Bool),(((((qf (v17,v18) v1).2).1).1:Int),((((qf (v17,v18) v1).2).1).2:Int)),((((qf (v17,v18) v1).2).2).1:Bool),(((((qf (v17,v18) v1).2).2).2).1:Bool),((((((((qf (v17,v18) v1).2).2).2).2).1).1:Int),(((((((qf (v17,v18) v1).2).2).2).2).1).2:Int)),(((((((qf (v17,v18) v1).2).2).2).2).2).1:Bool),(((((((qf (v17,v18) v1).2).2).2).2).2).2:Bool)),true,()))))else (some ((((qf (v17,v18) v1).1:Bool),(((((qf (v17,v18) v1).2).1).1:Int),((((qf (v17,v18) v1).2).1).2:Int)),((((qf (v17,v18) v1).2).2).1:Bool),(((((qf (v17,v18) v1).2).2).2).1:Bool),((((((((qf (v17,v18) v1).2).2).2).2).1).1:Int),(((((((qf (v17,v18) v1).2).2).2).2).1).2:Int)),(((((((qf (v17,v18) v1).2).2).2).2).2).1:Bool),(((((((qf (v17,v18) v1).2).2).2).2).2).2:Bool)),true,()))))else (some ((((qf (v17,v18) v1).1:Bool),(((((qf (v17,v18) v1).2).1).1:Int),((((qf (v17,v18) v1).2).1).2:Int)),((((qf (v17,v18) v1).2).2).1:Bool),(((((qf (v17,v18) v1).2).2).2).1:Bool),((((((((qf (v17,v18) v1).2).2).2).2).1).1:Int),(((((((qf (v17,v18) v1).2).2).2).2).1).2:Int)),(((((((qf (v17,v18) v1).2).2).2).2).2).1:Bool),(((((((qf (v17,v18) v1).2).2).2).2).2).2:Bool)),true,())))else (some ((((qf (v17,v18) v1).1:Bool),(((((qf (v17,v18) v1).2).1).1:Int),((((qf (v17,v18) v1).2).1).2:Int)),((((qf (v17,v18) v1).2).2).1:Bool),(((((qf (v17,v18) v1).2).2).2).1:Bool),((((((((qf (v17,v18) v1).2).2).2).2).1).1:Int),(((((((qf (v17,v18) v1).2).2).2).2).1).2:Int)),(((((((qf (v17,v18) v1).2).2).2).2).2).1:Bool),(((((((qf (v17,v18) v1).2).2).2).2).2).2:Bool)),true,())))))) N (IntKind.i64.wrap ((v0.1:Int) - (1:Int))) ((qO (v0.1:Int) (v0.2:List (Val qa))).1:Int) ((qO (v0.1:Int) (v0.2:List (Val qa))).2:List (Val qa))))))
def qeF:Gam:=[(127,qck),(199,qaS),(228,qcw),(230,qcP),(237,qeA),(240,qnU)]
theorem qWx:Gam.get qeF 127=some qck:=rfl
theorem qIz:Gam.get qeF 199=some qaS:=rfl
theorem qGF:Gam.get qeF 228=some qcw:=rfl
theorem qYb:Gam.get qeF 230=some qcP:=rfl
theorem qRc:Gam.get qeF 237=some qeA:=rfl
theorem qV2:Gam.get qeF 240=some qnU:=rfl
def qtx:Nm:=⟨[false,true,false,false,true,false,true,true],[],false⟩
theorem qTX:qtx.zero=false:=rfl
theorem qQ3:qtx.fix=[]:=rfl
theorem qM5:qtx.keep=[false,true,false,false,true,false,true,true]:=rfl
def qDk:Nm:=⟨[false,true,false,false,true,false,true],[],false⟩
theorem qM3:qDk.zero=false:=rfl
theorem qFr:qDk.fix=[]:=rfl
theorem qLA:qDk.keep=[false,true,false,false,true,false,true]:=rfl
def qng:Nat→Tree:=fun _=> .done
def qrn:Nat→Nm:=fun i=>if i=5 then qtx else ⟨[],[],false⟩
def qwK:Nat→Option Jn:=fun _=>none
def qvQ:Nat→Option Nm:=fun i=>if i=0 then some qDk else none
def qug:Nat→Option Nm:=fun _=>none
theorem zfj:qn qng (Tryz.f158.body.getD .skip)=true:=by kernel_rfl
def qdm (N:Nat):Tab:={tr:=qng,lp:=qrn,ex:=qvQ,rg:=qug,jn:=qwK,fuel:=N}
theorem qQZ (N:Nat):(qdm N).pins=false:=rfl
theorem q7L (N:Nat):qp Tryz.prog (qdm N):=qv fun _=>rfl
theorem qTh (N:Nat) (i:Nat):(qdm N).tr i=qng i:=rfl
theorem qNl (N:Nat) (i:Nat):(qdm N).lp i=qrn i:=rfl
theorem qTL (N:Nat) (i:Nat):(qdm N).ex i=qvQ i:=rfl
theorem qFh (N:Nat) (i:Nat):(qdm N).rg i=qug i:=rfl
theorem qIA (N:Nat) (i:Nat):(qdm N).jn i=qwK i:=rfl
theorem qLM (N:Nat):(qdm N).fuel=N:=rfl
noncomputable def q03:Code:=cut [true,true,true,false,true,true,true] (Tryz.f158.body.getD .skip)
theorem q82 {N:Nat} {Q:X→St→Option (qc [qD,i4])} {e:List LV} {h:List Blk}:qe tt qeF (qdm N) q03 Q ⟨e,h⟩=qe tt qeF (qdm N) (cut [true,true,true,false,true,true,true] (Tryz.f158.body.getD .skip)) Q ⟨e,h⟩:=rfl
theorem zew (N:Nat) (v2:Int) (v4:Bool) (v5:Int) (v6:Int) (v7:Bool) (v8:Bool) (v9:Int) (v10:Int) (v11:Bool) (v12:Bool) {k0:Int→(List (Val qa))→Option (qc [qD,i4])} {Q:X→St→Option (qc [qD,i4])} {c:Code} (hc:c=q03) (hret: ∀st,Q .ret st=qI tt true [qD,i4] [.cell 4 130,.tmp 5] st) (h0: ∀(v15:Int) (v16:List (Val qa)),Q (.exit 0) ⟨[u,.one (.int .i64 v2),u,u,.one (.ptr 0 0 0),u,.one (.ptr 1 0 0),u,u,u,u,u,u,u,u,u,u,u,u,u,u,u,u,u,u,u,u,u,u,u,u,u,u,u,u,u,u,u,u,u,u,u,u,u,u,u,u,u,u,u,u,u,u,u,u,u,u,u,u,u,u,u,u,u,u,u,u,u,u,u,u,u,u,u,u,u,u,u,u,u,u,u,u,u],[.box [.bool v4,.int .i64 v5,.int .i64 v6,.bool v7,.bool v8,.int .i64 v9,.int .i64 v10,.bool v11,.bool v12],.box [.int .i64 v15,.own 2],.row 108 qa v16 true true 0]⟩=k0 v15 v16): ∀(n:Nat) (v3:Int) (v13:Int) (v14:List (Val qa)),qE (qe tt qeF (qdm N) c) false qtx Q n ⟨[u,.one (.int .i64 v2),u,u,.one (.ptr 0 0 0),u,.one (.ptr 1 0 0),.one (.int .i64 v3),u,u,u,u,u,u,u,u,u,u,u,u,u,u,u,u,u,u,u,u,u,u,u,u,u,u,u,u,u,u,u,u,u,u,u,u,u,u,u,u,u,u,u,u,u,u,u,u,u,u,u,u,u,u,u,u,u,u,u,u,u,u,u,u,u,u,u,u,u,u,u,u,u,u,u,u],[.box [.bool v4,.int .i64 v5,.int .i64 v6,.bool v7,.bool v8,.int .i64 v9,.int .i64 v10,.bool v11,.bool v12],.box [.int .i64 v13,.own 2],.row 108 qa v14 true true 0]⟩=qja N v2 v4 v5 v6 v7 v8 v9 v10 v11 v12 k0 n v3 v13 v14:=by
 subst hc;intro n;induction n with
 | zero=>intros;rfl
 | succ n ih=>
   intro v3 v13 v14
   rw [qN,q82,qja];unfold Tryz.f158
   simp (maxSteps:=10000000) -implicitDefEqProofs [qTh,qng,qNl,qrn,qTL,qvQ,qFh,qug,qIA,qwK,qLM,qQZ,qQ3,qM5,qTX,qFr,qLA,qM3,qWx,qIz,qGF,qYb,qRc,qV2,qck,qaS,qcw,qcP,qeA,qnU,hret,h0,ih]
theorem q9I (N:Nat) (v0:Val Y33) (v1:Int):qe tt qeF (qdm N) (Tryz.f158.body.getD .skip) (qt tt true [qD,i4] [.cell 4 130,.tmp 5]) (qw [i33,i3] 84 (v0,v1,()))=qDj N v0 v1:=by
 unfold Tryz.f158
 simp (maxSteps:=10000000) -implicitDefEqProofs [qTh,qng,qNl,qrn,qTL,qvQ,qFh,qug,qIA,qwK,qLM,qQZ,qQ3,qM5,qTX,qFr,qLA,qM3,qWx,qIz,qGF,qYb,qRc,qV2,qck,qaS,qcw,qcP,qeA,qnU]
 rewrite [zew (k0:=(fun (v17:Int) (v18:List (Val qa))=>chk (qqd (v17,v18)) (bif ((qcK (v17,v18)):Bool)then (some ((false,((0:Int),(0:Int)),false,false,((0:Int),(0:Int)),false,true),true,()))else (chk (qhf (v17,v18) v1) (bif ((qf (v17,v18) v1).1:Bool)then (bif (((((qf (v17,v18) v1).2).2).2).1:Bool)then (bif (decide ((0:Int)<((qbd (((((qf (v17,v18) v1).2).1).1:Int),((((qf (v17,v18) v1).2).1).2:Int)) ((((((((qf (v17,v18) v1).2).2).2).2).1).1:Int),(((((((qf (v17,v18) v1).2).2).2).2).1).2:Int))):Int)))then (some ((false,((0:Int),(0:Int)),false,false,((0:Int),(0:Int)),false,true),true,()))else (bif (decide (((qbd (((((qf (v17,v18) v1).2).1).1:Int),((((qf (v17,v18) v1).2).1).2:Int)) ((((((((qf (v17,v18) v1).2).2).2).2).1).1:Int),(((((((qf (v17,v18) v1).2).2).2).2).1).2:Int))):Int)=(0:Int)))then (bif ((((qf (v17,v18) v1).2).2).1:Bool)then (some ((false,((0:Int),(0:Int)),false,false,((0:Int),(0:Int)),false,true),true,()))else (bif (((((((qf (v17,v18) v1).2).2).2).2).2).1:Bool)then (some ((false,((0:Int),(0:Int)),false,false,((0:Int),(0:Int)),false,true),true,()))else (some ((((qf (v17,v18) v1).1:Bool),(((((qf (v17,v18) v1).2).1).1:Int),((((qf (v17,v18) v1).2).1).2:Int)),((((qf (v17,v18) v1).2).2).1:Bool),(((((qf (v17,v18) v1).2).2).2).1:Bool),((((((((qf (v17,v18) v1).2).2).2).2).1).1:Int),(((((((qf (v17,v18) v1).2).2).2).2).1).2:Int)),(((((((qf (v17,v18) v1).2).2).2).2).2).1:Bool),(((((((qf (v17,v18) v1).2).2).2).2).2).2:Bool)),true,()))))else (some ((((qf (v17,v18) v1).1:Bool),(((((qf (v17,v18) v1).2).1).1:Int),((((qf (v17,v18) v1).2).1).2:Int)),((((qf (v17,v18) v1).2).2).1:Bool),(((((qf (v17,v18) v1).2).2).2).1:Bool),((((((((qf (v17,v18) v1).2).2).2).2).1).1:Int),(((((((qf (v17,v18) v1).2).2).2).2).1).2:Int)),(((((((qf (v17,v18) v1).2).2).2).2).2).1:Bool),(((((((qf (v17,v18) v1).2).2).2).2).2).2:Bool)),true,()))))else (some ((((qf (v17,v18) v1).1:Bool),(((((qf (v17,v18) v1).2).1).1:Int),((((qf (v17,v18) v1).2).1).2:Int)),((((qf (v17,v18) v1).2).2).1:Bool),(((((qf (v17,v18) v1).2).2).2).1:Bool),((((((((qf (v17,v18) v1).2).2).2).2).1).1:Int),(((((((qf (v17,v18) v1).2).2).2).2).1).2:Int)),(((((((qf (v17,v18) v1).2).2).2).2).2).1:Bool),(((((((qf (v17,v18) v1).2).2).2).2).2).2:Bool)),true,())))else (some ((((qf (v17,v18) v1).1:Bool),(((((qf (v17,v18) v1).2).1).1:Int),((((qf (v17,v18) v1).2).1).2:Int)),((((qf (v17,v18) v1).2).2).1:Bool),(((((qf (v17,v18) v1).2).2).2).1:Bool),((((((((qf (v17,v18) v1).2).2).2).2).1).1:Int),(((((((qf (v17,v18) v1).2).2).2).2).1).2:Int)),(((((((qf (v17,v18) v1).2).2).2).2).2).1:Bool),(((((((qf (v17,v18) v1).2).2).2).2).2).2:Bool)),true,()))))))) N _ _ _ _ _ _ _ _ _ _ ?_ ?_ ?_]
 ·rewrite [qDj];first | rfl | simp (maxSteps:=10000000) -implicitDefEqProofs []
 ·rfl
 ·intro;simp only [qJ,qL,qK,qB]
 ·intro v17 v18;simp (maxSteps:=10000000) -implicitDefEqProofs [qTh,qng,qNl,qrn,qTL,qvQ,qFh,qug,qIA,qwK,qLM,qQZ,qQ3,qM5,qTX,qFr,qLA,qM3,qWx,qIz,qGF,qYb,qRc,qV2,qck,qaS,qcw,qcP,qeA,qnU]
noncomputable def qir (N:Nat) (v2:Int) (v4:Bool) (v5:Int) (v6:Int) (v7:Bool) (v8:Bool) (v9:Int) (v10:Int) (v11:Bool) (v12:Bool) (k0:Int→(List (Val qa))→Option (qc [qD,i4])):Nat→Int→Int→(List (Val qa))→Option (qc [qD,i4])
 | 0,_,_,_=>none
 | n+1,v3,v13,v14=>bif (decide ((0:Int)≤v3))then (bif (decide (v3=v2))then (qir N v2 v4 v5 v6 v7 v8 v9 v10 v11 v12 k0 n (IntKind.i64.wrap (v3 - (1:Int))) v13 v14)else (chk (qnm (v13,v14) v3) (bif (!((qU (v13,v14) v3).2:Bool))then (some ((false,((0:Int),(0:Int)),false,false,((0:Int),(0:Int)),false,false),false,()))else (qir N v2 v4 v5 v6 v7 v8 v9 v10 v11 v12 k0 n (IntKind.i64.wrap (v3 - (1:Int))) (((qU (v13,v14) v3).1).1:Int) (((qU (v13,v14) v3).1).2:List (Val qa))))))else (k0 v13 v14)
noncomputable def qBa (N:Nat) (v0:Val Y33) (v1:Int):Option (qc [qD,i4]):=chk (qci v0) (bif (!((qH v0):Bool))then (some ((false,((0:Int),(0:Int)),false,false,((0:Int),(0:Int)),false,false),false,()))else (bif (!((inR v1 (0:Int) (IntKind.i64.wrap ((v0.1:Int) - (1:Int)))):Bool))then (some ((false,((0:Int),(0:Int)),false,false,((0:Int),(0:Int)),false,false),false,()))else (chk (qbR (v0.1:Int) (v0.2:List (Val qa))) (qir N v1 false (0:Int) (0:Int) false false (0:Int) (0:Int) false false (fun (v17:Int) (v18:List (Val qa))=>chk (qe5 (v17,v18) v1) (some ((((qm (v17,v18) v1).1:Bool),(((((qm (v17,v18) v1).2).1).1:Int),((((qm (v17,v18) v1).2).1).2:Int)),((((qm (v17,v18) v1).2).2).1:Bool),(((((qm (v17,v18) v1).2).2).2).1:Bool),((((((((qm (v17,v18) v1).2).2).2).2).1).1:Int),(((((((qm (v17,v18) v1).2).2).2).2).1).2:Int)),(((((((qm (v17,v18) v1).2).2).2).2).2).1:Bool),(((((((qm (v17,v18) v1).2).2).2).2).2).2:Bool)),true,()))) N (IntKind.i64.wrap ((v0.1:Int) - (1:Int))) ((qO (v0.1:Int) (v0.2:List (Val qa))).1:Int) ((qO (v0.1:Int) (v0.2:List (Val qa))).2:List (Val qa))))))
def qfP:Gam:=[(104,qa8),(118,qam),(150,qaW),(151,qb7),(206,qcb)]
theorem qL2:Gam.get qfP 104=some qa8:=rfl
theorem qLp:Gam.get qfP 118=some qam:=rfl
theorem qON:Gam.get qfP 150=some qaW:=rfl
theorem qOG:Gam.get qfP 151=some qb7:=rfl
theorem qTN:Gam.get qfP 206=some qcb:=rfl
def qsI:Nm:=⟨[false,true,false,false,true,false,true,true],[],false⟩
theorem qIh:qsI.zero=false:=rfl
theorem qU4:qsI.fix=[]:=rfl
theorem qXH:qsI.keep=[false,true,false,false,true,false,true,true]:=rfl
def qD0:Nm:=⟨[false,true,false,false,true,false,true],[],false⟩
theorem qXh:qD0.zero=false:=rfl
theorem qPA:qD0.fix=[]:=rfl
theorem qLR:qD0.keep=[false,true,false,false,true,false,true]:=rfl
def qpk:Nat→Tree:=fun _=> .done
def qrc:Nat→Nm:=fun i=>if i=5 then qsI else ⟨[],[],false⟩
def qs0:Nat→Option Jn:=fun _=>none
def qqo:Nat→Option Nm:=fun i=>if i=0 then some qD0 else none
def qws:Nat→Option Nm:=fun _=>none
theorem zma:qn qpk (Tryz.f121.body.getD .skip)=true:=by kernel_rfl
def qc8 (N:Nat):Tab:={tr:=qpk,lp:=qrc,ex:=qqo,rg:=qws,jn:=qs0,fuel:=N}
theorem qMs (N:Nat):(qc8 N).pins=false:=rfl
theorem zqD (N:Nat):qp Tryz.prog (qc8 N):=qv fun _=>rfl
theorem qI5 (N:Nat) (i:Nat):(qc8 N).tr i=qpk i:=rfl
theorem qLY (N:Nat) (i:Nat):(qc8 N).lp i=qrc i:=rfl
theorem qXA (N:Nat) (i:Nat):(qc8 N).ex i=qqo i:=rfl
theorem qVE (N:Nat) (i:Nat):(qc8 N).rg i=qws i:=rfl
theorem qKM (N:Nat) (i:Nat):(qc8 N).jn i=qs0 i:=rfl
theorem qIZ (N:Nat):(qc8 N).fuel=N:=rfl
noncomputable def q3H:Code:=cut [true,true,true,false,true,true,true] (Tryz.f121.body.getD .skip)
theorem zaW {N:Nat} {Q:X→St→Option (qc [qD,i4])} {e:List LV} {h:List Blk}:qe tt qfP (qc8 N) q3H Q ⟨e,h⟩=qe tt qfP (qc8 N) (cut [true,true,true,false,true,true,true] (Tryz.f121.body.getD .skip)) Q ⟨e,h⟩:=rfl
theorem q9v (N:Nat) (v2:Int) (v4:Bool) (v5:Int) (v6:Int) (v7:Bool) (v8:Bool) (v9:Int) (v10:Int) (v11:Bool) (v12:Bool) {k0:Int→(List (Val qa))→Option (qc [qD,i4])} {Q:X→St→Option (qc [qD,i4])} {c:Code} (hc:c=q3H) (hret: ∀st,Q .ret st=qI tt true [qD,i4] [.cell 4 130,.tmp 5] st) (h0: ∀(v15:Int) (v16:List (Val qa)),Q (.exit 0) ⟨[u,.one (.int .i64 v2),u,u,.one (.ptr 0 0 0),u,.one (.ptr 1 0 0),u,u,u,u,u,u,u,u,u,u,u,u,u,u,u,u,u,u,u,u,u,u,u,u,u,u,u,u,u,u,u,u,u,u,u,u,u,u,u,u,u,u,u],[.box [.bool v4,.int .i64 v5,.int .i64 v6,.bool v7,.bool v8,.int .i64 v9,.int .i64 v10,.bool v11,.bool v12],.box [.int .i64 v15,.sl 108 qa v16 2]]⟩=k0 v15 v16): ∀(n:Nat) (v3:Int) (v13:Int) (v14:List (Val qa)),qE (qe tt qfP (qc8 N) c) false qsI Q n ⟨[u,.one (.int .i64 v2),u,u,.one (.ptr 0 0 0),u,.one (.ptr 1 0 0),.one (.int .i64 v3),u,u,u,u,u,u,u,u,u,u,u,u,u,u,u,u,u,u,u,u,u,u,u,u,u,u,u,u,u,u,u,u,u,u,u,u,u,u,u,u,u,u],[.box [.bool v4,.int .i64 v5,.int .i64 v6,.bool v7,.bool v8,.int .i64 v9,.int .i64 v10,.bool v11,.bool v12],.box [.int .i64 v13,.sl 108 qa v14 2]]⟩=qir N v2 v4 v5 v6 v7 v8 v9 v10 v11 v12 k0 n v3 v13 v14:=by
 subst hc;intro n;induction n with
 | zero=>intros;rfl
 | succ n ih=>
   intro v3 v13 v14
   rw [qN,zaW,qir];unfold Tryz.f121
   simp (maxSteps:=10000000) -implicitDefEqProofs [qI5,qpk,qLY,qrc,qXA,qqo,qVE,qws,qKM,qs0,qIZ,qMs,qU4,qXH,qIh,qPA,qLR,qXh,qL2,qLp,qON,qOG,qTN,qa8,qam,qaW,qb7,qcb,hret,h0,ih]
theorem q9i (N:Nat) (v0:Val Y33) (v1:Int):qe tt qfP (qc8 N) (Tryz.f121.body.getD .skip) (qt tt true [qD,i4] [.cell 4 130,.tmp 5]) (qw [i33,i3] 50 (v0,v1,()))=qBa N v0 v1:=by
 unfold Tryz.f121
 simp (maxSteps:=10000000) -implicitDefEqProofs [qI5,qpk,qLY,qrc,qXA,qqo,qVE,qws,qKM,qs0,qIZ,qMs,qU4,qXH,qIh,qPA,qLR,qXh,qL2,qLp,qON,qOG,qTN,qa8,qam,qaW,qb7,qcb]
 rewrite [q9v (k0:=(fun (v17:Int) (v18:List (Val qa))=>chk (qe5 (v17,v18) v1) (some ((((qm (v17,v18) v1).1:Bool),(((((qm (v17,v18) v1).2).1).1:Int),((((qm (v17,v18) v1).2).1).2:Int)),((((qm (v17,v18) v1).2).2).1:Bool),(((((qm (v17,v18) v1).2).2).2).1:Bool),((((((((qm (v17,v18) v1).2).2).2).2).1).1:Int),(((((((qm (v17,v18) v1).2).2).2).2).1).2:Int)),(((((((qm (v17,v18) v1).2).2).2).2).2).1:Bool),(((((((qm (v17,v18) v1).2).2).2).2).2).2:Bool)),true,())))) N _ _ _ _ _ _ _ _ _ _ ?_ ?_ ?_]
 ·rewrite [qBa];first | rfl | simp (maxSteps:=10000000) -implicitDefEqProofs []
 ·rfl
 ·intro;simp only [qJ,qL,qK,qB]
 ·intro v17 v18;simp (maxSteps:=10000000) -implicitDefEqProofs [qI5,qpk,qLY,qrc,qXA,qqo,qVE,qws,qKM,qs0,qIZ,qMs,qU4,qXH,qIh,qPA,qLR,qXh,qL2,qLp,qON,qOG,qTN,qa8,qam,qaW,qb7,qcb]
end Go.T
