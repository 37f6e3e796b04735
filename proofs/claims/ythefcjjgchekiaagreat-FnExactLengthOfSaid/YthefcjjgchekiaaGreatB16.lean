/- Bounds of a variable in a cell. -/
import Derived.Test.YthefcjjgchekiaaGreatB15
set_option linter.unusedSimpArgs false
set_option linter.unusedVariables false
namespace Go.T
open Go Go.Proofs
set_option maxHeartbeats 4000000
set_option maxRecDepth 100000
def qW (c:Val Y33) (v:Int):Val qa7×Bool:=bif qz c&&decide (0≤v∧v<(c.1:Int))then (match qch v (c.1:Int).toNat (qv c.1 c.2)with
    | some x=>(qbj x v,true)
    | none=>(noB,false))else (noB,false)
def qFW (c:Val Y33) (_:Int):Prop:=qbf c
def qo8:G:={ps:=[i33,i3],rs:=[q8,i4],dp:=true,pre:=fun _=>True,fn:=fun x=>((qW x.1 x.2.1).1,(qW x.1 x.2.1).2,())}
def qpv:G:={ps:=[i33,i3],rs:=[q8,i4],dp:=true,pre:=fun x=>qFW x.1 x.2.1,fn:=fun x=>((qW x.1 x.2.1).1,(qW x.1 x.2.1).2,())}
noncomputable def qiT (N:Nat) (v2:Int) (v4:Bool) (v5:Int) (v6:Int) (v7:Bool) (v8:Bool) (v9:Int) (v10:Int) (v11:Bool) (v12:Bool) (k0:Int→(List (Val qa))→Option (qc [q8,i4])):Nat→Int→Int→(List (Val qa))→Option (qc [q8,i4])
 | 0,_,_,_=>none
 | n+1,v3,v13,v14=>bif (decide ((0:Int)≤v3))then (bif (decide (v3=v2))then (qiT N v2 v4 v5 v6 v7 v8 v9 v10 v11 v12 k0 n (IntKind.i64.wrap (v3 - (1:Int))) v13 v14)else (bif (!((qcF (v13,v14) v3).2:Bool))then (some ((false,((0:Int),(0:Int)),false,false,((0:Int),(0:Int)),false,false),false,()))else (qiT N v2 v4 v5 v6 v7 v8 v9 v10 v11 v12 k0 n (IntKind.i64.wrap (v3 - (1:Int))) (((qcF (v13,v14) v3).1).1:Int) (((qcF (v13,v14) v3).1).2:List (Val qa)))))else (k0 v13 v14)
noncomputable def qEv (N:Nat) (v0:Val Y33) (v1:Int):Option (qc [q8,i4]):=bif (!((qz v0):Bool))then (some ((false,((0:Int),(0:Int)),false,false,((0:Int),(0:Int)),false,false),false,()))else (bif (decide (v1<(0:Int)))then (some ((false,((0:Int),(0:Int)),false,false,((0:Int),(0:Int)),false,false),false,()))else (bif (decide ((v0.1:Int)≤v1))then (some ((false,((0:Int),(0:Int)),false,false,((0:Int),(0:Int)),false,false),false,()))else (chk (qaF (v0.1:Int) (v0.2:List (Val qa))) (qiT N v1 false (0:Int) (0:Int) false false (0:Int) (0:Int) false false (fun (v17:Int) (v18:List (Val qa))=>chk (qlW (v17,v18)) (bif ((qbM (v17,v18)):Bool)then (some ((false,((0:Int),(0:Int)),false,false,((0:Int),(0:Int)),false,true),true,()))else (chk (qr0 (v17,v18) v1) (bif ((qy (v17,v18) v1).1:Bool)then (bif (((((qy (v17,v18) v1).2).2).2).1:Bool)then (bif (decide ((0:Int)<((qbB (((((qy (v17,v18) v1).2).1).1:Int),((((qy (v17,v18) v1).2).1).2:Int)) ((((((((qy (v17,v18) v1).2).2).2).2).1).1:Int),(((((((qy (v17,v18) v1).2).2).2).2).1).2:Int))):Int)))then (some ((false,((0:Int),(0:Int)),false,false,((0:Int),(0:Int)),false,true),true,()))else (bif (decide (((qbB (((((qy (v17,v18) v1).2).1).1:Int),((((qy (v17,v18) v1).2).1).2:Int)) ((((((((qy (v17,v18) v1).2).2).2).2).1).1:Int),(((((((qy (v17,v18) v1).2).2).2).2).1).2:Int))):Int)=(0:Int)))then (bif ((((qy (v17,v18) v1).2).2).1:Bool)then (some ((false,((0:Int),(0:Int)),false,false,((0:Int),(0:Int)),false,true),true,()))else (bif (((((((qy (v17,v18) v1).2).2).2).2).2).1:Bool)then (some ((false,((0:Int),(0:Int)),false,false,((0:Int),(0:Int)),false,true),true,()))else (some ((((qy (v17,v18) v1).1:Bool),(((((qy (v17,v18) v1).2).1).1:Int),((((qy (v17,v18) v1).2).1).2:Int)),((((qy (v17,v18) v1).2).2).1:Bool),(((((qy (v17,v18) v1).2).2).2).1:Bool),((((((((qy (v17,v18) v1).2).2).2).2).1).1:Int),(((((((qy (v17,v18) v1).2).2).2).2).1).2:Int)),(((((((qy (v17,v18) v1).2).2).2).2).2).1:Bool),(((((((qy (v17,v18) v1).2).2).2).2).2).2:Bool)),true,()))))else (some ((((qy (v17,v18) v1).1:Bool),(((((qy (v17,v18) v1).2).1).1:Int),((((qy (v17,v18) v1).2).1).2:Int)),((((qy (v17,v18) v1).2).2).1:Bool),(((((qy (v17,v18) v1).2).2).2).1:Bool),((((((((qy (v17,v18) v1).2).2).2).2).1).1:Int),(((((((qy (v17,v18) v1).2).2).2).2).1).2:Int)),(((((((qy (v17,v18) v1).2).2).2).2).2).1:Bool),(((((((qy (v17,v18) v1).2).2).2).2).2).2:Bool)),true,()))))else (some ((((qy (v17,v18) v1).1:Bool),(((((qy (v17,v18) v1).2).1).1:Int),((((qy (v17,v18) v1).2).1).2:Int)),((((qy (v17,v18) v1).2).2).1:Bool),(((((qy (v17,v18) v1).2).2).2).1:Bool),((((((((qy (v17,v18) v1).2).2).2).2).1).1:Int),(((((((qy (v17,v18) v1).2).2).2).2).1).2:Int)),(((((((qy (v17,v18) v1).2).2).2).2).2).1:Bool),(((((((qy (v17,v18) v1).2).2).2).2).2).2:Bool)),true,())))else (some ((((qy (v17,v18) v1).1:Bool),(((((qy (v17,v18) v1).2).1).1:Int),((((qy (v17,v18) v1).2).1).2:Int)),((((qy (v17,v18) v1).2).2).1:Bool),(((((qy (v17,v18) v1).2).2).2).1:Bool),((((((((qy (v17,v18) v1).2).2).2).2).1).1:Int),(((((((qy (v17,v18) v1).2).2).2).2).1).2:Int)),(((((((qy (v17,v18) v1).2).2).2).2).2).1:Bool),(((((((qy (v17,v18) v1).2).2).2).2).2).2:Bool)),true,())))))) N (IntKind.i64.wrap ((v0.1:Int) - (1:Int))) ((qv (v0.1:Int) (v0.2:List (Val qa))).1:Int) ((qv (v0.1:Int) (v0.2:List (Val qa))).2:List (Val qa))))))
def qeY:Gam:=[(127,qeU),(199,qaB),(228,qoq),(230,qbz),(237,qeM),(240,qgK)]
theorem qLZ:Gam.get qeY 127=some qeU:=rfl
theorem qMz:Gam.get qeY 199=some qaB:=rfl
theorem qZX:Gam.get qeY 228=some qoq:=rfl
theorem q1D:Gam.get qeY 230=some qbz:=rfl
theorem qQ8:Gam.get qeY 237=some qeM:=rfl
theorem qU8:Gam.get qeY 240=some qgK:=rfl
def qs9:Nm:=⟨[false,true,false,false,true,false,true,true],[],false⟩
theorem q0w:qs9.zero=false:=rfl
theorem qVx:qs9.fix=[]:=rfl
theorem qR8:qs9.keep=[false,true,false,false,true,false,true,true]:=rfl
def qE3:Nm:=⟨[false,true,false,false,true,false,true],[],false⟩
theorem qQD:qE3.zero=false:=rfl
theorem qRo:qE3.fix=[]:=rfl
theorem qJ8:qE3.keep=[false,true,false,false,true,false,true]:=rfl
def qng:Nat→Tree:=fun _=> .done
def qvm:Nat→Nm:=fun i=>if i=5 then qs9 else ⟨[],[],false⟩
def qq5:Nat→Option Jn:=fun _=>none
def qvY:Nat→Option Nm:=fun i=>if i=0 then some qE3 else none
def qv6:Nat→Option Nm:=fun _=>none
theorem zjp:qh qng (Tryz.f158.body.getD .skip)=true:=by kernel_rfl
def qdK (N:Nat):Tab:={tr:=qng,lp:=qvm,ex:=qvY,rg:=qv6,jn:=qq5,fuel:=N}
theorem q03 (N:Nat):(qdK N).pins=false:=rfl
theorem zrE (N:Nat):qk Tryz.prog (qdK N):=qo fun _=>rfl
theorem qJQ (N:Nat) (i:Nat):(qdK N).tr i=qng i:=rfl
theorem qOy (N:Nat) (i:Nat):(qdK N).lp i=qvm i:=rfl
theorem qUF (N:Nat) (i:Nat):(qdK N).ex i=qvY i:=rfl
theorem q3q (N:Nat) (i:Nat):(qdK N).rg i=qv6 i:=rfl
theorem q1B (N:Nat) (i:Nat):(qdK N).jn i=qq5 i:=rfl
theorem qWB (N:Nat):(qdK N).fuel=N:=rfl
noncomputable def q71:Code:=cut [true,true,true,false,true,true,true] (Tryz.f158.body.getD .skip)
theorem zzg {N:Nat} {Q:X→St→Option (qc [q8,i4])} {e:List LV} {h:List Blk}:qf tt qeY (qdK N) q71 Q ⟨e,h⟩=qf tt qeY (qdK N) (cut [true,true,true,false,true,true,true] (Tryz.f158.body.getD .skip)) Q ⟨e,h⟩:=rfl
theorem zyY (N:Nat) (v2:Int) (v4:Bool) (v5:Int) (v6:Int) (v7:Bool) (v8:Bool) (v9:Int) (v10:Int) (v11:Bool) (v12:Bool) {k0:Int→(List (Val qa))→Option (qc [q8,i4])} {Q:X→St→Option (qc [q8,i4])} {c:Code} (hc:c=q71) (hret: ∀st,Q .ret st=qC tt true [q8,i4] [.cell 4 130,.tmp 5] st) (h0: ∀(v15:Int) (v16:List (Val qa)),Q (.exit 0) ⟨[u,.one (.int .i64 v2),u,u,.one (.ptr 0 0 0),u,.one (.ptr 1 0 0),u,u,u,u,u,u,u,u,u,u,u,u,u,u,u,u,u,u,u,u,u,u,u,u,u,u,u,u,u,u,u,u,u,u,u,u,u,u,u,u,u,u,u,u,u,u,u,u,u,u,u,u,u,u,u,u,u,u,u,u,u,u,u,u,u,u,u,u,u,u,u,u,u,u,u,u,u],[.box [.bool v4,.int .i64 v5,.int .i64 v6,.bool v7,.bool v8,.int .i64 v9,.int .i64 v10,.bool v11,.bool v12],.box [.int .i64 v15,.own 2],.row 108 qa v16 true true 0]⟩=k0 v15 v16): ∀(n:Nat) (v3:Int) (v13:Int) (v14:List (Val qa)),qD (qf tt qeY (qdK N) c) false qs9 Q n ⟨[u,.one (.int .i64 v2),u,u,.one (.ptr 0 0 0),u,.one (.ptr 1 0 0),.one (.int .i64 v3),u,u,u,u,u,u,u,u,u,u,u,u,u,u,u,u,u,u,u,u,u,u,u,u,u,u,u,u,u,u,u,u,u,u,u,u,u,u,u,u,u,u,u,u,u,u,u,u,u,u,u,u,u,u,u,u,u,u,u,u,u,u,u,u,u,u,u,u,u,u,u,u,u,u,u,u],[.box [.bool v4,.int .i64 v5,.int .i64 v6,.bool v7,.bool v8,.int .i64 v9,.int .i64 v10,.bool v11,.bool v12],.box [.int .i64 v13,.own 2],.row 108 qa v14 true true 0]⟩=qiT N v2 v4 v5 v6 v7 v8 v9 v10 v11 v12 k0 n v3 v13 v14:=by
 subst hc;intro n;induction n with
 | zero=>intros;rfl
 | succ n ih=>
   intro v3 v13 v14
   rw [qN,zzg,qiT];unfold Tryz.f158
   simp (maxSteps:=10000000) -implicitDefEqProofs [qJQ,qng,qOy,qvm,qUF,qvY,q3q,qv6,q1B,qq5,qWB,q03,qVx,qR8,q0w,qRo,qJ8,qQD,qLZ,qMz,qZX,q1D,qQ8,qU8,qeU,qaB,qoq,qbz,qeM,qgK,hret,h0,ih]
theorem zbJ (N:Nat) (v0:Val Y33) (v1:Int):qf tt qeY (qdK N) (Tryz.f158.body.getD .skip) (qm tt true [q8,i4] [.cell 4 130,.tmp 5]) (qp [i33,i3] 84 (v0,v1,()))=qEv N v0 v1:=by
 unfold Tryz.f158
 simp (maxSteps:=10000000) -implicitDefEqProofs [qJQ,qng,qOy,qvm,qUF,qvY,q3q,qv6,q1B,qq5,qWB,q03,qVx,qR8,q0w,qRo,qJ8,qQD,qLZ,qMz,qZX,q1D,qQ8,qU8,qeU,qaB,qoq,qbz,qeM,qgK]
 rewrite [zyY (k0:=(fun (v17:Int) (v18:List (Val qa))=>chk (qlW (v17,v18)) (bif ((qbM (v17,v18)):Bool)then (some ((false,((0:Int),(0:Int)),false,false,((0:Int),(0:Int)),false,true),true,()))else (chk (qr0 (v17,v18) v1) (bif ((qy (v17,v18) v1).1:Bool)then (bif (((((qy (v17,v18) v1).2).2).2).1:Bool)then (bif (decide ((0:Int)<((qbB (((((qy (v17,v18) v1).2).1).1:Int),((((qy (v17,v18) v1).2).1).2:Int)) ((((((((qy (v17,v18) v1).2).2).2).2).1).1:Int),(((((((qy (v17,v18) v1).2).2).2).2).1).2:Int))):Int)))then (some ((false,((0:Int),(0:Int)),false,false,((0:Int),(0:Int)),false,true),true,()))else (bif (decide (((qbB (((((qy (v17,v18) v1).2).1).1:Int),((((qy (v17,v18) v1).2).1).2:Int)) ((((((((qy (v17,v18) v1).2).2).2).2).1).1:Int),(((((((qy (v17,v18) v1).2).2).2).2).1).2:Int))):Int)=(0:Int)))then (bif ((((qy (v17,v18) v1).2).2).1:Bool)then (some ((false,((0:Int),(0:Int)),false,false,((0:Int),(0:Int)),false,true),true,()))else (bif (((((((qy (v17,v18) v1).2).2).2).2).2).1:Bool)then (some ((false,((0:Int),(0:Int)),false,false,((0:Int),(0:Int)),false,true),true,()))else (some ((((qy (v17,v18) v1).1:Bool),(((((qy (v17,v18) v1).2).1).1:Int),((((qy (v17,v18) v1).2).1).2:Int)),((((qy (v17,v18) v1).2).2).1:Bool),(((((qy (v17,v18) v1).2).2).2).1:Bool),((((((((qy (v17,v18) v1).2).2).2).2).1).1:Int),(((((((qy (v17,v18) v1).2).2).2).2).1).2:Int)),(((((((qy (v17,v18) v1).2).2).2).2).2).1:Bool),(((((((qy (v17,v18) v1).2).2).2).2).2).2:Bool)),true,()))))else (some ((((qy (v17,v18) v1).1:Bool),(((((qy (v17,v18) v1).2).1).1:Int),((((qy (v17,v18) v1).2).1).2:Int)),((((qy (v17,v18) v1).2).2).1:Bool),(((((qy (v17,v18) v1).2).2).2).1:Bool),((((((((qy (v17,v18) v1).2).2).2).2).1).1:Int),(((((((qy (v17,v18) v1).2).2).2).2).1).2:Int)),(((((((qy (v17,v18) v1).2).2).2).2).2).1:Bool),(((((((qy (v17,v18) v1).2).2).2).2).2).2:Bool)),true,()))))else (some ((((qy (v17,v18) v1).1:Bool),(((((qy (v17,v18) v1).2).1).1:Int),((((qy (v17,v18) v1).2).1).2:Int)),((((qy (v17,v18) v1).2).2).1:Bool),(((((qy (v17,v18) v1).2).2).2).1:Bool),((((((((qy (v17,v18) v1).2).2).2).2).1).1:Int),(((((((qy (v17,v18) v1).2).2).2).2).1).2:Int)),(((((((qy (v17,v18) v1).2).2).2).2).2).1:Bool),(((((((qy (v17,v18) v1).2).2).2).2).2).2:Bool)),true,())))else (some ((((qy (v17,v18) v1).1:Bool),(((((qy (v17,v18) v1).2).1).1:Int),((((qy (v17,v18) v1).2).1).2:Int)),((((qy (v17,v18) v1).2).2).1:Bool),(((((qy (v17,v18) v1).2).2).2).1:Bool),((((((((qy (v17,v18) v1).2).2).2).2).1).1:Int),(((((((qy (v17,v18) v1).2).2).2).2).1).2:Int)),(((((((qy (v17,v18) v1).2).2).2).2).2).1:Bool),(((((((qy (v17,v18) v1).2).2).2).2).2).2:Bool)),true,()))))))) N _ _ _ _ _ _ _ _ _ _ ?_ ?_ ?_]
 ·rewrite [qEv];first | rfl | simp (maxSteps:=10000000) -implicitDefEqProofs []
 ·rfl
 ·intro;simp only [qK,qL,qJ,qB]
 ·intro v17 v18;simp (maxSteps:=10000000) -implicitDefEqProofs [qJQ,qng,qOy,qvm,qUF,qvY,q3q,qv6,q1B,qq5,qWB,q03,qVx,qR8,q0w,qRo,qJ8,qQD,qLZ,qMz,qZX,q1D,qQ8,qU8,qeU,qaB,qoq,qbz,qeM,qgK]
noncomputable def qiu (N:Nat) (v2:Int) (v4:Bool) (v5:Int) (v6:Int) (v7:Bool) (v8:Bool) (v9:Int) (v10:Int) (v11:Bool) (v12:Bool) (k0:Int→(List (Val qa))→Option (qc [q8,i4])):Nat→Int→Int→(List (Val qa))→Option (qc [q8,i4])
 | 0,_,_,_=>none
 | n+1,v3,v13,v14=>bif (decide ((0:Int)≤v3))then (bif (decide (v3=v2))then (qiu N v2 v4 v5 v6 v7 v8 v9 v10 v11 v12 k0 n (IntKind.i64.wrap (v3 - (1:Int))) v13 v14)else (chk (qnN (v13,v14) v3) (bif (!((qaq (v13,v14) v3).2:Bool))then (some ((false,((0:Int),(0:Int)),false,false,((0:Int),(0:Int)),false,false),false,()))else (qiu N v2 v4 v5 v6 v7 v8 v9 v10 v11 v12 k0 n (IntKind.i64.wrap (v3 - (1:Int))) (((qaq (v13,v14) v3).1).1:Int) (((qaq (v13,v14) v3).1).2:List (Val qa))))))else (k0 v13 v14)
noncomputable def qz6 (N:Nat) (v0:Val Y33) (v1:Int):Option (qc [q8,i4]):=chk (qbf v0) (bif (!((qz v0):Bool))then (some ((false,((0:Int),(0:Int)),false,false,((0:Int),(0:Int)),false,false),false,()))else (bif (!((inR v1 (0:Int) (IntKind.i64.wrap ((v0.1:Int) - (1:Int)))):Bool))then (some ((false,((0:Int),(0:Int)),false,false,((0:Int),(0:Int)),false,false),false,()))else (chk (qaF (v0.1:Int) (v0.2:List (Val qa))) (qiu N v1 false (0:Int) (0:Int) false false (0:Int) (0:Int) false false (fun (v17:Int) (v18:List (Val qa))=>chk (qnu (v17,v18) v1) (some ((((qbj (v17,v18) v1).1:Bool),(((((qbj (v17,v18) v1).2).1).1:Int),((((qbj (v17,v18) v1).2).1).2:Int)),((((qbj (v17,v18) v1).2).2).1:Bool),(((((qbj (v17,v18) v1).2).2).2).1:Bool),((((((((qbj (v17,v18) v1).2).2).2).2).1).1:Int),(((((((qbj (v17,v18) v1).2).2).2).2).1).2:Int)),(((((((qbj (v17,v18) v1).2).2).2).2).2).1:Bool),(((((((qbj (v17,v18) v1).2).2).2).2).2).2:Bool)),true,()))) N (IntKind.i64.wrap ((v0.1:Int) - (1:Int))) ((qv (v0.1:Int) (v0.2:List (Val qa))).1:Int) ((qv (v0.1:Int) (v0.2:List (Val qa))).2:List (Val qa))))))
def qgd:Gam:=[(104,qbt),(118,qao),(150,qai),(151,qeI),(206,qnY)]
theorem q1e:Gam.get qgd 104=some qbt:=rfl
theorem qSP:Gam.get qgd 118=some qao:=rfl
theorem qPN:Gam.get qgd 150=some qai:=rfl
theorem qZU:Gam.get qgd 151=some qeI:=rfl
theorem qMg:Gam.get qgd 206=some qnY:=rfl
def qyg:Nm:=⟨[false,true,false,false,true,false,true,true],[],false⟩
theorem q0V:qyg.zero=false:=rfl
theorem q3E:qyg.fix=[]:=rfl
theorem q0B:qyg.keep=[false,true,false,false,true,false,true,true]:=rfl
def qBK:Nm:=⟨[false,true,false,false,true,false,true],[],false⟩
theorem qJg:qBK.zero=false:=rfl
theorem q4I:qBK.fix=[]:=rfl
theorem qTo:qBK.keep=[false,true,false,false,true,false,true]:=rfl
def qnQ:Nat→Tree:=fun _=> .done
def qxJ:Nat→Nm:=fun i=>if i=5 then qyg else ⟨[],[],false⟩
def qwv:Nat→Option Jn:=fun _=>none
def qqg:Nat→Option Nm:=fun i=>if i=0 then some qBK else none
def qtU:Nat→Option Nm:=fun _=>none
theorem zhK:qh qnQ (Tryz.f121.body.getD .skip)=true:=by kernel_rfl
def qdh (N:Nat):Tab:={tr:=qnQ,lp:=qxJ,ex:=qqg,rg:=qtU,jn:=qwv,fuel:=N}
theorem qK9 (N:Nat):(qdh N).pins=false:=rfl
theorem zbd (N:Nat):qk Tryz.prog (qdh N):=qo fun _=>rfl
theorem qZO (N:Nat) (i:Nat):(qdh N).tr i=qnQ i:=rfl
theorem q27 (N:Nat) (i:Nat):(qdh N).lp i=qxJ i:=rfl
theorem qWq (N:Nat) (i:Nat):(qdh N).ex i=qqg i:=rfl
theorem qKm (N:Nat) (i:Nat):(qdh N).rg i=qtU i:=rfl
theorem qYd (N:Nat) (i:Nat):(qdh N).jn i=qwv i:=rfl
theorem q1P (N:Nat):(qdh N).fuel=N:=rfl
noncomputable def q8J:Code:=cut [true,true,true,false,true,true,true] (Tryz.f121.body.getD .skip)
theorem zkS {N:Nat} {Q:X→St→Option (qc [q8,i4])} {e:List LV} {h:List Blk}:qf tt qgd (qdh N) q8J Q ⟨e,h⟩=qf tt qgd (qdh N) (cut [true,true,true,false,true,true,true] (Tryz.f121.body.getD .skip)) Q ⟨e,h⟩:=rfl
theorem zqi (N:Nat) (v2:Int) (v4:Bool) (v5:Int) (v6:Int) (v7:Bool) (v8:Bool) (v9:Int) (v10:Int) (v11:Bool) (v12:Bool) {k0:Int→(List (Val qa))→Option (qc [q8,i4])} {Q:X→St→Option (qc [q8,i4])} {c:Code} (hc:c=q8J) (hret: ∀st,Q .ret st=qC tt true [q8,i4] [.cell 4 130,.tmp 5] st) (h0: ∀(v15:Int) (v16:List (Val qa)),Q (.exit 0) ⟨[u,.one (.int .i64 v2),u,u,.one (.ptr 0 0 0),u,.one (.ptr 1 0 0),u,u,u,u,u,u,u,u,u,u,u,u,u,u,u,u,u,u,u,u,u,u,u,u,u,u,u,u,u,u,u,u,u,u,u,u,u,u,u,u,u,u,u],[.box [.bool v4,.int .i64 v5,.int .i64 v6,.bool v7,.bool v8,.int .i64 v9,.int .i64 v10,.bool v11,.bool v12],.box [.int .i64 v15,.sl 108 qa v16 2]]⟩=k0 v15 v16): ∀(n:Nat) (v3:Int) (v13:Int) (v14:List (Val qa)),qD (qf tt qgd (qdh N) c) false qyg Q n ⟨[u,.one (.int .i64 v2),u,u,.one (.ptr 0 0 0),u,.one (.ptr 1 0 0),.one (.int .i64 v3),u,u,u,u,u,u,u,u,u,u,u,u,u,u,u,u,u,u,u,u,u,u,u,u,u,u,u,u,u,u,u,u,u,u,u,u,u,u,u,u,u,u],[.box [.bool v4,.int .i64 v5,.int .i64 v6,.bool v7,.bool v8,.int .i64 v9,.int .i64 v10,.bool v11,.bool v12],.box [.int .i64 v13,.sl 108 qa v14 2]]⟩=qiu N v2 v4 v5 v6 v7 v8 v9 v10 v11 v12 k0 n v3 v13 v14:=by
 subst hc;intro n;induction n with
 | zero=>intros;rfl
 | succ n ih=>
   intro v3 v13 v14
   rw [qN,zkS,qiu];unfold Tryz.f121
   simp (maxSteps:=10000000) -implicitDefEqProofs [qZO,qnQ,q27,qxJ,qWq,qqg,qKm,qtU,qYd,qwv,q1P,qK9,q3E,q0B,q0V,q4I,qTo,qJg,q1e,qSP,qPN,qZU,qMg,qbt,qao,qai,qeI,qnY,hret,h0,ih]
theorem zfs (N:Nat) (v0:Val Y33) (v1:Int):qf tt qgd (qdh N) (Tryz.f121.body.getD .skip) (qm tt true [q8,i4] [.cell 4 130,.tmp 5]) (qp [i33,i3] 50 (v0,v1,()))=qz6 N v0 v1:=by
 unfold Tryz.f121
 simp (maxSteps:=10000000) -implicitDefEqProofs [qZO,qnQ,q27,qxJ,qWq,qqg,qKm,qtU,qYd,qwv,q1P,qK9,q3E,q0B,q0V,q4I,qTo,qJg,q1e,qSP,qPN,qZU,qMg,qbt,qao,qai,qeI,qnY]
 rewrite [zqi (k0:=(fun (v17:Int) (v18:List (Val qa))=>chk (qnu (v17,v18) v1) (some ((((qbj (v17,v18) v1).1:Bool),(((((qbj (v17,v18) v1).2).1).1:Int),((((qbj (v17,v18) v1).2).1).2:Int)),((((qbj (v17,v18) v1).2).2).1:Bool),(((((qbj (v17,v18) v1).2).2).2).1:Bool),((((((((qbj (v17,v18) v1).2).2).2).2).1).1:Int),(((((((qbj (v17,v18) v1).2).2).2).2).1).2:Int)),(((((((qbj (v17,v18) v1).2).2).2).2).2).1:Bool),(((((((qbj (v17,v18) v1).2).2).2).2).2).2:Bool)),true,())))) N _ _ _ _ _ _ _ _ _ _ ?_ ?_ ?_]
 ·rewrite [qz6];first | rfl | simp (maxSteps:=10000000) -implicitDefEqProofs []
 ·rfl
 ·intro;simp only [qK,qL,qJ,qB]
 ·intro v17 v18;simp (maxSteps:=10000000) -implicitDefEqProofs [qZO,qnQ,q27,qxJ,qWq,qqg,qKm,qtU,qYd,qwv,q1P,qK9,q3E,q0B,q0V,q4I,qTo,qJg,q1e,qSP,qPN,qZU,qMg,qbt,qao,qai,qeI,qnY]
end Go.T
