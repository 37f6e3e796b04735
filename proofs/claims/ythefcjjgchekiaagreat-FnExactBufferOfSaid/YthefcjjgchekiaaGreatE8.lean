/- Neat regions: run. -/
import Derived.Test.YthefcjjgchekiaaGreatE7
set_option linter.unusedSimpArgs false
set_option linter.unusedVariables false
namespace Go.T
open Go Go.Proofs
set_option maxHeartbeats 4000000
set_option maxRecDepth 100000
def qbt (f:qb [i33]→qb [i33,i4]):List (Val Y33)→Val Y50→Val Y50×Bool
 | [],r=>(r,true)
 | c::cs,r=>bif (f (c,())).2.1 then (bif (qbb r (f (c,())).1).2 then qbt f cs (qbb r (f (c,())).1).1 else qvy)else qvy
def qii (f:qb [i33]→qb [i33,i4]) (x:Val Y50):Val Y50×Bool:=qbt f x.2 (x.1,[])
def qAb (p:qb [i33]→Prop) (_:qb [i33]→qb [i33,i4]) (x:Val Y50):Prop:=List.length (α:=Val Y33) x.2≤12∧ ∀c∈(x.2:List (Val Y33)),p (c,())
def qI2:Gh:={r:=i50,ps:=[i33],qs:=[i33,i4],rs:=[i50,i4],pre:=fun p f x=>qAb p f x,fn:=fun f x=>((qii f x).1,(qii f x).2,())}
noncomputable def qje (N:HN [i33] [i33,i4]) (v1:List (Val Y33)) (v2:Int) (v4:Int) (k0:Int→(List (Val Y33))→Option (qb [i50,i4])):Nat→Int→Int→(List (Val Y33))→Option (qb [i50,i4])
 | 0,_,_,_=>none
 | n+1,v3,v5,v6=>bif (decide (v3<v2))then (chk (0≤v3∧v3<(v1.length:Int)) (chk (N.pre ((v1.getD v3.toNat (qc Y33)),())) (bif (!((N.fn ((v1.getD v3.toNat (qc Y33)),())).2.1:Bool))then (some (((0:Int),([]:List (Val Y33))),false,()))else (chk (qAM (v5,v6) ((N.fn ((v1.getD v3.toNat (qc Y33)),())).1)) (bif (!((qvj (v5,v6) ((N.fn ((v1.getD v3.toNat (qc Y33)),())).1)):Bool))then (some (((0:Int),([]:List (Val Y33))),false,()))else (qje N v1 v2 v4 k0 n (IntKind.i64.wrap (v3+(1:Int))) ((qrV (v5,v6) ((N.fn ((v1.getD v3.toNat (qc Y33)),())).1)).1:Int) ((qrV (v5,v6) ((N.fn ((v1.getD v3.toNat (qc Y33)),())).1)).2:List (Val Y33))))))))else (k0 v5 v6)
noncomputable def qvb (N:HN [i33] [i33,i4]) (v0:Val Y50):Option (qb [i50,i4]):=qje N (v0.2:List (Val Y33)) ((v0.2:List (Val Y33)).length:Int) (0:Int) (fun (v9:Int) (v10:List (Val Y33))=>some ((v9,v10),true,())) N (0:Int) (v0.1:Int) ([]:List (Val Y33))
def ql6:Gam:=[]
theorem qDS:Gam.get ql6 222=none:=rfl
def qp8:Nm:=⟨[false,true,false,false,true,false,true,false,false,false,false,false,false,false,false,false,true,true,true],[],true⟩
theorem qIr:qp8.zero=true:=rfl
theorem qC7:qp8.fix=[]:=rfl
theorem qIE:qp8.keep=[false,true,false,false,true,false,true,false,false,false,false,false,false,false,false,false,true,true,true]:=rfl
def qzB:Nm:=⟨[false,false,false,false,true,false,true],[],true⟩
theorem qNN:qzB.zero=true:=rfl
theorem qKk:qzB.fix=[]:=rfl
theorem qF1:qzB.keep=[false,false,false,false,true,false,true]:=rfl
def qtz (N:HN [i33] [i33,i4]):Sem:=qs8 N.fv [i33] [i33,i4] N.pre N.fn (quA [(222,qpo)] [])
def qmX:Nat→Tree:=fun _=> .done
def qpO:Nat→Nm:=fun i=>if i=3 then qp8 else ⟨[],[],false⟩
def qoC:Nat→Option Jn:=fun _=>none
def qsk:Nat→Option Nm:=fun i=>if i=0 then some qzB else none
def qsZ:Nat→Option Nm:=fun _=>none
theorem zaa:qj qmX (Tryz.f144.body.getD .skip)=true:=by kernel_rfl
def qcs (N:HN [i33] [i33,i4]):Tab:={tr:=qmX,lp:=qpO,ex:=qsk,rg:=qsZ,jn:=qoC,fuel:=N,sem:=qtz N}
theorem qNZ (N:HN [i33] [i33,i4]):(qcs N).pins=false:=rfl
theorem q7c (N:HN [i33] [i33,i4]):qn Tryz.prog (qcs N):=qr fun _=>rfl
theorem qFg (N:HN [i33] [i33,i4]):(qcs N).sem=qtz N:=rfl
theorem qIu (N:HN [i33] [i33,i4]) (i:Nat):(qcs N).tr i=qmX i:=rfl
theorem qHK (N:HN [i33] [i33,i4]) (i:Nat):(qcs N).lp i=qpO i:=rfl
theorem qET (N:HN [i33] [i33,i4]) (i:Nat):(qcs N).ex i=qsk i:=rfl
theorem qFD (N:HN [i33] [i33,i4]) (i:Nat):(qcs N).rg i=qsZ i:=rfl
theorem qHq (N:HN [i33] [i33,i4]) (i:Nat):(qcs N).jn i=qoC i:=rfl
theorem qMU (N:HN [i33] [i33,i4]):(qcs N).fuel=N:=rfl
noncomputable def qSF:Code:=cut [true,true,false,true,true,true] (Tryz.f144.body.getD .skip)
theorem q8Y {N:HN [i33] [i33,i4]} {Q:X→St→Option (qb [i50,i4])} {e:List LV} {h:List Blk}:qd tt ql6 (qcs N) qSF Q ⟨e,h⟩=qd tt ql6 (qcs N) (cut [true,true,false,true,true,true] (Tryz.f144.body.getD .skip)) Q ⟨e,h⟩:=rfl
theorem qVC (N:HN [i33] [i33,i4]) (v1:List (Val Y33)) (v2:Int) (v4:Int) {k0:Int→(List (Val Y33))→Option (qb [i50,i4])} {Q:X→St→Option (qb [i50,i4])} {c:Code} (hc:c=qSF) (hret: ∀st,Q .ret st=qB tt true [i50,i4] [.cell 4 50,.tmp 5] st) (h0: ∀(v7:Int) (v8:List (Val Y33)),Q (.exit 0) ⟨[u,u,u,u,.one (.ptr 0 0 0),u,.one (.ptr 1 0 0),u,u,u,u,u,u,u,u,u,u,u,u,u,u,u,u,u,u,u,u,u,u,u,u,u,u,u,u,u,u,u],[.box [.int .i64 v4,.nils],.box [.int .i64 v7,.own 2],.row 33 Y33 v8 true true 0]⟩=k0 v7 v8): ∀(n:Nat) (v3:Int) (v5:Int) (v6:List (Val Y33)),qC (qd tt ql6 (qcs N) c) false qp8 Q n ⟨[u,.one (.hdr N.fv),u,u,.one (.ptr 0 0 0),u,.one (.ptr 1 0 0),u,u,u,u,u,u,u,u,u,.one (.sl 33 Y33 v1 0),.one (.int .i64 v2),.one (.int .i64 v3),u,u,u,u,u,u,u,u,u,u,u,u,u,u,u,u,u,u,u],[.box [.int .i64 v4,.nils],.box [.int .i64 v5,.own 2],.row 33 Y33 v6 true true 0]⟩=qje N v1 v2 v4 k0 n v3 v5 v6:=by
 subst hc;intro n;induction n with
 | zero=>intros;rfl
 | succ n ih=>
   intro v3 v5 v6
   rw [qL,q8Y,qje];unfold Tryz.f144
   simp (maxSteps:=10000000) -implicitDefEqProofs [qIu,qmX,qHK,qpO,qET,qsk,qFD,qsZ,qHq,qoC,qMU,qNZ,qFg,qtz,qP,qDS,qpo,qC7,qIE,qIr,qKk,qF1,qNN,hret,h0,ih]
theorem qVB (N:HN [i33] [i33,i4]) (v0:Val Y50):qd tt ql6 (qcs N) (Tryz.f144.body.getD .skip) (qo tt true [i50,i4] [.cell 4 50,.tmp 5]) (qpl i50 38 v0 N.fv)=qvb N v0:=by
 unfold Tryz.f144
 simp (maxSteps:=10000000) -implicitDefEqProofs [qIu,qmX,qHK,qpO,qET,qsk,qFD,qsZ,qHq,qoC,qMU,qNZ,qFg,qtz,qP,qDS,qpo,qC7,qIE,qIr,qKk,qF1,qNN]
 rewrite [qVC (k0:=(fun (v9:Int) (v10:List (Val Y33))=>some ((v9,v10),true,()))) N _ _ _ ?_ ?_ ?_]
 ·rewrite [qvb];first | rfl | simp (maxSteps:=10000000) -implicitDefEqProofs []
 ·rfl
 ·intro;simp only [qK,qI,qJ,qy]
 ·intro v9 v10;simp (maxSteps:=10000000) -implicitDefEqProofs [qIu,qmX,qHK,qpO,qET,qsk,qFD,qsZ,qHq,qoC,qMU,qNZ,qFg,qtz,qP,qDS,qpo,qC7,qIE,qIr,qKk,qF1,qNN]
end Go.T
