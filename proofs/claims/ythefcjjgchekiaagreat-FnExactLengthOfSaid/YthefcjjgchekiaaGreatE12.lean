/- Differences of regions: run. -/
import Derived.Test.YthefcjjgchekiaaGreatE11
set_option linter.unusedSimpArgs false
set_option linter.unusedVariables false
namespace Go.T
open Go Go.Proofs
set_option maxHeartbeats 4000000
set_option maxRecDepth 100000
def qbC:List (Val Y33)→Val Y50→Val Y50×Bool
 | [],r=>(r,true)
 | c::cs,r=>bif (qU c).2 then (bif (qbL r (qU c).1).2 then qbC cs (qbL r (qU c).1).1 else qa5)else qa5
def qH (a b:Val Y50):Val Y50×Bool:=bif q7 a&&q7 b&&decide ((a.1:Int)=(b.1:Int))then (bif (qY a).2 then qbC b.2 (qY a).1 else qa5)else qa5
def qeE (a b:Val Y50):Prop:=qbs a∧qbs b
def g45:G:={ps:=[i50,i50],rs:=[i50,i4],dp:=true,pre:=fun _=>True,fn:=fun x=>((qH x.1 x.2.1).1,(qH x.1 x.2.1).2,())}
noncomputable def qis (N:Nat) (v2:List (Val Y33)) (v3:Int) (v5:Int) (k0:Int→(List (Val Y33))→Option (qc [i50,i4])):Nat→Int→Int→(List (Val Y33))→Option (qc [i50,i4])
 | 0,_,_,_=>none
 | n+1,v4,v6,v7=>bif (decide (v4<v3))then (chk (0≤v4∧v4<(v2.length:Int)) (bif (!((qU (v2.getD v4.toNat (qb Y33))).2:Bool))then (some (((0:Int),([]:List (Val Y33))),false,()))else (chk (qDN (v6,v7) ((((qU (v2.getD v4.toNat (qb Y33))).1).1:Int),(((qU (v2.getD v4.toNat (qb Y33))).1).2:List (Val qa)))) (bif (!((qbL (v6,v7) ((((qU (v2.getD v4.toNat (qb Y33))).1).1:Int),(((qU (v2.getD v4.toNat (qb Y33))).1).2:List (Val qa)))).2:Bool))then (some (((0:Int),([]:List (Val Y33))),false,()))else (qis N v2 v3 v5 k0 n (IntKind.i64.wrap (v4+(1:Int))) (((qbL (v6,v7) ((((qU (v2.getD v4.toNat (qb Y33))).1).1:Int),(((qU (v2.getD v4.toNat (qb Y33))).1).2:List (Val qa)))).1).1:Int) (((qbL (v6,v7) ((((qU (v2.getD v4.toNat (qb Y33))).1).1:Int),(((qU (v2.getD v4.toNat (qb Y33))).1).2:List (Val qa)))).1).2:List (Val Y33)))))))else (k0 v6 v7)
noncomputable def m45 (N:Nat) (v0:Val Y50) (v1:Val Y50):Option (qc [i50,i4]):=bif (!((q7 v0):Bool))then (some (((0:Int),([]:List (Val Y33))),false,()))else (bif (!((q7 v1):Bool))then (some (((0:Int),([]:List (Val Y33))),false,()))else (bif (!(decide ((v0.1:Int)=(v1.1:Int))))then (some (((0:Int),([]:List (Val Y33))),false,()))else (bif (!((qY v0).2:Bool))then (some (((0:Int),([]:List (Val Y33))),false,()))else (qis N (v1.2:List (Val Y33)) ((v1.2:List (Val Y33)).length:Int) (0:Int) (fun (v10:Int) (v11:List (Val Y33))=>some ((v10,v11),true,())) N (0:Int) (((qY v0).1).1:Int) (((qY v0).1).2:List (Val Y33))))))
def Γ45:Gam:=[(124,qbW),(133,qe2),(138,qg7),(139,qnG)]
theorem qNq:Gam.get Γ45 124=some qbW:=rfl
theorem qMY:Gam.get Γ45 133=some qe2:=rfl
theorem qNa:Gam.get Γ45 138=some qg7:=rfl
theorem q0j:Gam.get Γ45 139=some qnG:=rfl
def qxz:Nm:=⟨[false,false,false,false,true,false,true,false,false,false,false,false,false,false,false,false,false,false,false,false,false,false,false,false,false,false,false,false,false,false,false,false,false,false,false,false,false,true,true,true],[],false⟩
theorem qJl:qxz.zero=false:=rfl
theorem qOw:qxz.fix=[]:=rfl
theorem qZF:qxz.keep=[false,false,false,false,true,false,true,false,false,false,false,false,false,false,false,false,false,false,false,false,false,false,false,false,false,false,false,false,false,false,false,false,false,false,false,false,false,true,true,true]:=rfl
def qGa:Nm:=⟨[false,false,false,false,true,false,true],[],false⟩
theorem qPX:qGa.zero=false:=rfl
theorem qXk:qGa.fix=[]:=rfl
theorem q3G:qGa.keep=[false,false,false,false,true,false,true]:=rfl
def qm2:Nat→Tree:=fun _=> .done
def qwm:Nat→Nm:=fun i=>if i=7 then qxz else ⟨[],[],false⟩
def qvv:Nat→Option Jn:=fun _=>none
def qxN:Nat→Option Nm:=fun i=>if i=0 then some qGa else none
def quz:Nat→Option Nm:=fun _=>none
theorem p45:qh qm2 (Tryz.f45.body.getD .skip)=true:=by kernel_rfl
def T45 (N:Nat):Tab:={tr:=qm2,lp:=qwm,ex:=qxN,rg:=quz,jn:=qvv,fuel:=N}
theorem qS8 (N:Nat):(T45 N).pins=false:=rfl
theorem zrg (N:Nat):qk Tryz.prog (T45 N):=qo fun _=>rfl
theorem qPK (N:Nat) (i:Nat):(T45 N).tr i=qm2 i:=rfl
theorem qIy (N:Nat) (i:Nat):(T45 N).lp i=qwm i:=rfl
theorem qIC (N:Nat) (i:Nat):(T45 N).ex i=qxN i:=rfl
theorem qM5 (N:Nat) (i:Nat):(T45 N).rg i=quz i:=rfl
theorem qNt (N:Nat) (i:Nat):(T45 N).jn i=qvv i:=rfl
theorem qWJ (N:Nat):(T45 N).fuel=N:=rfl
noncomputable def q52:Code:=cut [true,true,true,true,false,true,true,true] (Tryz.f45.body.getD .skip)
theorem zBE {N:Nat} {Q:X→St→Option (qc [i50,i4])} {e:List LV} {h:List Blk}:qf tt Γ45 (T45 N) q52 Q ⟨e,h⟩=qf tt Γ45 (T45 N) (cut [true,true,true,true,false,true,true,true] (Tryz.f45.body.getD .skip)) Q ⟨e,h⟩:=rfl
theorem zi2 (N:Nat) (v2:List (Val Y33)) (v3:Int) (v5:Int) {k0:Int→(List (Val Y33))→Option (qc [i50,i4])} {Q:X→St→Option (qc [i50,i4])} {c:Code} (hc:c=q52) (hret: ∀st,Q .ret st=qC tt true [i50,i4] [.cell 4 50,.tmp 5] st) (h0: ∀(v8:Int) (v9:List (Val Y33)),Q (.exit 0) ⟨[u,u,u,u,.one (.ptr 0 0 0),u,.one (.ptr 1 0 0),u,u,u,u,u,u,u,u,u,u,u,u,u,u,u,u,u,u,u,u,u,u,u,u,u,u,u,u,u,u,u,u,u,u,u,u,u,u,u,u,u,u,u,u,u,u,u,u,u,u,u,u,u,u,u],[.box [.int .i64 v5,.nils],.box [.int .i64 v8,.own 2],.row 33 Y33 v9 true true 0]⟩=k0 v8 v9): ∀(n:Nat) (v4:Int) (v6:Int) (v7:List (Val Y33)),qD (qf tt Γ45 (T45 N) c) false qxz Q n ⟨[u,u,u,u,.one (.ptr 0 0 0),u,.one (.ptr 1 0 0),u,u,u,u,u,u,u,u,u,u,u,u,u,u,u,u,u,u,u,u,u,u,u,u,u,u,u,u,u,u,.one (.sl 33 Y33 v2 3),.one (.int .i64 v3),.one (.int .i64 v4),u,u,u,u,u,u,u,u,u,u,u,u,u,u,u,u,u,u,u,u,u,u],[.box [.int .i64 v5,.nils],.box [.int .i64 v6,.own 2],.row 33 Y33 v7 true true 0]⟩=qis N v2 v3 v5 k0 n v4 v6 v7:=by
 subst hc;intro n;induction n with
 | zero=>intros;rfl
 | succ n ih=>
   intro v4 v6 v7
   rw [qN,zBE,qis];unfold Tryz.f45
   simp (maxSteps:=10000000) -implicitDefEqProofs [qPK,qm2,qIy,qwm,qIC,qxN,qM5,quz,qNt,qvv,qWJ,qS8,qOw,qZF,qJl,qXk,q3G,qPX,qNq,qMY,qNa,q0j,qbW,qe2,qg7,qnG,hret,h0,ih]
theorem zjq (N:Nat) (v0:Val Y50) (v1:Val Y50):qf tt Γ45 (T45 N) (Tryz.f45.body.getD .skip) (qm tt true [i50,i4] [.cell 4 50,.tmp 5]) (qp [i50,i50] 62 (v0,v1,()))=m45 N v0 v1:=by
 unfold Tryz.f45
 simp (maxSteps:=10000000) -implicitDefEqProofs [qPK,qm2,qIy,qwm,qIC,qxN,qM5,quz,qNt,qvv,qWJ,qS8,qOw,qZF,qJl,qXk,q3G,qPX,qNq,qMY,qNa,q0j,qbW,qe2,qg7,qnG]
 rewrite [zi2 (k0:=(fun (v10:Int) (v11:List (Val Y33))=>some ((v10,v11),true,()))) N _ _ _ ?_ ?_ ?_]
 ·rewrite [m45];first | rfl | simp (maxSteps:=10000000) -implicitDefEqProofs []
 ·rfl
 ·intro;simp only [qK,qL,qJ,qB]
 ·intro v10 v11;simp (maxSteps:=10000000) -implicitDefEqProofs [qPK,qm2,qIy,qwm,qIC,qxN,qM5,quz,qNt,qvv,qWJ,qS8,qOw,qZF,qJl,qXk,q3G,qPX,qNq,qMY,qNa,q0j,qbW,qe2,qg7,qnG]
def g44:G:={ps:=[i50,i50],rs:=[i50,i4],dp:=false,pre:=fun x=>qeE x.1 x.2.1,fn:=fun x=>((qH x.1 x.2.1).1,(qH x.1 x.2.1).2,())}
noncomputable def qjb (N:Nat) (v3:Int) (v4:List (Val Y33)) (v5:Int) (k0:Int→(List (Val Y33))→Option (qc [i50,i4])):Nat→Int→Int→(List (Val Y33))→Option (qc [i50,i4])
 | 0,_,_,_=>none
 | n+1,v2,v6,v7=>bif (decide (v2<(v4.length:Int)))then (chk (0≤v2∧v2<(v4.length:Int)) (chk (qDs (v6,v7) (v4.getD v2.toNat (qb Y33))) (bif (!((qdC (v6,v7) (v4.getD v2.toNat (qb Y33))).2:Bool))then (some (((0:Int),([]:List (Val Y33))),false,()))else (qjb N v3 v4 v5 k0 n (IntKind.i64.wrap (v2+(1:Int))) (((qdC (v6,v7) (v4.getD v2.toNat (qb Y33))).1).1:Int) (((qdC (v6,v7) (v4.getD v2.toNat (qb Y33))).1).2:List (Val Y33))))))else (k0 v6 v7)
noncomputable def m44 (N:Nat) (v0:Val Y50) (v1:Val Y50):Option (qc [i50,i4]):=chk (qmh v0) (bif (!((qY v0).2:Bool))then (some (((0:Int),([]:List (Val Y33))),false,()))else (chk (qbs v1) (bif (!((q7 v1):Bool))then (some (((0:Int),([]:List (Val Y33))),false,()))else (bif (!(decide ((v0.1:Int)=(v1.1:Int))))then (some (((0:Int),([]:List (Val Y33))),false,()))else (qjb N (v1.1:Int) (v1.2:List (Val Y33)) (0:Int) (fun (v10:Int) (v11:List (Val Y33))=>some ((v10,v11),true,())) N (0:Int) (((qY v0).1).1:Int) (((qY v0).1).2:List (Val Y33)))))))
def Γ44:Gam:=[(117,qaX),(131,qnh),(137,qoM)]
theorem qUH:Gam.get Γ44 117=some qaX:=rfl
theorem qNe:Gam.get Γ44 131=some qnh:=rfl
theorem q0N:Gam.get Γ44 137=some qoM:=rfl
def qsx:Nm:=⟨[false,false,false,true,true,false,true,false,true],[],false⟩
theorem qXa:qsx.zero=false:=rfl
theorem qMX:qsx.fix=[]:=rfl
theorem qXI:qsx.keep=[false,false,false,true,true,false,true,false,true]:=rfl
def qGP:Nm:=⟨[false,false,false,false,true,false,true],[],false⟩
theorem q1u:qGP.zero=false:=rfl
theorem q0g:qGP.fix=[]:=rfl
theorem qYX:qGP.keep=[false,false,false,false,true,false,true]:=rfl
def qAY:Nm:=⟨[false,false,false,true,true,false,true,false,true,true,true],[],false⟩
theorem qZc:qAY.zero=false:=rfl
theorem qYm:qAY.fix=[]:=rfl
theorem qKX:qAY.keep=[false,false,false,true,true,false,true,false,true,true,true]:=rfl
def qpE:Nat→Tree:=fun i=>if i=7 then .first 3 (.grow 0 (.grow 1 (.grow 2 (.grow 4 (.grow 5 (.alt 6 (.first 7 (.first 8 (.first 9 (.alt 10 (.alt 11 (.quiet 12 .done) .stop) .stop)))) (.alt 10 (.alt 6 (.quiet 7 (.quiet 8 (.first 9 (.alt 11 (.quiet 12 .done) .stop)))) .stop) .stop)))))))else .done
def qsC:Nat→Nm:=fun i=>if i=5 then qsx else ⟨[],[],false⟩
def qx6:Nat→Option Jn:=fun _=>none
def qqL:Nat→Option Nm:=fun i=>if i=0 then some qGP else none
def qrC:Nat→Option Nm:=fun i=>if i=7 then some qAY else none
theorem p44:qh qpE (Tryz.f44.body.getD .skip)=true:=by kernel_rfl
def T44 (N:Nat):Tab:={tr:=qpE,lp:=qsC,ex:=qqL,rg:=qrC,jn:=qx6,fuel:=N}
theorem qIE (N:Nat):(T44 N).pins=false:=rfl
theorem ze4 (N:Nat):qk Tryz.prog (T44 N):=qo fun _=>rfl
theorem qUr (N:Nat) (i:Nat):(T44 N).tr i=qpE i:=rfl
theorem q3m (N:Nat) (i:Nat):(T44 N).lp i=qsC i:=rfl
theorem qQl (N:Nat) (i:Nat):(T44 N).ex i=qqL i:=rfl
theorem qS3 (N:Nat) (i:Nat):(T44 N).rg i=qrC i:=rfl
theorem q1x (N:Nat) (i:Nat):(T44 N).jn i=qx6 i:=rfl
theorem qSZ (N:Nat):(T44 N).fuel=N:=rfl
noncomputable def q9x:Code:=cut [true,true,true,false,true,true,true] (Tryz.f44.body.getD .skip)
theorem zeI {N:Nat} {Q:X→St→Option (qc [i50,i4])} {e:List LV} {h:List Blk}:qf tt Γ44 (T44 N) q9x Q ⟨e,h⟩=qf tt Γ44 (T44 N) (cut [true,true,true,false,true,true,true] (Tryz.f44.body.getD .skip)) Q ⟨e,h⟩:=rfl
theorem zAT (N:Nat) (v3:Int) (v4:List (Val Y33)) (v5:Int) {k0:Int→(List (Val Y33))→Option (qc [i50,i4])} {Q:X→St→Option (qc [i50,i4])} {c:Code} (hc:c=q9x) (hret: ∀st,Q .ret st=qC tt false [i50,i4] [.cell 4 50,.tmp 5] st) (h0: ∀(v8:Int) (v9:List (Val Y33)),Q (.exit 0) ⟨[u,u,u,u,.one (.ptr 0 0 0),u,.one (.ptr 1 0 0),u,u,u,u,u,u,u,u,u,u,u,u,u,u,u,u,u,u,u,u,u,u,u,u,u,u,u,u,u,u,u,u,u,u,u,u,u,u,u,u,u,u,u,u,u,u],[.box [.int .i64 v5,.nils],.box [.int .i64 v8,.sl 33 Y33 v9 2]]⟩=k0 v8 v9): ∀(n:Nat) (v2:Int) (v6:Int) (v7:List (Val Y33)),qD (qf tt Γ44 (T44 N) c) false qsx Q n ⟨[u,u,u,.one (.ptr 0 0 0),.one (.ptr 1 0 0),u,.one (.ptr 2 0 0),u,.one (.int .i64 v2),u,u,u,u,u,u,u,u,u,u,u,u,u,u,u,u,u,u,u,u,u,u,u,u,u,u,u,u,u,u,u,u,u,u,u,u,u,u,u,u,u,u,u,u],[.box [.int .i64 v3,.sl 33 Y33 v4 3],.box [.int .i64 v5,.nils],.box [.int .i64 v6,.sl 33 Y33 v7 3]]⟩=qjb N v3 v4 v5 k0 n v2 v6 v7:=by
 subst hc;intro n;induction n with
 | zero=>intros;rfl
 | succ n ih=>
   intro v2 v6 v7
   rw [qN,zeI,qjb];unfold Tryz.f44
   simp (maxSteps:=10000000) -implicitDefEqProofs [qUr,qpE,q3m,qsC,qQl,qqL,qS3,qrC,q1x,qx6,qSZ,qIE,qMX,qXI,qXa,q0g,qYX,q1u,qYm,qKX,qZc,qUH,qNe,q0N,qaX,qnh,qoM,hret,h0,ih]
theorem zoq (N:Nat) (v0:Val Y50) (v1:Val Y50):qf tt Γ44 (T44 N) (Tryz.f44.body.getD .skip) (qm tt false [i50,i4] [.cell 4 50,.tmp 5]) (qp [i50,i50] 53 (v0,v1,()))=m44 N v0 v1:=by
 unfold Tryz.f44
 simp (maxSteps:=10000000) -implicitDefEqProofs [qUr,qpE,q3m,qsC,qQl,qqL,qS3,qrC,q1x,qx6,qSZ,qIE,qMX,qXI,qXa,q0g,qYX,q1u,qYm,qKX,qZc,qUH,qNe,q0N,qaX,qnh,qoM]
 rewrite [zAT (k0:=(fun (v10:Int) (v11:List (Val Y33))=>some ((v10,v11),true,()))) N _ _ _ ?_ ?_ ?_]
 ·rewrite [m44];first | rfl | simp (maxSteps:=10000000) -implicitDefEqProofs []
 ·rfl
 ·intro;simp only [qK,qL,qJ,qB]
 ·intro v10 v11;simp (maxSteps:=10000000) -implicitDefEqProofs [qUr,qpE,q3m,qsC,qQl,qqL,qS3,qrC,q1x,qx6,qSZ,qIE,qMX,qXI,qXa,q0g,qYX,q1u,qYm,qKX,qZc,qUH,qNe,q0N,qaX,qnh,qoM]
def qFv (a b:Val Y50):Bool×Bool:=bif (qH b a).2 then (decide ((List.length (α:=Val Y33) (qH b a).1.2:Int)=0),true)else (false,false)
def qCC (a b:Val Y50):Bool×Bool:=bif (qFv a b).2&&(qFv b a).2 then ((qFv a b).1&&(qFv b a).1,true)else (false,false)
def q56 (a b:Val Y50):Prop:=qeE a b
end Go.T
