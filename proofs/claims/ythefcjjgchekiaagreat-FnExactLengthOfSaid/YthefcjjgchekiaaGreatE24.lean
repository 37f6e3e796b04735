/- Lengths. Run. -/
import Derived.Test.YthefcjjgchekiaaGreatE16
import Derived.Test.YthefcjjgchekiaaGreatB18
import Derived.Test.YthefcjjgchekiaaGreatB21
set_option linter.unusedSimpArgs false
set_option linter.unusedVariables false
namespace Go.T
open Go Go.Proofs
set_option maxHeartbeats 4000000
set_option maxRecDepth 100000
def qhU:List (Val Y33)→Val Y28→Val Y28×Bool
 | [],s=>(s,qE s)
 | c::cs,s=>bif (qW c 0).2&&(qW c 0).1.1&&(qW c 0).1.2.2.2.1 then qhU cs (qbR s (qhF (qW c 0).1.2.2.2.2.1 (qW c 0).1.2.1))else (noR,false)
def qbl (r:Val Y50):Val Y28×Bool:=bif (qX r).2&&decide ((r.1:Int)=1)then qhU (qX r).1.2 ((0:Int),(1:Int))else (noR,false)
def qG3 (r:Val Y50):Prop:=qbs r
def g69:G:={ps:=[i50],rs:=[i28,i4],dp:=true,pre:=fun _=>True,fn:=fun x=>((qbl x.1).1,(qbl x.1).2,())}
noncomputable def qku (N:Nat) (v1:Int) (v3:Int) (v4:Int) (v7:List (Val Y33)) (k0:Int→Int→Option (qc [i28,i4])):Nat→Int→Int→Int→Option (qc [i28,i4])
 | 0,_,_,_=>none
 | n+1,v2,v5,v6=>bif (decide (v2<v1))then (chk (0≤v2∧v2<(v7.length:Int)) (chk (v2.toNat<v7.length) (bif (!((qW (v7.getD v2.toNat (qb Y33)) (0:Int)).2:Bool))then (some (((0:Int),(0:Int)),false,()))else (bif (!(((qW (v7.getD v2.toNat (qb Y33)) (0:Int)).1).1:Bool))then (some (((0:Int),(0:Int)),false,()))else (bif (!((((((qW (v7.getD v2.toNat (qb Y33)) (0:Int)).1).2).2).2).1:Bool))then (some (((0:Int),(0:Int)),false,()))else (qku N v1 v3 v4 v7 k0 n (IntKind.i64.wrap (v2+(1:Int))) ((qbR (v5,v6) (((qhF (((((((((qW (v7.getD v2.toNat (qb Y33)) (0:Int)).1).2).2).2).2).1).1:Int),((((((((qW (v7.getD v2.toNat (qb Y33)) (0:Int)).1).2).2).2).2).1).2:Int)) ((((((qW (v7.getD v2.toNat (qb Y33)) (0:Int)).1).2).1).1:Int),(((((qW (v7.getD v2.toNat (qb Y33)) (0:Int)).1).2).1).2:Int))).1:Int),((qhF (((((((((qW (v7.getD v2.toNat (qb Y33)) (0:Int)).1).2).2).2).2).1).1:Int),((((((((qW (v7.getD v2.toNat (qb Y33)) (0:Int)).1).2).2).2).2).1).2:Int)) ((((((qW (v7.getD v2.toNat (qb Y33)) (0:Int)).1).2).1).1:Int),(((((qW (v7.getD v2.toNat (qb Y33)) (0:Int)).1).2).1).2:Int))).2:Int))).1:Int) ((qbR (v5,v6) (((qhF (((((((((qW (v7.getD v2.toNat (qb Y33)) (0:Int)).1).2).2).2).2).1).1:Int),((((((((qW (v7.getD v2.toNat (qb Y33)) (0:Int)).1).2).2).2).2).1).2:Int)) ((((((qW (v7.getD v2.toNat (qb Y33)) (0:Int)).1).2).1).1:Int),(((((qW (v7.getD v2.toNat (qb Y33)) (0:Int)).1).2).1).2:Int))).1:Int),((qhF (((((((((qW (v7.getD v2.toNat (qb Y33)) (0:Int)).1).2).2).2).2).1).1:Int),((((((((qW (v7.getD v2.toNat (qb Y33)) (0:Int)).1).2).2).2).2).1).2:Int)) ((((((qW (v7.getD v2.toNat (qb Y33)) (0:Int)).1).2).1).1:Int),(((((qW (v7.getD v2.toNat (qb Y33)) (0:Int)).1).2).1).2:Int))).2:Int))).2:Int)))))))else (k0 v5 v6)
noncomputable def m69 (N:Nat) (v0:Val Y50):Option (qc [i28,i4]):=bif (!((qX v0).2:Bool))then (some (((0:Int),(0:Int)),false,()))else (bif (!(decide ((v0.1:Int)=(1:Int))))then (some (((0:Int),(0:Int)),false,()))else (qku N ((((qX v0).1).2:List (Val Y33)).length:Int) (0:Int) (0:Int) (((qX v0).1).2:List (Val Y33)) (fun (v10:Int) (v11:Int)=>some ((v10,v11),((qE (v10,v11)):Bool),())) N (0:Int) (0:Int) (1:Int)))
def Γ69:Gam:=[(58,g58),(113,qnr),(114,qaR),(158,qo8),(159,qhq)]
theorem qSy:Gam.get Γ69 58=some g58:=rfl
theorem qLh:Gam.get Γ69 113=some qnr:=rfl
theorem qPx:Gam.get Γ69 114=some qaR:=rfl
theorem q07:Gam.get Γ69 158=some qo8:=rfl
theorem qV0:Gam.get Γ69 159=some qhq:=rfl
def qr4:Nm:=⟨[false,false,true,false,false,false,true,false,false,false,false,false,false,false,false,false,false,false,false,false,false,false,false,false,false,false,true,true,true],[],false⟩
theorem q2E:qr4.zero=false:=rfl
theorem qWh:qr4.fix=[]:=rfl
theorem qOg:qr4.keep=[false,false,true,false,false,false,true,false,false,false,false,false,false,false,false,false,false,false,false,false,false,false,false,false,false,false,true,true,true]:=rfl
def qCg:Nm:=⟨[false,false,true,false,false,false,true],[],false⟩
theorem qX4:qCg.zero=false:=rfl
theorem qWl:qCg.fix=[]:=rfl
theorem q2T:qCg.keep=[false,false,true,false,false,false,true]:=rfl
def qB7:Nm:=⟨[false,false,true,false,false,false,true,false,false,false,false,false,false,false,false,false,false,false,false,false,false,false,false,false,false,false,true,true,true],[],false⟩
theorem qTO:qB7.zero=false:=rfl
theorem q0r:qB7.fix=[]:=rfl
theorem qXZ:qB7.keep=[false,false,true,false,false,false,true,false,false,false,false,false,false,false,false,false,false,false,false,false,false,false,false,false,false,false,true,true,true]:=rfl
def qAd:Nm:=⟨[false,false,true,true],[],false⟩
theorem qJT:qAd.zero=false:=rfl
theorem qXj:qAd.fix=[]:=rfl
theorem qZn:qAd.keep=[false,false,true,true]:=rfl
def qpx:Nat→Tree:=fun i=>if i=11 then .quiet 1 (.quiet 2 (.quiet 3 (.quiet 4 (.alt 0 (.alt 5 (.alt 6 (.alt 7 .done .stop) .stop) .stop) (.alt 5 (.quiet 0 (.alt 6 (.alt 7 .done .stop) .stop)) .stop)))))else if i=13 then .quiet 1 (.alt 0 (.alt 2 (.alt 3 (.quiet 4 .done) .stop) .stop) (.alt 2 (.quiet 0 (.alt 3 (.quiet 4 .done) .stop)) .stop))else .done
def qxw:Nat→Nm:=fun i=>if i=6 then qr4 else ⟨[],[],false⟩
def qyD:Nat→Option Jn:=fun _=>none
def qqV:Nat→Option Nm:=fun i=>if i=0 then some qCg else none
def qs5:Nat→Option Nm:=fun i=>if i=11 then some qB7 else if i=13 then some qAd else none
theorem p69:qh qpx (Tryz.f69.body.getD .skip)=true:=by kernel_rfl
def T69 (N:Nat):Tab:={tr:=qpx,lp:=qxw,ex:=qqV,rg:=qs5,jn:=qyD,fuel:=N}
theorem q0i (N:Nat):(T69 N).pins=false:=rfl
theorem ztC (N:Nat):qk Tryz.prog (T69 N):=qo fun _=>rfl
theorem q4v (N:Nat) (i:Nat):(T69 N).tr i=qpx i:=rfl
theorem q3f (N:Nat) (i:Nat):(T69 N).lp i=qxw i:=rfl
theorem q2j (N:Nat) (i:Nat):(T69 N).ex i=qqV i:=rfl
theorem q0F (N:Nat) (i:Nat):(T69 N).rg i=qs5 i:=rfl
theorem qNB (N:Nat) (i:Nat):(T69 N).jn i=qyD i:=rfl
theorem qUO (N:Nat):(T69 N).fuel=N:=rfl
noncomputable def q7D:Code:=cut [true,true,true,true,false,true,true,true] (Tryz.f69.body.getD .skip)
theorem zeb {N:Nat} {Q:X→St→Option (qc [i28,i4])} {e:List LV} {h:List Blk}:qf tt Γ69 (T69 N) q7D Q ⟨e,h⟩=qf tt Γ69 (T69 N) (cut [true,true,true,true,false,true,true,true] (Tryz.f69.body.getD .skip)) Q ⟨e,h⟩:=rfl
theorem ztu (N:Nat) (v1:Int) (v3:Int) (v4:Int) (v7:List (Val Y33)) {k0:Int→Int→Option (qc [i28,i4])} {Q:X→St→Option (qc [i28,i4])} {c:Code} (hc:c=q7D) (hret: ∀st,Q .ret st=qC tt true [i28,i4] [.cell 2 28,.tmp 3] st) (h0: ∀(v8:Int) (v9:Int),Q (.exit 0) ⟨[u,u,.one (.ptr 0 0 0),u,u,u,.one (.ptr 1 0 0),u,u,u,u,u,u,u,u,u,u,u,u,u,u,u,u,u,u,u,u,u,u,u,u,u,u,u,u,u,u,u,u,u,u,u,u,u,u,u,u,u,u,u,u,u,u,u,u,u,u,u,u,u,u],[.box [.int .i64 v3,.int .i64 v4],.box [.int .i64 v8,.int .i64 v9]]⟩=k0 v8 v9): ∀(n:Nat) (v2:Int) (v5:Int) (v6:Int),qD (qf tt Γ69 (T69 N) c) false qr4 Q n ⟨[u,u,.one (.ptr 0 0 0),u,u,u,.one (.ptr 1 0 0),u,u,u,u,u,u,u,u,u,u,u,u,u,u,u,u,u,u,u,.one (.own 2),.one (.int .i64 v1),.one (.int .i64 v2),u,u,u,u,u,u,u,u,u,u,u,u,u,u,u,u,u,u,u,u,u,u,u,u,u,u,u,u,u,u,u,u],[.box [.int .i64 v3,.int .i64 v4],.box [.int .i64 v5,.int .i64 v6],.row 33 Y33 v7 true true 0]⟩=qku N v1 v3 v4 v7 k0 n v2 v5 v6:=by
 subst hc;intro n;induction n with
 | zero=>intros;rfl
 | succ n ih=>
   intro v2 v5 v6
   rw [qN,zeb,qku];unfold Tryz.f69
   simp (maxSteps:=10000000) -implicitDefEqProofs [q4v,qpx,q3f,qxw,q2j,qqV,q0F,qs5,qNB,qyD,qUO,q0i,qWh,qOg,q2E,qWl,q2T,qX4,q0r,qXZ,qTO,qXj,qZn,qJT,qSy,qLh,qPx,q07,qV0,g58,qnr,qaR,qo8,qhq,hret,h0,ih]
theorem zuY (N:Nat) (v0:Val Y50):qf tt Γ69 (T69 N) (Tryz.f69.body.getD .skip) (qm tt true [i28,i4] [.cell 2 28,.tmp 3]) (qp [i50] 61 (v0,()))=m69 N v0:=by
 unfold Tryz.f69
 simp (maxSteps:=10000000) -implicitDefEqProofs [q4v,qpx,q3f,qxw,q2j,qqV,q0F,qs5,qNB,qyD,qUO,q0i,qWh,qOg,q2E,qWl,q2T,qX4,q0r,qXZ,qTO,qXj,qZn,qJT,qSy,qLh,qPx,q07,qV0,g58,qnr,qaR,qo8,qhq]
 rewrite [ztu (k0:=(fun (v10:Int) (v11:Int)=>some ((v10,v11),((qE (v10,v11)):Bool),()))) N _ _ _ _ ?_ ?_ ?_]
 ·rewrite [m69];first | rfl | simp (maxSteps:=10000000) -implicitDefEqProofs []
 ·rfl
 ·intro;simp only [qK,qL,qJ,qB]
 ·intro v10 v11;simp (maxSteps:=10000000) -implicitDefEqProofs [q4v,qpx,q3f,qxw,q2j,qqV,q0F,qs5,qNB,qyD,qUO,q0i,qWh,qOg,q2E,qWl,q2T,qX4,q0r,qXZ,qTO,qXj,qZn,qJT,qSy,qLh,qPx,q07,qV0,g58,qnr,qaR,qo8,qhq]
def g68:G:={ps:=[i50],rs:=[i28,i4],dp:=true,pre:=fun x=>qG3 x.1,fn:=fun x=>((qbl x.1).1,(qbl x.1).2,())}
noncomputable def qk9 (N:Nat) (v2:Int) (v3:Int) (v4:Int) (v5:List (Val Y33)) (k0:Int→Int→Option (qc [i28,i4])):Nat→Int→Int→Int→Option (qc [i28,i4])
 | 0,_,_,_=>none
 | n+1,v1,v6,v7=>bif (decide (v1<(v5.length:Int)))then (chk (0≤v1∧v1<(v5.length:Int)) (chk (qFW (v5.getD v1.toNat (qb Y33)) (0:Int)) (bif (!((qW (v5.getD v1.toNat (qb Y33)) (0:Int)).2:Bool))then (some (((0:Int),(0:Int)),false,()))else (bif (!(((qW (v5.getD v1.toNat (qb Y33)) (0:Int)).1).1:Bool))then (some (((0:Int),(0:Int)),false,()))else (bif (!((((((qW (v5.getD v1.toNat (qb Y33)) (0:Int)).1).2).2).2).1:Bool))then (some (((0:Int),(0:Int)),false,()))else (qk9 N v2 v3 v4 v5 k0 n (IntKind.i64.wrap (v1+(1:Int))) ((qbR (v6,v7) (((qbR (((((((((qW (v5.getD v1.toNat (qb Y33)) (0:Int)).1).2).2).2).2).1).1:Int),((((((((qW (v5.getD v1.toNat (qb Y33)) (0:Int)).1).2).2).2).2).1).2:Int)) (((qb0 ((((((qW (v5.getD v1.toNat (qb Y33)) (0:Int)).1).2).1).1:Int),(((((qW (v5.getD v1.toNat (qb Y33)) (0:Int)).1).2).1).2:Int))).1:Int),((qb0 ((((((qW (v5.getD v1.toNat (qb Y33)) (0:Int)).1).2).1).1:Int),(((((qW (v5.getD v1.toNat (qb Y33)) (0:Int)).1).2).1).2:Int))).2:Int))).1:Int),((qbR (((((((((qW (v5.getD v1.toNat (qb Y33)) (0:Int)).1).2).2).2).2).1).1:Int),((((((((qW (v5.getD v1.toNat (qb Y33)) (0:Int)).1).2).2).2).2).1).2:Int)) (((qb0 ((((((qW (v5.getD v1.toNat (qb Y33)) (0:Int)).1).2).1).1:Int),(((((qW (v5.getD v1.toNat (qb Y33)) (0:Int)).1).2).1).2:Int))).1:Int),((qb0 ((((((qW (v5.getD v1.toNat (qb Y33)) (0:Int)).1).2).1).1:Int),(((((qW (v5.getD v1.toNat (qb Y33)) (0:Int)).1).2).1).2:Int))).2:Int))).2:Int))).1:Int) ((qbR (v6,v7) (((qbR (((((((((qW (v5.getD v1.toNat (qb Y33)) (0:Int)).1).2).2).2).2).1).1:Int),((((((((qW (v5.getD v1.toNat (qb Y33)) (0:Int)).1).2).2).2).2).1).2:Int)) (((qb0 ((((((qW (v5.getD v1.toNat (qb Y33)) (0:Int)).1).2).1).1:Int),(((((qW (v5.getD v1.toNat (qb Y33)) (0:Int)).1).2).1).2:Int))).1:Int),((qb0 ((((((qW (v5.getD v1.toNat (qb Y33)) (0:Int)).1).2).1).1:Int),(((((qW (v5.getD v1.toNat (qb Y33)) (0:Int)).1).2).1).2:Int))).2:Int))).1:Int),((qbR (((((((((qW (v5.getD v1.toNat (qb Y33)) (0:Int)).1).2).2).2).2).1).1:Int),((((((((qW (v5.getD v1.toNat (qb Y33)) (0:Int)).1).2).2).2).2).1).2:Int)) (((qb0 ((((((qW (v5.getD v1.toNat (qb Y33)) (0:Int)).1).2).1).1:Int),(((((qW (v5.getD v1.toNat (qb Y33)) (0:Int)).1).2).1).2:Int))).1:Int),((qb0 ((((((qW (v5.getD v1.toNat (qb Y33)) (0:Int)).1).2).1).1:Int),(((((qW (v5.getD v1.toNat (qb Y33)) (0:Int)).1).2).1).2:Int))).2:Int))).2:Int))).2:Int)))))))else (k0 v6 v7)
noncomputable def m68 (N:Nat) (v0:Val Y50):Option (qc [i28,i4]):=chk (qoh v0) (bif (!((qX v0).2:Bool))then (some (((0:Int),(0:Int)),false,()))else (bif (!(decide ((v0.1:Int)=(1:Int))))then (some (((0:Int),(0:Int)),false,()))else (qk9 N (0:Int) (0:Int) (((qX v0).1).1:Int) (((qX v0).1).2:List (Val Y33)) (fun (v10:Int) (v11:Int)=>some ((v10,v11),((qE (v10,v11)):Bool),())) N (0:Int) ((qHr (0:Int)).1:Int) ((qHr (0:Int)).2:Int))))
def Γ68:Gam:=[(57,g57),(107,qmK),(108,qpo),(109,qaK),(121,qpv),(157,qmR)]
theorem qK7:Gam.get Γ68 57=some g57:=rfl
theorem qRC:Gam.get Γ68 107=some qmK:=rfl
theorem q3p:Gam.get Γ68 108=some qpo:=rfl
theorem qMn:Gam.get Γ68 109=some qaK:=rfl
theorem qUn:Gam.get Γ68 121=some qpv:=rfl
theorem qXK:Gam.get Γ68 157=some qmR:=rfl
def qw9:Nm:=⟨[false,false,true,false,true,false,true,true],[],false⟩
theorem qUZ:qw9.zero=false:=rfl
theorem q1v:qw9.fix=[]:=rfl
theorem q0a:qw9.keep=[false,false,true,false,true,false,true,true]:=rfl
def qGb:Nm:=⟨[false,false,true,false,false,false,true],[],false⟩
theorem qVD:qGb.zero=false:=rfl
theorem qWs:qGb.fix=[]:=rfl
theorem qNC:qGb.keep=[false,false,true,false,false,false,true]:=rfl
def qCt:Nm:=⟨[false,false,true,false,true,false,true,true],[],false⟩
theorem qZK:qCt.zero=false:=rfl
theorem qKx:qCt.fix=[]:=rfl
theorem qOO:qCt.keep=[false,false,true,false,true,false,true,true]:=rfl
def qEx:Nm:=⟨[false,false,true,true],[],false⟩
theorem qIu:qEx.zero=false:=rfl
theorem qXm:qEx.fix=[]:=rfl
theorem qW7:qEx.keep=[false,false,true,true]:=rfl
def qoi:Nat→Tree:=fun i=>if i=11 then .quiet 3 (.quiet 4 (.alt 0 (.alt 1 (.alt 2 (.alt 5 (.alt 6 (.alt 7 (.alt 8 .done .stop) .stop) .stop) .stop) (.alt 5 (.quiet 2 (.alt 6 (.alt 7 (.alt 8 .done .stop) .stop) .stop)) .stop)) (.alt 5 (.quiet 1 (.quiet 2 (.alt 6 (.alt 7 (.alt 8 .done .stop) .stop) .stop))) .stop)) (.alt 1 (.alt 0 (.alt 2 (.alt 5 (.alt 6 (.alt 7 (.alt 8 .done .stop) .stop) .stop) .stop) (.alt 5 (.quiet 2 (.alt 6 (.alt 7 (.alt 8 .done .stop) .stop) .stop)) .stop)) (.alt 2 (.alt 0 (.alt 5 (.alt 6 (.alt 7 (.alt 8 .done .stop) .stop) .stop) .stop) (.alt 5 (.alt 0 (.alt 6 (.alt 7 (.alt 8 .done .stop) .stop) .stop) (.alt 6 (.quiet 0 (.alt 7 (.alt 8 .done .stop) .stop)) .stop)) .stop)) (.alt 5 (.quiet 2 (.alt 0 (.alt 6 (.alt 7 (.alt 8 .done .stop) .stop) .stop) (.alt 6 (.quiet 0 (.alt 7 (.alt 8 .done .stop) .stop)) .stop))) .stop))) (.alt 5 (.quiet 1 (.quiet 2 (.alt 0 (.alt 6 (.alt 7 (.alt 8 .done .stop) .stop) .stop) (.alt 6 (.quiet 0 (.alt 7 (.alt 8 .done .stop) .stop)) .stop)))) .stop))))else if i=12 then .quiet 1 (.alt 0 (.alt 2 (.alt 3 (.quiet 4 .done) .stop) .stop) (.alt 2 (.quiet 0 (.alt 3 (.quiet 4 .done) .stop)) .stop))else .done
def qwu:Nat→Nm:=fun i=>if i=6 then qw9 else ⟨[],[],false⟩
def qxa:Nat→Option Jn:=fun _=>none
def qsT:Nat→Option Nm:=fun i=>if i=0 then some qGb else none
def qyb:Nat→Option Nm:=fun i=>if i=11 then some qCt else if i=12 then some qEx else none
theorem p68:qh qoi (Tryz.f68.body.getD .skip)=true:=by kernel_rfl
def T68 (N:Nat):Tab:={tr:=qoi,lp:=qwu,ex:=qsT,rg:=qyb,jn:=qxa,fuel:=N}
theorem qVh (N:Nat):(T68 N).pins=false:=rfl
theorem zeP (N:Nat):qk Tryz.prog (T68 N):=qo fun _=>rfl
theorem qKM (N:Nat) (i:Nat):(T68 N).tr i=qoi i:=rfl
theorem qKq (N:Nat) (i:Nat):(T68 N).lp i=qwu i:=rfl
theorem qUf (N:Nat) (i:Nat):(T68 N).ex i=qsT i:=rfl
theorem qSf (N:Nat) (i:Nat):(T68 N).rg i=qyb i:=rfl
theorem qVE (N:Nat) (i:Nat):(T68 N).jn i=qxa i:=rfl
theorem qK1 (N:Nat):(T68 N).fuel=N:=rfl
noncomputable def q99:Code:=cut [true,true,true,true,false,true,true,true] (Tryz.f68.body.getD .skip)
theorem zbH {N:Nat} {Q:X→St→Option (qc [i28,i4])} {e:List LV} {h:List Blk}:qf tt Γ68 (T68 N) q99 Q ⟨e,h⟩=qf tt Γ68 (T68 N) (cut [true,true,true,true,false,true,true,true] (Tryz.f68.body.getD .skip)) Q ⟨e,h⟩:=rfl
theorem zBs (N:Nat) (v2:Int) (v3:Int) (v4:Int) (v5:List (Val Y33)) {k0:Int→Int→Option (qc [i28,i4])} {Q:X→St→Option (qc [i28,i4])} {c:Code} (hc:c=q99) (hret: ∀st,Q .ret st=qC tt true [i28,i4] [.cell 2 28,.tmp 3] st) (h0: ∀(v8:Int) (v9:Int),Q (.exit 0) ⟨[u,u,.one (.ptr 0 0 0),u,u,u,.one (.ptr 1 0 0),u,u,u,u,u,u,u,u,u,u,u,u,u,u,u,u,u,u,u,u,u,u,u,u,u,u,u,u,u,u,u,u,u,u,u,u,u,u,u,u,u,u,u,u,u,u,u,u,u,u,u,u,u,u,u,u,u],[.box [.int .i64 v2,.int .i64 v3],.box [.int .i64 v8,.int .i64 v9]]⟩=k0 v8 v9): ∀(n:Nat) (v1:Int) (v6:Int) (v7:Int),qD (qf tt Γ68 (T68 N) c) false qw9 Q n ⟨[u,u,.one (.ptr 0 0 0),u,.one (.ptr 1 0 0),u,.one (.ptr 2 0 0),.one (.int .i64 v1),u,u,u,u,u,u,u,u,u,u,u,u,u,u,u,u,u,u,u,u,u,u,u,u,u,u,u,u,u,u,u,u,u,u,u,u,u,u,u,u,u,u,u,u,u,u,u,u,u,u,u,u,u,u,u,u],[.box [.int .i64 v2,.int .i64 v3],.box [.int .i64 v4,.sl 33 Y33 v5 3],.box [.int .i64 v6,.int .i64 v7]]⟩=qk9 N v2 v3 v4 v5 k0 n v1 v6 v7:=by
 subst hc;intro n;induction n with
 | zero=>intros;rfl
 | succ n ih=>
   intro v1 v6 v7
   rw [qN,zbH,qk9];unfold Tryz.f68
   simp (maxSteps:=10000000) -implicitDefEqProofs [qKM,qoi,qKq,qwu,qUf,qsT,qSf,qyb,qVE,qxa,qK1,qVh,q1v,q0a,qUZ,qWs,qNC,qVD,qKx,qOO,qZK,qXm,qW7,qIu,qK7,qRC,q3p,qMn,qUn,qXK,g57,qmK,qpo,qaK,qpv,qmR,hret,h0,ih]
theorem zlj (N:Nat) (v0:Val Y50):qf tt Γ68 (T68 N) (Tryz.f68.body.getD .skip) (qm tt true [i28,i4] [.cell 2 28,.tmp 3]) (qp [i50] 64 (v0,()))=m68 N v0:=by
 unfold Tryz.f68
 simp (maxSteps:=10000000) -implicitDefEqProofs [qKM,qoi,qKq,qwu,qUf,qsT,qSf,qyb,qVE,qxa,qK1,qVh,q1v,q0a,qUZ,qWs,qNC,qVD,qKx,qOO,qZK,qXm,qW7,qIu,qK7,qRC,q3p,qMn,qUn,qXK,g57,qmK,qpo,qaK,qpv,qmR]
 rewrite [zBs (k0:=(fun (v10:Int) (v11:Int)=>some ((v10,v11),((qE (v10,v11)):Bool),()))) N _ _ _ _ ?_ ?_ ?_]
 ·rewrite [m68];first | rfl | simp (maxSteps:=10000000) -implicitDefEqProofs []
 ·rfl
 ·intro;simp only [qK,qL,qJ,qB]
 ·intro v10 v11;simp (maxSteps:=10000000) -implicitDefEqProofs [qKM,qoi,qKq,qwu,qUf,qsT,qSf,qyb,qVE,qxa,qK1,qVh,q1v,q0a,qUZ,qWs,qNC,qVD,qKx,qOO,qZK,qXm,qW7,qIu,qK7,qRC,q3p,qMn,qUn,qXK,g57,qmK,qpo,qaK,qpv,qmR]
abbrev q7f:Int→Int→Option (qc [i28,i4]):=fun a b=>some (((a,b):Val Y28),qE ((a,b):Val Y28),())
theorem t69 (N:Nat) (v3 v4:Int) (xs:List (Val Y33)) (hx:xs.length≤12): ∀(k i:Nat),i+k=xs.length→ ∀n,k<n→ ∀s:Val Y28,
 qku N xs.length v3 v4 xs q7f n (i:Int) s.1 s.2=some ((qhU (xs.drop i) s).1,(qhU (xs.drop i) s).2,())
 | 0,i,hi,n+1,_,s=>by
   rw [qku,qi (by omega),List.drop_eq_nil_of_le (by omega)]
   rfl
 | k+1,i,hi,n+1,hn,s=>by
   have h1:i<xs.length:=by omega
   rw [qku,qj (by omega),qe (by omega),qe (by omega),qI h1,qbr h1 (by omega),qbE h1]
   simp only [qhU]
   generalize qW xs[i] 0=q
   obtain ⟨⟨hl,l,lo,hh,g,ho,em⟩,ok⟩:=q
   cases ok with
   | false=>rfl
   | true=>
     cases hl with
     | false=>rfl
     | true=>
       cases hh with
       | false=>rfl
       | true=>exact t69 N v3 v4 xs hx k (i+1) (by omega) n (by omega) (qbR s (qhF g l))
theorem t68 (N:Nat) (v2 v3 v4:Int) (xs:List (Val Y33)) (hx:xs.length≤12) (hp: ∀c∈xs,qz c=true): ∀(k i:Nat),i+k=xs.length→ ∀n,k<n→ ∀s:Val Y28,
 qk9 N v2 v3 v4 xs q7f n (i:Int) s.1 s.2=some ((qhU (xs.drop i) s).1,(qhU (xs.drop i) s).2,())
 | 0,i,hi,n+1,_,s=>by
   rw [qk9,qi (by omega),List.drop_eq_nil_of_le (by omega)]
   rfl
 | k+1,i,hi,n+1,hn,s=>by
   have h1:i<xs.length:=by omega
   have hc:=(qaG (hp _ (List.getElem_mem h1))).2.1
   rw [qk9,qj (by omega),qe (by omega),qI h1,qe (show qFW xs[i] 0 from by show _≤1048576;omega),qbr h1 (by omega),qbE h1]
   simp only [qhU]
   generalize qW xs[i] 0=q
   obtain ⟨⟨hl,l,lo,hh,g,ho,em⟩,ok⟩:=q
   cases ok with
   | false=>rfl
   | true=>
     cases hl with
     | false=>rfl
     | true=>
       cases hh with
       | false=>rfl
       | true=>exact t68 N v2 v3 v4 xs hx hp k (i+1) (by omega) n (by omega) (qbR s (qhF g l))
theorem e69 (r:Val Y50): ∃N,m69 N r=some ((qbl r).1,(qbl r).2,()):=⟨30,by
 rw [m69]
 unfold qbl
 have hs:=qSR r
 cases (qX r).2 with
 | false=>rfl
 | true=>
   simp only [Bool.not_true,cond_false,Bool.true_and]
   by_cases h1:(r.1:Int)=1
   ·rw [decide_eq_true h1]
    exact t69 30 0 0 (qX r).1.2 hs.1 (List.length (α:=Val Y33) (qX r).1.2) 0 (by omega) 30 (by omega) ((0:Int),(1:Int))
   ·rw [decide_eq_false h1];rfl⟩
theorem s69:Sound Tryz.prog 69 g69:=qr (tt:=tt) (Γ:=Γ69) hT (qg s58 (qg zzu (qg qiK (qg zzN (qg q7C qn))))) hm (fn:=Tryz.f69) Tryz.func69 (c:=Tryz.f69.body.getD .skip) (by kernel_rfl) (by kernel_rfl) fun x hx=>by
 obtain ⟨N,h⟩:=e69 x.1
 exact ⟨T69 N,p69,qu _,ztC N,(zuY N x.1).trans h⟩
theorem e68 (r:Val Y50) (h:qG3 r): ∃N,m68 N r=some ((qbl r).1,(qbl r).2,()):=⟨30,by
 rw [m68,qe (show qoh r from h)]
 unfold qbl
 have hs:=qSR r
 cases (qX r).2 with
 | false=>rfl
 | true=>
   simp only [Bool.not_true,cond_false,Bool.true_and]
   by_cases h1:(r.1:Int)=1
   ·rw [decide_eq_true h1]
    exact t68 30 0 0 (qX r).1.1 (qX r).1.2 hs.1 hs.2 (List.length (α:=Val Y33) (qX r).1.2) 0 (by omega) 30 (by omega) ((0:Int),(1:Int))
   ·rw [decide_eq_false h1];rfl⟩
theorem s68:Sound Tryz.prog 68 g68:=qr (tt:=tt) (Γ:=Γ68) hT (qg s57 (qg zfz (qg zue (qg qms (qg zkK (qg zz8 qn)))))) hm (fn:=Tryz.f68) Tryz.func68 (c:=Tryz.f68.body.getD .skip) (by kernel_rfl) (by kernel_rfl) fun x hx=>by
 obtain ⟨N,h⟩:=e68 x.1 hx
 exact ⟨T68 N,p68,qu _,zeP N,(zlj N x.1).trans h⟩
end Go.T
