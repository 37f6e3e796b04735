/- Witnesses: what the functions compute. -/
import Derived.Test.YthefcjjgchekiaaGreatE36
import Derived.Test.YthefcjjgchekiaaGreatE22
set_option linter.unusedSimpArgs false
set_option linter.unusedVariables false
namespace Go.T
open Go Go.Proofs
set_option maxHeartbeats 4000000
set_option maxRecDepth 100000
def qDO:G:={ps:=[i28,i28],rs:=[i28],dp:=true,pre:=fun _=>True,fn:=fun x=>(qco x.1 x.2.1,())}
def qEp:G:={ps:=[i28,i28],rs:=[i28],dp:=true,pre:=fun _=>True,fn:=fun x=>(qco x.1 x.2.1,())}
noncomputable def qAb (N:Nat) (v0:Val Y28) (v1:Val Y28):Option (qc [i28]):=bif (!((qi v0):Bool))then (some (((0:Int),(0:Int)),()))else (bif (!((qi v1):Bool))then (some (((0:Int),(0:Int)),()))else (chk (qb2 (IntKind.i64.wrap ((v0.1:Int)*(v1.1:Int))) (IntKind.i64.wrap ((v0.2:Int)*(v1.2:Int)))) (some ((((qQ (IntKind.i64.wrap ((v0.1:Int)*(v1.1:Int))) (IntKind.i64.wrap ((v0.2:Int)*(v1.2:Int)))).1:Int),((qQ (IntKind.i64.wrap ((v0.1:Int)*(v1.1:Int))) (IntKind.i64.wrap ((v0.2:Int)*(v1.2:Int)))).2:Int)),()))))
def qEb:Gam:=[(114,qau),(241,qd0)]
theorem q9Y:Gam.get qEb 114=some qau:=rfl
theorem zkg:Gam.get qEb 241=some qd0:=rfl
def qzE:Nat→Tree:=fun _=> .done
def qLy:Nat→Nm:=fun _=>⟨[],[],false⟩
def qJS:Nat→Option Jn:=fun _=>none
def qFS:Nat→Option Nm:=fun _=>none
def qJU:Nat→Option Nm:=fun _=>none
theorem q51:qn qzE (Tryz.f286.body.getD .skip)=true:=by kernel_rfl
def qfn (N:Nat):Tab:={tr:=qzE,lp:=qLy,ex:=qFS,rg:=qJU,jn:=qJS,fuel:=N}
theorem zgM (N:Nat):(qfn N).pins=false:=rfl
theorem zch (N:Nat):qp Tryz.prog (qfn N):=qv fun _=>rfl
theorem zo5 (N:Nat) (i:Nat):(qfn N).tr i=qzE i:=rfl
theorem zn3 (N:Nat) (i:Nat):(qfn N).lp i=qLy i:=rfl
theorem zbv (N:Nat) (i:Nat):(qfn N).ex i=qFS i:=rfl
theorem zdo (N:Nat) (i:Nat):(qfn N).rg i=qJU i:=rfl
theorem zhv (N:Nat) (i:Nat):(qfn N).jn i=qJS i:=rfl
theorem zmO (N:Nat):(qfn N).fuel=N:=rfl
theorem zky (N:Nat) (v0:Val Y28) (v1:Val Y28):qe tt qEb (qfn N) (Tryz.f286.body.getD .skip) (qt tt true [i28] [.cell 4 28]) (qw [i28,i28] 25 (v0,v1,()))=qAb N v0 v1:=by
 rw [qAb];unfold Tryz.f286
 simp (maxSteps:=10000000) -implicitDefEqProofs [zo5,qzE,zn3,qLy,zbv,qFS,zdo,qJU,zhv,qJS,zmO,zgM,q9Y,zkg,qau,qd0]
 try rfl
noncomputable def qzO (N:Nat) (v0:Val Y28) (v1:Val Y28):Option (qc [i28]):=bif (!((qi v0):Bool))then (some (((0:Int),(0:Int)),()))else (bif (!((qi v1):Bool))then (some (((0:Int),(0:Int)),()))else (chk (qb2 (IntKind.i64.wrap ((v0.1:Int)*(v1.1:Int))) (IntKind.i64.wrap ((v0.2:Int)*(v1.2:Int)))) (some ((((qQ (IntKind.i64.wrap ((v0.1:Int)*(v1.1:Int))) (IntKind.i64.wrap ((v0.2:Int)*(v1.2:Int)))).1:Int),((qQ (IntKind.i64.wrap ((v0.1:Int)*(v1.1:Int))) (IntKind.i64.wrap ((v0.2:Int)*(v1.2:Int)))).2:Int)),()))))
def qxE:Gam:=[(109,qar),(197,qfY)]
theorem zrb:Gam.get qxE 109=some qar:=rfl
theorem znU:Gam.get qxE 197=some qfY:=rfl
def qBe:Nat→Tree:=fun _=> .done
def qOA:Nat→Nm:=fun _=>⟨[],[],false⟩
def qQS:Nat→Option Jn:=fun _=>none
def qWd:Nat→Option Nm:=fun _=>none
def qGr:Nat→Option Nm:=fun _=>none
theorem zoZ:qn qBe (Tryz.f285.body.getD .skip)=true:=by kernel_rfl
def qgi (N:Nat):Tab:={tr:=qBe,lp:=qOA,ex:=qWd,rg:=qGr,jn:=qQS,fuel:=N}
theorem zpA (N:Nat):(qgi N).pins=false:=rfl
theorem zdB (N:Nat):qp Tryz.prog (qgi N):=qv fun _=>rfl
theorem zkY (N:Nat) (i:Nat):(qgi N).tr i=qBe i:=rfl
theorem q8e (N:Nat) (i:Nat):(qgi N).lp i=qOA i:=rfl
theorem q8l (N:Nat) (i:Nat):(qgi N).ex i=qWd i:=rfl
theorem zmu (N:Nat) (i:Nat):(qgi N).rg i=qGr i:=rfl
theorem zkd (N:Nat) (i:Nat):(qgi N).jn i=qQS i:=rfl
theorem zhm (N:Nat):(qgi N).fuel=N:=rfl
theorem zbI (N:Nat) (v0:Val Y28) (v1:Val Y28):qe tt qxE (qgi N) (Tryz.f285.body.getD .skip) (qt tt true [i28] [.cell 4 28]) (qw [i28,i28] 25 (v0,v1,()))=qzO N v0 v1:=by
 rw [qzO];unfold Tryz.f285
 simp (maxSteps:=10000000) -implicitDefEqProofs [zkY,qBe,q8e,qOA,q8l,qWd,zmu,qGr,zkd,qQS,zhm,zpA,zrb,znU,qar,qfY]
 try rfl
theorem q34 {a b:Val Y28} (ha:qi a=true) (hb:qi b=true):IntKind.i64.wrap ((a.1:Int)*(b.1:Int))=(a.1:Int)*b.1∧IntKind.i64.wrap ((a.2:Int)*(b.2:Int))=(a.2:Int)*b.2∧qb2 ((a.1:Int)*b.1) ((a.2:Int)*b.2):=by
 have m1:=qhL (qbe ha).1 (qbe hb).1
 have m3:=qhL (qdZ ha) (qdZ hb)
 rw [qgS (qbe ha).1 (qbe hb).1,qgS (qdZ ha) (qdZ hb)]
 unfold qb2 inI
 generalize (a.1:Int)*b.1=x at*
 generalize (a.2:Int)*b.2=z at*
 exact ⟨rfl,rfl,⟨by omega,by omega⟩,⟨by omega,by omega⟩⟩
theorem zhG (a b:Val Y28): ∃N,qAb N a b=some (qco a b,()):=⟨0,by
 rw [qAb]
 unfold qco
 cases ha:qi a with
 | false=>rfl
 | true=>
   cases hb:qi b with
   | false=>rfl
   | true=>
     simp only [Bool.not_true,cond_false,Bool.and_self,cond_true]
     obtain ⟨e1,e2,hp⟩:=q34 ha hb
     rw [e1,e2]
     exact qd hp⟩
theorem q4P:Sound Tryz.prog 286 qDO:=qx (tt:=tt) (Γ:=qEb) hT (qg qhY (qg qVn qu)) hm (fn:=Tryz.f286) Tryz.func286 (c:=Tryz.f286.body.getD .skip) (by kernel_rfl) (by kernel_rfl) fun x hx=>by
 obtain ⟨N,h⟩:=zhG x.1 x.2.1
 exact ⟨qfn N,q51,qy _,zch N,(zky N x.1 x.2.1).trans h⟩
theorem zdR (a b:Val Y28): ∃N,qzO N a b=some (qco a b,()):=⟨0,by
 rw [qzO]
 unfold qco
 cases ha:qi a with
 | false=>rfl
 | true=>
   cases hb:qi b with
   | false=>rfl
   | true=>
     simp only [Bool.not_true,cond_false,Bool.and_self,cond_true]
     obtain ⟨e1,e2,hp⟩:=q34 ha hb
     rw [e1,e2]
     exact qd hp⟩
theorem zqM:Sound Tryz.prog 285 qEp:=qx (tt:=tt) (Γ:=qxE) hT (qg qiS (qg qKx qu)) hm (fn:=Tryz.f285) Tryz.func285 (c:=Tryz.f285.body.getD .skip) (by kernel_rfl) (by kernel_rfl) fun x hx=>by
 obtain ⟨N,h⟩:=zdR x.1 x.2.1
 exact ⟨qgi N,zoZ,qy _,zdB N,(zbI N x.1 x.2.1).trans h⟩
def qfL:G:={ps:=[qD],rs:=[i28],dp:=true,pre:=fun _=>True,fn:=fun x=>(q5 x.1,())}
def qd1:G:={ps:=[qD],rs:=[i28],dp:=true,pre:=fun _=>True,fn:=fun x=>(q5 x.1,())}
noncomputable def qxx (N:Nat) (v0:Val qad):Option (qc [i28]):=bif (v0.1:Bool)then (bif (v0.2.2.2.1:Bool)then (some ((((qco (((qaf v0.2.1 v0.2.2.2.2.1).1:Int),((qaf v0.2.1 v0.2.2.2.2.1).2:Int)) ((1:Int),(2:Int))).1:Int),((qco (((qaf v0.2.1 v0.2.2.2.2.1).1:Int),((qaf v0.2.1 v0.2.2.2.2.1).2:Int)) ((1:Int),(2:Int))).2:Int)),()))else (bif (v0.1:Bool)then (some ((((qaf v0.2.1 ((1:Int),(1:Int))).1:Int),((qaf v0.2.1 ((1:Int),(1:Int))).2:Int)),()))else (bif (v0.2.2.2.1:Bool)then (some ((((qdX v0.2.2.2.2.1 ((1:Int),(1:Int))).1:Int),((qdX v0.2.2.2.2.1 ((1:Int),(1:Int))).2:Int)),()))else (some (((0:Int),(1:Int)),())))))else (bif (v0.1:Bool)then (some ((((qaf v0.2.1 ((1:Int),(1:Int))).1:Int),((qaf v0.2.1 ((1:Int),(1:Int))).2:Int)),()))else (bif (v0.2.2.2.1:Bool)then (some ((((qdX v0.2.2.2.2.1 ((1:Int),(1:Int))).1:Int),((qdX v0.2.2.2.2.1 ((1:Int),(1:Int))).2:Int)),()))else (some (((0:Int),(1:Int)),()))))
def quA:Gam:=[(113,qkj),(159,qkN),(286,qDO)]
theorem q4G:Gam.get quA 113=some qkj:=rfl
theorem zjR:Gam.get quA 159=some qkN:=rfl
theorem zaR:Gam.get quA 286=some qDO:=rfl
def qEy:Nat→Tree:=fun _=> .done
def qLi:Nat→Nm:=fun _=>⟨[],[],false⟩
def qRT:Nat→Option Jn:=fun _=>none
def qWW:Nat→Option Nm:=fun _=>none
def qPB:Nat→Option Nm:=fun _=>none
theorem zli:qn qEy (Tryz.f227.body.getD .skip)=true:=by kernel_rfl
def qfo (N:Nat):Tab:={tr:=qEy,lp:=qLi,ex:=qWW,rg:=qPB,jn:=qRT,fuel:=N}
theorem zg5 (N:Nat):(qfo N).pins=false:=rfl
theorem q9c (N:Nat):qp Tryz.prog (qfo N):=qv fun _=>rfl
theorem zqz (N:Nat) (i:Nat):(qfo N).tr i=qEy i:=rfl
theorem zqg (N:Nat) (i:Nat):(qfo N).lp i=qLi i:=rfl
theorem zfJ (N:Nat) (i:Nat):(qfo N).ex i=qWW i:=rfl
theorem zfh (N:Nat) (i:Nat):(qfo N).rg i=qPB i:=rfl
theorem q5u (N:Nat) (i:Nat):(qfo N).jn i=qRT i:=rfl
theorem zhT (N:Nat):(qfo N).fuel=N:=rfl
theorem q7J (N:Nat) (v0:Val qad):qe tt quA (qfo N) (Tryz.f227.body.getD .skip) (qt tt true [i28] [.cell 2 28]) (qw [qD] 34 (v0,()))=qxx N v0:=by
 rw [qxx];unfold Tryz.f227
 simp (maxSteps:=10000000) -implicitDefEqProofs [zqz,qEy,zqg,qLi,zfJ,qWW,zfh,qPB,q5u,qRT,zhT,zg5,q4G,zjR,zaR,qkj,qkN,qDO]
 try rfl
noncomputable def qyV (N:Nat) (v0:Val qad):Option (qc [i28]):=bif (v0.1:Bool)then (bif (v0.2.2.2.1:Bool)then (some ((((qco (((qaf v0.2.1 v0.2.2.2.2.1).1:Int),((qaf v0.2.1 v0.2.2.2.2.1).2:Int)) ((1:Int),(2:Int))).1:Int),((qco (((qaf v0.2.1 v0.2.2.2.2.1).1:Int),((qaf v0.2.1 v0.2.2.2.2.1).2:Int)) ((1:Int),(2:Int))).2:Int)),()))else (bif (v0.1:Bool)then (some ((((qaf v0.2.1 (((qbn (1:Int)).1:Int),((qbn (1:Int)).2:Int))).1:Int),((qaf v0.2.1 (((qbn (1:Int)).1:Int),((qbn (1:Int)).2:Int))).2:Int)),()))else (bif (v0.2.2.2.1:Bool)then (some ((((qaf v0.2.2.2.2.1 (((qbn (-1:Int)).1:Int),((qbn (-1:Int)).2:Int))).1:Int),((qaf v0.2.2.2.2.1 (((qbn (-1:Int)).1:Int),((qbn (-1:Int)).2:Int))).2:Int)),()))else (some ((((qbn (0:Int)).1:Int),((qbn (0:Int)).2:Int)),())))))else (bif (v0.1:Bool)then (some ((((qaf v0.2.1 (((qbn (1:Int)).1:Int),((qbn (1:Int)).2:Int))).1:Int),((qaf v0.2.1 (((qbn (1:Int)).1:Int),((qbn (1:Int)).2:Int))).2:Int)),()))else (bif (v0.2.2.2.1:Bool)then (some ((((qaf v0.2.2.2.2.1 (((qbn (-1:Int)).1:Int),((qbn (-1:Int)).2:Int))).1:Int),((qaf v0.2.2.2.2.1 (((qbn (-1:Int)).1:Int),((qbn (-1:Int)).2:Int))).2:Int)),()))else (some ((((qbn (0:Int)).1:Int),((qbn (0:Int)).2:Int)),()))))
def qq8:Gam:=[(107,ql0),(157,qCB),(285,qEp)]
theorem q5w:Gam.get qq8 107=some ql0:=rfl
theorem q8q:Gam.get qq8 157=some qCB:=rfl
theorem q8o:Gam.get qq8 285=some qEp:=rfl
def qEP:Nm:=⟨[false,false,true],[],false⟩
theorem zm5:qEP.zero=false:=rfl
theorem q7s:qEP.fix=[]:=rfl
theorem q89:qEP.keep=[false,false,true]:=rfl
def qDP:Nm:=⟨[false,false,true],[],false⟩
theorem zhW:qDP.zero=false:=rfl
theorem q98:qDP.fix=[]:=rfl
theorem zgd:qDP.keep=[false,false,true]:=rfl
def qBj:Nat→Tree:=fun i=>if i=4 then .alt 0 (.alt 1 (.alt 2 (.alt 3 (.alt 4 .done .stop) .stop) .stop) (.alt 2 (.quiet 1 (.alt 3 (.alt 4 .done .stop) .stop)) .stop)) (.alt 2 (.quiet 0 (.quiet 1 (.alt 3 (.alt 4 .done .stop) .stop))) .stop)else if i=6 then .alt 0 (.alt 1 (.alt 2 (.alt 3 (.alt 4 .done .stop) .stop) .stop) (.alt 2 (.quiet 1 (.alt 3 (.alt 4 .done .stop) .stop)) .stop)) (.alt 2 (.quiet 0 (.quiet 1 (.alt 3 (.alt 4 .done .stop) .stop))) .stop)else .done
def qQG:Nat→Nm:=fun _=>⟨[],[],false⟩
def qR3:Nat→Option Jn:=fun _=>none
def qSM:Nat→Option Nm:=fun _=>none
def qWX:Nat→Option Nm:=fun i=>if i=4 then some qEP else if i=6 then some qDP else none
theorem q5A:qn qBj (Tryz.f224.body.getD .skip)=true:=by kernel_rfl
def qfG (N:Nat):Tab:={tr:=qBj,lp:=qQG,ex:=qSM,rg:=qWX,jn:=qR3,fuel:=N}
theorem zbK (N:Nat):(qfG N).pins=false:=rfl
theorem zkU (N:Nat):qp Tryz.prog (qfG N):=qv fun _=>rfl
theorem q8n (N:Nat) (i:Nat):(qfG N).tr i=qBj i:=rfl
theorem zbL (N:Nat) (i:Nat):(qfG N).lp i=qQG i:=rfl
theorem zo6 (N:Nat) (i:Nat):(qfG N).ex i=qSM i:=rfl
theorem q5Q (N:Nat) (i:Nat):(qfG N).rg i=qWX i:=rfl
theorem znA (N:Nat) (i:Nat):(qfG N).jn i=qR3 i:=rfl
theorem zhR (N:Nat):(qfG N).fuel=N:=rfl
theorem q5G (N:Nat) (v0:Val qad):qe tt qq8 (qfG N) (Tryz.f224.body.getD .skip) (qt tt true [i28] [.cell 2 28]) (qw [qD] 32 (v0,()))=qyV N v0:=by
 rw [qyV];unfold Tryz.f224
 simp (maxSteps:=10000000) -implicitDefEqProofs [q8n,qBj,zbL,qQG,zo6,qSM,q5Q,qWX,znA,qR3,zhR,zbK,q7s,q89,zm5,q98,zgd,zhW,q5w,q8q,q8o,ql0,qCB,qEp]
 try rfl
theorem zre (r:Val Y28):qdX r ((1:Int),(1:Int))=qaf r ((-1:Int),(1:Int)):=rfl
theorem zlc (b:Val qad): ∃N,qxx N b=some (q5 b,()):=⟨0,by
 rw [qxx,zre]
 unfold q5
 cases b.1<;>cases b.2.2.2.1<;>rfl⟩
theorem q7R:Sound Tryz.prog 227 qfL:=qx (tt:=tt) (Γ:=quA) hT (qg q17 (qg qZU (qg q4P qu))) hm (fn:=Tryz.f227) Tryz.func227 (c:=Tryz.f227.body.getD .skip) (by kernel_rfl) (by kernel_rfl) fun x hx=>by
 obtain ⟨N,h⟩:=zlc x.1
 exact ⟨qfo N,zli,qy _,q9c N,(q7J N x.1).trans h⟩
theorem zos (b:Val qad): ∃N,qyV N b=some (q5 b,()):=⟨0,by
 rw [qyV]
 unfold q5
 cases b.1<;>cases b.2.2.2.1<;>rfl⟩
theorem zk0:Sound Tryz.prog 224 qd1:=qx (tt:=tt) (Γ:=qq8) hT (qg q1Y (qg zpJ (qg zqM qu))) hm (fn:=Tryz.f224) Tryz.func224 (c:=Tryz.f224.body.getD .skip) (by kernel_rfl) (by kernel_rfl) fun x hx=>by
 obtain ⟨N,h⟩:=zos x.1
 exact ⟨qfG N,q5A,qy _,zkU N,(q5G N x.1).trans h⟩
def qDS (c:Val Y33):Prop:=qci c
def qpp:G:={ps:=[i33],rs:=[i52,i3],dp:=true,pre:=fun _=>True,fn:=fun x=>((qbh x.1).1,(qbh x.1).2,())}
noncomputable def qjT (N:Nat) (v74:Int) (v75:Int) (v76:Int) (v77:Int) (v78:Int) (v80:Int) (v81:List (Val qa)) (v82:List (Val Y33)) (v83:List (Val Y28)) (v84:Int) (v85:Int) (v86:Int) (k4:(List (Val qa))→Option (qc [i52,i3])):Nat→Int→(List (Val qa))→Option (qc [i52,i3])
 | 0,_,_=>none
 | n+1,v79,v87=>bif (decide (v79<v78))then (chk (0≤v79∧v79<(v87.length:Int)) (chk (v79.toNat<v87.length) (bif (!((qak (v87.getD v79.toNat (qb qa)) v75 (v85,v86)).2:Bool))then (some (([]:List (Val Y28)),(2:Int),()))else (chk (0≤v79∧v79<(v87.length:Int)) (chk (v79.toNat<v87.length) (qjT N v74 v75 v76 v77 v78 v80 v81 v82 v83 v84 v85 v86 k4 n (IntKind.i64.wrap (v79+(1:Int))) (v87.set v79.toNat ((((qak (v87.getD v79.toNat (qb qa)) v75 (v85,v86)).1).1:List (Val (.int .i64))),((((qak (v87.getD v79.toNat (qb qa)) v75 (v85,v86)).1).2).1:Int),((((qak (v87.getD v79.toNat (qb qa)) v75 (v85,v86)).1).2).2:Bool)))))))))else (k4 v87)
noncomputable def qhB (N:Nat) (v49:Int) (v50:Int) (v52:Int) (v53:List (Val qa)) (v54:List (Val Y33)) (v55:List (Val Y28)) (v56:Int) (k2:(List (Val qa))→Option (qc [i52,i3])):Nat→Int→(List (Val qa))→Option (qc [i52,i3])
 | 0,_,_=>none
 | n+1,v51,v57=>bif (decide (v51<v50))then (chk (0≤v51∧v51<(v55.length:Int)) (chk (v51.toNat<v55.length) (qjT N v49 v51 v50 v51 (v57.length:Int) v52 v53 v54 v55 v56 ((v55.getD v51.toNat (qb Y28)).1:Int) ((v55.getD v51.toNat (qb Y28)).2:Int) (fun (v89:List (Val qa))=>qhB N v49 v50 v52 v53 v54 v55 v56 k2 n (IntKind.i64.wrap (v51+(1:Int))) v89) N (0:Int) v57)))else (k2 v57)
noncomputable def qgQ (N:Nat) (v2:Int) (v3:List (Val qa)) (v4:List (Val Y33)) (k0:(List (Val Y28))→Option (qc [i52,i3])):Nat→Int→(List (Val Y28))→Option (qc [i52,i3])
 | 0,_,_=>none
 | n+1,v1,v5=>bif (decide (v1<v2))then (chk (0≤(IntKind.i64.wrap (v1+(1:Int)))∧(IntKind.i64.wrap (v1+(1:Int)))<(v4.length:Int)) (chk ((IntKind.i64.wrap (v1+(1:Int))).toNat<v4.length) (chk (qi0 (v4.getD ((IntKind.i64.wrap (v1+(1:Int))).toNat) (qb Y33))) (qhB N v1 (v5.length:Int) v2 v3 v4 v5 ((cpC (v4.getD ((IntKind.i64.wrap (v1+(1:Int))).toNat) (qb Y33))).1:Int) (fun (v91:List (Val qa))=>chk (qhf (((cpC (v4.getD ((IntKind.i64.wrap (v1+(1:Int))).toNat) (qb Y33))).1:Int),v91) v1) (bif (!((qi (((q5 (((qf (((cpC (v4.getD ((IntKind.i64.wrap (v1+(1:Int))).toNat) (qb Y33))).1:Int),v91) v1).1:Bool),(((((qf (((cpC (v4.getD ((IntKind.i64.wrap (v1+(1:Int))).toNat) (qb Y33))).1:Int),v91) v1).2).1).1:Int),((((qf (((cpC (v4.getD ((IntKind.i64.wrap (v1+(1:Int))).toNat) (qb Y33))).1:Int),v91) v1).2).1).2:Int)),((((qf (((cpC (v4.getD ((IntKind.i64.wrap (v1+(1:Int))).toNat) (qb Y33))).1:Int),v91) v1).2).2).1:Bool),(((((qf (((cpC (v4.getD ((IntKind.i64.wrap (v1+(1:Int))).toNat) (qb Y33))).1:Int),v91) v1).2).2).2).1:Bool),((((((((qf (((cpC (v4.getD ((IntKind.i64.wrap (v1+(1:Int))).toNat) (qb Y33))).1:Int),v91) v1).2).2).2).2).1).1:Int),(((((((qf (((cpC (v4.getD ((IntKind.i64.wrap (v1+(1:Int))).toNat) (qb Y33))).1:Int),v91) v1).2).2).2).2).1).2:Int)),(((((((qf (((cpC (v4.getD ((IntKind.i64.wrap (v1+(1:Int))).toNat) (qb Y33))).1:Int),v91) v1).2).2).2).2).2).1:Bool),(((((((qf (((cpC (v4.getD ((IntKind.i64.wrap (v1+(1:Int))).toNat) (qb Y33))).1:Int),v91) v1).2).2).2).2).2).2:Bool))).1:Int),((q5 (((qf (((cpC (v4.getD ((IntKind.i64.wrap (v1+(1:Int))).toNat) (qb Y33))).1:Int),v91) v1).1:Bool),(((((qf (((cpC (v4.getD ((IntKind.i64.wrap (v1+(1:Int))).toNat) (qb Y33))).1:Int),v91) v1).2).1).1:Int),((((qf (((cpC (v4.getD ((IntKind.i64.wrap (v1+(1:Int))).toNat) (qb Y33))).1:Int),v91) v1).2).1).2:Int)),((((qf (((cpC (v4.getD ((IntKind.i64.wrap (v1+(1:Int))).toNat) (qb Y33))).1:Int),v91) v1).2).2).1:Bool),(((((qf (((cpC (v4.getD ((IntKind.i64.wrap (v1+(1:Int))).toNat) (qb Y33))).1:Int),v91) v1).2).2).2).1:Bool),((((((((qf (((cpC (v4.getD ((IntKind.i64.wrap (v1+(1:Int))).toNat) (qb Y33))).1:Int),v91) v1).2).2).2).2).1).1:Int),(((((((qf (((cpC (v4.getD ((IntKind.i64.wrap (v1+(1:Int))).toNat) (qb Y33))).1:Int),v91) v1).2).2).2).2).1).2:Int)),(((((((qf (((cpC (v4.getD ((IntKind.i64.wrap (v1+(1:Int))).toNat) (qb Y33))).1:Int),v91) v1).2).2).2).2).2).1:Bool),(((((((qf (((cpC (v4.getD ((IntKind.i64.wrap (v1+(1:Int))).toNat) (qb Y33))).1:Int),v91) v1).2).2).2).2).2).2:Bool))).2:Int))):Bool))then (some (([]:List (Val Y28)),(2:Int),()))else (chk (v5.length+([(((q5 (((qf (((cpC (v4.getD ((IntKind.i64.wrap (v1+(1:Int))).toNat) (qb Y33))).1:Int),v91) v1).1:Bool),(((((qf (((cpC (v4.getD ((IntKind.i64.wrap (v1+(1:Int))).toNat) (qb Y33))).1:Int),v91) v1).2).1).1:Int),((((qf (((cpC (v4.getD ((IntKind.i64.wrap (v1+(1:Int))).toNat) (qb Y33))).1:Int),v91) v1).2).1).2:Int)),((((qf (((cpC (v4.getD ((IntKind.i64.wrap (v1+(1:Int))).toNat) (qb Y33))).1:Int),v91) v1).2).2).1:Bool),(((((qf (((cpC (v4.getD ((IntKind.i64.wrap (v1+(1:Int))).toNat) (qb Y33))).1:Int),v91) v1).2).2).2).1:Bool),((((((((qf (((cpC (v4.getD ((IntKind.i64.wrap (v1+(1:Int))).toNat) (qb Y33))).1:Int),v91) v1).2).2).2).2).1).1:Int),(((((((qf (((cpC (v4.getD ((IntKind.i64.wrap (v1+(1:Int))).toNat) (qb Y33))).1:Int),v91) v1).2).2).2).2).1).2:Int)),(((((((qf (((cpC (v4.getD ((IntKind.i64.wrap (v1+(1:Int))).toNat) (qb Y33))).1:Int),v91) v1).2).2).2).2).2).1:Bool),(((((((qf (((cpC (v4.getD ((IntKind.i64.wrap (v1+(1:Int))).toNat) (qb Y33))).1:Int),v91) v1).2).2).2).2).2).2:Bool))).1:Int),((q5 (((qf (((cpC (v4.getD ((IntKind.i64.wrap (v1+(1:Int))).toNat) (qb Y33))).1:Int),v91) v1).1:Bool),(((((qf (((cpC (v4.getD ((IntKind.i64.wrap (v1+(1:Int))).toNat) (qb Y33))).1:Int),v91) v1).2).1).1:Int),((((qf (((cpC (v4.getD ((IntKind.i64.wrap (v1+(1:Int))).toNat) (qb Y33))).1:Int),v91) v1).2).1).2:Int)),((((qf (((cpC (v4.getD ((IntKind.i64.wrap (v1+(1:Int))).toNat) (qb Y33))).1:Int),v91) v1).2).2).1:Bool),(((((qf (((cpC (v4.getD ((IntKind.i64.wrap (v1+(1:Int))).toNat) (qb Y33))).1:Int),v91) v1).2).2).2).1:Bool),((((((((qf (((cpC (v4.getD ((IntKind.i64.wrap (v1+(1:Int))).toNat) (qb Y33))).1:Int),v91) v1).2).2).2).2).1).1:Int),(((((((qf (((cpC (v4.getD ((IntKind.i64.wrap (v1+(1:Int))).toNat) (qb Y33))).1:Int),v91) v1).2).2).2).2).1).2:Int)),(((((((qf (((cpC (v4.getD ((IntKind.i64.wrap (v1+(1:Int))).toNat) (qb Y33))).1:Int),v91) v1).2).2).2).2).2).1:Bool),(((((((qf (((cpC (v4.getD ((IntKind.i64.wrap (v1+(1:Int))).toNat) (qb Y33))).1:Int),v91) v1).2).2).2).2).2).2:Bool))).2:Int))]:List (Val Y28)).length≤1048576) (qgQ N v2 v3 v4 k0 n (IntKind.i64.wrap (v1+(1:Int))) (v5++([(((q5 (((qf (((cpC (v4.getD ((IntKind.i64.wrap (v1+(1:Int))).toNat) (qb Y33))).1:Int),v91) v1).1:Bool),(((((qf (((cpC (v4.getD ((IntKind.i64.wrap (v1+(1:Int))).toNat) (qb Y33))).1:Int),v91) v1).2).1).1:Int),((((qf (((cpC (v4.getD ((IntKind.i64.wrap (v1+(1:Int))).toNat) (qb Y33))).1:Int),v91) v1).2).1).2:Int)),((((qf (((cpC (v4.getD ((IntKind.i64.wrap (v1+(1:Int))).toNat) (qb Y33))).1:Int),v91) v1).2).2).1:Bool),(((((qf (((cpC (v4.getD ((IntKind.i64.wrap (v1+(1:Int))).toNat) (qb Y33))).1:Int),v91) v1).2).2).2).1:Bool),((((((((qf (((cpC (v4.getD ((IntKind.i64.wrap (v1+(1:Int))).toNat) (qb Y33))).1:Int),v91) v1).2).2).2).2).1).1:Int),(((((((qf (((cpC (v4.getD ((IntKind.i64.wrap (v1+(1:Int))).toNat) (qb Y33))).1:Int),v91) v1).2).2).2).2).1).2:Int)),(((((((qf (((cpC (v4.getD ((IntKind.i64.wrap (v1+(1:Int))).toNat) (qb Y33))).1:Int),v91) v1).2).2).2).2).2).1:Bool),(((((((qf (((cpC (v4.getD ((IntKind.i64.wrap (v1+(1:Int))).toNat) (qb Y33))).1:Int),v91) v1).2).2).2).2).2).2:Bool))).1:Int),((q5 (((qf (((cpC (v4.getD ((IntKind.i64.wrap (v1+(1:Int))).toNat) (qb Y33))).1:Int),v91) v1).1:Bool),(((((qf (((cpC (v4.getD ((IntKind.i64.wrap (v1+(1:Int))).toNat) (qb Y33))).1:Int),v91) v1).2).1).1:Int),((((qf (((cpC (v4.getD ((IntKind.i64.wrap (v1+(1:Int))).toNat) (qb Y33))).1:Int),v91) v1).2).1).2:Int)),((((qf (((cpC (v4.getD ((IntKind.i64.wrap (v1+(1:Int))).toNat) (qb Y33))).1:Int),v91) v1).2).2).1:Bool),(((((qf (((cpC (v4.getD ((IntKind.i64.wrap (v1+(1:Int))).toNat) (qb Y33))).1:Int),v91) v1).2).2).2).1:Bool),((((((((qf (((cpC (v4.getD ((IntKind.i64.wrap (v1+(1:Int))).toNat) (qb Y33))).1:Int),v91) v1).2).2).2).2).1).1:Int),(((((((qf (((cpC (v4.getD ((IntKind.i64.wrap (v1+(1:Int))).toNat) (qb Y33))).1:Int),v91) v1).2).2).2).2).1).2:Int)),(((((((qf (((cpC (v4.getD ((IntKind.i64.wrap (v1+(1:Int))).toNat) (qb Y33))).1:Int),v91) v1).2).2).2).2).2).1:Bool),(((((((qf (((cpC (v4.getD ((IntKind.i64.wrap (v1+(1:Int))).toNat) (qb Y33))).1:Int),v91) v1).2).2).2).2).2).2:Bool))).2:Int))]:List (Val Y28))))))) N (0:Int) ((cpC (v4.getD ((IntKind.i64.wrap (v1+(1:Int))).toNat) (qb Y33))).2:List (Val qa))))))else (k0 v5)
noncomputable def qyu (N:Nat) (v0:Val Y33):Option (qc [i52,i3]):=bif (!((qeN v0).2:Bool))then (some (([]:List (Val Y28)),(2:Int),()))else (chk (0≤(0:Int)∧(0:Int)<(((qeN v0).1:List (Val Y33)).length:Int)) (chk ((0:Int).toNat<((qeN v0).1:List (Val Y33)).length) (bif (decide ((0:Int)<(((((qeN v0).1:List (Val Y33)).getD ((0:Int).toNat) (qb Y33)).2:List (Val qa)).length:Int)))then (some (([]:List (Val Y28)),(1:Int),()))else (qgQ N (v0.1:Int) (v0.2:List (Val qa)) ((qeN v0).1:List (Val Y33)) (fun (v93:List (Val Y28))=>some (v93,(0:Int),())) N (0:Int) ([]:List (Val Y28))))))
def qb8:Gam:=[(114,qau),(214,qbm),(225,qfW),(226,qfh),(227,qfL),(228,qcw)]
theorem qk2:Gam.get qb8 114=some qau:=rfl
theorem qkh:Gam.get qb8 214=some qbm:=rfl
theorem qmc:Gam.get qb8 225=some qfW:=rfl
theorem qkS:Gam.get qb8 226=some qfh:=rfl
theorem qjS:Gam.get qb8 227=some qfL:=rfl
theorem qj9:Gam.get qb8 228=some qcw:=rfl
def qw9:Nm:=⟨[false,true,false,false,true,false,true,true,true,true,true,false,false,false,false,false,false,false,false,false,false,false,false,false,false,false,false,false,false,false,false,false,false,false,false,false,false,false,false,false,false,false,true,true,true,false,false,false,false,false,true,true,true],[],false⟩
theorem qmL:qw9.zero=false:=rfl
theorem qmx:qw9.fix=[]:=rfl
theorem qlY:qw9.keep=[false,true,false,false,true,false,true,true,true,true,true,false,false,false,false,false,false,false,false,false,false,false,false,false,false,false,false,false,false,false,false,false,false,false,false,false,false,false,false,false,false,false,true,true,true,false,false,false,false,false,true,true,true]:=rfl
def qwo:Nm:=⟨[false,true,false,false,true,false,true,true,true,false,false,false,false,false,false,false,false,false,false,false,false,false,false,false,false,false,false,false,false,false,false,false,false,false,false,false,false,false,false,false,false,false,true,true,true],[],false⟩
theorem qli:qwo.zero=false:=rfl
theorem qkR:qwo.fix=[]:=rfl
theorem qlZ:qwo.keep=[false,true,false,false,true,false,true,true,true,false,false,false,false,false,false,false,false,false,false,false,false,false,false,false,false,false,false,false,false,false,false,false,false,false,false,false,false,false,false,false,false,false,true,true,true]:=rfl
def qrz:Nm:=⟨[false,true,false,false,true,false,true,true],[],false⟩
theorem qkg:qrz.zero=false:=rfl
theorem qmw:qrz.fix=[]:=rfl
theorem qlD:qrz.keep=[false,true,false,false,true,false,true,true]:=rfl
def qAX:Nm:=⟨[false,false,false,false,false,false,true],[],false⟩
theorem qj3:qAX.zero=false:=rfl
theorem qlB:qAX.fix=[]:=rfl
theorem qjM:qAX.keep=[false,false,false,false,false,false,true]:=rfl
def qAG:Nm:=⟨[false,true,false,false,true,false,true,true,true],[],false⟩
theorem qky:qAG.zero=false:=rfl
theorem qlx:qAG.fix=[]:=rfl
theorem ql3:qAG.keep=[false,true,false,false,true,false,true,true,true]:=rfl
def qBB:Nm:=⟨[false,true,false,false,true,false,true,true,true,false,false,false,false,false,false,false,false,false,false,false,false,false,false,false,false,false,false,false,false,false,false,false,false,false,false,false,false,false,false,false,false,false,true,true,true],[],false⟩
theorem qkp:qBB.zero=false:=rfl
theorem qjK:qBB.fix=[]:=rfl
theorem qmo:qBB.keep=[false,true,false,false,true,false,true,true,true,false,false,false,false,false,false,false,false,false,false,false,false,false,false,false,false,false,false,false,false,false,false,false,false,false,false,false,false,false,false,false,false,false,true,true,true]:=rfl
def qgn:Nat→Tree:=fun _=> .done
def qgy:Nat→Nm:=fun i=>if i=15 then qw9 else if i=12 then qwo else if i=8 then qrz else ⟨[],[],false⟩
def qgU:Nat→Option Jn:=fun _=>none
def qg7:Nat→Option Nm:=fun i=>if i=0 then some qAX else if i=2 then some qAG else if i=4 then some qBB else none
def qhR:Nat→Option Nm:=fun _=>none
theorem zoq:qn qgn (Tryz.f141.body.getD .skip)=true:=by kernel_rfl
def qbI (N:Nat):Tab:={tr:=qgn,lp:=qgy,ex:=qg7,rg:=qhR,jn:=qgU,fuel:=N}
theorem qjE (N:Nat):(qbI N).pins=false:=rfl
theorem q42 (N:Nat):qp Tryz.prog (qbI N):=qv fun _=>rfl
theorem qlF (N:Nat) (i:Nat):(qbI N).tr i=qgn i:=rfl
theorem qmn (N:Nat) (i:Nat):(qbI N).lp i=qgy i:=rfl
theorem qjv (N:Nat) (i:Nat):(qbI N).ex i=qg7 i:=rfl
theorem qko (N:Nat) (i:Nat):(qbI N).rg i=qhR i:=rfl
theorem qlU (N:Nat) (i:Nat):(qbI N).jn i=qgU i:=rfl
theorem qkt (N:Nat):(qbI N).fuel=N:=rfl
noncomputable def q2s:Code:=cut [true,true,true,true,true,false,true,true,true,true,false,true,true,false,true,true,true,true,true,false,true,true,true,true,true] (Tryz.f141.body.getD .skip)
theorem zjk {N:Nat} {Q:X→St→Option (qc [i52,i3])} {e:List LV} {h:List Blk}:qe tt qb8 (qbI N) q2s Q ⟨e,h⟩=qe tt qb8 (qbI N) (cut [true,true,true,true,true,false,true,true,true,true,false,true,true,false,true,true,true,true,true,false,true,true,true,true,true] (Tryz.f141.body.getD .skip)) Q ⟨e,h⟩:=rfl
theorem q4S (N:Nat) (v74:Int) (v75:Int) (v76:Int) (v77:Int) (v78:Int) (v80:Int) (v81:List (Val qa)) (v82:List (Val Y33)) (v83:List (Val Y28)) (v84:Int) (v85:Int) (v86:Int) {k4:(List (Val qa))→Option (qc [i52,i3])} {Q:X→St→Option (qc [i52,i3])} {c:Code} (hc:c=q2s) (hret: ∀st,Q .ret st=qI tt true [i52,i3] [.tmp 2,.tmp 3] st) (h4: ∀(v88:List (Val qa)),Q (.exit 4) ⟨[u,.one (.ptr 0 0 0),u,u,.one (.own 1),u,.one (.own 2),.one (.int .i64 v74),.one (.ptr 3 0 0),u,u,u,u,u,u,u,u,u,u,u,u,u,u,u,u,u,u,u,u,u,u,u,u,u,u,u,u,u,u,u,u,u,.one (.own 2),.one (.int .i64 v76),.one (.int .i64 v77),u,u,u,u,u,u,u,u,u,u,u,u,u,u,u,u,u,u,u,u,u,u,u,u,u,u,u,u,u,u,u,u,u,u,u,u,u,u,u,u],[.box [.int .i64 v80,.sl 108 qa v81 5],.row 33 Y33 v82 true true 0,.row 28 Y28 v83 true true 0,.box [.int .i64 v84,.own 4],.row 108 qa v88 true true 0]⟩=k4 v88): ∀(n:Nat) (v79:Int) (v87:List (Val qa)),qE (qe tt qb8 (qbI N) c) false qw9 Q n ⟨[u,.one (.ptr 0 0 0),u,u,.one (.own 1),u,.one (.own 2),.one (.int .i64 v74),.one (.ptr 3 0 0),.one (.int .i64 v75),.one (.ptr 4 0 0),u,u,u,u,u,u,u,u,u,u,u,u,u,u,u,u,u,u,u,u,u,u,u,u,u,u,u,u,u,u,u,.one (.own 2),.one (.int .i64 v76),.one (.int .i64 v77),u,u,u,u,u,.one (.own 5),.one (.int .i64 v78),.one (.int .i64 v79),u,u,u,u,u,u,u,u,u,u,u,u,u,u,u,u,u,u,u,u,u,u,u,u,u,u,u,u,u,u,u,u],[.box [.int .i64 v80,.sl 108 qa v81 6],.row 33 Y33 v82 true true 0,.row 28 Y28 v83 true true 0,.box [.int .i64 v84,.own 5],.box [.int .i64 v85,.int .i64 v86],.row 108 qa v87 true true 0]⟩=qjT N v74 v75 v76 v77 v78 v80 v81 v82 v83 v84 v85 v86 k4 n v79 v87:=by
 subst hc;intro n;induction n with
 | zero=>intros;rfl
 | succ n ih=>
   intro v79 v87
   rw [qN,zjk,qjT];unfold Tryz.f141
   simp (maxSteps:=10000000) -implicitDefEqProofs [qlF,qgn,qmn,qgy,qjv,qg7,qko,qhR,qlU,qgU,qkt,qjE,qmx,qlY,qmL,qkR,qlZ,qli,qmw,qlD,qkg,qlB,qjM,qj3,qlx,ql3,qky,qjK,qmo,qkp,qk2,qkh,qmc,qkS,qjS,qj9,qau,qbm,qfW,qfh,qfL,qcw,hret,h4,ih]
noncomputable def q1h:Code:=cut [true,true,true,true,true,false,true,true,true,true,false,true,true,false,true,true,true] (Tryz.f141.body.getD .skip)
theorem zck {N:Nat} {Q:X→St→Option (qc [i52,i3])} {e:List LV} {h:List Blk}:qe tt qb8 (qbI N) q1h Q ⟨e,h⟩=qe tt qb8 (qbI N) (cut [true,true,true,true,true,false,true,true,true,true,false,true,true,false,true,true,true] (Tryz.f141.body.getD .skip)) Q ⟨e,h⟩:=rfl
theorem q6N (N:Nat) (v49:Int) (v50:Int) (v52:Int) (v53:List (Val qa)) (v54:List (Val Y33)) (v55:List (Val Y28)) (v56:Int) {k2:(List (Val qa))→Option (qc [i52,i3])} {Q:X→St→Option (qc [i52,i3])} {c:Code} (hc:c=q1h) (hret: ∀st,Q .ret st=qI tt true [i52,i3] [.tmp 2,.tmp 3] st) (h2: ∀(v90:List (Val qa)),Q (.exit 2) ⟨[u,.one (.ptr 0 0 0),u,u,.one (.own 1),u,.one (.own 2),.one (.int .i64 v49),.one (.ptr 3 0 0),u,u,u,u,u,u,u,u,u,u,u,u,u,u,u,u,u,u,u,u,u,u,u,u,u,u,u,u,u,u,u,u,u,u,u,u,u,u,u,u,u,u,u,u,u,u,u,u,u,u,u,u,u,u,u,u,u,u,u,u,u,u,u,u,u,u,u,u,u,u,u,u,u,u,u,u],[.box [.int .i64 v52,.sl 108 qa v53 5],.row 33 Y33 v54 true true 0,.row 28 Y28 v55 true true 0,.box [.int .i64 v56,.own 4],.row 108 qa v90 true true 0]⟩=k2 v90): ∀(n:Nat) (v51:Int) (v57:List (Val qa)),qE (qe tt qb8 (qbI N) c) false qwo Q n ⟨[u,.one (.ptr 0 0 0),u,u,.one (.own 1),u,.one (.own 2),.one (.int .i64 v49),.one (.ptr 3 0 0),u,u,u,u,u,u,u,u,u,u,u,u,u,u,u,u,u,u,u,u,u,u,u,u,u,u,u,u,u,u,u,u,u,.one (.own 2),.one (.int .i64 v50),.one (.int .i64 v51),u,u,u,u,u,u,u,u,u,u,u,u,u,u,u,u,u,u,u,u,u,u,u,u,u,u,u,u,u,u,u,u,u,u,u,u,u,u,u,u],[.box [.int .i64 v52,.sl 108 qa v53 5],.row 33 Y33 v54 true true 0,.row 28 Y28 v55 true true 0,.box [.int .i64 v56,.own 4],.row 108 qa v57 true true 0]⟩=qhB N v49 v50 v52 v53 v54 v55 v56 k2 n v51 v57:=by
 subst hc;intro n;induction n with
 | zero=>intros;rfl
 | succ n ih=>
   intro v51 v57
   rw [qN,zck];unfold Tryz.f141
   simp (maxSteps:=10000000) -implicitDefEqProofs [qlF,qgn,qmn,qgy,qjv,qg7,qko,qhR,qlU,qgU,qkt,qjE,qmx,qlY,qmL,qkR,qlZ,qli,qmw,qlD,qkg,qlB,qjM,qj3,qlx,ql3,qky,qjK,qmo,qkp,qk2,qkh,qmc,qkS,qjS,qj9,qau,qbm,qfW,qfh,qfL,qcw,hret,h2,ih]
   rewrite [q4S (k4:=(fun (v89:List (Val qa))=>qhB N v49 v50 v52 v53 v54 v55 v56 k2 n (IntKind.i64.wrap (v51+(1:Int))) v89)) N _ _ _ _ _ _ _ _ _ _ _ _ ?_ ?_ ?_]
   ·rewrite [qhB];first | rfl | simp (maxSteps:=10000000) -implicitDefEqProofs [ih]
   ·rfl
   ·intro;simp only [qJ,qL,qK,qB,hret]
   ·intro v89;simp (maxSteps:=10000000) -implicitDefEqProofs [qlF,qgn,qmn,qgy,qjv,qg7,qko,qhR,qlU,qgU,qkt,qjE,qmx,qlY,qmL,qkR,qlZ,qli,qmw,qlD,qkg,qlB,qjM,qj3,qlx,ql3,qky,qjK,qmo,qkp,qk2,qkh,qmc,qkS,qjS,qj9,qau,qbm,qfW,qfh,qfL,qcw,hret,h2,ih]
noncomputable def q2F:Code:=cut [true,true,true,true,true,false,true,true,true] (Tryz.f141.body.getD .skip)
theorem zfQ {N:Nat} {Q:X→St→Option (qc [i52,i3])} {e:List LV} {h:List Blk}:qe tt qb8 (qbI N) q2F Q ⟨e,h⟩=qe tt qb8 (qbI N) (cut [true,true,true,true,true,false,true,true,true] (Tryz.f141.body.getD .skip)) Q ⟨e,h⟩:=rfl
theorem znT (N:Nat) (v2:Int) (v3:List (Val qa)) (v4:List (Val Y33)) {k0:(List (Val Y28))→Option (qc [i52,i3])} {Q:X→St→Option (qc [i52,i3])} {c:Code} (hc:c=q2F) (hret: ∀st,Q .ret st=qI tt true [i52,i3] [.tmp 2,.tmp 3] st) (h0: ∀(v92:List (Val Y28)),Q (.exit 0) ⟨[u,u,u,u,u,u,.one (.own 0),u,u,u,u,u,u,u,u,u,u,u,u,u,u,u,u,u,u,u,u,u,u,u,u,u,u,u,u,u,u,u,u,u,u,u,u,u,u,u,u,u,u,u,u,u,u,u,u,u,u,u,u,u,u,u,u,u,u,u,u,u,u,u,u,u,u,u,u,u,u,u,u,u,u,u,u,u,u],[.row 28 Y28 v92 true true 0]⟩=k0 v92): ∀(n:Nat) (v1:Int) (v5:List (Val Y28)),qE (qe tt qb8 (qbI N) c) false qrz Q n ⟨[u,.one (.ptr 0 0 0),u,u,.one (.own 1),u,.one (.own 2),.one (.int .i64 v1),u,u,u,u,u,u,u,u,u,u,u,u,u,u,u,u,u,u,u,u,u,u,u,u,u,u,u,u,u,u,u,u,u,u,u,u,u,u,u,u,u,u,u,u,u,u,u,u,u,u,u,u,u,u,u,u,u,u,u,u,u,u,u,u,u,u,u,u,u,u,u,u,u,u,u,u,u],[.box [.int .i64 v2,.sl 108 qa v3 3],.row 33 Y33 v4 true true 0,.row 28 Y28 v5 true true 0]⟩=qgQ N v2 v3 v4 k0 n v1 v5:=by
 subst hc;intro n;induction n with
 | zero=>intros;rfl
 | succ n ih=>
   intro v1 v5
   rw [qN,zfQ];unfold Tryz.f141
   simp (maxSteps:=10000000) -implicitDefEqProofs [qlF,qgn,qmn,qgy,qjv,qg7,qko,qhR,qlU,qgU,qkt,qjE,qmx,qlY,qmL,qkR,qlZ,qli,qmw,qlD,qkg,qlB,qjM,qj3,qlx,ql3,qky,qjK,qmo,qkp,qk2,qkh,qmc,qkS,qjS,qj9,qau,qbm,qfW,qfh,qfL,qcw,hret,h0,ih]
   rewrite [q6N (k2:=(fun (v91:List (Val qa))=>chk (qhf (((cpC (v4.getD ((IntKind.i64.wrap (v1+(1:Int))).toNat) (qb Y33))).1:Int),v91) v1) (bif (!((qi (((q5 (((qf (((cpC (v4.getD ((IntKind.i64.wrap (v1+(1:Int))).toNat) (qb Y33))).1:Int),v91) v1).1:Bool),(((((qf (((cpC (v4.getD ((IntKind.i64.wrap (v1+(1:Int))).toNat) (qb Y33))).1:Int),v91) v1).2).1).1:Int),((((qf (((cpC (v4.getD ((IntKind.i64.wrap (v1+(1:Int))).toNat) (qb Y33))).1:Int),v91) v1).2).1).2:Int)),((((qf (((cpC (v4.getD ((IntKind.i64.wrap (v1+(1:Int))).toNat) (qb Y33))).1:Int),v91) v1).2).2).1:Bool),(((((qf (((cpC (v4.getD ((IntKind.i64.wrap (v1+(1:Int))).toNat) (qb Y33))).1:Int),v91) v1).2).2).2).1:Bool),((((((((qf (((cpC (v4.getD ((IntKind.i64.wrap (v1+(1:Int))).toNat) (qb Y33))).1:Int),v91) v1).2).2).2).2).1).1:Int),(((((((qf (((cpC (v4.getD ((IntKind.i64.wrap (v1+(1:Int))).toNat) (qb Y33))).1:Int),v91) v1).2).2).2).2).1).2:Int)),(((((((qf (((cpC (v4.getD ((IntKind.i64.wrap (v1+(1:Int))).toNat) (qb Y33))).1:Int),v91) v1).2).2).2).2).2).1:Bool),(((((((qf (((cpC (v4.getD ((IntKind.i64.wrap (v1+(1:Int))).toNat) (qb Y33))).1:Int),v91) v1).2).2).2).2).2).2:Bool))).1:Int),((q5 (((qf (((cpC (v4.getD ((IntKind.i64.wrap (v1+(1:Int))).toNat) (qb Y33))).1:Int),v91) v1).1:Bool),(((((qf (((cpC (v4.getD ((IntKind.i64.wrap (v1+(1:Int))).toNat) (qb Y33))).1:Int),v91) v1).2).1).1:Int),((((qf (((cpC (v4.getD ((IntKind.i64.wrap (v1+(1:Int))).toNat) (qb Y33))).1:Int),v91) v1).2).1).2:Int)),((((qf (((cpC (v4.getD ((IntKind.i64.wrap (v1+(1:Int))).toNat) (qb Y33))).1:Int),v91) v1).2).2).1:Bool),(((((qf (((cpC (v4.getD ((IntKind.i64.wrap (v1+(1:Int))).toNat) (qb Y33))).1:Int),v91) v1).2).2).2).1:Bool),((((((((qf (((cpC (v4.getD ((IntKind.i64.wrap (v1+(1:Int))).toNat) (qb Y33))).1:Int),v91) v1).2).2).2).2).1).1:Int),(((((((qf (((cpC (v4.getD ((IntKind.i64.wrap (v1+(1:Int))).toNat) (qb Y33))).1:Int),v91) v1).2).2).2).2).1).2:Int)),(((((((qf (((cpC (v4.getD ((IntKind.i64.wrap (v1+(1:Int))).toNat) (qb Y33))).1:Int),v91) v1).2).2).2).2).2).1:Bool),(((((((qf (((cpC (v4.getD ((IntKind.i64.wrap (v1+(1:Int))).toNat) (qb Y33))).1:Int),v91) v1).2).2).2).2).2).2:Bool))).2:Int))):Bool))then (some (([]:List (Val Y28)),(2:Int),()))else (chk (v5.length+([(((q5 (((qf (((cpC (v4.getD ((IntKind.i64.wrap (v1+(1:Int))).toNat) (qb Y33))).1:Int),v91) v1).1:Bool),(((((qf (((cpC (v4.getD ((IntKind.i64.wrap (v1+(1:Int))).toNat) (qb Y33))).1:Int),v91) v1).2).1).1:Int),((((qf (((cpC (v4.getD ((IntKind.i64.wrap (v1+(1:Int))).toNat) (qb Y33))).1:Int),v91) v1).2).1).2:Int)),((((qf (((cpC (v4.getD ((IntKind.i64.wrap (v1+(1:Int))).toNat) (qb Y33))).1:Int),v91) v1).2).2).1:Bool),(((((qf (((cpC (v4.getD ((IntKind.i64.wrap (v1+(1:Int))).toNat) (qb Y33))).1:Int),v91) v1).2).2).2).1:Bool),((((((((qf (((cpC (v4.getD ((IntKind.i64.wrap (v1+(1:Int))).toNat) (qb Y33))).1:Int),v91) v1).2).2).2).2).1).1:Int),(((((((qf (((cpC (v4.getD ((IntKind.i64.wrap (v1+(1:Int))).toNat) (qb Y33))).1:Int),v91) v1).2).2).2).2).1).2:Int)),(((((((qf (((cpC (v4.getD ((IntKind.i64.wrap (v1+(1:Int))).toNat) (qb Y33))).1:Int),v91) v1).2).2).2).2).2).1:Bool),(((((((qf (((cpC (v4.getD ((IntKind.i64.wrap (v1+(1:Int))).toNat) (qb Y33))).1:Int),v91) v1).2).2).2).2).2).2:Bool))).1:Int),((q5 (((qf (((cpC (v4.getD ((IntKind.i64.wrap (v1+(1:Int))).toNat) (qb Y33))).1:Int),v91) v1).1:Bool),(((((qf (((cpC (v4.getD ((IntKind.i64.wrap (v1+(1:Int))).toNat) (qb Y33))).1:Int),v91) v1).2).1).1:Int),((((qf (((cpC (v4.getD ((IntKind.i64.wrap (v1+(1:Int))).toNat) (qb Y33))).1:Int),v91) v1).2).1).2:Int)),((((qf (((cpC (v4.getD ((IntKind.i64.wrap (v1+(1:Int))).toNat) (qb Y33))).1:Int),v91) v1).2).2).1:Bool),(((((qf (((cpC (v4.getD ((IntKind.i64.wrap (v1+(1:Int))).toNat) (qb Y33))).1:Int),v91) v1).2).2).2).1:Bool),((((((((qf (((cpC (v4.getD ((IntKind.i64.wrap (v1+(1:Int))).toNat) (qb Y33))).1:Int),v91) v1).2).2).2).2).1).1:Int),(((((((qf (((cpC (v4.getD ((IntKind.i64.wrap (v1+(1:Int))).toNat) (qb Y33))).1:Int),v91) v1).2).2).2).2).1).2:Int)),(((((((qf (((cpC (v4.getD ((IntKind.i64.wrap (v1+(1:Int))).toNat) (qb Y33))).1:Int),v91) v1).2).2).2).2).2).1:Bool),(((((((qf (((cpC (v4.getD ((IntKind.i64.wrap (v1+(1:Int))).toNat) (qb Y33))).1:Int),v91) v1).2).2).2).2).2).2:Bool))).2:Int))]:List (Val Y28)).length≤1048576) (qgQ N v2 v3 v4 k0 n (IntKind.i64.wrap (v1+(1:Int))) (v5++([(((q5 (((qf (((cpC (v4.getD ((IntKind.i64.wrap (v1+(1:Int))).toNat) (qb Y33))).1:Int),v91) v1).1:Bool),(((((qf (((cpC (v4.getD ((IntKind.i64.wrap (v1+(1:Int))).toNat) (qb Y33))).1:Int),v91) v1).2).1).1:Int),((((qf (((cpC (v4.getD ((IntKind.i64.wrap (v1+(1:Int))).toNat) (qb Y33))).1:Int),v91) v1).2).1).2:Int)),((((qf (((cpC (v4.getD ((IntKind.i64.wrap (v1+(1:Int))).toNat) (qb Y33))).1:Int),v91) v1).2).2).1:Bool),(((((qf (((cpC (v4.getD ((IntKind.i64.wrap (v1+(1:Int))).toNat) (qb Y33))).1:Int),v91) v1).2).2).2).1:Bool),((((((((qf (((cpC (v4.getD ((IntKind.i64.wrap (v1+(1:Int))).toNat) (qb Y33))).1:Int),v91) v1).2).2).2).2).1).1:Int),(((((((qf (((cpC (v4.getD ((IntKind.i64.wrap (v1+(1:Int))).toNat) (qb Y33))).1:Int),v91) v1).2).2).2).2).1).2:Int)),(((((((qf (((cpC (v4.getD ((IntKind.i64.wrap (v1+(1:Int))).toNat) (qb Y33))).1:Int),v91) v1).2).2).2).2).2).1:Bool),(((((((qf (((cpC (v4.getD ((IntKind.i64.wrap (v1+(1:Int))).toNat) (qb Y33))).1:Int),v91) v1).2).2).2).2).2).2:Bool))).1:Int),((q5 (((qf (((cpC (v4.getD ((IntKind.i64.wrap (v1+(1:Int))).toNat) (qb Y33))).1:Int),v91) v1).1:Bool),(((((qf (((cpC (v4.getD ((IntKind.i64.wrap (v1+(1:Int))).toNat) (qb Y33))).1:Int),v91) v1).2).1).1:Int),((((qf (((cpC (v4.getD ((IntKind.i64.wrap (v1+(1:Int))).toNat) (qb Y33))).1:Int),v91) v1).2).1).2:Int)),((((qf (((cpC (v4.getD ((IntKind.i64.wrap (v1+(1:Int))).toNat) (qb Y33))).1:Int),v91) v1).2).2).1:Bool),(((((qf (((cpC (v4.getD ((IntKind.i64.wrap (v1+(1:Int))).toNat) (qb Y33))).1:Int),v91) v1).2).2).2).1:Bool),((((((((qf (((cpC (v4.getD ((IntKind.i64.wrap (v1+(1:Int))).toNat) (qb Y33))).1:Int),v91) v1).2).2).2).2).1).1:Int),(((((((qf (((cpC (v4.getD ((IntKind.i64.wrap (v1+(1:Int))).toNat) (qb Y33))).1:Int),v91) v1).2).2).2).2).1).2:Int)),(((((((qf (((cpC (v4.getD ((IntKind.i64.wrap (v1+(1:Int))).toNat) (qb Y33))).1:Int),v91) v1).2).2).2).2).2).1:Bool),(((((((qf (((cpC (v4.getD ((IntKind.i64.wrap (v1+(1:Int))).toNat) (qb Y33))).1:Int),v91) v1).2).2).2).2).2).2:Bool))).2:Int))]:List (Val Y28)))))))) N _ _ _ _ _ _ _ ?_ ?_ ?_]
   ·rewrite [qgQ];first | rfl | simp (maxSteps:=10000000) -implicitDefEqProofs [ih]
   ·rfl
   ·intro;simp only [qJ,qL,qK,qB,hret]
   ·intro v91;simp (maxSteps:=10000000) -implicitDefEqProofs [qlF,qgn,qmn,qgy,qjv,qg7,qko,qhR,qlU,qgU,qkt,qjE,qmx,qlY,qmL,qkR,qlZ,qli,qmw,qlD,qkg,qlB,qjM,qj3,qlx,ql3,qky,qjK,qmo,qkp,qk2,qkh,qmc,qkS,qjS,qj9,qau,qbm,qfW,qfh,qfL,qcw,hret,h0,ih]
theorem za6 (N:Nat) (v0:Val Y33):qe tt qb8 (qbI N) (Tryz.f141.body.getD .skip) (qt tt true [i52,i3] [.tmp 2,.tmp 3]) (qw [i33] 85 (v0,()))=qyu N v0:=by
 unfold Tryz.f141
 simp (maxSteps:=10000000) -implicitDefEqProofs [qlF,qgn,qmn,qgy,qjv,qg7,qko,qhR,qlU,qgU,qkt,qjE,qmx,qlY,qmL,qkR,qlZ,qli,qmw,qlD,qkg,qlB,qjM,qj3,qlx,ql3,qky,qjK,qmo,qkp,qk2,qkh,qmc,qkS,qjS,qj9,qau,qbm,qfW,qfh,qfL,qcw]
 rewrite [znT (k0:=(fun (v93:List (Val Y28))=>some (v93,(0:Int),()))) N _ _ _ ?_ ?_ ?_]
 ·rewrite [qyu];first | rfl | simp (maxSteps:=10000000) -implicitDefEqProofs []
 ·rfl
 ·intro;simp only [qJ,qL,qK,qB]
 ·intro v93;simp (maxSteps:=10000000) -implicitDefEqProofs [qlF,qgn,qmn,qgy,qjv,qg7,qko,qhR,qlU,qgU,qkt,qjE,qmx,qlY,qmL,qkR,qlZ,qli,qmw,qlD,qkg,qlB,qjM,qj3,qlx,ql3,qky,qjK,qmo,qkp,qk2,qkh,qmc,qkS,qjS,qj9,qau,qbm,qfW,qfh,qfL,qcw]
abbrev qhs:Option (qc [i52,i3]):=some (([]:List (Val Y28)),(2:Int),())
theorem q4e {α:Type} (pre:List α) (a:α) (l:List α) (d:α):(pre++a::l).getD pre.length d=a:=by simp [List.getD]
theorem zgG {α:Type} (pre:List α) (a b:α) (l:List α):(pre++a::l).set pre.length b=pre++b::l:=by simp
theorem qZi (N:Nat) (v74 v76 v77 v80:Int) (v81:List (Val qa)) (v82:List (Val Y33)) (v83:List (Val Y28)) (v84:Int) (w:Nat) (r:Val Y28) (K:List (Val qa)→Option (qc [i52,i3])) (m:Nat) (hm:m≤1048576): ∀(ys pre:List (Val qa)),pre.length+ys.length=m→ ∀n,ys.length<n→
 qjT N v74 w v76 v77 m v80 v81 v82 v83 v84 r.1 r.2 K n pre.length (pre++ys)=match qcY w r ys with
  | some l=>K (pre++l)
  | none=>qhs
 | [],pre,h,n+1,_=>by
   simp only [List.length_nil]at h
   rw [qjT,qj (by omega)]
   rfl
 | a::ys,pre,h,n+1,hn=>by
   have hl:(pre++a::ys).length=m:=by rw [List.length_append];exact h
   have h1:pre.length<m:=by simp only [List.length_cons]at h;omega
   have er:(((r.1:Int),(r.2:Int)):Val Y28)=r:=rfl
   rw [qjT,qk (by omega),qd (by omega),qd (by omega),Int.toNat_natCast,q4e,er,qcY]
   cases hf:(qak a w r).2 with
   | false=>rfl
   | true=>
     simp only [Bool.not_true,cond_false,cond_true]
     rw [qd (by omega),qd (by omega),zgG,qa2 h1 (by omega)]
     have ih:=qZi N v74 v76 v77 v80 v81 v82 v83 v84 w r K m hm ys (pre++[(qak a w r).1]) (by simp only [List.length_append,List.length_cons,List.length_nil]at h ⊢;omega) n (by simp only [List.length_cons]at hn;omega)
     have e1:(((pre++[(qak a w r).1]).length:Nat):Int)=((pre.length+1:Nat):Int):=by simp
     rw [e1,List.append_assoc]at ih
     refine (show _=_ from ih).trans ?_
     cases qcY w r ys with
     | none=>rfl
     | some l=>simp
theorem qZn {w:Nat} {r:Val Y28}: ∀{l l':List (Val qa)},qcY w r l=some l'→l'.length=l.length
 | [],l',h=>by simp only [qcY,Option.some.injEq]at h;subst h;rfl
 | a::l,l',h=>by
   rw [qcY]at h
   cases hf:(qak a w r).2 with
   | false=>rw [hf]at h;simp at h
   | true=>
     rw [hf]at h
     cases hw:qcY w r l with
     | none=>rw [hw]at h;simp at h
     | some l1=>
       rw [hw]at h
       simp only [cond_true,Option.some.injEq]at h
       subst h
       simp [qZn hw]
theorem qYK (N:Nat) (v49 v52:Int) (v53:List (Val qa)) (v54:List (Val Y33)) (p:List (Val Y28)) (v56:Int) (K:List (Val qa)→Option (qc [i52,i3])) (hp:p.length≤1048576) (m:Nat) (hm:m<N∧m≤1048576): ∀(k i:Nat),i+k=p.length→ ∀n,k<n→ ∀l:List (Val qa),l.length=m→
 qhB N v49 p.length v52 v53 v54 p v56 K n i l=match qnM i (p.drop i) l with
  | some l'=>K l'
  | none=>qhs
 | 0,i,hi,n+1,_,l,_=>by
   rw [qhB,qj (by omega),List.drop_eq_nil_of_le (by omega)]
   rfl
 | k+1,i,hi,n+1,hn,l,hl=>by
   have h1:i<p.length:=by omega
   rw [qhB,qk (by omega),qd (by omega),qd (by rw [Int.toNat_natCast];exact h1),qF h1,hl]
   have t:=qZi N v49 p.length i v52 v53 v54 p v56 i p[i] (fun v89=>qhB N v49 p.length v52 v53 v54 p v56 K n (IntKind.i64.wrap ((i:Int)+(1:Int))) v89) m hm.2 l [] (by simpa using hl) N (by omega)
   simp only [List.nil_append,List.length_nil]at t
   refine (show _=_ from t).trans ?_
   rw [qbo h1,qnM]
   cases hf:qcY i p[i] l with
   | none=>rfl
   | some l'=>
     simp only
     rw [qa2 h1 (by omega)]
     exact qYK N v49 v52 v53 v54 p v56 K hp m hm k (i+1) (by omega) n (by omega) l' ((qZn hf).trans hl)
theorem q3d {d v:Int} {c:Val Y33} {p:List (Val Y28)} {l:List (Val qa)} (hc:okN d c) (hv:0≤v∧v<d) (h:qbL p c.2=some l):qhf ((d,l):Val Y33) v:=by
 obtain ⟨c1,_,c3⟩:=hc
 obtain ⟨g1,g2,hok⟩:=qaJ c1
 obtain ⟨f1,f2,_,_⟩:=qII (d:=d) c.2 (fun a ha=>⟨(hok a ha).1,(hok a ha).2.trans c3⟩) h
 exact ⟨qAF (by show 0≤d∧d≤4;rw [←c3];exact g1) (by show l.length≤16;omega) f2,hv.1,hv.2⟩
theorem q1a (N:Nat) (hN:20≤N) (d:Nat) (hd:d≤4) (v3:List (Val qa)) (L:List (Val Y33)) (hL:L.length=d+1) (h: ∀i (hi:i<L.length),okN d L[i]) (K:List (Val Y28)→Option (qc [i52,i3])): ∀(k v:Nat),v+k=d→ ∀n,k<n→ ∀p:List (Val Y28),p.length=v→
 qgQ N d v3 L K n v p=match qcV (L.drop (v+1)) v p with
  | some p'=>K p'
  | none=>qhs
 | 0,v,hv,n+1,_,p,_=>by
   rw [qgQ,qj (by omega),List.drop_eq_nil_of_le (by omega)]
   rfl
 | k+1,v,hv,n+1,hn,p,hp=>by
   have h1:v<d:=by omega
   have h2:v+1<L.length:=by omega
   obtain ⟨c1,c2,c3⟩:=h (v+1) h2
   obtain ⟨g1,g2,hok⟩:=qaJ c1
   have eB: ∀b:Val qad,(((b.1:Bool),((b.2.1.1:Int),(b.2.1.2:Int)),(b.2.2.1:Bool),(b.2.2.2.1:Bool),((b.2.2.2.2.1.1:Int),(b.2.2.2.2.1.2:Int)),(b.2.2.2.2.2.1:Bool),(b.2.2.2.2.2.2:Bool)):Val qad)=b:=fun _=>rfl
   have eR: ∀r:Val Y28,(((r.1:Int),(r.2:Int)):Val Y28)=r:=fun _=>rfl
   have hcp:qi0 L[v+1]:=⟨trivial,by show List.length (α:=Val qa) L[v+1].2≤1048576;omega,fun a ha=>⟨⟨by show List.length (α:=Int) a.1≤1048576;have h5:(List.length (α:=Int) a.1:Int)=(L[v+1].1:Int):=(hok a ha).2;rw [c3]at h5;omega,fun _ _=>trivial⟩,trivial,trivial⟩⟩
   rw [qgQ,qk (by omega),qa2 (n:=d) h1 (by omega),qd (by omega),qd (by rw [Int.toNat_natCast];exact h2),qF h2,qd hcp]
   have e0:((cpC L[v+1]).1:Int)=(d:Int):=c3
   rw [e0]
   have t:=qYK N v d v3 L p d (fun v91=>chk (qhf (((d:Int)),v91) v) (bif (!(qi (q5 (qf (((d:Int)),v91) v)):Bool))then qhs else (chk (p.length+([q5 (qf (((d:Int)),v91) v)]:List (Val Y28)).length≤1048576) (qgQ N d v3 L K n ((v+1:Nat):Int) (p++([q5 (qf (((d:Int)),v91) v)]:List (Val Y28))))))) (by omega) (List.length (α:=Val qa) L[v+1].2) ⟨by omega,by omega⟩ p.length 0 (by omega) N (by omega) L[v+1].2 rfl
   refine (show _=_ from t).trans ?_
   rw [List.drop_zero,q02,←q2z,qbo h2,qcV,c3]
   cases hf:qbL p L[v+1].2 with
   | none=>rfl
   | some l=>
     simp only
     rw [qd (q3d ⟨c1,c2,c3⟩ ⟨by omega,by omega⟩ hf)]
     cases hr:qi (q5 (qf ((d:Int),l) v))with
     | false=>rfl
     | true=>
       simp only [Bool.not_true,cond_false,cond_true]
       rw [qd (by rw [List.length_singleton];omega)]
       exact q1a N hN d hd v3 L hL h K k (v+1) (by omega) n (by omega) _ (by simp [hp])
theorem qRm {c:Val Y33} {L:List (Val Y33)} (hc:qH c=true) (h:qbS (c.1:Int).toNat (qO c.1 c.2)=some L):L.length=(c.1:Int).toNat+1∧(∀i (hi:i<L.length),okN c.1 L[i]∧ ∀w,(i:Int)≤w→w<(c.1:Int)→qcX w L[i])∧ ∀i (hi:i+1<L.length),(qU L[i+1] i).2=true∧L[i]=(qU L[i+1] i).1:=by
 obtain ⟨hd,_,_⟩:=qaJ hc
 obtain ⟨_,hN⟩:=qil hc
 have hw: ∀w:Int,(((c.1:Int).toNat:Nat):Int)≤w→w<(c.1:Int)→qcX w (qO c.1 c.2):=fun w w0 w1=>by
  rw [Int.toNat_of_nonneg hd.1]at w0
  exact absurd (Int.lt_of_lt_of_le w1 w0) (Int.lt_irrefl _)
 obtain ⟨g1,g2,g3,_⟩:=q0z (c.1:Int).toNat hN (Int.le_of_eq (Int.toNat_of_nonneg hd.1)) hw h
 exact ⟨g1,g2,g3⟩
theorem q5L (c:Val Y33): ∃N,qyu N c=some ((qbh c).1,(qbh c).2,()):=⟨20,by
 rw [qyu]
 unfold qbh qeN
 cases hc:qH c with
 | false=>rfl
 | true=>
 simp only [cond_true]
 cases hL:qbS (c.1:Int).toNat (qO c.1 c.2)with
 | none=>rfl
 | some L=>
   obtain ⟨g1,g2,_⟩:=qRm hc hL
   obtain ⟨hd,_,_⟩:=qaJ hc
   simp only [Bool.not_true,cond_false]
   rw [qd (by omega),qd (show (0:Int).toNat<L.length by show 0<L.length;omega)]
   unfold qEV
   show (bif decide ((0:Int)<(List.length (α:=Val qa) (L.getD 0 (qb Y33)).2:Int))then _ else _)=_
   have e0:L.getD 0 (qb Y33)=L.getD 0 ((0:Int),[]):=rfl
   rw [e0]
   cases decide ((0:Int)<(List.length (α:=Val qa) (L.getD 0 ((0:Int),[])).2:Int))with
   | true=>rfl
   | false=>
     simp only [cond_false]
     have ed:(((c.1:Int).toNat:Nat):Int)=(c.1:Int):=Int.toNat_of_nonneg hd.1
     have h4:(c.1:Int).toNat≤4:=by have:=hd.2;have:(((c.1:Int).toNat:Nat):Int)≤4:=by rw [ed];exact this
                                   omega
     have t:=q1a 20 (by omega) (c.1:Int).toNat h4 c.2 L g1 (fun i hi=>by rw [ed];exact (g2 i hi).1) (fun v93=>some (v93,(0:Int),())) (c.1:Int).toNat 0 (by omega) 20 (by omega) [] rfl
     rw [ed]at t
     refine (show _=_ from t).trans ?_
     cases qcV (L.drop 1) 0 []with
     | none=>rfl
     | some p=>rfl⟩
theorem zom:Sound Tryz.prog 141 qpp:=qx (tt:=tt) (Γ:=qb8) hT (qg qhY (qg qWY (qg zkI (qg q7d (qg q7R (qg q4s qu)))))) hm (fn:=Tryz.f141) Tryz.func141 (c:=Tryz.f141.body.getD .skip) (by kernel_rfl) (by kernel_rfl) fun x hx=>by
 obtain ⟨N,h⟩:=q5L x.1
 exact ⟨qbI N,zoq,qy _,q42 N,(za6 N x.1).trans h⟩
def qnR:G:={ps:=[i33],rs:=[i52,i3],dp:=true,pre:=fun x=>qDS x.1,fn:=fun x=>((qbh x.1).1,(qbh x.1).2,())}
noncomputable def qlI (N:Nat) (v2:Int) (v3:List (Val qa)) (k0:(List (Val Y33))→Option (qc [i52,i3])):Nat→Int→(List (Val Y33))→Option (qc [i52,i3])
 | 0,_,_=>none
 | n+1,v1,v4=>bif (decide ((0:Int)≤v1))then (chk (0≤(IntKind.i64.wrap ((v4.length:Int) - (1:Int)))∧(IntKind.i64.wrap ((v4.length:Int) - (1:Int)))<(v4.length:Int)) (chk ((IntKind.i64.wrap ((v4.length:Int) - (1:Int))).toNat<v4.length) (chk (qnm (v4.getD ((IntKind.i64.wrap ((v4.length:Int) - (1:Int))).toNat) (qb Y33)) v1) (bif (!((qU (v4.getD ((IntKind.i64.wrap ((v4.length:Int) - (1:Int))).toNat) (qb Y33)) v1).2:Bool))then (some (([]:List (Val Y28)),(2:Int),()))else (chk (v4.length+([(qU (v4.getD ((IntKind.i64.wrap ((v4.length:Int) - (1:Int))).toNat) (qb Y33)) v1).1]:List (Val Y33)).length≤1048576) (qlI N v2 v3 k0 n (IntKind.i64.wrap (v1 - (1:Int))) (v4++([(qU (v4.getD ((IntKind.i64.wrap ((v4.length:Int) - (1:Int))).toNat) (qb Y33)) v1).1]:List (Val Y33)))))))))else (k0 v4)
noncomputable def qkF (N:Nat) (v94:Int) (v95:Int) (v97:Int) (v98:List (Val qa)) (v99:List (Val Y33)) (v100:List (Val Y28)) (v101:Int) (v102:List (Val qa)) (v103:Int) (v107:List (Val qa)) (k6:(List (Val (.int .i64)))→Int→Bool→Option (qc [i52,i3])):Nat→Int→(List (Val (.int .i64)))→Int→Bool→Option (qc [i52,i3])
 | 0,_,_,_,_=>none
 | n+1,v96,v104,v105,v106=>bif (decide (v96<v94))then (chk (0≤v96∧v96<(v100.length:Int)) (chk (v96.toNat<v100.length) (chk (qBE (v104,v105,v106) v96 (v100.getD v96.toNat (qb Y28))) (bif (!((qak (v104,v105,v106) v96 (v100.getD v96.toNat (qb Y28))).2:Bool))then (some (([]:List (Val Y28)),(2:Int),()))else (qkF N v94 v95 v97 v98 v99 v100 v101 v102 v103 v107 k6 n (IntKind.i64.wrap (v96+(1:Int))) (((qak (v104,v105,v106) v96 (v100.getD v96.toNat (qb Y28))).1).1:List (Val (.int .i64))) ((((qak (v104,v105,v106) v96 (v100.getD v96.toNat (qb Y28))).1).2).1:Int) ((((qak (v104,v105,v106) v96 (v100.getD v96.toNat (qb Y28))).1).2).2:Bool))))))else (k6 v104 v105 v106)
noncomputable def qg4 (N:Nat) (v64:Int) (v66:Int) (v67:List (Val qa)) (v68:List (Val Y33)) (v69:List (Val Y28)) (v70:Int) (v71:List (Val qa)) (v72:Int) (k4:(List (Val qa))→Option (qc [i52,i3])):Nat→Int→(List (Val qa))→Option (qc [i52,i3])
 | 0,_,_=>none
 | n+1,v65,v73=>bif (decide (v65<(v71.length:Int)))then (chk (0≤v65∧v65<(v71.length:Int)) (qkF N v64 v65 v66 v67 v68 v69 v70 v71 v72 v73 (fun (v111:List (Val (.int .i64))) (v112:Int) (v113:Bool)=>chk (v73.length+([(v111,v112,v113)]:List (Val qa)).length≤1048576) (qg4 N v64 v66 v67 v68 v69 v70 v71 v72 k4 n (IntKind.i64.wrap (v65+(1:Int))) (v73++([(v111,v112,v113)]:List (Val qa))))) N (0:Int) ((v71.getD v65.toNat (qb qa)).1:List (Val (.int .i64))) (((v71.getD v65.toNat (qb qa)).2).1:Int) (((v71.getD v65.toNat (qb qa)).2).2:Bool)))else (k4 v73)
noncomputable def qfi (N:Nat) (v8:Int) (v9:List (Val qa)) (v10:List (Val Y33)) (k2:(List (Val Y28))→Option (qc [i52,i3])):Nat→Int→(List (Val Y28))→Option (qc [i52,i3])
 | 0,_,_=>none
 | n+1,v7,v11=>bif (decide (v7<v8))then (chk (0≤(IntKind.i64.wrap ((IntKind.i64.wrap (v8 - (1:Int))) - v7))∧(IntKind.i64.wrap ((IntKind.i64.wrap (v8 - (1:Int))) - v7))<(v10.length:Int)) (chk ((IntKind.i64.wrap ((IntKind.i64.wrap (v8 - (1:Int))) - v7)).toNat<v10.length) (qg4 N v7 v8 v9 v10 v11 ((v10.getD ((IntKind.i64.wrap ((IntKind.i64.wrap (v8 - (1:Int))) - v7)).toNat) (qb Y33)).1:Int) ((v10.getD ((IntKind.i64.wrap ((IntKind.i64.wrap (v8 - (1:Int))) - v7)).toNat) (qb Y33)).2:List (Val qa)) v8 (fun (v115:List (Val qa))=>chk (qe5 (v8,v115) v7) (bif (!((qi (((q5 (((qm (v8,v115) v7).1:Bool),(((((qm (v8,v115) v7).2).1).1:Int),((((qm (v8,v115) v7).2).1).2:Int)),((((qm (v8,v115) v7).2).2).1:Bool),(((((qm (v8,v115) v7).2).2).2).1:Bool),((((((((qm (v8,v115) v7).2).2).2).2).1).1:Int),(((((((qm (v8,v115) v7).2).2).2).2).1).2:Int)),(((((((qm (v8,v115) v7).2).2).2).2).2).1:Bool),(((((((qm (v8,v115) v7).2).2).2).2).2).2:Bool))).1:Int),((q5 (((qm (v8,v115) v7).1:Bool),(((((qm (v8,v115) v7).2).1).1:Int),((((qm (v8,v115) v7).2).1).2:Int)),((((qm (v8,v115) v7).2).2).1:Bool),(((((qm (v8,v115) v7).2).2).2).1:Bool),((((((((qm (v8,v115) v7).2).2).2).2).1).1:Int),(((((((qm (v8,v115) v7).2).2).2).2).1).2:Int)),(((((((qm (v8,v115) v7).2).2).2).2).2).1:Bool),(((((((qm (v8,v115) v7).2).2).2).2).2).2:Bool))).2:Int))):Bool))then (some (([]:List (Val Y28)),(2:Int),()))else (chk (v11.length+([(((q5 (((qm (v8,v115) v7).1:Bool),(((((qm (v8,v115) v7).2).1).1:Int),((((qm (v8,v115) v7).2).1).2:Int)),((((qm (v8,v115) v7).2).2).1:Bool),(((((qm (v8,v115) v7).2).2).2).1:Bool),((((((((qm (v8,v115) v7).2).2).2).2).1).1:Int),(((((((qm (v8,v115) v7).2).2).2).2).1).2:Int)),(((((((qm (v8,v115) v7).2).2).2).2).2).1:Bool),(((((((qm (v8,v115) v7).2).2).2).2).2).2:Bool))).1:Int),((q5 (((qm (v8,v115) v7).1:Bool),(((((qm (v8,v115) v7).2).1).1:Int),((((qm (v8,v115) v7).2).1).2:Int)),((((qm (v8,v115) v7).2).2).1:Bool),(((((qm (v8,v115) v7).2).2).2).1:Bool),((((((((qm (v8,v115) v7).2).2).2).2).1).1:Int),(((((((qm (v8,v115) v7).2).2).2).2).1).2:Int)),(((((((qm (v8,v115) v7).2).2).2).2).2).1:Bool),(((((((qm (v8,v115) v7).2).2).2).2).2).2:Bool))).2:Int))]:List (Val Y28)).length≤1048576) (qfi N v8 v9 v10 k2 n (IntKind.i64.wrap (v7+(1:Int))) (v11++([(((q5 (((qm (v8,v115) v7).1:Bool),(((((qm (v8,v115) v7).2).1).1:Int),((((qm (v8,v115) v7).2).1).2:Int)),((((qm (v8,v115) v7).2).2).1:Bool),(((((qm (v8,v115) v7).2).2).2).1:Bool),((((((((qm (v8,v115) v7).2).2).2).2).1).1:Int),(((((((qm (v8,v115) v7).2).2).2).2).1).2:Int)),(((((((qm (v8,v115) v7).2).2).2).2).2).1:Bool),(((((((qm (v8,v115) v7).2).2).2).2).2).2:Bool))).1:Int),((q5 (((qm (v8,v115) v7).1:Bool),(((((qm (v8,v115) v7).2).1).1:Int),((((qm (v8,v115) v7).2).1).2:Int)),((((qm (v8,v115) v7).2).2).1:Bool),(((((qm (v8,v115) v7).2).2).2).1:Bool),((((((((qm (v8,v115) v7).2).2).2).2).1).1:Int),(((((((qm (v8,v115) v7).2).2).2).2).1).2:Int)),(((((((qm (v8,v115) v7).2).2).2).2).2).1:Bool),(((((((qm (v8,v115) v7).2).2).2).2).2).2:Bool))).2:Int))]:List (Val Y28))))))) N (0:Int) ([]:List (Val qa)))))else (k2 v11)
noncomputable def qzm (N:Nat) (v0:Val Y33):Option (qc [i52,i3]):=chk (qci v0) (bif (!((qH v0):Bool))then (some (([]:List (Val Y28)),(2:Int),()))else (chk (qbR (v0.1:Int) (v0.2:List (Val qa))) (qlI N (v0.1:Int) (v0.2:List (Val qa)) (fun (v6:List (Val Y33))=>chk (0≤(v0.1:Int)∧(v0.1:Int)<(v6.length:Int)) (chk ((v0.1:Int).toNat<v6.length) (bif (decide ((0:Int)<(((v6.getD ((v0.1:Int).toNat) (qb Y33)).2:List (Val qa)).length:Int)))then (some (([]:List (Val Y28)),(1:Int),()))else (qfi N (v0.1:Int) (v0.2:List (Val qa)) v6 (fun (v117:List (Val Y28))=>some (v117,(0:Int),())) N (0:Int) ([]:List (Val Y28)))))) N (IntKind.i64.wrap ((v0.1:Int) - (1:Int))) ([(qO (v0.1:Int) (v0.2:List (Val qa)))]:List (Val Y33)))))
def qbr:Gam:=[(104,qa8),(109,qar),(150,qaW),(151,qb7),(206,qcb),(223,qd9),(224,qd1)]
theorem qhd:Gam.get qbr 104=some qa8:=rfl
theorem qgu:Gam.get qbr 109=some qar:=rfl
theorem qia:Gam.get qbr 150=some qaW:=rfl
theorem qie:Gam.get qbr 151=some qb7:=rfl
theorem qg0:Gam.get qbr 206=some qcb:=rfl
theorem qhl:Gam.get qbr 223=some qd9:=rfl
theorem qgW:Gam.get qbr 224=some qd1:=rfl
def qvy:Nm:=⟨[false,true,false,false,true,true],[],false⟩
theorem qic:qvy.zero=false:=rfl
theorem qgO:qvy.fix=[]:=rfl
theorem qhM:qvy.keep=[false,true,false,false,true,true]:=rfl
def qqu:Nm:=⟨[false,true,false,false,true,false,false,false,true,true,true,true,true,true,true],[.frb 13 0 3 (.int .i64),.shb 13 0 3 (.int .i64)],false⟩
theorem qhX:qqu.zero=false:=rfl
theorem qhV:qqu.fix=[.frb 13 0 3 (.int .i64),.shb 13 0 3 (.int .i64)]:=rfl
theorem qhn:qqu.keep=[false,true,false,false,true,false,false,false,true,true,true,true,true,true,true]:=rfl
def qvS:Nm:=⟨[false,true,false,false,true,false,false,false,true,true,true,true,true],[.box 11 1 108 qa,.unb 11 1 108 qa],false⟩
theorem qhh:qvS.zero=false:=rfl
theorem qhK:qvS.fix=[.box 11 1 108 qa,.unb 11 1 108 qa]:=rfl
theorem qg2:qvS.keep=[false,true,false,false,true,false,false,false,true,true,true,true,true]:=rfl
def qwM:Nm:=⟨[false,true,false,false,true,false,false,false,true,true],[],false⟩
theorem qh4:qwM.zero=false:=rfl
theorem qgw:qwM.fix=[]:=rfl
theorem qg9:qwM.keep=[false,true,false,false,true,false,false,false,true,true]:=rfl
def qCm:Nm:=⟨[false,true,false,false,true],[],false⟩
theorem qhp:qCm.zero=false:=rfl
theorem qhk:qCm.fix=[]:=rfl
theorem qhj:qCm.keep=[false,true,false,false,true]:=rfl
def qAp:Nm:=⟨[false,false,false,false,false,false,false,false,true],[],false⟩
theorem qh3:qAp.zero=false:=rfl
theorem qgX:qAp.fix=[]:=rfl
theorem qhZ:qAp.keep=[false,false,false,false,false,false,false,false,true]:=rfl
def qzG:Nm:=⟨[false,true,false,false,true,false,false,false,true,true,false,true],[],false⟩
theorem qhC:qzG.zero=false:=rfl
theorem qgY:qzG.fix=[]:=rfl
theorem qhU:qzG.keep=[false,true,false,false,true,false,false,false,true,true,false,true]:=rfl
def qzU:Nm:=⟨[false,true,false,false,true,false,false,false,true,true,true,true,true,true],[],false⟩
theorem qhv:qzU.zero=false:=rfl
theorem qhz:qzU.fix=[]:=rfl
theorem qgL:qzU.keep=[false,true,false,false,true,false,false,false,true,true,true,true,true,true]:=rfl
def qB0:Nm:=⟨[false,true,false,false,true,false,false,false,true,true,true,true,true,true,true,true,true],[],false⟩
theorem qgT:qB0.zero=false:=rfl
theorem qgP:qB0.fix=[]:=rfl
theorem qhD:qB0.keep=[false,true,false,false,true,false,false,false,true,true,true,true,true,true,true,true,true]:=rfl
def qee:Nat→Tree:=fun i=>if i=26 then .first 1 (.first 2 (.first 3 (.grow 0 (.grow 4 (.grow 5 (.alt 6 (.first 7 (.first 8 (.first 9 (.alt 10 (.alt 11 (.quiet 12 .done) .stop) .stop)))) (.alt 10 (.alt 6 (.quiet 7 (.quiet 8 (.first 9 (.alt 11 (.quiet 12 .done) .stop)))) .stop) .stop)))))))else .done
def qeQ:Nat→Nm:=fun i=>if i=5 then qvy else if i=24 then qqu else if i=20 then qvS else if i=15 then qwM else ⟨[],[],false⟩
def qeS:Nat→Option Jn:=fun _=>none
def qex:Nat→Option Nm:=fun i=>if i=0 then some qCm else if i=2 then some qAp else if i=4 then some qzG else if i=6 then some qzU else none
def qey:Nat→Option Nm:=fun i=>if i=26 then some qB0 else none
theorem zhu:qn qee (Tryz.f140.body.getD .skip)=true:=by kernel_rfl
def qbk (N:Nat):Tab:={tr:=qee,lp:=qeQ,ex:=qex,rg:=qey,jn:=qeS,fuel:=N}
theorem qgx (N:Nat):(qbk N).pins=false:=rfl
theorem zpE (N:Nat):qp Tryz.prog (qbk N):=qv fun _=>rfl
theorem qhc (N:Nat) (i:Nat):(qbk N).tr i=qee i:=rfl
theorem qgD (N:Nat) (i:Nat):(qbk N).lp i=qeQ i:=rfl
theorem qg3 (N:Nat) (i:Nat):(qbk N).ex i=qex i:=rfl
theorem qhy (N:Nat) (i:Nat):(qbk N).rg i=qey i:=rfl
theorem qid (N:Nat) (i:Nat):(qbk N).jn i=qeS i:=rfl
theorem qhF (N:Nat):(qbk N).fuel=N:=rfl
noncomputable def q4b:Code:=cut [true,true,true,false,true,true,true] (Tryz.f140.body.getD .skip)
theorem zbp {N:Nat} {Q:X→St→Option (qc [i52,i3])} {e:List LV} {h:List Blk}:qe tt qbr (qbk N) q4b Q ⟨e,h⟩=qe tt qbr (qbk N) (cut [true,true,true,false,true,true,true] (Tryz.f140.body.getD .skip)) Q ⟨e,h⟩:=rfl
theorem q5S (N:Nat) (v2:Int) (v3:List (Val qa)) {k0:(List (Val Y33))→Option (qc [i52,i3])} {Q:X→St→Option (qc [i52,i3])} {c:Code} (hc:c=q4b) (hret: ∀st,Q .ret st=qI tt true [i52,i3] [.tmp 2,.tmp 3] st) (h0: ∀(v5:List (Val Y33)),Q (.exit 0) ⟨[u,.one (.ptr 0 0 0),u,u,.one (.own 1),u,u,u,u,u,u,u,u,u,u,u,u,u,u,u,u,u,u,u,u,u,u,u,u,u,u,u,u,u,u,u,u,u,u,u,u,u,u,u,u,u,u,u,u,u,u,u,u,u,u,u,u,u,u,u,u,u,u,u,u,u,u,u,u,u,u,u,u,u,u,u,u,u,u,u,u,u,u,u,u,u,u,u,u,u,u,u,u,u,u,u,u,u,u,u,u,u,u,u,u,u,u,u,u,u,u,u,u,u,u,u,u,u,u,u,u,u,u,u,u,u,u,u,u,u],[.box [.int .i64 v2,.sl 108 qa v3 2],.row 33 Y33 v5 false true 2]⟩=k0 v5): ∀(n:Nat) (v1:Int) (v4:List (Val Y33)),qE (qe tt qbr (qbk N) c) false qvy Q n ⟨[u,.one (.ptr 0 0 0),u,u,.one (.own 1),.one (.int .i64 v1),u,u,u,u,u,u,u,u,u,u,u,u,u,u,u,u,u,u,u,u,u,u,u,u,u,u,u,u,u,u,u,u,u,u,u,u,u,u,u,u,u,u,u,u,u,u,u,u,u,u,u,u,u,u,u,u,u,u,u,u,u,u,u,u,u,u,u,u,u,u,u,u,u,u,u,u,u,u,u,u,u,u,u,u,u,u,u,u,u,u,u,u,u,u,u,u,u,u,u,u,u,u,u,u,u,u,u,u,u,u,u,u,u,u,u,u,u,u,u,u,u,u,u,u],[.box [.int .i64 v2,.sl 108 qa v3 2],.row 33 Y33 v4 false true 2]⟩=qlI N v2 v3 k0 n v1 v4:=by
 subst hc;intro n;induction n with
 | zero=>intros;rfl
 | succ n ih=>
   intro v1 v4
   rw [qN,zbp,qlI];unfold Tryz.f140
   simp (maxSteps:=10000000) -implicitDefEqProofs [qhc,qee,qgD,qeQ,qg3,qex,qhy,qey,qid,qeS,qhF,qgx,qgO,qhM,qic,qhV,qhn,qhX,qhK,qg2,qhh,qgw,qg9,qh4,qhk,qhj,qhp,qgX,qhZ,qh3,qgY,qhU,qhC,qhz,qgL,qhv,qgP,qhD,qgT,qhd,qgu,qia,qie,qg0,qhl,qgW,qa8,qar,qaW,qb7,qcb,qd9,qd1,hret,h0,ih]
noncomputable def q3q:Code:=cut [true,true,true,true,true,true,false,true,true,true,true,false,true,true,true,false,true,true,true,true,false,true,true,false,true,true,true] (Tryz.f140.body.getD .skip)
theorem q7y {N:Nat} {Q:X→St→Option (qc [i52,i3])} {e:List LV} {h:List Blk}:qe tt qbr (qbk N) q3q Q ⟨e,h⟩=qe tt qbr (qbk N) (cut [true,true,true,true,true,true,false,true,true,true,true,false,true,true,true,false,true,true,true,true,false,true,true,false,true,true,true] (Tryz.f140.body.getD .skip)) Q ⟨e,h⟩:=rfl
theorem q7f (N:Nat) (v94:Int) (v95:Int) (v97:Int) (v98:List (Val qa)) (v99:List (Val Y33)) (v100:List (Val Y28)) (v101:Int) (v102:List (Val qa)) (v103:Int) (v107:List (Val qa)) {k6:(List (Val (.int .i64)))→Int→Bool→Option (qc [i52,i3])} {Q:X→St→Option (qc [i52,i3])} {c:Code} (hc:c=q3q) (hret: ∀st,Q .ret st=qI tt true [i52,i3] [.tmp 2,.tmp 3] st) (h6: ∀(v108:List (Val (.int .i64))) (v109:Int) (v110:Bool),Q (.exit 6) ⟨[u,.one (.ptr 0 0 0),u,u,.one (.own 1),u,u,u,.one (.own 2),.one (.int .i64 v94),.one (.ptr 3 0 0),.one (.ptr 4 0 0),.one (.int .i64 v95),.one (.ptr 5 0 0),u,u,u,u,u,u,u,u,u,u,u,u,u,u,u,u,u,u,u,u,u,u,u,u,u,u,u,u,u,u,u,u,u,u,u,u,u,u,u,u,u,u,u,u,u,u,u,u,u,u,u,u,u,u,u,u,u,u,u,u,u,u,u,u,u,u,u,u,u,u,u,u,u,u,u,u,u,u,u,u,u,u,u,u,u,u,u,u,u,u,u,u,u,u,u,u,u,u,u,u,u,u,u,u,u,u,u,u,u,u,u,u,u,u,u,u],[.box [.int .i64 v97,.sl 108 qa v98 7],.row 33 Y33 v99 false true 7,.row 28 Y28 v100 true true 0,.box [.int .i64 v101,.sl 108 qa v102 7],.box [.int .i64 v103,.own 6],.box [.sl 3 (.int .i64) v108 7,.int .i64 v109,.bool v110],.row 108 qa v107 false true 7]⟩=k6 v108 v109 v110): ∀(n:Nat) (v96:Int) (v104:List (Val (.int .i64))) (v105:Int) (v106:Bool),qE (qe tt qbr (qbk N) c) false qqu Q n ⟨[u,.one (.ptr 0 0 0),u,u,.one (.own 1),u,u,u,.one (.own 2),.one (.int .i64 v94),.one (.ptr 3 0 0),.one (.ptr 4 0 0),.one (.int .i64 v95),.one (.ptr 5 0 0),.one (.int .i64 v96),u,u,u,u,u,u,u,u,u,u,u,u,u,u,u,u,u,u,u,u,u,u,u,u,u,u,u,u,u,u,u,u,u,u,u,u,u,u,u,u,u,u,u,u,u,u,u,u,u,u,u,u,u,u,u,u,u,u,u,u,u,u,u,u,u,u,u,u,u,u,u,u,u,u,u,u,u,u,u,u,u,u,u,u,u,u,u,u,u,u,u,u,u,u,u,u,u,u,u,u,u,u,u,u,u,u,u,u,u,u,u,u,u,u,u],[.box [.int .i64 v97,.sl 108 qa v98 7],.row 33 Y33 v99 false true 7,.row 28 Y28 v100 true true 0,.box [.int .i64 v101,.sl 108 qa v102 7],.box [.int .i64 v103,.own 6],.box [.sl 3 (.int .i64) v104 7,.int .i64 v105,.bool v106],.row 108 qa v107 false true 7]⟩=qkF N v94 v95 v97 v98 v99 v100 v101 v102 v103 v107 k6 n v96 v104 v105 v106:=by
 subst hc;intro n;induction n with
 | zero=>intros;rfl
 | succ n ih=>
   intro v96 v104 v105 v106
   rw [qN,q7y,qkF];unfold Tryz.f140
   simp (maxSteps:=10000000) -implicitDefEqProofs [qhc,qee,qgD,qeQ,qg3,qex,qhy,qey,qid,qeS,qhF,qgx,qgO,qhM,qic,qhV,qhn,qhX,qhK,qg2,qhh,qgw,qg9,qh4,qhk,qhj,qhp,qgX,qhZ,qh3,qgY,qhU,qhC,qhz,qgL,qhv,qgP,qhD,qgT,qhd,qgu,qia,qie,qg0,qhl,qgW,qa8,qar,qaW,qb7,qcb,qd9,qd1,hret,h6,ih]
noncomputable def q2X:Code:=cut [true,true,true,true,true,true,false,true,true,true,true,false,true,true,true,false,true,true,true] (Tryz.f140.body.getD .skip)
theorem zgY {N:Nat} {Q:X→St→Option (qc [i52,i3])} {e:List LV} {h:List Blk}:qe tt qbr (qbk N) q2X Q ⟨e,h⟩=qe tt qbr (qbk N) (cut [true,true,true,true,true,true,false,true,true,true,true,false,true,true,true,false,true,true,true] (Tryz.f140.body.getD .skip)) Q ⟨e,h⟩:=rfl
theorem zeT (N:Nat) (v64:Int) (v66:Int) (v67:List (Val qa)) (v68:List (Val Y33)) (v69:List (Val Y28)) (v70:Int) (v71:List (Val qa)) (v72:Int) {k4:(List (Val qa))→Option (qc [i52,i3])} {Q:X→St→Option (qc [i52,i3])} {c:Code} (hc:c=q2X) (hret: ∀st,Q .ret st=qI tt true [i52,i3] [.tmp 2,.tmp 3] st) (h4: ∀(v114:List (Val qa)),Q (.exit 4) ⟨[u,.one (.ptr 0 0 0),u,u,.one (.own 1),u,u,u,.one (.own 2),.one (.int .i64 v64),u,.one (.ptr 3 0 0),u,u,u,u,u,u,u,u,u,u,u,u,u,u,u,u,u,u,u,u,u,u,u,u,u,u,u,u,u,u,u,u,u,u,u,u,u,u,u,u,u,u,u,u,u,u,u,u,u,u,u,u,u,u,u,u,u,u,u,u,u,u,u,u,u,u,u,u,u,u,u,u,u,u,u,u,u,u,u,u,u,u,u,u,u,u,u,u,u,u,u,u,u,u,u,u,u,u,u,u,u,u,u,u,u,u,u,u,u,u,u,u,u,u,u,u,u,u],[.box [.int .i64 v66,.sl 108 qa v67 5],.row 33 Y33 v68 false true 5,.row 28 Y28 v69 true true 0,.box [.int .i64 v72,.own 4],.row 108 qa v114 false true 5]⟩=k4 v114): ∀(n:Nat) (v65:Int) (v73:List (Val qa)),qE (qe tt qbr (qbk N) c) false qvS Q n ⟨[u,.one (.ptr 0 0 0),u,u,.one (.own 1),u,u,u,.one (.own 2),.one (.int .i64 v64),.one (.ptr 3 0 0),.one (.ptr 4 0 0),.one (.int .i64 v65),u,u,u,u,u,u,u,u,u,u,u,u,u,u,u,u,u,u,u,u,u,u,u,u,u,u,u,u,u,u,u,u,u,u,u,u,u,u,u,u,u,u,u,u,u,u,u,u,u,u,u,u,u,u,u,u,u,u,u,u,u,u,u,u,u,u,u,u,u,u,u,u,u,u,u,u,u,u,u,u,u,u,u,u,u,u,u,u,u,u,u,u,u,u,u,u,u,u,u,u,u,u,u,u,u,u,u,u,u,u,u,u,u,u,u,u,u],[.box [.int .i64 v66,.sl 108 qa v67 6],.row 33 Y33 v68 false true 6,.row 28 Y28 v69 true true 0,.box [.int .i64 v70,.sl 108 qa v71 6],.box [.int .i64 v72,.own 5],.row 108 qa v73 false true 6]⟩=qg4 N v64 v66 v67 v68 v69 v70 v71 v72 k4 n v65 v73:=by
 subst hc;intro n;induction n with
 | zero=>intros;rfl
 | succ n ih=>
   intro v65 v73
   rw [qN,zgY];unfold Tryz.f140
   simp (maxSteps:=10000000) -implicitDefEqProofs [qhc,qee,qgD,qeQ,qg3,qex,qhy,qey,qid,qeS,qhF,qgx,qgO,qhM,qic,qhV,qhn,qhX,qhK,qg2,qhh,qgw,qg9,qh4,qhk,qhj,qhp,qgX,qhZ,qh3,qgY,qhU,qhC,qhz,qgL,qhv,qgP,qhD,qgT,qhd,qgu,qia,qie,qg0,qhl,qgW,qa8,qar,qaW,qb7,qcb,qd9,qd1,hret,h4,ih]
   rewrite [q7f (k6:=(fun (v111:List (Val (.int .i64))) (v112:Int) (v113:Bool)=>chk (v73.length+([(v111,v112,v113)]:List (Val qa)).length≤1048576) (qg4 N v64 v66 v67 v68 v69 v70 v71 v72 k4 n (IntKind.i64.wrap (v65+(1:Int))) (v73++([(v111,v112,v113)]:List (Val qa)))))) N _ _ _ _ _ _ _ _ _ _ ?_ ?_ ?_]
   ·rewrite [qg4];first | rfl | simp (maxSteps:=10000000) -implicitDefEqProofs [ih]
   ·rfl
   ·intro;simp only [qJ,qL,qK,qB,hret]
   ·intro v111 v112 v113;simp (maxSteps:=10000000) -implicitDefEqProofs [qhc,qee,qgD,qeQ,qg3,qex,qhy,qey,qid,qeS,qhF,qgx,qgO,qhM,qic,qhV,qhn,qhX,qhK,qg2,qhh,qgw,qg9,qh4,qhk,qhj,qhp,qgX,qhZ,qh3,qgY,qhU,qhC,qhz,qgL,qhv,qgP,qhD,qgT,qhd,qgu,qia,qie,qg0,qhl,qgW,qa8,qar,qaW,qb7,qcb,qd9,qd1,hret,h4,ih]
noncomputable def q3I:Code:=cut [true,true,true,true,true,true,false,true,true,true] (Tryz.f140.body.getD .skip)
theorem zkW {N:Nat} {Q:X→St→Option (qc [i52,i3])} {e:List LV} {h:List Blk}:qe tt qbr (qbk N) q3I Q ⟨e,h⟩=qe tt qbr (qbk N) (cut [true,true,true,true,true,true,false,true,true,true] (Tryz.f140.body.getD .skip)) Q ⟨e,h⟩:=rfl
theorem zmN (N:Nat) (v8:Int) (v9:List (Val qa)) (v10:List (Val Y33)) {k2:(List (Val Y28))→Option (qc [i52,i3])} {Q:X→St→Option (qc [i52,i3])} {c:Code} (hc:c=q3I) (hret: ∀st,Q .ret st=qI tt true [i52,i3] [.tmp 2,.tmp 3] st) (h2: ∀(v116:List (Val Y28)),Q (.exit 2) ⟨[u,u,u,u,u,u,u,u,.one (.own 0),u,u,u,u,u,u,u,u,u,u,u,u,u,u,u,u,u,u,u,u,u,u,u,u,u,u,u,u,u,u,u,u,u,u,u,u,u,u,u,u,u,u,u,u,u,u,u,u,u,u,u,u,u,u,u,u,u,u,u,u,u,u,u,u,u,u,u,u,u,u,u,u,u,u,u,u,u,u,u,u,u,u,u,u,u,u,u,u,u,u,u,u,u,u,u,u,u,u,u,u,u,u,u,u,u,u,u,u,u,u,u,u,u,u,u,u,u,u,u,u,u],[.row 28 Y28 v116 true true 0]⟩=k2 v116): ∀(n:Nat) (v7:Int) (v11:List (Val Y28)),qE (qe tt qbr (qbk N) c) false qwM Q n ⟨[u,.one (.ptr 0 0 0),u,u,.one (.own 1),u,u,u,.one (.own 2),.one (.int .i64 v7),u,u,u,u,u,u,u,u,u,u,u,u,u,u,u,u,u,u,u,u,u,u,u,u,u,u,u,u,u,u,u,u,u,u,u,u,u,u,u,u,u,u,u,u,u,u,u,u,u,u,u,u,u,u,u,u,u,u,u,u,u,u,u,u,u,u,u,u,u,u,u,u,u,u,u,u,u,u,u,u,u,u,u,u,u,u,u,u,u,u,u,u,u,u,u,u,u,u,u,u,u,u,u,u,u,u,u,u,u,u,u,u,u,u,u,u,u,u,u,u],[.box [.int .i64 v8,.sl 108 qa v9 3],.row 33 Y33 v10 false true 3,.row 28 Y28 v11 true true 0]⟩=qfi N v8 v9 v10 k2 n v7 v11:=by
 subst hc;intro n;induction n with
 | zero=>intros;rfl
 | succ n ih=>
   intro v7 v11
   rw [qN,zkW];unfold Tryz.f140
   simp (maxSteps:=10000000) -implicitDefEqProofs [qhc,qee,qgD,qeQ,qg3,qex,qhy,qey,qid,qeS,qhF,qgx,qgO,qhM,qic,qhV,qhn,qhX,qhK,qg2,qhh,qgw,qg9,qh4,qhk,qhj,qhp,qgX,qhZ,qh3,qgY,qhU,qhC,qhz,qgL,qhv,qgP,qhD,qgT,qhd,qgu,qia,qie,qg0,qhl,qgW,qa8,qar,qaW,qb7,qcb,qd9,qd1,hret,h2,ih]
   rewrite [zeT (k4:=(fun (v115:List (Val qa))=>chk (qe5 (v8,v115) v7) (bif (!((qi (((q5 (((qm (v8,v115) v7).1:Bool),(((((qm (v8,v115) v7).2).1).1:Int),((((qm (v8,v115) v7).2).1).2:Int)),((((qm (v8,v115) v7).2).2).1:Bool),(((((qm (v8,v115) v7).2).2).2).1:Bool),((((((((qm (v8,v115) v7).2).2).2).2).1).1:Int),(((((((qm (v8,v115) v7).2).2).2).2).1).2:Int)),(((((((qm (v8,v115) v7).2).2).2).2).2).1:Bool),(((((((qm (v8,v115) v7).2).2).2).2).2).2:Bool))).1:Int),((q5 (((qm (v8,v115) v7).1:Bool),(((((qm (v8,v115) v7).2).1).1:Int),((((qm (v8,v115) v7).2).1).2:Int)),((((qm (v8,v115) v7).2).2).1:Bool),(((((qm (v8,v115) v7).2).2).2).1:Bool),((((((((qm (v8,v115) v7).2).2).2).2).1).1:Int),(((((((qm (v8,v115) v7).2).2).2).2).1).2:Int)),(((((((qm (v8,v115) v7).2).2).2).2).2).1:Bool),(((((((qm (v8,v115) v7).2).2).2).2).2).2:Bool))).2:Int))):Bool))then (some (([]:List (Val Y28)),(2:Int),()))else (chk (v11.length+([(((q5 (((qm (v8,v115) v7).1:Bool),(((((qm (v8,v115) v7).2).1).1:Int),((((qm (v8,v115) v7).2).1).2:Int)),((((qm (v8,v115) v7).2).2).1:Bool),(((((qm (v8,v115) v7).2).2).2).1:Bool),((((((((qm (v8,v115) v7).2).2).2).2).1).1:Int),(((((((qm (v8,v115) v7).2).2).2).2).1).2:Int)),(((((((qm (v8,v115) v7).2).2).2).2).2).1:Bool),(((((((qm (v8,v115) v7).2).2).2).2).2).2:Bool))).1:Int),((q5 (((qm (v8,v115) v7).1:Bool),(((((qm (v8,v115) v7).2).1).1:Int),((((qm (v8,v115) v7).2).1).2:Int)),((((qm (v8,v115) v7).2).2).1:Bool),(((((qm (v8,v115) v7).2).2).2).1:Bool),((((((((qm (v8,v115) v7).2).2).2).2).1).1:Int),(((((((qm (v8,v115) v7).2).2).2).2).1).2:Int)),(((((((qm (v8,v115) v7).2).2).2).2).2).1:Bool),(((((((qm (v8,v115) v7).2).2).2).2).2).2:Bool))).2:Int))]:List (Val Y28)).length≤1048576) (qfi N v8 v9 v10 k2 n (IntKind.i64.wrap (v7+(1:Int))) (v11++([(((q5 (((qm (v8,v115) v7).1:Bool),(((((qm (v8,v115) v7).2).1).1:Int),((((qm (v8,v115) v7).2).1).2:Int)),((((qm (v8,v115) v7).2).2).1:Bool),(((((qm (v8,v115) v7).2).2).2).1:Bool),((((((((qm (v8,v115) v7).2).2).2).2).1).1:Int),(((((((qm (v8,v115) v7).2).2).2).2).1).2:Int)),(((((((qm (v8,v115) v7).2).2).2).2).2).1:Bool),(((((((qm (v8,v115) v7).2).2).2).2).2).2:Bool))).1:Int),((q5 (((qm (v8,v115) v7).1:Bool),(((((qm (v8,v115) v7).2).1).1:Int),((((qm (v8,v115) v7).2).1).2:Int)),((((qm (v8,v115) v7).2).2).1:Bool),(((((qm (v8,v115) v7).2).2).2).1:Bool),((((((((qm (v8,v115) v7).2).2).2).2).1).1:Int),(((((((qm (v8,v115) v7).2).2).2).2).1).2:Int)),(((((((qm (v8,v115) v7).2).2).2).2).2).1:Bool),(((((((qm (v8,v115) v7).2).2).2).2).2).2:Bool))).2:Int))]:List (Val Y28)))))))) N _ _ _ _ _ _ _ _ ?_ ?_ ?_]
   ·rewrite [qfi];first | rfl | simp (maxSteps:=10000000) -implicitDefEqProofs [ih]
   ·rfl
   ·intro;simp only [qJ,qL,qK,qB,hret]
   ·intro v115;simp (maxSteps:=10000000) -implicitDefEqProofs [qhc,qee,qgD,qeQ,qg3,qex,qhy,qey,qid,qeS,qhF,qgx,qgO,qhM,qic,qhV,qhn,qhX,qhK,qg2,qhh,qgw,qg9,qh4,qhk,qhj,qhp,qgX,qhZ,qh3,qgY,qhU,qhC,qhz,qgL,qhv,qgP,qhD,qgT,qhd,qgu,qia,qie,qg0,qhl,qgW,qa8,qar,qaW,qb7,qcb,qd9,qd1,hret,h2,ih]
theorem zhx (N:Nat) (v0:Val Y33):qe tt qbr (qbk N) (Tryz.f140.body.getD .skip) (qt tt true [i52,i3] [.tmp 2,.tmp 3]) (qw [i33] 130 (v0,()))=qzm N v0:=by
 unfold Tryz.f140
 simp (maxSteps:=10000000) -implicitDefEqProofs [qhc,qee,qgD,qeQ,qg3,qex,qhy,qey,qid,qeS,qhF,qgx,qgO,qhM,qic,qhV,qhn,qhX,qhK,qg2,qhh,qgw,qg9,qh4,qhk,qhj,qhp,qgX,qhZ,qh3,qgY,qhU,qhC,qhz,qgL,qhv,qgP,qhD,qgT,qhd,qgu,qia,qie,qg0,qhl,qgW,qa8,qar,qaW,qb7,qcb,qd9,qd1]
 rewrite [q5S (k0:=(fun (v6:List (Val Y33))=>chk (0≤(v0.1:Int)∧(v0.1:Int)<(v6.length:Int)) (chk ((v0.1:Int).toNat<v6.length) (bif (decide ((0:Int)<(((v6.getD ((v0.1:Int).toNat) (qb Y33)).2:List (Val qa)).length:Int)))then (some (([]:List (Val Y28)),(1:Int),()))else (qfi N (v0.1:Int) (v0.2:List (Val qa)) v6 (fun (v117:List (Val Y28))=>some (v117,(0:Int),())) N (0:Int) ([]:List (Val Y28))))))) N _ _ ?_ ?_ ?_]
 ·rewrite [qzm];first | rfl | simp (maxSteps:=10000000) -implicitDefEqProofs []
 ·rfl
 ·intro;simp only [qJ,qL,qK,qB]
 ·intro v6;simp (maxSteps:=10000000) -implicitDefEqProofs [qhc,qee,qgD,qeQ,qg3,qex,qhy,qey,qid,qeS,qhF,qgx,qgO,qhM,qic,qhV,qhn,qhX,qhK,qg2,qhh,qgw,qg9,qh4,qhk,qhj,qhp,qgX,qhZ,qh3,qgY,qhU,qhC,qhz,qgL,qhv,qgP,qhD,qgT,qhd,qgu,qia,qie,qg0,qhl,qgW,qa8,qar,qaW,qb7,qcb,qd9,qd1]
  rewrite [zmN (k2:=(fun (v117:List (Val Y28))=>some (v117,(0:Int),()))) N _ _ _ ?_ ?_ ?_]
  ·first | rfl | simp (maxSteps:=10000000) -implicitDefEqProofs []
  ·rfl
  ·intro;simp only [qJ,qL,qK,qB]
  ·intro v117;simp (maxSteps:=10000000) -implicitDefEqProofs [qhc,qee,qgD,qeQ,qg3,qex,qhy,qey,qid,qeS,qhF,qgx,qgO,qhM,qic,qhV,qhn,qhX,qhK,qg2,qhh,qgw,qg9,qh4,qhk,qhj,qhp,qgX,qhZ,qh3,qgY,qhU,qhC,qhz,qgL,qhv,qgP,qhD,qgT,qhd,qgu,qia,qie,qg0,qhl,qgW,qa8,qar,qaW,qb7,qcb,qd9,qd1]
theorem q0N (N:Nat) (d:Nat) (hd:d≤4) (v3:List (Val qa)) (K:List (Val Y33)→Option (qc [i52,i3])): ∀(k:Nat) (x:Val Y33) (pre:List (Val Y33)),okN d x→k≤d→pre.length+k≤100→ ∀n,k<n→
 qlI N d v3 K n ((k:Int) - 1) (pre++[x])=match qbS k x with
  | some L=>K (pre++L.reverse)
  | none=>qhs
 | 0,x,pre,_,_,_,n+1,_=>by
   rw [qlI,qj (by omega)]
   rfl
 | k+1,x,pre,hx,hk,hp,n+1,hn=>by
   have e:((k+1:Nat):Int) - 1=(k:Int):=by omega
   have e2:IntKind.i64.wrap ((k:Int) - 1)=(k:Int) - 1:=qaq (by omega) (by omega)
   have hl:(pre++[x]).length=pre.length+1:=by simp
   have e3:IntKind.i64.wrap ((((pre++[x]).length:Nat):Int) - 1)=(pre.length:Int):=by rw [hl];exact (qaq (by omega) (by omega)).trans (by omega)
   obtain ⟨h1,h2,h3⟩:=hx
   have hr:0≤(k:Int)∧(k:Int)<(x.1:Int):=⟨by omega,by rw [h3];omega⟩
   have hg: ∀dv:Val Y33,(pre++[x]).getD pre.length dv=x:=fun dv=>q4e pre x [] dv
   rw [e,qlI,qk (by omega),e3,e2,qd (by omega),qd (by omega),Int.toNat_natCast,hg,qd (show qnm x k from ⟨h1,hr⟩),qbS]
   cases hm:(qU x k).2 with
   | false=>rfl
   | true=>
     have hN:=qmA h1 hm
     rw [h3]at hN
     simp only [Bool.not_true,cond_false,cond_true]
     rw [qd (by rw [List.length_singleton];omega)]
     have ih:=q0N N d hd v3 K k (qU x k).1 (pre++[x]) hN (by omega) (by omega) n (by omega)
     refine (show _=_ from ih).trans ?_
     cases qbS k (qU x k).1 with
     | none=>rfl
     | some l=>simp
theorem q2H (N:Nat) (d:Int) (hd:d≤4) (v95 v97:Int) (v98:List (Val qa)) (v99:List (Val Y33)) (p:List (Val Y28)) (hp:p.length≤100) (v101:Int) (v102:List (Val qa)) (v103:Int) (v107:List (Val qa)) (K:List (Val (.int .i64))→Int→Bool→Option (qc [i52,i3])): ∀(k i:Nat),i+k=p.length→ ∀n,k<n→ ∀a:Val qa,okD d a→
 qkF N p.length v95 v97 v98 v99 p v101 v102 v103 v107 K n i a.1 a.2.1 a.2.2=match qcD i (p.drop i) a with
  | some a'=>K a'.1 a'.2.1 a'.2.2
  | none=>qhs
 | 0,i,hi,n+1,_,a,_=>by
   rw [qkF,qj (by omega),List.drop_eq_nil_of_le (by omega)]
   rfl
 | k+1,i,hi,n+1,hn,a,ha=>by
   have h1:i<p.length:=by omega
   have eA:(((a.1:List (Val (.int .i64))),(a.2.1:Int),(a.2.2:Bool)):Val qa)=a:=rfl
   have hpa:qBE a i p[i]:=by show List.length (α:=Int) a.1≤1048576;have:(List.length (α:=Int) a.1:Int)=d:=ha.2;omega
   rw [qkF,qk (by omega),qd (by omega),qd (by rw [Int.toNat_natCast];exact h1),qF h1,eA,qd hpa,qbo h1,qcD,qa2 h1 (by omega)]
   cases hf:(qak a i p[i]).2 with
   | false=>rfl
   | true=>exact q2H N d hd v95 v97 v98 v99 p hp v101 v102 v103 v107 K k (i+1) (by omega) n (by omega) _ (qOM ha hf)
theorem q0T (N:Nat) (hN:20≤N) (d:Int) (hd:d≤4) (v66:Int) (v67:List (Val qa)) (v68:List (Val Y33)) (p:List (Val Y28)) (hp:p.length≤4) (v70:Int) (l:List (Val qa)) (hl:l.length≤16) (hok: ∀a∈l,okD d a) (v72:Int) (K:List (Val qa)→Option (qc [i52,i3])): ∀(k i:Nat),i+k=l.length→ ∀n,k<n→ ∀s:List (Val qa),s.length=i→
 qg4 N p.length v66 v67 v68 p v70 l v72 K n i s=match qbL p (l.drop i)with
  | some l'=>K (s++l')
  | none=>qhs
 | 0,i,hi,n+1,_,s,_=>by
   rw [qg4,qj (by omega),List.drop_eq_nil_of_le (by omega),qbL]
   simp
 | k+1,i,hi,n+1,hn,s,hs=>by
   have h1:i<l.length:=by omega
   rw [qg4,qk (by omega),qd (by omega),qF h1]
   have t:=q2H N d hd i v66 v67 v68 p (by omega) v70 l v72 s (fun v111 v112 v113=>chk (s.length+([(v111,v112,v113)]:List (Val qa)).length≤1048576) (qg4 N p.length v66 v67 v68 p v70 l v72 K n (IntKind.i64.wrap ((i:Int)+(1:Int))) (s++([(v111,v112,v113)]:List (Val qa))))) p.length 0 (by omega) N (by omega) l[i] (hok _ (List.getElem_mem h1))
   refine (show _=_ from t).trans ?_
   rw [List.drop_zero,qbo h1,qbL]
   cases hf:qcD 0 p l[i]with
   | none=>rfl
   | some a=>
     simp only
     rw [qd (by rw [List.length_singleton];omega),qa2 h1 (by omega)]
     refine (q0T N hN d hd v66 v67 v68 p hp v70 l hl hok v72 K k (i+1) (by omega) n (by omega) (s++[a]) (by simp [hs])).trans ?_
     cases qbL p (l.drop (i+1))with
     | none=>rfl
     | some l'=>simp
theorem qZ9 {L:List (Val Y33)} {d v:Nat} (hL:L.length=d+1) (hv:v≤d) (dv:Val Y33):L.reverse.getD (d - v) dv=L[v]:=by
 have h1:d - v<L.reverse.length:=by rw [List.length_reverse];omega
 rw [List.getD_eq_getElem?_getD,List.getElem?_eq_getElem h1,Option.getD_some,List.getElem_reverse]
 congr 1
 omega
theorem q16 (N:Nat) (hN:20≤N) (d:Nat) (hd:d≤4) (v9:List (Val qa)) (L:List (Val Y33)) (hL:L.length=d+1) (h: ∀i (hi:i<L.length),okN d L[i]) (K:List (Val Y28)→Option (qc [i52,i3])): ∀(k v:Nat),v+k=d→ ∀n,k<n→ ∀p:List (Val Y28),p.length=v→
 qfi N d v9 L.reverse K n v p=match qvY (L.drop (v+1)) v p with
  | some p'=>K p'
  | none=>qhs
 | 0,v,hv,n+1,_,p,_=>by
   rw [qfi,qj (by omega),List.drop_eq_nil_of_le (by omega)]
   rfl
 | k+1,v,hv,n+1,hn,p,hp=>by
   have h1:v<d:=by omega
   have h2:v+1<L.length:=by omega
   have hlr:L.reverse.length=d+1:=by rw [List.length_reverse];exact hL
   obtain ⟨c1,c2,c3⟩:=h (v+1) h2
   obtain ⟨g1,g2,hok⟩:=qaJ c1
   have e1:IntKind.i64.wrap (IntKind.i64.wrap ((d:Int) - 1) - (v:Int))=((d - (v+1):Nat):Int):=by
    rw [qaq (n:=(d:Int) - 1) (by omega) (by omega)]
    exact (qaq (by omega) (by omega)).trans (by omega)
   rw [qfi,qk (by omega),e1,qd (by omega),qd (by rw [Int.toNat_natCast];omega),Int.toNat_natCast,qZ9 hL (show v+1≤d by omega)]
   have t:=q0T N hN d (by omega) d v9 L.reverse p (by omega) L[v+1].1 L[v+1].2 g2 (fun a ha=>⟨(hok a ha).1,(hok a ha).2.trans c3⟩) d (fun v115=>chk (qe5 (((d:Int)),v115) v) (bif (!(qi (q5 (qm (((d:Int)),v115) v)):Bool))then qhs else (chk (p.length+([q5 (qm (((d:Int)),v115) v)]:List (Val Y28)).length≤1048576) (qfi N d v9 L.reverse K n (IntKind.i64.wrap ((v:Int)+1)) (p++([q5 (qm (((d:Int)),v115) v)]:List (Val Y28))))))) (List.length (α:=Val qa) L[v+1].2) 0 (by omega) N (by omega) [] rfl
   rw [hp]at t ⊢
   refine (show _=_ from t).trans ?_
   rw [List.drop_zero,qbo h2,qvY,c3]
   cases hf:qbL p L[v+1].2 with
   | none=>rfl
   | some l=>
     simp only [List.nil_append]
     rw [qd (show qe5 ((d:Int),l) v from q3d ⟨c1,c2,c3⟩ ⟨by omega,by omega⟩ hf)]
     cases hr:qi (q5 (qm ((d:Int),l) v))with
     | false=>rfl
     | true=>
       simp only [Bool.not_true,cond_false,cond_true]
       rw [qd (by rw [List.length_singleton];omega),qa2 (n:=d) h1 (by omega)]
       exact q16 N hN d hd v9 L hL h K k (v+1) (by omega) n (by omega) _ (by simp [hp])
theorem zpj (c:Val Y33) (h:qDS c): ∃N,qzm N c=some ((qbh c).1,(qbh c).2,()):=⟨20,by
 rw [qzm,qd (show qci c from h)]
 unfold qbh
 cases hc:qH c with
 | false=>rfl
 | true=>
 obtain ⟨hd,_,_⟩:=qaJ hc
 obtain ⟨hLp,hNn⟩:=qil hc
 have ed:(((c.1:Int).toNat:Nat):Int)=(c.1:Int):=Int.toNat_of_nonneg hd.1
 have h4:(c.1:Int).toNat≤4:=by have:=hd.2;have:(((c.1:Int).toNat:Nat):Int)≤4:=by rw [ed];exact this
                               omega
 have e1:IntKind.i64.wrap ((c.1:Int) - 1)=(c.1:Int) - 1:=qaq (Int.le_sub_right_of_add_le (Int.le_trans (by decide) hd.1)) (Int.le_trans (Int.sub_le_self _ (by decide)) (Int.le_trans hd.2 (by decide)))
 simp only [Bool.not_true,cond_false,cond_true]
 rw [qd (show qbR c.1 c.2 from hLp),e1]
 have t:=fun K=>q0N 20 (c.1:Int).toNat h4 c.2 K (c.1:Int).toNat (qO c.1 c.2) [] (by rw [ed];exact hNn) (Nat.le_refl _) (by simp;omega) 20 (by omega)
 simp only [ed]at t
 refine (show _=_ from t _).trans ?_
 cases hL:qbS (c.1:Int).toNat (qO c.1 c.2)with
 | none=>rfl
 | some L=>
   obtain ⟨g1,g2,g3⟩:=qRm hc hL
   have hlr:L.reverse.length=(c.1:Int).toNat+1:=by rw [List.length_reverse];exact g1
   have hL0:0<L.length:=by omega
   simp only [List.nil_append]
   rw [qd ⟨hd.1,by rw [hlr];show (c.1:Int)<(((c.1:Int).toNat+1:Nat):Int);exact Int.lt_of_lt_of_le (Int.lt_add_one_of_le (Int.le_of_eq ed.symm)) (Int.le_of_eq (by simp))⟩,qd (by omega)]
   have e0: ∀dv:Val Y33,L.reverse.getD (c.1:Int).toNat dv=L[0]:=fun dv=>by
    have:=qZ9 (v:=0) g1 (Nat.zero_le _) dv
    rw [Nat.sub_zero]at this
    exact this
   simp only [e0]
   unfold qEV
   have e5:L.getD 0 ((0:Int),[])=L[0]:=by simp [List.getD,hL0]
   rw [e5]
   by_cases h0:(0:Int)<(List.length (α:=Val qa) L[0].2:Int)
   ·rw [qk h0,qk h0]
   ·rw [qj h0,qj h0]
    have hl0:qrs (c.1:Int) [] L[0]:=fun P _ _ a ha=>by
        have:L[0].2=[]:=List.length_eq_zero_iff.1 (by omega)
        rw [this]at ha
        simp at ha
    have hLd:((L.length:Nat):Int)=(c.1:Int)+1:=by rw [g1];show (((c.1:Int).toNat:Nat):Int)+1=_;rw [ed]
    obtain ⟨k1,_⟩:=q2u (d:=(c.1:Int)) hLd g2 g3 (c.1:Int).toNat 0 [] (by rw [Nat.zero_add];exact ed) rfl (by simp) hL0 hl0
    have t:=fun K=>q16 20 (by omega) (c.1:Int).toNat h4 c.2 L g1 (fun i hi=>by rw [ed];exact (g2 i hi).1) K (c.1:Int).toNat 0 (by omega) 20 (by omega) [] rfl
    simp only [ed]at t
    refine (show _=_ from t _).trans ?_
    rw [k1]
    cases qcV (L.drop (0+1)) 0 []with
    | none=>rfl
    | some p=>rfl⟩
theorem zok:Sound Tryz.prog 140 qnR:=qx (tt:=tt) (Γ:=qbr) hT (qg qDI (qg qiS (qg qOO (qg q2t (qg qYG (qg zgc (qg zk0 qu))))))) hm (fn:=Tryz.f140) Tryz.func140 (c:=Tryz.f140.body.getD .skip) (by kernel_rfl) (by kernel_rfl) fun x hx=>by
 obtain ⟨N,h⟩:=zpj x.1 hx
 exact ⟨qbk N,zhu,qy _,zpE N,(zhx N x.1).trans h⟩
end Go.T
