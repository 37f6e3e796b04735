/- The distance of a point: what the functions compute (IsPoint, distanceBounds proved; the rest are contracts and prints). -/
import Derived.Test.YthefcjjgchekiaaGreatE32
set_option linter.unusedSimpArgs false
set_option linter.unusedVariables false
namespace Go.T
open Go Go.Proofs
set_option maxHeartbeats 4000000
set_option maxRecDepth 100000
def qcf (p:List (Val Y28)) (d:Int):Bool:=decide ((p.length:Int)=d)&&p.all fun r=>qi r
def qiz (p:List (Val Y28)) (_:Int):Prop:=p.length≤1048576
def qTM (d i:Int) (s:Int) (q:Val Y28):List (Val (.int .i64)):=((List.replicate (d+1).toNat (0:Int)).set i.toNat (s*(q.2:Int))).set d.toNat (-(q.2:Int))
def qaR (d i s:Int) (q:Val Y28):Val qa×Bool:=qh (qTM d i s q) (-s*(q.1:Int)) false
def qc9 (d i:Int) (q:Val Y28) (l:List (Val qa)):Option (List (Val qa)):=bif (qaR d i 1 q).2 then (bif (qaR d i (-1) q).2 then some (l++[(qaR d i 1 q).1]++[(qaR d i (-1) q).1])else none)else none
def qbA (d:Int):Nat→List (Val Y28)→List (Val qa)→Option (List (Val qa))
 | _,[],l=>some l
 | i,q::p,l=>match qc9 d i q l with
   | some l'=>qbA d (i+1) p l'
   | none=>none
def qaw (c:Val Y33) (p:List (Val Y28)):Val qad×Bool:=match qbA c.1 0 p (qq c 1).2 with
 | some l=>qA (((c.1:Int)+1:Int),l) c.1
 | none=>(noB,false)
def qf5 (c:Val Y33) (p:List (Val Y28)):Prop:=qH c=true∧qcf p c.1=true∧1≤(c.1:Int)∧(c.1:Int)≤2
def qaa (c:Val Y33) (p:List (Val Y28)):Val Y33×Bool:=match qbA c.1 0 p (qq c 1).2 with
 | some l=>((((c.1:Int)+1:Int),l),decide ((l.length:Int)≤16))
 | none=>(((0:Int),[]),false)
def qnH:G:={ps:=[i52,i3],rs:=[i4],dp:=true,pre:=fun x=>qiz x.1 x.2.1,fn:=fun x=>(qcf x.1 x.2.1,())}
noncomputable def qjL (N:Nat) (v2:List (Val Y28)) (v3:Int) (k0:Unit→Option (qc [i4])):Nat→Int→Option (qc [i4])
 | 0,_=>none
 | n+1,v4=>bif (decide (v4<v3))then (chk (0≤v4∧v4<(v2.length:Int)) (bif (!((qi (v2.getD v4.toNat (qb Y28))):Bool))then (some (false,()))else (qjL N v2 v3 k0 n (IntKind.i64.wrap (v4+(1:Int))))))else (k0 ())
noncomputable def qyq (N:Nat) (v0:List (Val Y28)) (v1:Int):Option (qc [i4]):=bif (!(decide ((v0.length:Int)=v1)))then (some (false,()))else (qjL N v0 (v0.length:Int) (fun (_:Unit)=>some (true,())) N (0:Int))
def qo2:Gam:=[(114,qau)]
theorem qMB:Gam.get qo2 114=some qau:=rfl
def qp9:Nm:=⟨[false,false,false,false,false,false,false,false,false,false,false,true,true,true],[],false⟩
theorem qQc:qp9.zero=false:=rfl
theorem qSB:qp9.fix=[]:=rfl
theorem qXJ:qp9.keep=[false,false,false,false,false,false,false,false,false,false,false,true,true,true]:=rfl
def qC6:Nm:=⟨[],[],false⟩
theorem qNP:qC6.zero=false:=rfl
theorem qI3:qC6.fix=[]:=rfl
theorem qOr:qC6.keep=[]:=rfl
def qoy:Nat→Tree:=fun _=> .done
def qwm:Nat→Nm:=fun i=>if i=4 then qp9 else ⟨[],[],false⟩
def qwX:Nat→Option Jn:=fun _=>none
def qrx:Nat→Option Nm:=fun i=>if i=0 then some qC6 else none
def qt8:Nat→Option Nm:=fun _=>none
theorem zph:qn qoy (Tryz.f125.body.getD .skip)=true:=by kernel_rfl
def qdH (N:Nat):Tab:={tr:=qoy,lp:=qwm,ex:=qrx,rg:=qt8,jn:=qwX,fuel:=N}
theorem qOR (N:Nat):(qdH N).pins=false:=rfl
theorem zj1 (N:Nat):qp Tryz.prog (qdH N):=qv fun _=>rfl
theorem qOj (N:Nat) (i:Nat):(qdH N).tr i=qoy i:=rfl
theorem qPE (N:Nat) (i:Nat):(qdH N).lp i=qwm i:=rfl
theorem qQ6 (N:Nat) (i:Nat):(qdH N).ex i=qrx i:=rfl
theorem qN5 (N:Nat) (i:Nat):(qdH N).rg i=qt8 i:=rfl
theorem qS5 (N:Nat) (i:Nat):(qdH N).jn i=qwX i:=rfl
theorem qFY (N:Nat):(qdH N).fuel=N:=rfl
noncomputable def qZQ:Code:=cut [true,true,false,true,true,true] (Tryz.f125.body.getD .skip)
theorem zgz {N:Nat} {Q:X→St→Option (qc [i4])} {e:List LV} {h:List Blk}:qe tt qo2 (qdH N) qZQ Q ⟨e,h⟩=qe tt qo2 (qdH N) (cut [true,true,false,true,true,true] (Tryz.f125.body.getD .skip)) Q ⟨e,h⟩:=rfl
theorem zea (N:Nat) (v2:List (Val Y28)) (v3:Int) {k0:Unit→Option (qc [i4])} {Q:X→St→Option (qc [i4])} {c:Code} (hc:c=qZQ) (hret: ∀st,Q .ret st=qI tt true [i4] [.tmp 4] st) (h0:Q (.exit 0) ⟨[u,u,u,u,u,u,u,u,u,u,u,u,u,u,u,u,u,u,u,u,u],[]⟩=k0 ()): ∀(n:Nat) (v4:Int),qE (qe tt qo2 (qdH N) c) false qp9 Q n ⟨[u,u,u,u,u,u,u,u,u,u,u,.one (.sl 28 Y28 v2 0),.one (.int .i64 v3),.one (.int .i64 v4),u,u,u,u,u,u,u],[]⟩=qjL N v2 v3 k0 n v4:=by
 subst hc;intro n;induction n with
 | zero=>intros;rfl
 | succ n ih=>
   intro v4
   rw [qN,zgz,qjL];unfold Tryz.f125
   simp (maxSteps:=10000000) -implicitDefEqProofs [qOj,qoy,qPE,qwm,qQ6,qrx,qN5,qt8,qS5,qwX,qFY,qOR,qSB,qXJ,qQc,qI3,qOr,qNP,qMB,qau,hret,h0,ih]
theorem zqk (N:Nat) (v0:List (Val Y28)) (v1:Int):qe tt qo2 (qdH N) (Tryz.f125.body.getD .skip) (qt tt true [i4] [.tmp 4]) (qw [i52,i3] 21 (v0,v1,()))=qyq N v0 v1:=by
 unfold Tryz.f125
 simp (maxSteps:=10000000) -implicitDefEqProofs [qOj,qoy,qPE,qwm,qQ6,qrx,qN5,qt8,qS5,qwX,qFY,qOR,qSB,qXJ,qQc,qI3,qOr,qNP,qMB,qau]
 rewrite [zea (k0:=(fun (_:Unit)=>some (true,()))) N _ _ ?_ ?_ ?_]
 ·rewrite [qyq];first | rfl | simp (maxSteps:=10000000) -implicitDefEqProofs []
 ·rfl
 ·intro;simp only [qJ,qL,qK,qB]
 ·simp (maxSteps:=10000000) -implicitDefEqProofs [qOj,qoy,qPE,qwm,qQ6,qrx,qN5,qt8,qS5,qwX,qFY,qOR,qSB,qXJ,qQc,qI3,qOr,qNP,qMB,qau]
theorem q7p (p:List (Val Y28)) (d:Int) (h:qiz p d): ∃N,qyq N p d=some (qcf p d,()):=⟨p.length+1,by
 rw [qyq,qcf]
 cases decide ((p.length:Int)=d)with
 | false=>rfl
 | true=>
   simp only [Bool.not_true,cond_false,Bool.true_and]
   refine (qaP (F:=fun n i (_:Unit)=>qjL (p.length+1) p p.length (fun _=>some (true,())) n i) (step:=fun _ x _ K=>bif qi x then K ()else some (false,())) (k:=fun _=>some (true,())) h (fun n i s hi=>by rw [qjL,qk (by omega),qd (by omega),qF hi,qaG]) (fun n i s hi=>by rw [qjL,qj (by omega)]) _ () (Nat.lt_succ_self _)).trans ((qdd p 0).trans ?_)
   cases p.all fun r=>qi r<;>rfl⟩
theorem q6f:Sound Tryz.prog 125 qnH:=qx (tt:=tt) (Γ:=qo2) hT (qg qhY qu) hm (fn:=Tryz.f125) Tryz.func125 (c:=Tryz.f125.body.getD .skip) (by kernel_rfl) (by kernel_rfl) fun x hx=>by
 obtain ⟨N,h⟩:=q7p x.1 x.2.1 hx
 exact ⟨qdH N,zph,qy _,zj1 N,(zqk N x.1 x.2.1).trans h⟩
def qn0:G:={ps:=[i52,i3],rs:=[i4],dp:=true,pre:=fun x=>qiz x.1 x.2.1,fn:=fun x=>(qcf x.1 x.2.1,())}
noncomputable def qjm (N:Nat) (v2:List (Val Y28)) (v3:Int) (k0:Unit→Option (qc [i4])):Nat→Int→Option (qc [i4])
 | 0,_=>none
 | n+1,v4=>bif (decide (v4<(v2.length:Int)))then (chk (0≤v4∧v4<(v2.length:Int)) (bif (!((qi (v2.getD v4.toNat (qb Y28))):Bool))then (some (false,()))else (qjm N v2 v3 k0 n (IntKind.i64.wrap (v4+(1:Int))))))else (k0 ())
noncomputable def qDR (N:Nat) (v0:List (Val Y28)) (v1:Int):Option (qc [i4]):=qjm N v0 v1 (fun (_:Unit)=>some ((decide ((v0.length:Int)=v1)),())) N (0:Int)
def qn7:Gam:=[(109,qar)]
theorem qGs:Gam.get qn7 109=some qar:=rfl
def qu9:Nm:=⟨[true,true,false,false,false,true],[],false⟩
theorem qKL:qu9.zero=false:=rfl
theorem qUl:qu9.fix=[]:=rfl
theorem qG5:qu9.keep=[true,true,false,false,false,true]:=rfl
def qzV:Nm:=⟨[true,true],[],false⟩
theorem qUn:qzV.zero=false:=rfl
theorem qVy:qzV.fix=[]:=rfl
theorem qWP:qzV.keep=[true,true]:=rfl
def qmZ:Nat→Tree:=fun _=> .done
def qt0:Nat→Nm:=fun i=>if i=2 then qu9 else ⟨[],[],false⟩
def qw1:Nat→Option Jn:=fun _=>none
def qsX:Nat→Option Nm:=fun i=>if i=0 then some qzV else none
def qqr:Nat→Option Nm:=fun _=>none
theorem zix:qn qmZ (Tryz.f119.body.getD .skip)=true:=by kernel_rfl
def qdo (N:Nat):Tab:={tr:=qmZ,lp:=qt0,ex:=qsX,rg:=qqr,jn:=qw1,fuel:=N}
theorem qSN (N:Nat):(qdo N).pins=false:=rfl
theorem zqQ (N:Nat):qp Tryz.prog (qdo N):=qv fun _=>rfl
theorem qJt (N:Nat) (i:Nat):(qdo N).tr i=qmZ i:=rfl
theorem qFk (N:Nat) (i:Nat):(qdo N).lp i=qt0 i:=rfl
theorem qJO (N:Nat) (i:Nat):(qdo N).ex i=qsX i:=rfl
theorem qJm (N:Nat) (i:Nat):(qdo N).rg i=qqr i:=rfl
theorem qPj (N:Nat) (i:Nat):(qdo N).jn i=qw1 i:=rfl
theorem qMh (N:Nat):(qdo N).fuel=N:=rfl
noncomputable def qYL:Code:=cut [true,false,true,true,true] (Tryz.f119.body.getD .skip)
theorem q55 {N:Nat} {Q:X→St→Option (qc [i4])} {e:List LV} {h:List Blk}:qe tt qn7 (qdo N) qYL Q ⟨e,h⟩=qe tt qn7 (qdo N) (cut [true,false,true,true,true] (Tryz.f119.body.getD .skip)) Q ⟨e,h⟩:=rfl
theorem zoW (N:Nat) (v2:List (Val Y28)) (v3:Int) {k0:Unit→Option (qc [i4])} {Q:X→St→Option (qc [i4])} {c:Code} (hc:c=qYL) (hret: ∀st,Q .ret st=qI tt true [i4] [.tmp 4] st) (h0:Q (.exit 0) ⟨[.one (.sl 28 Y28 v2 0),.one (.int .i64 v3),u,u,u,u,u,u,u,u,u,u,u,u,u,u,u,u,u,u,u,u],[]⟩=k0 ()): ∀(n:Nat) (v4:Int),qE (qe tt qn7 (qdo N) c) false qu9 Q n ⟨[.one (.sl 28 Y28 v2 0),.one (.int .i64 v3),u,u,u,.one (.int .i64 v4),u,u,u,u,u,u,u,u,u,u,u,u,u,u,u,u],[]⟩=qjm N v2 v3 k0 n v4:=by
 subst hc;intro n;induction n with
 | zero=>intros;rfl
 | succ n ih=>
   intro v4
   rw [qN,q55,qjm];unfold Tryz.f119
   simp (maxSteps:=10000000) -implicitDefEqProofs [qJt,qmZ,qFk,qt0,qJO,qsX,qJm,qqr,qPj,qw1,qMh,qSN,qUl,qG5,qKL,qVy,qWP,qUn,qGs,qar,hret,h0,ih]
theorem zbQ (N:Nat) (v0:List (Val Y28)) (v1:Int):qe tt qn7 (qdo N) (Tryz.f119.body.getD .skip) (qt tt true [i4] [.tmp 4]) (qw [i52,i3] 22 (v0,v1,()))=qDR N v0 v1:=by
 unfold Tryz.f119
 simp (maxSteps:=10000000) -implicitDefEqProofs [qJt,qmZ,qFk,qt0,qJO,qsX,qJm,qqr,qPj,qw1,qMh,qSN,qUl,qG5,qKL,qVy,qWP,qUn,qGs,qar]
 rewrite [zoW (k0:=(fun (_:Unit)=>some ((decide ((v0.length:Int)=v1)),()))) N _ _ ?_ ?_ ?_]
 ·rewrite [qDR];first | rfl | simp (maxSteps:=10000000) -implicitDefEqProofs []
 ·rfl
 ·intro;simp only [qJ,qL,qK,qB]
 ·simp (maxSteps:=10000000) -implicitDefEqProofs [qJt,qmZ,qFk,qt0,qJO,qsX,qJm,qqr,qPj,qw1,qMh,qSN,qUl,qG5,qKL,qVy,qWP,qUn,qGs,qar]
theorem znN (p:List (Val Y28)) (d:Int) (h:qiz p d): ∃N,qDR N p d=some (qcf p d,()):=⟨p.length+1,by
 rw [qDR,qcf]
 refine (qaP (F:=fun n i (_:Unit)=>qjm (p.length+1) p d _ n i) (step:=fun _ x _ K=>bif qi x then K ()else some (false,())) h (fun n i s hi=>by rw [qjm,qk (by omega),qd (by omega),qF hi,qaG]) (fun n i s hi=>by rw [qjm,qj (by omega)]) _ () (Nat.lt_succ_self _)).trans ((qdd p 0).trans ?_)
 cases p.all fun r=>qi r<;>cases decide ((p.length:Int)=d)<;>rfl⟩
theorem za3:Sound Tryz.prog 119 qn0:=qx (tt:=tt) (Γ:=qn7) hT (qg qiS qu) hm (fn:=Tryz.f119) Tryz.func119 (c:=Tryz.f119.body.getD .skip) (by kernel_rfl) (by kernel_rfl) fun x hx=>by
 obtain ⟨N,h⟩:=znN x.1 x.2.1 hx
 exact ⟨qdo N,zix,qy _,zqQ N,(zbQ N x.1 x.2.1).trans h⟩
theorem q3A {d i s e k:Int} (hd:1≤d∧d≤2) (hi:0≤i∧i<d) (hs:s=1∨s= -1) (he:0≤e∧e≤400000000) (hk: -400000000≤k∧k≤400000000):
 IntKind.i64.wrap (d+1)=d+1∧IntKind.i64.wrap (s*e)=s*e∧IntKind.i64.wrap (0 - e)= -e∧IntKind.i64.wrap (IntKind.i64.wrap (0 - s)*k)= -s*k∧qap (((List.replicate (d+1).toNat (0:Int)).set i.toNat (s*e)).set d.toNat (-e)) (-s*k) false:=by
 have hin: ∀x∈((List.replicate (d+1).toNat (0:Int)).set i.toNat (s*e)).set d.toNat (-e),inI x:=by
  intro x hx
  rcases List.mem_or_eq_of_mem_set hx with hx | hx
  ·rcases List.mem_or_eq_of_mem_set hx with hx | hx
   ·rw [(List.mem_replicate.1 hx).2];exact ⟨by decide,by decide⟩
   ·subst hx
    show -9223372036854775807≤s*e∧s*e≤9223372036854775807
    rcases hs with rfl | rfl<;>omega
  ·subst hx
   show -9223372036854775807≤ -e∧ -e≤9223372036854775807
   omega
 have e0:IntKind.i64.wrap (0 - s)= -s:=by rw [Int.zero_sub];rcases hs with rfl | rfl<;>exact qaq (by omega) (by omega)
 refine ⟨qaq (by omega) (by omega),?_,by rw [Int.zero_sub];exact qaq (by omega) (by omega),?_,?_,?_,hin⟩
 ·rcases hs with rfl | rfl<;>exact qaq (by omega) (by omega)
 ·rw [e0];rcases hs with rfl | rfl<;>exact qaq (by omega) (by omega)
 ·show (((List.replicate (d+1).toNat (0:Int)).set i.toNat (s*e)).set d.toNat (-e)).length≤1048576
  rw [List.length_set,List.length_set,List.length_replicate];omega
 ·unfold inI;rcases hs with rfl | rfl<;>omega
def qmX:G:={ps:=[i33,i52],rs:=[qD,i4],dp:=true,pre:=fun x=>qf5 x.1 x.2.1,fn:=fun x=>((qaw x.1 x.2.1).1,(qaw x.1 x.2.1).2,())}
noncomputable def qgb (N:Nat) (v42:Int) (v43:List (Val Y28)) (v44:Int) (v45:Int) (v46:Int) (v48:Int) (v49:List (Val qa)) (v50:Bool) (v51:Int) (v52:Int) (v53:Bool) (v54:Bool) (v55:Int) (v56:Int) (v57:Bool) (v58:Bool) (v59:Int) (v60:Int) (v61:Int) (v62:List (Val (.int .i64))) (k2:(List (Val qa))→Option (qc [qD,i4])):Nat→Int→(List (Val qa))→Option (qc [qD,i4])
 | 0,_,_=>none
 | n+1,v47,v63=>bif (decide (v47<v46))then (chk (0≤v47∧v47<(v62.length:Int)) (chk (v47.toNat<v62.length) (chk (0≤(IntKind.i64.wrap (v48+(1:Int)))∧(IntKind.i64.wrap (v48+(1:Int)))≤(IntKind.i64.wrap (v48+(1:Int)))∧(IntKind.i64.wrap (v48+(1:Int)))≤1048576) (chk (0≤v42∧v42<((List.replicate (IntKind.i64.wrap (v48+(1:Int))).toNat (qb (.int .i64))).length:Int)) (chk (v42.toNat<(List.replicate (IntKind.i64.wrap (v48+(1:Int))).toNat (qb (.int .i64))).length) (chk (0≤v48∧v48<(((List.replicate (IntKind.i64.wrap (v48+(1:Int))).toNat (qb (.int .i64))).set v42.toNat (IntKind.i64.wrap (((v62.getD v47.toNat (qb (.int .i64))):Int)*v61))).length:Int)) (chk (v48.toNat<((List.replicate (IntKind.i64.wrap (v48+(1:Int))).toNat (qb (.int .i64))).set v42.toNat (IntKind.i64.wrap (((v62.getD v47.toNat (qb (.int .i64))):Int)*v61))).length) (chk (qap (((List.replicate (IntKind.i64.wrap (v48+(1:Int))).toNat (qb (.int .i64))).set v42.toNat (IntKind.i64.wrap (((v62.getD v47.toNat (qb (.int .i64))):Int)*v61))).set v48.toNat (IntKind.i64.wrap (0 - v61))) (IntKind.i64.wrap ((IntKind.i64.wrap (0 - ((v62.getD v47.toNat (qb (.int .i64))):Int)))*v60)) false) (bif (!((qh (((List.replicate (IntKind.i64.wrap (v48+(1:Int))).toNat (qb (.int .i64))).set v42.toNat (IntKind.i64.wrap (((v62.getD v47.toNat (qb (.int .i64))):Int)*v61))).set v48.toNat (IntKind.i64.wrap (0 - v61))) (IntKind.i64.wrap ((IntKind.i64.wrap (0 - ((v62.getD v47.toNat (qb (.int .i64))):Int)))*v60)) false).2:Bool))then (some ((false,((0:Int),(0:Int)),false,false,((0:Int),(0:Int)),false,false),false,()))else (chk (v63.length+([((((qh (((List.replicate (IntKind.i64.wrap (v48+(1:Int))).toNat (qb (.int .i64))).set v42.toNat (IntKind.i64.wrap (((v62.getD v47.toNat (qb (.int .i64))):Int)*v61))).set v48.toNat (IntKind.i64.wrap (0 - v61))) (IntKind.i64.wrap ((IntKind.i64.wrap (0 - ((v62.getD v47.toNat (qb (.int .i64))):Int)))*v60)) false).1).1:List (Val (.int .i64))),((((qh (((List.replicate (IntKind.i64.wrap (v48+(1:Int))).toNat (qb (.int .i64))).set v42.toNat (IntKind.i64.wrap (((v62.getD v47.toNat (qb (.int .i64))):Int)*v61))).set v48.toNat (IntKind.i64.wrap (0 - v61))) (IntKind.i64.wrap ((IntKind.i64.wrap (0 - ((v62.getD v47.toNat (qb (.int .i64))):Int)))*v60)) false).1).2).1:Int),((((qh (((List.replicate (IntKind.i64.wrap (v48+(1:Int))).toNat (qb (.int .i64))).set v42.toNat (IntKind.i64.wrap (((v62.getD v47.toNat (qb (.int .i64))):Int)*v61))).set v48.toNat (IntKind.i64.wrap (0 - v61))) (IntKind.i64.wrap ((IntKind.i64.wrap (0 - ((v62.getD v47.toNat (qb (.int .i64))):Int)))*v60)) false).1).2).2:Bool))]:List (Val qa)).length≤1048576) (qgb N v42 v43 v44 v45 v46 v48 v49 v50 v51 v52 v53 v54 v55 v56 v57 v58 v59 v60 v61 v62 k2 n (IntKind.i64.wrap (v47+(1:Int))) (v63++([((((qh (((List.replicate (IntKind.i64.wrap (v48+(1:Int))).toNat (qb (.int .i64))).set v42.toNat (IntKind.i64.wrap (((v62.getD v47.toNat (qb (.int .i64))):Int)*v61))).set v48.toNat (IntKind.i64.wrap (0 - v61))) (IntKind.i64.wrap ((IntKind.i64.wrap (0 - ((v62.getD v47.toNat (qb (.int .i64))):Int)))*v60)) false).1).1:List (Val (.int .i64))),((((qh (((List.replicate (IntKind.i64.wrap (v48+(1:Int))).toNat (qb (.int .i64))).set v42.toNat (IntKind.i64.wrap (((v62.getD v47.toNat (qb (.int .i64))):Int)*v61))).set v48.toNat (IntKind.i64.wrap (0 - v61))) (IntKind.i64.wrap ((IntKind.i64.wrap (0 - ((v62.getD v47.toNat (qb (.int .i64))):Int)))*v60)) false).1).2).1:Int),((((qh (((List.replicate (IntKind.i64.wrap (v48+(1:Int))).toNat (qb (.int .i64))).set v42.toNat (IntKind.i64.wrap (((v62.getD v47.toNat (qb (.int .i64))):Int)*v61))).set v48.toNat (IntKind.i64.wrap (0 - v61))) (IntKind.i64.wrap ((IntKind.i64.wrap (0 - ((v62.getD v47.toNat (qb (.int .i64))):Int)))*v60)) false).1).2).2:Bool))]:List (Val qa))))))))))))))else (k2 v63)
noncomputable def qi3 (N:Nat) (v2:List (Val Y28)) (v3:Int) (v5:Int) (v6:List (Val qa)) (v7:Bool) (v8:Int) (v9:Int) (v10:Bool) (v11:Bool) (v12:Int) (v13:Int) (v14:Bool) (v15:Bool) (v16:Int) (k0:(List (Val qa))→Option (qc [qD,i4])):Nat→Int→(List (Val qa))→Option (qc [qD,i4])
 | 0,_,_=>none
 | n+1,v4,v17=>bif (decide (v4<v3))then (chk (0≤v4∧v4<(v2.length:Int)) (qgb N v4 v2 v3 v4 (([(1:Int),(-1:Int)]:List (Val (.int .i64))).length:Int) v5 v6 v7 v8 v9 v10 v11 v12 v13 v14 v15 v16 ((v2.getD v4.toNat (qb Y28)).1:Int) ((v2.getD v4.toNat (qb Y28)).2:Int) ([(1:Int),(-1:Int)]:List (Val (.int .i64))) (fun (v65:List (Val qa))=>qi3 N v2 v3 v5 v6 v7 v8 v9 v10 v11 v12 v13 v14 v15 v16 k0 n (IntKind.i64.wrap (v4+(1:Int))) v65) N (0:Int) v17))else (k0 v17)
noncomputable def qCG (N:Nat) (v0:Val Y33) (v1:List (Val Y28)):Option (qc [qD,i4]):=chk (qlv v0 (1:Int)) (qi3 N v1 (v1.length:Int) (v0.1:Int) (v0.2:List (Val qa)) false (0:Int) (0:Int) false false (0:Int) (0:Int) false false ((qq v0 (1:Int)).1:Int) (fun (v67:List (Val qa))=>some (((((qA (((qq v0 (1:Int)).1:Int),v67) (v0.1:Int)).1).1:Bool),((((((qA (((qq v0 (1:Int)).1:Int),v67) (v0.1:Int)).1).2).1).1:Int),(((((qA (((qq v0 (1:Int)).1:Int),v67) (v0.1:Int)).1).2).1).2:Int)),(((((qA (((qq v0 (1:Int)).1:Int),v67) (v0.1:Int)).1).2).2).1:Bool),((((((qA (((qq v0 (1:Int)).1:Int),v67) (v0.1:Int)).1).2).2).2).1:Bool),(((((((((qA (((qq v0 (1:Int)).1:Int),v67) (v0.1:Int)).1).2).2).2).2).1).1:Int),((((((((qA (((qq v0 (1:Int)).1:Int),v67) (v0.1:Int)).1).2).2).2).2).1).2:Int)),((((((((qA (((qq v0 (1:Int)).1:Int),v67) (v0.1:Int)).1).2).2).2).2).2).1:Bool),((((((((qA (((qq v0 (1:Int)).1:Int),v67) (v0.1:Int)).1).2).2).2).2).2).2:Bool)),((qA (((qq v0 (1:Int)).1:Int),v67) (v0.1:Int)).2:Bool),())) N (0:Int) ((qq v0 (1:Int)).2:List (Val qa)))
def qeG:Gam:=[(158,qdi),(202,qdz),(207,qbT)]
theorem qv8:Gam.get qeG 158=some qdi:=rfl
theorem qqm:Gam.get qeG 202=some qdz:=rfl
theorem qqS:Gam.get qeG 207=some qbT:=rfl
def qpI:Nm:=⟨[false,false,true,false,true,false,true,true,true,false,false,false,false,false,false,false,true,true,true,false,false,false,false,true,true,true],[],false⟩
theorem qqe:qpI.zero=false:=rfl
theorem quH:qpI.fix=[]:=rfl
theorem qvP:qpI.keep=[false,false,true,false,true,false,true,true,true,false,false,false,false,false,false,false,true,true,true,false,false,false,false,true,true,true]:=rfl
def qq7:Nm:=⟨[false,false,true,false,true,false,true,false,false,false,false,false,false,false,false,false,true,true,true],[],false⟩
theorem qsJ:qq7.zero=false:=rfl
theorem qua:qq7.fix=[]:=rfl
theorem qxr:qq7.keep=[false,false,true,false,true,false,true,false,false,false,false,false,false,false,false,false,true,true,true]:=rfl
def qAk:Nm:=⟨[false,false,true,false,true,false,true],[],false⟩
theorem qu0:qAk.zero=false:=rfl
theorem qv9:qAk.fix=[]:=rfl
theorem qw7:qAk.keep=[false,false,true,false,true,false,true]:=rfl
def qzK:Nm:=⟨[false,false,true,false,true,false,true,false,false,false,false,false,false,false,false,false,true,true,true],[],false⟩
theorem quf:qzK.zero=false:=rfl
theorem qvD:qzK.fix=[]:=rfl
theorem qrS:qzK.keep=[false,false,true,false,true,false,true,false,false,false,false,false,false,false,false,false,true,true,true]:=rfl
def qAR:Nm:=⟨[false,false,true,false,true,false,true,true,true,false,true,true,false,false,false,false,true,true,true,false,false,false,false,true,true,true],[],false⟩
theorem qtY:qAR.zero=false:=rfl
theorem qsm:qAR.fix=[]:=rfl
theorem qrY:qAR.keep=[false,false,true,false,true,false,true,true,true,false,true,true,false,false,false,false,true,true,true,false,false,false,false,true,true,true]:=rfl
def qin:Nat→Tree:=fun i=>if i=9 then .quiet 0 (.quiet 1 (.quiet 5 (.quiet 6 (.quiet 7 (.quiet 8 (.quiet 12 (.first 2 (.alt 3 (.alt 4 (.alt 9 (.alt 10 (.first 11 (.alt 13 (.quiet 14 (.alt 15 .done .stop)) .stop)) (.alt 13 (.quiet 10 (.quiet 11 (.quiet 14 (.alt 15 .done .stop)))) .stop)) (.alt 13 (.quiet 9 (.quiet 10 (.quiet 11 (.quiet 14 (.alt 15 .done .stop))))) .stop)) (.alt 9 (.alt 4 (.alt 10 (.first 11 (.alt 13 (.quiet 14 (.alt 15 .done .stop)) .stop)) (.alt 13 (.quiet 10 (.quiet 11 (.quiet 14 (.alt 15 .done .stop)))) .stop)) (.alt 10 (.first 11 (.alt 4 (.alt 13 (.quiet 14 (.alt 15 .done .stop)) .stop) (.alt 13 (.quiet 4 (.quiet 14 (.alt 15 .done .stop))) .stop))) (.alt 13 (.quiet 4 (.quiet 10 (.quiet 11 (.quiet 14 (.alt 15 .done .stop))))) .stop))) (.alt 13 (.quiet 4 (.quiet 9 (.quiet 10 (.quiet 11 (.quiet 14 (.alt 15 .done .stop)))))) .stop))) (.alt 9 (.alt 3 (.alt 4 (.alt 10 (.first 11 (.alt 13 (.quiet 14 (.alt 15 .done .stop)) .stop)) (.alt 13 (.quiet 10 (.quiet 11 (.quiet 14 (.alt 15 .done .stop)))) .stop)) (.alt 10 (.first 11 (.alt 4 (.alt 13 (.quiet 14 (.alt 15 .done .stop)) .stop) (.alt 13 (.quiet 4 (.quiet 14 (.alt 15 .done .stop))) .stop))) (.alt 13 (.quiet 4 (.quiet 10 (.quiet 11 (.quiet 14 (.alt 15 .done .stop))))) .stop))) (.alt 10 (.first 11 (.alt 3 (.alt 4 (.alt 13 (.quiet 14 (.alt 15 .done .stop)) .stop) (.alt 13 (.quiet 4 (.quiet 14 (.alt 15 .done .stop))) .stop)) (.alt 13 (.quiet 3 (.quiet 4 (.quiet 14 (.alt 15 .done .stop)))) .stop))) (.alt 13 (.quiet 3 (.quiet 4 (.quiet 10 (.quiet 11 (.quiet 14 (.alt 15 .done .stop)))))) .stop))) (.alt 13 (.quiet 3 (.quiet 4 (.quiet 9 (.quiet 10 (.quiet 11 (.quiet 14 (.alt 15 .done .stop))))))) .stop))))))))))else .done
def qlT:Nat→Nm:=fun i=>if i=6 then qpI else if i=3 then qq7 else ⟨[],[],false⟩
def qmC:Nat→Option Jn:=fun _=>none
def qkH:Nat→Option Nm:=fun i=>if i=0 then some qAk else if i=2 then some qzK else none
def ql8:Nat→Option Nm:=fun i=>if i=9 then some qAR else none
theorem zmm:qn qin (Tryz.f126.body.getD .skip)=true:=by kernel_rfl
def qcg (N:Nat):Tab:={tr:=qin,lp:=qlT,ex:=qkH,rg:=ql8,jn:=qmC,fuel:=N}
theorem qsq (N:Nat):(qcg N).pins=false:=rfl
theorem zlW (N:Nat):qp Tryz.prog (qcg N):=qv fun _=>rfl
theorem qwb (N:Nat) (i:Nat):(qcg N).tr i=qin i:=rfl
theorem qp3 (N:Nat) (i:Nat):(qcg N).lp i=qlT i:=rfl
theorem qrX (N:Nat) (i:Nat):(qcg N).ex i=qkH i:=rfl
theorem qrU (N:Nat) (i:Nat):(qcg N).rg i=ql8 i:=rfl
theorem qrq (N:Nat) (i:Nat):(qcg N).jn i=qmC i:=rfl
theorem qwS (N:Nat):(qcg N).fuel=N:=rfl
noncomputable def qZT:Code:=cut [true,true,false,true,true,true,true,true,false,true,true,true,true,true] (Tryz.f126.body.getD .skip)
theorem zqW {N:Nat} {Q:X→St→Option (qc [qD,i4])} {e:List LV} {h:List Blk}:qe tt qeG (qcg N) qZT Q ⟨e,h⟩=qe tt qeG (qcg N) (cut [true,true,false,true,true,true,true,true,false,true,true,true,true,true] (Tryz.f126.body.getD .skip)) Q ⟨e,h⟩:=rfl
theorem zhd (N:Nat) (v42:Int) (v43:List (Val Y28)) (v44:Int) (v45:Int) (v46:Int) (v48:Int) (v49:List (Val qa)) (v50:Bool) (v51:Int) (v52:Int) (v53:Bool) (v54:Bool) (v55:Int) (v56:Int) (v57:Bool) (v58:Bool) (v59:Int) (v60:Int) (v61:Int) (v62:List (Val (.int .i64))) {k2:(List (Val qa))→Option (qc [qD,i4])} {Q:X→St→Option (qc [qD,i4])} {c:Code} (hc:c=qZT) (hret: ∀st,Q .ret st=qI tt true [qD,i4] [.cell 4 130,.tmp 5] st) (h2: ∀(v64:List (Val qa)),Q (.exit 2) ⟨[u,u,.one (.ptr 0 0 0),u,.one (.ptr 1 0 0),u,.one (.ptr 2 0 0),u,u,u,u,u,u,u,u,u,.one (.sl 28 Y28 v43 4),.one (.int .i64 v44),.one (.int .i64 v45),u,u,u,u,u,u,u,u,u,u,u,u,u,u,u,u,u,u,u,u,u,u,u,u,u,u,u,u,u,u,u,u,u,u,u,u,u,u,u,u,u,u,u,u,u,u,u,u,u,u,u,u,u,u,u],[.box [.int .i64 v48,.sl 108 qa v49 4],.box [.bool v50,.int .i64 v51,.int .i64 v52,.bool v53,.bool v54,.int .i64 v55,.int .i64 v56,.bool v57,.bool v58],.box [.int .i64 v59,.own 3],.row 108 qa v64 true true 0]⟩=k2 v64): ∀(n:Nat) (v47:Int) (v63:List (Val qa)),qE (qe tt qeG (qcg N) c) false qpI Q n ⟨[u,u,.one (.ptr 0 0 0),u,.one (.ptr 1 0 0),u,.one (.ptr 2 0 0),.one (.int .i64 v42),.one (.ptr 3 0 0),u,u,u,u,u,u,u,.one (.sl 28 Y28 v43 6),.one (.int .i64 v44),.one (.int .i64 v45),u,u,u,u,.one (.own 4),.one (.int .i64 v46),.one (.int .i64 v47),u,u,u,u,u,u,u,u,u,u,u,u,u,u,u,u,u,u,u,u,u,u,u,u,u,u,u,u,u,u,u,u,u,u,u,u,u,u,u,u,u,u,u,u,u,u,u,u],[.box [.int .i64 v48,.sl 108 qa v49 6],.box [.bool v50,.int .i64 v51,.int .i64 v52,.bool v53,.bool v54,.int .i64 v55,.int .i64 v56,.bool v57,.bool v58],.box [.int .i64 v59,.own 5],.box [.int .i64 v60,.int .i64 v61],.row 3 (.int .i64) v62 true true 0,.row 108 qa v63 true true 0]⟩=qgb N v42 v43 v44 v45 v46 v48 v49 v50 v51 v52 v53 v54 v55 v56 v57 v58 v59 v60 v61 v62 k2 n v47 v63:=by
 subst hc;intro n;induction n with
 | zero=>intros;rfl
 | succ n ih=>
   intro v47 v63
   rw [qN,zqW,qgb];unfold Tryz.f126
   simp (maxSteps:=10000000) -implicitDefEqProofs [qwb,qin,qp3,qlT,qrX,qkH,qrU,ql8,qrq,qmC,qwS,qsq,quH,qvP,qqe,qua,qxr,qsJ,qv9,qw7,qu0,qvD,qrS,quf,qsm,qrY,qtY,qv8,qqm,qqS,qdi,qdz,qbT,hret,h2,ih]
noncomputable def q1x:Code:=cut [true,true,false,true,true,true] (Tryz.f126.body.getD .skip)
theorem zcE {N:Nat} {Q:X→St→Option (qc [qD,i4])} {e:List LV} {h:List Blk}:qe tt qeG (qcg N) q1x Q ⟨e,h⟩=qe tt qeG (qcg N) (cut [true,true,false,true,true,true] (Tryz.f126.body.getD .skip)) Q ⟨e,h⟩:=rfl
theorem zkx (N:Nat) (v2:List (Val Y28)) (v3:Int) (v5:Int) (v6:List (Val qa)) (v7:Bool) (v8:Int) (v9:Int) (v10:Bool) (v11:Bool) (v12:Int) (v13:Int) (v14:Bool) (v15:Bool) (v16:Int) {k0:(List (Val qa))→Option (qc [qD,i4])} {Q:X→St→Option (qc [qD,i4])} {c:Code} (hc:c=q1x) (hret: ∀st,Q .ret st=qI tt true [qD,i4] [.cell 4 130,.tmp 5] st) (h0: ∀(v66:List (Val qa)),Q (.exit 0) ⟨[u,u,.one (.ptr 0 0 0),u,.one (.ptr 1 0 0),u,.one (.ptr 2 0 0),u,u,u,u,u,u,u,u,u,u,u,u,u,u,u,u,u,u,u,u,u,u,u,u,u,u,u,u,u,u,u,u,u,u,u,u,u,u,u,u,u,u,u,u,u,u,u,u,u,u,u,u,u,u,u,u,u,u,u,u,u,u,u,u,u,u,u],[.box [.int .i64 v5,.sl 108 qa v6 4],.box [.bool v7,.int .i64 v8,.int .i64 v9,.bool v10,.bool v11,.int .i64 v12,.int .i64 v13,.bool v14,.bool v15],.box [.int .i64 v16,.own 3],.row 108 qa v66 true true 0]⟩=k0 v66): ∀(n:Nat) (v4:Int) (v17:List (Val qa)),qE (qe tt qeG (qcg N) c) false qq7 Q n ⟨[u,u,.one (.ptr 0 0 0),u,.one (.ptr 1 0 0),u,.one (.ptr 2 0 0),u,u,u,u,u,u,u,u,u,.one (.sl 28 Y28 v2 4),.one (.int .i64 v3),.one (.int .i64 v4),u,u,u,u,u,u,u,u,u,u,u,u,u,u,u,u,u,u,u,u,u,u,u,u,u,u,u,u,u,u,u,u,u,u,u,u,u,u,u,u,u,u,u,u,u,u,u,u,u,u,u,u,u,u,u],[.box [.int .i64 v5,.sl 108 qa v6 4],.box [.bool v7,.int .i64 v8,.int .i64 v9,.bool v10,.bool v11,.int .i64 v12,.int .i64 v13,.bool v14,.bool v15],.box [.int .i64 v16,.own 3],.row 108 qa v17 true true 0]⟩=qi3 N v2 v3 v5 v6 v7 v8 v9 v10 v11 v12 v13 v14 v15 v16 k0 n v4 v17:=by
 subst hc;intro n;induction n with
 | zero=>intros;rfl
 | succ n ih=>
   intro v4 v17
   rw [qN,zcE];unfold Tryz.f126
   simp (maxSteps:=10000000) -implicitDefEqProofs [qwb,qin,qp3,qlT,qrX,qkH,qrU,ql8,qrq,qmC,qwS,qsq,quH,qvP,qqe,qua,qxr,qsJ,qv9,qw7,qu0,qvD,qrS,quf,qsm,qrY,qtY,qv8,qqm,qqS,qdi,qdz,qbT,hret,h0,ih]
   rewrite [zhd (k2:=(fun (v65:List (Val qa))=>qi3 N v2 v3 v5 v6 v7 v8 v9 v10 v11 v12 v13 v14 v15 v16 k0 n (IntKind.i64.wrap (v4+(1:Int))) v65)) N _ _ _ _ _ _ _ _ _ _ _ _ _ _ _ _ _ _ _ _ ?_ ?_ ?_]
   ·rewrite [qi3];first | rfl | simp (maxSteps:=10000000) -implicitDefEqProofs [ih]
   ·rfl
   ·intro;simp only [qJ,qL,qK,qB,hret]
   ·intro v65;simp (maxSteps:=10000000) -implicitDefEqProofs [qwb,qin,qp3,qlT,qrX,qkH,qrU,ql8,qrq,qmC,qwS,qsq,quH,qvP,qqe,qua,qxr,qsJ,qv9,qw7,qu0,qvD,qrS,quf,qsm,qrY,qtY,qv8,qqm,qqS,qdi,qdz,qbT,hret,h0,ih]
theorem zo9 (N:Nat) (v0:Val Y33) (v1:List (Val Y28)):qe tt qeG (qcg N) (Tryz.f126.body.getD .skip) (qt tt true [qD,i4] [.cell 4 130,.tmp 5]) (qw [i33,i52] 74 (v0,v1,()))=qCG N v0 v1:=by
 unfold Tryz.f126
 simp (maxSteps:=10000000) -implicitDefEqProofs [qwb,qin,qp3,qlT,qrX,qkH,qrU,ql8,qrq,qmC,qwS,qsq,quH,qvP,qqe,qua,qxr,qsJ,qv9,qw7,qu0,qvD,qrS,quf,qsm,qrY,qtY,qv8,qqm,qqS,qdi,qdz,qbT]
 rewrite [zkx (k0:=(fun (v67:List (Val qa))=>some (((((qA (((qq v0 (1:Int)).1:Int),v67) (v0.1:Int)).1).1:Bool),((((((qA (((qq v0 (1:Int)).1:Int),v67) (v0.1:Int)).1).2).1).1:Int),(((((qA (((qq v0 (1:Int)).1:Int),v67) (v0.1:Int)).1).2).1).2:Int)),(((((qA (((qq v0 (1:Int)).1:Int),v67) (v0.1:Int)).1).2).2).1:Bool),((((((qA (((qq v0 (1:Int)).1:Int),v67) (v0.1:Int)).1).2).2).2).1:Bool),(((((((((qA (((qq v0 (1:Int)).1:Int),v67) (v0.1:Int)).1).2).2).2).2).1).1:Int),((((((((qA (((qq v0 (1:Int)).1:Int),v67) (v0.1:Int)).1).2).2).2).2).1).2:Int)),((((((((qA (((qq v0 (1:Int)).1:Int),v67) (v0.1:Int)).1).2).2).2).2).2).1:Bool),((((((((qA (((qq v0 (1:Int)).1:Int),v67) (v0.1:Int)).1).2).2).2).2).2).2:Bool)),((qA (((qq v0 (1:Int)).1:Int),v67) (v0.1:Int)).2:Bool),()))) N _ _ _ _ _ _ _ _ _ _ _ _ _ _ ?_ ?_ ?_]
 ·rewrite [qCG];first | rfl | simp (maxSteps:=10000000) -implicitDefEqProofs []
 ·rfl
 ·intro;simp only [qJ,qL,qK,qB]
 ·intro v67;simp (maxSteps:=10000000) -implicitDefEqProofs [qwb,qin,qp3,qlT,qrX,qkH,qrU,ql8,qrq,qmC,qwS,qsq,quH,qvP,qqe,qua,qxr,qsJ,qv9,qw7,qu0,qvD,qrS,quf,qsm,qrY,qtY,qv8,qqm,qqS,qdi,qdz,qbT]
abbrev qeZ:List (Val (.int .i64)):=[(1:Int),(-1:Int)]
abbrev qz4:Option (qc [qD,i4]):=some (noB,false,())
theorem qxP {r:Val Y28} (h:qi r=true):(0≤(r.2:Int)∧ @LE.le Int _ r.2 400000000)∧(-400000000≤(r.1:Int)∧ @LE.le Int _ r.1 400000000):=by
 obtain ⟨a,b⟩:=r
 change Int at a
 change Int at b
 unfold qi inR qR at h
 simp only [Bool.and_eq_true,decide_eq_true_eq]at h
 obtain ⟨⟨h1,h2⟩,_⟩:=h
 have h1:1≤b∧b≤400000000:=h1
 have h2: -400000000≤a∧a≤400000000:=h2
 exact ⟨⟨by show 0≤b;omega,h1.2⟩,h2⟩
theorem qZP (N:Nat) {d i s:Int} {q:Val Y28} (v43:List (Val Y28)) (v44 v45:Int) (v49:List (Val qa)) (v50:Bool) (v51 v52:Int) (v53 v54:Bool) (v55 v56:Int) (v57 v58:Bool) (v59:Int) (hd:1≤d∧d≤2) (hi:0≤i∧i<d) (hs:s=1∨s= -1) (hq:qi q=true) {j:Nat} (hj:j<2) (hy:List.getD (α:=Val (.int .i64)) qeZ (Int.toNat (j:Int)) (qb (.int .i64))=s) (K:List (Val qa)→Option (qc [qD,i4])) (m:Nat) (l:List (Val qa)) (hl:l.length≤1000):
 qgb N i v43 v44 v45 (qeZ.length:Int) d v49 v50 v51 v52 v53 v54 v55 v56 v57 v58 v59 q.1 q.2 qeZ K (m+1) (j:Int) l=bif (qaR d i s q).2 then qgb N i v43 v44 v45 (qeZ.length:Int) d v49 v50 v51 v52 v53 v54 v55 v56 v57 v58 v59 q.1 q.2 qeZ K m ((j+1:Nat):Int) (l++[(qaR d i s q).1])else qz4:=by
 obtain ⟨e1,e2,e3,e4,hp⟩:=q3A hd hi hs (qxP hq).1 (qxP hq).2
 have el:qeZ.length=2:=rfl
 have r1:(List.replicate (d+1).toNat (qb (.int .i64))).length=(d+1).toNat:=List.length_replicate
 rw [qgb,qk (by omega),qd (by omega),qd (by omega),hy,e1,e2,e3,e4,qd (by omega),qd (by rw [r1];omega),qd (by rw [r1];omega),qd (by rw [List.length_set,r1];omega),qd (by rw [List.length_set,r1];omega)]
 rw [qd (show qap (((List.replicate (d+1).toNat (qb (.int .i64))).set i.toNat (s*q.2)).set d.toNat (-q.2)) (-s*(q.1:Int)) false from hp),qa2 hj (by omega)]
 show (bif !(qaR d i s q).2 then qz4 else chk (l.length+[(qaR d i s q).1].length≤1048576) (qgb N i v43 v44 v45 (qeZ.length:Int) d v49 v50 v51 v52 v53 v54 v55 v56 v57 v58 v59 q.1 q.2 qeZ K m ((j+1:Nat):Int) (l++[(qaR d i s q).1])))=_
 cases (qaR d i s q).2 with
 | false=>rfl
 | true=>
   simp only [Bool.not_true,cond_false,cond_true]
   rw [qd (by simp only [List.length_singleton];omega)]
theorem q56 (N:Nat) {d i:Int} {q:Val Y28} (v43:List (Val Y28)) (v44 v45:Int) (v49:List (Val qa)) (v50:Bool) (v51 v52:Int) (v53 v54:Bool) (v55 v56:Int) (v57 v58:Bool) (v59:Int) (hd:1≤d∧d≤2) (hi:0≤i∧i<d) (hq:qi q=true) (K:List (Val qa)→Option (qc [qD,i4])) (m:Nat) (hm:3≤m) (l:List (Val qa)) (hl:l.length≤100):
 qgb N i v43 v44 v45 (qeZ.length:Int) d v49 v50 v51 v52 v53 v54 v55 v56 v57 v58 v59 q.1 q.2 qeZ K m 0 l=match qc9 d i q l with
  | some l'=>K l'
  | none=>qz4:=by
 obtain ⟨m,rfl⟩: ∃k,m=k+1+1+1:=⟨m - 3,by omega⟩
 have t1:=qZP N (s:=1) (q:=q) v43 v44 v45 v49 v50 v51 v52 v53 v54 v55 v56 v57 v58 v59 hd hi (.inl rfl) hq (j:=0) (by omega) rfl K (m+1+1) l (by omega)
 refine t1.trans ?_
 unfold qc9
 cases (qaR d i 1 q).2 with
 | false=>rfl
 | true=>
   simp only [cond_true]
   refine (qZP N (s:= -1) (q:=q) v43 v44 v45 v49 v50 v51 v52 v53 v54 v55 v56 v57 v58 v59 hd hi (.inr rfl) hq (j:=1) (by omega) rfl K (m+1) _ (by simp;omega)).trans ?_
   cases (qaR d i (-1) q).2 with
   | false=>rfl
   | true=>
     simp only [cond_true]
     rw [qgb,qj (by show ¬((1+1:Nat):Int)<(qeZ.length:Int);decide)]
theorem q1Z {d i:Int} {q:Val Y28} {l l':List (Val qa)} (h:qc9 d i q l=some l'):l'.length=l.length+2:=by
 unfold qc9 at h
 cases h1:(qaR d i 1 q).2 with
 | false=>rw [h1]at h;simp at h
 | true=>
   cases h2:(qaR d i (-1) q).2 with
   | false=>rw [h1,h2]at h;simp at h
   | true=>
     rw [h1,h2]at h
     simp only [cond_true,Option.some.injEq]at h
     subst h;simp
theorem q0q (N:Nat) (hN:3≤N) {d:Int} {p:List (Val Y28)} (v6:List (Val qa)) (v7:Bool) (v8 v9:Int) (v10 v11:Bool) (v12 v13:Int) (v14 v15:Bool) (v16:Int) (hd:1≤d∧d≤2) (hpl:(p.length:Int)=d) (hp: ∀q∈p,qi q=true) (K:List (Val qa)→Option (qc [qD,i4])):
 ∀(k i:Nat),i+k=p.length→ ∀m,k<m→ ∀l:List (Val qa),l.length≤16+2*i→
 qi3 N p p.length d v6 v7 v8 v9 v10 v11 v12 v13 v14 v15 v16 K m (i:Int) l=match qbA d i (p.drop i) l with
  | some l'=>K l'
  | none=>qz4
 | 0,i,hi,m+1,_,l,_=>by
   rw [qi3,qj (by omega),List.drop_eq_nil_of_le (by omega)]
   rfl
 | k+1,i,hi,m+1,hm,l,hl=>by
   have h:i<p.length:=by omega
   rw [qi3,qk (by omega),qd (by omega),qF h]
   refine (q56 N (d:=d) (i:=i) (q:=p[i]) p p.length i v6 v7 v8 v9 v10 v11 v12 v13 v14 v15 v16 hd ⟨by omega,by omega⟩ (hp _ (List.getElem_mem h)) _ N hN l (by omega)).trans ?_
   rw [List.drop_eq_getElem_cons h,qbA]
   cases hq:qc9 d i p[i] l with
   | none=>rfl
   | some l'=>
     have hlen:=q1Z hq
     simp only
     rw [qa2 h (by omega)]
     exact q0q N hN v6 v7 v8 v9 v10 v11 v12 v13 v14 v15 v16 hd hpl hp K k (i+1) (by omega) m (by omega) l' (by omega)
theorem qJN {p:List (Val Y28)} {d:Int} (h:qcf p d=true):(p.length:Int)=d∧ ∀q∈p,qi q=true:=by
 unfold qcf at h
 simpa only [Bool.and_eq_true,decide_eq_true_eq,List.all_eq_true] using h
theorem zai (c:Val Y33) (p:List (Val Y28)) (h:qf5 c p): ∃N,qCG N c p=some ((qaw c p).1,(qaw c p).2,()):=⟨30,by
 obtain ⟨h1,h2,h3,h4⟩:=h
 obtain ⟨g1,g2⟩:=qJN h2
 have hxl:((qq c 1).2:List (Val qa)).length≤16:=by
  show (List.map (qcx 1) (c.2:List (Val qa))).length≤16
  rw [List.length_map];exact (qla h1).2.1
 have hep:=qDT h1
 have hcd:(((qq c 1).1:Int))=(c.1:Int)+1:=rfl
 have hpl:p.length≤2:=by
  obtain ⟨d,xs⟩:=c
  change Int at d
  have h4:d≤2:=h4
  have g1:(p.length:Int)=d:=g1
  omega
 rw [qCG,qd hep]
 refine (q0q 30 (by omega) c.2 false 0 0 false false 0 0 false false (qq c 1).1 ⟨h3,h4⟩ g1 g2 _ p.length 0 (by omega) 30 (by omega) (qq c 1).2 (by omega)).trans ?_
 rw [List.drop_zero,qaw]
 cases qbA c.1 0 p (qq c 1).2 with
 | none=>rfl
 | some l=>rfl⟩
theorem zns:Sound Tryz.prog 126 qmX:=qx (tt:=tt) (Γ:=qeG) hT (qg qZs (qg qYJ (qg qQU qu))) hm (fn:=Tryz.f126) Tryz.func126 (c:=Tryz.f126.body.getD .skip) (by kernel_rfl) (by kernel_rfl) fun x hx=>by
 obtain ⟨N,h⟩:=zai x.1 x.2.1 hx
 exact ⟨qcg N,zmm,qy _,zlW N,(zo9 N x.1 x.2.1).trans h⟩
def qAQ (c:Val Y33) (p:List (Val Y28)):Prop:=qf5 c p
def qoK:G:={ps:=[i33,i52],rs:=[i33,i4],dp:=true,pre:=fun x=>qAQ x.1 x.2.1,fn:=fun x=>((qaa x.1 x.2.1).1,(qaa x.1 x.2.1).2,())}
noncomputable def qfg (N:Nat) (v19:List (Val Y28)) (v20:Int) (v22:Int) (v23:List (Val qa)) (v24:Int) (v25:Int) (k2:(List (Val qa))→Option (qc [i33,i4])):Nat→Int→(List (Val qa))→Option (qc [i33,i4])
 | 0,_,_=>none
 | n+1,v21,v26=>bif (decide ((-1:Int)≤v21))then (chk (0≤(IntKind.i64.wrap (v22+(1:Int)))∧(IntKind.i64.wrap (v22+(1:Int)))≤(IntKind.i64.wrap (v22+(1:Int)))∧(IntKind.i64.wrap (v22+(1:Int)))≤1048576) (chk (0≤v20∧v20<(v19.length:Int)) (chk (0≤v20∧v20<((List.replicate (IntKind.i64.wrap (v22+(1:Int))).toNat (qb (.int .i64))).length:Int)) (chk (v20.toNat<(List.replicate (IntKind.i64.wrap (v22+(1:Int))).toNat (qb (.int .i64))).length) (chk (0≤v20∧v20<(v19.length:Int)) (chk (0≤v22∧v22<(((List.replicate (IntKind.i64.wrap (v22+(1:Int))).toNat (qb (.int .i64))).set v20.toNat (IntKind.i64.wrap (v21*((v19.getD v20.toNat (qb Y28)).2:Int)))).length:Int)) (chk (v22.toNat<((List.replicate (IntKind.i64.wrap (v22+(1:Int))).toNat (qb (.int .i64))).set v20.toNat (IntKind.i64.wrap (v21*((v19.getD v20.toNat (qb Y28)).2:Int)))).length) (chk (0≤v20∧v20<(v19.length:Int)) (chk (qap (((List.replicate (IntKind.i64.wrap (v22+(1:Int))).toNat (qb (.int .i64))).set v20.toNat (IntKind.i64.wrap (v21*((v19.getD v20.toNat (qb Y28)).2:Int)))).set v22.toNat (IntKind.i64.wrap (0 - ((v19.getD v20.toNat (qb Y28)).2:Int)))) (IntKind.i64.wrap ((IntKind.i64.wrap (0 - v21))*((v19.getD v20.toNat (qb Y28)).1:Int))) false) (bif (!((qh (((List.replicate (IntKind.i64.wrap (v22+(1:Int))).toNat (qb (.int .i64))).set v20.toNat (IntKind.i64.wrap (v21*((v19.getD v20.toNat (qb Y28)).2:Int)))).set v22.toNat (IntKind.i64.wrap (0 - ((v19.getD v20.toNat (qb Y28)).2:Int)))) (IntKind.i64.wrap ((IntKind.i64.wrap (0 - v21))*((v19.getD v20.toNat (qb Y28)).1:Int))) false).2:Bool))then (some (((0:Int),([]:List (Val qa))),false,()))else (chk (v26.length+([((((qh (((List.replicate (IntKind.i64.wrap (v22+(1:Int))).toNat (qb (.int .i64))).set v20.toNat (IntKind.i64.wrap (v21*((v19.getD v20.toNat (qb Y28)).2:Int)))).set v22.toNat (IntKind.i64.wrap (0 - ((v19.getD v20.toNat (qb Y28)).2:Int)))) (IntKind.i64.wrap ((IntKind.i64.wrap (0 - v21))*((v19.getD v20.toNat (qb Y28)).1:Int))) false).1).1:List (Val (.int .i64))),((((qh (((List.replicate (IntKind.i64.wrap (v22+(1:Int))).toNat (qb (.int .i64))).set v20.toNat (IntKind.i64.wrap (v21*((v19.getD v20.toNat (qb Y28)).2:Int)))).set v22.toNat (IntKind.i64.wrap (0 - ((v19.getD v20.toNat (qb Y28)).2:Int)))) (IntKind.i64.wrap ((IntKind.i64.wrap (0 - v21))*((v19.getD v20.toNat (qb Y28)).1:Int))) false).1).2).1:Int),((((qh (((List.replicate (IntKind.i64.wrap (v22+(1:Int))).toNat (qb (.int .i64))).set v20.toNat (IntKind.i64.wrap (v21*((v19.getD v20.toNat (qb Y28)).2:Int)))).set v22.toNat (IntKind.i64.wrap (0 - ((v19.getD v20.toNat (qb Y28)).2:Int)))) (IntKind.i64.wrap ((IntKind.i64.wrap (0 - v21))*((v19.getD v20.toNat (qb Y28)).1:Int))) false).1).2).2:Bool))]:List (Val qa)).length≤1048576) (qfg N v19 v20 v22 v23 v24 v25 k2 n (IntKind.i64.wrap (v21 - (2:Int))) (v26++([((((qh (((List.replicate (IntKind.i64.wrap (v22+(1:Int))).toNat (qb (.int .i64))).set v20.toNat (IntKind.i64.wrap (v21*((v19.getD v20.toNat (qb Y28)).2:Int)))).set v22.toNat (IntKind.i64.wrap (0 - ((v19.getD v20.toNat (qb Y28)).2:Int)))) (IntKind.i64.wrap ((IntKind.i64.wrap (0 - v21))*((v19.getD v20.toNat (qb Y28)).1:Int))) false).1).1:List (Val (.int .i64))),((((qh (((List.replicate (IntKind.i64.wrap (v22+(1:Int))).toNat (qb (.int .i64))).set v20.toNat (IntKind.i64.wrap (v21*((v19.getD v20.toNat (qb Y28)).2:Int)))).set v22.toNat (IntKind.i64.wrap (0 - ((v19.getD v20.toNat (qb Y28)).2:Int)))) (IntKind.i64.wrap ((IntKind.i64.wrap (0 - v21))*((v19.getD v20.toNat (qb Y28)).1:Int))) false).1).2).1:Int),((((qh (((List.replicate (IntKind.i64.wrap (v22+(1:Int))).toNat (qb (.int .i64))).set v20.toNat (IntKind.i64.wrap (v21*((v19.getD v20.toNat (qb Y28)).2:Int)))).set v22.toNat (IntKind.i64.wrap (0 - ((v19.getD v20.toNat (qb Y28)).2:Int)))) (IntKind.i64.wrap ((IntKind.i64.wrap (0 - v21))*((v19.getD v20.toNat (qb Y28)).1:Int))) false).1).2).2:Bool))]:List (Val qa)))))))))))))))else (k2 v26)
noncomputable def qik (N:Nat) (v2:List (Val Y28)) (v4:Int) (v5:List (Val qa)) (v6:Int) (v7:Int) (k0:(List (Val qa))→Option (qc [i33,i4])):Nat→Int→(List (Val qa))→Option (qc [i33,i4])
 | 0,_,_=>none
 | n+1,v3,v8=>bif (decide (v3<v4))then (qfg N v2 v3 v4 v5 v6 v7 (fun (v28:List (Val qa))=>qik N v2 v4 v5 v6 v7 k0 n (IntKind.i64.wrap (v3+(1:Int))) v28) N (1:Int) v8)else (k0 v8)
noncomputable def qBq (N:Nat) (v0:Val Y33) (v1:List (Val Y28)):Option (qc [i33,i4]):=chk (qnc v0) (qik N v1 (v0.1:Int) (v0.2:List (Val qa)) (0:Int) ((qae v0).1:Int) (fun (v30:List (Val qa))=>some ((((qae v0).1:Int),v30),(decide ((v30.length:Int)≤(16:Int))),())) N (0:Int) ((qae v0).2:List (Val qa)))
def qfJ:Gam:=[(149,qbt),(195,qer)]
theorem qwh:Gam.get qfJ 149=some qbt:=rfl
theorem qqU:Gam.get qfJ 195=some qer:=rfl
def qpQ:Nm:=⟨[false,true,true,false,true,false,true,true,true],[],false⟩
theorem qwW:qpQ.zero=false:=rfl
theorem qsF:qpQ.fix=[]:=rfl
theorem qsS:qpQ.keep=[false,true,true,false,true,false,true,true,true]:=rfl
def qsR:Nm:=⟨[false,true,true,false,true,false,true,true],[],false⟩
theorem qw6:qsR.zero=false:=rfl
theorem qtf:qsR.fix=[]:=rfl
theorem qq1:qsR.keep=[false,true,true,false,true,false,true,true]:=rfl
def qy1:Nm:=⟨[false,false,false,false,true,false,true],[],false⟩
theorem qun:qy1.zero=false:=rfl
theorem qvq:qy1.fix=[]:=rfl
theorem qq4:qy1.keep=[false,false,false,false,true,false,true]:=rfl
def qAc:Nm:=⟨[false,true,true,false,true,false,true,true],[],false⟩
theorem qsf:qAc.zero=false:=rfl
theorem qrf:qAc.fix=[]:=rfl
theorem qp6:qAc.keep=[false,true,true,false,true,false,true,true]:=rfl
def qDz:Nm:=⟨[false,false,false,false,true,true],[],false⟩
theorem qup:qDz.zero=false:=rfl
theorem qwY:qDz.fix=[]:=rfl
theorem qtC:qDz.keep=[false,false,false,false,true,true]:=rfl
def qiL:Nat→Tree:=fun i=>if i=10 then .quiet 0 (.quiet 1 (.quiet 2 (.quiet 3 (.quiet 4 (.quiet 5 (.quiet 6 (.quiet 7 (.quiet 8 (.quiet 9 (.alt 10 .done .stop))))))))))else if i=15 then .quiet 0 (.alt 1 (.alt 2 (.alt 3 (.first 4 (.alt 5 (.quiet 6 .done) .stop)) (.alt 5 (.quiet 3 (.quiet 4 (.quiet 6 .done))) .stop)) (.alt 5 (.quiet 2 (.quiet 3 (.quiet 4 (.quiet 6 .done)))) .stop)) (.alt 5 (.quiet 1 (.quiet 2 (.quiet 3 (.quiet 4 (.quiet 6 .done))))) .stop))else .done
def qk9:Nat→Nm:=fun i=>if i=6 then qpQ else if i=3 then qsR else ⟨[],[],false⟩
def qk1:Nat→Option Jn:=fun _=>none
def qkc:Nat→Option Nm:=fun i=>if i=0 then some qy1 else if i=2 then some qAc else none
def qlQ:Nat→Option Nm:=fun i=>if i=15 then some qDz else none
theorem q6H:qn qiL (Tryz.f120.body.getD .skip)=true:=by kernel_rfl
def qcl (N:Nat):Tab:={tr:=qiL,lp:=qk9,ex:=qkc,rg:=qlQ,jn:=qk1,fuel:=N}
theorem qpA (N:Nat):(qcl N).pins=false:=rfl
theorem q6l (N:Nat):qp Tryz.prog (qcl N):=qv fun _=>rfl
theorem qsl (N:Nat) (i:Nat):(qcl N).tr i=qiL i:=rfl
theorem quU (N:Nat) (i:Nat):(qcl N).lp i=qk9 i:=rfl
theorem qri (N:Nat) (i:Nat):(qcl N).ex i=qkc i:=rfl
theorem qw4 (N:Nat) (i:Nat):(qcl N).rg i=qlQ i:=rfl
theorem qwP (N:Nat) (i:Nat):(qcl N).jn i=qk1 i:=rfl
theorem qqx (N:Nat):(qcl N).fuel=N:=rfl
noncomputable def qYp:Code:=cut [true,true,false,true,true,true,true,false,true,true,true,true] (Tryz.f120.body.getD .skip)
theorem zbb {N:Nat} {Q:X→St→Option (qc [i33,i4])} {e:List LV} {h:List Blk}:qe tt qfJ (qcl N) qYp Q ⟨e,h⟩=qe tt qfJ (qcl N) (cut [true,true,false,true,true,true,true,false,true,true,true,true] (Tryz.f120.body.getD .skip)) Q ⟨e,h⟩:=rfl
theorem q5n (N:Nat) (v19:List (Val Y28)) (v20:Int) (v22:Int) (v23:List (Val qa)) (v24:Int) (v25:Int) {k2:(List (Val qa))→Option (qc [i33,i4])} {Q:X→St→Option (qc [i33,i4])} {c:Code} (hc:c=qYp) (hret: ∀st,Q .ret st=qI tt true [i33,i4] [.cell 4 33,.tmp 5] st) (h2: ∀(v27:List (Val qa)),Q (.exit 2) ⟨[u,.one (.sl 28 Y28 v19 4),.one (.ptr 0 0 0),u,.one (.ptr 1 0 0),u,.one (.ptr 2 0 0),.one (.int .i64 v20),u,u,u,u,u,u,u,u,u,u,u,u,u,u,u,u,u,u,u,u,u,u,u,u,u,u,u,u,u,u,u,u,u,u,u,u,u,u,u,u,u,u,u,u,u,u,u,u,u,u,u,u,u,u,u,u,u,u,u,u,u,u,u,u,u,u,u],[.box [.int .i64 v22,.sl 108 qa v23 4],.box [.int .i64 v24,.nils],.box [.int .i64 v25,.own 3],.row 108 qa v27 true true 0]⟩=k2 v27): ∀(n:Nat) (v21:Int) (v26:List (Val qa)),qE (qe tt qfJ (qcl N) c) false qpQ Q n ⟨[u,.one (.sl 28 Y28 v19 4),.one (.ptr 0 0 0),u,.one (.ptr 1 0 0),u,.one (.ptr 2 0 0),.one (.int .i64 v20),.one (.int .i64 v21),u,u,u,u,u,u,u,u,u,u,u,u,u,u,u,u,u,u,u,u,u,u,u,u,u,u,u,u,u,u,u,u,u,u,u,u,u,u,u,u,u,u,u,u,u,u,u,u,u,u,u,u,u,u,u,u,u,u,u,u,u,u,u,u,u,u],[.box [.int .i64 v22,.sl 108 qa v23 4],.box [.int .i64 v24,.nils],.box [.int .i64 v25,.own 3],.row 108 qa v26 true true 0]⟩=qfg N v19 v20 v22 v23 v24 v25 k2 n v21 v26:=by
 subst hc;intro n;induction n with
 | zero=>intros;rfl
 | succ n ih=>
   intro v21 v26
   rw [qN,zbb,qfg];unfold Tryz.f120
   simp (maxSteps:=10000000) -implicitDefEqProofs [qsl,qiL,quU,qk9,qri,qkc,qw4,qlQ,qwP,qk1,qqx,qpA,qsF,qsS,qwW,qtf,qq1,qw6,qvq,qq4,qun,qrf,qp6,qsf,qwY,qtC,qup,qwh,qqU,qbt,qer,hret,h2,ih]
noncomputable def q3D:Code:=cut [true,true,false,true,true,true] (Tryz.f120.body.getD .skip)
theorem zdU {N:Nat} {Q:X→St→Option (qc [i33,i4])} {e:List LV} {h:List Blk}:qe tt qfJ (qcl N) q3D Q ⟨e,h⟩=qe tt qfJ (qcl N) (cut [true,true,false,true,true,true] (Tryz.f120.body.getD .skip)) Q ⟨e,h⟩:=rfl
theorem q9j (N:Nat) (v2:List (Val Y28)) (v4:Int) (v5:List (Val qa)) (v6:Int) (v7:Int) {k0:(List (Val qa))→Option (qc [i33,i4])} {Q:X→St→Option (qc [i33,i4])} {c:Code} (hc:c=q3D) (hret: ∀st,Q .ret st=qI tt true [i33,i4] [.cell 4 33,.tmp 5] st) (h0: ∀(v29:List (Val qa)),Q (.exit 0) ⟨[u,u,u,u,.one (.ptr 0 0 0),u,.one (.ptr 1 0 0),u,u,u,u,u,u,u,u,u,u,u,u,u,u,u,u,u,u,u,u,u,u,u,u,u,u,u,u,u,u,u,u,u,u,u,u,u,u,u,u,u,u,u,u,u,u,u,u,u,u,u,u,u,u,u,u,u,u,u,u,u,u,u,u,u,u,u,u],[.box [.int .i64 v6,.nils],.box [.int .i64 v7,.own 2],.row 108 qa v29 true true 0]⟩=k0 v29): ∀(n:Nat) (v3:Int) (v8:List (Val qa)),qE (qe tt qfJ (qcl N) c) false qsR Q n ⟨[u,.one (.sl 28 Y28 v2 4),.one (.ptr 0 0 0),u,.one (.ptr 1 0 0),u,.one (.ptr 2 0 0),.one (.int .i64 v3),u,u,u,u,u,u,u,u,u,u,u,u,u,u,u,u,u,u,u,u,u,u,u,u,u,u,u,u,u,u,u,u,u,u,u,u,u,u,u,u,u,u,u,u,u,u,u,u,u,u,u,u,u,u,u,u,u,u,u,u,u,u,u,u,u,u,u],[.box [.int .i64 v4,.sl 108 qa v5 4],.box [.int .i64 v6,.nils],.box [.int .i64 v7,.own 3],.row 108 qa v8 true true 0]⟩=qik N v2 v4 v5 v6 v7 k0 n v3 v8:=by
 subst hc;intro n;induction n with
 | zero=>intros;rfl
 | succ n ih=>
   intro v3 v8
   rw [qN,zdU];unfold Tryz.f120
   simp (maxSteps:=10000000) -implicitDefEqProofs [qsl,qiL,quU,qk9,qri,qkc,qw4,qlQ,qwP,qk1,qqx,qpA,qsF,qsS,qwW,qtf,qq1,qw6,qvq,qq4,qun,qrf,qp6,qsf,qwY,qtC,qup,qwh,qqU,qbt,qer,hret,h0,ih]
   rewrite [q5n (k2:=(fun (v28:List (Val qa))=>qik N v2 v4 v5 v6 v7 k0 n (IntKind.i64.wrap (v3+(1:Int))) v28)) N _ _ _ _ _ _ ?_ ?_ ?_]
   ·rewrite [qik];first | rfl | simp (maxSteps:=10000000) -implicitDefEqProofs [ih]
   ·rfl
   ·intro;simp only [qJ,qL,qK,qB,hret]
   ·intro v28;simp (maxSteps:=10000000) -implicitDefEqProofs [qsl,qiL,quU,qk9,qri,qkc,qw4,qlQ,qwP,qk1,qqx,qpA,qsF,qsS,qwW,qtf,qq1,qw6,qvq,qq4,qun,qrf,qp6,qsf,qwY,qtC,qup,qwh,qqU,qbt,qer,hret,h0,ih]
theorem zk2 (N:Nat) (v0:Val Y33) (v1:List (Val Y28)):qe tt qfJ (qcl N) (Tryz.f120.body.getD .skip) (qt tt true [i33,i4] [.cell 4 33,.tmp 5]) (qw [i33,i52] 75 (v0,v1,()))=qBq N v0 v1:=by
 unfold Tryz.f120
 simp (maxSteps:=10000000) -implicitDefEqProofs [qsl,qiL,quU,qk9,qri,qkc,qw4,qlQ,qwP,qk1,qqx,qpA,qsF,qsS,qwW,qtf,qq1,qw6,qvq,qq4,qun,qrf,qp6,qsf,qwY,qtC,qup,qwh,qqU,qbt,qer]
 rewrite [q9j (k0:=(fun (v30:List (Val qa))=>some ((((qae v0).1:Int),v30),(decide ((v30.length:Int)≤(16:Int))),()))) N _ _ _ _ _ ?_ ?_ ?_]
 ·rewrite [qBq];first | rfl | simp (maxSteps:=10000000) -implicitDefEqProofs []
 ·rfl
 ·intro;simp only [qJ,qL,qK,qB]
 ·intro v30;simp (maxSteps:=10000000) -implicitDefEqProofs [qsl,qiL,quU,qk9,qri,qkc,qw4,qlQ,qwP,qk1,qqx,qpA,qsF,qsS,qwW,qtf,qq1,qw6,qvq,qq4,qun,qrf,qp6,qsf,qwY,qtC,qup,qwh,qqU,qbt,qer]
abbrev qDd:Option (qc [i33,i4]):=some (((0:Int),([]:List (Val qa))),false,())
theorem q1W (N:Nat) {d s:Int} {p:List (Val Y28)} {i:Nat} (v23:List (Val qa)) (v24 v25:Int) (hd:1≤d∧d≤2) (hi:i<p.length) (hid:(i:Int)<d) (hs:s=1∨s= -1) (hq:qi p[i]=true) (K:List (Val qa)→Option (qc [i33,i4])) (m:Nat) (l:List (Val qa)) (hl:l.length≤1000):
 qfg N p i d v23 v24 v25 K (m+1) s l=bif (qaR d i s p[i]).2 then qfg N p i d v23 v24 v25 K m (s - 2) (l++[(qaR d i s p[i]).1])else qDd:=by
 obtain ⟨e1,e2,e3,e4,hp⟩:=q3A (i:=i) hd ⟨by omega,hid⟩ hs (qxP hq).1 (qxP hq).2
 have r1:(List.replicate (d+1).toNat (qb (.int .i64))).length=(d+1).toNat:=List.length_replicate
 have e5:IntKind.i64.wrap (s - 2)=s - 2:=by rcases hs with rfl | rfl<;>exact qaq (by omega) (by omega)
 rw [qfg,qk (by omega),qF hi,e1,e2,e3,e4,e5,qd (by omega),qd (by omega),qd (by rw [r1];omega),qd (by rw [r1];omega),qd (by omega),qd (by rw [List.length_set,r1];omega),qd (by rw [List.length_set,r1];omega),qd (by omega)]
 rw [qd (show qap (((List.replicate (d+1).toNat (qb (.int .i64))).set (i:Int).toNat (s*p[i].2)).set d.toNat (-p[i].2)) (-s*(p[i].1:Int)) false from hp)]
 show (bif !(qaR d i s p[i]).2 then qDd else chk (l.length+[(qaR d i s p[i]).1].length≤1048576) (qfg N p i d v23 v24 v25 K m (s - 2) (l++[(qaR d i s p[i]).1])))=_
 cases (qaR d i s p[i]).2 with
 | false=>rfl
 | true=>
   simp only [Bool.not_true,cond_false,cond_true]
   rw [qd (by simp only [List.length_singleton];omega)]
theorem zp0 (N:Nat) {d:Int} {p:List (Val Y28)} {i:Nat} (v23:List (Val qa)) (v24 v25:Int) (hd:1≤d∧d≤2) (hi:i<p.length) (hid:(i:Int)<d) (hq:qi p[i]=true) (K:List (Val qa)→Option (qc [i33,i4])) (m:Nat) (hm:3≤m) (l:List (Val qa)) (hl:l.length≤100):
 qfg N p i d v23 v24 v25 K m 1 l=match qc9 d i p[i] l with
  | some l'=>K l'
  | none=>qDd:=by
 obtain ⟨m,rfl⟩: ∃k,m=k+1+1+1:=⟨m - 3,by omega⟩
 refine (q1W N v23 v24 v25 hd hi hid (.inl rfl) hq K (m+1+1) l (by omega)).trans ?_
 unfold qc9
 cases (qaR d i 1 p[i]).2 with
 | false=>rfl
 | true=>
   simp only [cond_true]
   refine (q1W N (s:= -1) v23 v24 v25 hd hi hid (.inr rfl) hq K (m+1) _ (by simp;omega)).trans ?_
   cases (qaR d i (-1) p[i]).2 with
   | false=>rfl
   | true=>
     simp only [cond_true]
     rw [qfg,qj (by omega)]
theorem q3Q (N:Nat) (hN:3≤N) {d:Int} {p:List (Val Y28)} (v5:List (Val qa)) (v6 v7:Int) (hd:1≤d∧d≤2) (hpl:(p.length:Int)=d) (hp: ∀q∈p,qi q=true) (K:List (Val qa)→Option (qc [i33,i4])):
 ∀(k i:Nat),i+k=p.length→ ∀m,k<m→ ∀l:List (Val qa),l.length≤16+2*i→
 qik N p d v5 v6 v7 K m (i:Int) l=match qbA d i (p.drop i) l with
  | some l'=>K l'
  | none=>qDd
 | 0,i,hi,m+1,_,l,_=>by
   rw [qik,qj (by omega),List.drop_eq_nil_of_le (by omega)]
   rfl
 | k+1,i,hi,m+1,hm,l,hl=>by
   have h:i<p.length:=by omega
   rw [qik,qk (by omega)]
   refine (zp0 N (d:=d) v5 v6 v7 hd h (by omega) (hp _ (List.getElem_mem h)) _ N hN l (by omega)).trans ?_
   rw [List.drop_eq_getElem_cons h,qbA]
   cases hq:qc9 d i p[i] l with
   | none=>rfl
   | some l'=>
     have hlen:=q1Z hq
     simp only
     rw [qa2 h (by omega)]
     exact q3Q N hN v5 v6 v7 hd hpl hp K k (i+1) (by omega) m (by omega) l' (by omega)
theorem zln (c:Val Y33) (p:List (Val Y28)) (h:qAQ c p): ∃N,qBq N c p=some ((qaa c p).1,(qaa c p).2,()):=⟨30,by
 obtain ⟨h1,h2,h3,h4⟩:=h
 obtain ⟨g1,g2⟩:=qJN h2
 have hxl:((qae c).2:List (Val qa)).length≤16:=by
  show (List.map (qcx 1) (c.2:List (Val qa))).length≤16
  rw [List.length_map];exact (qla h1).2.1
 have hep:qnc c:=qDT h1
 have hpl:p.length≤2:=by
  obtain ⟨d,xs⟩:=c
  change Int at d
  have h4:d≤2:=h4
  have g1:(p.length:Int)=d:=g1
  omega
 rw [qBq,qd hep]
 refine (q3Q 30 (by omega) c.2 0 (qae c).1 ⟨h3,h4⟩ g1 g2 _ p.length 0 (by omega) 30 (by omega) (qae c).2 (by omega)).trans ?_
 rw [List.drop_zero,qaa]
 show _=some ((match qbA c.1 0 p (qae c).2 with | some l=>(((((c.1:Int)+1:Int),l):Val Y33),decide ((l.length:Int)≤16)) | none=>(((0:Int),[]),false)).1,(match qbA c.1 0 p (qae c).2 with | some l=>(((((c.1:Int)+1:Int),l):Val Y33),decide ((l.length:Int)≤16)) | none=>(((0:Int),[]),false)).2,())
 cases qbA c.1 0 p (qae c).2 with
 | none=>rfl
 | some l=>rfl⟩
theorem zqd:Sound Tryz.prog 120 qoK:=qx (tt:=tt) (Γ:=qfJ) hT (qg qzu (qg q3j qu)) hm (fn:=Tryz.f120) Tryz.func120 (c:=Tryz.f120.body.getD .skip) (by kernel_rfl) (by kernel_rfl) fun x hx=>by
 obtain ⟨N,h⟩:=zln x.1 x.2.1 hx
 exact ⟨qcl N,q6H,qy _,q6l N,(zk2 N x.1 x.2.1).trans h⟩
end Go.T
