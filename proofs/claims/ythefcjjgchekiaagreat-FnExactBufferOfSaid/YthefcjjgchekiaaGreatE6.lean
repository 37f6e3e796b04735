/- Regions: cells that are added. Run. -/
import Derived.Test.YthefcjjgchekiaaGreatE5
import Derived.Test.YthefcjjgchekiaaGreatB10n
import Derived.Test.YthefcjjgchekiaaGreatT11
set_option linter.unusedSimpArgs false
set_option linter.unusedVariables false
namespace Go.T
open Go Go.Proofs
set_option maxHeartbeats 4000000
set_option maxRecDepth 100000
abbrev qvy:Val Y50×Bool:=(((0:Int),[]),false)
def qcc (r:Val Y50):Bool:=decide (0≤(r.1:Int)∧(r.1:Int)≤4)&&decide ((List.length (α:=Val Y33) r.2:Int)≤12)&&List.all (α:=Val Y33) r.2 fun c=>qD c&&decide ((c.1:Int)=(r.1:Int))
def qm2 (r:Val Y50):Prop:=List.length (α:=Val Y33) r.2≤1048576∧ ∀c∈(r.2:List (Val Y33)),qcg c
noncomputable def qh5 (N:Nat) (v2:Int) (v3:List (Val Y33)) (k0:Unit→Option (qb [i4])):Nat→Int→Option (qb [i4])
 | 0,_=>none
 | n+1,v1=>bif (decide (v1<(v3.length:Int)))then (chk (0≤v1∧v1<(v3.length:Int)) (chk (qcg (v3.getD v1.toNat (qc Y33))) (bif (!((qD (v3.getD v1.toNat (qc Y33))):Bool))then (some (false,()))else (chk (0≤v1∧v1<(v3.length:Int)) (bif (!(decide (((v3.getD v1.toNat (qc Y33)).1:Int)=v2)))then (some (false,()))else (qh5 N v2 v3 k0 n (IntKind.i64.wrap (v1+(1:Int)))))))))else (k0 ())
noncomputable def qxX (N:Nat) (v0:Val Y50):Option (qb [i4]):=qh5 N (v0.1:Int) (v0.2:List (Val Y33)) (fun (_:Unit)=>bif ((inR (v0.1:Int) (0:Int) (4:Int)):Bool)then (some ((decide (((v0.2:List (Val Y33)).length:Int)≤(12:Int))),()))else (some (false,()))) N (0:Int)
def qlo:Gam:=[(104,qcv),(118,q5)]
theorem qLf:Gam.get qlo 104=some qcv:=rfl
theorem qDJ:Gam.get qlo 118=some q5:=rfl
def qra:Nm:=⟨[false,true,false,true],[],false⟩
theorem qDs:qra.zero=false:=rfl
theorem qGN:qra.fix=[]:=rfl
theorem qOQ:qra.keep=[false,true,false,true]:=rfl
def qwc:Nm:=⟨[false,true],[],false⟩
theorem qFi:qwc.zero=false:=rfl
theorem qCz:qwc.fix=[]:=rfl
theorem qKP:qwc.keep=[false,true]:=rfl
def qmY:Nat→Tree:=fun i=>if i=4 then .quiet 0 (.quiet 1 (.quiet 2 (.quiet 3 (.quiet 4 (.alt 5 (.quiet 6 (.quiet 7 (.quiet 8 (.quiet 9 (.quiet 10 (.quiet 11 (.quiet 12 (.quiet 13 (.quiet 14 (.quiet 15 (.quiet 16 (.quiet 17 .done)))))))))))) .stop)))))else .done
def qto:Nat→Nm:=fun i=>if i=2 then qra else ⟨[],[],false⟩
def qrk:Nat→Option Jn:=fun _=>none
def qpV:Nat→Option Nm:=fun i=>if i=0 then some qwc else none
def qrC:Nat→Option Nm:=fun _=>none
theorem qX0:qj qmY (Tryz.f117.body.getD .skip)=true:=by kernel_rfl
def qdA (N:Nat):Tab:={tr:=qmY,lp:=qto,ex:=qpV,rg:=qrC,jn:=qrk,fuel:=N}
theorem qLB (N:Nat):(qdA N).pins=false:=rfl
theorem q1z (N:Nat):qn Tryz.prog (qdA N):=qr fun _=>rfl
theorem qFr (N:Nat) (i:Nat):(qdA N).tr i=qmY i:=rfl
theorem qNR (N:Nat) (i:Nat):(qdA N).lp i=qto i:=rfl
theorem qLR (N:Nat) (i:Nat):(qdA N).ex i=qpV i:=rfl
theorem qFX (N:Nat) (i:Nat):(qdA N).rg i=qrC i:=rfl
theorem qOC (N:Nat) (i:Nat):(qdA N).jn i=qrk i:=rfl
theorem qOr (N:Nat):(qdA N).fuel=N:=rfl
noncomputable def qR7:Code:=cut [true,false,true,true,true] (Tryz.f117.body.getD .skip)
theorem q7K {N:Nat} {Q:X→St→Option (qb [i4])} {e:List LV} {h:List Blk}:qd tt qlo (qdA N) qR7 Q ⟨e,h⟩=qd tt qlo (qdA N) (cut [true,false,true,true,true] (Tryz.f117.body.getD .skip)) Q ⟨e,h⟩:=rfl
theorem zbO (N:Nat) (v2:Int) (v3:List (Val Y33)) {k0:Unit→Option (qb [i4])} {Q:X→St→Option (qb [i4])} {c:Code} (hc:c=qR7) (hret: ∀st,Q .ret st=qB tt true [i4] [.tmp 2] st) (h0:Q (.exit 0) ⟨[u,.one (.ptr 0 0 0),u,u,u,u,u,u,u,u,u,u,u,u,u,u,u,u,u,u,u,u,u,u,u,u,u,u,u,u,u,u,u,u,u,u,u,u],[.box [.int .i64 v2,.sl 33 Y33 v3 1]]⟩=k0 ()): ∀(n:Nat) (v1:Int),qC (qd tt qlo (qdA N) c) false qra Q n ⟨[u,.one (.ptr 0 0 0),u,.one (.int .i64 v1),u,u,u,u,u,u,u,u,u,u,u,u,u,u,u,u,u,u,u,u,u,u,u,u,u,u,u,u,u,u,u,u,u,u],[.box [.int .i64 v2,.sl 33 Y33 v3 1]]⟩=qh5 N v2 v3 k0 n v1:=by
 subst hc;intro n;induction n with
 | zero=>intros;rfl
 | succ n ih=>
   intro v1
   rw [qL,q7K,qh5];unfold Tryz.f117
   simp (maxSteps:=10000000) -implicitDefEqProofs [qFr,qmY,qNR,qto,qLR,qpV,qFX,qrC,qOC,qrk,qOr,qLB,qGN,qOQ,qDs,qCz,qKP,qFi,qLf,qDJ,qcv,q5,hret,h0,ih]
theorem q7q (N:Nat) (v0:Val Y50):qd tt qlo (qdA N) (Tryz.f117.body.getD .skip) (qo tt true [i4] [.tmp 2]) (qt [i50] 38 (v0,()))=qxX N v0:=by
 unfold Tryz.f117
 simp (maxSteps:=10000000) -implicitDefEqProofs [qFr,qmY,qNR,qto,qLR,qpV,qFX,qrC,qOC,qrk,qOr,qLB,qGN,qOQ,qDs,qCz,qKP,qFi,qLf,qDJ,qcv,q5]
 rewrite [zbO (k0:=(fun (_:Unit)=>bif ((inR (v0.1:Int) (0:Int) (4:Int)):Bool)then (some ((decide (((v0.2:List (Val Y33)).length:Int)≤(12:Int))),()))else (some (false,())))) N _ _ ?_ ?_ ?_]
 ·rewrite [qxX];first | rfl | simp (maxSteps:=10000000) -implicitDefEqProofs []
 ·rfl
 ·intro;simp only [qK,qI,qJ,qy]
 ·simp (maxSteps:=10000000) -implicitDefEqProofs [qFr,qmY,qNR,qto,qLR,qpV,qFX,qrC,qOC,qrk,qOr,qLB,qGN,qOQ,qDs,qCz,qKP,qFi,qLf,qDJ,qcv,q5]
noncomputable def qie (N:Nat) (v1:List (Val Y33)) (v2:Int) (v4:Int) (v5:List (Val Y33)) (k0:Unit→Option (qb [i4])):Nat→Int→Option (qb [i4])
 | 0,_=>none
 | n+1,v3=>bif (decide (v3<v2))then (chk (0≤v3∧v3<(v1.length:Int)) (bif (!((qD (v1.getD v3.toNat (qc Y33))):Bool))then (some (false,()))else (bif (!(decide (((v1.getD v3.toNat (qc Y33)).1:Int)=v4)))then (some (false,()))else (qie N v1 v2 v4 v5 k0 n (IntKind.i64.wrap (v3+(1:Int)))))))else (k0 ())
noncomputable def qzn (N:Nat) (v0:Val Y50):Option (qb [i4]):=bif (decide ((v0.1:Int)<(0:Int)))then (some (false,()))else (bif (decide ((4:Int)<(v0.1:Int)))then (some (false,()))else (bif (decide ((12:Int)<((v0.2:List (Val Y33)).length:Int)))then (some (false,()))else (qie N (v0.2:List (Val Y33)) ((v0.2:List (Val Y33)).length:Int) (v0.1:Int) (v0.2:List (Val Y33)) (fun (_:Unit)=>some (true,())) N (0:Int))))
def ql4:Gam:=[(199,qaz)]
theorem qLg:Gam.get ql4 199=some qaz:=rfl
def qud:Nm:=⟨[false,true,false,false,false,false,false,false,false,false,false,false,false,false,false,false,false,false,false,false,true,true,true],[],false⟩
theorem qF3:qud.zero=false:=rfl
theorem qPv:qud.fix=[]:=rfl
theorem qHV:qud.keep=[false,true,false,false,false,false,false,false,false,false,false,false,false,false,false,false,false,false,false,false,true,true,true]:=rfl
def qy4:Nm:=⟨[],[],false⟩
theorem qHH:qy4.zero=false:=rfl
theorem qPl:qy4.fix=[]:=rfl
theorem qO5:qy4.keep=[]:=rfl
def qnZ:Nat→Tree:=fun _=> .done
def qt7:Nat→Nm:=fun i=>if i=4 then qud else ⟨[],[],false⟩
def qqk:Nat→Option Jn:=fun _=>none
def qtG:Nat→Option Nm:=fun i=>if i=0 then some qy4 else none
def qs3:Nat→Option Nm:=fun _=>none
theorem q9h:qj qnZ (Tryz.f124.body.getD .skip)=true:=by kernel_rfl
def qcG (N:Nat):Tab:={tr:=qnZ,lp:=qt7,ex:=qtG,rg:=qs3,jn:=qqk,fuel:=N}
theorem qKq (N:Nat):(qcG N).pins=false:=rfl
theorem q3T (N:Nat):qn Tryz.prog (qcG N):=qr fun _=>rfl
theorem qNq (N:Nat) (i:Nat):(qcG N).tr i=qnZ i:=rfl
theorem qJE (N:Nat) (i:Nat):(qcG N).lp i=qt7 i:=rfl
theorem qKK (N:Nat) (i:Nat):(qcG N).ex i=qtG i:=rfl
theorem qPu (N:Nat) (i:Nat):(qcG N).rg i=qs3 i:=rfl
theorem qPV (N:Nat) (i:Nat):(qcG N).jn i=qqk i:=rfl
theorem qKW (N:Nat):(qcG N).fuel=N:=rfl
noncomputable def qUL:Code:=cut [true,true,false,true,true,true] (Tryz.f124.body.getD .skip)
theorem zc9 {N:Nat} {Q:X→St→Option (qb [i4])} {e:List LV} {h:List Blk}:qd tt ql4 (qcG N) qUL Q ⟨e,h⟩=qd tt ql4 (qcG N) (cut [true,true,false,true,true,true] (Tryz.f124.body.getD .skip)) Q ⟨e,h⟩:=rfl
theorem q0p (N:Nat) (v1:List (Val Y33)) (v2:Int) (v4:Int) (v5:List (Val Y33)) {k0:Unit→Option (qb [i4])} {Q:X→St→Option (qb [i4])} {c:Code} (hc:c=qUL) (hret: ∀st,Q .ret st=qB tt true [i4] [.tmp 2] st) (h0:Q (.exit 0) ⟨[u,u,u,u,u,u,u,u,u,u,u,u,u,u,u,u,u,u,u,u,u,u,u,u,u,u,u,u,u,u,u,u,u,u,u,u,u],[]⟩=k0 ()): ∀(n:Nat) (v3:Int),qC (qd tt ql4 (qcG N) c) false qud Q n ⟨[u,.one (.ptr 0 0 0),u,u,u,u,u,u,u,u,u,u,u,u,u,u,u,u,u,u,.one (.sl 33 Y33 v1 1),.one (.int .i64 v2),.one (.int .i64 v3),u,u,u,u,u,u,u,u,u,u,u,u,u,u],[.box [.int .i64 v4,.sl 33 Y33 v5 1]]⟩=qie N v1 v2 v4 v5 k0 n v3:=by
 subst hc;intro n;induction n with
 | zero=>intros;rfl
 | succ n ih=>
   intro v3
   rw [qL,zc9,qie];unfold Tryz.f124
   simp (maxSteps:=10000000) -implicitDefEqProofs [qNq,qnZ,qJE,qt7,qKK,qtG,qPu,qs3,qPV,qqk,qKW,qKq,qPv,qHV,qF3,qPl,qO5,qHH,qLg,qaz,hret,h0,ih]
theorem q2i (N:Nat) (v0:Val Y50):qd tt ql4 (qcG N) (Tryz.f124.body.getD .skip) (qo tt true [i4] [.tmp 2]) (qt [i50] 37 (v0,()))=qzn N v0:=by
 unfold Tryz.f124
 simp (maxSteps:=10000000) -implicitDefEqProofs [qNq,qnZ,qJE,qt7,qKK,qtG,qPu,qs3,qPV,qqk,qKW,qKq,qPv,qHV,qF3,qPl,qO5,qHH,qLg,qaz]
 rewrite [q0p (k0:=(fun (_:Unit)=>some (true,()))) N _ _ _ _ ?_ ?_ ?_]
 ·rewrite [qzn];first | rfl | simp (maxSteps:=10000000) -implicitDefEqProofs []
 ·rfl
 ·intro;simp only [qK,qI,qJ,qy]
 ·simp (maxSteps:=10000000) -implicitDefEqProofs [qNq,qnZ,qJE,qt7,qKK,qtG,qPu,qs3,qPV,qqk,qKW,qKq,qPv,qHV,qF3,qPl,qO5,qHH,qLg,qaz]
def qbQ:G:={ps:=[i50],rs:=[i4],dp:=true,pre:=fun x=>qm2 x.1,fn:=fun x=>(qcc x.1,())}
def qBh:G:={ps:=[i50],rs:=[i4],dp:=true,pre:=fun _=>True,fn:=fun x=>(qcc x.1,())}
def qbb (r:Val Y50) (c:Val Y33):Val Y50×Bool:=bif (qam c).2 then (bif qb1 (qam c).1 then (r,true)else (bif decide (12≤(List.length (α:=Val Y33) r.2:Int))then (r,false)else ((r.1,(r.2:List (Val Y33))++[(qam c).1]),true)))else (r,false)
def qrV (r:Val Y50) (c:Val Y33):Val Y50:=(qbb r c).1
def qvj (r:Val Y50) (c:Val Y33):Bool:=(qbb r c).2
def qAM (r:Val Y50) (_:Val Y33):Prop:=List.length (α:=Val Y33) r.2≤12
def qpo:Gb:={t:=i50,ps:=[i33],rs:=[i4],pre:=fun v x=>qAM v x.1,fv:=fun v x=>qrV v x.1,fn:=fun v x=>(qvj v x.1,())}
noncomputable def qxE (N:Nat) (v0:Val Y50) (v1:Val Y33):Option (Val Y50×qb [i4]):=bif (!((qam v1).2:Bool))then (some (v0,(false,())))else (chk (qBr ((((qam v1).1).1:Int),(((qam v1).1).2:List (Val qa)))) (bif ((qb1 ((((qam v1).1).1:Int),(((qam v1).1).2:List (Val qa)))):Bool)then (some (v0,(true,())))else (bif (decide ((12:Int)≤((v0.2:List (Val Y33)).length:Int)))then (some (v0,(false,())))else (chk ((v0.2:List (Val Y33)).length+([((((qam v1).1).1:Int),(((qam v1).1).2:List (Val qa)))]:List (Val Y33)).length≤1048576) (some (((v0.1:Int),((v0.2:List (Val Y33))++([((((qam v1).1).1:Int),(((qam v1).1).2:List (Val qa)))]:List (Val Y33)))),(true,())))))))
def qzk:Gam:=[(138,qw7),(240,qzg)]
theorem q1a:Gam.get qzk 138=some qw7:=rfl
theorem q5I:Gam.get qzk 240=some qzg:=rfl
def qzp:Nm:=⟨[],[],false⟩
theorem q7Z:qzp.zero=false:=rfl
theorem zb8:qzp.fix=[]:=rfl
theorem q06:qzp.keep=[]:=rfl
def qw1:Nat→Tree:=fun i=>if i=8 then .quiet 5 (.first 0 (.first 1 (.alt 2 (.alt 3 (.alt 4 (.alt 6 (.alt 7 (.quiet 8 (.quiet 9 (.alt 10 .done .stop))) .stop) .stop) (.alt 6 (.quiet 4 (.alt 7 (.quiet 8 (.quiet 9 (.alt 10 .done .stop))) .stop)) .stop)) (.alt 6 (.quiet 3 (.quiet 4 (.alt 7 (.quiet 8 (.quiet 9 (.alt 10 .done .stop))) .stop))) .stop)) (.alt 6 (.quiet 2 (.quiet 3 (.quiet 4 (.alt 7 (.quiet 8 (.quiet 9 (.alt 10 .done .stop))) .stop)))) .stop))))else .done
def qK4:Nat→Nm:=fun _=>⟨[],[],false⟩
def qMu:Nat→Option Jn:=fun _=>none
def qLU:Nat→Option Nm:=fun _=>none
def qOL:Nat→Option Nm:=fun i=>if i=8 then some qzp else none
theorem qZ1:qj qw1 (Tryz.f222.body.getD .skip)=true:=by kernel_rfl
def qf1 (N:Nat):Tab:={tr:=qw1,lp:=qK4,ex:=qLU,rg:=qOL,jn:=qMu,fuel:=N,pins:=true}
theorem q1I (N:Nat):(qf1 N).pins=true:=rfl
theorem q9M (N:Nat):qn Tryz.prog (qf1 N):=qr fun _=>rfl
theorem qUX (N:Nat) (i:Nat):(qf1 N).tr i=qw1 i:=rfl
theorem q8c (N:Nat) (i:Nat):(qf1 N).lp i=qK4 i:=rfl
theorem zar (N:Nat) (i:Nat):(qf1 N).ex i=qLU i:=rfl
theorem qZi (N:Nat) (i:Nat):(qf1 N).rg i=qOL i:=rfl
theorem q25 (N:Nat) (i:Nat):(qf1 N).jn i=qMu i:=rfl
theorem zbu (N:Nat):(qf1 N).fuel=N:=rfl
theorem zaK (N:Nat) (v0:Val Y50) (v1:Val Y33):qd tt qzk (qf1 N) (Tryz.f222.body.getD .skip) (qcl (qqb tt i50 [i4] [.tmp 4])) (qqt i50 [i33] 32 v0 (v1,()))=qxE N v0 v1:=by
 rw [qxE];unfold Tryz.f222
 simp (maxSteps:=10000000) -implicitDefEqProofs [qUX,qw1,q8c,qK4,zar,qLU,qZi,qOL,q25,qMu,zbu,q1I,qy,q0s,zb8,q06,q7Z,q1a,q5I,qw7,qzg]
 try rfl
def qax (r:Val Y50) (c:Val Y33):Val Y50×Bool:=bif (q3 (qm c.1 c.2)).2 then (bif qb1 (q3 (qm c.1 c.2)).1 then (r,true)else ((r.1,(r.2:List (Val Y33))++[(q3 (qm c.1 c.2)).1]),decide ((List.length (α:=Val Y33) r.2:Int)+1≤12)))else qvy
def qgO (r:Val Y50) (c:Val Y33):Prop:=qD c=true∧List.length (α:=Val Y33) r.2≤12
noncomputable def qxv (N:Nat) (v0:Val Y50) (v1:Val Y33):Option (qb [i50,i4]):=chk (qaK (v1.1:Int) (v1.2:List (Val qa))) (chk (qzy (qm (v1.1:Int) (v1.2:List (Val qa)))) (bif (!((q3 (qm (v1.1:Int) (v1.2:List (Val qa)))).2:Bool))then (some (((0:Int),([]:List (Val Y33))),false,()))else (bif (decide ((16:Int)<((((q3 (qm (v1.1:Int) (v1.2:List (Val qa)))).1).2:List (Val qa)).length:Int)))then (some (((0:Int),([]:List (Val Y33))),false,()))else (bif (decide (((((q3 (qm (v1.1:Int) (v1.2:List (Val qa)))).1).2:List (Val qa)).length:Int)=(1:Int)))then (chk (0≤(0:Int)∧(0:Int)<((((q3 (qm (v1.1:Int) (v1.2:List (Val qa)))).1).2:List (Val qa)).length:Int)) (chk ((0:Int).toNat<(((q3 (qm (v1.1:Int) (v1.2:List (Val qa)))).1).2:List (Val qa)).length) (chk (qnf ((((q3 (qm (v1.1:Int) (v1.2:List (Val qa)))).1).2:List (Val qa)).getD ((0:Int).toNat) (qc qa))) (bif ((qbN ((((q3 (qm (v1.1:Int) (v1.2:List (Val qa)))).1).2:List (Val qa)).getD ((0:Int).toNat) (qc qa))):Bool)then (some (v0,true,()))else (chk (([]:List (Val Y33)).length+(v0.2:List (Val Y33)).length≤1048576) (chk ((([]:List (Val Y33))++(v0.2:List (Val Y33))).length+([((((q3 (qm (v1.1:Int) (v1.2:List (Val qa)))).1).1:Int),(((q3 (qm (v1.1:Int) (v1.2:List (Val qa)))).1).2:List (Val qa)))]:List (Val Y33)).length≤1048576) (some (((v0.1:Int),((([]:List (Val Y33))++(v0.2:List (Val Y33)))++([((((q3 (qm (v1.1:Int) (v1.2:List (Val qa)))).1).1:Int),(((q3 (qm (v1.1:Int) (v1.2:List (Val qa)))).1).2:List (Val qa)))]:List (Val Y33)))),(decide ((((([]:List (Val Y33))++(v0.2:List (Val Y33)))++([((((q3 (qm (v1.1:Int) (v1.2:List (Val qa)))).1).1:Int),(((q3 (qm (v1.1:Int) (v1.2:List (Val qa)))).1).2:List (Val qa)))]:List (Val Y33))).length:Int)≤(12:Int))),()))))))))else (chk (([]:List (Val Y33)).length+(v0.2:List (Val Y33)).length≤1048576) (chk ((([]:List (Val Y33))++(v0.2:List (Val Y33))).length+([((((q3 (qm (v1.1:Int) (v1.2:List (Val qa)))).1).1:Int),(((q3 (qm (v1.1:Int) (v1.2:List (Val qa)))).1).2:List (Val qa)))]:List (Val Y33)).length≤1048576) (some (((v0.1:Int),((([]:List (Val Y33))++(v0.2:List (Val Y33)))++([((((q3 (qm (v1.1:Int) (v1.2:List (Val qa)))).1).1:Int),(((q3 (qm (v1.1:Int) (v1.2:List (Val qa)))).1).2:List (Val qa)))]:List (Val Y33)))),(decide ((((([]:List (Val Y33))++(v0.2:List (Val Y33)))++([((((q3 (qm (v1.1:Int) (v1.2:List (Val qa)))).1).1:Int),(((q3 (qm (v1.1:Int) (v1.2:List (Val qa)))).1).2:List (Val qa)))]:List (Val Y33))).length:Int)≤(12:Int))),()))))))))
end Go.T
