/- Closures. Run. -/
import Derived.Test.YthefcjjgchekiaaGreatE14
import Derived.Test.YthefcjjgchekiaaGreatE7w
set_option linter.unusedSimpArgs false
set_option linter.unusedVariables false
namespace Go.T
open Go Go.Proofs
set_option maxHeartbeats 4000000
set_option maxRecDepth 100000
def qoG:G:={ps:=[i50],rs:=[i50,i4],dp:=true,pre:=fun x=>qmh x.1,fn:=fun x=>((qY x.1).1,(qY x.1).2,())}
def qln:Gam:=[(117,qaX)]
theorem qJP:Gam.get qln 117=some qaX:=rfl
theorem qUs:Gam.get qln 143=none:=rfl
def qtH:Nm:=⟨[false,true,true,false,true,true],[.box 4 1 33 Y33],true⟩
theorem q4E:qtH.zero=true:=rfl
theorem qLv:qtH.fix=[.box 4 1 33 Y33]:=rfl
theorem qZq:qtH.keep=[false,true,true,false,true,true]:=rfl
def qHy:Nm:=⟨[false,false,true,false,true],[],true⟩
theorem q09:qHy.zero=true:=rfl
theorem qPM:qHy.fix=[]:=rfl
theorem qII:qHy.keep=[false,false,true,false,true]:=rfl
def qFV:Nm:=⟨[false,true,true,false,true,true,true,true],[],true⟩
theorem q0b:qFV.zero=true:=rfl
theorem q4M:qFV.fix=[]:=rfl
theorem q1r:qFV.keep=[false,true,true,false,true,true,true,true]:=rfl
def qwC:Sem:=qws [(143,qgL)] (qft)
def qnP:Nat→Tree:=fun i=>if i=7 then .sem [6] (.grow 0 (.grow 1 (.grow 2 (.grow 3 (.grow 4 (.grow 5 (.alt 6 (.first 7 (.first 8 (.first 9 (.alt 10 (.alt 11 (.quiet 12 .done) .stop) .stop)))) (.alt 10 (.alt 6 (.quiet 7 (.quiet 8 (.first 9 (.alt 11 (.quiet 12 .done) .stop)))) .stop) .stop))))))))else .done
def qxB:Nat→Nm:=fun i=>if i=5 then qtH else ⟨[],[],false⟩
def qqr:Nat→Option Jn:=fun _=>none
def qrE:Nat→Option Nm:=fun i=>if i=0 then some qHy else none
def qqU:Nat→Option Nm:=fun i=>if i=7 then some qFV else none
theorem zgs:qh qnP (Tryz.f131.body.getD .skip)=true:=by kernel_rfl
def qc7 (N:Nat):Tab:={tr:=qnP,lp:=qxB,ex:=qrE,rg:=qqU,jn:=qqr,fuel:=N,sem:=qwC}
theorem qXr (N:Nat):(qc7 N).pins=false:=rfl
theorem zhv (N:Nat):qk Tryz.prog (qc7 N):=qo fun _=>rfl
theorem q19 (N:Nat):(qc7 N).sem=qwC:=rfl
theorem qQZ (N:Nat) (i:Nat):(qc7 N).tr i=qnP i:=rfl
theorem qKc (N:Nat) (i:Nat):(qc7 N).lp i=qxB i:=rfl
theorem qRA (N:Nat) (i:Nat):(qc7 N).ex i=qrE i:=rfl
theorem qQr (N:Nat) (i:Nat):(qc7 N).rg i=qqU i:=rfl
theorem qTA (N:Nat) (i:Nat):(qc7 N).jn i=qqr i:=rfl
theorem qZl (N:Nat):(qc7 N).fuel=N:=rfl
noncomputable def q8M:Code:=cut [true,true,true,false,true,true,true] (Tryz.f131.body.getD .skip)
theorem zkl {N:Nat} {Q:X→St→Option (qc [i50,i4])} {e:List LV} {h:List Blk}:qf tt qln (qc7 N) q8M Q ⟨e,h⟩=qf tt qln (qc7 N) (cut [true,true,true,false,true,true,true] (Tryz.f131.body.getD .skip)) Q ⟨e,h⟩:=rfl
theorem zuP (N:Nat) (v2:Int) (v3:List (Val Y33)) (v4:Int) {k0:Int→(List (Val Y33))→Option (qc [i50,i4])} {Q:X→St→Option (qc [i50,i4])} {c:Code} (hc:c=q8M) (hret: ∀st,Q .ret st=qC tt true [i50,i4] [.cell 2 50,.tmp 3] st) (h0: ∀(v7:Int) (v8:List (Val Y33)),Q (.exit 0) ⟨[u,u,.one (.ptr 0 0 0),u,.one (.ptr 1 0 0),u,u,u,u,u,u,u,u,u,u,u,u,u,u,u,u,u,u,u,u,u,u,u,u,u,u,u,u,u,u,u,u],[.box [.int .i64 v4,.nils],.box [.int .i64 v7,.own 2],.row 33 Y33 v8 true true 0]⟩=k0 v7 v8): ∀(n:Nat) (v1:Int) (v5:Int) (v6:List (Val Y33)),qD (qf tt qln (qc7 N) c) false qtH Q n ⟨[u,.one (.ptr 0 0 0),.one (.ptr 1 0 0),u,.one (.ptr 2 0 0),.one (.int .i64 v1),u,u,u,u,u,u,u,u,u,u,u,u,u,u,u,u,u,u,u,u,u,u,u,u,u,u,u,u,u,u,u],[.box [.int .i64 v2,.sl 33 Y33 v3 0],.box [.int .i64 v4,.nils],.box [.int .i64 v5,.own 3],.row 33 Y33 v6 true true 0]⟩=qgc N v2 v3 v4 k0 n v1 v5 v6:=by
 subst hc;intro n;induction n with
 | zero=>intros;rfl
 | succ n ih=>
   intro v1 v5 v6
   rw [qN,zkl,qgc];unfold Tryz.f131
   simp (maxSteps:=10000000) -implicitDefEqProofs [qQZ,qnP,qKc,qxB,qRA,qrE,qQr,qqU,qTA,qqr,qZl,qXr,q19,qwC,qaa,qUs,qgL,qLv,qZq,q4E,qPM,qII,q09,q4M,q1r,q0b,qJP,qaX,hret,h0,ih]
theorem zjk (N:Nat) (v0:Val Y50):qf tt qln (qc7 N) (Tryz.f131.body.getD .skip) (qm tt true [i50,i4] [.cell 2 50,.tmp 3]) (qp [i50] 37 (v0,()))=qn5 N v0:=by
 unfold Tryz.f131
 simp (maxSteps:=10000000) -implicitDefEqProofs [qQZ,qnP,qKc,qxB,qRA,qrE,qQr,qqU,qTA,qqr,qZl,qXr,q19,qwC,qaa,qUs,qgL,qLv,qZq,q4E,qPM,qII,q09,q4M,q1r,q0b,qJP,qaX]
 rewrite [zuP (k0:=(fun (v9:Int) (v10:List (Val Y33))=>some ((v9,v10),true,()))) N _ _ _ ?_ ?_ ?_]
 ·rewrite [qn5];first | rfl | simp (maxSteps:=10000000) -implicitDefEqProofs []
 ·rfl
 ·intro;simp only [qK,qL,qJ,qB]
 ·intro v9 v10;simp (maxSteps:=10000000) -implicitDefEqProofs [qQZ,qnP,qKc,qxB,qRA,qrE,qQr,qqU,qTA,qqr,qZl,qXr,q19,qwC,qaa,qUs,qgL,qLv,qZq,q4E,qPM,qII,q09,q4M,q1r,q0b,qJP,qaX]
theorem zmV:Sound Tryz.prog 131 qoG:=qr (tt:=tt) (Γ:=qln) hT (qg qnf qn) hm (fn:=Tryz.f131) Tryz.func131 (c:=Tryz.f131.body.getD .skip) (by kernel_rfl) (by kernel_rfl) fun x hx=>by
 obtain ⟨N,h⟩:=q6j x.1 hx
 exact ⟨qc7 N,zgs,q5D (q7P zap q7d) (qu _),zhv N,(zjk N x.1).trans h⟩
def qo1:G:={ps:=[i33],rs:=[i33],dp:=true,pre:=fun x=>qdA x.1,fn:=fun x=>(cpC x.1,())}
noncomputable def qlE (N:Nat) (v1:List (Val qa)) (v2:Int) (v4:Int) (v5:Int) (k0:(List (Val qa))→Option (qc [i33])):Nat→Int→(List (Val qa))→Option (qc [i33])
 | 0,_,_=>none
 | n+1,v3,v6=>bif (decide (v3<v2))then (chk (0≤v3∧v3<(v1.length:Int)) (chk (qbF (v1.getD v3.toNat (qb qa))) (chk (v6.length+([(((idA (v1.getD v3.toNat (qb qa))).1:List (Val (.int .i64))),(((idA (v1.getD v3.toNat (qb qa))).2).1:Int),(((idA (v1.getD v3.toNat (qb qa))).2).2:Bool))]:List (Val qa)).length≤1048576) (qlE N v1 v2 v4 v5 k0 n (IntKind.i64.wrap (v3+(1:Int))) (v6++([(((idA (v1.getD v3.toNat (qb qa))).1:List (Val (.int .i64))),(((idA (v1.getD v3.toNat (qb qa))).2).1:Int),(((idA (v1.getD v3.toNat (qb qa))).2).2:Bool))]:List (Val qa)))))))else (k0 v6)
noncomputable def qGy (N:Nat) (v0:Val Y33):Option (qc [i33]):=chk (0≤(0:Int)∧(0:Int)≤((v0.2:List (Val qa)).length:Int)∧((v0.2:List (Val qa)).length:Int)≤1048576) (qlE N (v0.2:List (Val qa)) ((v0.2:List (Val qa)).length:Int) (0:Int) (v0.1:Int) (fun (v8:List (Val qa))=>some (((v0.1:Int),v8),())) N (0:Int) (List.replicate (0:Int).toNat (qb qa)))
def qoX:Gam:=[(236,qdH)]
theorem qUx:Gam.get qoX 236=some qdH:=rfl
def qq6:Nm:=⟨[false,false,true,true,false,false,false,false,false,false,false,false,false,false,true,true,true],[],false⟩
theorem qNZ:qq6.zero=false:=rfl
theorem qJz:qq6.fix=[]:=rfl
theorem qMo:qq6.keep=[false,false,true,true,false,false,false,false,false,false,false,false,false,false,true,true,true]:=rfl
def qzD:Nm:=⟨[false,false,true,true],[],false⟩
theorem q4R:qzD.zero=false:=rfl
theorem qVQ:qzD.fix=[]:=rfl
theorem qUp:qzD.keep=[false,false,true,true]:=rfl
def qFF:Nm:=⟨[false,true,true,true],[],false⟩
theorem q2Q:qFF.zero=false:=rfl
theorem qRJ:qFF.fix=[]:=rfl
theorem qNr:qFF.keep=[false,true,true,true]:=rfl
def qDz:Nm:=⟨[false,false,true,true,false,false,false,false,false,false,false,false,false,false,true,true,true],[],false⟩
theorem qZM:qDz.zero=false:=rfl
theorem qNM:qDz.fix=[]:=rfl
theorem q3T:qDz.keep=[false,false,true,true,false,false,false,false,false,false,false,false,false,false,true,true,true]:=rfl
def qoF:Nat→Tree:=fun i=>if i=1 then .grow 0 (.grow 1 (.grow 2 (.grow 3 (.grow 4 (.alt 5 (.first 6 (.alt 7 (.alt 8 .done .stop) .stop)) (.alt 7 (.alt 5 (.quiet 6 (.alt 8 .done .stop)) .stop) .stop))))))else if i=5 then .quiet 2 (.alt 0 (.alt 1 (.alt 3 (.alt 4 (.alt 5 (.quiet 6 (.alt 7 .done .stop)) .stop) .stop) .stop) (.alt 3 (.alt 1 (.alt 4 (.alt 5 (.quiet 6 (.alt 7 .done .stop)) .stop) .stop) (.alt 4 (.quiet 1 (.alt 5 (.quiet 6 (.alt 7 .done .stop)) .stop)) .stop)) .stop)) (.alt 3 (.alt 0 (.alt 1 (.alt 4 (.alt 5 (.quiet 6 (.alt 7 .done .stop)) .stop) .stop) (.alt 4 (.quiet 1 (.alt 5 (.quiet 6 (.alt 7 .done .stop)) .stop)) .stop)) (.alt 4 (.quiet 0 (.quiet 1 (.alt 5 (.quiet 6 (.alt 7 .done .stop)) .stop))) .stop)) .stop))else .done
def qt7:Nat→Nm:=fun i=>if i=3 then qq6 else ⟨[],[],false⟩
def qpW:Nat→Option Jn:=fun _=>none
def qv1:Nat→Option Nm:=fun i=>if i=0 then some qzD else none
def qvu:Nat→Option Nm:=fun i=>if i=1 then some qFF else if i=5 then some qDz else none
theorem zbE:qh qoF (Tryz.f214.body.getD .skip)=true:=by kernel_rfl
def qd5 (N:Nat):Tab:={tr:=qoF,lp:=qt7,ex:=qv1,rg:=qvu,jn:=qpW,fuel:=N}
theorem qWa (N:Nat):(qd5 N).pins=false:=rfl
theorem zu7 (N:Nat):qk Tryz.prog (qd5 N):=qo fun _=>rfl
theorem qLS (N:Nat) (i:Nat):(qd5 N).tr i=qoF i:=rfl
theorem qPL (N:Nat) (i:Nat):(qd5 N).lp i=qt7 i:=rfl
theorem qHK (N:Nat) (i:Nat):(qd5 N).ex i=qv1 i:=rfl
theorem qPs (N:Nat) (i:Nat):(qd5 N).rg i=qvu i:=rfl
theorem qOH (N:Nat) (i:Nat):(qd5 N).jn i=qpW i:=rfl
theorem qI9 (N:Nat):(qd5 N).fuel=N:=rfl
noncomputable def q7b:Code:=cut [true,true,false,true,true,true] (Tryz.f214.body.getD .skip)
theorem zu9 {N:Nat} {Q:X→St→Option (qc [i33])} {e:List LV} {h:List Blk}:qf tt qoX (qd5 N) q7b Q ⟨e,h⟩=qf tt qoX (qd5 N) (cut [true,true,false,true,true,true] (Tryz.f214.body.getD .skip)) Q ⟨e,h⟩:=rfl
theorem zzB (N:Nat) (v1:List (Val qa)) (v2:Int) (v4:Int) (v5:Int) {k0:(List (Val qa))→Option (qc [i33])} {Q:X→St→Option (qc [i33])} {c:Code} (hc:c=q7b) (hret: ∀st,Q .ret st=qC tt true [i33] [.cell 2 33] st) (h0: ∀(v7:List (Val qa)),Q (.exit 0) ⟨[u,u,.one (.ptr 0 0 0),.one (.ptr 1 0 0),u,u,u,u,u,u,u,u,u,u,u,u,u,u,u,u,u,u,u,u,u,u,u,u,u],[.box [.int .i64 v4,.nils],.box [.int .i64 v5,.own 2],.row 108 qa v7 true true 0]⟩=k0 v7): ∀(n:Nat) (v3:Int) (v6:List (Val qa)),qD (qf tt qoX (qd5 N) c) false qq6 Q n ⟨[u,u,.one (.ptr 0 0 0),.one (.ptr 1 0 0),u,u,u,u,u,u,u,u,u,u,.one (.sl 108 qa v1 3),.one (.int .i64 v2),.one (.int .i64 v3),u,u,u,u,u,u,u,u,u,u,u,u],[.box [.int .i64 v4,.nils],.box [.int .i64 v5,.own 2],.row 108 qa v6 true true 0]⟩=qlE N v1 v2 v4 v5 k0 n v3 v6:=by
 subst hc;intro n;induction n with
 | zero=>intros;rfl
 | succ n ih=>
   intro v3 v6
   rw [qN,zu9,qlE];unfold Tryz.f214
   simp (maxSteps:=10000000) -implicitDefEqProofs [qLS,qoF,qPL,qt7,qHK,qv1,qPs,qvu,qOH,qpW,qI9,qWa,qJz,qMo,qNZ,qVQ,qUp,q4R,qRJ,qNr,q2Q,qNM,q3T,qZM,qUx,qdH,hret,h0,ih]
theorem zrX (N:Nat) (v0:Val Y33):qf tt qoX (qd5 N) (Tryz.f214.body.getD .skip) (qm tt true [i33] [.cell 2 33]) (qp [i33] 29 (v0,()))=qGy N v0:=by
 unfold Tryz.f214
 simp (maxSteps:=10000000) -implicitDefEqProofs [qLS,qoF,qPL,qt7,qHK,qv1,qPs,qvu,qOH,qpW,qI9,qWa,qJz,qMo,qNZ,qVQ,qUp,q4R,qRJ,qNr,q2Q,qNM,q3T,qZM,qUx,qdH]
 rewrite [zzB (k0:=(fun (v8:List (Val qa))=>some (((v0.1:Int),v8),()))) N _ _ _ _ ?_ ?_ ?_]
 ·rewrite [qGy];first | rfl | simp (maxSteps:=10000000) -implicitDefEqProofs []
 ·rfl
 ·intro;simp only [qK,qL,qJ,qB]
 ·intro v8;simp (maxSteps:=10000000) -implicitDefEqProofs [qLS,qoF,qPL,qt7,qHK,qv1,qPs,qvu,qOH,qpW,qI9,qWa,qJz,qMo,qNZ,qVQ,qUp,q4R,qRJ,qNr,q2Q,qNM,q3T,qZM,qUx,qdH]
def qcM (a:Val qa):Val qa:=(a.1,a.2.1,false)
def qaI (c:Val Y33):Val Y33×Bool:=bif (qar c).2 then (bif (qar c).1 then (qa8 c.1,true)else (qv c.1 (List.map (α:=Val qa) qcM c.2),true))else qe9
def qAq (c:Val Y33):Prop:=qbf c
def qo3:G:={ps:=[i33],rs:=[i33,i4],dp:=true,pre:=fun _=>True,fn:=fun x=>((qaI x.1).1,(qaI x.1).2,())}
noncomputable def qiq (N:Nat) (v1:Int) (v3:Int) (v4:Int) (k0:(List (Val qa))→Option (qc [i33,i4])):Nat→Int→(List (Val qa))→Option (qc [i33,i4])
 | 0,_,_=>none
 | n+1,v2,v5=>bif (decide (v2<v1))then (chk (0≤v2∧v2<(v5.length:Int)) (chk (v2.toNat<v5.length) (qiq N v1 v3 v4 k0 n (IntKind.i64.wrap (v2+(1:Int))) (v5.set v2.toNat (((v5.getD v2.toNat (qb qa)).1:List (Val (.int .i64))),((((v5.getD v2.toNat (qb qa)).2).1:Int),false))))))else (k0 v5)
noncomputable def qCL (N:Nat) (v0:Val Y33):Option (qc [i33,i4]):=bif (!((qar v0).2:Bool))then (some (((0:Int),([]:List (Val qa))),false,()))else (bif ((qar v0).1:Bool)then (chk (qcy (v0.1:Int)) (some ((((qa8 (v0.1:Int)).1:Int),((qa8 (v0.1:Int)).2:List (Val qa))),true,())))else (chk (qdA v0) (qiq N (((cpC v0).2:List (Val qa)).length:Int) (0:Int) ((cpC v0).1:Int) (fun (v7:List (Val qa))=>some (((((qas (((cpC v0).1:Int),v7)).1).1:Int),(((qas (((cpC v0).1:Int),v7)).1).2:List (Val qa))),((qas (((cpC v0).1:Int),v7)).2:Bool),())) N (0:Int) ((cpC v0).2:List (Val qa)))))
def qhJ:Gam:=[(212,qcC),(213,qbT),(214,qo1),(215,qdf)]
theorem qRU:Gam.get qhJ 212=some qcC:=rfl
theorem q3w:Gam.get qhJ 213=some qbT:=rfl
theorem qJD:Gam.get qhJ 214=some qo1:=rfl
theorem qWN:Gam.get qhJ 215=some qdf:=rfl
def qyL:Nm:=⟨[false,false,true,false,false,false,true,false,false,false,false,false,false,false,false,false,false,false,false,false,false,false,false,false,true,true],[],false⟩
theorem q4L:qyL.zero=false:=rfl
theorem q1Y:qyL.fix=[]:=rfl
theorem q2c:qyL.keep=[false,false,true,false,false,false,true,false,false,false,false,false,false,false,false,false,false,false,false,false,false,false,false,false,true,true]:=rfl
def qHx:Nm:=⟨[false,false,true,false,false,false,true],[],false⟩
theorem qU0:qHx.zero=false:=rfl
theorem q0H:qHx.fix=[]:=rfl
theorem qPC:qHx.keep=[false,false,true,false,false,false,true]:=rfl
def qo4:Nat→Tree:=fun _=> .done
def qwq:Nat→Nm:=fun i=>if i=8 then qyL else ⟨[],[],false⟩
def qwa:Nat→Option Jn:=fun _=>none
def qsP:Nat→Option Nm:=fun i=>if i=0 then some qHx else none
def qvV:Nat→Option Nm:=fun _=>none
theorem zs1:qh qo4 (Tryz.f134.body.getD .skip)=true:=by kernel_rfl
def qdD (N:Nat):Tab:={tr:=qo4,lp:=qwq,ex:=qsP,rg:=qvV,jn:=qwa,fuel:=N}
theorem qK4 (N:Nat):(qdD N).pins=false:=rfl
theorem zyE (N:Nat):qk Tryz.prog (qdD N):=qo fun _=>rfl
theorem qYB (N:Nat) (i:Nat):(qdD N).tr i=qo4 i:=rfl
theorem qMP (N:Nat) (i:Nat):(qdD N).lp i=qwq i:=rfl
theorem qSV (N:Nat) (i:Nat):(qdD N).ex i=qsP i:=rfl
theorem q2w (N:Nat) (i:Nat):(qdD N).rg i=qvV i:=rfl
theorem q2r (N:Nat) (i:Nat):(qdD N).jn i=qwa i:=rfl
theorem qI3 (N:Nat):(qdD N).fuel=N:=rfl
noncomputable def q9N:Code:=cut [true,true,true,true,true,false,true,true,true] (Tryz.f134.body.getD .skip)
theorem zfH {N:Nat} {Q:X→St→Option (qc [i33,i4])} {e:List LV} {h:List Blk}:qf tt qhJ (qdD N) q9N Q ⟨e,h⟩=qf tt qhJ (qdD N) (cut [true,true,true,true,true,false,true,true,true] (Tryz.f134.body.getD .skip)) Q ⟨e,h⟩:=rfl
theorem zbh (N:Nat) (v1:Int) (v3:Int) (v4:Int) {k0:(List (Val qa))→Option (qc [i33,i4])} {Q:X→St→Option (qc [i33,i4])} {c:Code} (hc:c=q9N) (hret: ∀st,Q .ret st=qC tt true [i33,i4] [.cell 2 33,.tmp 3] st) (h0: ∀(v6:List (Val qa)),Q (.exit 0) ⟨[u,u,.one (.ptr 0 0 0),u,u,u,.one (.ptr 1 0 0),u,u,u,u,u,u,u,u,u,u,u,u,u,u,u,u,u,u,u,u,u,u,u,u,u,u,u,u,u,u,u],[.box [.int .i64 v3,.nils],.box [.int .i64 v4,.own 2],.row 108 qa v6 true true 0]⟩=k0 v6): ∀(n:Nat) (v2:Int) (v5:List (Val qa)),qD (qf tt qhJ (qdD N) c) false qyL Q n ⟨[u,u,.one (.ptr 0 0 0),u,u,u,.one (.ptr 1 0 0),u,u,u,u,u,u,u,u,u,u,u,u,u,u,u,u,u,.one (.int .i64 v1),.one (.int .i64 v2),u,u,u,u,u,u,u,u,u,u,u,u],[.box [.int .i64 v3,.nils],.box [.int .i64 v4,.own 2],.row 108 qa v5 true true 0]⟩=qiq N v1 v3 v4 k0 n v2 v5:=by
 subst hc;intro n;induction n with
 | zero=>intros;rfl
 | succ n ih=>
   intro v2 v5
   rw [qN,zfH,qiq];unfold Tryz.f134
   simp (maxSteps:=10000000) -implicitDefEqProofs [qYB,qo4,qMP,qwq,qSV,qsP,q2w,qvV,q2r,qwa,qI3,qK4,q1Y,q2c,q4L,q0H,qPC,qU0,qRU,q3w,qJD,qWN,qcC,qbT,qo1,qdf,hret,h0,ih]
theorem zj3 (N:Nat) (v0:Val Y33):qf tt qhJ (qdD N) (Tryz.f134.body.getD .skip) (qm tt true [i33,i4] [.cell 2 33,.tmp 3]) (qp [i33] 38 (v0,()))=qCL N v0:=by
 unfold Tryz.f134
 simp (maxSteps:=10000000) -implicitDefEqProofs [qYB,qo4,qMP,qwq,qSV,qsP,q2w,qvV,q2r,qwa,qI3,qK4,q1Y,q2c,q4L,q0H,qPC,qU0,qRU,q3w,qJD,qWN,qcC,qbT,qo1,qdf]
 rewrite [zbh (k0:=(fun (v7:List (Val qa))=>some (((((qas (((cpC v0).1:Int),v7)).1).1:Int),(((qas (((cpC v0).1:Int),v7)).1).2:List (Val qa))),((qas (((cpC v0).1:Int),v7)).2:Bool),()))) N _ _ _ ?_ ?_ ?_]
 ·rewrite [qCL];first | rfl | simp (maxSteps:=10000000) -implicitDefEqProofs []
 ·rfl
 ·intro;simp only [qK,qL,qJ,qB]
 ·intro v7;simp (maxSteps:=10000000) -implicitDefEqProofs [qYB,qo4,qMP,qwq,qSV,qsP,q2w,qvV,q2r,qwa,qI3,qK4,q1Y,q2c,q4L,q0H,qPC,qU0,qRU,q3w,qJD,qWN,qcC,qbT,qo1,qdf]
def qpg:G:={ps:=[i33],rs:=[i33,i4],dp:=false,pre:=fun x=>qAq x.1,fn:=fun x=>((qaI x.1).1,(qaI x.1).2,())}
noncomputable def qi9 (N:Nat) (v2:Int) (v3:Int) (k0:(List (Val qa))→Option (qc [i33,i4])):Nat→Int→(List (Val qa))→Option (qc [i33,i4])
 | 0,_,_=>none
 | n+1,v1,v4=>bif (decide (v1<(v4.length:Int)))then (chk (0≤v1∧v1<(v4.length:Int)) (chk (v1.toNat<v4.length) (qi9 N v2 v3 k0 n (IntKind.i64.wrap (v1+(1:Int))) (v4.set v1.toNat (((v4.getD v1.toNat (qb qa)).1:List (Val (.int .i64))),((((v4.getD v1.toNat (qb qa)).2).1:Int),false))))))else (k0 v4)
noncomputable def qD5 (N:Nat) (v0:Val Y33):Option (qc [i33,i4]):=chk (qlb v0) (bif (!((qar v0).2:Bool))then (some (((0:Int),([]:List (Val qa))),false,()))else (bif ((qar v0).1:Bool)then (chk (qcy (v0.1:Int)) (some ((((qa8 (v0.1:Int)).1:Int),((qa8 (v0.1:Int)).2:List (Val qa))),true,())))else (chk (qdA v0) (qi9 N (0:Int) ((cpC v0).1:Int) (fun (v6:List (Val qa))=>chk (qaF ((cpC v0).1:Int) v6) (some ((qv ((cpC v0).1:Int) v6),true,()))) N (0:Int) ((cpC v0).2:List (Val qa))))))
def qg0:Gam:=[(150,qai),(208,qcB),(209,qcg),(210,qdr)]
theorem qP5:Gam.get qg0 150=some qai:=rfl
theorem qZI:Gam.get qg0 208=some qcB:=rfl
theorem qKt:Gam.get qg0 209=some qcg:=rfl
theorem qO7:Gam.get qg0 210=some qdr:=rfl
def qsp:Nm:=⟨[false,false,true,false,false,false,true,true],[],false⟩
theorem qXp:qsp.zero=false:=rfl
theorem q0h:qsp.fix=[]:=rfl
theorem qKH:qsp.keep=[false,false,true,false,false,false,true,true]:=rfl
def qEO:Nm:=⟨[false,false,true,false,false,false,true],[],false⟩
theorem qJC:qEO.zero=false:=rfl
theorem qJp:qEO.fix=[]:=rfl
theorem qR2:qEO.keep=[false,false,true,false,false,false,true]:=rfl
def qo5:Nat→Tree:=fun _=> .done
def qxL:Nat→Nm:=fun i=>if i=8 then qsp else ⟨[],[],false⟩
def qpJ:Nat→Option Jn:=fun _=>none
def qt6:Nat→Option Nm:=fun i=>if i=0 then some qEO else none
def qun:Nat→Option Nm:=fun _=>none
theorem zw2:qh qo5 (Tryz.f132.body.getD .skip)=true:=by kernel_rfl
def qdt (N:Nat):Tab:={tr:=qo5,lp:=qxL,ex:=qt6,rg:=qun,jn:=qpJ,fuel:=N}
theorem qLs (N:Nat):(qdt N).pins=false:=rfl
theorem ztH (N:Nat):qk Tryz.prog (qdt N):=qo fun _=>rfl
theorem qXl (N:Nat) (i:Nat):(qdt N).tr i=qo5 i:=rfl
theorem qKl (N:Nat) (i:Nat):(qdt N).lp i=qxL i:=rfl
theorem qOI (N:Nat) (i:Nat):(qdt N).ex i=qt6 i:=rfl
theorem q12 (N:Nat) (i:Nat):(qdt N).rg i=qun i:=rfl
theorem q0l (N:Nat) (i:Nat):(qdt N).jn i=qpJ i:=rfl
theorem qJc (N:Nat):(qdt N).fuel=N:=rfl
noncomputable def q9P:Code:=cut [true,true,true,true,true,false,true,true,true] (Tryz.f132.body.getD .skip)
theorem zfy {N:Nat} {Q:X→St→Option (qc [i33,i4])} {e:List LV} {h:List Blk}:qf tt qg0 (qdt N) q9P Q ⟨e,h⟩=qf tt qg0 (qdt N) (cut [true,true,true,true,true,false,true,true,true] (Tryz.f132.body.getD .skip)) Q ⟨e,h⟩:=rfl
theorem zxl (N:Nat) (v2:Int) (v3:Int) {k0:(List (Val qa))→Option (qc [i33,i4])} {Q:X→St→Option (qc [i33,i4])} {c:Code} (hc:c=q9P) (hret: ∀st,Q .ret st=qC tt false [i33,i4] [.cell 2 33,.tmp 3] st) (h0: ∀(v5:List (Val qa)),Q (.exit 0) ⟨[u,u,.one (.ptr 0 0 0),u,u,u,.one (.ptr 1 0 0),u,u,u,u,u,u,u,u,u,u,u,u,u,u,u,u,u,u,u,u,u,u,u,u,u,u,u,u,u,u,u,u],[.box [.int .i64 v2,.nils],.box [.int .i64 v3,.own 2],.row 108 qa v5 true true 0]⟩=k0 v5): ∀(n:Nat) (v1:Int) (v4:List (Val qa)),qD (qf tt qg0 (qdt N) c) false qsp Q n ⟨[u,u,.one (.ptr 0 0 0),u,u,u,.one (.ptr 1 0 0),.one (.int .i64 v1),u,u,u,u,u,u,u,u,u,u,u,u,u,u,u,u,u,u,u,u,u,u,u,u,u,u,u,u,u,u,u],[.box [.int .i64 v2,.nils],.box [.int .i64 v3,.own 2],.row 108 qa v4 true true 0]⟩=qi9 N v2 v3 k0 n v1 v4:=by
 subst hc;intro n;induction n with
 | zero=>intros;rfl
 | succ n ih=>
   intro v1 v4
   rw [qN,zfy,qi9];unfold Tryz.f132
   simp (maxSteps:=10000000) -implicitDefEqProofs [qXl,qo5,qKl,qxL,qOI,qt6,q12,qun,q0l,qpJ,qJc,qLs,q0h,qKH,qXp,qJp,qR2,qJC,qP5,qZI,qKt,qO7,qai,qcB,qcg,qdr,hret,h0,ih]
theorem zwi (N:Nat) (v0:Val Y33):qf tt qg0 (qdt N) (Tryz.f132.body.getD .skip) (qm tt false [i33,i4] [.cell 2 33,.tmp 3]) (qp [i33] 39 (v0,()))=qD5 N v0:=by
 unfold Tryz.f132
 simp (maxSteps:=10000000) -implicitDefEqProofs [qXl,qo5,qKl,qxL,qOI,qt6,q12,qun,q0l,qpJ,qJc,qLs,q0h,qKH,qXp,qJp,qR2,qJC,qP5,qZI,qKt,qO7,qai,qcB,qcg,qdr]
 rewrite [zxl (k0:=(fun (v6:List (Val qa))=>chk (qaF ((cpC v0).1:Int) v6) (some ((qv ((cpC v0).1:Int) v6),true,())))) N _ _ ?_ ?_ ?_]
 ·rewrite [qD5];first | rfl | simp (maxSteps:=10000000) -implicitDefEqProofs []
 ·rfl
 ·intro;simp only [qK,qL,qJ,qB]
 ·intro v6;simp (maxSteps:=10000000) -implicitDefEqProofs [qXl,qo5,qKl,qxL,qOI,qt6,q12,qun,q0l,qpJ,qJc,qLs,q0h,qKH,qXp,qJp,qR2,qJC,qP5,qZI,qKt,qO7,qai,qcB,qcg,qdr]
def qvH (l:List (Val Y33)):List (Val Y33):=l.map fun c=>(qaI c).1
def qF (r:Val Y50):Val Y50×Bool:=bif (qY r).2 then (bif List.all (α:=Val Y33) (qY r).1.2 (fun c=>(qaI c).2)then (((qY r).1.1,qvH (qY r).1.2),true)else qa5)else qa5
def qia (r:Val Y50):Prop:=qbs r
def g41:G:={ps:=[i50],rs:=[i50,i4],dp:=true,pre:=fun _=>True,fn:=fun x=>((qF x.1).1,(qF x.1).2,())}
noncomputable def qiD (N:Nat) (v1:Int) (v3:Int) (v4:Int) (k0:(List (Val Y33))→Option (qc [i50,i4])):Nat→Int→(List (Val Y33))→Option (qc [i50,i4])
 | 0,_,_=>none
 | n+1,v2,v5=>bif (decide (v2<v1))then (chk (0≤v2∧v2<(v5.length:Int)) (chk (v2.toNat<v5.length) (bif (!((qaI (v5.getD v2.toNat (qb Y33))).2:Bool))then (some (((0:Int),([]:List (Val Y33))),false,()))else (chk (0≤v2∧v2<(v5.length:Int)) (chk (v2.toNat<v5.length) (qiD N v1 v3 v4 k0 n (IntKind.i64.wrap (v2+(1:Int))) (v5.set v2.toNat ((((qaI (v5.getD v2.toNat (qb Y33))).1).1:Int),(((qaI (v5.getD v2.toNat (qb Y33))).1).2:List (Val qa))))))))))else (k0 v5)
noncomputable def m41 (N:Nat) (v0:Val Y50):Option (qc [i50,i4]):=bif (!((qY v0).2:Bool))then (some (((0:Int),([]:List (Val Y33))),false,()))else (qiD N ((((qY v0).1).2:List (Val Y33)).length:Int) (0:Int) (((qY v0).1).1:Int) (fun (v7:List (Val Y33))=>some (((((qY v0).1).1:Int),v7),true,())) N (0:Int) (((qY v0).1).2:List (Val Y33)))
def Γ41:Gam:=[(133,qe2),(134,qo3)]
theorem qPl:Gam.get Γ41 133=some qe2:=rfl
theorem qYA:Gam.get Γ41 134=some qo3:=rfl
def qwD:Nm:=⟨[false,false,true,false,true,false,false,false,false,false,false,false,false,false,false,false,false,false,false,true,true,true],[],false⟩
theorem q3O:qwD.zero=false:=rfl
theorem qUE:qwD.fix=[]:=rfl
theorem q0O:qwD.keep=[false,false,true,false,true,false,false,false,false,false,false,false,false,false,false,false,false,false,false,true,true,true]:=rfl
def qAU:Nm:=⟨[false,false,true,false,true],[],false⟩
theorem q4N:qAU.zero=false:=rfl
theorem q1N:qAU.fix=[]:=rfl
theorem qM6:qAU.keep=[false,false,true,false,true]:=rfl
def qoa:Nat→Tree:=fun _=> .done
def qrT:Nat→Nm:=fun i=>if i=5 then qwD else ⟨[],[],false⟩
def qvX:Nat→Option Jn:=fun _=>none
def qyA:Nat→Option Nm:=fun i=>if i=0 then some qAU else none
def qtw:Nat→Option Nm:=fun _=>none
theorem p41:qh qoa (Tryz.f41.body.getD .skip)=true:=by kernel_rfl
def T41 (N:Nat):Tab:={tr:=qoa,lp:=qrT,ex:=qyA,rg:=qtw,jn:=qvX,fuel:=N}
theorem qTI (N:Nat):(T41 N).pins=false:=rfl
theorem zcB (N:Nat):qk Tryz.prog (T41 N):=qo fun _=>rfl
theorem qL1 (N:Nat) (i:Nat):(T41 N).tr i=qoa i:=rfl
theorem qRD (N:Nat) (i:Nat):(T41 N).lp i=qrT i:=rfl
theorem qWW (N:Nat) (i:Nat):(T41 N).ex i=qyA i:=rfl
theorem qYS (N:Nat) (i:Nat):(T41 N).rg i=qtw i:=rfl
theorem qUa (N:Nat) (i:Nat):(T41 N).jn i=qvX i:=rfl
theorem qHW (N:Nat):(T41 N).fuel=N:=rfl
noncomputable def q9g:Code:=cut [true,true,true,false,true,true,true] (Tryz.f41.body.getD .skip)
theorem ztQ {N:Nat} {Q:X→St→Option (qc [i50,i4])} {e:List LV} {h:List Blk}:qf tt Γ41 (T41 N) q9g Q ⟨e,h⟩=qf tt Γ41 (T41 N) (cut [true,true,true,false,true,true,true] (Tryz.f41.body.getD .skip)) Q ⟨e,h⟩:=rfl
theorem zsI (N:Nat) (v1:Int) (v3:Int) (v4:Int) {k0:(List (Val Y33))→Option (qc [i50,i4])} {Q:X→St→Option (qc [i50,i4])} {c:Code} (hc:c=q9g) (hret: ∀st,Q .ret st=qC tt true [i50,i4] [.cell 2 50,.tmp 3] st) (h0: ∀(v6:List (Val Y33)),Q (.exit 0) ⟨[u,u,.one (.ptr 0 0 0),u,.one (.ptr 1 0 0),u,u,u,u,u,u,u,u,u,u,u,u,u,u,u,u,u,u,u,u,u,u,u,u,u,u,u,u,u,u,u,u,u,u,u,u],[.box [.int .i64 v3,.nils],.box [.int .i64 v4,.own 2],.row 33 Y33 v6 true true 0]⟩=k0 v6): ∀(n:Nat) (v2:Int) (v5:List (Val Y33)),qD (qf tt Γ41 (T41 N) c) false qwD Q n ⟨[u,u,.one (.ptr 0 0 0),u,.one (.ptr 1 0 0),u,u,u,u,u,u,u,u,u,u,u,u,u,u,.one (.own 2),.one (.int .i64 v1),.one (.int .i64 v2),u,u,u,u,u,u,u,u,u,u,u,u,u,u,u,u,u,u,u],[.box [.int .i64 v3,.nils],.box [.int .i64 v4,.own 2],.row 33 Y33 v5 true true 0]⟩=qiD N v1 v3 v4 k0 n v2 v5:=by
 subst hc;intro n;induction n with
 | zero=>intros;rfl
 | succ n ih=>
   intro v2 v5
   rw [qN,ztQ,qiD];unfold Tryz.f41
   simp (maxSteps:=10000000) -implicitDefEqProofs [qL1,qoa,qRD,qrT,qWW,qyA,qYS,qtw,qUa,qvX,qHW,qTI,qUE,q0O,q3O,q1N,qM6,q4N,qPl,qYA,qe2,qo3,hret,h0,ih]
theorem zAE (N:Nat) (v0:Val Y50):qf tt Γ41 (T41 N) (Tryz.f41.body.getD .skip) (qm tt true [i50,i4] [.cell 2 50,.tmp 3]) (qp [i50] 41 (v0,()))=m41 N v0:=by
 unfold Tryz.f41
 simp (maxSteps:=10000000) -implicitDefEqProofs [qL1,qoa,qRD,qrT,qWW,qyA,qYS,qtw,qUa,qvX,qHW,qTI,qUE,q0O,q3O,q1N,qM6,q4N,qPl,qYA,qe2,qo3]
 rewrite [zsI (k0:=(fun (v7:List (Val Y33))=>some (((((qY v0).1).1:Int),v7),true,()))) N _ _ _ ?_ ?_ ?_]
 ·rewrite [m41];first | rfl | simp (maxSteps:=10000000) -implicitDefEqProofs []
 ·rfl
 ·intro;simp only [qK,qL,qJ,qB]
 ·intro v7;simp (maxSteps:=10000000) -implicitDefEqProofs [qL1,qoa,qRD,qrT,qWW,qyA,qYS,qtw,qUa,qvX,qHW,qTI,qUE,q0O,q3O,q1N,qM6,q4N,qPl,qYA,qe2,qo3]
def g40:G:={ps:=[i50],rs:=[i50,i4],dp:=false,pre:=fun x=>qia x.1,fn:=fun x=>((qF x.1).1,(qF x.1).2,())}
noncomputable def qh3 (N:Nat) (v2:Int) (v3:Int) (k0:(List (Val Y33))→Option (qc [i50,i4])):Nat→Int→(List (Val Y33))→Option (qc [i50,i4])
 | 0,_,_=>none
 | n+1,v1,v4=>bif (decide (v1<(v4.length:Int)))then (chk (0≤v1∧v1<(v4.length:Int)) (chk (v1.toNat<v4.length) (chk (qAq (v4.getD v1.toNat (qb Y33))) (bif (!((qaI (v4.getD v1.toNat (qb Y33))).2:Bool))then (some (((0:Int),([]:List (Val Y33))),false,()))else (chk (0≤v1∧v1<(v4.length:Int)) (chk (v1.toNat<v4.length) (qh3 N v2 v3 k0 n (IntKind.i64.wrap (v1+(1:Int))) (v4.set v1.toNat ((qaI (v4.getD v1.toNat (qb Y33))).1)))))))))else (k0 v4)
noncomputable def m40 (N:Nat) (v0:Val Y50):Option (qc [i50,i4]):=chk (qmh v0) (bif (!((qY v0).2:Bool))then (some (((0:Int),([]:List (Val Y33))),false,()))else (qh3 N (0:Int) (((qY v0).1).1:Int) (fun (v6:List (Val Y33))=>some (((((qY v0).1).1:Int),v6),true,())) N (0:Int) (((qY v0).1).2:List (Val Y33))))
def Γ40:Gam:=[(131,qoG),(132,qpg)]
theorem qHT:Gam.get Γ40 131=some qoG:=rfl
theorem qUX:Gam.get Γ40 132=some qpg:=rfl
def qxg:Nm:=⟨[false,false,true,false,true,false,true],[.unb 4 1 33 Y33],true⟩
theorem qU9:qxg.zero=true:=rfl
theorem qPH:qxg.fix=[.unb 4 1 33 Y33]:=rfl
theorem q2o:qxg.keep=[false,false,true,false,true,false,true]:=rfl
def qBu:Nm:=⟨[false,false,true,false,true],[],true⟩
theorem qLB:qBu.zero=true:=rfl
theorem qM9:qBu.fix=[]:=rfl
theorem qTP:qBu.keep=[false,false,true,false,true]:=rfl
def qnH:Nat→Tree:=fun _=> .done
def qsk:Nat→Nm:=fun i=>if i=5 then qxg else ⟨[],[],false⟩
def qxe:Nat→Option Jn:=fun _=>none
def qv5:Nat→Option Nm:=fun i=>if i=0 then some qBu else none
def qwc:Nat→Option Nm:=fun _=>none
theorem p40:qh qnH (Tryz.f40.body.getD .skip)=true:=by kernel_rfl
def T40 (N:Nat):Tab:={tr:=qnH,lp:=qsk,ex:=qv5,rg:=qwc,jn:=qxe,fuel:=N}
theorem qJa (N:Nat):(T40 N).pins=false:=rfl
theorem zqY (N:Nat):qk Tryz.prog (T40 N):=qo fun _=>rfl
theorem q2F (N:Nat) (i:Nat):(T40 N).tr i=qnH i:=rfl
theorem qTN (N:Nat) (i:Nat):(T40 N).lp i=qsk i:=rfl
theorem qMr (N:Nat) (i:Nat):(T40 N).ex i=qv5 i:=rfl
theorem q0M (N:Nat) (i:Nat):(T40 N).rg i=qwc i:=rfl
theorem qR4 (N:Nat) (i:Nat):(T40 N).jn i=qxe i:=rfl
theorem qV1 (N:Nat):(T40 N).fuel=N:=rfl
noncomputable def q6H:Code:=cut [true,true,true,false,true,true,true] (Tryz.f40.body.getD .skip)
theorem zkM {N:Nat} {Q:X→St→Option (qc [i50,i4])} {e:List LV} {h:List Blk}:qf tt Γ40 (T40 N) q6H Q ⟨e,h⟩=qf tt Γ40 (T40 N) (cut [true,true,true,false,true,true,true] (Tryz.f40.body.getD .skip)) Q ⟨e,h⟩:=rfl
theorem zdt (N:Nat) (v2:Int) (v3:Int) {k0:(List (Val Y33))→Option (qc [i50,i4])} {Q:X→St→Option (qc [i50,i4])} {c:Code} (hc:c=q6H) (hret: ∀st,Q .ret st=qC tt false [i50,i4] [.cell 2 50,.tmp 3] st) (h0: ∀(v5:List (Val Y33)),Q (.exit 0) ⟨[u,u,.one (.ptr 0 0 0),u,.one (.ptr 1 0 0),u,u,u,u,u,u,u,u,u,u,u,u,u,u,u,u,u,u,u,u,u,u,u,u,u,u,u,u,u,u,u,u,u,u,u,u,u],[.box [.int .i64 v2,.nils],.box [.int .i64 v3,.own 2],.row 33 Y33 v5 false true 3]⟩=k0 v5): ∀(n:Nat) (v1:Int) (v4:List (Val Y33)),qD (qf tt Γ40 (T40 N) c) false qxg Q n ⟨[u,u,.one (.ptr 0 0 0),u,.one (.ptr 1 0 0),u,.one (.int .i64 v1),u,u,u,u,u,u,u,u,u,u,u,u,u,u,u,u,u,u,u,u,u,u,u,u,u,u,u,u,u,u,u,u,u,u,u],[.box [.int .i64 v2,.nils],.box [.int .i64 v3,.own 2],.row 33 Y33 v4 false true 3]⟩=qh3 N v2 v3 k0 n v1 v4:=by
 subst hc;intro n;induction n with
 | zero=>intros;rfl
 | succ n ih=>
   intro v1 v4
   rw [qN,zkM,qh3];unfold Tryz.f40
   simp (maxSteps:=10000000) -implicitDefEqProofs [q2F,qnH,qTN,qsk,qMr,qv5,q0M,qwc,qR4,qxe,qV1,qJa,qPH,q2o,qU9,qM9,qTP,qLB,qHT,qUX,qoG,qpg,hret,h0,ih]
theorem zgS (N:Nat) (v0:Val Y50):qf tt Γ40 (T40 N) (Tryz.f40.body.getD .skip) (qm tt false [i50,i4] [.cell 2 50,.tmp 3]) (qp [i50] 42 (v0,()))=m40 N v0:=by
 unfold Tryz.f40
 simp (maxSteps:=10000000) -implicitDefEqProofs [q2F,qnH,qTN,qsk,qMr,qv5,q0M,qwc,qR4,qxe,qV1,qJa,qPH,q2o,qU9,qM9,qTP,qLB,qHT,qUX,qoG,qpg]
 rewrite [zdt (k0:=(fun (v6:List (Val Y33))=>some (((((qY v0).1).1:Int),v6),true,()))) N _ _ ?_ ?_ ?_]
 ·rewrite [m40];first | rfl | simp (maxSteps:=10000000) -implicitDefEqProofs []
 ·rfl
 ·intro;simp only [qK,qL,qJ,qB]
 ·intro v6;simp (maxSteps:=10000000) -implicitDefEqProofs [q2F,qnH,qTN,qsk,qMr,qv5,q0M,qwc,qR4,qxe,qV1,qJa,qPH,q2o,qU9,qM9,qTP,qLB,qHT,qUX,qoG,qpg]
end Go.T
