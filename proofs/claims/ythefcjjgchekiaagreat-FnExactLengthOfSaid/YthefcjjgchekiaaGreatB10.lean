/- Ratios. -/
import Derived.Test.YthefcjjgchekiaaGreatB10a
set_option linter.unusedSimpArgs false
set_option linter.unusedVariables false
namespace Go.T
open Go Go.Proofs
set_option maxHeartbeats 4000000
set_option maxRecDepth 100000
def qpj (m e:Int):Val Y28:=bif qE ((m.tdiv (q3 m e),e.tdiv (q3 m e)):Val Y28)then (m.tdiv (q3 m e),e.tdiv (q3 m e))else ((0:Int),(0:Int))
def q6 (n d:Int):Val Y28:=if d=0 then ((0:Int),(0:Int))else if d<0 then qpj (-n) (-d)else qpj n d
def qc9 (n d:Int):Prop:=inI n∧inI d
def ql7:G:={ps:=[i3,i3],rs:=[i28],dp:=true,pre:=fun x=>qc9 x.1 x.2.1,fn:=fun x=>(q6 x.1 x.2.1,())}
def qhB:G:={ps:=[i3,i3],rs:=[i28],dp:=true,pre:=fun x=>qc9 x.1 x.2.1,fn:=fun x=>(q6 x.1 x.2.1,())}
noncomputable def qlv (N:Nat) (v2:Int) (v3:Int) (v6:Int) (v7:Int) (k0:Int→Option (qc [i28])):Nat→Int→Int→Option (qc [i28])
 | 0,_,_=>none
 | n+1,v4,v5=>bif (!(decide (v5=(0:Int))))then (chk (v5≠0) (qlv N v2 v3 v6 v7 k0 n v5 (v4.tmod v5)))else (k0 v4)
noncomputable def qDd (N:Nat) (v0:Int) (v1:Int):Option (qc [i28]):=bif (decide (v1=(0:Int)))then (some (((0:Int),(0:Int)),()))else (bif (decide (v1<(0:Int)))then (qlv N (IntKind.i64.wrap (0 - v0)) (IntKind.i64.wrap (0 - v1)) (0:Int) (0:Int) (fun (v9:Int)=>chk (qbQ v9) (chk (((qal v9):Int)≠0) (chk (((qal v9):Int)≠0) (bif (!((qE ((IntKind.i64.wrap ((IntKind.i64.wrap (0 - v0)).tdiv ((qal v9):Int))),(IntKind.i64.wrap ((IntKind.i64.wrap (0 - v1)).tdiv ((qal v9):Int))))):Bool))then (some (((0:Int),(0:Int)),()))else (some (((IntKind.i64.wrap ((IntKind.i64.wrap (0 - v0)).tdiv ((qal v9):Int))),(IntKind.i64.wrap ((IntKind.i64.wrap (0 - v1)).tdiv ((qal v9):Int)))),())))))) N (IntKind.i64.wrap (0 - v0)) (IntKind.i64.wrap (0 - v1)))else (qlv N v0 v1 (0:Int) (0:Int) (fun (v10:Int)=>chk (qbQ v10) (chk (((qal v10):Int)≠0) (chk (((qal v10):Int)≠0) (bif (!((qE ((IntKind.i64.wrap (v0.tdiv ((qal v10):Int))),(IntKind.i64.wrap (v1.tdiv ((qal v10):Int))))):Bool))then (some (((0:Int),(0:Int)),()))else (some (((IntKind.i64.wrap (v0.tdiv ((qal v10):Int))),(IntKind.i64.wrap (v1.tdiv ((qal v10):Int)))),())))))) N v0 v1))
def qk6:Gam:=[(109,qaK),(278,qb1)]
theorem qC7:Gam.get qk6 109=some qaK:=rfl
theorem qCG:Gam.get qk6 278=some qb1:=rfl
def qrW:Nm:=⟨[true,true,false,false,true,true,true],[],false⟩
theorem qD4:qrW.zero=false:=rfl
theorem qzj:qrW.fix=[]:=rfl
theorem qDW:qrW.keep=[true,true,false,false,true,true,true]:=rfl
def qHb:Nm:=⟨[true,true,false,false,true,true],[],false⟩
theorem qGW:qHb.zero=false:=rfl
theorem qzO:qHb.fix=[]:=rfl
theorem qDZ:qHb.keep=[true,true,false,false,true,true]:=rfl
def qlo:Nat→Tree:=fun i=>if i=8 then .quiet 0 (.quiet 1 (.quiet 2 (.quiet 3 (.quiet 4 (.quiet 5 .done)))))else if i=10 then .first 0 (.first 1 (.first 2 (.first 3 (.first 4 (.first 5 (.first 6 (.alt 7 (.alt 8 .done .stop) .stop)))))))else .done
def qm9:Nat→Nm:=fun i=>if i=7 then qrW else ⟨[],[],false⟩
def qpA:Nat→Option Jn:=fun _=>none
def qmX:Nat→Option Nm:=fun i=>if i=0 then some qHb else none
def qob:Nat→Option Nm:=fun _=>none
theorem zit:qh qlo (Tryz.f197.body.getD .skip)=true:=by kernel_rfl
def qd6 (N:Nat):Tab:={tr:=qlo,lp:=qm9,ex:=qmX,rg:=qob,jn:=qpA,fuel:=N}
theorem qEG (N:Nat):(qd6 N).pins=false:=rfl
theorem zg0 (N:Nat):qk Tryz.prog (qd6 N):=qo fun _=>rfl
theorem qGU (N:Nat) (i:Nat):(qd6 N).tr i=qlo i:=rfl
theorem qCV (N:Nat) (i:Nat):(qd6 N).lp i=qm9 i:=rfl
theorem qB1 (N:Nat) (i:Nat):(qd6 N).ex i=qmX i:=rfl
theorem qBr (N:Nat) (i:Nat):(qd6 N).rg i=qob i:=rfl
theorem qFE (N:Nat) (i:Nat):(qd6 N).jn i=qpA i:=rfl
theorem qFP (N:Nat):(qd6 N).fuel=N:=rfl
noncomputable def q9o:Code:=cut [true,true,true,true,true,false,true,true] (Tryz.f197.body.getD .skip)
theorem zAB {N:Nat} {Q:X→St→Option (qc [i28])} {e:List LV} {h:List Blk}:qf tt qk6 (qd6 N) q9o Q ⟨e,h⟩=qf tt qk6 (qd6 N) (cut [true,true,true,true,true,false,true,true] (Tryz.f197.body.getD .skip)) Q ⟨e,h⟩:=rfl
theorem q6E (N:Nat) (v2:Int) (v3:Int) (v6:Int) (v7:Int) {k0:Int→Option (qc [i28])} {Q:X→St→Option (qc [i28])} {c:Code} (hc:c=q9o) (hret: ∀st,Q .ret st=qC tt true [i28] [.cell 4 28] st) (h0: ∀(v8:Int),Q (.exit 0) ⟨[.one (.int .i64 v2),.one (.int .i64 v3),u,u,.one (.ptr 0 0 0),.one (.int .i64 v8),u,u,u,u,u,u,u,u,u,u,u,u,u,u,u,u,u,u,u,u,u,u,u,u,u,u,u,u,u,u,u,u,u,u],[.box [.int .i64 v6,.int .i64 v7]]⟩=k0 v8): ∀(n:Nat) (v4:Int) (v5:Int),qD (qf tt qk6 (qd6 N) c) false qrW Q n ⟨[.one (.int .i64 v2),.one (.int .i64 v3),u,u,.one (.ptr 0 0 0),.one (.int .i64 v4),.one (.int .i64 v5),u,u,u,u,u,u,u,u,u,u,u,u,u,u,u,u,u,u,u,u,u,u,u,u,u,u,u,u,u,u,u,u,u],[.box [.int .i64 v6,.int .i64 v7]]⟩=qlv N v2 v3 v6 v7 k0 n v4 v5:=by
 subst hc;intro n;induction n with
 | zero=>intros;rfl
 | succ n ih=>
   intro v4 v5
   rw [qN,zAB,qlv];unfold Tryz.f197
   simp (maxSteps:=10000000) -implicitDefEqProofs [qGU,qlo,qCV,qm9,qB1,qmX,qBr,qob,qFE,qpA,qFP,qEG,qzj,qDW,qD4,qzO,qDZ,qGW,qC7,qCG,qaK,qb1,hret,h0,ih]
theorem zlT (N:Nat) (v0:Int) (v1:Int):qf tt qk6 (qd6 N) (Tryz.f197.body.getD .skip) (qm tt true [i28] [.cell 4 28]) (qp [i3,i3] 40 (v0,v1,()))=qDd N v0 v1:=by
 unfold Tryz.f197
 simp (maxSteps:=10000000) -implicitDefEqProofs [qGU,qlo,qCV,qm9,qB1,qmX,qBr,qob,qFE,qpA,qFP,qEG,qzj,qDW,qD4,qzO,qDZ,qGW,qC7,qCG,qaK,qb1]
 rewrite [q6E (k0:=(fun (v9:Int)=>chk (qbQ v9) (chk (((qal v9):Int)≠0) (chk (((qal v9):Int)≠0) (bif (!((qE ((IntKind.i64.wrap ((IntKind.i64.wrap (0 - v0)).tdiv ((qal v9):Int))),(IntKind.i64.wrap ((IntKind.i64.wrap (0 - v1)).tdiv ((qal v9):Int))))):Bool))then (some (((0:Int),(0:Int)),()))else (some (((IntKind.i64.wrap ((IntKind.i64.wrap (0 - v0)).tdiv ((qal v9):Int))),(IntKind.i64.wrap ((IntKind.i64.wrap (0 - v1)).tdiv ((qal v9):Int)))),()))))))) N _ _ _ _ ?_ ?_ ?_]
 rewrite [q6E (k0:=(fun (v10:Int)=>chk (qbQ v10) (chk (((qal v10):Int)≠0) (chk (((qal v10):Int)≠0) (bif (!((qE ((IntKind.i64.wrap (v0.tdiv ((qal v10):Int))),(IntKind.i64.wrap (v1.tdiv ((qal v10):Int))))):Bool))then (some (((0:Int),(0:Int)),()))else (some (((IntKind.i64.wrap (v0.tdiv ((qal v10):Int))),(IntKind.i64.wrap (v1.tdiv ((qal v10):Int)))),()))))))) N _ _ _ _ ?_ ?_ ?_]
 ·rewrite [qDd];first | rfl | simp (maxSteps:=10000000) -implicitDefEqProofs []
 ·rfl
 ·intro;simp only [qK,qL,qJ,qB]
 ·intro v10;simp (maxSteps:=10000000) -implicitDefEqProofs [qGU,qlo,qCV,qm9,qB1,qmX,qBr,qob,qFE,qpA,qFP,qEG,qzj,qDW,qD4,qzO,qDZ,qGW,qC7,qCG,qaK,qb1]
 ·rfl
 ·intro;simp only [qK,qL,qJ,qB]
 ·intro v9;simp (maxSteps:=10000000) -implicitDefEqProofs [qGU,qlo,qCV,qm9,qB1,qmX,qBr,qob,qFE,qpA,qFP,qEG,qzj,qDW,qD4,qzO,qDZ,qGW,qC7,qCG,qaK,qb1]
noncomputable def qBc (N:Nat) (v0:Int) (v1:Int):Option (qc [i28]):=bif (decide (v1=(0:Int)))then (some (((0:Int),(0:Int)),()))else (bif (decide (v1<(0:Int)))then (chk (qcr (IntKind.i64.wrap (0 - v0)) (IntKind.i64.wrap (0 - v1))) (chk (((q3 (IntKind.i64.wrap (0 - v0)) (IntKind.i64.wrap (0 - v1))):Int)≠0) (chk (((q3 (IntKind.i64.wrap (0 - v0)) (IntKind.i64.wrap (0 - v1))):Int)≠0) (bif (!((qE ((IntKind.i64.wrap ((IntKind.i64.wrap (0 - v0)).tdiv ((q3 (IntKind.i64.wrap (0 - v0)) (IntKind.i64.wrap (0 - v1))):Int))),(IntKind.i64.wrap ((IntKind.i64.wrap (0 - v1)).tdiv ((q3 (IntKind.i64.wrap (0 - v0)) (IntKind.i64.wrap (0 - v1))):Int))))):Bool))then (some (((0:Int),(0:Int)),()))else (some (((IntKind.i64.wrap ((IntKind.i64.wrap (0 - v0)).tdiv ((q3 (IntKind.i64.wrap (0 - v0)) (IntKind.i64.wrap (0 - v1))):Int))),(IntKind.i64.wrap ((IntKind.i64.wrap (0 - v1)).tdiv ((q3 (IntKind.i64.wrap (0 - v0)) (IntKind.i64.wrap (0 - v1))):Int)))),()))))))else (chk (qcr v0 v1) (chk (((q3 v0 v1):Int)≠0) (chk (((q3 v0 v1):Int)≠0) (bif (!((qE ((IntKind.i64.wrap (v0.tdiv ((q3 v0 v1):Int))),(IntKind.i64.wrap (v1.tdiv ((q3 v0 v1):Int))))):Bool))then (some (((0:Int),(0:Int)),()))else (some (((IntKind.i64.wrap (v0.tdiv ((q3 v0 v1):Int))),(IntKind.i64.wrap (v1.tdiv ((q3 v0 v1):Int)))),())))))))
def qGv:Gam:=[(114,qaR),(280,qbx)]
theorem zyb:Gam.get qGv 114=some qaR:=rfl
theorem zwm:Gam.get qGv 280=some qbx:=rfl
def qHp:Nat→Tree:=fun i=>if i=6 then .first 0 (.first 1 (.first 2 (.first 3 (.first 4 (.first 5 (.first 6 (.alt 7 (.alt 8 .done .stop) .stop)))))))else .done
def qTj:Nat→Nm:=fun _=>⟨[],[],false⟩
def qK6:Nat→Option Jn:=fun _=>none
def qXL:Nat→Option Nm:=fun _=>none
def q21:Nat→Option Nm:=fun _=>none
theorem ziA:qh qHp (Tryz.f241.body.getD .skip)=true:=by kernel_rfl
def qfA (N:Nat):Tab:={tr:=qHp,lp:=qTj,ex:=qXL,rg:=q21,jn:=qK6,fuel:=N}
theorem zfk (N:Nat):(qfA N).pins=false:=rfl
theorem znc (N:Nat):qk Tryz.prog (qfA N):=qo fun _=>rfl
theorem zjh (N:Nat) (i:Nat):(qfA N).tr i=qHp i:=rfl
theorem zyc (N:Nat) (i:Nat):(qfA N).lp i=qTj i:=rfl
theorem zAa (N:Nat) (i:Nat):(qfA N).ex i=qXL i:=rfl
theorem ze9 (N:Nat) (i:Nat):(qfA N).rg i=q21 i:=rfl
theorem zdF (N:Nat) (i:Nat):(qfA N).jn i=qK6 i:=rfl
theorem zxX (N:Nat):(qfA N).fuel=N:=rfl
theorem zsa (N:Nat) (v0:Int) (v1:Int):qf tt qGv (qfA N) (Tryz.f241.body.getD .skip) (qm tt true [i28] [.cell 4 28]) (qp [i3,i3] 31 (v0,v1,()))=qBc N v0 v1:=by
 rw [qBc];unfold Tryz.f241
 simp (maxSteps:=10000000) -implicitDefEqProofs [zjh,qHp,zyc,qTj,zAa,qXL,ze9,q21,zdF,qK6,zxX,zfk,zyb,zwm,qaR,qbx]
 try rfl
theorem qCY {m e:Int} (hm:inI m) (he:inI e) (h0:e≠0):(chk (q3 m e≠0) (chk (q3 m e≠0) (bif !qE ((IntKind.i64.wrap (m.tdiv (q3 m e)),IntKind.i64.wrap (e.tdiv (q3 m e))):Val Y28)then some ((((0:Int),(0:Int)),()):qc [i28])else some ((((IntKind.i64.wrap (m.tdiv (q3 m e))),(IntKind.i64.wrap (e.tdiv (q3 m e)))),()):qc [i28]))))=some ((qpj m e,()):qc [i28]):=by
 have hg:q3 m e≠0:=by
  unfold q3
  have:0<Nat.gcd m.natAbs e.natAbs:=Nat.gcd_pos_of_pos_right _ (by omega)
  omega
 have e1:IntKind.i64.wrap (m.tdiv (q3 m e))=m.tdiv (q3 m e):=qeB hm
 have e2:IntKind.i64.wrap (e.tdiv (q3 m e))=e.tdiv (q3 m e):=qeB he
 rw [qe hg,qe hg,e1,e2]
 unfold qpj
 cases qE ((m.tdiv (q3 m e),e.tdiv (q3 m e)):Val Y28)<;>rfl
theorem qhg {x:Int} (h:inI x):inI (-x):=by unfold inI at*;omega
theorem zmf (n d:Int) (h:qc9 n d): ∃N,qBc N n d=some (q6 n d,()):=⟨0,by
 rw [qBc]
 unfold q6
 by_cases h0:d=0
 ·rw [qj h0,if_pos h0]
 rw [qi h0,if_neg h0,qek h.1,qek h.2]
 by_cases h1:d<0
 ·rw [qj h1,if_pos h1,qe (show qcr (-n) (-d) from ⟨qhg h.1,qhg h.2⟩)]
  exact qCY (qhg h.1) (qhg h.2) (by omega)
 ·rw [qi h1,if_neg h1,qe (show qcr n d from ⟨h.1,h.2⟩)]
  exact qCY h.1 h.2 h0⟩
theorem q5R:Sound Tryz.prog 241 qhB:=qr (tt:=tt) (Γ:=qGv) hT (qg qiK (qg qxl qn)) hm (fn:=Tryz.f241) Tryz.func241 (c:=Tryz.f241.body.getD .skip) (by kernel_rfl) (by kernel_rfl) fun x hx=>by
 obtain ⟨N,h⟩:=zmf x.1 x.2.1 hx
 exact ⟨qfA N,ziA,qu _,znc N,(zsa N x.1 x.2.1).trans h⟩
theorem qOm (N:Nat) (p q r s:Int) (K:Int→Option (qc [i28])): ∀(n:Nat) (a b:Int),b.natAbs<n→ ∃c:Int,qlv N p q r s K n a b=K c∧c.natAbs=Nat.gcd a.natAbs b.natAbs
 | 0,_,_,h=>by omega
 | n+1,a,b,h=>by
   rw [qlv]
   by_cases hb:b=0
   ·subst hb;exact ⟨a,by simp,by simp⟩
   ·have hlt:a.natAbs % b.natAbs<b.natAbs:=Nat.mod_lt _ (by omega)
    have hm:(a.tmod b).natAbs=a.natAbs % b.natAbs:=Int.natAbs_tmod _ _
    obtain ⟨c,h1,h2⟩:=qOm N p q r s K n b (a.tmod b) (by omega)
    refine ⟨c,?_,?_⟩
    ·rw [decide_eq_false hb,qe hb];exact h1
    ·rw [h2,hm,Nat.gcd_comm b.natAbs,←Nat.gcd_rec,Nat.gcd_comm]
theorem zu8 (n d:Int) (h:qc9 n d): ∃N,qDd N n d=some (q6 n d,()):=⟨d.natAbs+1,by
 rw [qDd]
 unfold q6
 by_cases h0:d=0
 ·rw [qj h0,if_pos h0]
 rw [qi h0,if_neg h0,qek h.1,qek h.2]
 by_cases h1:d<0
 ·rw [qj h1,if_pos h1]
  obtain ⟨c,g1,g2⟩:=qOm (d.natAbs+1) (-n) (-d) 0 0 _ (d.natAbs+1) (-n) (-d) (by omega)
  refine g1.trans ?_
  obtain ⟨g3,g4⟩:=qQF (qhg h.1) (qhg h.2) g2
  dsimp only
  rw [qe g3,g4]
  exact qCY (qhg h.1) (qhg h.2) (by omega)
 ·rw [qi h1,if_neg h1]
  obtain ⟨c,g1,g2⟩:=qOm (d.natAbs+1) n d 0 0 _ (d.natAbs+1) n d (by omega)
  refine g1.trans ?_
  obtain ⟨g3,g4⟩:=qQF h.1 h.2 g2
  dsimp only
  rw [qe g3,g4]
  exact qCY h.1 h.2 h0⟩
theorem q7I:Sound Tryz.prog 197 ql7:=qr (tt:=tt) (Γ:=qk6) hT (qg qms (qg qI8 qn)) hm (fn:=Tryz.f197) Tryz.func197 (c:=Tryz.f197.body.getD .skip) (by kernel_rfl) (by kernel_rfl) fun x hx=>by
 obtain ⟨N,h⟩:=zu8 x.1 x.2.1 hx
 exact ⟨qd6 N,zit,qu _,zg0 N,(zlT N x.1 x.2.1).trans h⟩
def qq (n d:Int):Val Y28:=bif qae n&&qae d then q6 n d else ((0:Int),(0:Int))
def qDL:G:={ps:=[i3,i3],rs:=[i28],dp:=true,pre:=fun _=>True,fn:=fun x=>(qq x.1 x.2.1,())}
noncomputable def qEL (N:Nat) (v0:Int) (v1:Int):Option (qc [i28]):=bif (!((qae v0):Bool))then (some (((0:Int),(0:Int)),()))else (bif (!((qae v1):Bool))then (some (((0:Int),(0:Int)),()))else (chk (qc9 v0 v1) (some ((((q6 v0 v1).1:Int),((q6 v0 v1).2:Int)),()))))
def qCZ:Gam:=[(194,qcu),(197,ql7)]
theorem zxT:Gam.get qCZ 194=some qcu:=rfl
theorem zyx:Gam.get qCZ 197=some ql7:=rfl
def qBm:Nat→Tree:=fun _=> .done
def qYa:Nat→Nm:=fun _=>⟨[],[],false⟩
def qKa:Nat→Option Jn:=fun _=>none
def qUA:Nat→Option Nm:=fun _=>none
def qTm:Nat→Option Nm:=fun _=>none
theorem zgH:qh qBm (Tryz.f314.body.getD .skip)=true:=by kernel_rfl
def qfe (N:Nat):Tab:={tr:=qBm,lp:=qYa,ex:=qUA,rg:=qTm,jn:=qKa,fuel:=N}
theorem zeK (N:Nat):(qfe N).pins=false:=rfl
theorem zgK (N:Nat):qk Tryz.prog (qfe N):=qo fun _=>rfl
theorem zz2 (N:Nat) (i:Nat):(qfe N).tr i=qBm i:=rfl
theorem zbe (N:Nat) (i:Nat):(qfe N).lp i=qYa i:=rfl
theorem zqa (N:Nat) (i:Nat):(qfe N).ex i=qUA i:=rfl
theorem zeY (N:Nat) (i:Nat):(qfe N).rg i=qTm i:=rfl
theorem zo3 (N:Nat) (i:Nat):(qfe N).jn i=qKa i:=rfl
theorem zuf (N:Nat):(qfe N).fuel=N:=rfl
theorem zpz (N:Nat) (v0:Int) (v1:Int):qf tt qCZ (qfe N) (Tryz.f314.body.getD .skip) (qm tt true [i28] [.cell 4 28]) (qp [i3,i3] 17 (v0,v1,()))=qEL N v0 v1:=by
 rw [qEL];unfold Tryz.f314
 simp (maxSteps:=10000000) -implicitDefEqProofs [zz2,qBm,zbe,qYa,zqa,qUA,zeY,qTm,zo3,qKa,zuf,zeK,zxT,zyx,qcu,ql7]
 try rfl
theorem zkd (n d:Int): ∃N,qEL N n d=some (qq n d,()):=⟨0,by
 rw [qEL]
 unfold qq
 cases ha:qae n with
 | false=>rfl
 | true=>
   cases hb:qae d with
   | false=>rfl
   | true=>
     simp only [Bool.not_true,cond_false,Bool.and_self,cond_true]
     rw [qe (show qc9 n d from ⟨qeX ha,qeX hb⟩)]⟩
theorem zc4:Sound Tryz.prog 314 qDL:=qr (tt:=tt) (Γ:=qCZ) hT (qg qDC (qg q7I qn)) hm (fn:=Tryz.f314) Tryz.func314 (c:=Tryz.f314.body.getD .skip) (by kernel_rfl) (by kernel_rfl) fun x hx=>by
 obtain ⟨N,h⟩:=zkd x.1 x.2.1
 exact ⟨qfe N,zgH,qu _,zgK N,(zpz N x.1 x.2.1).trans h⟩
def qbB (a b:Val Y28):Int:=bif qE a&&qE b then sgn (a.1*b.2) (b.1*a.2)else 2
def qeU:G:={ps:=[i28,i28],rs:=[i3],dp:=true,pre:=fun _=>True,fn:=fun x=>(qbB x.1 x.2.1,())}
noncomputable def qAL (N:Nat) (v0:Val Y28) (v1:Val Y28):Option (qc [i3]):=bif (!((qE v0):Bool))then (some ((2:Int),()))else (bif (!((qE v1):Bool))then (some ((2:Int),()))else (bif (decide ((IntKind.i64.wrap ((v0.1:Int)*(v1.2:Int)))<(IntKind.i64.wrap ((v1.1:Int)*(v0.2:Int)))))then (some ((-1:Int),()))else (bif (decide ((IntKind.i64.wrap ((v1.1:Int)*(v0.2:Int)))<(IntKind.i64.wrap ((v0.1:Int)*(v1.2:Int)))))then (some ((1:Int),()))else (some ((0:Int),())))))
def qMw:Gam:=[(114,qaR)]
theorem zkk:Gam.get qMw 114=some qaR:=rfl
def qBV:Nat→Tree:=fun i=>if i=3 then .quiet 0 (.quiet 1 (.quiet 2 (.quiet 3 (.quiet 4 (.quiet 5 (.quiet 6 (.quiet 7 (.quiet 8 (.quiet 9 (.quiet 10 (.quiet 11 .done)))))))))))else .done
def q1R:Nat→Nm:=fun _=>⟨[],[],false⟩
def q1U:Nat→Option Jn:=fun _=>none
def qM1:Nat→Option Nm:=fun _=>none
def q2X:Nat→Option Nm:=fun _=>none
theorem zw7:qh qBV (Tryz.f127.body.getD .skip)=true:=by kernel_rfl
def qfv (N:Nat):Tab:={tr:=qBV,lp:=q1R,ex:=qM1,rg:=q2X,jn:=q1U,fuel:=N}
theorem zzj (N:Nat):(qfv N).pins=false:=rfl
theorem zq5 (N:Nat):qk Tryz.prog (qfv N):=qo fun _=>rfl
theorem zbl (N:Nat) (i:Nat):(qfv N).tr i=qBV i:=rfl
theorem zzz (N:Nat) (i:Nat):(qfv N).lp i=q1R i:=rfl
theorem zqq (N:Nat) (i:Nat):(qfv N).ex i=qM1 i:=rfl
theorem zod (N:Nat) (i:Nat):(qfv N).rg i=q2X i:=rfl
theorem zjS (N:Nat) (i:Nat):(qfv N).jn i=q1U i:=rfl
theorem zth (N:Nat):(qfv N).fuel=N:=rfl
theorem zgB (N:Nat) (v0:Val Y28) (v1:Val Y28):qf tt qMw (qfv N) (Tryz.f127.body.getD .skip) (qm tt true [i3] [.tmp 4]) (qp [i28,i28] 31 (v0,v1,()))=qAL N v0 v1:=by
 rw [qAL];unfold Tryz.f127
 simp (maxSteps:=10000000) -implicitDefEqProofs [zbl,qBV,zzz,q1R,zqq,qM1,zod,q2X,zjS,q1U,zth,zzj,zkk,qaR]
 try rfl
theorem zfb (a b:Val Y28): ∃N,qAL N a b=some (qbB a b,()):=⟨0,by
 rw [qAL]
 unfold qbB
 cases ha:qE a with
 | false=>rfl
 | true=>
   cases hb:qE b with
   | false=>rfl
   | true=>
     simp only [Bool.not_true,cond_false,Bool.and_self,cond_true]
     rw [qiy (qct ha).1 (qct hb).2,qiy (qct hb).1 (qct ha).2]
     unfold sgn
     by_cases h1:(a.1:Int)*b.2<b.1*a.2
     ·rw [qj h1,if_pos h1]
     ·rw [qi h1,if_neg h1]
      by_cases h2:(b.1:Int)*a.2<a.1*b.2
      ·rw [qj h2,if_pos h2]
      ·rw [qi h2,if_neg h2]⟩
theorem q9U:Sound Tryz.prog 127 qeU:=qr (tt:=tt) (Γ:=qMw) hT (qg qiK qn) hm (fn:=Tryz.f127) Tryz.func127 (c:=Tryz.f127.body.getD .skip) (by kernel_rfl) (by kernel_rfl) fun x hx=>by
 obtain ⟨N,h⟩:=zfb x.1 x.2.1
 exact ⟨qfv N,zw7,qu _,zq5 N,(zgB N x.1 x.2.1).trans h⟩
def qaJ (a b:Val Y28):Bool:=decide ((a.1:Int)*b.2<b.1*a.2)
def qc2 (a b:Val Y28):Prop:=qgp a∧qgp b
def qg6:G:={ps:=[i28,i28],rs:=[i4],dp:=true,pre:=fun x=>qc2 x.1 x.2.1,fn:=fun x=>(qaJ x.1 x.2.1,())}
noncomputable def qFS (N:Nat) (v0:Val Y28) (v1:Val Y28):Option (qc [i4]):=some ((decide ((IntKind.i64.wrap ((v0.1:Int)*(v1.2:Int)))<(IntKind.i64.wrap ((v1.1:Int)*(v0.2:Int))))),())
def q6x:Gam:=[]
def qDy:Nat→Tree:=fun _=> .done
def qZ8:Nat→Nm:=fun _=>⟨[],[],false⟩
def q4h:Nat→Option Jn:=fun _=>none
def qPE:Nat→Option Nm:=fun _=>none
def qQu:Nat→Option Nm:=fun _=>none
theorem zpl:qh qDy (Tryz.f122.body.getD .skip)=true:=by kernel_rfl
def qfB (N:Nat):Tab:={tr:=qDy,lp:=qZ8,ex:=qPE,rg:=qQu,jn:=q4h,fuel:=N}
theorem zqu (N:Nat):(qfB N).pins=false:=rfl
theorem zht (N:Nat):qk Tryz.prog (qfB N):=qo fun _=>rfl
theorem zym (N:Nat) (i:Nat):(qfB N).tr i=qDy i:=rfl
theorem ztm (N:Nat) (i:Nat):(qfB N).lp i=qZ8 i:=rfl
theorem zBt (N:Nat) (i:Nat):(qfB N).ex i=qPE i:=rfl
theorem zcC (N:Nat) (i:Nat):(qfB N).rg i=qQu i:=rfl
theorem zpE (N:Nat) (i:Nat):(qfB N).jn i=q4h i:=rfl
theorem zAo (N:Nat):(qfB N).fuel=N:=rfl
theorem zAZ (N:Nat) (v0:Val Y28) (v1:Val Y28):qf tt q6x (qfB N) (Tryz.f122.body.getD .skip) (qm tt true [i4] [.tmp 4]) (qp [i28,i28] 16 (v0,v1,()))=qFS N v0 v1:=by
 rw [qFS];unfold Tryz.f122
 simp (maxSteps:=10000000) -implicitDefEqProofs [zym,qDy,ztm,qZ8,zBt,qPE,zcC,qQu,zpE,q4h,zAo,zqu]
 try rfl
theorem zA3 (a b:Val Y28) (h:qc2 a b): ∃N,qFS N a b=some (qaJ a b,()):=⟨0,by
 rw [qFS,qiy h.1.1 h.2.2,qiy h.2.1 h.1.2]
 rfl⟩
theorem q88:Sound Tryz.prog 122 qg6:=qr (tt:=tt) (Γ:=q6x) hT qn hm (fn:=Tryz.f122) Tryz.func122 (c:=Tryz.f122.body.getD .skip) (by kernel_rfl) (by kernel_rfl) fun x hx=>by
 obtain ⟨N,h⟩:=zA3 x.1 x.2.1 hx
 exact ⟨qfB N,zpl,qu _,zht N,(zAZ N x.1 x.2.1).trans h⟩
end Go.T
