/- Ratios. -/
import Derived.Test.YthefcjjgchekiaaGreatB10a
set_option linter.unusedSimpArgs false
set_option linter.unusedVariables false
namespace Go.T
open Go Go.Proofs
set_option maxHeartbeats 4000000
set_option maxRecDepth 100000
def qfE (m e:Int):Val Y28:=bif qi ((m.tdiv (qS m e),e.tdiv (qS m e)):Val Y28)then (m.tdiv (qS m e),e.tdiv (qS m e))else ((0:Int),(0:Int))
def qQ (n d:Int):Val Y28:=if d=0 then ((0:Int),(0:Int))else if d<0 then qfE (-n) (-d)else qfE n d
def qb2 (n d:Int):Prop:=inI n∧inI d
def qfY:G:={ps:=[i3,i3],rs:=[i28],dp:=true,pre:=fun x=>qb2 x.1 x.2.1,fn:=fun x=>(qQ x.1 x.2.1,())}
def qd0:G:={ps:=[i3,i3],rs:=[i28],dp:=true,pre:=fun x=>qb2 x.1 x.2.1,fn:=fun x=>(qQ x.1 x.2.1,())}
noncomputable def qmO (N:Nat) (v2:Int) (v3:Int) (v6:Int) (v7:Int) (k0:Int→Option (qc [i28])):Nat→Int→Int→Option (qc [i28])
 | 0,_,_=>none
 | n+1,v4,v5=>bif (!(decide (v5=(0:Int))))then (chk (v5≠0) (qmO N v2 v3 v6 v7 k0 n v5 (v4.tmod v5)))else (k0 v4)
noncomputable def qES (N:Nat) (v0:Int) (v1:Int):Option (qc [i28]):=bif (decide (v1=(0:Int)))then (some (((0:Int),(0:Int)),()))else (bif (decide (v1<(0:Int)))then (qmO N (IntKind.i64.wrap (0 - v0)) (IntKind.i64.wrap (0 - v1)) (0:Int) (0:Int) (fun (v9:Int)=>chk (qbE v9) (chk (((qag v9):Int)≠0) (chk (((qag v9):Int)≠0) (bif (!((qi ((IntKind.i64.wrap ((IntKind.i64.wrap (0 - v0)).tdiv ((qag v9):Int))),(IntKind.i64.wrap ((IntKind.i64.wrap (0 - v1)).tdiv ((qag v9):Int))))):Bool))then (some (((0:Int),(0:Int)),()))else (some (((IntKind.i64.wrap ((IntKind.i64.wrap (0 - v0)).tdiv ((qag v9):Int))),(IntKind.i64.wrap ((IntKind.i64.wrap (0 - v1)).tdiv ((qag v9):Int)))),())))))) N (IntKind.i64.wrap (0 - v0)) (IntKind.i64.wrap (0 - v1)))else (qmO N v0 v1 (0:Int) (0:Int) (fun (v10:Int)=>chk (qbE v10) (chk (((qag v10):Int)≠0) (chk (((qag v10):Int)≠0) (bif (!((qi ((IntKind.i64.wrap (v0.tdiv ((qag v10):Int))),(IntKind.i64.wrap (v1.tdiv ((qag v10):Int))))):Bool))then (some (((0:Int),(0:Int)),()))else (some (((IntKind.i64.wrap (v0.tdiv ((qag v10):Int))),(IntKind.i64.wrap (v1.tdiv ((qag v10):Int)))),())))))) N v0 v1))
def qlA:Gam:=[(109,qar),(278,qbP)]
theorem qDZ:Gam.get qlA 109=some qar:=rfl
theorem qAg:Gam.get qlA 278=some qbP:=rfl
def qrG:Nm:=⟨[true,true,false,false,true,true,true],[],false⟩
theorem qBw:qrG.zero=false:=rfl
theorem qDo:qrG.fix=[]:=rfl
theorem qAo:qrG.keep=[true,true,false,false,true,true,true]:=rfl
def qAn:Nm:=⟨[true,true,false,false,true,true],[],false⟩
theorem qxQ:qAn.zero=false:=rfl
theorem qBJ:qAn.fix=[]:=rfl
theorem qBo:qAn.keep=[true,true,false,false,true,true]:=rfl
def qjs:Nat→Tree:=fun i=>if i=8 then .quiet 0 (.quiet 1 (.quiet 2 (.quiet 3 (.quiet 4 (.quiet 5 .done)))))else if i=10 then .first 0 (.first 1 (.first 2 (.first 3 (.first 4 (.first 5 (.first 6 (.alt 7 (.alt 8 .done .stop) .stop)))))))else .done
def qm2:Nat→Nm:=fun i=>if i=7 then qrG else ⟨[],[],false⟩
def qpc:Nat→Option Jn:=fun _=>none
def qo9:Nat→Option Nm:=fun i=>if i=0 then some qAn else none
def qpo:Nat→Option Nm:=fun _=>none
theorem zmw:qn qjs (Tryz.f197.body.getD .skip)=true:=by kernel_rfl
def qdb (N:Nat):Tab:={tr:=qjs,lp:=qm2,ex:=qo9,rg:=qpo,jn:=qpc,fuel:=N}
theorem qAJ (N:Nat):(qdb N).pins=false:=rfl
theorem q6M (N:Nat):qp Tryz.prog (qdb N):=qv fun _=>rfl
theorem qy2 (N:Nat) (i:Nat):(qdb N).tr i=qjs i:=rfl
theorem qCW (N:Nat) (i:Nat):(qdb N).lp i=qm2 i:=rfl
theorem qAm (N:Nat) (i:Nat):(qdb N).ex i=qo9 i:=rfl
theorem qEw (N:Nat) (i:Nat):(qdb N).rg i=qpo i:=rfl
theorem qx2 (N:Nat) (i:Nat):(qdb N).jn i=qpc i:=rfl
theorem qDq (N:Nat):(qdb N).fuel=N:=rfl
noncomputable def q0Z:Code:=cut [true,true,true,true,true,false,true,true] (Tryz.f197.body.getD .skip)
theorem zqX {N:Nat} {Q:X→St→Option (qc [i28])} {e:List LV} {h:List Blk}:qe tt qlA (qdb N) q0Z Q ⟨e,h⟩=qe tt qlA (qdb N) (cut [true,true,true,true,true,false,true,true] (Tryz.f197.body.getD .skip)) Q ⟨e,h⟩:=rfl
theorem q24 (N:Nat) (v2:Int) (v3:Int) (v6:Int) (v7:Int) {k0:Int→Option (qc [i28])} {Q:X→St→Option (qc [i28])} {c:Code} (hc:c=q0Z) (hret: ∀st,Q .ret st=qI tt true [i28] [.cell 4 28] st) (h0: ∀(v8:Int),Q (.exit 0) ⟨[.one (.int .i64 v2),.one (.int .i64 v3),u,u,.one (.ptr 0 0 0),.one (.int .i64 v8),u,u,u,u,u,u,u,u,u,u,u,u,u,u,u,u,u,u,u,u,u,u,u,u,u,u,u,u,u,u,u,u,u,u],[.box [.int .i64 v6,.int .i64 v7]]⟩=k0 v8): ∀(n:Nat) (v4:Int) (v5:Int),qE (qe tt qlA (qdb N) c) false qrG Q n ⟨[.one (.int .i64 v2),.one (.int .i64 v3),u,u,.one (.ptr 0 0 0),.one (.int .i64 v4),.one (.int .i64 v5),u,u,u,u,u,u,u,u,u,u,u,u,u,u,u,u,u,u,u,u,u,u,u,u,u,u,u,u,u,u,u,u,u],[.box [.int .i64 v6,.int .i64 v7]]⟩=qmO N v2 v3 v6 v7 k0 n v4 v5:=by
 subst hc;intro n;induction n with
 | zero=>intros;rfl
 | succ n ih=>
   intro v4 v5
   rw [qN,zqX,qmO];unfold Tryz.f197
   simp (maxSteps:=10000000) -implicitDefEqProofs [qy2,qjs,qCW,qm2,qAm,qo9,qEw,qpo,qx2,qpc,qDq,qAJ,qDo,qAo,qBw,qBJ,qBo,qxQ,qDZ,qAg,qar,qbP,hret,h0,ih]
theorem zkM (N:Nat) (v0:Int) (v1:Int):qe tt qlA (qdb N) (Tryz.f197.body.getD .skip) (qt tt true [i28] [.cell 4 28]) (qw [i3,i3] 40 (v0,v1,()))=qES N v0 v1:=by
 unfold Tryz.f197
 simp (maxSteps:=10000000) -implicitDefEqProofs [qy2,qjs,qCW,qm2,qAm,qo9,qEw,qpo,qx2,qpc,qDq,qAJ,qDo,qAo,qBw,qBJ,qBo,qxQ,qDZ,qAg,qar,qbP]
 rewrite [q24 (k0:=(fun (v9:Int)=>chk (qbE v9) (chk (((qag v9):Int)≠0) (chk (((qag v9):Int)≠0) (bif (!((qi ((IntKind.i64.wrap ((IntKind.i64.wrap (0 - v0)).tdiv ((qag v9):Int))),(IntKind.i64.wrap ((IntKind.i64.wrap (0 - v1)).tdiv ((qag v9):Int))))):Bool))then (some (((0:Int),(0:Int)),()))else (some (((IntKind.i64.wrap ((IntKind.i64.wrap (0 - v0)).tdiv ((qag v9):Int))),(IntKind.i64.wrap ((IntKind.i64.wrap (0 - v1)).tdiv ((qag v9):Int)))),()))))))) N _ _ _ _ ?_ ?_ ?_]
 rewrite [q24 (k0:=(fun (v10:Int)=>chk (qbE v10) (chk (((qag v10):Int)≠0) (chk (((qag v10):Int)≠0) (bif (!((qi ((IntKind.i64.wrap (v0.tdiv ((qag v10):Int))),(IntKind.i64.wrap (v1.tdiv ((qag v10):Int))))):Bool))then (some (((0:Int),(0:Int)),()))else (some (((IntKind.i64.wrap (v0.tdiv ((qag v10):Int))),(IntKind.i64.wrap (v1.tdiv ((qag v10):Int)))),()))))))) N _ _ _ _ ?_ ?_ ?_]
 ·rewrite [qES];first | rfl | simp (maxSteps:=10000000) -implicitDefEqProofs []
 ·rfl
 ·intro;simp only [qJ,qL,qK,qB]
 ·intro v10;simp (maxSteps:=10000000) -implicitDefEqProofs [qy2,qjs,qCW,qm2,qAm,qo9,qEw,qpo,qx2,qpc,qDq,qAJ,qDo,qAo,qBw,qBJ,qBo,qxQ,qDZ,qAg,qar,qbP]
 ·rfl
 ·intro;simp only [qJ,qL,qK,qB]
 ·intro v9;simp (maxSteps:=10000000) -implicitDefEqProofs [qy2,qjs,qCW,qm2,qAm,qo9,qEw,qpo,qx2,qpc,qDq,qAJ,qDo,qAo,qBw,qBJ,qBo,qxQ,qDZ,qAg,qar,qbP]
noncomputable def qB5 (N:Nat) (v0:Int) (v1:Int):Option (qc [i28]):=bif (decide (v1=(0:Int)))then (some (((0:Int),(0:Int)),()))else (bif (decide (v1<(0:Int)))then (chk (qb5 (IntKind.i64.wrap (0 - v0)) (IntKind.i64.wrap (0 - v1))) (chk (((qS (IntKind.i64.wrap (0 - v0)) (IntKind.i64.wrap (0 - v1))):Int)≠0) (chk (((qS (IntKind.i64.wrap (0 - v0)) (IntKind.i64.wrap (0 - v1))):Int)≠0) (bif (!((qi ((IntKind.i64.wrap ((IntKind.i64.wrap (0 - v0)).tdiv ((qS (IntKind.i64.wrap (0 - v0)) (IntKind.i64.wrap (0 - v1))):Int))),(IntKind.i64.wrap ((IntKind.i64.wrap (0 - v1)).tdiv ((qS (IntKind.i64.wrap (0 - v0)) (IntKind.i64.wrap (0 - v1))):Int))))):Bool))then (some (((0:Int),(0:Int)),()))else (some (((IntKind.i64.wrap ((IntKind.i64.wrap (0 - v0)).tdiv ((qS (IntKind.i64.wrap (0 - v0)) (IntKind.i64.wrap (0 - v1))):Int))),(IntKind.i64.wrap ((IntKind.i64.wrap (0 - v1)).tdiv ((qS (IntKind.i64.wrap (0 - v0)) (IntKind.i64.wrap (0 - v1))):Int)))),()))))))else (chk (qb5 v0 v1) (chk (((qS v0 v1):Int)≠0) (chk (((qS v0 v1):Int)≠0) (bif (!((qi ((IntKind.i64.wrap (v0.tdiv ((qS v0 v1):Int))),(IntKind.i64.wrap (v1.tdiv ((qS v0 v1):Int))))):Bool))then (some (((0:Int),(0:Int)),()))else (some (((IntKind.i64.wrap (v0.tdiv ((qS v0 v1):Int))),(IntKind.i64.wrap (v1.tdiv ((qS v0 v1):Int)))),())))))))
def qzr:Gam:=[(114,qau),(280,qbg)]
theorem zcB:Gam.get qzr 114=some qau:=rfl
theorem zbj:Gam.get qzr 280=some qbg:=rfl
def qyw:Nat→Tree:=fun i=>if i=6 then .first 0 (.first 1 (.first 2 (.first 3 (.first 4 (.first 5 (.first 6 (.alt 7 (.alt 8 .done .stop) .stop)))))))else .done
def qPU:Nat→Nm:=fun _=>⟨[],[],false⟩
def qFF:Nat→Option Jn:=fun _=>none
def qFb:Nat→Option Nm:=fun _=>none
def qI8:Nat→Option Nm:=fun _=>none
theorem q4R:qn qyw (Tryz.f241.body.getD .skip)=true:=by kernel_rfl
def qfu (N:Nat):Tab:={tr:=qyw,lp:=qPU,ex:=qFb,rg:=qI8,jn:=qFF,fuel:=N}
theorem zlm (N:Nat):(qfu N).pins=false:=rfl
theorem zkh (N:Nat):qp Tryz.prog (qfu N):=qv fun _=>rfl
theorem zau (N:Nat) (i:Nat):(qfu N).tr i=qyw i:=rfl
theorem zdg (N:Nat) (i:Nat):(qfu N).lp i=qPU i:=rfl
theorem zge (N:Nat) (i:Nat):(qfu N).ex i=qFb i:=rfl
theorem zn9 (N:Nat) (i:Nat):(qfu N).rg i=qI8 i:=rfl
theorem ziG (N:Nat) (i:Nat):(qfu N).jn i=qFF i:=rfl
theorem zkZ (N:Nat):(qfu N).fuel=N:=rfl
theorem zpC (N:Nat) (v0:Int) (v1:Int):qe tt qzr (qfu N) (Tryz.f241.body.getD .skip) (qt tt true [i28] [.cell 4 28]) (qw [i3,i3] 31 (v0,v1,()))=qB5 N v0 v1:=by
 rw [qB5];unfold Tryz.f241
 simp (maxSteps:=10000000) -implicitDefEqProofs [zau,qyw,zdg,qPU,zge,qFb,zn9,qI8,ziG,qFF,zkZ,zlm,zcB,zbj,qau,qbg]
 try rfl
theorem qEG {m e:Int} (hm:inI m) (he:inI e) (h0:e≠0):(chk (qS m e≠0) (chk (qS m e≠0) (bif !qi ((IntKind.i64.wrap (m.tdiv (qS m e)),IntKind.i64.wrap (e.tdiv (qS m e))):Val Y28)then some ((((0:Int),(0:Int)),()):qc [i28])else some ((((IntKind.i64.wrap (m.tdiv (qS m e))),(IntKind.i64.wrap (e.tdiv (qS m e)))),()):qc [i28]))))=some ((qfE m e,()):qc [i28]):=by
 have hg:qS m e≠0:=by
  unfold qS
  have:0<Nat.gcd m.natAbs e.natAbs:=Nat.gcd_pos_of_pos_right _ (by omega)
  omega
 have e1:IntKind.i64.wrap (m.tdiv (qS m e))=m.tdiv (qS m e):=qen hm
 have e2:IntKind.i64.wrap (e.tdiv (qS m e))=e.tdiv (qS m e):=qen he
 rw [qd hg,qd hg,e1,e2]
 unfold qfE
 cases qi ((m.tdiv (qS m e),e.tdiv (qS m e)):Val Y28)<;>rfl
theorem qg5 {x:Int} (h:inI x):inI (-x):=by unfold inI at*;omega
theorem zj2 (n d:Int) (h:qb2 n d): ∃N,qB5 N n d=some (qQ n d,()):=⟨0,by
 rw [qB5]
 unfold qQ
 by_cases h0:d=0
 ·rw [qk h0,if_pos h0]
 rw [qj h0,if_neg h0,qjd h.1,qjd h.2]
 by_cases h1:d<0
 ·rw [qk h1,if_pos h1,qd (show qb5 (-n) (-d) from ⟨qg5 h.1,qg5 h.2⟩)]
  exact qEG (qg5 h.1) (qg5 h.2) (by omega)
 ·rw [qj h1,if_neg h1,qd (show qb5 n d from ⟨h.1,h.2⟩)]
  exact qEG h.1 h.2 h0⟩
theorem qVn:Sound Tryz.prog 241 qd0:=qx (tt:=tt) (Γ:=qzr) hT (qg qhY (qg qxg qu)) hm (fn:=Tryz.f241) Tryz.func241 (c:=Tryz.f241.body.getD .skip) (by kernel_rfl) (by kernel_rfl) fun x hx=>by
 obtain ⟨N,h⟩:=zj2 x.1 x.2.1 hx
 exact ⟨qfu N,q4R,qy _,zkh N,(zpC N x.1 x.2.1).trans h⟩
theorem qNf (N:Nat) (p q r s:Int) (K:Int→Option (qc [i28])): ∀(n:Nat) (a b:Int),b.natAbs<n→ ∃c:Int,qmO N p q r s K n a b=K c∧c.natAbs=Nat.gcd a.natAbs b.natAbs
 | 0,_,_,h=>by omega
 | n+1,a,b,h=>by
   rw [qmO]
   by_cases hb:b=0
   ·subst hb;exact ⟨a,by simp,by simp⟩
   ·have hlt:a.natAbs % b.natAbs<b.natAbs:=Nat.mod_lt _ (by omega)
    have hm:(a.tmod b).natAbs=a.natAbs % b.natAbs:=Int.natAbs_tmod _ _
    obtain ⟨c,h1,h2⟩:=qNf N p q r s K n b (a.tmod b) (by omega)
    refine ⟨c,?_,?_⟩
    ·rw [decide_eq_false hb,qd hb];exact h1
    ·rw [h2,hm,Nat.gcd_comm b.natAbs,←Nat.gcd_rec,Nat.gcd_comm]
theorem q95 (n d:Int) (h:qb2 n d): ∃N,qES N n d=some (qQ n d,()):=⟨d.natAbs+1,by
 rw [qES]
 unfold qQ
 by_cases h0:d=0
 ·rw [qk h0,if_pos h0]
 rw [qj h0,if_neg h0,qjd h.1,qjd h.2]
 by_cases h1:d<0
 ·rw [qk h1,if_pos h1]
  obtain ⟨c,g1,g2⟩:=qNf (d.natAbs+1) (-n) (-d) 0 0 _ (d.natAbs+1) (-n) (-d) (by omega)
  refine g1.trans ?_
  obtain ⟨g3,g4⟩:=qIX (qg5 h.1) (qg5 h.2) g2
  dsimp only
  rw [qd g3,g4]
  exact qEG (qg5 h.1) (qg5 h.2) (by omega)
 ·rw [qj h1,if_neg h1]
  obtain ⟨c,g1,g2⟩:=qNf (d.natAbs+1) n d 0 0 _ (d.natAbs+1) n d (by omega)
  refine g1.trans ?_
  obtain ⟨g3,g4⟩:=qIX h.1 h.2 g2
  dsimp only
  rw [qd g3,g4]
  exact qEG h.1 h.2 h0⟩
theorem qKx:Sound Tryz.prog 197 qfY:=qx (tt:=tt) (Γ:=qlA) hT (qg qiS (qg qHT qu)) hm (fn:=Tryz.f197) Tryz.func197 (c:=Tryz.f197.body.getD .skip) (by kernel_rfl) (by kernel_rfl) fun x hx=>by
 obtain ⟨N,h⟩:=q95 x.1 x.2.1 hx
 exact ⟨qdb N,zmw,qy _,q6M N,(zkM N x.1 x.2.1).trans h⟩
def ql (n d:Int):Val Y28:=bif qR n&&qR d then qQ n d else ((0:Int),(0:Int))
def qyO:G:={ps:=[i3,i3],rs:=[i28],dp:=true,pre:=fun _=>True,fn:=fun x=>(ql x.1 x.2.1,())}
noncomputable def qz3 (N:Nat) (v0:Int) (v1:Int):Option (qc [i28]):=bif (!((qR v0):Bool))then (some (((0:Int),(0:Int)),()))else (bif (!((qR v1):Bool))then (some (((0:Int),(0:Int)),()))else (chk (qb2 v0 v1) (some ((((qQ v0 v1).1:Int),((qQ v0 v1).2:Int)),()))))
def qyX:Gam:=[(194,qbl),(197,qfY)]
theorem zm7:Gam.get qyX 194=some qbl:=rfl
theorem q7u:Gam.get qyX 197=some qfY:=rfl
def qD7:Nat→Tree:=fun _=> .done
def qNQ:Nat→Nm:=fun _=>⟨[],[],false⟩
def qLn:Nat→Option Jn:=fun _=>none
def qFK:Nat→Option Nm:=fun _=>none
def qJu:Nat→Option Nm:=fun _=>none
theorem zkl:qn qD7 (Tryz.f314.body.getD .skip)=true:=by kernel_rfl
def qfj (N:Nat):Tab:={tr:=qD7,lp:=qNQ,ex:=qFK,rg:=qJu,jn:=qLn,fuel:=N}
theorem zej (N:Nat):(qfj N).pins=false:=rfl
theorem zjo (N:Nat):qp Tryz.prog (qfj N):=qv fun _=>rfl
theorem q6e (N:Nat) (i:Nat):(qfj N).tr i=qD7 i:=rfl
theorem zan (N:Nat) (i:Nat):(qfj N).lp i=qNQ i:=rfl
theorem zes (N:Nat) (i:Nat):(qfj N).ex i=qFK i:=rfl
theorem zgf (N:Nat) (i:Nat):(qfj N).rg i=qJu i:=rfl
theorem q9U (N:Nat) (i:Nat):(qfj N).jn i=qLn i:=rfl
theorem zaL (N:Nat):(qfj N).fuel=N:=rfl
theorem zdO (N:Nat) (v0:Int) (v1:Int):qe tt qyX (qfj N) (Tryz.f314.body.getD .skip) (qt tt true [i28] [.cell 4 28]) (qw [i3,i3] 17 (v0,v1,()))=qz3 N v0 v1:=by
 rw [qz3];unfold Tryz.f314
 simp (maxSteps:=10000000) -implicitDefEqProofs [q6e,qD7,zan,qNQ,zes,qFK,zgf,qJu,q9U,qLn,zaL,zej,zm7,q7u,qbl,qfY]
 try rfl
theorem zhE (n d:Int): ∃N,qz3 N n d=some (ql n d,()):=⟨0,by
 rw [qz3]
 unfold ql
 cases ha:qR n with
 | false=>rfl
 | true=>
   cases hb:qR d with
   | false=>rfl
   | true=>
     simp only [Bool.not_true,cond_false,Bool.and_self,cond_true]
     rw [qd (show qb2 n d from ⟨qeo ha,qeo hb⟩)]⟩
theorem zae:Sound Tryz.prog 314 qyO:=qx (tt:=tt) (Γ:=qyX) hT (qg qqQ (qg qKx qu)) hm (fn:=Tryz.f314) Tryz.func314 (c:=Tryz.f314.body.getD .skip) (by kernel_rfl) (by kernel_rfl) fun x hx=>by
 obtain ⟨N,h⟩:=zhE x.1 x.2.1
 exact ⟨qfj N,zkl,qy _,zjo N,(zdO N x.1 x.2.1).trans h⟩
def qbd (a b:Val Y28):Int:=bif qi a&&qi b then sgn (a.1*b.2) (b.1*a.2)else 2
def qck:G:={ps:=[i28,i28],rs:=[i3],dp:=true,pre:=fun _=>True,fn:=fun x=>(qbd x.1 x.2.1,())}
noncomputable def qDy (N:Nat) (v0:Val Y28) (v1:Val Y28):Option (qc [i3]):=bif (!((qi v0):Bool))then (some ((2:Int),()))else (bif (!((qi v1):Bool))then (some ((2:Int),()))else (bif (decide ((IntKind.i64.wrap ((v0.1:Int)*(v1.2:Int)))<(IntKind.i64.wrap ((v1.1:Int)*(v0.2:Int)))))then (some ((-1:Int),()))else (bif (decide ((IntKind.i64.wrap ((v1.1:Int)*(v0.2:Int)))<(IntKind.i64.wrap ((v0.1:Int)*(v1.2:Int)))))then (some ((1:Int),()))else (some ((0:Int),())))))
def qRO:Gam:=[(114,qau)]
theorem zhw:Gam.get qRO 114=some qau:=rfl
def qDm:Nat→Tree:=fun i=>if i=3 then .quiet 0 (.quiet 1 (.quiet 2 (.quiet 3 (.quiet 4 (.quiet 5 (.quiet 6 (.quiet 7 (.quiet 8 (.quiet 9 (.quiet 10 (.quiet 11 .done)))))))))))else .done
def qJ7:Nat→Nm:=fun _=>⟨[],[],false⟩
def qGX:Nat→Option Jn:=fun _=>none
def qWq:Nat→Option Nm:=fun _=>none
def qWT:Nat→Option Nm:=fun _=>none
theorem zgO:qn qDm (Tryz.f127.body.getD .skip)=true:=by kernel_rfl
def qfl (N:Nat):Tab:={tr:=qDm,lp:=qJ7,ex:=qWq,rg:=qWT,jn:=qGX,fuel:=N}
theorem zqa (N:Nat):(qfl N).pins=false:=rfl
theorem zlx (N:Nat):qp Tryz.prog (qfl N):=qv fun _=>rfl
theorem zj4 (N:Nat) (i:Nat):(qfl N).tr i=qDm i:=rfl
theorem zlb (N:Nat) (i:Nat):(qfl N).lp i=qJ7 i:=rfl
theorem zcY (N:Nat) (i:Nat):(qfl N).ex i=qWq i:=rfl
theorem q53 (N:Nat) (i:Nat):(qfl N).rg i=qWT i:=rfl
theorem q7e (N:Nat) (i:Nat):(qfl N).jn i=qGX i:=rfl
theorem zms (N:Nat):(qfl N).fuel=N:=rfl
theorem zpw (N:Nat) (v0:Val Y28) (v1:Val Y28):qe tt qRO (qfl N) (Tryz.f127.body.getD .skip) (qt tt true [i3] [.tmp 4]) (qw [i28,i28] 31 (v0,v1,()))=qDy N v0 v1:=by
 rw [qDy];unfold Tryz.f127
 simp (maxSteps:=10000000) -implicitDefEqProofs [zj4,qDm,zlb,qJ7,zcY,qWq,q53,qWT,q7e,qGX,zms,zqa,zhw,qau]
 try rfl
theorem zgx (a b:Val Y28): ∃N,qDy N a b=some (qbd a b,()):=⟨0,by
 rw [qDy]
 unfold qbd
 cases ha:qi a with
 | false=>rfl
 | true=>
   cases hb:qi b with
   | false=>rfl
   | true=>
     simp only [Bool.not_true,cond_false,Bool.and_self,cond_true]
     rw [qiK (qbe ha).1 (qbe hb).2,qiK (qbe hb).1 (qbe ha).2]
     unfold sgn
     by_cases h1:(a.1:Int)*b.2<b.1*a.2
     ·rw [qk h1,if_pos h1]
     ·rw [qj h1,if_neg h1]
      by_cases h2:(b.1:Int)*a.2<a.1*b.2
      ·rw [qk h2,if_pos h2]
      ·rw [qj h2,if_neg h2]⟩
theorem qSu:Sound Tryz.prog 127 qck:=qx (tt:=tt) (Γ:=qRO) hT (qg qhY qu) hm (fn:=Tryz.f127) Tryz.func127 (c:=Tryz.f127.body.getD .skip) (by kernel_rfl) (by kernel_rfl) fun x hx=>by
 obtain ⟨N,h⟩:=zgx x.1 x.2.1
 exact ⟨qfl N,zgO,qy _,zlx N,(zpw N x.1 x.2.1).trans h⟩
def qab (a b:Val Y28):Bool:=decide ((a.1:Int)*b.2<b.1*a.2)
def qcm (a b:Val Y28):Prop:=qgc a∧qgc b
def qcR:G:={ps:=[i28,i28],rs:=[i4],dp:=true,pre:=fun x=>qcm x.1 x.2.1,fn:=fun x=>(qab x.1 x.2.1,())}
noncomputable def qBz (N:Nat) (v0:Val Y28) (v1:Val Y28):Option (qc [i4]):=some ((decide ((IntKind.i64.wrap ((v0.1:Int)*(v1.2:Int)))<(IntKind.i64.wrap ((v1.1:Int)*(v0.2:Int))))),())
def q2k:Gam:=[]
def qDt:Nat→Tree:=fun _=> .done
def qQz:Nat→Nm:=fun _=>⟨[],[],false⟩
def qJ1:Nat→Option Jn:=fun _=>none
def qE0:Nat→Option Nm:=fun _=>none
def qRG:Nat→Option Nm:=fun _=>none
theorem zn1:qn qDt (Tryz.f122.body.getD .skip)=true:=by kernel_rfl
def qf8 (N:Nat):Tab:={tr:=qDt,lp:=qQz,ex:=qE0,rg:=qRG,jn:=qJ1,fuel:=N}
theorem zds (N:Nat):(qf8 N).pins=false:=rfl
theorem zbu (N:Nat):qp Tryz.prog (qf8 N):=qv fun _=>rfl
theorem zn7 (N:Nat) (i:Nat):(qf8 N).tr i=qDt i:=rfl
theorem zoL (N:Nat) (i:Nat):(qf8 N).lp i=qQz i:=rfl
theorem q4H (N:Nat) (i:Nat):(qf8 N).ex i=qE0 i:=rfl
theorem za7 (N:Nat) (i:Nat):(qf8 N).rg i=qRG i:=rfl
theorem zqh (N:Nat) (i:Nat):(qf8 N).jn i=qJ1 i:=rfl
theorem zlw (N:Nat):(qf8 N).fuel=N:=rfl
theorem zjC (N:Nat) (v0:Val Y28) (v1:Val Y28):qe tt q2k (qf8 N) (Tryz.f122.body.getD .skip) (qt tt true [i4] [.tmp 4]) (qw [i28,i28] 16 (v0,v1,()))=qBz N v0 v1:=by
 rw [qBz];unfold Tryz.f122
 simp (maxSteps:=10000000) -implicitDefEqProofs [zn7,qDt,zoL,qQz,q4H,qE0,za7,qRG,zqh,qJ1,zlw,zds]
 try rfl
theorem zmK (a b:Val Y28) (h:qcm a b): ∃N,qBz N a b=some (qab a b,()):=⟨0,by
 rw [qBz,qiK h.1.1 h.2.2,qiK h.2.1 h.1.2]
 rfl⟩
theorem qW2:Sound Tryz.prog 122 qcR:=qx (tt:=tt) (Γ:=q2k) hT qu hm (fn:=Tryz.f122) Tryz.func122 (c:=Tryz.f122.body.getD .skip) (by kernel_rfl) (by kernel_rfl) fun x hx=>by
 obtain ⟨N,h⟩:=zmK x.1 x.2.1 hx
 exact ⟨qf8 N,zn1,qy _,zbu N,(zjC N x.1 x.2.1).trans h⟩
end Go.T
