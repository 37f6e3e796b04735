/- Ratios. -/
import Derived.Test.YtlhkmndfkjlodaaB10a
set_option linter.unusedSimpArgs false
set_option linter.unusedVariables false
namespace Go.T
open Go Go.Proofs
set_option maxHeartbeats 4000000
set_option maxRecDepth 100000
def qoQ (m e:Int):Val Y35:=bif qo ((m.tdiv (qw m e),e.tdiv (qw m e)):Val Y35)then (m.tdiv (qw m e),e.tdiv (qw m e))else ((0:Int),(0:Int))
def qaI (n d:Int):Val Y35:=if d=0 then ((0:Int),(0:Int))else if d<0 then qoQ (-n) (-d)else qoQ n d
def qbq (n d:Int):Prop:=inI n∧inI d
def g99:G:={ps:=[i3,i3],rs:=[i35],dp:=true,pre:=fun x=>qbq x.1 x.2.1,fn:=fun x=>(qaI x.1 x.2.1,())}
def qec:G:={ps:=[i3,i3],rs:=[i35],dp:=true,pre:=fun x=>qbq x.1 x.2.1,fn:=fun x=>(qaI x.1 x.2.1,())}
noncomputable def qdE (N:Nat) (v2:Int) (v3:Int) (v6:Int) (v7:Int) (k0:Int→Option (qa [i35])):Nat→Int→Int→Option (qa [i35])
 | 0,_,_=>none
 | n+1,v4,v5=>bif (!(decide (v5=(0:Int))))then (chk (v5≠0) (qdE N v2 v3 v6 v7 k0 n v5 (v4.tmod v5)))else (k0 v4)
noncomputable def m99 (N:Nat) (v0:Int) (v1:Int):Option (qa [i35]):=bif (decide (v1=(0:Int)))then (some (((0:Int),(0:Int)),()))else (bif (decide (v1<(0:Int)))then (qdE N (IntKind.i64.wrap (0 - v0)) (IntKind.i64.wrap (0 - v1)) (0:Int) (0:Int) (fun (v9:Int)=>chk (qan v9) (chk (((qG v9):Int)≠0) (chk (((qG v9):Int)≠0) (bif (!((qo ((IntKind.i64.wrap ((IntKind.i64.wrap (0 - v0)).tdiv ((qG v9):Int))),(IntKind.i64.wrap ((IntKind.i64.wrap (0 - v1)).tdiv ((qG v9):Int))))):Bool))then (some (((0:Int),(0:Int)),()))else (some (((IntKind.i64.wrap ((IntKind.i64.wrap (0 - v0)).tdiv ((qG v9):Int))),(IntKind.i64.wrap ((IntKind.i64.wrap (0 - v1)).tdiv ((qG v9):Int)))),())))))) N (IntKind.i64.wrap (0 - v0)) (IntKind.i64.wrap (0 - v1)))else (qdE N v0 v1 (0:Int) (0:Int) (fun (v10:Int)=>chk (qan v10) (chk (((qG v10):Int)≠0) (chk (((qG v10):Int)≠0) (bif (!((qo ((IntKind.i64.wrap (v0.tdiv ((qG v10):Int))),(IntKind.i64.wrap (v1.tdiv ((qG v10):Int))))):Bool))then (some (((0:Int),(0:Int)),()))else (some (((IntKind.i64.wrap (v0.tdiv ((qG v10):Int))),(IntKind.i64.wrap (v1.tdiv ((qG v10):Int)))),())))))) N v0 v1))
def Γ99:Gam:=[(60,g60),(135,qav)]
theorem qmB:Gam.get Γ99 60=some g60:=rfl
theorem qml:Gam.get Γ99 135=some qav:=rfl
def qkQ:Nm:=⟨[true,true,false,false,true,true,true],[],false⟩
theorem qlx:qkQ.zero=false:=rfl
theorem qlp:qkQ.fix=[]:=rfl
theorem qoE:qkQ.keep=[true,true,false,false,true,true,true]:=rfl
def qnJ:Nm:=⟨[true,true,false,false,true,true],[],false⟩
theorem qo7:qnJ.zero=false:=rfl
theorem qlP:qnJ.fix=[]:=rfl
theorem qmW:qnJ.keep=[true,true,false,false,true,true]:=rfl
def qfh:Nat→Tree:=fun i=>if i=8 then .quiet 0 (.quiet 1 (.quiet 2 (.quiet 3 (.quiet 4 (.quiet 5 .done)))))else if i=10 then .first 0 (.first 1 (.first 2 (.first 3 (.first 4 (.first 5 (.first 6 (.alt 7 (.alt 8 .done .stop) .stop)))))))else .done
def qfH:Nat→Nm:=fun i=>if i=7 then qkQ else ⟨[],[],false⟩
def qgz:Nat→Option Jn:=fun _=>none
def qfo:Nat→Option Nm:=fun i=>if i=0 then some qnJ else none
def qfr:Nat→Option Nm:=fun _=>none
theorem p99:qg qfh (Try.f99.body.getD .skip)=true:=by kernel_rfl
def T99 (N:Nat):Tab:={tr:=qfh,lp:=qfH,ex:=qfo,rg:=qfr,jn:=qgz,fuel:=N}
theorem qnd (N:Nat):(T99 N).pins=false:=rfl
theorem qIa (N:Nat):qk Try.prog (T99 N):=qn fun _=>rfl
theorem qlh (N:Nat) (i:Nat):(T99 N).tr i=qfh i:=rfl
theorem qlm (N:Nat) (i:Nat):(T99 N).lp i=qfH i:=rfl
theorem qlU (N:Nat) (i:Nat):(T99 N).ex i=qfo i:=rfl
theorem qnC (N:Nat) (i:Nat):(T99 N).rg i=qfr i:=rfl
theorem qnu (N:Nat) (i:Nat):(T99 N).jn i=qgz i:=rfl
theorem qnQ (N:Nat):(T99 N).fuel=N:=rfl
noncomputable def qBZ:Code:=cut [true,true,true,true,true,false,true,true] (Try.f99.body.getD .skip)
theorem qG3 {N:Nat} {Q:X→St→Option (qa [i35])} {e:List LV} {h:List Blk}:qb tt Γ99 (T99 N) qBZ Q ⟨e,h⟩=qb tt Γ99 (T99 N) (cut [true,true,true,true,true,false,true,true] (Try.f99.body.getD .skip)) Q ⟨e,h⟩:=rfl
theorem qC5 (N:Nat) (v2:Int) (v3:Int) (v6:Int) (v7:Int) {k0:Int→Option (qa [i35])} {Q:X→St→Option (qa [i35])} {c:Code} (hc:c=qBZ) (hret: ∀st,Q .ret st=qy tt true [i35] [.cell 4 35] st) (h0: ∀(v8:Int),Q (.exit 0) ⟨[.one (.int .i64 v2),.one (.int .i64 v3),u,u,.one (.ptr 0 0 0),.one (.int .i64 v8),u,u,u,u,u,u,u,u,u,u,u,u,u,u,u,u,u,u,u,u,u,u,u,u,u,u,u,u,u,u,u,u,u,u],[.box [.int .i64 v6,.int .i64 v7]]⟩=k0 v8): ∀(n:Nat) (v4:Int) (v5:Int),qx (qb tt Γ99 (T99 N) c) false qkQ Q n ⟨[.one (.int .i64 v2),.one (.int .i64 v3),u,u,.one (.ptr 0 0 0),.one (.int .i64 v4),.one (.int .i64 v5),u,u,u,u,u,u,u,u,u,u,u,u,u,u,u,u,u,u,u,u,u,u,u,u,u,u,u,u,u,u,u,u,u],[.box [.int .i64 v6,.int .i64 v7]]⟩=qdE N v2 v3 v6 v7 k0 n v4 v5:=by
 subst hc;intro n;induction n with
 | zero=>intros;rfl
 | succ n ih=>
   intro v4 v5
   rw [qI,qG3,qdE];unfold Try.f99
   simp (maxSteps:=10000000) -implicitDefEqProofs [qlh,qfh,qlm,qfH,qlU,qfo,qnC,qfr,qnu,qgz,qnQ,qnd,qlp,qoE,qlx,qlP,qmW,qo7,qmB,qml,g60,qav,hret,h0,ih]
theorem qHn (N:Nat) (v0:Int) (v1:Int):qb tt Γ99 (T99 N) (Try.f99.body.getD .skip) (qh tt true [i35] [.cell 4 35]) (ql [i3,i3] 40 (v0,v1,()))=m99 N v0 v1:=by
 unfold Try.f99
 simp (maxSteps:=10000000) -implicitDefEqProofs [qlh,qfh,qlm,qfH,qlU,qfo,qnC,qfr,qnu,qgz,qnQ,qnd,qlp,qoE,qlx,qlP,qmW,qo7,qmB,qml,g60,qav]
 rewrite [qC5 (k0:=(fun (v9:Int)=>chk (qan v9) (chk (((qG v9):Int)≠0) (chk (((qG v9):Int)≠0) (bif (!((qo ((IntKind.i64.wrap ((IntKind.i64.wrap (0 - v0)).tdiv ((qG v9):Int))),(IntKind.i64.wrap ((IntKind.i64.wrap (0 - v1)).tdiv ((qG v9):Int))))):Bool))then (some (((0:Int),(0:Int)),()))else (some (((IntKind.i64.wrap ((IntKind.i64.wrap (0 - v0)).tdiv ((qG v9):Int))),(IntKind.i64.wrap ((IntKind.i64.wrap (0 - v1)).tdiv ((qG v9):Int)))),()))))))) N _ _ _ _ ?_ ?_ ?_]
 rewrite [qC5 (k0:=(fun (v10:Int)=>chk (qan v10) (chk (((qG v10):Int)≠0) (chk (((qG v10):Int)≠0) (bif (!((qo ((IntKind.i64.wrap (v0.tdiv ((qG v10):Int))),(IntKind.i64.wrap (v1.tdiv ((qG v10):Int))))):Bool))then (some (((0:Int),(0:Int)),()))else (some (((IntKind.i64.wrap (v0.tdiv ((qG v10):Int))),(IntKind.i64.wrap (v1.tdiv ((qG v10):Int)))),()))))))) N _ _ _ _ ?_ ?_ ?_]
 ·rewrite [m99];first | rfl | simp (maxSteps:=10000000) -implicitDefEqProofs []
 ·rfl
 ·intro;simp only [qD,qE,qF,qC]
 ·intro v10;simp (maxSteps:=10000000) -implicitDefEqProofs [qlh,qfh,qlm,qfH,qlU,qfo,qnC,qfr,qnu,qgz,qnQ,qnd,qlp,qoE,qlx,qlP,qmW,qo7,qmB,qml,g60,qav]
 ·rfl
 ·intro;simp only [qD,qE,qF,qC]
 ·intro v9;simp (maxSteps:=10000000) -implicitDefEqProofs [qlh,qfh,qlm,qfH,qlU,qfo,qnC,qfr,qnu,qgz,qnQ,qnd,qlp,qoE,qlx,qlP,qmW,qo7,qmB,qml,g60,qav]
noncomputable def qoV (N:Nat) (v0:Int) (v1:Int):Option (qa [i35]):=bif (decide (v1=(0:Int)))then (some (((0:Int),(0:Int)),()))else (bif (decide (v1<(0:Int)))then (chk (qaC (IntKind.i64.wrap (0 - v0)) (IntKind.i64.wrap (0 - v1))) (chk (((qw (IntKind.i64.wrap (0 - v0)) (IntKind.i64.wrap (0 - v1))):Int)≠0) (chk (((qw (IntKind.i64.wrap (0 - v0)) (IntKind.i64.wrap (0 - v1))):Int)≠0) (bif (!((qo ((IntKind.i64.wrap ((IntKind.i64.wrap (0 - v0)).tdiv ((qw (IntKind.i64.wrap (0 - v0)) (IntKind.i64.wrap (0 - v1))):Int))),(IntKind.i64.wrap ((IntKind.i64.wrap (0 - v1)).tdiv ((qw (IntKind.i64.wrap (0 - v0)) (IntKind.i64.wrap (0 - v1))):Int))))):Bool))then (some (((0:Int),(0:Int)),()))else (some (((IntKind.i64.wrap ((IntKind.i64.wrap (0 - v0)).tdiv ((qw (IntKind.i64.wrap (0 - v0)) (IntKind.i64.wrap (0 - v1))):Int))),(IntKind.i64.wrap ((IntKind.i64.wrap (0 - v1)).tdiv ((qw (IntKind.i64.wrap (0 - v0)) (IntKind.i64.wrap (0 - v1))):Int)))),()))))))else (chk (qaC v0 v1) (chk (((qw v0 v1):Int)≠0) (chk (((qw v0 v1):Int)≠0) (bif (!((qo ((IntKind.i64.wrap (v0.tdiv ((qw v0 v1):Int))),(IntKind.i64.wrap (v1.tdiv ((qw v0 v1):Int))))):Bool))then (some (((0:Int),(0:Int)),()))else (some (((IntKind.i64.wrap (v0.tdiv ((qw v0 v1):Int))),(IntKind.i64.wrap (v1.tdiv ((qw v0 v1):Int)))),())))))))
def qnf:Gam:=[(70,g70),(94,g94)]
theorem qJW:Gam.get qnf 70=some g70:=rfl
theorem qRT:Gam.get qnf 94=some g94:=rfl
def qmA:Nat→Tree:=fun i=>if i=6 then .first 0 (.first 1 (.first 2 (.first 3 (.first 4 (.first 5 (.first 6 (.alt 7 (.alt 8 .done .stop) .stop)))))))else .done
def qpG:Nat→Nm:=fun _=>⟨[],[],false⟩
def qwO:Nat→Option Jn:=fun _=>none
def qrZ:Nat→Option Nm:=fun _=>none
def qud:Nat→Option Nm:=fun _=>none
theorem qOj:qg qmA (Try.f138.body.getD .skip)=true:=by kernel_rfl
def qbW (N:Nat):Tab:={tr:=qmA,lp:=qpG,ex:=qrZ,rg:=qud,jn:=qwO,fuel:=N}
theorem qLq (N:Nat):(qbW N).pins=false:=rfl
theorem qIC (N:Nat):qk Try.prog (qbW N):=qn fun _=>rfl
theorem qJR (N:Nat) (i:Nat):(qbW N).tr i=qmA i:=rfl
theorem qI2 (N:Nat) (i:Nat):(qbW N).lp i=qpG i:=rfl
theorem qKQ (N:Nat) (i:Nat):(qbW N).ex i=qrZ i:=rfl
theorem qNK (N:Nat) (i:Nat):(qbW N).rg i=qud i:=rfl
theorem qR5 (N:Nat) (i:Nat):(qbW N).jn i=qwO i:=rfl
theorem qI1 (N:Nat):(qbW N).fuel=N:=rfl
theorem qKg (N:Nat) (v0:Int) (v1:Int):qb tt qnf (qbW N) (Try.f138.body.getD .skip) (qh tt true [i35] [.cell 4 35]) (ql [i3,i3] 31 (v0,v1,()))=qoV N v0 v1:=by
 rw [qoV];unfold Try.f138
 simp (maxSteps:=10000000) -implicitDefEqProofs [qJR,qmA,qI2,qpG,qKQ,qrZ,qNK,qud,qR5,qwO,qI1,qLq,qJW,qRT,g70,g94]
 try rfl
theorem qo8 {m e:Int} (hm:inI m) (he:inI e) (h0:e≠0):(chk (qw m e≠0) (chk (qw m e≠0) (bif !qo ((IntKind.i64.wrap (m.tdiv (qw m e)),IntKind.i64.wrap (e.tdiv (qw m e))):Val Y35)then some ((((0:Int),(0:Int)),()):qa [i35])else some ((((IntKind.i64.wrap (m.tdiv (qw m e))),(IntKind.i64.wrap (e.tdiv (qw m e)))),()):qa [i35]))))=some ((qoQ m e,()):qa [i35]):=by
 have hg:qw m e≠0:=by
  unfold qw
  have:0<Nat.gcd m.natAbs e.natAbs:=Nat.gcd_pos_of_pos_right _ (by omega)
  omega
 have e1:IntKind.i64.wrap (m.tdiv (qw m e))=m.tdiv (qw m e):=qdD hm
 have e2:IntKind.i64.wrap (e.tdiv (qw m e))=e.tdiv (qw m e):=qdD he
 rw [qd hg,qd hg,e1,e2]
 unfold qoQ
 cases qo ((m.tdiv (qw m e),e.tdiv (qw m e)):Val Y35)<;>rfl
theorem qdh {x:Int} (h:inI x):inI (-x):=by unfold inI at*;omega
theorem qHz (n d:Int) (h:qbq n d): ∃N,qoV N n d=some (qaI n d,()):=⟨0,by
 rw [qoV]
 unfold qaI
 by_cases h0:d=0
 ·rw [qi h0,if_pos h0]
 rw [qj h0,if_neg h0,qoI h.1,qoI h.2]
 by_cases h1:d<0
 ·rw [qi h1,if_pos h1,qd (show qaC (-n) (-d) from ⟨qdh h.1,qdh h.2⟩)]
  exact qo8 (qdh h.1) (qdh h.2) (by omega)
 ·rw [qj h1,if_neg h1,qd (show qaC n d from ⟨h.1,h.2⟩)]
  exact qo8 h.1 h.2 h0⟩
theorem qCX:Sound Try.prog 138 qec:=qq (tt:=tt) (Γ:=qnf) hT (qe s70 (qe s94 qp)) hm (fn:=Try.f138) Try.func138 (c:=Try.f138.body.getD .skip) (by kernel_rfl) (by kernel_rfl) fun x hx=>by
 obtain ⟨N,h⟩:=qHz x.1 x.2.1 hx
 exact ⟨qbW N,qOj,qm _,qIC N,(qKg N x.1 x.2.1).trans h⟩
theorem t99 (N:Nat) (p q r s:Int) (K:Int→Option (qa [i35])): ∀(n:Nat) (a b:Int),b.natAbs<n→ ∃c:Int,qdE N p q r s K n a b=K c∧c.natAbs=Nat.gcd a.natAbs b.natAbs
 | 0,_,_,h=>by omega
 | n+1,a,b,h=>by
   rw [qdE]
   by_cases hb:b=0
   ·subst hb;exact ⟨a,by simp,by simp⟩
   ·have hlt:a.natAbs % b.natAbs<b.natAbs:=Nat.mod_lt _ (by omega)
    have hm:(a.tmod b).natAbs=a.natAbs % b.natAbs:=Int.natAbs_tmod _ _
    obtain ⟨c,h1,h2⟩:=t99 N p q r s K n b (a.tmod b) (by omega)
    refine ⟨c,?_,?_⟩
    ·rw [decide_eq_false hb,qd hb];exact h1
    ·rw [h2,hm,Nat.gcd_comm b.natAbs,←Nat.gcd_rec,Nat.gcd_comm]
theorem e99 (n d:Int) (h:qbq n d): ∃N,m99 N n d=some (qaI n d,()):=⟨d.natAbs+1,by
 rw [m99]
 unfold qaI
 by_cases h0:d=0
 ·rw [qi h0,if_pos h0]
 rw [qj h0,if_neg h0,qoI h.1,qoI h.2]
 by_cases h1:d<0
 ·rw [qi h1,if_pos h1]
  obtain ⟨c,g1,g2⟩:=t99 (d.natAbs+1) (-n) (-d) 0 0 _ (d.natAbs+1) (-n) (-d) (by omega)
  refine g1.trans ?_
  obtain ⟨g3,g4⟩:=quh (qdh h.1) (qdh h.2) g2
  dsimp only
  rw [qd g3,g4]
  exact qo8 (qdh h.1) (qdh h.2) (by omega)
 ·rw [qj h1,if_neg h1]
  obtain ⟨c,g1,g2⟩:=t99 (d.natAbs+1) n d 0 0 _ (d.natAbs+1) n d (by omega)
  refine g1.trans ?_
  obtain ⟨g3,g4⟩:=quh h.1 h.2 g2
  dsimp only
  rw [qd g3,g4]
  exact qo8 h.1 h.2 h0⟩
theorem s99:Sound Try.prog 99 g99:=qq (tt:=tt) (Γ:=Γ99) hT (qe s60 (qe qyJ qp)) hm (fn:=Try.f99) Try.func99 (c:=Try.f99.body.getD .skip) (by kernel_rfl) (by kernel_rfl) fun x hx=>by
 obtain ⟨N,h⟩:=e99 x.1 x.2.1 hx
 exact ⟨T99 N,p99,qm _,qIa N,(qHn N x.1 x.2.1).trans h⟩
end Go.T
