/- Ratios. -/
import Derived.Test.YthefcjjgchekiaaB10a
set_option linter.unusedSimpArgs false
set_option linter.unusedVariables false
namespace Go.T
open Go Go.Proofs
set_option maxHeartbeats 4000000
set_option maxRecDepth 100000
def qii (m e:Int):Val Y64:=bif qN ((m.tdiv (qB m e),e.tdiv (qB m e)):Val Y64)then (m.tdiv (qB m e),e.tdiv (qB m e))else ((0:Int),(0:Int))
def qE (n d:Int):Val Y64:=if d=0 then ((0:Int),(0:Int))else if d<0 then qii (-n) (-d)else qii n d
def qei (n d:Int):Prop:=inI n∧inI d
def g94:G:={ps:=[i3,i3],rs:=[i64],dp:=true,pre:=fun x=>qei x.1 x.2.1,fn:=fun x=>(qE x.1 x.2.1,())}
def g78:G:={ps:=[i3,i3],rs:=[i64],dp:=true,pre:=fun x=>qei x.1 x.2.1,fn:=fun x=>(qE x.1 x.2.1,())}
noncomputable def qf9 (N:Nat) (v2:Int) (v3:Int) (v6:Int) (v7:Int) (k0:Int→Option (qb [i64])):Nat→Int→Int→Option (qb [i64])
 | 0,_,_=>none
 | n+1,v4,v5=>bif (!(decide (v5=(0:Int))))then (chk (v5≠0) (qf9 N v2 v3 v6 v7 k0 n v5 (v4.tmod v5)))else (k0 v4)
noncomputable def m94 (N:Nat) (v0:Int) (v1:Int):Option (qb [i64]):=bif (decide (v1=(0:Int)))then (some (((0:Int),(0:Int)),()))else (bif (decide (v1<(0:Int)))then (qf9 N (IntKind.i64.wrap (0 - v0)) (IntKind.i64.wrap (0 - v1)) (0:Int) (0:Int) (fun (v9:Int)=>chk (qaW v9) (chk (((qP v9):Int)≠0) (chk (((qP v9):Int)≠0) (bif (!((qN ((IntKind.i64.wrap ((IntKind.i64.wrap (0 - v0)).tdiv ((qP v9):Int))),(IntKind.i64.wrap ((IntKind.i64.wrap (0 - v1)).tdiv ((qP v9):Int))))):Bool))then (some (((0:Int),(0:Int)),()))else (some (((IntKind.i64.wrap ((IntKind.i64.wrap (0 - v0)).tdiv ((qP v9):Int))),(IntKind.i64.wrap ((IntKind.i64.wrap (0 - v1)).tdiv ((qP v9):Int)))),())))))) N (IntKind.i64.wrap (0 - v0)) (IntKind.i64.wrap (0 - v1)))else (qf9 N v0 v1 (0:Int) (0:Int) (fun (v10:Int)=>chk (qaW v10) (chk (((qP v10):Int)≠0) (chk (((qP v10):Int)≠0) (bif (!((qN ((IntKind.i64.wrap (v0.tdiv ((qP v10):Int))),(IntKind.i64.wrap (v1.tdiv ((qP v10):Int))))):Bool))then (some (((0:Int),(0:Int)),()))else (some (((IntKind.i64.wrap (v0.tdiv ((qP v10):Int))),(IntKind.i64.wrap (v1.tdiv ((qP v10):Int)))),())))))) N v0 v1))
def Γ94:Gam:=[(80,g80),(105,qf2)]
theorem qo1:Gam.get Γ94 80=some g80:=rfl
theorem qm4:Gam.get Γ94 105=some qf2:=rfl
def qmI:Nm:=⟨[true,true,false,false,true,true,true],[],false⟩
theorem qoy:qmI.zero=false:=rfl
theorem qop:qmI.fix=[]:=rfl
theorem qpA:qmI.keep=[true,true,false,false,true,true,true]:=rfl
def qoV:Nm:=⟨[true,true,false,false,true,true],[],false⟩
theorem qnh:qoV.zero=false:=rfl
theorem qpZ:qoV.fix=[]:=rfl
theorem qqd:qoV.keep=[true,true,false,false,true,true]:=rfl
def qgu:Nat→Tree:=fun i=>if i=8 then .quiet 0 (.quiet 1 (.quiet 2 (.quiet 3 (.quiet 4 (.quiet 5 .done)))))else if i=10 then .first 0 (.first 1 (.first 2 (.first 3 (.first 4 (.first 5 (.first 6 (.alt 7 (.alt 8 .done .stop) .stop)))))))else .done
def qhe:Nat→Nm:=fun i=>if i=7 then qmI else ⟨[],[],false⟩
def qhy:Nat→Option Jn:=fun _=>none
def qhw:Nat→Option Nm:=fun i=>if i=0 then some qoV else none
def qif:Nat→Option Nm:=fun _=>none
theorem p94:ql qgu (Try.f94.body.getD .skip)=true:=by kernel_rfl
def T94 (N:Nat):Tab:={tr:=qgu,lp:=qhe,ex:=qhw,rg:=qif,jn:=qhy,fuel:=N}
theorem qnL (N:Nat):(T94 N).pins=false:=rfl
theorem qJG (N:Nat):qm Try.prog (T94 N):=qu fun _=>rfl
theorem qqu (N:Nat) (i:Nat):(T94 N).tr i=qgu i:=rfl
theorem qpr (N:Nat) (i:Nat):(T94 N).lp i=qhe i:=rfl
theorem qm8 (N:Nat) (i:Nat):(T94 N).ex i=qhw i:=rfl
theorem qm6 (N:Nat) (i:Nat):(T94 N).rg i=qif i:=rfl
theorem qo7 (N:Nat) (i:Nat):(T94 N).jn i=qhy i:=rfl
theorem qnv (N:Nat):(T94 N).fuel=N:=rfl
noncomputable def qFW:Code:=cut [true,true,true,true,true,false,true,true] (Try.f94.body.getD .skip)
theorem qLz {N:Nat} {Q:X→St→Option (qb [i64])} {e:List LV} {h:List Blk}:qd tt Γ94 (T94 N) qFW Q ⟨e,h⟩=qd tt Γ94 (T94 N) (cut [true,true,true,true,true,false,true,true] (Try.f94.body.getD .skip)) Q ⟨e,h⟩:=rfl
theorem qCU (N:Nat) (v2:Int) (v3:Int) (v6:Int) (v7:Int) {k0:Int→Option (qb [i64])} {Q:X→St→Option (qb [i64])} {c:Code} (hc:c=qFW) (hret: ∀st,Q .ret st=qI tt true [i64] [.cell 4 64] st) (h0: ∀(v8:Int),Q (.exit 0) ⟨[.one (.int .i64 v2),.one (.int .i64 v3),u,u,.one (.ptr 0 0 0),.one (.int .i64 v8),u,u,u,u,u,u,u,u,u,u,u,u,u,u,u,u,u,u,u,u,u,u,u,u,u,u,u,u,u,u,u,u,u,u],[.box [.int .i64 v6,.int .i64 v7]]⟩=k0 v8): ∀(n:Nat) (v4:Int) (v5:Int),qD (qd tt Γ94 (T94 N) c) false qmI Q n ⟨[.one (.int .i64 v2),.one (.int .i64 v3),u,u,.one (.ptr 0 0 0),.one (.int .i64 v4),.one (.int .i64 v5),u,u,u,u,u,u,u,u,u,u,u,u,u,u,u,u,u,u,u,u,u,u,u,u,u,u,u,u,u,u,u,u,u],[.box [.int .i64 v6,.int .i64 v7]]⟩=qf9 N v2 v3 v6 v7 k0 n v4 v5:=by
 subst hc;intro n;induction n with
 | zero=>intros;rfl
 | succ n ih=>
   intro v4 v5
   rw [qR,qLz,qf9];unfold Try.f94
   simp (maxSteps:=10000000) -implicitDefEqProofs [qqu,qgu,qpr,qhe,qm8,qhw,qm6,qif,qo7,qhy,qnv,qnL,qop,qpA,qoy,qpZ,qqd,qnh,qo1,qm4,g80,qf2,hret,h0,ih]
theorem qL5 (N:Nat) (v0:Int) (v1:Int):qd tt Γ94 (T94 N) (Try.f94.body.getD .skip) (qp tt true [i64] [.cell 4 64]) (qt [i3,i3] 40 (v0,v1,()))=m94 N v0 v1:=by
 unfold Try.f94
 simp (maxSteps:=10000000) -implicitDefEqProofs [qqu,qgu,qpr,qhe,qm8,qhw,qm6,qif,qo7,qhy,qnv,qnL,qop,qpA,qoy,qpZ,qqd,qnh,qo1,qm4,g80,qf2]
 rewrite [qCU (k0:=(fun (v9:Int)=>chk (qaW v9) (chk (((qP v9):Int)≠0) (chk (((qP v9):Int)≠0) (bif (!((qN ((IntKind.i64.wrap ((IntKind.i64.wrap (0 - v0)).tdiv ((qP v9):Int))),(IntKind.i64.wrap ((IntKind.i64.wrap (0 - v1)).tdiv ((qP v9):Int))))):Bool))then (some (((0:Int),(0:Int)),()))else (some (((IntKind.i64.wrap ((IntKind.i64.wrap (0 - v0)).tdiv ((qP v9):Int))),(IntKind.i64.wrap ((IntKind.i64.wrap (0 - v1)).tdiv ((qP v9):Int)))),()))))))) N _ _ _ _ ?_ ?_ ?_]
 rewrite [qCU (k0:=(fun (v10:Int)=>chk (qaW v10) (chk (((qP v10):Int)≠0) (chk (((qP v10):Int)≠0) (bif (!((qN ((IntKind.i64.wrap (v0.tdiv ((qP v10):Int))),(IntKind.i64.wrap (v1.tdiv ((qP v10):Int))))):Bool))then (some (((0:Int),(0:Int)),()))else (some (((IntKind.i64.wrap (v0.tdiv ((qP v10):Int))),(IntKind.i64.wrap (v1.tdiv ((qP v10):Int)))),()))))))) N _ _ _ _ ?_ ?_ ?_]
 ·rewrite [m94];first | rfl | simp (maxSteps:=10000000) -implicitDefEqProofs []
 ·rfl
 ·intro;simp only [qK,qM,qO,qv]
 ·intro v10;simp (maxSteps:=10000000) -implicitDefEqProofs [qqu,qgu,qpr,qhe,qm8,qhw,qm6,qif,qo7,qhy,qnv,qnL,qop,qpA,qoy,qpZ,qqd,qnh,qo1,qm4,g80,qf2]
 ·rfl
 ·intro;simp only [qK,qM,qO,qv]
 ·intro v9;simp (maxSteps:=10000000) -implicitDefEqProofs [qqu,qgu,qpr,qhe,qm8,qhw,qm6,qif,qo7,qhy,qnv,qnL,qop,qpA,qoy,qpZ,qqd,qnh,qo1,qm4,g80,qf2]
noncomputable def m78 (N:Nat) (v0:Int) (v1:Int):Option (qb [i64]):=bif (decide (v1=(0:Int)))then (some (((0:Int),(0:Int)),()))else (bif (decide (v1<(0:Int)))then (chk (qb9 (IntKind.i64.wrap (0 - v0)) (IntKind.i64.wrap (0 - v1))) (chk (((qB (IntKind.i64.wrap (0 - v0)) (IntKind.i64.wrap (0 - v1))):Int)≠0) (chk (((qB (IntKind.i64.wrap (0 - v0)) (IntKind.i64.wrap (0 - v1))):Int)≠0) (bif (!((qN ((IntKind.i64.wrap ((IntKind.i64.wrap (0 - v0)).tdiv ((qB (IntKind.i64.wrap (0 - v0)) (IntKind.i64.wrap (0 - v1))):Int))),(IntKind.i64.wrap ((IntKind.i64.wrap (0 - v1)).tdiv ((qB (IntKind.i64.wrap (0 - v0)) (IntKind.i64.wrap (0 - v1))):Int))))):Bool))then (some (((0:Int),(0:Int)),()))else (some (((IntKind.i64.wrap ((IntKind.i64.wrap (0 - v0)).tdiv ((qB (IntKind.i64.wrap (0 - v0)) (IntKind.i64.wrap (0 - v1))):Int))),(IntKind.i64.wrap ((IntKind.i64.wrap (0 - v1)).tdiv ((qB (IntKind.i64.wrap (0 - v0)) (IntKind.i64.wrap (0 - v1))):Int)))),()))))))else (chk (qb9 v0 v1) (chk (((qB v0 v1):Int)≠0) (chk (((qB v0 v1):Int)≠0) (bif (!((qN ((IntKind.i64.wrap (v0.tdiv ((qB v0 v1):Int))),(IntKind.i64.wrap (v1.tdiv ((qB v0 v1):Int))))):Bool))then (some (((0:Int),(0:Int)),()))else (some (((IntKind.i64.wrap (v0.tdiv ((qB v0 v1):Int))),(IntKind.i64.wrap (v1.tdiv ((qB v0 v1):Int)))),())))))))
def Γ78:Gam:=[(65,g65),(79,g79)]
theorem qMa:Gam.get Γ78 65=some g65:=rfl
theorem qKz:Gam.get Γ78 79=some g79:=rfl
def qoP:Nat→Tree:=fun i=>if i=6 then .first 0 (.first 1 (.first 2 (.first 3 (.first 4 (.first 5 (.first 6 (.alt 7 (.alt 8 .done .stop) .stop)))))))else .done
def qAd:Nat→Nm:=fun _=>⟨[],[],false⟩
def qvi:Nat→Option Jn:=fun _=>none
def qzJ:Nat→Option Nm:=fun _=>none
def qtL:Nat→Option Nm:=fun _=>none
theorem p78:ql qoP (Try.f78.body.getD .skip)=true:=by kernel_rfl
def T78 (N:Nat):Tab:={tr:=qoP,lp:=qAd,ex:=qzJ,rg:=qtL,jn:=qvi,fuel:=N}
theorem qPU (N:Nat):(T78 N).pins=false:=rfl
theorem qLY (N:Nat):qm Try.prog (T78 N):=qu fun _=>rfl
theorem qOS (N:Nat) (i:Nat):(T78 N).tr i=qoP i:=rfl
theorem qQB (N:Nat) (i:Nat):(T78 N).lp i=qAd i:=rfl
theorem qGq (N:Nat) (i:Nat):(T78 N).ex i=qzJ i:=rfl
theorem qGk (N:Nat) (i:Nat):(T78 N).rg i=qtL i:=rfl
theorem qLo (N:Nat) (i:Nat):(T78 N).jn i=qvi i:=rfl
theorem qOV (N:Nat):(T78 N).fuel=N:=rfl
theorem qL0 (N:Nat) (v0:Int) (v1:Int):qd tt Γ78 (T78 N) (Try.f78.body.getD .skip) (qp tt true [i64] [.cell 4 64]) (qt [i3,i3] 31 (v0,v1,()))=m78 N v0 v1:=by
 rw [m78];unfold Try.f78
 simp (maxSteps:=10000000) -implicitDefEqProofs [qOS,qoP,qQB,qAd,qGq,qzJ,qGk,qtL,qLo,qvi,qOV,qPU,qMa,qKz,g65,g79]
 try rfl
theorem qqr {m e:Int} (hm:inI m) (he:inI e) (h0:e≠0):(chk (qB m e≠0) (chk (qB m e≠0) (bif !qN ((IntKind.i64.wrap (m.tdiv (qB m e)),IntKind.i64.wrap (e.tdiv (qB m e))):Val Y64)then some ((((0:Int),(0:Int)),()):qb [i64])else some ((((IntKind.i64.wrap (m.tdiv (qB m e))),(IntKind.i64.wrap (e.tdiv (qB m e)))),()):qb [i64]))))=some ((qii m e,()):qb [i64]):=by
 have hg:qB m e≠0:=by
  unfold qB
  have:0<Nat.gcd m.natAbs e.natAbs:=Nat.gcd_pos_of_pos_right _ (by omega)
  omega
 have e1:IntKind.i64.wrap (m.tdiv (qB m e))=m.tdiv (qB m e):=qc0 hm
 have e2:IntKind.i64.wrap (e.tdiv (qB m e))=e.tdiv (qB m e):=qc0 he
 rw [qc hg,qc hg,e1,e2]
 unfold qii
 cases qN ((m.tdiv (qB m e),e.tdiv (qB m e)):Val Y64)<;>rfl
theorem qeg {x:Int} (h:inI x):inI (-x):=by unfold inI at*;omega
theorem e78 (n d:Int) (h:qei n d): ∃N,m78 N n d=some (qE n d,()):=⟨0,by
 rw [m78]
 unfold qE
 by_cases h0:d=0
 ·rw [qh h0,if_pos h0]
 rw [qi h0,if_neg h0,qeQ h.1,qeQ h.2]
 by_cases h1:d<0
 ·rw [qh h1,if_pos h1,qc (show qb9 (-n) (-d) from ⟨qeg h.1,qeg h.2⟩)]
  exact qqr (qeg h.1) (qeg h.2) (by omega)
 ·rw [qi h1,if_neg h1,qc (show qb9 n d from ⟨h.1,h.2⟩)]
  exact qqr h.1 h.2 h0⟩
theorem s78:Sound Try.prog 78 g78:=qw (tt:=tt) (Γ:=Γ78) hT (qf s65 (qf s79 qq)) hm (fn:=Try.f78) Try.func78 (c:=Try.f78.body.getD .skip) (by kernel_rfl) (by kernel_rfl) fun x hx=>by
 obtain ⟨N,h⟩:=e78 x.1 x.2.1 hx
 exact ⟨T78 N,p78,qx _,qLY N,(qL0 N x.1 x.2.1).trans h⟩
theorem t94 (N:Nat) (p q r s:Int) (K:Int→Option (qb [i64])): ∀(n:Nat) (a b:Int),b.natAbs<n→ ∃c:Int,qf9 N p q r s K n a b=K c∧c.natAbs=Nat.gcd a.natAbs b.natAbs
 | 0,_,_,h=>by omega
 | n+1,a,b,h=>by
   rw [qf9]
   by_cases hb:b=0
   ·subst hb;exact ⟨a,by simp,by simp⟩
   ·have hlt:a.natAbs % b.natAbs<b.natAbs:=Nat.mod_lt _ (by omega)
    have hm:(a.tmod b).natAbs=a.natAbs % b.natAbs:=Int.natAbs_tmod _ _
    obtain ⟨c,h1,h2⟩:=t94 N p q r s K n b (a.tmod b) (by omega)
    refine ⟨c,?_,?_⟩
    ·rw [decide_eq_false hb,qc hb];exact h1
    ·rw [h2,hm,Nat.gcd_comm b.natAbs,←Nat.gcd_rec,Nat.gcd_comm]
theorem e94 (n d:Int) (h:qei n d): ∃N,m94 N n d=some (qE n d,()):=⟨d.natAbs+1,by
 rw [m94]
 unfold qE
 by_cases h0:d=0
 ·rw [qh h0,if_pos h0]
 rw [qi h0,if_neg h0,qeQ h.1,qeQ h.2]
 by_cases h1:d<0
 ·rw [qh h1,if_pos h1]
  obtain ⟨c,g1,g2⟩:=t94 (d.natAbs+1) (-n) (-d) 0 0 _ (d.natAbs+1) (-n) (-d) (by omega)
  refine g1.trans ?_
  obtain ⟨g3,g4⟩:=qvw (qeg h.1) (qeg h.2) g2
  dsimp only
  rw [qc g3,g4]
  exact qqr (qeg h.1) (qeg h.2) (by omega)
 ·rw [qi h1,if_neg h1]
  obtain ⟨c,g1,g2⟩:=t94 (d.natAbs+1) n d 0 0 _ (d.natAbs+1) n d (by omega)
  refine g1.trans ?_
  obtain ⟨g3,g4⟩:=qvw h.1 h.2 g2
  dsimp only
  rw [qc g3,g4]
  exact qqr h.1 h.2 h0⟩
theorem s94:Sound Try.prog 94 g94:=qw (tt:=tt) (Γ:=Γ94) hT (qf s80 (qf qJt qq)) hm (fn:=Try.f94) Try.func94 (c:=Try.f94.body.getD .skip) (by kernel_rfl) (by kernel_rfl) fun x hx=>by
 obtain ⟨N,h⟩:=e94 x.1 x.2.1 hx
 exact ⟨T94 N,p94,qx _,qJG N,(qL5 N x.1 x.2.1).trans h⟩
def qe (n d:Int):Val Y64:=bif qG n&&qG d then qE n d else ((0:Int),(0:Int))
def g85:G:={ps:=[i3,i3],rs:=[i64],dp:=true,pre:=fun _=>True,fn:=fun x=>(qe x.1 x.2.1,())}
noncomputable def m85 (N:Nat) (v0:Int) (v1:Int):Option (qb [i64]):=bif (!((qG v0):Bool))then (some (((0:Int),(0:Int)),()))else (bif (!((qG v1):Bool))then (some (((0:Int),(0:Int)),()))else (chk (qei v0 v1) (some ((((qE v0 v1).1:Int),((qE v0 v1).2:Int)),()))))
def Γ85:Gam:=[(58,g58),(94,g94)]
theorem qSp:Gam.get Γ85 58=some g58:=rfl
theorem qNf:Gam.get Γ85 94=some g94:=rfl
def qov:Nat→Tree:=fun _=> .done
def qxv:Nat→Nm:=fun _=>⟨[],[],false⟩
def qzm:Nat→Option Jn:=fun _=>none
def qAn:Nat→Option Nm:=fun _=>none
def qAm:Nat→Option Nm:=fun _=>none
theorem p85:ql qov (Try.f85.body.getD .skip)=true:=by kernel_rfl
def T85 (N:Nat):Tab:={tr:=qov,lp:=qxv,ex:=qAn,rg:=qAm,jn:=qzm,fuel:=N}
theorem qLM (N:Nat):(T85 N).pins=false:=rfl
theorem qNV (N:Nat):qm Try.prog (T85 N):=qu fun _=>rfl
theorem qOY (N:Nat) (i:Nat):(T85 N).tr i=qov i:=rfl
theorem qR0 (N:Nat) (i:Nat):(T85 N).lp i=qxv i:=rfl
theorem qIV (N:Nat) (i:Nat):(T85 N).ex i=qAn i:=rfl
theorem qRY (N:Nat) (i:Nat):(T85 N).rg i=qAm i:=rfl
theorem qLs (N:Nat) (i:Nat):(T85 N).jn i=qzm i:=rfl
theorem qMA (N:Nat):(T85 N).fuel=N:=rfl
theorem qLt (N:Nat) (v0:Int) (v1:Int):qd tt Γ85 (T85 N) (Try.f85.body.getD .skip) (qp tt true [i64] [.cell 4 64]) (qt [i3,i3] 17 (v0,v1,()))=m85 N v0 v1:=by
 rw [m85];unfold Try.f85
 simp (maxSteps:=10000000) -implicitDefEqProofs [qOY,qov,qR0,qxv,qIV,qAn,qRY,qAm,qLs,qzm,qMA,qLM,qSp,qNf,g58,g94]
 try rfl
theorem e85 (n d:Int): ∃N,m85 N n d=some (qe n d,()):=⟨0,by
 rw [m85]
 unfold qe
 cases ha:qG n with
 | false=>rfl
 | true=>
   cases hb:qG d with
   | false=>rfl
   | true=>
     simp only [Bool.not_true,cond_false,Bool.and_self,cond_true]
     rw [qc (show qei n d from ⟨qc3 ha,qc3 hb⟩)]⟩
theorem s85:Sound Try.prog 85 g85:=qw (tt:=tt) (Γ:=Γ85) hT (qf s58 (qf s94 qq)) hm (fn:=Try.f85) Try.func85 (c:=Try.f85.body.getD .skip) (by kernel_rfl) (by kernel_rfl) fun x hx=>by
 obtain ⟨N,h⟩:=e85 x.1 x.2.1
 exact ⟨T85 N,p85,qx _,qNV N,(qLt N x.1 x.2.1).trans h⟩
def qaL (a b:Val Y64):Int:=bif qN a&&qN b then sgn (a.1*b.2) (b.1*a.2)else 2
def g56:G:={ps:=[i64,i64],rs:=[i3],dp:=true,pre:=fun _=>True,fn:=fun x=>(qaL x.1 x.2.1,())}
noncomputable def m56 (N:Nat) (v0:Val Y64) (v1:Val Y64):Option (qb [i3]):=bif (!((qN v0):Bool))then (some ((2:Int),()))else (bif (!((qN v1):Bool))then (some ((2:Int),()))else (bif (decide ((IntKind.i64.wrap ((v0.1:Int)*(v1.2:Int)))<(IntKind.i64.wrap ((v1.1:Int)*(v0.2:Int)))))then (some ((-1:Int),()))else (bif (decide ((IntKind.i64.wrap ((v1.1:Int)*(v0.2:Int)))<(IntKind.i64.wrap ((v0.1:Int)*(v1.2:Int)))))then (some ((1:Int),()))else (some ((0:Int),())))))
def Γ56:Gam:=[(79,g79)]
theorem qIb:Gam.get Γ56 79=some g79:=rfl
def qqw:Nat→Tree:=fun i=>if i=3 then .quiet 0 (.quiet 1 (.quiet 2 (.quiet 3 (.quiet 4 (.quiet 5 (.quiet 6 (.quiet 7 (.quiet 8 (.quiet 9 (.quiet 10 (.quiet 11 .done)))))))))))else .done
def qwM:Nat→Nm:=fun _=>⟨[],[],false⟩
def qAz:Nat→Option Jn:=fun _=>none
def qqU:Nat→Option Nm:=fun _=>none
def qzQ:Nat→Option Nm:=fun _=>none
theorem p56:ql qqw (Try.f56.body.getD .skip)=true:=by kernel_rfl
def T56 (N:Nat):Tab:={tr:=qqw,lp:=qwM,ex:=qqU,rg:=qzQ,jn:=qAz,fuel:=N}
theorem qN4 (N:Nat):(T56 N).pins=false:=rfl
theorem qGc (N:Nat):qm Try.prog (T56 N):=qu fun _=>rfl
theorem qIE (N:Nat) (i:Nat):(T56 N).tr i=qqw i:=rfl
theorem qNE (N:Nat) (i:Nat):(T56 N).lp i=qwM i:=rfl
theorem qMz (N:Nat) (i:Nat):(T56 N).ex i=qqU i:=rfl
theorem qPq (N:Nat) (i:Nat):(T56 N).rg i=qzQ i:=rfl
theorem qJ6 (N:Nat) (i:Nat):(T56 N).jn i=qAz i:=rfl
theorem qIY (N:Nat):(T56 N).fuel=N:=rfl
theorem qGG (N:Nat) (v0:Val Y64) (v1:Val Y64):qd tt Γ56 (T56 N) (Try.f56.body.getD .skip) (qp tt true [i3] [.tmp 4]) (qt [i64,i64] 31 (v0,v1,()))=m56 N v0 v1:=by
 rw [m56];unfold Try.f56
 simp (maxSteps:=10000000) -implicitDefEqProofs [qIE,qqw,qNE,qwM,qMz,qqU,qPq,qzQ,qJ6,qAz,qIY,qN4,qIb,g79]
 try rfl
theorem e56 (a b:Val Y64): ∃N,m56 N a b=some (qaL a b,()):=⟨0,by
 rw [m56]
 unfold qaL
 cases ha:qN a with
 | false=>rfl
 | true=>
   cases hb:qN b with
   | false=>rfl
   | true=>
     simp only [Bool.not_true,cond_false,Bool.and_self,cond_true]
     rw [qeo (qfu ha).1 (qfu hb).2,qeo (qfu hb).1 (qfu ha).2]
     unfold sgn
     by_cases h1:(a.1:Int)*b.2<b.1*a.2
     ·rw [qh h1,if_pos h1]
     ·rw [qi h1,if_neg h1]
      by_cases h2:(b.1:Int)*a.2<a.1*b.2
      ·rw [qh h2,if_pos h2]
      ·rw [qi h2,if_neg h2]⟩
theorem s56:Sound Try.prog 56 g56:=qw (tt:=tt) (Γ:=Γ56) hT (qf s79 qq) hm (fn:=Try.f56) Try.func56 (c:=Try.f56.body.getD .skip) (by kernel_rfl) (by kernel_rfl) fun x hx=>by
 obtain ⟨N,h⟩:=e56 x.1 x.2.1
 exact ⟨T56 N,p56,qx _,qGc N,(qGG N x.1 x.2.1).trans h⟩
def qad (a b:Val Y64):Bool:=decide ((a.1:Int)*b.2<b.1*a.2)
def qct (a b:Val Y64):Prop:=qdz a∧qdz b
def g70:G:={ps:=[i64,i64],rs:=[i4],dp:=true,pre:=fun x=>qct x.1 x.2.1,fn:=fun x=>(qad x.1 x.2.1,())}
noncomputable def m70 (N:Nat) (v0:Val Y64) (v1:Val Y64):Option (qb [i4]):=some ((decide ((IntKind.i64.wrap ((v0.1:Int)*(v1.2:Int)))<(IntKind.i64.wrap ((v1.1:Int)*(v0.2:Int))))),())
def Γ70:Gam:=[]
def qnS:Nat→Tree:=fun _=> .done
def qz2:Nat→Nm:=fun _=>⟨[],[],false⟩
def qv0:Nat→Option Jn:=fun _=>none
def qys:Nat→Option Nm:=fun _=>none
def qAa:Nat→Option Nm:=fun _=>none
theorem p70:ql qnS (Try.f70.body.getD .skip)=true:=by kernel_rfl
def T70 (N:Nat):Tab:={tr:=qnS,lp:=qz2,ex:=qys,rg:=qAa,jn:=qv0,fuel:=N}
theorem qKf (N:Nat):(T70 N).pins=false:=rfl
theorem qNu (N:Nat):qm Try.prog (T70 N):=qu fun _=>rfl
theorem qNG (N:Nat) (i:Nat):(T70 N).tr i=qnS i:=rfl
theorem qNB (N:Nat) (i:Nat):(T70 N).lp i=qz2 i:=rfl
theorem qMu (N:Nat) (i:Nat):(T70 N).ex i=qys i:=rfl
theorem qPO (N:Nat) (i:Nat):(T70 N).rg i=qAa i:=rfl
theorem qK8 (N:Nat) (i:Nat):(T70 N).jn i=qv0 i:=rfl
theorem qMW (N:Nat):(T70 N).fuel=N:=rfl
theorem qNe (N:Nat) (v0:Val Y64) (v1:Val Y64):qd tt Γ70 (T70 N) (Try.f70.body.getD .skip) (qp tt true [i4] [.tmp 4]) (qt [i64,i64] 16 (v0,v1,()))=m70 N v0 v1:=by
 rw [m70];unfold Try.f70
 simp (maxSteps:=10000000) -implicitDefEqProofs [qNG,qnS,qNB,qz2,qMu,qys,qPO,qAa,qK8,qv0,qMW,qKf]
 try rfl
theorem e70 (a b:Val Y64) (h:qct a b): ∃N,m70 N a b=some (qad a b,()):=⟨0,by
 rw [m70,qeo h.1.1 h.2.2,qeo h.2.1 h.1.2]
 rfl⟩
theorem s70:Sound Try.prog 70 g70:=qw (tt:=tt) (Γ:=Γ70) hT qq hm (fn:=Try.f70) Try.func70 (c:=Try.f70.body.getD .skip) (by kernel_rfl) (by kernel_rfl) fun x hx=>by
 obtain ⟨N,h⟩:=e70 x.1 x.2.1 hx
 exact ⟨T70 N,p70,qx _,qNu N,(qNe N x.1 x.2.1).trans h⟩
end Go.T
