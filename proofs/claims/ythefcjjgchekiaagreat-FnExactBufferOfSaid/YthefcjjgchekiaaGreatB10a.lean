/- Ratios: whether they are valid. -/
import Derived.Test.YthefcjjgchekiaaGreatE0
set_option linter.unusedSimpArgs false
set_option linter.unusedVariables false
namespace Go.T
open Go Go.Proofs
set_option maxHeartbeats 4000000
set_option maxRecDepth 100000
def qhp (a b:Int):Int:=bif qX a&&qX b then qaS a b else 0
def qyR:G:={ps:=[i3,i3],rs:=[i3],dp:=true,pre:=fun _=>True,fn:=fun x=>(qhp x.1 x.2.1,())}
def qyv:G:={ps:=[i3,i3],rs:=[i3],dp:=true,pre:=fun _=>True,fn:=fun x=>(qhp x.1 x.2.1,())}
noncomputable def qnB (N:Nat) (k0:Int→Option (qb [i3])):Nat→Int→Int→Option (qb [i3])
 | 0,_,_=>none
 | n+1,v2,v3=>bif (!(decide (v3=(0:Int))))then (chk (v3≠0) (qnB N k0 n v3 (v2.tmod v3)))else (k0 v2)
noncomputable def qyZ (N:Nat) (v0:Int) (v1:Int):Option (qb [i3]):=bif (!((qX v0):Bool))then (some ((0:Int),()))else (bif (!((qX v1):Bool))then (some ((0:Int),()))else (qnB N (fun (v5:Int)=>chk (qbH v5) (some (((qa9 v5):Int),()))) N v0 v1))
def qiW:Gam:=[(194,qck),(278,qcS)]
theorem qBE:Gam.get qiW 194=some qck:=rfl
theorem qGH:Gam.get qiW 278=some qcS:=rfl
def qoS:Nm:=⟨[true,true],[],false⟩
theorem qGJ:qoS.zero=false:=rfl
theorem qDL:qoS.fix=[]:=rfl
theorem qFO:qoS.keep=[true,true]:=rfl
def qvi:Nm:=⟨[true],[],false⟩
theorem qHr:qvi.zero=false:=rfl
theorem qOh:qvi.fix=[]:=rfl
theorem qK2:qvi.keep=[true]:=rfl
def qnC:Nat→Tree:=fun i=>if i=4 then .quiet 0 (.quiet 1 (.quiet 2 (.quiet 3 (.quiet 4 (.quiet 5 .done)))))else .done
def qqx:Nat→Nm:=fun i=>if i=3 then qoS else ⟨[],[],false⟩
def quM:Nat→Option Jn:=fun _=>none
def qrd:Nat→Option Nm:=fun i=>if i=0 then some qvi else none
def qsz:Nat→Option Nm:=fun _=>none
theorem q2s:qj qnC (Tryz.f198.body.getD .skip)=true:=by kernel_rfl
def qcF (N:Nat):Tab:={tr:=qnC,lp:=qqx,ex:=qrd,rg:=qsz,jn:=quM,fuel:=N}
theorem qI1 (N:Nat):(qcF N).pins=false:=rfl
theorem qWd (N:Nat):qn Tryz.prog (qcF N):=qr fun _=>rfl
theorem qMx (N:Nat) (i:Nat):(qcF N).tr i=qnC i:=rfl
theorem qHl (N:Nat) (i:Nat):(qcF N).lp i=qqx i:=rfl
theorem qNu (N:Nat) (i:Nat):(qcF N).ex i=qrd i:=rfl
theorem qIz (N:Nat) (i:Nat):(qcF N).rg i=qsz i:=rfl
theorem qLe (N:Nat) (i:Nat):(qcF N).jn i=quM i:=rfl
theorem qDE (N:Nat):(qcF N).fuel=N:=rfl
noncomputable def qTi:Code:=cut [true,true,false,true,true] (Tryz.f198.body.getD .skip)
theorem zbX {N:Nat} {Q:X→St→Option (qb [i3])} {e:List LV} {h:List Blk}:qd tt qiW (qcF N) qTi Q ⟨e,h⟩=qd tt qiW (qcF N) (cut [true,true,false,true,true] (Tryz.f198.body.getD .skip)) Q ⟨e,h⟩:=rfl
theorem q5P (N:Nat) {k0:Int→Option (qb [i3])} {Q:X→St→Option (qb [i3])} {c:Code} (hc:c=qTi) (hret: ∀st,Q .ret st=qB tt true [i3] [.tmp 4] st) (h0: ∀(v4:Int),Q (.exit 0) ⟨[.one (.int .i64 v4),u,u,u,u,u,u,u,u,u,u,u,u,u,u,u,u,u,u,u,u],[]⟩=k0 v4): ∀(n:Nat) (v2:Int) (v3:Int),qC (qd tt qiW (qcF N) c) false qoS Q n ⟨[.one (.int .i64 v2),.one (.int .i64 v3),u,u,u,u,u,u,u,u,u,u,u,u,u,u,u,u,u,u,u],[]⟩=qnB N k0 n v2 v3:=by
 subst hc;intro n;induction n with
 | zero=>intros;rfl
 | succ n ih=>
   intro v2 v3
   rw [qL,zbX,qnB];unfold Tryz.f198
   simp (maxSteps:=10000000) -implicitDefEqProofs [qMx,qnC,qHl,qqx,qNu,qrd,qIz,qsz,qLe,quM,qDE,qI1,qDL,qFO,qGJ,qOh,qK2,qHr,qBE,qGH,qck,qcS,hret,h0,ih]
theorem qYQ (N:Nat) (v0:Int) (v1:Int):qd tt qiW (qcF N) (Tryz.f198.body.getD .skip) (qo tt true [i3] [.tmp 4]) (qt [i3,i3] 21 (v0,v1,()))=qyZ N v0 v1:=by
 unfold Tryz.f198
 simp (maxSteps:=10000000) -implicitDefEqProofs [qMx,qnC,qHl,qqx,qNu,qrd,qIz,qsz,qLe,quM,qDE,qI1,qDL,qFO,qGJ,qOh,qK2,qHr,qBE,qGH,qck,qcS]
 rewrite [q5P (k0:=(fun (v5:Int)=>chk (qbH v5) (some (((qa9 v5):Int),())))) N ?_ ?_ ?_]
 ·rewrite [qyZ];first | rfl | simp (maxSteps:=10000000) -implicitDefEqProofs []
 ·rfl
 ·intro;simp only [qK,qI,qJ,qy]
 ·intro v5;simp (maxSteps:=10000000) -implicitDefEqProofs [qMx,qnC,qHl,qqx,qNu,qrd,qIz,qsz,qLe,quM,qDE,qI1,qDL,qFO,qGJ,qOh,qK2,qHr,qBE,qGH,qck,qcS]
noncomputable def qBo (N:Nat) (v0:Int) (v1:Int):Option (qb [i3]):=bif (!((qX v0):Bool))then (some ((0:Int),()))else (bif (!((qX v1):Bool))then (some ((0:Int),()))else (chk (qdb v0 v1) (some (((qaS v0 v1):Int),()))))
def qwS:Gam:=[(204,qer),(280,qba)]
theorem q4X:Gam.get qwS 204=some qer:=rfl
theorem q05:Gam.get qwS 280=some qba:=rfl
def qz7:Nat→Tree:=fun _=> .done
def qDd:Nat→Nm:=fun _=>⟨[],[],false⟩
def qGO:Nat→Option Jn:=fun _=>none
def qC6:Nat→Option Nm:=fun _=>none
def qNV:Nat→Option Nm:=fun _=>none
theorem q1q:qj qz7 (Tryz.f205.body.getD .skip)=true:=by kernel_rfl
def qfY (N:Nat):Tab:={tr:=qz7,lp:=qDd,ex:=qC6,rg:=qNV,jn:=qGO,fuel:=N}
theorem q3D (N:Nat):(qfY N).pins=false:=rfl
theorem q8B (N:Nat):qn Tryz.prog (qfY N):=qr fun _=>rfl
theorem q4r (N:Nat) (i:Nat):(qfY N).tr i=qz7 i:=rfl
theorem q0E (N:Nat) (i:Nat):(qfY N).lp i=qDd i:=rfl
theorem zbh (N:Nat) (i:Nat):(qfY N).ex i=qC6 i:=rfl
theorem zal (N:Nat) (i:Nat):(qfY N).rg i=qNV i:=rfl
theorem qVF (N:Nat) (i:Nat):(qfY N).jn i=qGO i:=rfl
theorem qY9 (N:Nat):(qfY N).fuel=N:=rfl
theorem qYG (N:Nat) (v0:Int) (v1:Int):qd tt qwS (qfY N) (Tryz.f205.body.getD .skip) (qo tt true [i3] [.tmp 4]) (qt [i3,i3] 16 (v0,v1,()))=qBo N v0 v1:=by
 rw [qBo];unfold Tryz.f205
 simp (maxSteps:=10000000) -implicitDefEqProofs [q4r,qz7,q0E,qDd,zbh,qC6,zal,qNV,qVF,qGO,qY9,q3D,q4X,q05,qer,qba]
 try rfl
theorem zbp {n:Int} (h:qX n=true): -400000000≤n∧n≤400000000:=of_decide_eq_true h
theorem qSC (N:Nat) (K:Int→Option (qb [i3])): ∀(n:Nat) (a b:Int),b.natAbs<n→ ∃c:Int,qnB N K n a b=K c∧c.natAbs=Nat.gcd a.natAbs b.natAbs
 | 0,_,_,h=>by omega
 | n+1,a,b,h=>by
   rw [qnB]
   by_cases hb:b=0
   ·subst hb;exact ⟨a,by simp,by simp⟩
   ·have hlt:a.natAbs % b.natAbs<b.natAbs:=Nat.mod_lt _ (by omega)
    have hm:(a.tmod b).natAbs=a.natAbs % b.natAbs:=Int.natAbs_tmod _ _
    obtain ⟨c,h1,h2⟩:=qSC N K n b (a.tmod b) (by omega)
    refine ⟨c,?_,?_⟩
    ·rw [decide_eq_false hb,qe hb];exact h1
    ·rw [h2,hm,Nat.gcd_comm b.natAbs,←Nat.gcd_rec,Nat.gcd_comm]
theorem q9p {a b:Int} (ha:inI a) (hb:inI b):((Nat.gcd a.natAbs b.natAbs:Nat):Int)≤9223372036854775807:=by
 unfold inI at ha hb
 by_cases h0:a.natAbs=0
 ·rw [h0,Nat.gcd_zero_left];omega
 ·have:=Nat.gcd_le_left (m:=a.natAbs) b.natAbs (by omega)
  omega
theorem zcu {c:Int} {a b:Int} (ha:inI a) (hb:inI b) (h:c.natAbs=Nat.gcd a.natAbs b.natAbs):qbH c∧qa9 c=qaS a b:=by
 have:=q9p ha hb
 rw [←h]at this
 exact ⟨by show inI c;unfold inI;omega,by unfold qa9 qaS;rw [h]⟩
theorem q20 (a b:Int): ∃N,qyZ N a b=some (qhp a b,()):=⟨b.natAbs+1,by
 rw [qyZ]
 unfold qhp
 cases ha:qX a with
 | false=>rfl
 | true=>
   cases hb:qX b with
   | false=>rfl
   | true=>
     obtain ⟨c,h1,h2⟩:=qSC (b.natAbs+1) (fun (v5:Int)=>chk (qbH v5) (some (((qa9 v5):Int),()))) (b.natAbs+1) a b (Nat.lt_succ_self _)
     obtain ⟨h3,h4⟩:=zcu (qhd ha) (qhd hb) h2
     simp only [Bool.not_true,cond_false,Bool.and_self,cond_true]
     rw [h1,qe h3,h4]⟩
theorem zb6:Sound Tryz.prog 198 qyR:=qu (tt:=tt) (Γ:=qiW) hT (qf qGZ (qf qQo qq)) hm (fn:=Tryz.f198) Tryz.func198 (c:=Tryz.f198.body.getD .skip) (by kernel_rfl) (by kernel_rfl) fun x hx=>by
 obtain ⟨N,h⟩:=q20 x.1 x.2.1
 exact ⟨qcF N,q2s,qv _,qWd N,(qYQ N x.1 x.2.1).trans h⟩
theorem q18 (a b:Int): ∃N,qBo N a b=some (qhp a b,()):=⟨0,by
 rw [qBo]
 unfold qhp
 cases ha:qX a with
 | false=>rfl
 | true=>
   cases hb:qX b with
   | false=>rfl
   | true=>
     simp only [Bool.not_true,cond_false,Bool.and_self,cond_true]
     rw [qe (show qdb a b from ⟨qhd ha,qhd hb⟩)]⟩
theorem zdn:Sound Tryz.prog 205 qyv:=qu (tt:=tt) (Γ:=qwS) hT (qf qFZ (qf qyH qq)) hm (fn:=Tryz.f205) Tryz.func205 (c:=Tryz.f205.body.getD .skip) (by kernel_rfl) (by kernel_rfl) fun x hx=>by
 obtain ⟨N,h⟩:=q18 x.1 x.2.1
 exact ⟨qfY N,q1q,qv _,q8B N,(qYG N x.1 x.2.1).trans h⟩
def zaQ (a:Val Y28):Prop:=(-400000000≤(a.1:Int)∧ @LE.le Int _ a.1 400000000)∧(0≤(a.2:Int)∧ @LE.le Int _ a.2 400000000)
def qaQ (r:Val Y28):Bool:=inR r.2 1 400000000&&qX r.1&&decide (qhp r.1 r.2=1)
def qbR:G:={ps:=[i28],rs:=[i4],dp:=true,pre:=fun _=>True,fn:=fun x=>(qaQ x.1,())}
def qwj:G:={ps:=[i28],rs:=[i4],dp:=true,pre:=fun _=>True,fn:=fun x=>(qaQ x.1,())}
noncomputable def qzU (N:Nat) (v0:Val Y28):Option (qb [i4]):=bif ((inR (v0.2:Int) (1:Int) (400000000:Int)):Bool)then (bif ((qX (v0.1:Int)):Bool)then (some ((decide (((qhp (v0.1:Int) (v0.2:Int)):Int)=(1:Int))),()))else (some (false,())))else (some (false,()))
def qoi:Gam:=[(118,q5),(194,qck),(198,qyR)]
theorem q3k:Gam.get qoi 118=some q5:=rfl
theorem q55:Gam.get qoi 194=some qck:=rfl
theorem zaz:Gam.get qoi 198=some qyR:=rfl
def qu9:Nat→Tree:=fun _=> .done
def qKp:Nat→Nm:=fun _=>⟨[],[],false⟩
def qJ9:Nat→Option Jn:=fun _=>none
def qKQ:Nat→Option Nm:=fun _=>none
def qJT:Nat→Option Nm:=fun _=>none
theorem q5i:qj qu9 (Tryz.f109.body.getD .skip)=true:=by kernel_rfl
def qgf (N:Nat):Tab:={tr:=qu9,lp:=qKp,ex:=qKQ,rg:=qJT,jn:=qJ9,fuel:=N}
theorem qVZ (N:Nat):(qgf N).pins=false:=rfl
theorem q5a (N:Nat):qn Tryz.prog (qgf N):=qr fun _=>rfl
theorem zdI (N:Nat) (i:Nat):(qgf N).tr i=qu9 i:=rfl
theorem q8J (N:Nat) (i:Nat):(qgf N).lp i=qKp i:=rfl
theorem zcw (N:Nat) (i:Nat):(qgf N).ex i=qKQ i:=rfl
theorem qZr (N:Nat) (i:Nat):(qgf N).rg i=qJT i:=rfl
theorem q87 (N:Nat) (i:Nat):(qgf N).jn i=qJ9 i:=rfl
theorem q03 (N:Nat):(qgf N).fuel=N:=rfl
theorem q1G (N:Nat) (v0:Val Y28):qd tt qoi (qgf N) (Tryz.f109.body.getD .skip) (qo tt true [i4] [.tmp 2]) (qt [i28] 19 (v0,()))=qzU N v0:=by
 rw [qzU];unfold Tryz.f109
 simp (maxSteps:=10000000) -implicitDefEqProofs [zdI,qu9,q8J,qKp,zcw,qKQ,qZr,qJT,q87,qJ9,q03,qVZ,q3k,q55,zaz,q5,qck,qyR]
 try rfl
noncomputable def qAw (N:Nat) (v0:Val Y28):Option (qb [i4]):=bif (decide ((1:Int)≤(v0.2:Int)))then (bif (decide ((v0.2:Int)≤(400000000:Int)))then (bif ((qX (v0.1:Int)):Bool)then (some ((decide (((qhp (v0.1:Int) (v0.2:Int)):Int)=(1:Int))),()))else (some (false,())))else (some (false,())))else (some (false,()))
def qyB:Gam:=[(204,qer),(205,qyv)]
theorem q2Q:Gam.get qyB 204=some qer:=rfl
theorem qYM:Gam.get qyB 205=some qyv:=rfl
def qx5:Nat→Tree:=fun _=> .done
def qBQ:Nat→Nm:=fun _=>⟨[],[],false⟩
def qLF:Nat→Option Jn:=fun _=>none
def qIm:Nat→Option Nm:=fun _=>none
def qBN:Nat→Option Nm:=fun _=>none
theorem qWf:qj qx5 (Tryz.f114.body.getD .skip)=true:=by kernel_rfl
def qfI (N:Nat):Tab:={tr:=qx5,lp:=qBQ,ex:=qIm,rg:=qBN,jn:=qLF,fuel:=N}
theorem qXh (N:Nat):(qfI N).pins=false:=rfl
theorem qUT (N:Nat):qn Tryz.prog (qfI N):=qr fun _=>rfl
theorem zb2 (N:Nat) (i:Nat):(qfI N).tr i=qx5 i:=rfl
theorem q0t (N:Nat) (i:Nat):(qfI N).lp i=qBQ i:=rfl
theorem q6U (N:Nat) (i:Nat):(qfI N).ex i=qIm i:=rfl
theorem q8Q (N:Nat) (i:Nat):(qfI N).rg i=qBN i:=rfl
theorem qXi (N:Nat) (i:Nat):(qfI N).jn i=qLF i:=rfl
theorem qZU (N:Nat):(qfI N).fuel=N:=rfl
theorem qWb (N:Nat) (v0:Val Y28):qd tt qyB (qfI N) (Tryz.f114.body.getD .skip) (qo tt true [i4] [.tmp 2]) (qt [i28] 24 (v0,()))=qAw N v0:=by
 rw [qAw];unfold Tryz.f114
 simp (maxSteps:=10000000) -implicitDefEqProofs [zb2,qx5,q0t,qBQ,q6U,qIm,q8Q,qBN,qXi,qLF,qZU,qXh,q2Q,qYM,qer,qyv]
 try rfl
theorem q9T (r:Val Y28): ∃N,qzU N r=some (qaQ r,()):=⟨0,by
 rw [qzU]
 unfold qaQ
 cases inR r.2 1 400000000 with
 | false=>rfl
 | true=>cases qX r.1<;>rfl⟩
theorem qWk:Sound Tryz.prog 109 qbR:=qu (tt:=tt) (Γ:=qoi) hT (qf qmH (qf qGZ (qf zb6 qq))) hm (fn:=Tryz.f109) Tryz.func109 (c:=Tryz.f109.body.getD .skip) (by kernel_rfl) (by kernel_rfl) fun x hx=>by
 obtain ⟨N,h⟩:=q9T x.1
 exact ⟨qgf N,q5i,qv _,q5a N,(q1G N x.1).trans h⟩
theorem q21 (r:Val Y28): ∃N,qAw N r=some (qaQ r,()):=⟨0,by
 rw [qAw]
 unfold qaQ
 by_cases h1:(1:Int)≤(r.2:Int)
 ·by_cases h2:(r.2:Int)≤(400000000:Int)
  ·rw [ql h1,ql h2,qjq ⟨h1,h2⟩]
   cases qX r.1<;>rfl
  ·rw [ql h1,qi h2,qkC fun h=>h2 h.2];rfl
 ·rw [qi h1,qkC fun h=>h1 h.1];rfl⟩
theorem q0d:Sound Tryz.prog 114 qwj:=qu (tt:=tt) (Γ:=qyB) hT (qf qFZ (qf zdn qq)) hm (fn:=Tryz.f114) Tryz.func114 (c:=Tryz.f114.body.getD .skip) (by kernel_rfl) (by kernel_rfl) fun x hx=>by
 obtain ⟨N,h⟩:=q21 x.1
 exact ⟨qfI N,qWf,qv _,qUT N,(qWb N x.1).trans h⟩
theorem qR3 {r:Val Y28} (h:qaQ r=true):zaQ r:=by
 unfold qaQ at h
 simp only [Bool.and_eq_true]at h
 have h1:=zbp h.1.2
 have h2:(1:Int)≤r.2∧ @LE.le Int _ r.2 400000000:=of_decide_eq_true h.1.1
 exact ⟨h1,Int.le_trans (by decide) h2.1,h2.2⟩
end Go.T
