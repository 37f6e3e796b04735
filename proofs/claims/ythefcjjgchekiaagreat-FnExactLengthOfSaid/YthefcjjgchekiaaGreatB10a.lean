/- Ratios: whether they are valid. -/
import Derived.Test.YthefcjjgchekiaaGreatE0
set_option linter.unusedSimpArgs false
set_option linter.unusedVariables false
namespace Go.T
open Go Go.Proofs
set_option maxHeartbeats 4000000
set_option maxRecDepth 100000
def qdi (a b:Int):Int:=bif qae a&&qae b then q3 a b else 0
def qDe:G:={ps:=[i3,i3],rs:=[i3],dp:=true,pre:=fun _=>True,fn:=fun x=>(qdi x.1 x.2.1,())}
def qCn:G:={ps:=[i3,i3],rs:=[i3],dp:=true,pre:=fun _=>True,fn:=fun x=>(qdi x.1 x.2.1,())}
noncomputable def qoP (N:Nat) (k0:Int→Option (qc [i3])):Nat→Int→Int→Option (qc [i3])
 | 0,_,_=>none
 | n+1,v2,v3=>bif (!(decide (v3=(0:Int))))then (chk (v3≠0) (qoP N k0 n v3 (v2.tmod v3)))else (k0 v2)
noncomputable def qBO (N:Nat) (v0:Int) (v1:Int):Option (qc [i3]):=bif (!((qae v0):Bool))then (some ((0:Int),()))else (bif (!((qae v1):Bool))then (some ((0:Int),()))else (qoP N (fun (v5:Int)=>chk (qbQ v5) (some (((qal v5):Int),()))) N v0 v1))
def qjV:Gam:=[(194,qcu),(278,qb1)]
theorem qIH:Gam.get qjV 194=some qcu:=rfl
theorem q1d:Gam.get qjV 278=some qb1:=rfl
def qrn:Nm:=⟨[true,true],[],false⟩
theorem qL4:qrn.zero=false:=rfl
theorem qQC:qrn.fix=[]:=rfl
theorem qIX:qrn.keep=[true,true]:=rfl
def qG7:Nm:=⟨[true],[],false⟩
theorem qXi:qG7.zero=false:=rfl
theorem qQN:qG7.fix=[]:=rfl
theorem qM2:qG7.keep=[true]:=rfl
def qoU:Nat→Tree:=fun i=>if i=4 then .quiet 0 (.quiet 1 (.quiet 2 (.quiet 3 (.quiet 4 (.quiet 5 .done)))))else .done
def qsg:Nat→Nm:=fun i=>if i=3 then qrn else ⟨[],[],false⟩
def qul:Nat→Option Jn:=fun _=>none
def qvO:Nat→Option Nm:=fun i=>if i=0 then some qG7 else none
def qtI:Nat→Option Nm:=fun _=>none
theorem zmE:qh qoU (Tryz.f198.body.getD .skip)=true:=by kernel_rfl
def qd2 (N:Nat):Tab:={tr:=qoU,lp:=qsg,ex:=qvO,rg:=qtI,jn:=qul,fuel:=N}
theorem qUu (N:Nat):(qd2 N).pins=false:=rfl
theorem ztE (N:Nat):qk Tryz.prog (qd2 N):=qo fun _=>rfl
theorem qRX (N:Nat) (i:Nat):(qd2 N).tr i=qoU i:=rfl
theorem qVr (N:Nat) (i:Nat):(qd2 N).lp i=qsg i:=rfl
theorem q2p (N:Nat) (i:Nat):(qd2 N).ex i=qvO i:=rfl
theorem qK8 (N:Nat) (i:Nat):(qd2 N).rg i=qtI i:=rfl
theorem qOP (N:Nat) (i:Nat):(qd2 N).jn i=qul i:=rfl
theorem qVK (N:Nat):(qd2 N).fuel=N:=rfl
noncomputable def zah:Code:=cut [true,true,false,true,true] (Tryz.f198.body.getD .skip)
theorem zz0 {N:Nat} {Q:X→St→Option (qc [i3])} {e:List LV} {h:List Blk}:qf tt qjV (qd2 N) zah Q ⟨e,h⟩=qf tt qjV (qd2 N) (cut [true,true,false,true,true] (Tryz.f198.body.getD .skip)) Q ⟨e,h⟩:=rfl
theorem zic (N:Nat) {k0:Int→Option (qc [i3])} {Q:X→St→Option (qc [i3])} {c:Code} (hc:c=zah) (hret: ∀st,Q .ret st=qC tt true [i3] [.tmp 4] st) (h0: ∀(v4:Int),Q (.exit 0) ⟨[.one (.int .i64 v4),u,u,u,u,u,u,u,u,u,u,u,u,u,u,u,u,u,u,u,u],[]⟩=k0 v4): ∀(n:Nat) (v2:Int) (v3:Int),qD (qf tt qjV (qd2 N) c) false qrn Q n ⟨[.one (.int .i64 v2),.one (.int .i64 v3),u,u,u,u,u,u,u,u,u,u,u,u,u,u,u,u,u,u,u],[]⟩=qoP N k0 n v2 v3:=by
 subst hc;intro n;induction n with
 | zero=>intros;rfl
 | succ n ih=>
   intro v2 v3
   rw [qN,zz0,qoP];unfold Tryz.f198
   simp (maxSteps:=10000000) -implicitDefEqProofs [qRX,qoU,qVr,qsg,q2p,qvO,qK8,qtI,qOP,qul,qVK,qUu,qQC,qIX,qL4,qQN,qM2,qXi,qIH,q1d,qcu,qb1,hret,h0,ih]
theorem zy7 (N:Nat) (v0:Int) (v1:Int):qf tt qjV (qd2 N) (Tryz.f198.body.getD .skip) (qm tt true [i3] [.tmp 4]) (qp [i3,i3] 21 (v0,v1,()))=qBO N v0 v1:=by
 unfold Tryz.f198
 simp (maxSteps:=10000000) -implicitDefEqProofs [qRX,qoU,qVr,qsg,q2p,qvO,qK8,qtI,qOP,qul,qVK,qUu,qQC,qIX,qL4,qQN,qM2,qXi,qIH,q1d,qcu,qb1]
 rewrite [zic (k0:=(fun (v5:Int)=>chk (qbQ v5) (some (((qal v5):Int),())))) N ?_ ?_ ?_]
 ·rewrite [qBO];first | rfl | simp (maxSteps:=10000000) -implicitDefEqProofs []
 ·rfl
 ·intro;simp only [qK,qL,qJ,qB]
 ·intro v5;simp (maxSteps:=10000000) -implicitDefEqProofs [qRX,qoU,qVr,qsg,q2p,qvO,qK8,qtI,qOP,qul,qVK,qUu,qQC,qIX,qL4,qQN,qM2,qXi,qIH,q1d,qcu,qb1]
noncomputable def qHh (N:Nat) (v0:Int) (v1:Int):Option (qc [i3]):=bif (!((qae v0):Bool))then (some ((0:Int),()))else (bif (!((qae v1):Bool))then (some ((0:Int),()))else (chk (qcr v0 v1) (some (((q3 v0 v1):Int),()))))
def qAi:Gam:=[(204,qel),(280,qbx)]
theorem zrW:Gam.get qAi 204=some qel:=rfl
theorem zea:Gam.get qAi 280=some qbx:=rfl
def qAk:Nat→Tree:=fun _=> .done
def q3b:Nat→Nm:=fun _=>⟨[],[],false⟩
def qOL:Nat→Option Jn:=fun _=>none
def qJx:Nat→Option Nm:=fun _=>none
def q4r:Nat→Option Nm:=fun _=>none
theorem zvz:qh qAk (Tryz.f205.body.getD .skip)=true:=by kernel_rfl
def qfS (N:Nat):Tab:={tr:=qAk,lp:=q3b,ex:=qJx,rg:=q4r,jn:=qOL,fuel:=N}
theorem zhw (N:Nat):(qfS N).pins=false:=rfl
theorem zAh (N:Nat):qk Tryz.prog (qfS N):=qo fun _=>rfl
theorem zk9 (N:Nat) (i:Nat):(qfS N).tr i=qAk i:=rfl
theorem zfU (N:Nat) (i:Nat):(qfS N).lp i=q3b i:=rfl
theorem zg1 (N:Nat) (i:Nat):(qfS N).ex i=qJx i:=rfl
theorem ziw (N:Nat) (i:Nat):(qfS N).rg i=q4r i:=rfl
theorem zjy (N:Nat) (i:Nat):(qfS N).jn i=qOL i:=rfl
theorem zxw (N:Nat):(qfS N).fuel=N:=rfl
theorem zha (N:Nat) (v0:Int) (v1:Int):qf tt qAi (qfS N) (Tryz.f205.body.getD .skip) (qm tt true [i3] [.tmp 4]) (qp [i3,i3] 16 (v0,v1,()))=qHh N v0 v1:=by
 rw [qHh];unfold Tryz.f205
 simp (maxSteps:=10000000) -implicitDefEqProofs [zk9,qAk,zfU,q3b,zg1,qJx,ziw,q4r,zjy,qOL,zxw,zhw,zrW,zea,qel,qbx]
 try rfl
theorem zu2 {n:Int} (h:qae n=true): -400000000≤n∧n≤400000000:=of_decide_eq_true h
theorem q5F (N:Nat) (K:Int→Option (qc [i3])): ∀(n:Nat) (a b:Int),b.natAbs<n→ ∃c:Int,qoP N K n a b=K c∧c.natAbs=Nat.gcd a.natAbs b.natAbs
 | 0,_,_,h=>by omega
 | n+1,a,b,h=>by
   rw [qoP]
   by_cases hb:b=0
   ·subst hb;exact ⟨a,by simp,by simp⟩
   ·have hlt:a.natAbs % b.natAbs<b.natAbs:=Nat.mod_lt _ (by omega)
    have hm:(a.tmod b).natAbs=a.natAbs % b.natAbs:=Int.natAbs_tmod _ _
    obtain ⟨c,h1,h2⟩:=q5F N K n b (a.tmod b) (by omega)
    refine ⟨c,?_,?_⟩
    ·rw [decide_eq_false hb,qe hb];exact h1
    ·rw [h2,hm,Nat.gcd_comm b.natAbs,←Nat.gcd_rec,Nat.gcd_comm]
theorem zuN {a b:Int} (ha:inI a) (hb:inI b):((Nat.gcd a.natAbs b.natAbs:Nat):Int)≤9223372036854775807:=by
 unfold inI at ha hb
 by_cases h0:a.natAbs=0
 ·rw [h0,Nat.gcd_zero_left];omega
 ·have:=Nat.gcd_le_left (m:=a.natAbs) b.natAbs (by omega)
  omega
theorem qQF {c:Int} {a b:Int} (ha:inI a) (hb:inI b) (h:c.natAbs=Nat.gcd a.natAbs b.natAbs):qbQ c∧qal c=q3 a b:=by
 have:=zuN ha hb
 rw [←h]at this
 exact ⟨by show inI c;unfold inI;omega,by unfold qal q3;rw [h]⟩
theorem zzt (a b:Int): ∃N,qBO N a b=some (qdi a b,()):=⟨b.natAbs+1,by
 rw [qBO]
 unfold qdi
 cases ha:qae a with
 | false=>rfl
 | true=>
   cases hb:qae b with
   | false=>rfl
   | true=>
     obtain ⟨c,h1,h2⟩:=q5F (b.natAbs+1) (fun (v5:Int)=>chk (qbQ v5) (some (((qal v5):Int),()))) (b.natAbs+1) a b (Nat.lt_succ_self _)
     obtain ⟨h3,h4⟩:=qQF (qeX ha) (qeX hb) h2
     simp only [Bool.not_true,cond_false,Bool.and_self,cond_true]
     rw [h1,qe h3,h4]⟩
theorem zpQ:Sound Tryz.prog 198 qDe:=qr (tt:=tt) (Γ:=qjV) hT (qg qDC (qg qI8 qn)) hm (fn:=Tryz.f198) Tryz.func198 (c:=Tryz.f198.body.getD .skip) (by kernel_rfl) (by kernel_rfl) fun x hx=>by
 obtain ⟨N,h⟩:=zzt x.1 x.2.1
 exact ⟨qd2 N,zmE,qu _,ztE N,(zy7 N x.1 x.2.1).trans h⟩
theorem zhJ (a b:Int): ∃N,qHh N a b=some (qdi a b,()):=⟨0,by
 rw [qHh]
 unfold qdi
 cases ha:qae a with
 | false=>rfl
 | true=>
   cases hb:qae b with
   | false=>rfl
   | true=>
     simp only [Bool.not_true,cond_false,Bool.and_self,cond_true]
     rw [qe (show qcr a b from ⟨qeX ha,qeX hb⟩)]⟩
theorem znL:Sound Tryz.prog 205 qCn:=qr (tt:=tt) (Γ:=qAi) hT (qg qQn (qg qxl qn)) hm (fn:=Tryz.f205) Tryz.func205 (c:=Tryz.f205.body.getD .skip) (by kernel_rfl) (by kernel_rfl) fun x hx=>by
 obtain ⟨N,h⟩:=zhJ x.1 x.2.1
 exact ⟨qfS N,zvz,qu _,zAh N,(zha N x.1 x.2.1).trans h⟩
def qgp (a:Val Y28):Prop:=(-400000000≤(a.1:Int)∧ @LE.le Int _ a.1 400000000)∧(0≤(a.2:Int)∧ @LE.le Int _ a.2 400000000)
def qE (r:Val Y28):Bool:=inR r.2 1 400000000&&qae r.1&&decide (qdi r.1 r.2=1)
def qaK:G:={ps:=[i28],rs:=[i4],dp:=true,pre:=fun _=>True,fn:=fun x=>(qE x.1,())}
def qaR:G:={ps:=[i28],rs:=[i4],dp:=true,pre:=fun _=>True,fn:=fun x=>(qE x.1,())}
noncomputable def qDA (N:Nat) (v0:Val Y28):Option (qc [i4]):=bif ((inR (v0.2:Int) (1:Int) (400000000:Int)):Bool)then (bif ((qae (v0.1:Int)):Bool)then (some ((decide (((qdi (v0.1:Int) (v0.2:Int)):Int)=(1:Int))),()))else (some (false,())))else (some (false,()))
def qyQ:Gam:=[(118,qao),(194,qcu),(198,qDe)]
theorem zAQ:Gam.get qyQ 118=some qao:=rfl
theorem zsu:Gam.get qyQ 194=some qcu:=rfl
theorem zkP:Gam.get qyQ 198=some qDe:=rfl
def qzp:Nat→Tree:=fun _=> .done
def qXf:Nat→Nm:=fun _=>⟨[],[],false⟩
def qJy:Nat→Option Jn:=fun _=>none
def qIk:Nat→Option Nm:=fun _=>none
def qSh:Nat→Option Nm:=fun _=>none
theorem zcT:qh qzp (Tryz.f109.body.getD .skip)=true:=by kernel_rfl
def qff (N:Nat):Tab:={tr:=qzp,lp:=qXf,ex:=qIk,rg:=qSh,jn:=qJy,fuel:=N}
theorem zuC (N:Nat):(qff N).pins=false:=rfl
theorem zzc (N:Nat):qk Tryz.prog (qff N):=qo fun _=>rfl
theorem zA7 (N:Nat) (i:Nat):(qff N).tr i=qzp i:=rfl
theorem zcO (N:Nat) (i:Nat):(qff N).lp i=qXf i:=rfl
theorem zf2 (N:Nat) (i:Nat):(qff N).ex i=qIk i:=rfl
theorem zfC (N:Nat) (i:Nat):(qff N).rg i=qSh i:=rfl
theorem zxF (N:Nat) (i:Nat):(qff N).jn i=qJy i:=rfl
theorem zc0 (N:Nat):(qff N).fuel=N:=rfl
theorem zet (N:Nat) (v0:Val Y28):qf tt qyQ (qff N) (Tryz.f109.body.getD .skip) (qm tt true [i4] [.tmp 2]) (qp [i28] 19 (v0,()))=qDA N v0:=by
 rw [qDA];unfold Tryz.f109
 simp (maxSteps:=10000000) -implicitDefEqProofs [zA7,qzp,zcO,qXf,zf2,qIk,zfC,qSh,zxF,qJy,zc0,zuC,zAQ,zsu,zkP,qao,qcu,qDe]
 try rfl
noncomputable def qFK (N:Nat) (v0:Val Y28):Option (qc [i4]):=bif (decide ((1:Int)≤(v0.2:Int)))then (bif (decide ((v0.2:Int)≤(400000000:Int)))then (bif ((qae (v0.1:Int)):Bool)then (some ((decide (((qdi (v0.1:Int) (v0.2:Int)):Int)=(1:Int))),()))else (some (false,())))else (some (false,())))else (some (false,()))
def qzl:Gam:=[(204,qel),(205,qCn)]
theorem zu6:Gam.get qzl 204=some qel:=rfl
theorem zn2:Gam.get qzl 205=some qCn:=rfl
def qC5:Nat→Tree:=fun _=> .done
def qZz:Nat→Nm:=fun _=>⟨[],[],false⟩
def qLx:Nat→Option Jn:=fun _=>none
def qTk:Nat→Option Nm:=fun _=>none
def q0I:Nat→Option Nm:=fun _=>none
theorem znU:qh qC5 (Tryz.f114.body.getD .skip)=true:=by kernel_rfl
def qgt (N:Nat):Tab:={tr:=qC5,lp:=qZz,ex:=qTk,rg:=q0I,jn:=qLx,fuel:=N}
theorem zi4 (N:Nat):(qgt N).pins=false:=rfl
theorem zmC (N:Nat):qk Tryz.prog (qgt N):=qo fun _=>rfl
theorem zeV (N:Nat) (i:Nat):(qgt N).tr i=qC5 i:=rfl
theorem zoG (N:Nat) (i:Nat):(qgt N).lp i=qZz i:=rfl
theorem zgM (N:Nat) (i:Nat):(qgt N).ex i=qTk i:=rfl
theorem zrt (N:Nat) (i:Nat):(qgt N).rg i=q0I i:=rfl
theorem zud (N:Nat) (i:Nat):(qgt N).jn i=qLx i:=rfl
theorem ziR (N:Nat):(qgt N).fuel=N:=rfl
theorem zzP (N:Nat) (v0:Val Y28):qf tt qzl (qgt N) (Tryz.f114.body.getD .skip) (qm tt true [i4] [.tmp 2]) (qp [i28] 24 (v0,()))=qFK N v0:=by
 rw [qFK];unfold Tryz.f114
 simp (maxSteps:=10000000) -implicitDefEqProofs [zeV,qC5,zoG,qZz,zgM,qTk,zrt,q0I,zud,qLx,ziR,zi4,zu6,zn2,qel,qCn]
 try rfl
theorem zuO (r:Val Y28): ∃N,qDA N r=some (qE r,()):=⟨0,by
 rw [qDA]
 unfold qE
 cases inR r.2 1 400000000 with
 | false=>rfl
 | true=>cases qae r.1<;>rfl⟩
theorem qms:Sound Tryz.prog 109 qaK:=qr (tt:=tt) (Γ:=qyQ) hT (qg qgN (qg qDC (qg zpQ qn))) hm (fn:=Tryz.f109) Tryz.func109 (c:=Tryz.f109.body.getD .skip) (by kernel_rfl) (by kernel_rfl) fun x hx=>by
 obtain ⟨N,h⟩:=zuO x.1
 exact ⟨qff N,zcT,qu _,zzc N,(zet N x.1).trans h⟩
theorem zx3 (r:Val Y28): ∃N,qFK N r=some (qE r,()):=⟨0,by
 rw [qFK]
 unfold qE
 by_cases h1:(1:Int)≤(r.2:Int)
 ·by_cases h2:(r.2:Int)≤(400000000:Int)
  ·rw [qj h1,qj h2,qe0 ⟨h1,h2⟩]
   cases qae r.1<;>rfl
  ·rw [qj h1,qi h2,qfl fun h=>h2 h.2];rfl
 ·rw [qi h1,qfl fun h=>h1 h.1];rfl⟩
theorem qiK:Sound Tryz.prog 114 qaR:=qr (tt:=tt) (Γ:=qzl) hT (qg qQn (qg znL qn)) hm (fn:=Tryz.f114) Tryz.func114 (c:=Tryz.f114.body.getD .skip) (by kernel_rfl) (by kernel_rfl) fun x hx=>by
 obtain ⟨N,h⟩:=zx3 x.1
 exact ⟨qgt N,znU,qu _,zmC N,(zzP N x.1).trans h⟩
theorem qct {r:Val Y28} (h:qE r=true):qgp r:=by
 unfold qE at h
 simp only [Bool.and_eq_true]at h
 have h1:=zu2 h.1.2
 have h2:(1:Int)≤r.2∧ @LE.le Int _ r.2 400000000:=of_decide_eq_true h.1.1
 exact ⟨h1,Int.le_trans (by decide) h2.1,h2.2⟩
theorem qlM {x y:Int} (hx: -400000000≤x∧x≤400000000) (hy: -400000000≤y∧y≤400000000): -160000000000000000≤x*y∧x*y≤160000000000000000:=by
 have h1:=Int.natAbs_mul x y
 have h2:x.natAbs*y.natAbs≤400000000*400000000:=Nat.mul_le_mul (by omega) (by omega)
 generalize x*y=z at*
 rw [←h1]at h2
 omega
theorem qj6 {x y:Int} (hx: -400000000≤x∧x≤400000000) (hy: -400000000≤y∧y≤400000000):IntKind.i64.wrap (x*y)=x*y:=by
 have:=qlM hx hy
 generalize x*y=z at*
 exact qaC (by omega) (by omega)
end Go.T
