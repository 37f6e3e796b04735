/- Ratios: whether they are valid. -/
import Derived.Test.YthefcjjgchekiaaE0
set_option linter.unusedSimpArgs false
set_option linter.unusedVariables false
namespace Go.T
open Go Go.Proofs
set_option maxHeartbeats 4000000
set_option maxRecDepth 100000
def qcD (a b:Int):Int:=bif qG a&&qG b then qB a b else 0
def qnJ:G:={ps:=[i3,i3],rs:=[i3],dp:=true,pre:=fun _=>True,fn:=fun x=>(qcD x.1 x.2.1,())}
def g92:G:={ps:=[i3,i3],rs:=[i3],dp:=true,pre:=fun _=>True,fn:=fun x=>(qcD x.1 x.2.1,())}
noncomputable def qhb (N:Nat) (k0:Int→Option (qb [i3])):Nat→Int→Int→Option (qb [i3])
 | 0,_,_=>none
 | n+1,v2,v3=>bif (!(decide (v3=(0:Int))))then (chk (v3≠0) (qhb N k0 n v3 (v2.tmod v3)))else (k0 v2)
noncomputable def qoU (N:Nat) (v0:Int) (v1:Int):Option (qb [i3]):=bif (!((qG v0):Bool))then (some ((0:Int),()))else (bif (!((qG v1):Bool))then (some ((0:Int),()))else (qhb N (fun (v5:Int)=>chk (qaW v5) (some (((qP v5):Int),()))) N v0 v1))
def qgp:Gam:=[(58,g58),(80,g80)]
theorem qyb:Gam.get qgp 58=some g58:=rfl
theorem qwk:Gam.get qgp 80=some g80:=rfl
def qlc:Nm:=⟨[true,true],[],false⟩
theorem qta:qlc.zero=false:=rfl
theorem qrf:qlc.fix=[]:=rfl
theorem qy8:qlc.keep=[true,true]:=rfl
def qnZ:Nm:=⟨[true],[],false⟩
theorem qBZ:qnZ.zero=false:=rfl
theorem qAE:qnZ.fix=[]:=rfl
theorem qyj:qnZ.keep=[true]:=rfl
def qhD:Nat→Tree:=fun i=>if i=4 then .quiet 0 (.quiet 1 (.quiet 2 (.quiet 3 (.quiet 4 (.quiet 5 .done)))))else .done
def qjm:Nat→Nm:=fun i=>if i=3 then qlc else ⟨[],[],false⟩
def qj2:Nat→Option Jn:=fun _=>none
def qkW:Nat→Option Nm:=fun i=>if i=0 then some qnZ else none
def qjt:Nat→Option Nm:=fun _=>none
theorem qGd:ql qhD (Try.f111.body.getD .skip)=true:=by kernel_rfl
def qcG (N:Nat):Tab:={tr:=qhD,lp:=qjm,ex:=qkW,rg:=qjt,jn:=qj2,fuel:=N}
theorem qy5 (N:Nat):(qcG N).pins=false:=rfl
theorem qHc (N:Nat):qm Try.prog (qcG N):=qu fun _=>rfl
theorem qBX (N:Nat) (i:Nat):(qcG N).tr i=qhD i:=rfl
theorem qBY (N:Nat) (i:Nat):(qcG N).lp i=qjm i:=rfl
theorem qv5 (N:Nat) (i:Nat):(qcG N).ex i=qkW i:=rfl
theorem qs6 (N:Nat) (i:Nat):(qcG N).rg i=qjt i:=rfl
theorem qzj (N:Nat) (i:Nat):(qcG N).jn i=qj2 i:=rfl
theorem qyu (N:Nat):(qcG N).fuel=N:=rfl
noncomputable def qCB:Code:=cut [true,true,false,true,true] (Try.f111.body.getD .skip)
theorem qMI {N:Nat} {Q:X→St→Option (qb [i3])} {e:List LV} {h:List Blk}:qd tt qgp (qcG N) qCB Q ⟨e,h⟩=qd tt qgp (qcG N) (cut [true,true,false,true,true] (Try.f111.body.getD .skip)) Q ⟨e,h⟩:=rfl
theorem qJE (N:Nat) {k0:Int→Option (qb [i3])} {Q:X→St→Option (qb [i3])} {c:Code} (hc:c=qCB) (hret: ∀st,Q .ret st=qI tt true [i3] [.tmp 4] st) (h0: ∀(v4:Int),Q (.exit 0) ⟨[.one (.int .i64 v4),u,u,u,u,u,u,u,u,u,u,u,u,u,u,u,u,u,u,u,u],[]⟩=k0 v4): ∀(n:Nat) (v2:Int) (v3:Int),qD (qd tt qgp (qcG N) c) false qlc Q n ⟨[.one (.int .i64 v2),.one (.int .i64 v3),u,u,u,u,u,u,u,u,u,u,u,u,u,u,u,u,u,u,u],[]⟩=qhb N k0 n v2 v3:=by
 subst hc;intro n;induction n with
 | zero=>intros;rfl
 | succ n ih=>
   intro v2 v3
   rw [qR,qMI,qhb];unfold Try.f111
   simp (maxSteps:=10000000) -implicitDefEqProofs [qBX,qhD,qBY,qjm,qv5,qkW,qs6,qjt,qzj,qj2,qyu,qy5,qrf,qy8,qta,qAE,qyj,qBZ,qyb,qwk,g58,g80,hret,h0,ih]
theorem qHf (N:Nat) (v0:Int) (v1:Int):qd tt qgp (qcG N) (Try.f111.body.getD .skip) (qp tt true [i3] [.tmp 4]) (qt [i3,i3] 21 (v0,v1,()))=qoU N v0 v1:=by
 unfold Try.f111
 simp (maxSteps:=10000000) -implicitDefEqProofs [qBX,qhD,qBY,qjm,qv5,qkW,qs6,qjt,qzj,qj2,qyu,qy5,qrf,qy8,qta,qAE,qyj,qBZ,qyb,qwk,g58,g80]
 rewrite [qJE (k0:=(fun (v5:Int)=>chk (qaW v5) (some (((qP v5):Int),())))) N ?_ ?_ ?_]
 ·rewrite [qoU];first | rfl | simp (maxSteps:=10000000) -implicitDefEqProofs []
 ·rfl
 ·intro;simp only [qK,qM,qO,qv]
 ·intro v5;simp (maxSteps:=10000000) -implicitDefEqProofs [qBX,qhD,qBY,qjm,qv5,qkW,qs6,qjt,qzj,qj2,qyu,qy5,qrf,qy8,qta,qAE,qyj,qBZ,qyb,qwk,g58,g80]
noncomputable def m92 (N:Nat) (v0:Int) (v1:Int):Option (qb [i3]):=bif (!((qG v0):Bool))then (some ((0:Int),()))else (bif (!((qG v1):Bool))then (some ((0:Int),()))else (chk (qb9 v0 v1) (some (((qB v0 v1):Int),()))))
def Γ92:Gam:=[(64,g64),(65,g65)]
theorem qOi:Gam.get Γ92 64=some g64:=rfl
theorem qNx:Gam.get Γ92 65=some g65:=rfl
def qoo:Nat→Tree:=fun _=> .done
def qx5:Nat→Nm:=fun _=>⟨[],[],false⟩
def qrE:Nat→Option Jn:=fun _=>none
def qxN:Nat→Option Nm:=fun _=>none
def qqK:Nat→Option Nm:=fun _=>none
theorem p92:ql qoo (Try.f92.body.getD .skip)=true:=by kernel_rfl
def T92 (N:Nat):Tab:={tr:=qoo,lp:=qx5,ex:=qxN,rg:=qqK,jn:=qrE,fuel:=N}
theorem qPn (N:Nat):(T92 N).pins=false:=rfl
theorem qIU (N:Nat):qm Try.prog (T92 N):=qu fun _=>rfl
theorem qGu (N:Nat) (i:Nat):(T92 N).tr i=qoo i:=rfl
theorem qQW (N:Nat) (i:Nat):(T92 N).lp i=qx5 i:=rfl
theorem qNo (N:Nat) (i:Nat):(T92 N).ex i=qxN i:=rfl
theorem qJB (N:Nat) (i:Nat):(T92 N).rg i=qqK i:=rfl
theorem qOZ (N:Nat) (i:Nat):(T92 N).jn i=qrE i:=rfl
theorem qOv (N:Nat):(T92 N).fuel=N:=rfl
theorem qLy (N:Nat) (v0:Int) (v1:Int):qd tt Γ92 (T92 N) (Try.f92.body.getD .skip) (qp tt true [i3] [.tmp 4]) (qt [i3,i3] 16 (v0,v1,()))=m92 N v0 v1:=by
 rw [m92];unfold Try.f92
 simp (maxSteps:=10000000) -implicitDefEqProofs [qGu,qoo,qQW,qx5,qNo,qxN,qJB,qqK,qOZ,qrE,qOv,qPn,qOi,qNx,g64,g65]
 try rfl
theorem qOH {n:Int} (h:qG n=true): -400000000≤n∧n≤400000000:=of_decide_eq_true h
theorem qC5 (N:Nat) (K:Int→Option (qb [i3])): ∀(n:Nat) (a b:Int),b.natAbs<n→ ∃c:Int,qhb N K n a b=K c∧c.natAbs=Nat.gcd a.natAbs b.natAbs
 | 0,_,_,h=>by omega
 | n+1,a,b,h=>by
   rw [qhb]
   by_cases hb:b=0
   ·subst hb;exact ⟨a,by simp,by simp⟩
   ·have hlt:a.natAbs % b.natAbs<b.natAbs:=Nat.mod_lt _ (by omega)
    have hm:(a.tmod b).natAbs=a.natAbs % b.natAbs:=Int.natAbs_tmod _ _
    obtain ⟨c,h1,h2⟩:=qC5 N K n b (a.tmod b) (by omega)
    refine ⟨c,?_,?_⟩
    ·rw [decide_eq_false hb,qc hb];exact h1
    ·rw [h2,hm,Nat.gcd_comm b.natAbs,←Nat.gcd_rec,Nat.gcd_comm]
theorem qOg {a b:Int} (ha:inI a) (hb:inI b):((Nat.gcd a.natAbs b.natAbs:Nat):Int)≤9223372036854775807:=by
 unfold inI at ha hb
 by_cases h0:a.natAbs=0
 ·rw [h0,Nat.gcd_zero_left];omega
 ·have:=Nat.gcd_le_left (m:=a.natAbs) b.natAbs (by omega)
  omega
theorem qvw {c:Int} {a b:Int} (ha:inI a) (hb:inI b) (h:c.natAbs=Nat.gcd a.natAbs b.natAbs):qaW c∧qP c=qB a b:=by
 have:=qOg ha hb
 rw [←h]at this
 exact ⟨by show inI c;unfold inI;omega,by unfold qP qB;rw [h]⟩
theorem qSi (a b:Int): ∃N,qoU N a b=some (qcD a b,()):=⟨b.natAbs+1,by
 rw [qoU]
 unfold qcD
 cases ha:qG a with
 | false=>rfl
 | true=>
   cases hb:qG b with
   | false=>rfl
   | true=>
     obtain ⟨c,h1,h2⟩:=qC5 (b.natAbs+1) (fun (v5:Int)=>chk (qaW v5) (some (((qP v5):Int),()))) (b.natAbs+1) a b (Nat.lt_succ_self _)
     obtain ⟨h3,h4⟩:=qvw (qc3 ha) (qc3 hb) h2
     simp only [Bool.not_true,cond_false,Bool.and_self,cond_true]
     rw [h1,qc h3,h4]⟩
theorem qKR:Sound Try.prog 111 qnJ:=qw (tt:=tt) (Γ:=qgp) hT (qf s58 (qf s80 qq)) hm (fn:=Try.f111) Try.func111 (c:=Try.f111.body.getD .skip) (by kernel_rfl) (by kernel_rfl) fun x hx=>by
 obtain ⟨N,h⟩:=qSi x.1 x.2.1
 exact ⟨qcG N,qGd,qx _,qHc N,(qHf N x.1 x.2.1).trans h⟩
theorem e92 (a b:Int): ∃N,m92 N a b=some (qcD a b,()):=⟨0,by
 rw [m92]
 unfold qcD
 cases ha:qG a with
 | false=>rfl
 | true=>
   cases hb:qG b with
   | false=>rfl
   | true=>
     simp only [Bool.not_true,cond_false,Bool.and_self,cond_true]
     rw [qc (show qb9 a b from ⟨qc3 ha,qc3 hb⟩)]⟩
theorem s92:Sound Try.prog 92 g92:=qw (tt:=tt) (Γ:=Γ92) hT (qf s64 (qf s65 qq)) hm (fn:=Try.f92) Try.func92 (c:=Try.f92.body.getD .skip) (by kernel_rfl) (by kernel_rfl) fun x hx=>by
 obtain ⟨N,h⟩:=e92 x.1 x.2.1
 exact ⟨T92 N,p92,qx _,qIU N,(qLy N x.1 x.2.1).trans h⟩
def qdz (a:Val Y64):Prop:=(-400000000≤(a.1:Int)∧ @LE.le Int _ a.1 400000000)∧(0≤(a.2:Int)∧ @LE.le Int _ a.2 400000000)
def qN (r:Val Y64):Bool:=inR r.2 1 400000000&&qG r.1&&decide (qcD r.1 r.2=1)
def qf2:G:={ps:=[i64],rs:=[i4],dp:=true,pre:=fun _=>True,fn:=fun x=>(qN x.1,())}
def g79:G:={ps:=[i64],rs:=[i4],dp:=true,pre:=fun _=>True,fn:=fun x=>(qN x.1,())}
noncomputable def qp8 (N:Nat) (v0:Val Y64):Option (qb [i4]):=bif ((inR (v0.2:Int) (1:Int) (400000000:Int)):Bool)then (bif ((qG (v0.1:Int)):Bool)then (some ((decide (((qcD (v0.1:Int) (v0.2:Int)):Int)=(1:Int))),()))else (some (false,())))else (some (false,()))
def qj6:Gam:=[(49,g49),(58,g58),(111,qnJ)]
theorem qIA:Gam.get qj6 49=some g49:=rfl
theorem qNI:Gam.get qj6 58=some g58:=rfl
theorem qIq:Gam.get qj6 111=some qnJ:=rfl
def qo8:Nat→Tree:=fun _=> .done
def qq3:Nat→Nm:=fun _=>⟨[],[],false⟩
def qs8:Nat→Option Jn:=fun _=>none
def qun:Nat→Option Nm:=fun _=>none
def qyG:Nat→Option Nm:=fun _=>none
theorem qHS:ql qo8 (Try.f105.body.getD .skip)=true:=by kernel_rfl
def qdf (N:Nat):Tab:={tr:=qo8,lp:=qq3,ex:=qun,rg:=qyG,jn:=qs8,fuel:=N}
theorem qHK (N:Nat):(qdf N).pins=false:=rfl
theorem qOs (N:Nat):qm Try.prog (qdf N):=qu fun _=>rfl
theorem qGK (N:Nat) (i:Nat):(qdf N).tr i=qo8 i:=rfl
theorem qKe (N:Nat) (i:Nat):(qdf N).lp i=qq3 i:=rfl
theorem qN5 (N:Nat) (i:Nat):(qdf N).ex i=qun i:=rfl
theorem qR9 (N:Nat) (i:Nat):(qdf N).rg i=qyG i:=rfl
theorem qGN (N:Nat) (i:Nat):(qdf N).jn i=qs8 i:=rfl
theorem qP5 (N:Nat):(qdf N).fuel=N:=rfl
theorem qF3 (N:Nat) (v0:Val Y64):qd tt qj6 (qdf N) (Try.f105.body.getD .skip) (qp tt true [i4] [.tmp 2]) (qt [i64] 19 (v0,()))=qp8 N v0:=by
 rw [qp8];unfold Try.f105
 simp (maxSteps:=10000000) -implicitDefEqProofs [qGK,qo8,qKe,qq3,qN5,qun,qR9,qyG,qGN,qs8,qP5,qHK,qIA,qNI,qIq,g49,g58,qnJ]
 try rfl
noncomputable def m79 (N:Nat) (v0:Val Y64):Option (qb [i4]):=bif (decide ((1:Int)≤(v0.2:Int)))then (bif (decide ((v0.2:Int)≤(400000000:Int)))then (bif ((qG (v0.1:Int)):Bool)then (some ((decide (((qcD (v0.1:Int) (v0.2:Int)):Int)=(1:Int))),()))else (some (false,())))else (some (false,())))else (some (false,()))
def Γ79:Gam:=[(64,g64),(92,g92)]
theorem qHA:Gam.get Γ79 64=some g64:=rfl
theorem qPe:Gam.get Γ79 92=some g92:=rfl
def qnm:Nat→Tree:=fun _=> .done
def qrn:Nat→Nm:=fun _=>⟨[],[],false⟩
def qvR:Nat→Option Jn:=fun _=>none
def qxI:Nat→Option Nm:=fun _=>none
def qrw:Nat→Option Nm:=fun _=>none
theorem p79:ql qnm (Try.f79.body.getD .skip)=true:=by kernel_rfl
def T79 (N:Nat):Tab:={tr:=qnm,lp:=qrn,ex:=qxI,rg:=qrw,jn:=qvR,fuel:=N}
theorem qOl (N:Nat):(T79 N).pins=false:=rfl
theorem qOw (N:Nat):qm Try.prog (T79 N):=qu fun _=>rfl
theorem qJl (N:Nat) (i:Nat):(T79 N).tr i=qnm i:=rfl
theorem qPA (N:Nat) (i:Nat):(T79 N).lp i=qrn i:=rfl
theorem qQq (N:Nat) (i:Nat):(T79 N).ex i=qxI i:=rfl
theorem qKs (N:Nat) (i:Nat):(T79 N).rg i=qrw i:=rfl
theorem qMm (N:Nat) (i:Nat):(T79 N).jn i=qvR i:=rfl
theorem qJg (N:Nat):(T79 N).fuel=N:=rfl
theorem qH5 (N:Nat) (v0:Val Y64):qd tt Γ79 (T79 N) (Try.f79.body.getD .skip) (qp tt true [i4] [.tmp 2]) (qt [i64] 24 (v0,()))=m79 N v0:=by
 rw [m79];unfold Try.f79
 simp (maxSteps:=10000000) -implicitDefEqProofs [qJl,qnm,qPA,qrn,qQq,qxI,qKs,qrw,qMm,qvR,qJg,qOl,qHA,qPe,g64,g92]
 try rfl
theorem qGz (r:Val Y64): ∃N,qp8 N r=some (qN r,()):=⟨0,by
 rw [qp8]
 unfold qN
 cases inR r.2 1 400000000 with
 | false=>rfl
 | true=>cases qG r.1<;>rfl⟩
theorem qJt:Sound Try.prog 105 qf2:=qw (tt:=tt) (Γ:=qj6) hT (qf s49 (qf s58 (qf qKR qq))) hm (fn:=Try.f105) Try.func105 (c:=Try.f105.body.getD .skip) (by kernel_rfl) (by kernel_rfl) fun x hx=>by
 obtain ⟨N,h⟩:=qGz x.1
 exact ⟨qdf N,qHS,qx _,qOs N,(qF3 N x.1).trans h⟩
theorem e79 (r:Val Y64): ∃N,m79 N r=some (qN r,()):=⟨0,by
 rw [m79]
 unfold qN
 by_cases h1:(1:Int)≤(r.2:Int)
 ·by_cases h2:(r.2:Int)≤(400000000:Int)
  ·rw [qh h1,qh h2,qes ⟨h1,h2⟩]
   cases qG r.1<;>rfl
  ·rw [qh h1,qi h2,qfN fun h=>h2 h.2];rfl
 ·rw [qi h1,qfN fun h=>h1 h.1];rfl⟩
theorem s79:Sound Try.prog 79 g79:=qw (tt:=tt) (Γ:=Γ79) hT (qf s64 (qf s92 qq)) hm (fn:=Try.f79) Try.func79 (c:=Try.f79.body.getD .skip) (by kernel_rfl) (by kernel_rfl) fun x hx=>by
 obtain ⟨N,h⟩:=e79 x.1
 exact ⟨T79 N,p79,qx _,qOw N,(qH5 N x.1).trans h⟩
theorem qfu {r:Val Y64} (h:qN r=true):qdz r:=by
 unfold qN at h
 simp only [Bool.and_eq_true]at h
 have h1:=qOH h.1.2
 have h2:(1:Int)≤r.2∧ @LE.le Int _ r.2 400000000:=of_decide_eq_true h.1.1
 exact ⟨h1,Int.le_trans (by decide) h2.1,h2.2⟩
end Go.T
