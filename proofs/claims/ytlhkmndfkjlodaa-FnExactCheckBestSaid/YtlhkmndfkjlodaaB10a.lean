/- Ratios: whether they are valid. -/
import Derived.Test.YtlhkmndfkjlodaaB9
set_option linter.unusedSimpArgs false
set_option linter.unusedVariables false
namespace Go.T
open Go Go.Proofs
set_option maxHeartbeats 4000000
set_option maxRecDepth 100000
def qcB (a b:Int):Int:=bif qv a&&qv b then qw a b else 0
def qoZ:G:={ps:=[i3,i3],rs:=[i3],dp:=true,pre:=fun _=>True,fn:=fun x=>(qcB x.1 x.2.1,())}
def qow:G:={ps:=[i3,i3],rs:=[i3],dp:=true,pre:=fun _=>True,fn:=fun x=>(qcB x.1 x.2.1,())}
noncomputable def qgn (N:Nat) (k0:Int→Option (qa [i3])):Nat→Int→Int→Option (qa [i3])
 | 0,_,_=>none
 | n+1,v2,v3=>bif (!(decide (v3=(0:Int))))then (chk (v3≠0) (qgn N k0 n v3 (v2.tmod v3)))else (k0 v2)
noncomputable def qnW (N:Nat) (v0:Int) (v1:Int):Option (qa [i3]):=bif (!((qv v0):Bool))then (some ((0:Int),()))else (bif (!((qv v1):Bool))then (some ((0:Int),()))else (qgn N (fun (v5:Int)=>chk (qan v5) (some (((qG v5):Int),()))) N v0 v1))
def qdY:Gam:=[(98,g98),(135,qav)]
theorem qtd:Gam.get qdY 98=some g98:=rfl
theorem qr9:Gam.get qdY 135=some qav:=rfl
def qjs:Nm:=⟨[true,true],[],false⟩
theorem qx9:qjs.zero=false:=rfl
theorem qxR:qjs.fix=[]:=rfl
theorem qs2:qjs.keep=[true,true]:=rfl
def qnP:Nm:=⟨[true],[],false⟩
theorem qt7:qnP.zero=false:=rfl
theorem quN:qnP.fix=[]:=rfl
theorem qwA:qnP.keep=[true]:=rfl
def qfy:Nat→Tree:=fun i=>if i=4 then .quiet 0 (.quiet 1 (.quiet 2 (.quiet 3 (.quiet 4 (.quiet 5 .done)))))else .done
def qiP:Nat→Nm:=fun i=>if i=3 then qjs else ⟨[],[],false⟩
def qiX:Nat→Option Jn:=fun _=>none
def qi8:Nat→Option Nm:=fun i=>if i=0 then some qnP else none
def qjz:Nat→Option Nm:=fun _=>none
theorem qHt:qg qfy (Try.f106.body.getD .skip)=true:=by kernel_rfl
def qa8 (N:Nat):Tab:={tr:=qfy,lp:=qiP,ex:=qi8,rg:=qjz,jn:=qiX,fuel:=N}
theorem quI (N:Nat):(qa8 N).pins=false:=rfl
theorem qPF (N:Nat):qk Try.prog (qa8 N):=qn fun _=>rfl
theorem qpg (N:Nat) (i:Nat):(qa8 N).tr i=qfy i:=rfl
theorem qw2 (N:Nat) (i:Nat):(qa8 N).lp i=qiP i:=rfl
theorem qA9 (N:Nat) (i:Nat):(qa8 N).ex i=qi8 i:=rfl
theorem qru (N:Nat) (i:Nat):(qa8 N).rg i=qjz i:=rfl
theorem quw (N:Nat) (i:Nat):(qa8 N).jn i=qiX i:=rfl
theorem qsd (N:Nat):(qa8 N).fuel=N:=rfl
noncomputable def qDR:Code:=cut [true,true,false,true,true] (Try.f106.body.getD .skip)
theorem qN9 {N:Nat} {Q:X→St→Option (qa [i3])} {e:List LV} {h:List Blk}:qb tt qdY (qa8 N) qDR Q ⟨e,h⟩=qb tt qdY (qa8 N) (cut [true,true,false,true,true] (Try.f106.body.getD .skip)) Q ⟨e,h⟩:=rfl
theorem qHd (N:Nat) {k0:Int→Option (qa [i3])} {Q:X→St→Option (qa [i3])} {c:Code} (hc:c=qDR) (hret: ∀st,Q .ret st=qy tt true [i3] [.tmp 4] st) (h0: ∀(v4:Int),Q (.exit 0) ⟨[.one (.int .i64 v4),u,u,u,u,u,u,u,u,u,u,u,u,u,u,u,u,u,u,u,u],[]⟩=k0 v4): ∀(n:Nat) (v2:Int) (v3:Int),qx (qb tt qdY (qa8 N) c) false qjs Q n ⟨[.one (.int .i64 v2),.one (.int .i64 v3),u,u,u,u,u,u,u,u,u,u,u,u,u,u,u,u,u,u,u],[]⟩=qgn N k0 n v2 v3:=by
 subst hc;intro n;induction n with
 | zero=>intros;rfl
 | succ n ih=>
   intro v2 v3
   rw [qI,qN9,qgn];unfold Try.f106
   simp (maxSteps:=10000000) -implicitDefEqProofs [qpg,qfy,qw2,qiP,qA9,qi8,qru,qjz,quw,qiX,qsd,quI,qxR,qs2,qx9,quN,qwA,qt7,qtd,qr9,g98,qav,hret,h0,ih]
theorem qOW (N:Nat) (v0:Int) (v1:Int):qb tt qdY (qa8 N) (Try.f106.body.getD .skip) (qh tt true [i3] [.tmp 4]) (ql [i3,i3] 21 (v0,v1,()))=qnW N v0 v1:=by
 unfold Try.f106
 simp (maxSteps:=10000000) -implicitDefEqProofs [qpg,qfy,qw2,qiP,qA9,qi8,qru,qjz,quw,qiX,qsd,quI,qxR,qs2,qx9,quN,qwA,qt7,qtd,qr9,g98,qav]
 rewrite [qHd (k0:=(fun (v5:Int)=>chk (qan v5) (some (((qG v5):Int),())))) N ?_ ?_ ?_]
 ·rewrite [qnW];first | rfl | simp (maxSteps:=10000000) -implicitDefEqProofs []
 ·rfl
 ·intro;simp only [qD,qE,qF,qC]
 ·intro v5;simp (maxSteps:=10000000) -implicitDefEqProofs [qpg,qfy,qw2,qiP,qA9,qi8,qru,qjz,quw,qiX,qsd,quI,qxR,qs2,qx9,quN,qwA,qt7,qtd,qr9,g98,qav]
noncomputable def qnx (N:Nat) (v0:Int) (v1:Int):Option (qa [i3]):=bif (!((qv v0):Bool))then (some ((0:Int),()))else (bif (!((qv v1):Bool))then (some ((0:Int),()))else (chk (qaC v0 v1) (some (((qw v0 v1):Int),()))))
def qo5:Gam:=[(94,g94),(109,qaH)]
theorem qH9:Gam.get qo5 94=some g94:=rfl
theorem qMT:Gam.get qo5 109=some qaH:=rfl
def qo3:Nat→Tree:=fun _=> .done
def qAs:Nat→Nm:=fun _=>⟨[],[],false⟩
def qwP:Nat→Option Jn:=fun _=>none
def qqz:Nat→Option Nm:=fun _=>none
def qzg:Nat→Option Nm:=fun _=>none
theorem qLA:qg qo3 (Try.f110.body.getD .skip)=true:=by kernel_rfl
def qcm (N:Nat):Tab:={tr:=qo3,lp:=qAs,ex:=qqz,rg:=qzg,jn:=qwP,fuel:=N}
theorem qNn (N:Nat):(qcm N).pins=false:=rfl
theorem qRM (N:Nat):qk Try.prog (qcm N):=qn fun _=>rfl
theorem qHs (N:Nat) (i:Nat):(qcm N).tr i=qo3 i:=rfl
theorem qHZ (N:Nat) (i:Nat):(qcm N).lp i=qAs i:=rfl
theorem qLU (N:Nat) (i:Nat):(qcm N).ex i=qqz i:=rfl
theorem qRm (N:Nat) (i:Nat):(qcm N).rg i=qzg i:=rfl
theorem qHm (N:Nat) (i:Nat):(qcm N).jn i=qwP i:=rfl
theorem qLx (N:Nat):(qcm N).fuel=N:=rfl
theorem qJp (N:Nat) (v0:Int) (v1:Int):qb tt qo5 (qcm N) (Try.f110.body.getD .skip) (qh tt true [i3] [.tmp 4]) (ql [i3,i3] 16 (v0,v1,()))=qnx N v0 v1:=by
 rw [qnx];unfold Try.f110
 simp (maxSteps:=10000000) -implicitDefEqProofs [qHs,qo3,qHZ,qAs,qLU,qqz,qRm,qzg,qHm,qwP,qLx,qNn,qH9,qMT,g94,qaH]
 try rfl
theorem qNV {n:Int} (h:qv n=true): -400000000≤n∧n≤400000000:=of_decide_eq_true h
theorem qFn (N:Nat) (K:Int→Option (qa [i3])): ∀(n:Nat) (a b:Int),b.natAbs<n→ ∃c:Int,qgn N K n a b=K c∧c.natAbs=Nat.gcd a.natAbs b.natAbs
 | 0,_,_,h=>by omega
 | n+1,a,b,h=>by
   rw [qgn]
   by_cases hb:b=0
   ·subst hb;exact ⟨a,by simp,by simp⟩
   ·have hlt:a.natAbs % b.natAbs<b.natAbs:=Nat.mod_lt _ (by omega)
    have hm:(a.tmod b).natAbs=a.natAbs % b.natAbs:=Int.natAbs_tmod _ _
    obtain ⟨c,h1,h2⟩:=qFn N K n b (a.tmod b) (by omega)
    refine ⟨c,?_,?_⟩
    ·rw [decide_eq_false hb,qd hb];exact h1
    ·rw [h2,hm,Nat.gcd_comm b.natAbs,←Nat.gcd_rec,Nat.gcd_comm]
theorem qNw {a b:Int} (ha:inI a) (hb:inI b):((Nat.gcd a.natAbs b.natAbs:Nat):Int)≤9223372036854775807:=by
 unfold inI at ha hb
 by_cases h0:a.natAbs=0
 ·rw [h0,Nat.gcd_zero_left];omega
 ·have:=Nat.gcd_le_left (m:=a.natAbs) b.natAbs (by omega)
  omega
theorem quh {c:Int} {a b:Int} (ha:inI a) (hb:inI b) (h:c.natAbs=Nat.gcd a.natAbs b.natAbs):qan c∧qG c=qw a b:=by
 have:=qNw ha hb
 rw [←h]at this
 exact ⟨by show inI c;unfold inI;omega,by unfold qG qw;rw [h]⟩
theorem qOR (a b:Int): ∃N,qnW N a b=some (qcB a b,()):=⟨b.natAbs+1,by
 rw [qnW]
 unfold qcB
 cases ha:qv a with
 | false=>rfl
 | true=>
   cases hb:qv b with
   | false=>rfl
   | true=>
     obtain ⟨c,h1,h2⟩:=qFn (b.natAbs+1) (fun (v5:Int)=>chk (qan v5) (some (((qG v5):Int),()))) (b.natAbs+1) a b (Nat.lt_succ_self _)
     obtain ⟨h3,h4⟩:=quh (qct ha) (qct hb) h2
     simp only [Bool.not_true,cond_false,Bool.and_self,cond_true]
     rw [h1,qd h3,h4]⟩
theorem qRb:Sound Try.prog 106 qoZ:=qq (tt:=tt) (Γ:=qdY) hT (qe s98 (qe qyJ qp)) hm (fn:=Try.f106) Try.func106 (c:=Try.f106.body.getD .skip) (by kernel_rfl) (by kernel_rfl) fun x hx=>by
 obtain ⟨N,h⟩:=qOR x.1 x.2.1
 exact ⟨qa8 N,qHt,qm _,qPF N,(qOW N x.1 x.2.1).trans h⟩
theorem qJ8 (a b:Int): ∃N,qnx N a b=some (qcB a b,()):=⟨0,by
 rw [qnx]
 unfold qcB
 cases ha:qv a with
 | false=>rfl
 | true=>
   cases hb:qv b with
   | false=>rfl
   | true=>
     simp only [Bool.not_true,cond_false,Bool.and_self,cond_true]
     rw [qd (show qaC a b from ⟨qct ha,qct hb⟩)]⟩
theorem qPG:Sound Try.prog 110 qow:=qq (tt:=tt) (Γ:=qo5) hT (qe s94 (qe qmv qp)) hm (fn:=Try.f110) Try.func110 (c:=Try.f110.body.getD .skip) (by kernel_rfl) (by kernel_rfl) fun x hx=>by
 obtain ⟨N,h⟩:=qJ8 x.1 x.2.1
 exact ⟨qcm N,qLA,qm _,qRM N,(qJp N x.1 x.2.1).trans h⟩
def qNj (a:Val Y35):Prop:=(-400000000≤(a.1:Int)∧ @LE.le Int _ a.1 400000000)∧(0≤(a.2:Int)∧ @LE.le Int _ a.2 400000000)
def qo (r:Val Y35):Bool:=inR r.2 1 400000000&&qv r.1&&decide (qcB r.1 r.2=1)
def g60:G:={ps:=[i35],rs:=[i4],dp:=true,pre:=fun _=>True,fn:=fun x=>(qo x.1,())}
def g70:G:={ps:=[i35],rs:=[i4],dp:=true,pre:=fun _=>True,fn:=fun x=>(qo x.1,())}
noncomputable def m60 (N:Nat) (v0:Val Y35):Option (qa [i4]):=bif ((inR (v0.2:Int) (1:Int) (400000000:Int)):Bool)then (bif ((qv (v0.1:Int)):Bool)then (some ((decide (((qcB (v0.1:Int) (v0.2:Int)):Int)=(1:Int))),()))else (some (false,())))else (some (false,()))
def Γ60:Gam:=[(47,g47),(98,g98),(106,qoZ)]
theorem qLH:Gam.get Γ60 47=some g47:=rfl
theorem qPk:Gam.get Γ60 98=some g98:=rfl
theorem qOX:Gam.get Γ60 106=some qoZ:=rfl
def qlS:Nat→Tree:=fun _=> .done
def qzE:Nat→Nm:=fun _=>⟨[],[],false⟩
def qxD:Nat→Option Jn:=fun _=>none
def qsX:Nat→Option Nm:=fun _=>none
def qph:Nat→Option Nm:=fun _=>none
theorem p60:qg qlS (Try.f60.body.getD .skip)=true:=by kernel_rfl
def T60 (N:Nat):Tab:={tr:=qlS,lp:=qzE,ex:=qsX,rg:=qph,jn:=qxD,fuel:=N}
theorem qJA (N:Nat):(T60 N).pins=false:=rfl
theorem qQR (N:Nat):qk Try.prog (T60 N):=qn fun _=>rfl
theorem qM5 (N:Nat) (i:Nat):(T60 N).tr i=qlS i:=rfl
theorem qK5 (N:Nat) (i:Nat):(T60 N).lp i=qzE i:=rfl
theorem qNS (N:Nat) (i:Nat):(T60 N).ex i=qsX i:=rfl
theorem qRW (N:Nat) (i:Nat):(T60 N).rg i=qph i:=rfl
theorem qO2 (N:Nat) (i:Nat):(T60 N).jn i=qxD i:=rfl
theorem qJv (N:Nat):(T60 N).fuel=N:=rfl
theorem qKT (N:Nat) (v0:Val Y35):qb tt Γ60 (T60 N) (Try.f60.body.getD .skip) (qh tt true [i4] [.tmp 2]) (ql [i35] 19 (v0,()))=m60 N v0:=by
 rw [m60];unfold Try.f60
 simp (maxSteps:=10000000) -implicitDefEqProofs [qM5,qlS,qK5,qzE,qNS,qsX,qRW,qph,qO2,qxD,qJv,qJA,qLH,qPk,qOX,g47,g98,qoZ]
 try rfl
noncomputable def m70 (N:Nat) (v0:Val Y35):Option (qa [i4]):=bif (decide ((1:Int)≤(v0.2:Int)))then (bif (decide ((v0.2:Int)≤(400000000:Int)))then (bif ((qv (v0.1:Int)):Bool)then (some ((decide (((qcB (v0.1:Int) (v0.2:Int)):Int)=(1:Int))),()))else (some (false,())))else (some (false,())))else (some (false,()))
def Γ70:Gam:=[(109,qaH),(110,qow)]
theorem qL3:Gam.get Γ70 109=some qaH:=rfl
theorem qMs:Gam.get Γ70 110=some qow:=rfl
def qmC:Nat→Tree:=fun _=> .done
def qzv:Nat→Nm:=fun _=>⟨[],[],false⟩
def quQ:Nat→Option Jn:=fun _=>none
def qxv:Nat→Option Nm:=fun _=>none
def qzC:Nat→Option Nm:=fun _=>none
theorem p70:qg qmC (Try.f70.body.getD .skip)=true:=by kernel_rfl
def T70 (N:Nat):Tab:={tr:=qmC,lp:=qzv,ex:=qxv,rg:=qzC,jn:=quQ,fuel:=N}
theorem qJj (N:Nat):(T70 N).pins=false:=rfl
theorem qMF (N:Nat):qk Try.prog (T70 N):=qn fun _=>rfl
theorem qMQ (N:Nat) (i:Nat):(T70 N).tr i=qmC i:=rfl
theorem qMN (N:Nat) (i:Nat):(T70 N).lp i=qzv i:=rfl
theorem qLs (N:Nat) (i:Nat):(T70 N).ex i=qxv i:=rfl
theorem qO6 (N:Nat) (i:Nat):(T70 N).rg i=qzC i:=rfl
theorem qKf (N:Nat) (i:Nat):(T70 N).jn i=quQ i:=rfl
theorem qMa (N:Nat):(T70 N).fuel=N:=rfl
theorem qMp (N:Nat) (v0:Val Y35):qb tt Γ70 (T70 N) (Try.f70.body.getD .skip) (qh tt true [i4] [.tmp 2]) (ql [i35] 24 (v0,()))=m70 N v0:=by
 rw [m70];unfold Try.f70
 simp (maxSteps:=10000000) -implicitDefEqProofs [qMQ,qmC,qMN,qzv,qLs,qxv,qO6,qzC,qKf,quQ,qMa,qJj,qL3,qMs,qaH,qow]
 try rfl
theorem e60 (r:Val Y35): ∃N,m60 N r=some (qo r,()):=⟨0,by
 rw [m60]
 unfold qo
 cases inR r.2 1 400000000 with
 | false=>rfl
 | true=>cases qv r.1<;>rfl⟩
theorem s60:Sound Try.prog 60 g60:=qq (tt:=tt) (Γ:=Γ60) hT (qe s47 (qe s98 (qe qRb qp))) hm (fn:=Try.f60) Try.func60 (c:=Try.f60.body.getD .skip) (by kernel_rfl) (by kernel_rfl) fun x hx=>by
 obtain ⟨N,h⟩:=e60 x.1
 exact ⟨T60 N,p60,qm _,qQR N,(qKT N x.1).trans h⟩
theorem e70 (r:Val Y35): ∃N,m70 N r=some (qo r,()):=⟨0,by
 rw [m70]
 unfold qo
 by_cases h1:(1:Int)≤(r.2:Int)
 ·by_cases h2:(r.2:Int)≤(400000000:Int)
  ·rw [qi h1,qi h2,qCk ⟨h1,h2⟩]
   cases qv r.1<;>rfl
  ·rw [qi h1,qj h2,qmQ fun h=>h2 h.2];rfl
 ·rw [qj h1,qmQ fun h=>h1 h.1];rfl⟩
theorem s70:Sound Try.prog 70 g70:=qq (tt:=tt) (Γ:=Γ70) hT (qe qmv (qe qPG qp)) hm (fn:=Try.f70) Try.func70 (c:=Try.f70.body.getD .skip) (by kernel_rfl) (by kernel_rfl) fun x hx=>by
 obtain ⟨N,h⟩:=e70 x.1
 exact ⟨T70 N,p70,qm _,qMF N,(qMp N x.1).trans h⟩
theorem qbQ {r:Val Y35} (h:qo r=true):qNj r:=by
 unfold qo at h
 simp only [Bool.and_eq_true]at h
 have h1:=qNV h.1.2
 have h2:(1:Int)≤r.2∧ @LE.le Int _ r.2 400000000:=of_decide_eq_true h.1.1
 exact ⟨h1,Int.le_trans (by decide) h2.1,h2.2⟩
theorem qf8 {x y:Int} (hx: -400000000≤x∧x≤400000000) (hy: -400000000≤y∧y≤400000000): -160000000000000000≤x*y∧x*y≤160000000000000000:=by
 have h1:=Int.natAbs_mul x y
 have h2:x.natAbs*y.natAbs≤400000000*400000000:=Nat.mul_le_mul (by omega) (by omega)
 generalize x*y=z at*
 rw [←h1]at h2
 omega
theorem qi9 {x y:Int} (hx: -400000000≤x∧x≤400000000) (hy: -400000000≤y∧y≤400000000):IntKind.i64.wrap (x*y)=x*y:=by
 have:=qf8 hx hy
 generalize x*y=z at*
 exact qbp (by omega) (by omega)
end Go.T
