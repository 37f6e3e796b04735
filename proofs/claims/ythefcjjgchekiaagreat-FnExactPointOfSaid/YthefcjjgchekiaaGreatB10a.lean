/- Ratios: whether they are valid. -/
import Derived.Test.YthefcjjgchekiaaGreatB10n
set_option linter.unusedSimpArgs false
set_option linter.unusedVariables false
namespace Go.T
open Go Go.Proofs
set_option maxHeartbeats 4000000
set_option maxRecDepth 100000
def qdx (a b:Int):Int:=bif qR a&&qR b then qS a b else 0
def qBb:G:={ps:=[i3,i3],rs:=[i3],dp:=true,pre:=fun _=>True,fn:=fun x=>(qdx x.1 x.2.1,())}
def qCl:G:={ps:=[i3,i3],rs:=[i3],dp:=true,pre:=fun _=>True,fn:=fun x=>(qdx x.1 x.2.1,())}
noncomputable def qnK (N:Nat) (k0:Int→Option (qc [i3])):Nat→Int→Int→Option (qc [i3])
 | 0,_,_=>none
 | n+1,v2,v3=>bif (!(decide (v3=(0:Int))))then (chk (v3≠0) (qnK N k0 n v3 (v2.tmod v3)))else (k0 v2)
noncomputable def qBI (N:Nat) (v0:Int) (v1:Int):Option (qc [i3]):=bif (!((qR v0):Bool))then (some ((0:Int),()))else (bif (!((qR v1):Bool))then (some ((0:Int),()))else (qnK N (fun (v5:Int)=>chk (qbE v5) (some (((qag v5):Int),()))) N v0 v1))
def qle:Gam:=[(194,qbl),(278,qbP)]
theorem qGm:Gam.get qle 194=some qbl:=rfl
theorem qMo:Gam.get qle 278=some qbP:=rfl
def qqL:Nm:=⟨[true,true],[],false⟩
theorem qPM:qqL.zero=false:=rfl
theorem qSG:qqL.fix=[]:=rfl
theorem qU8:qqL.keep=[true,true]:=rfl
def qyt:Nm:=⟨[true],[],false⟩
theorem qTz:qyt.zero=false:=rfl
theorem qIM:qyt.fix=[]:=rfl
theorem qLh:qyt.keep=[true]:=rfl
def qot:Nat→Tree:=fun i=>if i=4 then .quiet 0 (.quiet 1 (.quiet 2 (.quiet 3 (.quiet 4 (.quiet 5 .done)))))else .done
def qvd:Nat→Nm:=fun i=>if i=3 then qqL else ⟨[],[],false⟩
def qt6:Nat→Option Jn:=fun _=>none
def quz:Nat→Option Nm:=fun i=>if i=0 then some qyt else none
def qsi:Nat→Option Nm:=fun _=>none
theorem zis:qn qot (Tryz.f198.body.getD .skip)=true:=by kernel_rfl
def qdq (N:Nat):Tab:={tr:=qot,lp:=qvd,ex:=quz,rg:=qsi,jn:=qt6,fuel:=N}
theorem qSz (N:Nat):(qdq N).pins=false:=rfl
theorem zm6 (N:Nat):qp Tryz.prog (qdq N):=qv fun _=>rfl
theorem qQV (N:Nat) (i:Nat):(qdq N).tr i=qot i:=rfl
theorem qUN (N:Nat) (i:Nat):(qdq N).lp i=qvd i:=rfl
theorem qTV (N:Nat) (i:Nat):(qdq N).ex i=quz i:=rfl
theorem qUa (N:Nat) (i:Nat):(qdq N).rg i=qsi i:=rfl
theorem qOx (N:Nat) (i:Nat):(qdq N).jn i=qt6 i:=rfl
theorem qWg (N:Nat):(qdq N).fuel=N:=rfl
noncomputable def qZ1:Code:=cut [true,true,false,true,true] (Tryz.f198.body.getD .skip)
theorem zjG {N:Nat} {Q:X→St→Option (qc [i3])} {e:List LV} {h:List Blk}:qe tt qle (qdq N) qZ1 Q ⟨e,h⟩=qe tt qle (qdq N) (cut [true,true,false,true,true] (Tryz.f198.body.getD .skip)) Q ⟨e,h⟩:=rfl
theorem q4t (N:Nat) {k0:Int→Option (qc [i3])} {Q:X→St→Option (qc [i3])} {c:Code} (hc:c=qZ1) (hret: ∀st,Q .ret st=qI tt true [i3] [.tmp 4] st) (h0: ∀(v4:Int),Q (.exit 0) ⟨[.one (.int .i64 v4),u,u,u,u,u,u,u,u,u,u,u,u,u,u,u,u,u,u,u,u],[]⟩=k0 v4): ∀(n:Nat) (v2:Int) (v3:Int),qE (qe tt qle (qdq N) c) false qqL Q n ⟨[.one (.int .i64 v2),.one (.int .i64 v3),u,u,u,u,u,u,u,u,u,u,u,u,u,u,u,u,u,u,u],[]⟩=qnK N k0 n v2 v3:=by
 subst hc;intro n;induction n with
 | zero=>intros;rfl
 | succ n ih=>
   intro v2 v3
   rw [qN,zjG,qnK];unfold Tryz.f198
   simp (maxSteps:=10000000) -implicitDefEqProofs [qQV,qot,qUN,qvd,qTV,quz,qUa,qsi,qOx,qt6,qWg,qSz,qSG,qU8,qPM,qIM,qLh,qTz,qGm,qMo,qbl,qbP,hret,h0,ih]
theorem q9D (N:Nat) (v0:Int) (v1:Int):qe tt qle (qdq N) (Tryz.f198.body.getD .skip) (qt tt true [i3] [.tmp 4]) (qw [i3,i3] 21 (v0,v1,()))=qBI N v0 v1:=by
 unfold Tryz.f198
 simp (maxSteps:=10000000) -implicitDefEqProofs [qQV,qot,qUN,qvd,qTV,quz,qUa,qsi,qOx,qt6,qWg,qSz,qSG,qU8,qPM,qIM,qLh,qTz,qGm,qMo,qbl,qbP]
 rewrite [q4t (k0:=(fun (v5:Int)=>chk (qbE v5) (some (((qag v5):Int),())))) N ?_ ?_ ?_]
 ·rewrite [qBI];first | rfl | simp (maxSteps:=10000000) -implicitDefEqProofs []
 ·rfl
 ·intro;simp only [qJ,qL,qK,qB]
 ·intro v5;simp (maxSteps:=10000000) -implicitDefEqProofs [qQV,qot,qUN,qvd,qTV,quz,qUa,qsi,qOx,qt6,qWg,qSz,qSG,qU8,qPM,qIM,qLh,qTz,qGm,qMo,qbl,qbP]
noncomputable def qBY (N:Nat) (v0:Int) (v1:Int):Option (qc [i3]):=bif (!((qR v0):Bool))then (some ((0:Int),()))else (bif (!((qR v1):Bool))then (some ((0:Int),()))else (chk (qb5 v0 v1) (some (((qS v0 v1):Int),()))))
def qA5:Gam:=[(204,qb9),(280,qbg)]
theorem zhg:Gam.get qA5 204=some qb9:=rfl
theorem zil:Gam.get qA5 280=some qbg:=rfl
def qAD:Nat→Tree:=fun _=> .done
def qHA:Nat→Nm:=fun _=>⟨[],[],false⟩
def qSj:Nat→Option Jn:=fun _=>none
def qHw:Nat→Option Nm:=fun _=>none
def qHj:Nat→Option Nm:=fun _=>none
theorem zgB:qn qAD (Tryz.f205.body.getD .skip)=true:=by kernel_rfl
def qfH (N:Nat):Tab:={tr:=qAD,lp:=qHA,ex:=qHw,rg:=qHj,jn:=qSj,fuel:=N}
theorem ziF (N:Nat):(qfH N).pins=false:=rfl
theorem zfv (N:Nat):qp Tryz.prog (qfH N):=qv fun _=>rfl
theorem zmr (N:Nat) (i:Nat):(qfH N).tr i=qAD i:=rfl
theorem ze5 (N:Nat) (i:Nat):(qfH N).lp i=qHA i:=rfl
theorem zfP (N:Nat) (i:Nat):(qfH N).ex i=qHw i:=rfl
theorem zeJ (N:Nat) (i:Nat):(qfH N).rg i=qHj i:=rfl
theorem zov (N:Nat) (i:Nat):(qfH N).jn i=qSj i:=rfl
theorem zp4 (N:Nat):(qfH N).fuel=N:=rfl
theorem q9r (N:Nat) (v0:Int) (v1:Int):qe tt qA5 (qfH N) (Tryz.f205.body.getD .skip) (qt tt true [i3] [.tmp 4]) (qw [i3,i3] 16 (v0,v1,()))=qBY N v0 v1:=by
 rw [qBY];unfold Tryz.f205
 simp (maxSteps:=10000000) -implicitDefEqProofs [zmr,qAD,ze5,qHA,zfP,qHw,zeJ,qHj,zov,qSj,zp4,ziF,zhg,zil,qb9,qbg]
 try rfl
theorem zcw {n:Int} (h:qR n=true): -400000000≤n∧n≤400000000:=of_decide_eq_true h
theorem qYP (N:Nat) (K:Int→Option (qc [i3])): ∀(n:Nat) (a b:Int),b.natAbs<n→ ∃c:Int,qnK N K n a b=K c∧c.natAbs=Nat.gcd a.natAbs b.natAbs
 | 0,_,_,h=>by omega
 | n+1,a,b,h=>by
   rw [qnK]
   by_cases hb:b=0
   ·subst hb;exact ⟨a,by simp,by simp⟩
   ·have hlt:a.natAbs % b.natAbs<b.natAbs:=Nat.mod_lt _ (by omega)
    have hm:(a.tmod b).natAbs=a.natAbs % b.natAbs:=Int.natAbs_tmod _ _
    obtain ⟨c,h1,h2⟩:=qYP N K n b (a.tmod b) (by omega)
    refine ⟨c,?_,?_⟩
    ·rw [decide_eq_false hb,qd hb];exact h1
    ·rw [h2,hm,Nat.gcd_comm b.natAbs,←Nat.gcd_rec,Nat.gcd_comm]
theorem zny {a b:Int} (ha:inI a) (hb:inI b):((Nat.gcd a.natAbs b.natAbs:Nat):Int)≤9223372036854775807:=by
 unfold inI at ha hb
 by_cases h0:a.natAbs=0
 ·rw [h0,Nat.gcd_zero_left];omega
 ·have:=Nat.gcd_le_left (m:=a.natAbs) b.natAbs (by omega)
  omega
theorem qIX {c:Int} {a b:Int} (ha:inI a) (hb:inI b) (h:c.natAbs=Nat.gcd a.natAbs b.natAbs):qbE c∧qag c=qS a b:=by
 have:=zny ha hb
 rw [←h]at this
 exact ⟨by show inI c;unfold inI;omega,by unfold qag qS;rw [h]⟩
theorem zcf (a b:Int): ∃N,qBI N a b=some (qdx a b,()):=⟨b.natAbs+1,by
 rw [qBI]
 unfold qdx
 cases ha:qR a with
 | false=>rfl
 | true=>
   cases hb:qR b with
   | false=>rfl
   | true=>
     obtain ⟨c,h1,h2⟩:=qYP (b.natAbs+1) (fun (v5:Int)=>chk (qbE v5) (some (((qag v5):Int),()))) (b.natAbs+1) a b (Nat.lt_succ_self _)
     obtain ⟨h3,h4⟩:=qIX (qeo ha) (qeo hb) h2
     simp only [Bool.not_true,cond_false,Bool.and_self,cond_true]
     rw [h1,qd h3,h4]⟩
theorem q8J:Sound Tryz.prog 198 qBb:=qx (tt:=tt) (Γ:=qle) hT (qg qqQ (qg qHT qu)) hm (fn:=Tryz.f198) Tryz.func198 (c:=Tryz.f198.body.getD .skip) (by kernel_rfl) (by kernel_rfl) fun x hx=>by
 obtain ⟨N,h⟩:=zcf x.1 x.2.1
 exact ⟨qdq N,zis,qy _,zm6 N,(q9D N x.1 x.2.1).trans h⟩
theorem zpZ (a b:Int): ∃N,qBY N a b=some (qdx a b,()):=⟨0,by
 rw [qBY]
 unfold qdx
 cases ha:qR a with
 | false=>rfl
 | true=>
   cases hb:qR b with
   | false=>rfl
   | true=>
     simp only [Bool.not_true,cond_false,Bool.and_self,cond_true]
     rw [qd (show qb5 a b from ⟨qeo ha,qeo hb⟩)]⟩
theorem q8X:Sound Tryz.prog 205 qCl:=qx (tt:=tt) (Γ:=qA5) hT (qg qD3 (qg qxg qu)) hm (fn:=Tryz.f205) Tryz.func205 (c:=Tryz.f205.body.getD .skip) (by kernel_rfl) (by kernel_rfl) fun x hx=>by
 obtain ⟨N,h⟩:=zpZ x.1 x.2.1
 exact ⟨qfH N,zgB,qy _,zfv N,(q9r N x.1 x.2.1).trans h⟩
def qgc (a:Val Y28):Prop:=(-400000000≤(a.1:Int)∧ @LE.le Int _ a.1 400000000)∧(0≤(a.2:Int)∧ @LE.le Int _ a.2 400000000)
def qi (r:Val Y28):Bool:=inR r.2 1 400000000&&qR r.1&&decide (qdx r.1 r.2=1)
def qar:G:={ps:=[i28],rs:=[i4],dp:=true,pre:=fun _=>True,fn:=fun x=>(qi x.1,())}
def qau:G:={ps:=[i28],rs:=[i4],dp:=true,pre:=fun _=>True,fn:=fun x=>(qi x.1,())}
noncomputable def qx3 (N:Nat) (v0:Val Y28):Option (qc [i4]):=bif ((inR (v0.2:Int) (1:Int) (400000000:Int)):Bool)then (bif ((qR (v0.1:Int)):Bool)then (some ((decide (((qdx (v0.1:Int) (v0.2:Int)):Int)=(1:Int))),()))else (some (false,())))else (some (false,()))
def qwV:Gam:=[(118,qam),(194,qbl),(198,qBb)]
theorem q7g:Gam.get qwV 118=some qam:=rfl
theorem zfi:Gam.get qwV 194=some qbl:=rfl
theorem zaY:Gam.get qwV 198=some qBb:=rfl
def qB9:Nat→Tree:=fun _=> .done
def qVM:Nat→Nm:=fun _=>⟨[],[],false⟩
def qGI:Nat→Option Jn:=fun _=>none
def qVg:Nat→Option Nm:=fun _=>none
def qGg:Nat→Option Nm:=fun _=>none
theorem zba:qn qB9 (Tryz.f109.body.getD .skip)=true:=by kernel_rfl
def qfd (N:Nat):Tab:={tr:=qB9,lp:=qVM,ex:=qVg,rg:=qGg,jn:=qGI,fuel:=N}
theorem zq1 (N:Nat):(qfd N).pins=false:=rfl
theorem zgI (N:Nat):qp Tryz.prog (qfd N):=qv fun _=>rfl
theorem za4 (N:Nat) (i:Nat):(qfd N).tr i=qB9 i:=rfl
theorem zmv (N:Nat) (i:Nat):(qfd N).lp i=qVM i:=rfl
theorem za5 (N:Nat) (i:Nat):(qfd N).ex i=qVg i:=rfl
theorem zk6 (N:Nat) (i:Nat):(qfd N).rg i=qGg i:=rfl
theorem zmf (N:Nat) (i:Nat):(qfd N).jn i=qGI i:=rfl
theorem q46 (N:Nat):(qfd N).fuel=N:=rfl
theorem zn8 (N:Nat) (v0:Val Y28):qe tt qwV (qfd N) (Tryz.f109.body.getD .skip) (qt tt true [i4] [.tmp 2]) (qw [i28] 19 (v0,()))=qx3 N v0:=by
 rw [qx3];unfold Tryz.f109
 simp (maxSteps:=10000000) -implicitDefEqProofs [za4,qB9,zmv,qVM,za5,qVg,zk6,qGg,zmf,qGI,q46,zq1,q7g,zfi,zaY,qam,qbl,qBb]
 try rfl
noncomputable def qBQ (N:Nat) (v0:Val Y28):Option (qc [i4]):=bif (decide ((1:Int)≤(v0.2:Int)))then (bif (decide ((v0.2:Int)≤(400000000:Int)))then (bif ((qR (v0.1:Int)):Bool)then (some ((decide (((qdx (v0.1:Int) (v0.2:Int)):Int)=(1:Int))),()))else (some (false,())))else (some (false,())))else (some (false,()))
def qyB:Gam:=[(204,qb9),(205,qCl)]
theorem zjY:Gam.get qyB 204=some qb9:=rfl
theorem zfx:Gam.get qyB 205=some qCl:=rfl
def qzC:Nat→Tree:=fun _=> .done
def qHJ:Nat→Nm:=fun _=>⟨[],[],false⟩
def qFs:Nat→Option Jn:=fun _=>none
def qJJ:Nat→Option Nm:=fun _=>none
def qRK:Nat→Option Nm:=fun _=>none
theorem zeg:qn qzC (Tryz.f114.body.getD .skip)=true:=by kernel_rfl
def qfN (N:Nat):Tab:={tr:=qzC,lp:=qHJ,ex:=qJJ,rg:=qRK,jn:=qFs,fuel:=N}
theorem zqZ (N:Nat):(qfN N).pins=false:=rfl
theorem znr (N:Nat):qp Tryz.prog (qfN N):=qv fun _=>rfl
theorem zn6 (N:Nat) (i:Nat):(qfN N).tr i=qzC i:=rfl
theorem zcK (N:Nat) (i:Nat):(qfN N).lp i=qHJ i:=rfl
theorem zgp (N:Nat) (i:Nat):(qfN N).ex i=qJJ i:=rfl
theorem ziw (N:Nat) (i:Nat):(qfN N).rg i=qRK i:=rfl
theorem zk7 (N:Nat) (i:Nat):(qfN N).jn i=qFs i:=rfl
theorem znS (N:Nat):(qfN N).fuel=N:=rfl
theorem zel (N:Nat) (v0:Val Y28):qe tt qyB (qfN N) (Tryz.f114.body.getD .skip) (qt tt true [i4] [.tmp 2]) (qw [i28] 24 (v0,()))=qBQ N v0:=by
 rw [qBQ];unfold Tryz.f114
 simp (maxSteps:=10000000) -implicitDefEqProofs [zn6,qzC,zcK,qHJ,zgp,qJJ,ziw,qRK,zk7,qFs,znS,zqZ,zjY,zfx,qb9,qCl]
 try rfl
theorem q9M (r:Val Y28): ∃N,qx3 N r=some (qi r,()):=⟨0,by
 rw [qx3]
 unfold qi
 cases inR r.2 1 400000000 with
 | false=>rfl
 | true=>cases qR r.1<;>rfl⟩
theorem qiS:Sound Tryz.prog 109 qar:=qx (tt:=tt) (Γ:=qwV) hT (qg qh1 (qg qqQ (qg q8J qu))) hm (fn:=Tryz.f109) Tryz.func109 (c:=Tryz.f109.body.getD .skip) (by kernel_rfl) (by kernel_rfl) fun x hx=>by
 obtain ⟨N,h⟩:=q9M x.1
 exact ⟨qfd N,zba,qy _,zgI N,(zn8 N x.1).trans h⟩
theorem q5c (r:Val Y28): ∃N,qBQ N r=some (qi r,()):=⟨0,by
 rw [qBQ]
 unfold qi
 by_cases h1:(1:Int)≤(r.2:Int)
 ·by_cases h2:(r.2:Int)≤(400000000:Int)
  ·rw [qk h1,qk h2,qhq ⟨h1,h2⟩]
   cases qR r.1<;>rfl
  ·rw [qk h1,qj h2,qiU fun h=>h2 h.2];rfl
 ·rw [qj h1,qiU fun h=>h1 h.1];rfl⟩
theorem qhY:Sound Tryz.prog 114 qau:=qx (tt:=tt) (Γ:=qyB) hT (qg qD3 (qg q8X qu)) hm (fn:=Tryz.f114) Tryz.func114 (c:=Tryz.f114.body.getD .skip) (by kernel_rfl) (by kernel_rfl) fun x hx=>by
 obtain ⟨N,h⟩:=q5c x.1
 exact ⟨qfN N,zeg,qy _,znr N,(zel N x.1).trans h⟩
theorem qbe {r:Val Y28} (h:qi r=true):qgc r:=by
 unfold qi at h
 simp only [Bool.and_eq_true]at h
 have h1:=zcw h.1.2
 have h2:(1:Int)≤r.2∧ @LE.le Int _ r.2 400000000:=of_decide_eq_true h.1.1
 exact ⟨h1,Int.le_trans (by decide) h2.1,h2.2⟩
theorem qhL {x y:Int} (hx: -400000000≤x∧x≤400000000) (hy: -400000000≤y∧y≤400000000): -160000000000000000≤x*y∧x*y≤160000000000000000:=by
 have h1:=Int.natAbs_mul x y
 have h2:x.natAbs*y.natAbs≤400000000*400000000:=Nat.mul_le_mul (by omega) (by omega)
 generalize x*y=z at*
 rw [←h1]at h2
 omega
theorem qgS {x y:Int} (hx: -400000000≤x∧x≤400000000) (hy: -400000000≤y∧y≤400000000):IntKind.i64.wrap (x*y)=x*y:=by
 have:=qhL hx hy
 generalize x*y=z at*
 exact qaq (by omega) (by omega)
end Go.T
