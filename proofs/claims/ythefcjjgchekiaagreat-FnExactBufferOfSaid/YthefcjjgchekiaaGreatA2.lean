/- Whole numbers; atoms; cells; relations: what the functions compute. -/
import Derived.Test.YthefcjjgchekiaaGreatA1
set_option linter.unusedSimpArgs false
set_option linter.unusedVariables false
namespace Go.T
open Go Go.Proofs
set_option maxHeartbeats 1000000
set_option maxRecDepth 100000
def inI (n:Int):Prop:= -9223372036854775807≤n∧n≤9223372036854775807
def qa9 (n:Int):Int:=(n.natAbs:Int)
def qbH (n:Int):Prop:=inI n
def qaS (a b:Int):Int:=(Nat.gcd a.natAbs b.natAbs:Nat)
def qdb (a b:Int):Prop:=inI a∧inI b
def qb4 (xs:List (Val (.int .i64))) (k:Int):Int:=(gL k.natAbs xs:Nat)
def qgw (xs:List (Val (.int .i64))) (k:Int):Prop:=xs.length≤1048576∧inI k∧ ∀x∈xs,inI x
def qaF (xs:List (Val (.int .i64))):Int:=(gL 0 xs:Nat)
def qfF (xs:List (Val (.int .i64))):Prop:=xs.length≤1048576∧ ∀x∈xs,inI x
def qX (n:Int):Bool:=decide (-400000000≤n∧n≤400000000)
def inR (x a b:Int):Bool:=decide (a≤x∧x≤b)
def ql5:G:={ps:=[i3],rs:=[i3],dp:=true,pre:=fun x=>qbH x.1,fn:=fun x=>(qa9 x.1,())}
noncomputable def qxY (N:Nat) (v0:Int):Option (qb [i3]):=bif (decide (v0<(0:Int)))then (some ((IntKind.i64.wrap (0 - v0)),()))else (some (v0,()))
def qRd:Gam:=[]
def qvX:Nat→Tree:=fun _=> .done
def qIs:Nat→Nm:=fun _=>⟨[],[],false⟩
def qEG:Nat→Option Jn:=fun _=>none
def qJR:Nat→Option Nm:=fun _=>none
def qLY:Nat→Option Nm:=fun _=>none
theorem q3C:qj qvX (Tryz.f313.body.getD .skip)=true:=by kernel_rfl
def qgo (N:Nat):Tab:={tr:=qvX,lp:=qIs,ex:=qJR,rg:=qLY,jn:=qEG,fuel:=N}
theorem q1S (N:Nat):(qgo N).pins=false:=rfl
theorem q4N (N:Nat):qn Tryz.prog (qgo N):=qr fun _=>rfl
theorem qY7 (N:Nat) (i:Nat):(qgo N).tr i=qvX i:=rfl
theorem q6n (N:Nat) (i:Nat):(qgo N).lp i=qIs i:=rfl
theorem q0N (N:Nat) (i:Nat):(qgo N).ex i=qJR i:=rfl
theorem qXQ (N:Nat) (i:Nat):(qgo N).rg i=qLY i:=rfl
theorem q8l (N:Nat) (i:Nat):(qgo N).jn i=qEG i:=rfl
theorem q1f (N:Nat):(qgo N).fuel=N:=rfl
theorem zbC (N:Nat) (v0:Int):qd tt qRd (qgo N) (Tryz.f313.body.getD .skip) (qo tt true [i3] [.tmp 2]) (qt [i3] 8 (v0,()))=qxY N v0:=by
 rw [qxY];unfold Tryz.f313
 simp (maxSteps:=10000000) -implicitDefEqProofs [qY7,qvX,q6n,qIs,q0N,qJR,qXQ,qLY,q8l,qEG,q1f,q1S]
 try rfl
theorem q4A (n:Int) (h:inI n): ∃N,qxY N n=some (qa9 n,()):=⟨0,by
 unfold inI at h
 simp only [qxY,qa9]
 by_cases h0:n<0
 ·have e:IntKind.i64.wrap (0 - n)=(n.natAbs:Int):=by rw [qaf (by omega) (by omega)];omega
  simp only [h0,decide_true,cond_true,e]
 ·have e:(n.natAbs:Int)=n:=by omega
  simp [h0,e]⟩
theorem qXu:Sound Tryz.prog 313 ql5:=qu (tt:=tt) (Γ:=qRd) hT qq hm (fn:=Tryz.f313) Tryz.func313 (c:=Tryz.f313.body.getD .skip) (by kernel_rfl) (by kernel_rfl) fun x hx=>by
 obtain ⟨N,h⟩:=q4A x.1 hx
 exact ⟨qgo N,q3C,qv _,q4N N,(zbC N x.1).trans h⟩
noncomputable def qmI (N:Nat) (k0:Int→Option (qb [i3])):Nat→Int→Int→Option (qb [i3])
 | 0,_,_=>none
 | n+1,v2,v3=>bif (!(decide (v3=(0:Int))))then (chk (v3≠0) (qmI N k0 n v3 (v2.tmod v3)))else (k0 v2)
noncomputable def qA8 (N:Nat) (v0:Int) (v1:Int):Option (qb [i3]):=chk (qbH v0) (chk (qbH v1) (qmI N (fun (v5:Int)=>some (v5,())) N ((qa9 v0):Int) ((qa9 v1):Int)))
def qno:Gam:=[(313,ql5)]
theorem qMI:Gam.get qno 313=some ql5:=rfl
def qsN:Nm:=⟨[true,true],[],false⟩
theorem qCq:qsN.zero=false:=rfl
theorem qHj:qsN.fix=[]:=rfl
theorem qHB:qsN.keep=[true,true]:=rfl
def qwN:Nm:=⟨[true],[],false⟩
theorem qEt:qwN.zero=false:=rfl
theorem qMd:qwN.fix=[]:=rfl
theorem qM9:qwN.keep=[true]:=rfl
def qm6:Nat→Tree:=fun i=>if i=3 then .quiet 0 (.quiet 1 (.quiet 2 (.quiet 3 (.quiet 4 (.quiet 5 .done)))))else .done
def qqn:Nat→Nm:=fun i=>if i=2 then qsN else ⟨[],[],false⟩
def qrx:Nat→Option Jn:=fun _=>none
def qoK:Nat→Option Nm:=fun i=>if i=0 then some qwN else none
def qqp:Nat→Option Nm:=fun _=>none
theorem zdM:qj qm6 (Tryz.f280.body.getD .skip)=true:=by kernel_rfl
def qcB (N:Nat):Tab:={tr:=qm6,lp:=qqn,ex:=qoK,rg:=qqp,jn:=qrx,fuel:=N}
theorem qJk (N:Nat):(qcB N).pins=false:=rfl
theorem q8E (N:Nat):qn Tryz.prog (qcB N):=qr fun _=>rfl
theorem qKS (N:Nat) (i:Nat):(qcB N).tr i=qm6 i:=rfl
theorem qJf (N:Nat) (i:Nat):(qcB N).lp i=qqn i:=rfl
theorem qGr (N:Nat) (i:Nat):(qcB N).ex i=qoK i:=rfl
theorem qKt (N:Nat) (i:Nat):(qcB N).rg i=qqp i:=rfl
theorem qPA (N:Nat) (i:Nat):(qcB N).jn i=qrx i:=rfl
theorem qMJ (N:Nat):(qcB N).fuel=N:=rfl
noncomputable def qUp:Code:=cut [true,true,false,true,true] (Tryz.f280.body.getD .skip)
theorem q77 {N:Nat} {Q:X→St→Option (qb [i3])} {e:List LV} {h:List Blk}:qd tt qno (qcB N) qUp Q ⟨e,h⟩=qd tt qno (qcB N) (cut [true,true,false,true,true] (Tryz.f280.body.getD .skip)) Q ⟨e,h⟩:=rfl
theorem q00 (N:Nat) {k0:Int→Option (qb [i3])} {Q:X→St→Option (qb [i3])} {c:Code} (hc:c=qUp) (hret: ∀st,Q .ret st=qB tt true [i3] [.tmp 4] st) (h0: ∀(v4:Int),Q (.exit 0) ⟨[.one (.int .i64 v4),u,u,u,u,u,u,u,u,u,u,u,u,u,u,u],[]⟩=k0 v4): ∀(n:Nat) (v2:Int) (v3:Int),qC (qd tt qno (qcB N) c) false qsN Q n ⟨[.one (.int .i64 v2),.one (.int .i64 v3),u,u,u,u,u,u,u,u,u,u,u,u,u,u],[]⟩=qmI N k0 n v2 v3:=by
 subst hc;intro n;induction n with
 | zero=>intros;rfl
 | succ n ih=>
   intro v2 v3
   rw [qL,q77,qmI];unfold Tryz.f280
   simp (maxSteps:=10000000) -implicitDefEqProofs [qKS,qm6,qJf,qqn,qGr,qoK,qKt,qqp,qPA,qrx,qMJ,qJk,qHj,qHB,qCq,qMd,qM9,qEt,qMI,ql5,hret,h0,ih]
theorem qXJ (N:Nat) (v0:Int) (v1:Int):qd tt qno (qcB N) (Tryz.f280.body.getD .skip) (qo tt true [i3] [.tmp 4]) (qt [i3,i3] 16 (v0,v1,()))=qA8 N v0 v1:=by
 unfold Tryz.f280
 simp (maxSteps:=10000000) -implicitDefEqProofs [qKS,qm6,qJf,qqn,qGr,qoK,qKt,qqp,qPA,qrx,qMJ,qJk,qHj,qHB,qCq,qMd,qM9,qEt,qMI,ql5]
 rewrite [q00 (k0:=(fun (v5:Int)=>some (v5,()))) N ?_ ?_ ?_]
 ·rewrite [qA8];first | rfl | simp (maxSteps:=10000000) -implicitDefEqProofs []
 ·rfl
 ·intro;simp only [qK,qI,qJ,qy]
 ·intro v5;simp (maxSteps:=10000000) -implicitDefEqProofs [qKS,qm6,qJf,qqn,qGr,qoK,qKt,qqp,qPA,qrx,qMJ,qJk,qHj,qHB,qCq,qMd,qM9,qEt,qMI,ql5]
theorem qQh (N:Nat) (k:Int→Option (qb [i3])): ∀(n a b:Nat),b<n→qmI N k n (a:Int) (b:Int)=k (Nat.gcd a b:Nat)
 | 0,_,_,h=>by omega
 | n+1,a,b,h=>by
   rw [qmI]
   by_cases hb:b=0
   ·subst hb;simp
   ·have hb': ¬((b:Int)=0):=by omega
    have hlt:a % b<b:=Nat.mod_lt _ (by omega)
    have hm:((a:Int).tmod (b:Int))=((a % b:Nat):Int):=by rw [Int.tmod_eq_emod_of_nonneg (by omega)];rfl
    simp only [hb',decide_false,Bool.not_false,cond_true,ne_eq,not_false_eq_true,qQp]
    rw [hm,qQh N k n b (a % b) (by omega)]
    congr 2
    rw [Nat.gcd_comm b,←Nat.gcd_rec,Nat.gcd_comm]
def qba:G:={ps:=[i3,i3],rs:=[i3],dp:=true,pre:=fun x=>qdb x.1 x.2.1,fn:=fun x=>(qaS x.1 x.2.1,())}
theorem zay (a b:Int) (h:qdb a b): ∃N,qA8 N a b=some (qaS a b,()):=⟨b.natAbs+1,by
 rw [qA8,qe (show qbH a from h.1),qe (show qbH b from h.2)]
 simp only [qa9]
 rw [qQh _ _ _ _ _ (Nat.lt_succ_self _)]
 rfl⟩
theorem qyH:Sound Tryz.prog 280 qba:=qu (tt:=tt) (Γ:=qno) hT (qf qXu qq) hm (fn:=Tryz.f280) Tryz.func280 (c:=Tryz.f280.body.getD .skip) (by kernel_rfl) (by kernel_rfl) fun x hx=>by
 obtain ⟨N,h⟩:=zay x.1 x.2.1 hx
 exact ⟨qcB N,zdM,qv _,q8E N,(qXJ N x.1 x.2.1).trans h⟩
theorem qR0 {g:Nat} {x:Int} (hg:(g:Int)≤9223372036854775807) (hx:inI x):qdb (g:Int) x∧((Nat.gcd g x.natAbs:Nat):Int)≤9223372036854775807:=by
 refine ⟨⟨⟨by omega,hg⟩,hx⟩,?_⟩
 unfold inI at hx
 by_cases h0:x.natAbs=0
 ·rw [h0];simpa using hg
 ·have:=Nat.gcd_le_right (m:=g) (n:=x.natAbs) (by omega)
  omega
theorem qSZ {ρ:Type}: ∀(xs:List Int) (i g:Nat) (k:Int→Option ρ),(g:Int)≤9223372036854775807→(∀x∈xs,inI x)→qO (fun _ x s K=>chk (qdb s x) (K (qaS s x))) i xs (g:Int) k=k (gL g xs:Nat)
 | [],_,_,_,_,_=>rfl
 | x::xs,i,g,k,hg,hx=>by
   obtain ⟨h1,h2⟩:=qR0 hg (hx x (by simp))
   rw [qO,qe h1]
   exact qSZ xs (i+1) _ k h2 fun y hy=>hx y (by simp [hy])
noncomputable def qk5 (N:Nat) (v2:List (Val (.int .i64))) (v3:Int) (k0:Int→Option (qb [i3])):Nat→Int→Int→Option (qb [i3])
 | 0,_,_=>none
 | n+1,v1,v4=>bif (decide (v4<v3))then (chk (0≤v4∧v4<(v2.length:Int)) (chk (qdb v1 ((v2.getD v4.toNat (qc (.int .i64))):Int)) (qk5 N v2 v3 k0 n ((qaS v1 ((v2.getD v4.toNat (qc (.int .i64))):Int)):Int) (IntKind.i64.wrap (v4+(1:Int))))))else (k0 v1)
noncomputable def qAL (N:Nat) (v0:List (Val (.int .i64))):Option (qb [i3]):=qk5 N v0 (v0.length:Int) (fun (v6:Int)=>some (v6,())) N (0:Int) (0:Int)
def qmV:Gam:=[(280,qba)]
theorem qLA:Gam.get qmV 280=some qba:=rfl
def qob:Nm:=⟨[false,false,false,true,false,false,true,true,true],[],false⟩
theorem qDo:qob.zero=false:=rfl
theorem qKz:qob.fix=[]:=rfl
theorem qKT:qob.keep=[false,false,false,true,false,false,true,true,true]:=rfl
def qAj:Nm:=⟨[false,false,false,true],[],false⟩
theorem qNk:qAj.zero=false:=rfl
theorem qE7:qAj.fix=[]:=rfl
theorem qOi:qAj.keep=[false,false,false,true]:=rfl
def qnQ:Nat→Tree:=fun _=> .done
def qoh:Nat→Nm:=fun i=>if i=3 then qob else ⟨[],[],false⟩
def qqL:Nat→Option Jn:=fun _=>none
def qrv:Nat→Option Nm:=fun i=>if i=0 then some qAj else none
def qqg:Nat→Option Nm:=fun _=>none
theorem q8b:qj qnQ (Tryz.f282.body.getD .skip)=true:=by kernel_rfl
def qdK (N:Nat):Tab:={tr:=qnQ,lp:=qoh,ex:=qrv,rg:=qqg,jn:=qqL,fuel:=N}
theorem qIb (N:Nat):(qdK N).pins=false:=rfl
theorem qZL (N:Nat):qn Tryz.prog (qdK N):=qr fun _=>rfl
theorem qJJ (N:Nat) (i:Nat):(qdK N).tr i=qnQ i:=rfl
theorem qE5 (N:Nat) (i:Nat):(qdK N).lp i=qoh i:=rfl
theorem qDr (N:Nat) (i:Nat):(qdK N).ex i=qrv i:=rfl
theorem qIH (N:Nat) (i:Nat):(qdK N).rg i=qqg i:=rfl
theorem qPK (N:Nat) (i:Nat):(qdK N).jn i=qqL i:=rfl
theorem qPL (N:Nat):(qdK N).fuel=N:=rfl
noncomputable def qQL:Code:=cut [true,true,false,true,true,true] (Tryz.f282.body.getD .skip)
theorem qXq {N:Nat} {Q:X→St→Option (qb [i3])} {e:List LV} {h:List Blk}:qd tt qmV (qdK N) qQL Q ⟨e,h⟩=qd tt qmV (qdK N) (cut [true,true,false,true,true,true] (Tryz.f282.body.getD .skip)) Q ⟨e,h⟩:=rfl
theorem q6B (N:Nat) (v2:List (Val (.int .i64))) (v3:Int) {k0:Int→Option (qb [i3])} {Q:X→St→Option (qb [i3])} {c:Code} (hc:c=qQL) (hret: ∀st,Q .ret st=qB tt true [i3] [.tmp 2] st) (h0: ∀(v5:Int),Q (.exit 0) ⟨[u,u,u,.one (.int .i64 v5),u,u,u,u,u,u,u,u,u,u,u,u,u],[]⟩=k0 v5): ∀(n:Nat) (v1:Int) (v4:Int),qC (qd tt qmV (qdK N) c) false qob Q n ⟨[u,u,u,.one (.int .i64 v1),u,u,.one (.sl 3 (.int .i64) v2 0),.one (.int .i64 v3),.one (.int .i64 v4),u,u,u,u,u,u,u,u],[]⟩=qk5 N v2 v3 k0 n v1 v4:=by
 subst hc;intro n;induction n with
 | zero=>intros;rfl
 | succ n ih=>
   intro v1 v4
   rw [qL,qXq,qk5];unfold Tryz.f282
   simp (maxSteps:=10000000) -implicitDefEqProofs [qJJ,qnQ,qE5,qoh,qDr,qrv,qIH,qqg,qPK,qqL,qPL,qIb,qKz,qKT,qDo,qE7,qOi,qNk,qLA,qba,hret,h0,ih]
theorem qVs (N:Nat) (v0:List (Val (.int .i64))):qd tt qmV (qdK N) (Tryz.f282.body.getD .skip) (qo tt true [i3] [.tmp 2]) (qt [i25] 17 (v0,()))=qAL N v0:=by
 unfold Tryz.f282
 simp (maxSteps:=10000000) -implicitDefEqProofs [qJJ,qnQ,qE5,qoh,qDr,qrv,qIH,qqg,qPK,qqL,qPL,qIb,qKz,qKT,qDo,qE7,qOi,qNk,qLA,qba]
 rewrite [q6B (k0:=(fun (v6:Int)=>some (v6,()))) N _ _ ?_ ?_ ?_]
 ·rewrite [qAL];first | rfl | simp (maxSteps:=10000000) -implicitDefEqProofs []
 ·rfl
 ·intro;simp only [qK,qI,qJ,qy]
 ·intro v6;simp (maxSteps:=10000000) -implicitDefEqProofs [qJJ,qnQ,qE5,qoh,qDr,qrv,qIH,qqg,qPK,qqL,qPL,qIb,qKz,qKT,qDo,qE7,qOi,qNk,qLA,qba]
def qbn:G:={ps:=[i25],rs:=[i3],dp:=true,pre:=fun x=>qfF x.1,fn:=fun x=>(qaF x.1,())}
theorem qXA (xs:List (Val (.int .i64))) (h:qfF xs): ∃N,qAL N xs=some (qaF xs,()):=⟨xs.length+1,by
 rw [qAL]
 rw [qaj (F:=fun n i s=>qk5 _ xs xs.length _ n s i) (step:=fun _ x s K=>chk (qdb s x) (K (qaS s x))) (k:=fun s=>some (s,())) h.1 ?_ ?_ _ _ (Nat.lt_succ_self _)]
 ·exact qSZ xs 0 0 _ (by omega) h.2
 ·intro n i s hi
  rw [qk5,ql (by omega),qe (by omega),qH hi]
 ·intro n i s hi
  rw [qk5,qi (by omega)]⟩
theorem qAr:Sound Tryz.prog 282 qbn:=qu (tt:=tt) (Γ:=qmV) hT (qf qyH qq) hm (fn:=Tryz.f282) Tryz.func282 (c:=Tryz.f282.body.getD .skip) (by kernel_rfl) (by kernel_rfl) fun x hx=>by
 obtain ⟨N,h⟩:=qXA x.1 hx
 exact ⟨qdK N,q8b,qv _,qZL N,(qVs N x.1).trans h⟩
def qcS:G:={ps:=[i3],rs:=[i3],dp:=true,pre:=fun x=>qbH x.1,fn:=fun x=>(qa9 x.1,())}
noncomputable def qyS (N:Nat) (v0:Int):Option (qb [i3]):=some ((max v0 (IntKind.i64.wrap (0 - v0))),())
def qUa:Gam:=[]
def qzt:Nat→Tree:=fun _=> .done
def qEr:Nat→Nm:=fun _=>⟨[],[],false⟩
def qMN:Nat→Option Jn:=fun _=>none
def qNx:Nat→Option Nm:=fun _=>none
def qH7:Nat→Option Nm:=fun _=>none
theorem qYp:qj qzt (Tryz.f278.body.getD .skip)=true:=by kernel_rfl
def qgv (N:Nat):Tab:={tr:=qzt,lp:=qEr,ex:=qNx,rg:=qH7,jn:=qMN,fuel:=N}
theorem zbR (N:Nat):(qgv N).pins=false:=rfl
theorem qYe (N:Nat):qn Tryz.prog (qgv N):=qr fun _=>rfl
theorem qVQ (N:Nat) (i:Nat):(qgv N).tr i=qzt i:=rfl
theorem q2T (N:Nat) (i:Nat):(qgv N).lp i=qEr i:=rfl
theorem q4Z (N:Nat) (i:Nat):(qgv N).ex i=qNx i:=rfl
theorem q74 (N:Nat) (i:Nat):(qgv N).rg i=qH7 i:=rfl
theorem q0O (N:Nat) (i:Nat):(qgv N).jn i=qMN i:=rfl
theorem q4I (N:Nat):(qgv N).fuel=N:=rfl
theorem qUY (N:Nat) (v0:Int):qd tt qUa (qgv N) (Tryz.f278.body.getD .skip) (qo tt true [i3] [.tmp 2]) (qt [i3] 7 (v0,()))=qyS N v0:=by
 rw [qyS];unfold Tryz.f278
 simp (maxSteps:=10000000) -implicitDefEqProofs [qVQ,qzt,q2T,qEr,q4Z,qNx,q74,qH7,q0O,qMN,q4I,zbR]
 try rfl
theorem zda (n:Int) (h:inI n): ∃N,qyS N n=some (qa9 n,()):=⟨0,by
 unfold inI at h
 rw [qyS,qaf (by omega) (by omega)]
 have e:max n (0 - n)=qa9 n:=by unfold qa9;omega
 rw [e]⟩
theorem qQo:Sound Tryz.prog 278 qcS:=qu (tt:=tt) (Γ:=qUa) hT qq hm (fn:=Tryz.f278) Tryz.func278 (c:=Tryz.f278.body.getD .skip) (by kernel_rfl) (by kernel_rfl) fun x hx=>by
 obtain ⟨N,h⟩:=zda x.1 hx
 exact ⟨qgv N,qYp,qv _,qYe N,(qUY N x.1).trans h⟩
noncomputable def qBu (N:Nat) (v0:Int) (v1:Int) (v2:Int):Option (qb [i4]):=bif (decide (v1≤v0))then (some ((decide (v0≤v2)),()))else (some (false,()))
def qQZ:Gam:=[]
def qvQ:Nat→Tree:=fun _=> .done
def qHE:Nat→Nm:=fun _=>⟨[],[],false⟩
def qOW:Nat→Option Jn:=fun _=>none
def qIj:Nat→Option Nm:=fun _=>none
def qIw:Nat→Option Nm:=fun _=>none
theorem zcZ:qj qvQ (Tryz.f118.body.getD .skip)=true:=by kernel_rfl
def qgj (N:Nat):Tab:={tr:=qvQ,lp:=qHE,ex:=qIj,rg:=qIw,jn:=qOW,fuel:=N}
theorem zaN (N:Nat):(qgj N).pins=false:=rfl
theorem zas (N:Nat):qn Tryz.prog (qgj N):=qr fun _=>rfl
theorem qWU (N:Nat) (i:Nat):(qgj N).tr i=qvQ i:=rfl
theorem q3E (N:Nat) (i:Nat):(qgj N).lp i=qHE i:=rfl
theorem q42 (N:Nat) (i:Nat):(qgj N).ex i=qIj i:=rfl
theorem q4i (N:Nat) (i:Nat):(qgj N).rg i=qIw i:=rfl
theorem q7o (N:Nat) (i:Nat):(qgj N).jn i=qOW i:=rfl
theorem q6O (N:Nat):(qgj N).fuel=N:=rfl
theorem zaw (N:Nat) (v0:Int) (v1:Int) (v2:Int):qd tt qQZ (qgj N) (Tryz.f118.body.getD .skip) (qo tt true [i4] [.tmp 6]) (qt [i3,i3,i3] 15 (v0,v1,v2,()))=qBu N v0 v1 v2:=by
 rw [qBu];unfold Tryz.f118
 simp (maxSteps:=10000000) -implicitDefEqProofs [qWU,qvQ,q3E,qHE,q42,qIj,q4i,qIw,q7o,qOW,q6O,zaN]
 try rfl
def q5:G:={ps:=[i3,i3,i3],rs:=[i4],dp:=true,pre:=fun _=>True,fn:=fun x=>(inR x.1 x.2.1 x.2.2.1,())}
theorem zcB (x a b:Int): ∃N,qBu N x a b=some (inR x a b,()):=⟨0,by
 simp only [qBu,inR]
 by_cases h1:a≤x<;>by_cases h2:x≤b<;>simp [h1,h2]⟩
theorem qmH:Sound Tryz.prog 118 q5:=qu (tt:=tt) (Γ:=qQZ) hT qq hm (fn:=Tryz.f118) Tryz.func118 (c:=Tryz.f118.body.getD .skip) (by kernel_rfl) (by kernel_rfl) fun x hx=>by
 obtain ⟨N,h⟩:=zcB x.1 x.2.1 x.2.2.1
 exact ⟨qgj N,zcZ,qv _,zas N,(zaw N x.1 x.2.1 x.2.2.1).trans h⟩
noncomputable def qAp (N:Nat) (v0:Int):Option (qb [i4]):=some (((inR v0 (-400000000:Int) (400000000:Int)):Bool),())
def qGU:Gam:=[(118,q5)]
theorem q2M:Gam.get qGU 118=some q5:=rfl
def qyW:Nat→Tree:=fun _=> .done
def qHX:Nat→Nm:=fun _=>⟨[],[],false⟩
def qEy:Nat→Option Jn:=fun _=>none
def qIT:Nat→Option Nm:=fun _=>none
def qBW:Nat→Option Nm:=fun _=>none
theorem q75:qj qyW (Tryz.f194.body.getD .skip)=true:=by kernel_rfl
def qgs (N:Nat):Tab:={tr:=qyW,lp:=qHX,ex:=qIT,rg:=qBW,jn:=qEy,fuel:=N}
theorem qWl (N:Nat):(qgs N).pins=false:=rfl
theorem q8C (N:Nat):qn Tryz.prog (qgs N):=qr fun _=>rfl
theorem qWy (N:Nat) (i:Nat):(qgs N).tr i=qyW i:=rfl
theorem zah (N:Nat) (i:Nat):(qgs N).lp i=qHX i:=rfl
theorem q7X (N:Nat) (i:Nat):(qgs N).ex i=qIT i:=rfl
theorem q91 (N:Nat) (i:Nat):(qgs N).rg i=qBW i:=rfl
theorem zcr (N:Nat) (i:Nat):(qgs N).jn i=qEy i:=rfl
theorem qYP (N:Nat):(qgs N).fuel=N:=rfl
theorem q4l (N:Nat) (v0:Int):qd tt qGU (qgs N) (Tryz.f194.body.getD .skip) (qo tt true [i4] [.tmp 2]) (qt [i3] 5 (v0,()))=qAp N v0:=by
 rw [qAp];unfold Tryz.f194
 simp (maxSteps:=10000000) -implicitDefEqProofs [qWy,qyW,zah,qHX,q7X,qIT,q91,qBW,zcr,qEy,qYP,qWl,q2M,q5]
 try rfl
noncomputable def qvD (N:Nat) (v0:Int):Option (qb [i4]):=bif (decide ((-400000000:Int)≤v0))then (some ((decide (v0≤(400000000:Int))),()))else (some (false,()))
def qUz:Gam:=[]
def qya:Nat→Tree:=fun _=> .done
def qK6:Nat→Nm:=fun _=>⟨[],[],false⟩
def qLu:Nat→Option Jn:=fun _=>none
def qMq:Nat→Option Nm:=fun _=>none
def qCI:Nat→Option Nm:=fun _=>none
theorem q5F:qj qya (Tryz.f204.body.getD .skip)=true:=by kernel_rfl
def qgx (N:Nat):Tab:={tr:=qya,lp:=qK6,ex:=qMq,rg:=qCI,jn:=qLu,fuel:=N}
theorem q11 (N:Nat):(qgx N).pins=false:=rfl
theorem qWT (N:Nat):qn Tryz.prog (qgx N):=qr fun _=>rfl
theorem q5k (N:Nat) (i:Nat):(qgx N).tr i=qya i:=rfl
theorem qXX (N:Nat) (i:Nat):(qgx N).lp i=qK6 i:=rfl
theorem qV9 (N:Nat) (i:Nat):(qgx N).ex i=qMq i:=rfl
theorem q5J (N:Nat) (i:Nat):(qgx N).rg i=qCI i:=rfl
theorem q0z (N:Nat) (i:Nat):(qgx N).jn i=qLu i:=rfl
theorem qY1 (N:Nat):(qgx N).fuel=N:=rfl
theorem q1Z (N:Nat) (v0:Int):qd tt qUz (qgx N) (Tryz.f204.body.getD .skip) (qo tt true [i4] [.tmp 2]) (qt [i3] 9 (v0,()))=qvD N v0:=by
 rw [qvD];unfold Tryz.f204
 simp (maxSteps:=10000000) -implicitDefEqProofs [q5k,qya,qXX,qK6,qV9,qMq,q5J,qCI,q0z,qLu,qY1,q11]
 try rfl
def qck:G:={ps:=[i3],rs:=[i4],dp:=true,pre:=fun _=>True,fn:=fun x=>(qX x.1,())}
def qer:G:={ps:=[i3],rs:=[i4],dp:=true,pre:=fun _=>True,fn:=fun x=>(qX x.1,())}
theorem q5r (x:Int): ∃N,qAp N x=some (qX x,()):=⟨0,by
 simp only [qAp,inR,qX]⟩
theorem qGZ:Sound Tryz.prog 194 qck:=qu (tt:=tt) (Γ:=qGU) hT (qf qmH qq) hm (fn:=Tryz.f194) Tryz.func194 (c:=Tryz.f194.body.getD .skip) (by kernel_rfl) (by kernel_rfl) fun x hx=>by
 obtain ⟨N,h⟩:=q5r x.1
 exact ⟨qgs N,q75,qv _,q8C N,(q4l N x.1).trans h⟩
theorem qX8 (x:Int): ∃N,qvD N x=some (qX x,()):=⟨0,by
 simp only [qvD,qX]
 by_cases h1: -400000000≤x<;>by_cases h2:x≤400000000<;>simp [h1,h2]⟩
theorem qFZ:Sound Tryz.prog 204 qer:=qu (tt:=tt) (Γ:=qUz) hT qq hm (fn:=Tryz.f204) Tryz.func204 (c:=Tryz.f204.body.getD .skip) (by kernel_rfl) (by kernel_rfl) fun x hx=>by
 obtain ⟨N,h⟩:=qX8 x.1
 exact ⟨qgx N,q5F,qv _,qWT N,(q1Z N x.1).trans h⟩
noncomputable def qes (N:Nat) (v11:List (Val (.int .i64))) (v13:Int) (k2:Int→Option (qb [i3])):Nat→Int→Int→Option (qb [i3])
 | 0,_,_=>none
 | n+1,v12,v14=>bif (!(decide (v14=(0:Int))))then (chk (v14≠0) (qes N v11 v13 k2 n v14 (v12.tmod v14)))else (k2 v12)
noncomputable def qhX (N:Nat) (v2:List (Val (.int .i64))) (k0:Int→Option (qb [i3])):Nat→Int→Int→Option (qb [i3])
 | 0,_,_=>none
 | n+1,v3,v4=>bif (decide (v4<(v2.length:Int)))then (chk (0≤v4∧v4<(v2.length:Int)) (chk (qbH ((v2.getD v4.toNat (qc (.int .i64))):Int)) (qes N v2 v4 (fun (v16:Int)=>qhX N v2 k0 n v16 (IntKind.i64.wrap (v4+(1:Int)))) N v3 ((qa9 ((v2.getD v4.toNat (qc (.int .i64))):Int)):Int))))else (k0 v3)
noncomputable def qx3 (N:Nat) (v0:List (Val (.int .i64))) (v1:Int):Option (qb [i3]):=chk (qbH v1) (qhX N v0 (fun (v18:Int)=>some (v18,())) N ((qa9 v1):Int) (0:Int))
def qgJ:Gam:=[(278,qcS)]
theorem qsM:Gam.get qgJ 278=some qcS:=rfl
def qqZ:Nm:=⟨[true,false,false,false,false,true,true,true],[],false⟩
theorem qo8:qqZ.zero=false:=rfl
theorem qux:qqZ.fix=[]:=rfl
theorem qoQ:qqZ.keep=[true,false,false,false,false,true,true,true]:=rfl
def qsf:Nm:=⟨[true,false,false,false,false,true,true],[],false⟩
theorem qtu:qsf.zero=false:=rfl
theorem qrP:qsf.fix=[]:=rfl
theorem qoR:qsf.keep=[true,false,false,false,false,true,true]:=rfl
def qwO:Nm:=⟨[false,false,false,false,false,true],[],false⟩
theorem qpQ:qwO.zero=false:=rfl
theorem qtD:qwO.fix=[]:=rfl
theorem qq8:qwO.keep=[false,false,false,false,false,true]:=rfl
def qAD:Nm:=⟨[true,false,false,false,false,true,true],[],false⟩
theorem qsi:qAD.zero=false:=rfl
theorem qrb:qAD.fix=[]:=rfl
theorem qtw:qAD.keep=[true,false,false,false,false,true,true]:=rfl
def qiJ:Nat→Tree:=fun i=>if i=7 then .quiet 0 (.quiet 1 (.quiet 2 (.quiet 3 (.quiet 4 (.quiet 5 .done)))))else .done
def qla:Nat→Nm:=fun i=>if i=6 then qqZ else if i=3 then qsf else ⟨[],[],false⟩
def qks:Nat→Option Jn:=fun _=>none
def qj3:Nat→Option Nm:=fun i=>if i=0 then some qwO else if i=2 then some qAD else none
def qlb:Nat→Option Nm:=fun _=>none
theorem qZy:qj qiJ (Tryz.f231.body.getD .skip)=true:=by kernel_rfl
def qbI (N:Nat):Tab:={tr:=qiJ,lp:=qla,ex:=qj3,rg:=qlb,jn:=qks,fuel:=N}
theorem qsg (N:Nat):(qbI N).pins=false:=rfl
theorem q68 (N:Nat):qn Tryz.prog (qbI N):=qr fun _=>rfl
theorem qt4 (N:Nat) (i:Nat):(qbI N).tr i=qiJ i:=rfl
theorem qtc (N:Nat) (i:Nat):(qbI N).lp i=qla i:=rfl
theorem qqz (N:Nat) (i:Nat):(qbI N).ex i=qj3 i:=rfl
theorem qti (N:Nat) (i:Nat):(qbI N).rg i=qlb i:=rfl
theorem qpC (N:Nat) (i:Nat):(qbI N).jn i=qks i:=rfl
theorem qtL (N:Nat):(qbI N).fuel=N:=rfl
noncomputable def qRU:Code:=cut [true,true,false,true,true,true,true,false,true,true,true,true] (Tryz.f231.body.getD .skip)
theorem zb7 {N:Nat} {Q:X→St→Option (qb [i3])} {e:List LV} {h:List Blk}:qd tt qgJ (qbI N) qRU Q ⟨e,h⟩=qd tt qgJ (qbI N) (cut [true,true,false,true,true,true,true,false,true,true,true,true] (Tryz.f231.body.getD .skip)) Q ⟨e,h⟩:=rfl
theorem zc7 (N:Nat) (v11:List (Val (.int .i64))) (v13:Int) {k2:Int→Option (qb [i3])} {Q:X→St→Option (qb [i3])} {c:Code} (hc:c=qRU) (hret: ∀st,Q .ret st=qB tt true [i3] [.tmp 4] st) (h2: ∀(v15:Int),Q (.exit 2) ⟨[.one (.sl 3 (.int .i64) v11 0),u,u,u,u,.one (.int .i64 v15),.one (.int .i64 v13),u,u,u,u,u,u,u,u,u,u,u,u,u,u,u,u,u,u,u,u,u],[]⟩=k2 v15): ∀(n:Nat) (v12:Int) (v14:Int),qC (qd tt qgJ (qbI N) c) false qqZ Q n ⟨[.one (.sl 3 (.int .i64) v11 0),u,u,u,u,.one (.int .i64 v12),.one (.int .i64 v13),.one (.int .i64 v14),u,u,u,u,u,u,u,u,u,u,u,u,u,u,u,u,u,u,u,u],[]⟩=qes N v11 v13 k2 n v12 v14:=by
 subst hc;intro n;induction n with
 | zero=>intros;rfl
 | succ n ih=>
   intro v12 v14
   rw [qL,zb7,qes];unfold Tryz.f231
   simp (maxSteps:=10000000) -implicitDefEqProofs [qt4,qiJ,qtc,qla,qqz,qj3,qti,qlb,qpC,qks,qtL,qsg,qux,qoQ,qo8,qrP,qoR,qtu,qtD,qq8,qpQ,qrb,qtw,qsi,qsM,qcS,hret,h2,ih]
noncomputable def qTk:Code:=cut [true,true,false,true,true,true] (Tryz.f231.body.getD .skip)
theorem zcE {N:Nat} {Q:X→St→Option (qb [i3])} {e:List LV} {h:List Blk}:qd tt qgJ (qbI N) qTk Q ⟨e,h⟩=qd tt qgJ (qbI N) (cut [true,true,false,true,true,true] (Tryz.f231.body.getD .skip)) Q ⟨e,h⟩:=rfl
theorem zaD (N:Nat) (v2:List (Val (.int .i64))) {k0:Int→Option (qb [i3])} {Q:X→St→Option (qb [i3])} {c:Code} (hc:c=qTk) (hret: ∀st,Q .ret st=qB tt true [i3] [.tmp 4] st) (h0: ∀(v17:Int),Q (.exit 0) ⟨[u,u,u,u,u,.one (.int .i64 v17),u,u,u,u,u,u,u,u,u,u,u,u,u,u,u,u,u,u,u,u,u,u],[]⟩=k0 v17): ∀(n:Nat) (v3:Int) (v4:Int),qC (qd tt qgJ (qbI N) c) false qsf Q n ⟨[.one (.sl 3 (.int .i64) v2 0),u,u,u,u,.one (.int .i64 v3),.one (.int .i64 v4),u,u,u,u,u,u,u,u,u,u,u,u,u,u,u,u,u,u,u,u,u],[]⟩=qhX N v2 k0 n v3 v4:=by
 subst hc;intro n;induction n with
 | zero=>intros;rfl
 | succ n ih=>
   intro v3 v4
   rw [qL,zcE];unfold Tryz.f231
   simp (maxSteps:=10000000) -implicitDefEqProofs [qt4,qiJ,qtc,qla,qqz,qj3,qti,qlb,qpC,qks,qtL,qsg,qux,qoQ,qo8,qrP,qoR,qtu,qtD,qq8,qpQ,qrb,qtw,qsi,qsM,qcS,hret,h0,ih]
   rewrite [zc7 (k2:=(fun (v16:Int)=>qhX N v2 k0 n v16 (IntKind.i64.wrap (v4+(1:Int))))) N _ _ ?_ ?_ ?_]
   ·rewrite [qhX];first | rfl | simp (maxSteps:=10000000) -implicitDefEqProofs [ih]
   ·rfl
   ·intro;simp only [qK,qI,qJ,qy,hret]
   ·intro v16;simp (maxSteps:=10000000) -implicitDefEqProofs [qt4,qiJ,qtc,qla,qqz,qj3,qti,qlb,qpC,qks,qtL,qsg,qux,qoQ,qo8,qrP,qoR,qtu,qtD,qq8,qpQ,qrb,qtw,qsi,qsM,qcS,hret,h0,ih]
theorem q5W (N:Nat) (v0:List (Val (.int .i64))) (v1:Int):qd tt qgJ (qbI N) (Tryz.f231.body.getD .skip) (qo tt true [i3] [.tmp 4]) (qt [i25,i3] 28 (v0,v1,()))=qx3 N v0 v1:=by
 unfold Tryz.f231
 simp (maxSteps:=10000000) -implicitDefEqProofs [qt4,qiJ,qtc,qla,qqz,qj3,qti,qlb,qpC,qks,qtL,qsg,qux,qoQ,qo8,qrP,qoR,qtu,qtD,qq8,qpQ,qrb,qtw,qsi,qsM,qcS]
 rewrite [zaD (k0:=(fun (v18:Int)=>some (v18,()))) N _ ?_ ?_ ?_]
 ·rewrite [qx3];first | rfl | simp (maxSteps:=10000000) -implicitDefEqProofs []
 ·rfl
 ·intro;simp only [qK,qI,qJ,qy]
 ·intro v18;simp (maxSteps:=10000000) -implicitDefEqProofs [qt4,qiJ,qtc,qla,qqz,qj3,qti,qlb,qpC,qks,qtL,qsg,qux,qoQ,qo8,qrP,qoR,qtu,qtD,qq8,qpQ,qrb,qtw,qsi,qsM,qcS]
theorem qUs (N:Nat) (xs:List (Val (.int .i64))) (v:Int) (k:Int→Option (qb [i3])): ∀(n b a:Nat),b<n→qes N xs v k n (a:Int) (b:Int)=k (Nat.gcd a b:Nat)
 | 0,_,_,h=>by omega
 | n+1,b,a,h=>by
   rw [qes]
   by_cases hb:b=0
   ·subst hb;simp
   ·have hb': ¬((b:Int)=0):=by omega
    have hlt:a % b<b:=Nat.mod_lt _ (by omega)
    have hm:((a:Int).tmod (b:Int))=((a % b:Nat):Int):=by rw [Int.tmod_eq_emod_of_nonneg (by omega)];rfl
    simp only [hb',decide_false,Bool.not_false,cond_true,ne_eq,not_false_eq_true,qQp]
    rw [hm,qUs N xs v k n (a % b) b (by omega)]
    congr 2
    rw [Nat.gcd_comm b,←Nat.gcd_rec,Nat.gcd_comm]
theorem qRu (N:Nat) (xs:List (Val (.int .i64))) (v v':Int) (k:Int→Option (qb [i3])): ∀(n:Nat) (a b:Int),qes N xs v k n a b=qes N xs v' k n a b
 | 0,_,_=>rfl
 | n+1,a,b=>by rw [qes,qes,qRu N xs v v' k n]
theorem qUr (N:Nat) (hN:9223372036854775807<N) (ys:List (Val (.int .i64))): ∀(xs:List Int) (i g:Nat) (k:Int→Option (qb [i3])),(∀x∈xs,inI x)→qO (fun _ x s K=>chk (qbH x) (qes N ys 0 K N s (qa9 x))) i xs (g:Int) k=k (gL g xs:Nat)
 | [],_,_,_,_=>rfl
 | x::xs,i,g,k,hx=>by
   have h1:=hx x (by simp)
   rw [qO,qe (show qbH x from h1)]
   simp only [qa9]
   rw [qUs _ _ _ _ _ _ _ (by unfold inI at h1;omega)]
   exact qUr N hN ys xs (i+1) _ k fun y hy=>hx y (by simp [hy])
def qcm:G:={ps:=[i25,i3],rs:=[i3],dp:=true,pre:=fun x=>qgw x.1 x.2.1,fn:=fun x=>(qb4 x.1 x.2.1,())}
theorem zbB (xs:List (Val (.int .i64))) (k:Int) (h:qgw xs k): ∃N,qx3 N xs k=some (qb4 xs k,()):=⟨9223372036854775808+xs.length,by
 rw [qx3,qe (show qbH k from h.2.1)]
 rw [qaj (F:=fun n i s=>qhX _ xs _ n s i) (step:=fun _ x s K=>chk (qbH x) (qes (9223372036854775808+xs.length) xs 0 K (9223372036854775808+xs.length) s (qa9 x))) (k:=fun s=>some (s,())) h.1 ?_ ?_ _ _ (by omega)]
 ·exact qUr _ (by omega) xs xs 0 k.natAbs _ h.2.2
 ·intro n i s hi
  rw [qhX,ql (by omega),qe (by omega),qH hi]
  congr 1
  exact qRu ..
 ·intro n i s hi
  rw [qhX,qi (by omega)]⟩
theorem qMZ:Sound Tryz.prog 231 qcm:=qu (tt:=tt) (Γ:=qgJ) hT (qf qQo qq) hm (fn:=Tryz.f231) Tryz.func231 (c:=Tryz.f231.body.getD .skip) (by kernel_rfl) (by kernel_rfl) fun x hx=>by
 obtain ⟨N,h⟩:=zbB x.1 x.2.1 hx
 exact ⟨qbI N,qZy,qv _,q68 N,(q5W N x.1 x.2.1).trans h⟩
def qA (a:Val qa):Bool:=decide ((a.1:List Int).length≤4)&&qX a.2.1&&(a.1:List Int).all qX&&decide (((gL (Int.natAbs a.2.1) a.1:Nat):Int)≤1)
noncomputable def qiO (N:Nat) (v2:List (Val (.int .i64))) (v3:Int) (v4:Bool) (k0:Unit→Option (qb [i4])):Nat→Int→Option (qb [i4])
 | 0,_=>none
 | n+1,v1=>bif (decide (v1<(v2.length:Int)))then (chk (0≤v1∧v1<(v2.length:Int)) (bif (!((qX ((v2.getD v1.toNat (qc (.int .i64))):Int)):Bool))then (some (false,()))else (qiO N v2 v3 v4 k0 n (IntKind.i64.wrap (v1+(1:Int))))))else (k0 ())
noncomputable def qvt (N:Nat) (v0:Val qa):Option (qb [i4]):=bif (decide ((4:Int)<((v0.1:List (Val (.int .i64))).length:Int)))then (some (false,()))else (bif (!((qX (v0.2.1:Int)):Bool))then (some (false,()))else (qiO N (v0.1:List (Val (.int .i64))) (v0.2.1:Int) (v0.2.2:Bool) (fun (_:Unit)=>chk (qgw (v0.1:List (Val (.int .i64))) (v0.2.1:Int)) (some ((decide (((qb4 (v0.1:List (Val (.int .i64))) (v0.2.1:Int)):Int)≤(1:Int))),()))) N (0:Int)))
def qi9:Gam:=[(194,qck),(231,qcm)]
theorem qJd:Gam.get qi9 194=some qck:=rfl
theorem qO4:Gam.get qi9 231=some qcm:=rfl
def qus:Nm:=⟨[false,true,false,true],[],false⟩
theorem qGg:qus.zero=false:=rfl
theorem qFK:qus.fix=[]:=rfl
theorem qOa:qus.keep=[false,true,false,true]:=rfl
def qyi:Nm:=⟨[false,true],[],false⟩
theorem qCZ:qyi.zero=false:=rfl
theorem qN5:qyi.fix=[]:=rfl
theorem qMT:qyi.keep=[false,true]:=rfl
def qnG:Nat→Tree:=fun _=> .done
def qso:Nat→Nm:=fun i=>if i=4 then qus else ⟨[],[],false⟩
def qsy:Nat→Option Jn:=fun _=>none
def qpM:Nat→Option Nm:=fun i=>if i=0 then some qyi else none
def qsu:Nat→Option Nm:=fun _=>none
theorem zcf:qj qnG (Tryz.f193.body.getD .skip)=true:=by kernel_rfl
def qc4 (N:Nat):Tab:={tr:=qnG,lp:=qso,ex:=qpM,rg:=qsu,jn:=qsy,fuel:=N}
theorem qLl (N:Nat):(qc4 N).pins=false:=rfl
theorem qYC (N:Nat):qn Tryz.prog (qc4 N):=qr fun _=>rfl
theorem qCX (N:Nat) (i:Nat):(qc4 N).tr i=qnG i:=rfl
theorem qNI (N:Nat) (i:Nat):(qc4 N).lp i=qso i:=rfl
theorem qJU (N:Nat) (i:Nat):(qc4 N).ex i=qpM i:=rfl
theorem qFG (N:Nat) (i:Nat):(qc4 N).rg i=qsu i:=rfl
theorem qFS (N:Nat) (i:Nat):(qc4 N).jn i=qsy i:=rfl
theorem qJx (N:Nat):(qc4 N).fuel=N:=rfl
noncomputable def qRS:Code:=cut [true,true,false,true,true,true] (Tryz.f193.body.getD .skip)
theorem zdF {N:Nat} {Q:X→St→Option (qb [i4])} {e:List LV} {h:List Blk}:qd tt qi9 (qc4 N) qRS Q ⟨e,h⟩=qd tt qi9 (qc4 N) (cut [true,true,false,true,true,true] (Tryz.f193.body.getD .skip)) Q ⟨e,h⟩:=rfl
theorem q8i (N:Nat) (v2:List (Val (.int .i64))) (v3:Int) (v4:Bool) {k0:Unit→Option (qb [i4])} {Q:X→St→Option (qb [i4])} {c:Code} (hc:c=qRS) (hret: ∀st,Q .ret st=qB tt true [i4] [.tmp 2] st) (h0:Q (.exit 0) ⟨[u,.one (.ptr 0 0 0),u,u,u,u,u,u,u,u,u,u,u,u,u,u,u,u,u,u,u,u,u,u,u,u,u,u,u,u,u,u,u,u],[.box [.sl 3 (.int .i64) v2 1,.int .i64 v3,.bool v4]]⟩=k0 ()): ∀(n:Nat) (v1:Int),qC (qd tt qi9 (qc4 N) c) false qus Q n ⟨[u,.one (.ptr 0 0 0),u,.one (.int .i64 v1),u,u,u,u,u,u,u,u,u,u,u,u,u,u,u,u,u,u,u,u,u,u,u,u,u,u,u,u,u,u],[.box [.sl 3 (.int .i64) v2 1,.int .i64 v3,.bool v4]]⟩=qiO N v2 v3 v4 k0 n v1:=by
 subst hc;intro n;induction n with
 | zero=>intros;rfl
 | succ n ih=>
   intro v1
   rw [qL,zdF,qiO];unfold Tryz.f193
   simp (maxSteps:=10000000) -implicitDefEqProofs [qCX,qnG,qNI,qso,qJU,qpM,qFG,qsu,qFS,qsy,qJx,qLl,qFK,qOa,qGg,qN5,qMT,qCZ,qJd,qO4,qck,qcm,hret,h0,ih]
theorem qVL (N:Nat) (v0:Val qa):qd tt qi9 (qc4 N) (Tryz.f193.body.getD .skip) (qo tt true [i4] [.tmp 2]) (qt [qg] 34 (v0,()))=qvt N v0:=by
 unfold Tryz.f193
 simp (maxSteps:=10000000) -implicitDefEqProofs [qCX,qnG,qNI,qso,qJU,qpM,qFG,qsu,qFS,qsy,qJx,qLl,qFK,qOa,qGg,qN5,qMT,qCZ,qJd,qO4,qck,qcm]
 rewrite [q8i (k0:=(fun (_:Unit)=>chk (qgw (v0.1:List (Val (.int .i64))) (v0.2.1:Int)) (some ((decide (((qb4 (v0.1:List (Val (.int .i64))) (v0.2.1:Int)):Int)≤(1:Int))),())))) N _ _ _ ?_ ?_ ?_]
 ·rewrite [qvt];first | rfl | simp (maxSteps:=10000000) -implicitDefEqProofs []
 ·rfl
 ·intro;simp only [qK,qI,qJ,qy]
 ·simp (maxSteps:=10000000) -implicitDefEqProofs [qCX,qnG,qNI,qso,qJU,qpM,qFG,qsu,qFS,qsy,qJx,qLl,qFK,qOa,qGg,qN5,qMT,qCZ,qJd,qO4,qck,qcm]
noncomputable def qiG (N:Nat) (v1:List (Val (.int .i64))) (v2:Int) (v4:List (Val (.int .i64))) (v5:Int) (v6:Bool) (k0:Unit→Option (qb [i4])):Nat→Int→Option (qb [i4])
 | 0,_=>none
 | n+1,v3=>bif (decide (v3<v2))then (chk (0≤v3∧v3<(v1.length:Int)) (bif (!((qX ((v1.getD v3.toNat (qc (.int .i64))):Int)):Bool))then (some (false,()))else (qiG N v1 v2 v4 v5 v6 k0 n (IntKind.i64.wrap (v3+(1:Int))))))else (k0 ())
noncomputable def qwq (N:Nat) (v0:Val qa):Option (qb [i4]):=bif (decide ((4:Int)<((v0.1:List (Val (.int .i64))).length:Int)))then (some (false,()))else (bif (!((qX (v0.2.1:Int)):Bool))then (some (false,()))else (qiG N (v0.1:List (Val (.int .i64))) ((v0.1:List (Val (.int .i64))).length:Int) (v0.1:List (Val (.int .i64))) (v0.2.1:Int) (v0.2.2:Bool) (fun (_:Unit)=>chk (qfF (v0.1:List (Val (.int .i64)))) (chk (qdb ((qaF (v0.1:List (Val (.int .i64)))):Int) (v0.2.1:Int)) (some ((decide (((qaS ((qaF (v0.1:List (Val (.int .i64)))):Int) (v0.2.1:Int)):Int)≤(1:Int))),())))) N (0:Int)))
def qhV:Gam:=[(204,qer),(280,qba),(282,qbn)]
theorem qMV:Gam.get qhV 204=some qer:=rfl
theorem qMG:Gam.get qhV 280=some qba:=rfl
theorem qL5:Gam.get qhV 282=some qbn:=rfl
def quV:Nm:=⟨[false,true,false,false,false,false,false,false,false,false,false,false,false,false,false,false,true,true,true],[],false⟩
theorem qPh:quV.zero=false:=rfl
theorem qOx:quV.fix=[]:=rfl
theorem qJo:quV.keep=[false,true,false,false,false,false,false,false,false,false,false,false,false,false,false,false,true,true,true]:=rfl
def quZ:Nm:=⟨[false,true],[],false⟩
theorem qJS:quZ.zero=false:=rfl
theorem qLc:quZ.fix=[]:=rfl
theorem qL7:quZ.keep=[false,true]:=rfl
def qzA:Nm:=⟨[false,false,true],[],false⟩
theorem qPJ:qzA.zero=false:=rfl
theorem qGb:qzA.fix=[]:=rfl
theorem qCu:qzA.keep=[false,false,true]:=rfl
def qmO:Nat→Tree:=fun i=>if i=9 then .quiet 0 (.quiet 1 (.alt 2 (.quiet 3 (.quiet 4 (.alt 5 (.quiet 6 (.quiet 7 .done)) .stop))) (.alt 3 (.alt 2 (.quiet 4 (.alt 5 (.quiet 6 (.quiet 7 .done)) .stop)) (.alt 4 (.alt 2 (.alt 5 (.quiet 6 (.quiet 7 .done)) .stop) .stop) .stop)) .stop)))else .done
def qqu:Nat→Nm:=fun i=>if i=4 then quV else ⟨[],[],false⟩
def qqK:Nat→Option Jn:=fun _=>none
def qpB:Nat→Option Nm:=fun i=>if i=0 then some quZ else none
def qn2:Nat→Option Nm:=fun i=>if i=9 then some qzA else none
theorem qWm:qj qmO (Tryz.f279.body.getD .skip)=true:=by kernel_rfl
def qdQ (N:Nat):Tab:={tr:=qmO,lp:=qqu,ex:=qpB,rg:=qn2,jn:=qqK,fuel:=N}
theorem qFI (N:Nat):(qdQ N).pins=false:=rfl
theorem q4j (N:Nat):qn Tryz.prog (qdQ N):=qr fun _=>rfl
theorem qLq (N:Nat) (i:Nat):(qdQ N).tr i=qmO i:=rfl
theorem qHO (N:Nat) (i:Nat):(qdQ N).lp i=qqu i:=rfl
theorem qJL (N:Nat) (i:Nat):(qdQ N).ex i=qpB i:=rfl
theorem qJt (N:Nat) (i:Nat):(qdQ N).rg i=qn2 i:=rfl
theorem qGn (N:Nat) (i:Nat):(qdQ N).jn i=qqK i:=rfl
theorem qFH (N:Nat):(qdQ N).fuel=N:=rfl
noncomputable def qTj:Code:=cut [true,true,false,true,true,true] (Tryz.f279.body.getD .skip)
theorem q97 {N:Nat} {Q:X→St→Option (qb [i4])} {e:List LV} {h:List Blk}:qd tt qhV (qdQ N) qTj Q ⟨e,h⟩=qd tt qhV (qdQ N) (cut [true,true,false,true,true,true] (Tryz.f279.body.getD .skip)) Q ⟨e,h⟩:=rfl
theorem zdE (N:Nat) (v1:List (Val (.int .i64))) (v2:Int) (v4:List (Val (.int .i64))) (v5:Int) (v6:Bool) {k0:Unit→Option (qb [i4])} {Q:X→St→Option (qb [i4])} {c:Code} (hc:c=qTj) (hret: ∀st,Q .ret st=qB tt true [i4] [.tmp 2] st) (h0:Q (.exit 0) ⟨[u,.one (.ptr 0 0 0),u,u,u,u,u,u,u,u,u,u,u,u,u,u,u,u,u,u,u,u,u,u,u,u,u,u,u,u,u,u,u],[.box [.sl 3 (.int .i64) v4 1,.int .i64 v5,.bool v6]]⟩=k0 ()): ∀(n:Nat) (v3:Int),qC (qd tt qhV (qdQ N) c) false quV Q n ⟨[u,.one (.ptr 0 0 0),u,u,u,u,u,u,u,u,u,u,u,u,u,u,.one (.sl 3 (.int .i64) v1 1),.one (.int .i64 v2),.one (.int .i64 v3),u,u,u,u,u,u,u,u,u,u,u,u,u,u],[.box [.sl 3 (.int .i64) v4 1,.int .i64 v5,.bool v6]]⟩=qiG N v1 v2 v4 v5 v6 k0 n v3:=by
 subst hc;intro n;induction n with
 | zero=>intros;rfl
 | succ n ih=>
   intro v3
   rw [qL,q97,qiG];unfold Tryz.f279
   simp (maxSteps:=10000000) -implicitDefEqProofs [qLq,qmO,qHO,qqu,qJL,qpB,qJt,qn2,qGn,qqK,qFH,qFI,qOx,qJo,qPh,qLc,qL7,qJS,qGb,qCu,qPJ,qMV,qMG,qL5,qer,qba,qbn,hret,h0,ih]
theorem q62 (N:Nat) (v0:Val qa):qd tt qhV (qdQ N) (Tryz.f279.body.getD .skip) (qo tt true [i4] [.tmp 2]) (qt [qg] 33 (v0,()))=qwq N v0:=by
 unfold Tryz.f279
 simp (maxSteps:=10000000) -implicitDefEqProofs [qLq,qmO,qHO,qqu,qJL,qpB,qJt,qn2,qGn,qqK,qFH,qFI,qOx,qJo,qPh,qLc,qL7,qJS,qGb,qCu,qPJ,qMV,qMG,qL5,qer,qba,qbn]
 rewrite [zdE (k0:=(fun (_:Unit)=>chk (qfF (v0.1:List (Val (.int .i64)))) (chk (qdb ((qaF (v0.1:List (Val (.int .i64)))):Int) (v0.2.1:Int)) (some ((decide (((qaS ((qaF (v0.1:List (Val (.int .i64)))):Int) (v0.2.1:Int)):Int)≤(1:Int))),()))))) N _ _ _ _ _ ?_ ?_ ?_]
 ·rewrite [qwq];first | rfl | simp (maxSteps:=10000000) -implicitDefEqProofs []
 ·rfl
 ·intro;simp only [qK,qI,qJ,qy]
 ·simp (maxSteps:=10000000) -implicitDefEqProofs [qLq,qmO,qHO,qqu,qJL,qpB,qJt,qn2,qGn,qqK,qFH,qFI,qOx,qJo,qPh,qLc,qL7,qJS,qGb,qCu,qPJ,qMV,qMG,qL5,qer,qba,qbn]
theorem qhd {n:Int} (h:qX n=true):inI n:=by
 unfold qX at h;unfold inI;have:=of_decide_eq_true h;omega
def qa7:G:={ps:=[qg],rs:=[i4],dp:=true,pre:=fun _=>True,fn:=fun x=>(qA x.1,())}
def qaA:G:={ps:=[qg],rs:=[i4],dp:=true,pre:=fun _=>True,fn:=fun x=>(qA x.1,())}
theorem qU8 (N:Nat) (xs:List (Val (.int .i64))) (c:Int) (b:Bool) (K:Unit→Option (qb [i4])) (hl:xs.length≤1048576) (n:Nat) (hn:xs.length<n):qiO N xs c b K n 0=bif List.all (α:=Int) xs qX then K ()else some (false,()):=
 (qaj (F:=fun n i (_:Unit)=>qiO N xs c b K n i) (step:=fun _ x _ K=>bif qX x then K ()else some (false,())) (k:=K) hl (fun n i s hi=>by rw [qiO,ql (by omega),qe (by omega),qH hi,qaO]) (fun n i s hi=>by rw [qiO,qi (by omega)]) n () hn).trans (qhr xs 0)
theorem q7O (N:Nat) (xs ys:List (Val (.int .i64))) (c:Int) (b:Bool) (K:Unit→Option (qb [i4])) (hl:xs.length≤1048576) (n:Nat) (hn:xs.length<n):qiG N xs xs.length ys c b K n 0=bif List.all (α:=Int) xs qX then K ()else some (false,()):=
 (qaj (F:=fun n i (_:Unit)=>qiG N xs xs.length ys c b K n i) (step:=fun _ x _ K=>bif qX x then K ()else some (false,())) (k:=K) hl (fun n i s hi=>by rw [qiG,ql (by omega),qe (by omega),qH hi,qaO]) (fun n i s hi=>by rw [qiG,qi (by omega)]) n () hn).trans (qhr xs 0)
theorem qY0 (a:Val qa): ∃N,qvt N a=some (qA a,()):=⟨(a.1:List (Val (.int .i64))).length+1,by
 obtain ⟨xs,c,b⟩:=a
 change List (Val (.int .i64))at xs
 change Int at c
 change Bool at b
 rw [qvt,qA]
 dsimp only
 by_cases h4:xs.length≤4
 ·rw [qi (by omega)]
  cases hc:qX c with
  | false=>simp
  | true=>
    rw [qU8 _ xs _ _ _ (by omega) _ (Nat.lt_succ_self _)]
    cases ha:List.all (α:=Int) xs qX with
    | false=>simp
    | true=>
      rw [qe (show qgw xs c from ⟨by omega,qhd hc,fun x hx=>qhd (List.all_eq_true.1 ha x hx)⟩)]
      simp [h4,qb4]
      rfl
 ·rw [ql (by omega)]
  simp [h4]⟩
theorem qAN:Sound Tryz.prog 193 qa7:=qu (tt:=tt) (Γ:=qi9) hT (qf qGZ (qf qMZ qq)) hm (fn:=Tryz.f193) Tryz.func193 (c:=Tryz.f193.body.getD .skip) (by kernel_rfl) (by kernel_rfl) fun x hx=>by
 obtain ⟨N,h⟩:=qY0 x.1
 exact ⟨qc4 N,zcf,qv _,qYC N,(qVL N x.1).trans h⟩
theorem qCD: ∀(xs:List Int) (g:Nat),(g:Int)≤9223372036854775807→(∀x∈xs,inI x)→inI (gL g xs:Nat)
 | [],g,h,_=>by unfold inI gL;omega
 | x::xs,g,h,hx=>qCD xs _ (qR0 h (hx x (by simp))).2 fun y hy=>hx y (by simp [hy])
theorem q5j (a:Val qa): ∃N,qwq N a=some (qA a,()):=⟨(a.1:List (Val (.int .i64))).length+1,by
 obtain ⟨xs,c,b⟩:=a
 change List (Val (.int .i64))at xs
 change Int at c
 change Bool at b
 rw [qwq,qA]
 dsimp only
 by_cases h4:xs.length≤4
 ·rw [qi (by omega)]
  cases hc:qX c with
  | false=>simp
  | true=>
    rw [q7O _ xs _ _ _ _ (by omega) _ (Nat.lt_succ_self _)]
    cases ha:List.all (α:=Int) xs qX with
    | false=>simp
    | true=>
      have hx: ∀x∈xs,inI x:=fun x hx=>qhd (List.all_eq_true.1 ha x hx)
      have e:Nat.gcd (gL 0 xs) c.natAbs=gL c.natAbs xs:=by rw [←qAE,Nat.gcd_zero_left]
      rw [qe (show qfF xs from ⟨by omega,hx⟩),qe (show qdb (qaF xs) c from ⟨qCD xs 0 (by omega) hx,qhd hc⟩)]
      simp [h4,qaF,qaS,e]
 ·rw [ql (by omega)]
  simp [h4]⟩
theorem qrQ:Sound Tryz.prog 279 qaA:=qu (tt:=tt) (Γ:=qhV) hT (qf qFZ (qf qyH (qf qAr qq))) hm (fn:=Tryz.f279) Tryz.func279 (c:=Tryz.f279.body.getD .skip) (by kernel_rfl) (by kernel_rfl) fun x hx=>by
 obtain ⟨N,h⟩:=q5j x.1
 exact ⟨qdQ N,qWm,qv _,q4j N,(q62 N x.1).trans h⟩
end Go.T
