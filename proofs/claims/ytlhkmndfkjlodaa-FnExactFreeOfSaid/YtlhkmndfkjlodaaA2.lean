/- Whole numbers; atoms; cells; relations: what the functions compute. -/
import Derived.Test.YtlhkmndfkjlodaaA1
set_option linter.unusedSimpArgs false
set_option linter.unusedVariables false
namespace Go.T
open Go Go.Proofs
set_option maxHeartbeats 1000000
set_option maxRecDepth 100000
def inI (n:Int):Prop:= -9223372036854775807≤n∧n≤9223372036854775807
def qcy (n:Int):Int:=(n.natAbs:Int)
def qeR (n:Int):Prop:=inI n
def qgM (a b:Int):Int:=(Nat.gcd a.natAbs b.natAbs:Nat)
def qf3 (a b:Int):Prop:=inI a∧inI b
def qmJ (xs:List (Val (.int .i64))) (k:Int):Int:=(gL k.natAbs xs:Nat)
def qo2 (xs:List (Val (.int .i64))) (k:Int):Prop:=xs.length≤1048576∧inI k∧ ∀x∈xs,inI x
def qgw (xs:List (Val (.int .i64))):Int:=(gL 0 xs:Nat)
def qoA (xs:List (Val (.int .i64))):Prop:=xs.length≤1048576∧ ∀x∈xs,inI x
def qbX (n:Int):Bool:=decide (-400000000≤n∧n≤400000000)
def inR (x a b:Int):Bool:=decide (a≤x∧x≤b)
def qko:G:={ps:=[i3],rs:=[i3],dp:=true,pre:=fun x=>qeR x.1,fn:=fun x=>(qcy x.1,())}
noncomputable def qsk (N:Nat) (v0:Int):Option (qc [i3]):=bif (decide (v0<(0:Int)))then (some ((IntKind.i64.wrap (0 - v0)),()))else (some (v0,()))
def qHM:Gam:=[]
def qqv:Nat→Tree:=fun _=> .done
def qAM:Nat→Nm:=fun _=>⟨[],[],false⟩
def qBi:Nat→Option Jn:=fun _=>none
def qxM:Nat→Option Nm:=fun _=>none
def qBP:Nat→Option Nm:=fun _=>none
theorem qRA:qn qqv (Try.f134.body.getD .skip)=true:=by kernel_rfl
def qfk (N:Nat):Tab:={tr:=qqv,lp:=qAM,ex:=qxM,rg:=qBP,jn:=qBi,fuel:=N}
theorem qKs (N:Nat):(qfk N).pins=false:=rfl
theorem qQ6 (N:Nat):qp Try.prog (qfk N):=qw fun _=>rfl
theorem qOm (N:Nat) (i:Nat):(qfk N).tr i=qqv i:=rfl
theorem qTY (N:Nat) (i:Nat):(qfk N).lp i=qAM i:=rfl
theorem qP3 (N:Nat) (i:Nat):(qfk N).ex i=qxM i:=rfl
theorem qVH (N:Nat) (i:Nat):(qfk N).rg i=qBP i:=rfl
theorem qSf (N:Nat) (i:Nat):(qfk N).jn i=qBi i:=rfl
theorem qKw (N:Nat):(qfk N).fuel=N:=rfl
theorem qN2 (N:Nat) (v0:Int):qe tt qHM (qfk N) (Try.f134.body.getD .skip) (qr tt true [i3] [.tmp 2]) (qv [i3] 8 (v0,()))=qsk N v0:=by
 rw [qsk];unfold Try.f134
 simp (maxSteps:=10000000) -implicitDefEqProofs [qOm,qqv,qTY,qAM,qP3,qxM,qVH,qBP,qSf,qBi,qKw,qKs]
 try rfl
theorem qUz (n:Int) (h:inI n): ∃N,qsk N n=some (qcy n,()):=⟨0,by
 unfold inI at h
 simp only [qsk,qcy]
 by_cases h0:n<0
 ·have e:IntKind.i64.wrap (0 - n)=(n.natAbs:Int):=by rw [qb4 (by omega) (by omega)];omega
  simp only [h0,decide_true,cond_true,e]
 ·have e:(n.natAbs:Int)=n:=by omega
  simp [h0,e]⟩
theorem qR3:Sound Try.prog 134 qko:=qz (tt:=tt) (Γ:=qHM) hT qt hm (fn:=Try.f134) Try.func134 (c:=Try.f134.body.getD .skip) (by kernel_rfl) (by kernel_rfl) fun x hx=>by
 obtain ⟨N,h⟩:=qUz x.1 hx
 exact ⟨qfk N,qRA,qy _,qQ6 N,(qN2 N x.1).trans h⟩
noncomputable def qjf (N:Nat) (k0:Int→Option (qc [i3])):Nat→Int→Int→Option (qc [i3])
 | 0,_,_=>none
 | n+1,v2,v3=>bif (!(decide (v3=(0:Int))))then (chk (v3≠0) (qjf N k0 n v3 (v2.tmod v3)))else (k0 v2)
noncomputable def m94 (N:Nat) (v0:Int) (v1:Int):Option (qc [i3]):=chk (qeR v0) (chk (qeR v1) (qjf N (fun (v5:Int)=>some (v5,())) N ((qcy v0):Int) ((qcy v1):Int)))
def Γ94:Gam:=[(134,qko)]
theorem qDY:Gam.get Γ94 134=some qko:=rfl
def qov:Nm:=⟨[true,true],[],false⟩
theorem qwl:qov.zero=false:=rfl
theorem qy6:qov.fix=[]:=rfl
theorem qx5:qov.keep=[true,true]:=rfl
def qrv:Nm:=⟨[true],[],false⟩
theorem qux:qrv.zero=false:=rfl
theorem qDN:qrv.fix=[]:=rfl
theorem qEw:qrv.keep=[true]:=rfl
def qj0:Nat→Tree:=fun i=>if i=3 then .quiet 0 (.quiet 1 (.quiet 2 (.quiet 3 (.quiet 4 (.quiet 5 .done)))))else .done
def qk3:Nat→Nm:=fun i=>if i=2 then qov else ⟨[],[],false⟩
def qlU:Nat→Option Jn:=fun _=>none
def qlT:Nat→Option Nm:=fun i=>if i=0 then some qrv else none
def qoq:Nat→Option Nm:=fun _=>none
theorem p94:qn qj0 (Try.f94.body.getD .skip)=true:=by kernel_rfl
def T94 (N:Nat):Tab:={tr:=qj0,lp:=qk3,ex:=qlT,rg:=qoq,jn:=qlU,fuel:=N}
theorem qv8 (N:Nat):(T94 N).pins=false:=rfl
theorem qM3 (N:Nat):qp Try.prog (T94 N):=qw fun _=>rfl
theorem qE1 (N:Nat) (i:Nat):(T94 N).tr i=qj0 i:=rfl
theorem qBJ (N:Nat) (i:Nat):(T94 N).lp i=qk3 i:=rfl
theorem qub (N:Nat) (i:Nat):(T94 N).ex i=qlT i:=rfl
theorem qt7 (N:Nat) (i:Nat):(T94 N).rg i=qoq i:=rfl
theorem qAT (N:Nat) (i:Nat):(T94 N).jn i=qlU i:=rfl
theorem qvt (N:Nat):(T94 N).fuel=N:=rfl
noncomputable def qG4:Code:=cut [true,true,false,true,true] (Try.f94.body.getD .skip)
theorem qON {N:Nat} {Q:X→St→Option (qc [i3])} {e:List LV} {h:List Blk}:qe tt Γ94 (T94 N) qG4 Q ⟨e,h⟩=qe tt Γ94 (T94 N) (cut [true,true,false,true,true] (Try.f94.body.getD .skip)) Q ⟨e,h⟩:=rfl
theorem qKi (N:Nat) {k0:Int→Option (qc [i3])} {Q:X→St→Option (qc [i3])} {c:Code} (hc:c=qG4) (hret: ∀st,Q .ret st=qI tt true [i3] [.tmp 4] st) (h0: ∀(v4:Int),Q (.exit 0) ⟨[.one (.int .i64 v4),u,u,u,u,u,u,u,u,u,u,u,u,u,u,u],[]⟩=k0 v4): ∀(n:Nat) (v2:Int) (v3:Int),qC (qe tt Γ94 (T94 N) c) false qov Q n ⟨[.one (.int .i64 v2),.one (.int .i64 v3),u,u,u,u,u,u,u,u,u,u,u,u,u,u],[]⟩=qjf N k0 n v2 v3:=by
 subst hc;intro n;induction n with
 | zero=>intros;rfl
 | succ n ih=>
   intro v2 v3
   rw [qM,qON,qjf];unfold Try.f94
   simp (maxSteps:=10000000) -implicitDefEqProofs [qE1,qj0,qBJ,qk3,qub,qlT,qt7,qoq,qAT,qlU,qvt,qv8,qy6,qx5,qwl,qDN,qEw,qux,qDY,qko,hret,h0,ih]
theorem qPr (N:Nat) (v0:Int) (v1:Int):qe tt Γ94 (T94 N) (Try.f94.body.getD .skip) (qr tt true [i3] [.tmp 4]) (qv [i3,i3] 16 (v0,v1,()))=m94 N v0 v1:=by
 unfold Try.f94
 simp (maxSteps:=10000000) -implicitDefEqProofs [qE1,qj0,qBJ,qk3,qub,qlT,qt7,qoq,qAT,qlU,qvt,qv8,qy6,qx5,qwl,qDN,qEw,qux,qDY,qko]
 rewrite [qKi (k0:=(fun (v5:Int)=>some (v5,()))) N ?_ ?_ ?_]
 ·rewrite [m94];first | rfl | simp (maxSteps:=10000000) -implicitDefEqProofs []
 ·rfl
 ·intro;simp only [qK,qL,qN,qm]
 ·intro v5;simp (maxSteps:=10000000) -implicitDefEqProofs [qE1,qj0,qBJ,qk3,qub,qlT,qt7,qoq,qAT,qlU,qvt,qv8,qy6,qx5,qwl,qDN,qEw,qux,qDY,qko]
theorem t94 (N:Nat) (k:Int→Option (qc [i3])): ∀(n a b:Nat),b<n→qjf N k n (a:Int) (b:Int)=k (Nat.gcd a b:Nat)
 | 0,_,_,h=>by omega
 | n+1,a,b,h=>by
   rw [qjf]
   by_cases hb:b=0
   ·subst hb;simp
   ·have hb': ¬((b:Int)=0):=by omega
    have hlt:a % b<b:=Nat.mod_lt _ (by omega)
    have hm:((a:Int).tmod (b:Int))=((a % b:Nat):Int):=by rw [Int.tmod_eq_emod_of_nonneg (by omega)];rfl
    simp only [hb',decide_false,Bool.not_false,cond_true,ne_eq,not_false_eq_true,qGf]
    rw [hm,t94 N k n b (a % b) (by omega)]
    congr 2
    rw [Nat.gcd_comm b,←Nat.gcd_rec,Nat.gcd_comm]
def g94:G:={ps:=[i3,i3],rs:=[i3],dp:=true,pre:=fun x=>qf3 x.1 x.2.1,fn:=fun x=>(qgM x.1 x.2.1,())}
theorem e94 (a b:Int) (h:qf3 a b): ∃N,m94 N a b=some (qgM a b,()):=⟨b.natAbs+1,by
 rw [m94,qd (show qeR a from h.1),qd (show qeR b from h.2)]
 simp only [qcy]
 rw [t94 _ _ _ _ _ (Nat.lt_succ_self _)]
 rfl⟩
theorem s94:Sound Try.prog 94 g94:=qz (tt:=tt) (Γ:=Γ94) hT (ql qR3 qt) hm (fn:=Try.f94) Try.func94 (c:=Try.f94.body.getD .skip) (by kernel_rfl) (by kernel_rfl) fun x hx=>by
 obtain ⟨N,h⟩:=e94 x.1 x.2.1 hx
 exact ⟨T94 N,p94,qy _,qM3 N,(qPr N x.1 x.2.1).trans h⟩
theorem qGy {g:Nat} {x:Int} (hg:(g:Int)≤9223372036854775807) (hx:inI x):qf3 (g:Int) x∧((Nat.gcd g x.natAbs:Nat):Int)≤9223372036854775807:=by
 refine ⟨⟨⟨by omega,hg⟩,hx⟩,?_⟩
 unfold inI at hx
 by_cases h0:x.natAbs=0
 ·rw [h0];simpa using hg
 ·have:=Nat.gcd_le_right (m:=g) (n:=x.natAbs) (by omega)
  omega
theorem qHl {ρ:Type}: ∀(xs:List Int) (i g:Nat) (k:Int→Option ρ),(g:Int)≤9223372036854775807→(∀x∈xs,inI x)→qaK (fun _ x s K=>chk (qf3 s x) (K (qgM s x))) i xs (g:Int) k=k (gL g xs:Nat)
 | [],_,_,_,_,_=>rfl
 | x::xs,i,g,k,hg,hx=>by
   obtain ⟨h1,h2⟩:=qGy hg (hx x (by simp))
   rw [qaK,qd h1]
   exact qHl xs (i+1) _ k h2 fun y hy=>hx y (by simp [hy])
noncomputable def qib (N:Nat) (v2:List (Val (.int .i64))) (v3:Int) (k0:Int→Option (qc [i3])):Nat→Int→Int→Option (qc [i3])
 | 0,_,_=>none
 | n+1,v1,v4=>bif (decide (v4<v3))then (chk (0≤v4∧v4<(v2.length:Int)) (chk (qf3 v1 ((v2.getD v4.toNat (qa (.int .i64))):Int)) (qib N v2 v3 k0 n ((qgM v1 ((v2.getD v4.toNat (qa (.int .i64))):Int)):Int) (IntKind.i64.wrap (v4+(1:Int))))))else (k0 v1)
noncomputable def m95 (N:Nat) (v0:List (Val (.int .i64))):Option (qc [i3]):=qib N v0 (v0.length:Int) (fun (v6:Int)=>some (v6,())) N (0:Int) (0:Int)
def Γ95:Gam:=[(94,g94)]
theorem qAR:Gam.get Γ95 94=some g94:=rfl
def qmm:Nm:=⟨[false,false,false,true,false,false,true,true,true],[],false⟩
theorem qvK:qmm.zero=false:=rfl
theorem qEJ:qmm.fix=[]:=rfl
theorem qFv:qmm.keep=[false,false,false,true,false,false,true,true,true]:=rfl
def qpo:Nm:=⟨[false,false,false,true],[],false⟩
theorem qFg:qpo.zero=false:=rfl
theorem qBh:qpo.fix=[]:=rfl
theorem qCo:qpo.keep=[false,false,false,true]:=rfl
def qkw:Nat→Tree:=fun _=> .done
def qof:Nat→Nm:=fun i=>if i=3 then qmm else ⟨[],[],false⟩
def qoQ:Nat→Option Jn:=fun _=>none
def qlx:Nat→Option Nm:=fun i=>if i=0 then some qpo else none
def qlB:Nat→Option Nm:=fun _=>none
theorem p95:qn qkw (Try.f95.body.getD .skip)=true:=by kernel_rfl
def T95 (N:Nat):Tab:={tr:=qkw,lp:=qof,ex:=qlx,rg:=qlB,jn:=qoQ,fuel:=N}
theorem qyb (N:Nat):(T95 N).pins=false:=rfl
theorem qQA (N:Nat):qp Try.prog (T95 N):=qw fun _=>rfl
theorem qEK (N:Nat) (i:Nat):(T95 N).tr i=qkw i:=rfl
theorem qFq (N:Nat) (i:Nat):(T95 N).lp i=qof i:=rfl
theorem qzE (N:Nat) (i:Nat):(T95 N).ex i=qlx i:=rfl
theorem qzG (N:Nat) (i:Nat):(T95 N).rg i=qlB i:=rfl
theorem qFG (N:Nat) (i:Nat):(T95 N).jn i=qoQ i:=rfl
theorem qyR (N:Nat):(T95 N).fuel=N:=rfl
noncomputable def qHj:Code:=cut [true,true,false,true,true,true] (Try.f95.body.getD .skip)
theorem qPg {N:Nat} {Q:X→St→Option (qc [i3])} {e:List LV} {h:List Blk}:qe tt Γ95 (T95 N) qHj Q ⟨e,h⟩=qe tt Γ95 (T95 N) (cut [true,true,false,true,true,true] (Try.f95.body.getD .skip)) Q ⟨e,h⟩:=rfl
theorem qN7 (N:Nat) (v2:List (Val (.int .i64))) (v3:Int) {k0:Int→Option (qc [i3])} {Q:X→St→Option (qc [i3])} {c:Code} (hc:c=qHj) (hret: ∀st,Q .ret st=qI tt true [i3] [.tmp 2] st) (h0: ∀(v5:Int),Q (.exit 0) ⟨[u,u,u,.one (.int .i64 v5),u,u,u,u,u,u,u,u,u,u,u,u,u],[]⟩=k0 v5): ∀(n:Nat) (v1:Int) (v4:Int),qC (qe tt Γ95 (T95 N) c) false qmm Q n ⟨[u,u,u,.one (.int .i64 v1),u,u,.one (.sl 3 (.int .i64) v2 0),.one (.int .i64 v3),.one (.int .i64 v4),u,u,u,u,u,u,u,u],[]⟩=qib N v2 v3 k0 n v1 v4:=by
 subst hc;intro n;induction n with
 | zero=>intros;rfl
 | succ n ih=>
   intro v1 v4
   rw [qM,qPg,qib];unfold Try.f95
   simp (maxSteps:=10000000) -implicitDefEqProofs [qEK,qkw,qFq,qof,qzE,qlx,qzG,qlB,qFG,qoQ,qyR,qyb,qEJ,qFv,qvK,qBh,qCo,qFg,qAR,g94,hret,h0,ih]
theorem qRf (N:Nat) (v0:List (Val (.int .i64))):qe tt Γ95 (T95 N) (Try.f95.body.getD .skip) (qr tt true [i3] [.tmp 2]) (qv [i27] 17 (v0,()))=m95 N v0:=by
 unfold Try.f95
 simp (maxSteps:=10000000) -implicitDefEqProofs [qEK,qkw,qFq,qof,qzE,qlx,qzG,qlB,qFG,qoQ,qyR,qyb,qEJ,qFv,qvK,qBh,qCo,qFg,qAR,g94]
 rewrite [qN7 (k0:=(fun (v6:Int)=>some (v6,()))) N _ _ ?_ ?_ ?_]
 ·rewrite [m95];first | rfl | simp (maxSteps:=10000000) -implicitDefEqProofs []
 ·rfl
 ·intro;simp only [qK,qL,qN,qm]
 ·intro v6;simp (maxSteps:=10000000) -implicitDefEqProofs [qEK,qkw,qFq,qof,qzE,qlx,qzG,qlB,qFG,qoQ,qyR,qyb,qEJ,qFv,qvK,qBh,qCo,qFg,qAR,g94]
def g95:G:={ps:=[i27],rs:=[i3],dp:=true,pre:=fun x=>qoA x.1,fn:=fun x=>(qgw x.1,())}
theorem e95 (xs:List (Val (.int .i64))) (h:qoA xs): ∃N,m95 N xs=some (qgw xs,()):=⟨xs.length+1,by
 rw [m95]
 rw [qam (F:=fun n i s=>qib _ xs xs.length _ n s i) (step:=fun _ x s K=>chk (qf3 s x) (K (qgM s x))) (k:=fun s=>some (s,())) h.1 ?_ ?_ _ _ (Nat.lt_succ_self _)]
 ·exact qHl xs 0 0 _ (by omega) h.2
 ·intro n i s hi
  rw [qib,qj (by omega),qd (by omega),qA hi]
 ·intro n i s hi
  rw [qib,qh (by omega)]⟩
theorem s95:Sound Try.prog 95 g95:=qz (tt:=tt) (Γ:=Γ95) hT (ql s94 qt) hm (fn:=Try.f95) Try.func95 (c:=Try.f95.body.getD .skip) (by kernel_rfl) (by kernel_rfl) fun x hx=>by
 obtain ⟨N,h⟩:=e95 x.1 hx
 exact ⟨T95 N,p95,qy _,qQA N,(qRf N x.1).trans h⟩
def qgI:G:={ps:=[i3],rs:=[i3],dp:=true,pre:=fun x=>qeR x.1,fn:=fun x=>(qcy x.1,())}
noncomputable def qqK (N:Nat) (v0:Int):Option (qc [i3]):=some ((max v0 (IntKind.i64.wrap (0 - v0))),())
def qGF:Gam:=[]
def qrl:Nat→Tree:=fun _=> .done
def qxI:Nat→Nm:=fun _=>⟨[],[],false⟩
def qDm:Nat→Option Jn:=fun _=>none
def qD0:Nat→Option Nm:=fun _=>none
def qCx:Nat→Option Nm:=fun _=>none
theorem qMJ:qn qrl (Try.f135.body.getD .skip)=true:=by kernel_rfl
def qfB (N:Nat):Tab:={tr:=qrl,lp:=qxI,ex:=qD0,rg:=qCx,jn:=qDm,fuel:=N}
theorem qOd (N:Nat):(qfB N).pins=false:=rfl
theorem qMW (N:Nat):qp Try.prog (qfB N):=qw fun _=>rfl
theorem qRl (N:Nat) (i:Nat):(qfB N).tr i=qrl i:=rfl
theorem qMd (N:Nat) (i:Nat):(qfB N).lp i=qxI i:=rfl
theorem qRx (N:Nat) (i:Nat):(qfB N).ex i=qD0 i:=rfl
theorem qPT (N:Nat) (i:Nat):(qfB N).rg i=qCx i:=rfl
theorem qQJ (N:Nat) (i:Nat):(qfB N).jn i=qDm i:=rfl
theorem qOY (N:Nat):(qfB N).fuel=N:=rfl
theorem qQN (N:Nat) (v0:Int):qe tt qGF (qfB N) (Try.f135.body.getD .skip) (qr tt true [i3] [.tmp 2]) (qv [i3] 7 (v0,()))=qqK N v0:=by
 rw [qqK];unfold Try.f135
 simp (maxSteps:=10000000) -implicitDefEqProofs [qRl,qrl,qMd,qxI,qRx,qD0,qPT,qCx,qQJ,qDm,qOY,qOd]
 try rfl
theorem qLA (n:Int) (h:inI n): ∃N,qqK N n=some (qcy n,()):=⟨0,by
 unfold inI at h
 rw [qqK,qb4 (by omega) (by omega)]
 have e:max n (0 - n)=qcy n:=by unfold qcy;omega
 rw [e]⟩
theorem qSX:Sound Try.prog 135 qgI:=qz (tt:=tt) (Γ:=qGF) hT qt hm (fn:=Try.f135) Try.func135 (c:=Try.f135.body.getD .skip) (by kernel_rfl) (by kernel_rfl) fun x hx=>by
 obtain ⟨N,h⟩:=qLA x.1 hx
 exact ⟨qfB N,qMJ,qy _,qMW N,(qQN N x.1).trans h⟩
noncomputable def m47 (N:Nat) (v0:Int) (v1:Int) (v2:Int):Option (qc [i4]):=bif (decide (v1≤v0))then (some ((decide (v0≤v2)),()))else (some (false,()))
def Γ47:Gam:=[]
def qpQ:Nat→Tree:=fun _=> .done
def qBQ:Nat→Nm:=fun _=>⟨[],[],false⟩
def qCO:Nat→Option Jn:=fun _=>none
def qtw:Nat→Option Nm:=fun _=>none
def qCq:Nat→Option Nm:=fun _=>none
theorem p47:qn qpQ (Try.f47.body.getD .skip)=true:=by kernel_rfl
def T47 (N:Nat):Tab:={tr:=qpQ,lp:=qBQ,ex:=qtw,rg:=qCq,jn:=qCO,fuel:=N}
theorem qRj (N:Nat):(T47 N).pins=false:=rfl
theorem qRH (N:Nat):qp Try.prog (T47 N):=qw fun _=>rfl
theorem qRu (N:Nat) (i:Nat):(T47 N).tr i=qpQ i:=rfl
theorem qLx (N:Nat) (i:Nat):(T47 N).lp i=qBQ i:=rfl
theorem qJA (N:Nat) (i:Nat):(T47 N).ex i=qtw i:=rfl
theorem qNJ (N:Nat) (i:Nat):(T47 N).rg i=qCq i:=rfl
theorem qSL (N:Nat) (i:Nat):(T47 N).jn i=qCO i:=rfl
theorem qMj (N:Nat):(T47 N).fuel=N:=rfl
theorem qPo (N:Nat) (v0:Int) (v1:Int) (v2:Int):qe tt Γ47 (T47 N) (Try.f47.body.getD .skip) (qr tt true [i4] [.tmp 6]) (qv [i3,i3,i3] 15 (v0,v1,v2,()))=m47 N v0 v1 v2:=by
 rw [m47];unfold Try.f47
 simp (maxSteps:=10000000) -implicitDefEqProofs [qRu,qpQ,qLx,qBQ,qJA,qtw,qNJ,qCq,qSL,qCO,qMj,qRj]
 try rfl
def g47:G:={ps:=[i3,i3,i3],rs:=[i4],dp:=true,pre:=fun _=>True,fn:=fun x=>(inR x.1 x.2.1 x.2.2.1,())}
theorem e47 (x a b:Int): ∃N,m47 N x a b=some (inR x a b,()):=⟨0,by
 simp only [m47,inR]
 by_cases h1:a≤x<;>by_cases h2:x≤b<;>simp [h1,h2]⟩
theorem s47:Sound Try.prog 47 g47:=qz (tt:=tt) (Γ:=Γ47) hT qt hm (fn:=Try.f47) Try.func47 (c:=Try.f47.body.getD .skip) (by kernel_rfl) (by kernel_rfl) fun x hx=>by
 obtain ⟨N,h⟩:=e47 x.1 x.2.1 x.2.2.1
 exact ⟨T47 N,p47,qy _,qRH N,(qPo N x.1 x.2.1 x.2.2.1).trans h⟩
noncomputable def m98 (N:Nat) (v0:Int):Option (qc [i4]):=some (((inR v0 (-400000000:Int) (400000000:Int)):Bool),())
def Γ98:Gam:=[(47,g47)]
theorem qVT:Gam.get Γ98 47=some g47:=rfl
def qpm:Nat→Tree:=fun _=> .done
def qts:Nat→Nm:=fun _=>⟨[],[],false⟩
def qw9:Nat→Option Jn:=fun _=>none
def qxh:Nat→Option Nm:=fun _=>none
def qxo:Nat→Option Nm:=fun _=>none
theorem p98:qn qpm (Try.f98.body.getD .skip)=true:=by kernel_rfl
def T98 (N:Nat):Tab:={tr:=qpm,lp:=qts,ex:=qxh,rg:=qxo,jn:=qw9,fuel:=N}
theorem qRF (N:Nat):(T98 N).pins=false:=rfl
theorem qPZ (N:Nat):qp Try.prog (T98 N):=qw fun _=>rfl
theorem qML (N:Nat) (i:Nat):(T98 N).tr i=qpm i:=rfl
theorem qKe (N:Nat) (i:Nat):(T98 N).lp i=qts i:=rfl
theorem qSa (N:Nat) (i:Nat):(T98 N).ex i=qxh i:=rfl
theorem qPC (N:Nat) (i:Nat):(T98 N).rg i=qxo i:=rfl
theorem qOt (N:Nat) (i:Nat):(T98 N).jn i=qw9 i:=rfl
theorem qO9 (N:Nat):(T98 N).fuel=N:=rfl
theorem qVb (N:Nat) (v0:Int):qe tt Γ98 (T98 N) (Try.f98.body.getD .skip) (qr tt true [i4] [.tmp 2]) (qv [i3] 5 (v0,()))=m98 N v0:=by
 rw [m98];unfold Try.f98
 simp (maxSteps:=10000000) -implicitDefEqProofs [qML,qpm,qKe,qts,qSa,qxh,qPC,qxo,qOt,qw9,qO9,qRF,qVT,g47]
 try rfl
noncomputable def qpY (N:Nat) (v0:Int):Option (qc [i4]):=bif (decide ((-400000000:Int)≤v0))then (some ((decide (v0≤(400000000:Int))),()))else (some (false,()))
def qI3:Gam:=[]
def qqa:Nat→Tree:=fun _=> .done
def qBT:Nat→Nm:=fun _=>⟨[],[],false⟩
def qu7:Nat→Option Jn:=fun _=>none
def qBe:Nat→Option Nm:=fun _=>none
def quH:Nat→Option Nm:=fun _=>none
theorem qQu:qn qqa (Try.f109.body.getD .skip)=true:=by kernel_rfl
def qfv (N:Nat):Tab:={tr:=qqa,lp:=qBT,ex:=qBe,rg:=quH,jn:=qu7,fuel:=N}
theorem qVB (N:Nat):(qfv N).pins=false:=rfl
theorem qJT (N:Nat):qp Try.prog (qfv N):=qw fun _=>rfl
theorem qQk (N:Nat) (i:Nat):(qfv N).tr i=qqa i:=rfl
theorem qQG (N:Nat) (i:Nat):(qfv N).lp i=qBT i:=rfl
theorem qQn (N:Nat) (i:Nat):(qfv N).ex i=qBe i:=rfl
theorem qPf (N:Nat) (i:Nat):(qfv N).rg i=quH i:=rfl
theorem qQj (N:Nat) (i:Nat):(qfv N).jn i=qu7 i:=rfl
theorem qKh (N:Nat):(qfv N).fuel=N:=rfl
theorem qSy (N:Nat) (v0:Int):qe tt qI3 (qfv N) (Try.f109.body.getD .skip) (qr tt true [i4] [.tmp 2]) (qv [i3] 9 (v0,()))=qpY N v0:=by
 rw [qpY];unfold Try.f109
 simp (maxSteps:=10000000) -implicitDefEqProofs [qQk,qqa,qQG,qBT,qQn,qBe,qPf,quH,qQj,qu7,qKh,qVB]
 try rfl
def g98:G:={ps:=[i3],rs:=[i4],dp:=true,pre:=fun _=>True,fn:=fun x=>(qbX x.1,())}
def qkq:G:={ps:=[i3],rs:=[i4],dp:=true,pre:=fun _=>True,fn:=fun x=>(qbX x.1,())}
theorem e98 (x:Int): ∃N,m98 N x=some (qbX x,()):=⟨0,by
 simp only [m98,inR,qbX]⟩
theorem s98:Sound Try.prog 98 g98:=qz (tt:=tt) (Γ:=Γ98) hT (ql s47 qt) hm (fn:=Try.f98) Try.func98 (c:=Try.f98.body.getD .skip) (by kernel_rfl) (by kernel_rfl) fun x hx=>by
 obtain ⟨N,h⟩:=e98 x.1
 exact ⟨T98 N,p98,qy _,qPZ N,(qVb N x.1).trans h⟩
theorem qO5 (x:Int): ∃N,qpY N x=some (qbX x,()):=⟨0,by
 simp only [qpY,qbX]
 by_cases h1: -400000000≤x<;>by_cases h2:x≤400000000<;>simp [h1,h2]⟩
theorem qM7:Sound Try.prog 109 qkq:=qz (tt:=tt) (Γ:=qI3) hT qt hm (fn:=Try.f109) Try.func109 (c:=Try.f109.body.getD .skip) (by kernel_rfl) (by kernel_rfl) fun x hx=>by
 obtain ⟨N,h⟩:=qO5 x.1
 exact ⟨qfv N,qQu,qy _,qJT N,(qSy N x.1).trans h⟩
noncomputable def qeK (N:Nat) (v11:List (Val (.int .i64))) (v13:Int) (k2:Int→Option (qc [i3])):Nat→Int→Int→Option (qc [i3])
 | 0,_,_=>none
 | n+1,v12,v14=>bif (!(decide (v14=(0:Int))))then (chk (v14≠0) (qeK N v11 v13 k2 n v14 (v12.tmod v14)))else (k2 v12)
noncomputable def qgP (N:Nat) (v2:List (Val (.int .i64))) (k0:Int→Option (qc [i3])):Nat→Int→Int→Option (qc [i3])
 | 0,_,_=>none
 | n+1,v3,v4=>bif (decide (v4<(v2.length:Int)))then (chk (0≤v4∧v4<(v2.length:Int)) (chk (qeR ((v2.getD v4.toNat (qa (.int .i64))):Int)) (qeK N v2 v4 (fun (v16:Int)=>qgP N v2 k0 n v16 (IntKind.i64.wrap (v4+(1:Int)))) N v3 ((qcy ((v2.getD v4.toNat (qa (.int .i64))):Int)):Int))))else (k0 v3)
noncomputable def m97 (N:Nat) (v0:List (Val (.int .i64))) (v1:Int):Option (qc [i3]):=chk (qeR v1) (qgP N v0 (fun (v18:Int)=>some (v18,())) N ((qcy v1):Int) (0:Int))
def Γ97:Gam:=[(135,qgI)]
theorem qo1:Gam.get Γ97 135=some qgI:=rfl
def qnR:Nm:=⟨[true,false,false,false,false,true,true,true],[],false⟩
theorem qnJ:qnR.zero=false:=rfl
theorem qlC:qnR.fix=[]:=rfl
theorem qkB:qnR.keep=[true,false,false,false,false,true,true,true]:=rfl
def qok:Nm:=⟨[true,false,false,false,false,true,true],[],false⟩
theorem qkN:qok.zero=false:=rfl
theorem qmU:qok.fix=[]:=rfl
theorem qnd:qok.keep=[true,false,false,false,false,true,true]:=rfl
def qrJ:Nm:=⟨[false,false,false,false,false,true],[],false⟩
theorem qny:qrJ.zero=false:=rfl
theorem qoJ:qrJ.fix=[]:=rfl
theorem qni:qrJ.keep=[false,false,false,false,false,true]:=rfl
def qpp:Nm:=⟨[true,false,false,false,false,true,true],[],false⟩
theorem qnL:qpp.zero=false:=rfl
theorem qnp:qpp.fix=[]:=rfl
theorem qnQ:qpp.keep=[true,false,false,false,false,true,true]:=rfl
def qgu:Nat→Tree:=fun i=>if i=7 then .quiet 0 (.quiet 1 (.quiet 2 (.quiet 3 (.quiet 4 (.quiet 5 .done)))))else .done
def qiL:Nat→Nm:=fun i=>if i=6 then qnR else if i=3 then qok else ⟨[],[],false⟩
def qhm:Nat→Option Jn:=fun _=>none
def qhH:Nat→Option Nm:=fun i=>if i=0 then some qrJ else if i=2 then some qpp else none
def qhj:Nat→Option Nm:=fun _=>none
theorem p97:qn qgu (Try.f97.body.getD .skip)=true:=by kernel_rfl
def T97 (N:Nat):Tab:={tr:=qgu,lp:=qiL,ex:=qhH,rg:=qhj,jn:=qhm,fuel:=N}
theorem qla (N:Nat):(T97 N).pins=false:=rfl
theorem qOI (N:Nat):qp Try.prog (T97 N):=qw fun _=>rfl
theorem qod (N:Nat) (i:Nat):(T97 N).tr i=qgu i:=rfl
theorem qnD (N:Nat) (i:Nat):(T97 N).lp i=qiL i:=rfl
theorem qoz (N:Nat) (i:Nat):(T97 N).ex i=qhH i:=rfl
theorem qmI (N:Nat) (i:Nat):(T97 N).rg i=qhj i:=rfl
theorem qme (N:Nat) (i:Nat):(T97 N).jn i=qhm i:=rfl
theorem qlG (N:Nat):(T97 N).fuel=N:=rfl
noncomputable def qHW:Code:=cut [true,true,false,true,true,true,true,false,true,true,true,true] (Try.f97.body.getD .skip)
theorem qLR {N:Nat} {Q:X→St→Option (qc [i3])} {e:List LV} {h:List Blk}:qe tt Γ97 (T97 N) qHW Q ⟨e,h⟩=qe tt Γ97 (T97 N) (cut [true,true,false,true,true,true,true,false,true,true,true,true] (Try.f97.body.getD .skip)) Q ⟨e,h⟩:=rfl
theorem qME (N:Nat) (v11:List (Val (.int .i64))) (v13:Int) {k2:Int→Option (qc [i3])} {Q:X→St→Option (qc [i3])} {c:Code} (hc:c=qHW) (hret: ∀st,Q .ret st=qI tt true [i3] [.tmp 4] st) (h2: ∀(v15:Int),Q (.exit 2) ⟨[.one (.sl 3 (.int .i64) v11 0),u,u,u,u,.one (.int .i64 v15),.one (.int .i64 v13),u,u,u,u,u,u,u,u,u,u,u,u,u,u,u,u,u,u,u,u,u],[]⟩=k2 v15): ∀(n:Nat) (v12:Int) (v14:Int),qC (qe tt Γ97 (T97 N) c) false qnR Q n ⟨[.one (.sl 3 (.int .i64) v11 0),u,u,u,u,.one (.int .i64 v12),.one (.int .i64 v13),.one (.int .i64 v14),u,u,u,u,u,u,u,u,u,u,u,u,u,u,u,u,u,u,u,u],[]⟩=qeK N v11 v13 k2 n v12 v14:=by
 subst hc;intro n;induction n with
 | zero=>intros;rfl
 | succ n ih=>
   intro v12 v14
   rw [qM,qLR,qeK];unfold Try.f97
   simp (maxSteps:=10000000) -implicitDefEqProofs [qod,qgu,qnD,qiL,qoz,qhH,qmI,qhj,qme,qhm,qlG,qla,qlC,qkB,qnJ,qmU,qnd,qkN,qoJ,qni,qny,qnp,qnQ,qnL,qo1,qgI,hret,h2,ih]
noncomputable def qJa:Code:=cut [true,true,false,true,true,true] (Try.f97.body.getD .skip)
theorem qUr {N:Nat} {Q:X→St→Option (qc [i3])} {e:List LV} {h:List Blk}:qe tt Γ97 (T97 N) qJa Q ⟨e,h⟩=qe tt Γ97 (T97 N) (cut [true,true,false,true,true,true] (Try.f97.body.getD .skip)) Q ⟨e,h⟩:=rfl
theorem qJN (N:Nat) (v2:List (Val (.int .i64))) {k0:Int→Option (qc [i3])} {Q:X→St→Option (qc [i3])} {c:Code} (hc:c=qJa) (hret: ∀st,Q .ret st=qI tt true [i3] [.tmp 4] st) (h0: ∀(v17:Int),Q (.exit 0) ⟨[u,u,u,u,u,.one (.int .i64 v17),u,u,u,u,u,u,u,u,u,u,u,u,u,u,u,u,u,u,u,u,u,u],[]⟩=k0 v17): ∀(n:Nat) (v3:Int) (v4:Int),qC (qe tt Γ97 (T97 N) c) false qok Q n ⟨[.one (.sl 3 (.int .i64) v2 0),u,u,u,u,.one (.int .i64 v3),.one (.int .i64 v4),u,u,u,u,u,u,u,u,u,u,u,u,u,u,u,u,u,u,u,u,u],[]⟩=qgP N v2 k0 n v3 v4:=by
 subst hc;intro n;induction n with
 | zero=>intros;rfl
 | succ n ih=>
   intro v3 v4
   rw [qM,qUr];unfold Try.f97
   simp (maxSteps:=10000000) -implicitDefEqProofs [qod,qgu,qnD,qiL,qoz,qhH,qmI,qhj,qme,qhm,qlG,qla,qlC,qkB,qnJ,qmU,qnd,qkN,qoJ,qni,qny,qnp,qnQ,qnL,qo1,qgI,hret,h0,ih]
   rewrite [qME (k2:=(fun (v16:Int)=>qgP N v2 k0 n v16 (IntKind.i64.wrap (v4+(1:Int))))) N _ _ ?_ ?_ ?_]
   ·rewrite [qgP];first | rfl | simp (maxSteps:=10000000) -implicitDefEqProofs [ih]
   ·rfl
   ·intro;simp only [qK,qL,qN,qm,hret]
   ·intro v16;simp (maxSteps:=10000000) -implicitDefEqProofs [qod,qgu,qnD,qiL,qoz,qhH,qmI,qhj,qme,qhm,qlG,qla,qlC,qkB,qnJ,qmU,qnd,qkN,qoJ,qni,qny,qnp,qnQ,qnL,qo1,qgI,hret,h0,ih]
theorem qMa (N:Nat) (v0:List (Val (.int .i64))) (v1:Int):qe tt Γ97 (T97 N) (Try.f97.body.getD .skip) (qr tt true [i3] [.tmp 4]) (qv [i27,i3] 28 (v0,v1,()))=m97 N v0 v1:=by
 unfold Try.f97
 simp (maxSteps:=10000000) -implicitDefEqProofs [qod,qgu,qnD,qiL,qoz,qhH,qmI,qhj,qme,qhm,qlG,qla,qlC,qkB,qnJ,qmU,qnd,qkN,qoJ,qni,qny,qnp,qnQ,qnL,qo1,qgI]
 rewrite [qJN (k0:=(fun (v18:Int)=>some (v18,()))) N _ ?_ ?_ ?_]
 ·rewrite [m97];first | rfl | simp (maxSteps:=10000000) -implicitDefEqProofs []
 ·rfl
 ·intro;simp only [qK,qL,qN,qm]
 ·intro v18;simp (maxSteps:=10000000) -implicitDefEqProofs [qod,qgu,qnD,qiL,qoz,qhH,qmI,qhj,qme,qhm,qlG,qla,qlC,qkB,qnJ,qmU,qnd,qkN,qoJ,qni,qny,qnp,qnQ,qnL,qo1,qgI]
theorem qJt (N:Nat) (xs:List (Val (.int .i64))) (v:Int) (k:Int→Option (qc [i3])): ∀(n b a:Nat),b<n→qeK N xs v k n (a:Int) (b:Int)=k (Nat.gcd a b:Nat)
 | 0,_,_,h=>by omega
 | n+1,b,a,h=>by
   rw [qeK]
   by_cases hb:b=0
   ·subst hb;simp
   ·have hb': ¬((b:Int)=0):=by omega
    have hlt:a % b<b:=Nat.mod_lt _ (by omega)
    have hm:((a:Int).tmod (b:Int))=((a % b:Nat):Int):=by rw [Int.tmod_eq_emod_of_nonneg (by omega)];rfl
    simp only [hb',decide_false,Bool.not_false,cond_true,ne_eq,not_false_eq_true,qGf]
    rw [hm,qJt N xs v k n (a % b) b (by omega)]
    congr 2
    rw [Nat.gcd_comm b,←Nat.gcd_rec,Nat.gcd_comm]
theorem qIs (N:Nat) (xs:List (Val (.int .i64))) (v v':Int) (k:Int→Option (qc [i3])): ∀(n:Nat) (a b:Int),qeK N xs v k n a b=qeK N xs v' k n a b
 | 0,_,_=>rfl
 | n+1,a,b=>by rw [qeK,qeK,qIs N xs v v' k n]
theorem t97 (N:Nat) (hN:9223372036854775807<N) (ys:List (Val (.int .i64))): ∀(xs:List Int) (i g:Nat) (k:Int→Option (qc [i3])),(∀x∈xs,inI x)→qaK (fun _ x s K=>chk (qeR x) (qeK N ys 0 K N s (qcy x))) i xs (g:Int) k=k (gL g xs:Nat)
 | [],_,_,_,_=>rfl
 | x::xs,i,g,k,hx=>by
   have h1:=hx x (by simp)
   rw [qaK,qd (show qeR x from h1)]
   simp only [qcy]
   rw [qJt _ _ _ _ _ _ _ (by unfold inI at h1;omega)]
   exact t97 N hN ys xs (i+1) _ k fun y hy=>hx y (by simp [hy])
def g97:G:={ps:=[i27,i3],rs:=[i3],dp:=true,pre:=fun x=>qo2 x.1 x.2.1,fn:=fun x=>(qmJ x.1 x.2.1,())}
theorem e97 (xs:List (Val (.int .i64))) (k:Int) (h:qo2 xs k): ∃N,m97 N xs k=some (qmJ xs k,()):=⟨9223372036854775808+xs.length,by
 rw [m97,qd (show qeR k from h.2.1)]
 rw [qam (F:=fun n i s=>qgP _ xs _ n s i) (step:=fun _ x s K=>chk (qeR x) (qeK (9223372036854775808+xs.length) xs 0 K (9223372036854775808+xs.length) s (qcy x))) (k:=fun s=>some (s,())) h.1 ?_ ?_ _ _ (by omega)]
 ·exact t97 _ (by omega) xs xs 0 k.natAbs _ h.2.2
 ·intro n i s hi
  rw [qgP,qj (by omega),qd (by omega),qA hi]
  congr 1
  exact qIs ..
 ·intro n i s hi
  rw [qgP,qh (by omega)]⟩
theorem s97:Sound Try.prog 97 g97:=qz (tt:=tt) (Γ:=Γ97) hT (ql qSX qt) hm (fn:=Try.f97) Try.func97 (c:=Try.f97.body.getD .skip) (by kernel_rfl) (by kernel_rfl) fun x hx=>by
 obtain ⟨N,h⟩:=e97 x.1 x.2.1 hx
 exact ⟨T97 N,p97,qy _,qOI N,(qMa N x.1 x.2.1).trans h⟩
def qaF (a:Val Y83):Bool:=decide ((a.1:List Int).length≤4)&&qbX a.2.1&&(a.1:List Int).all qbX&&decide (((gL (Int.natAbs a.2.1) a.1:Nat):Int)≤1)
noncomputable def qg4 (N:Nat) (v2:List (Val (.int .i64))) (v3:Int) (v4:Bool) (k0:Unit→Option (qc [i4])):Nat→Int→Option (qc [i4])
 | 0,_=>none
 | n+1,v1=>bif (decide (v1<(v2.length:Int)))then (chk (0≤v1∧v1<(v2.length:Int)) (bif (!((qbX ((v2.getD v1.toNat (qa (.int .i64))):Int)):Bool))then (some (false,()))else (qg4 N v2 v3 v4 k0 n (IntKind.i64.wrap (v1+(1:Int))))))else (k0 ())
noncomputable def m96 (N:Nat) (v0:Val Y83):Option (qc [i4]):=bif (decide ((4:Int)<((v0.1:List (Val (.int .i64))).length:Int)))then (some (false,()))else (bif (!((qbX (v0.2.1:Int)):Bool))then (some (false,()))else (qg4 N (v0.1:List (Val (.int .i64))) (v0.2.1:Int) (v0.2.2:Bool) (fun (_:Unit)=>chk (qo2 (v0.1:List (Val (.int .i64))) (v0.2.1:Int)) (some ((decide (((qmJ (v0.1:List (Val (.int .i64))) (v0.2.1:Int)):Int)≤(1:Int))),()))) N (0:Int)))
def Γ96:Gam:=[(97,g97),(98,g98)]
theorem qE8:Gam.get Γ96 97=some g97:=rfl
theorem qBy:Gam.get Γ96 98=some g98:=rfl
def qob:Nm:=⟨[false,true,false,true],[],false⟩
theorem qE6:qob.zero=false:=rfl
theorem qzD:qob.fix=[]:=rfl
theorem qyn:qob.keep=[false,true,false,true]:=rfl
def qpU:Nm:=⟨[false,true],[],false⟩
theorem qtj:qpU.zero=false:=rfl
theorem qDD:qpU.fix=[]:=rfl
theorem qCa:qpU.keep=[false,true]:=rfl
def qka:Nat→Tree:=fun _=> .done
def qnK:Nat→Nm:=fun i=>if i=4 then qob else ⟨[],[],false⟩
def qoD:Nat→Option Jn:=fun _=>none
def qkz:Nat→Option Nm:=fun i=>if i=0 then some qpU else none
def qnO:Nat→Option Nm:=fun _=>none
theorem p96:qn qka (Try.f96.body.getD .skip)=true:=by kernel_rfl
def T96 (N:Nat):Tab:={tr:=qka,lp:=qnK,ex:=qkz,rg:=qnO,jn:=qoD,fuel:=N}
theorem qFs (N:Nat):(T96 N).pins=false:=rfl
theorem qS7 (N:Nat):qp Try.prog (T96 N):=qw fun _=>rfl
theorem qzl (N:Nat) (i:Nat):(T96 N).tr i=qka i:=rfl
theorem qyF (N:Nat) (i:Nat):(T96 N).lp i=qnK i:=rfl
theorem qFd (N:Nat) (i:Nat):(T96 N).ex i=qkz i:=rfl
theorem qyT (N:Nat) (i:Nat):(T96 N).rg i=qnO i:=rfl
theorem qwc (N:Nat) (i:Nat):(T96 N).jn i=qoD i:=rfl
theorem qzs (N:Nat):(T96 N).fuel=N:=rfl
noncomputable def qIh:Code:=cut [true,true,false,true,true,true] (Try.f96.body.getD .skip)
theorem qQq {N:Nat} {Q:X→St→Option (qc [i4])} {e:List LV} {h:List Blk}:qe tt Γ96 (T96 N) qIh Q ⟨e,h⟩=qe tt Γ96 (T96 N) (cut [true,true,false,true,true,true] (Try.f96.body.getD .skip)) Q ⟨e,h⟩:=rfl
theorem qTi (N:Nat) (v2:List (Val (.int .i64))) (v3:Int) (v4:Bool) {k0:Unit→Option (qc [i4])} {Q:X→St→Option (qc [i4])} {c:Code} (hc:c=qIh) (hret: ∀st,Q .ret st=qI tt true [i4] [.tmp 2] st) (h0:Q (.exit 0) ⟨[u,.one (.ptr 0 0 0),u,u,u,u,u,u,u,u,u,u,u,u,u,u,u,u,u,u,u,u,u,u,u,u,u,u,u,u,u,u,u,u],[.box [.sl 3 (.int .i64) v2 1,.int .i64 v3,.bool v4]]⟩=k0 ()): ∀(n:Nat) (v1:Int),qC (qe tt Γ96 (T96 N) c) false qob Q n ⟨[u,.one (.ptr 0 0 0),u,.one (.int .i64 v1),u,u,u,u,u,u,u,u,u,u,u,u,u,u,u,u,u,u,u,u,u,u,u,u,u,u,u,u,u,u],[.box [.sl 3 (.int .i64) v2 1,.int .i64 v3,.bool v4]]⟩=qg4 N v2 v3 v4 k0 n v1:=by
 subst hc;intro n;induction n with
 | zero=>intros;rfl
 | succ n ih=>
   intro v1
   rw [qM,qQq,qg4];unfold Try.f96
   simp (maxSteps:=10000000) -implicitDefEqProofs [qzl,qka,qyF,qnK,qFd,qkz,qyT,qnO,qwc,qoD,qzs,qFs,qzD,qyn,qE6,qDD,qCa,qtj,qE8,qBy,g97,g98,hret,h0,ih]
theorem qUj (N:Nat) (v0:Val Y83):qe tt Γ96 (T96 N) (Try.f96.body.getD .skip) (qr tt true [i4] [.tmp 2]) (qv [i83] 34 (v0,()))=m96 N v0:=by
 unfold Try.f96
 simp (maxSteps:=10000000) -implicitDefEqProofs [qzl,qka,qyF,qnK,qFd,qkz,qyT,qnO,qwc,qoD,qzs,qFs,qzD,qyn,qE6,qDD,qCa,qtj,qE8,qBy,g97,g98]
 rewrite [qTi (k0:=(fun (_:Unit)=>chk (qo2 (v0.1:List (Val (.int .i64))) (v0.2.1:Int)) (some ((decide (((qmJ (v0.1:List (Val (.int .i64))) (v0.2.1:Int)):Int)≤(1:Int))),())))) N _ _ _ ?_ ?_ ?_]
 ·rewrite [m96];first | rfl | simp (maxSteps:=10000000) -implicitDefEqProofs []
 ·rfl
 ·intro;simp only [qK,qL,qN,qm]
 ·simp (maxSteps:=10000000) -implicitDefEqProofs [qzl,qka,qyF,qnK,qFd,qkz,qyT,qnO,qwc,qoD,qzs,qFs,qzD,qyn,qE6,qDD,qCa,qtj,qE8,qBy,g97,g98]
noncomputable def qg2 (N:Nat) (v1:List (Val (.int .i64))) (v2:Int) (v4:List (Val (.int .i64))) (v5:Int) (v6:Bool) (k0:Unit→Option (qc [i4])):Nat→Int→Option (qc [i4])
 | 0,_=>none
 | n+1,v3=>bif (decide (v3<v2))then (chk (0≤v3∧v3<(v1.length:Int)) (bif (!((qbX ((v1.getD v3.toNat (qa (.int .i64))):Int)):Bool))then (some (false,()))else (qg2 N v1 v2 v4 v5 v6 k0 n (IntKind.i64.wrap (v3+(1:Int))))))else (k0 ())
noncomputable def m93 (N:Nat) (v0:Val Y83):Option (qc [i4]):=bif (decide ((4:Int)<((v0.1:List (Val (.int .i64))).length:Int)))then (some (false,()))else (bif (!((qbX (v0.2.1:Int)):Bool))then (some (false,()))else (qg2 N (v0.1:List (Val (.int .i64))) ((v0.1:List (Val (.int .i64))).length:Int) (v0.1:List (Val (.int .i64))) (v0.2.1:Int) (v0.2.2:Bool) (fun (_:Unit)=>chk (qoA (v0.1:List (Val (.int .i64)))) (chk (qf3 ((qgw (v0.1:List (Val (.int .i64)))):Int) (v0.2.1:Int)) (some ((decide (((qgM ((qgw (v0.1:List (Val (.int .i64)))):Int) (v0.2.1:Int)):Int)≤(1:Int))),())))) N (0:Int)))
def Γ93:Gam:=[(94,g94),(95,g95),(109,qkq)]
theorem qye:Gam.get Γ93 94=some g94:=rfl
theorem qvT:Gam.get Γ93 95=some g95:=rfl
theorem qyN:Gam.get Γ93 109=some qkq:=rfl
def qoe:Nm:=⟨[false,true,false,false,false,false,false,false,false,false,false,false,false,false,false,false,true,true,true],[],false⟩
theorem qwH:qoe.zero=false:=rfl
theorem qy2:qoe.fix=[]:=rfl
theorem qvj:qoe.keep=[false,true,false,false,false,false,false,false,false,false,false,false,false,false,false,false,true,true,true]:=rfl
def qr1:Nm:=⟨[false,true],[],false⟩
theorem qt3:qr1.zero=false:=rfl
theorem qEa:qr1.fix=[]:=rfl
theorem qBk:qr1.keep=[false,true]:=rfl
def qrV:Nm:=⟨[false,false,true],[],false⟩
theorem qAn:qrV.zero=false:=rfl
theorem qxs:qrV.fix=[]:=rfl
theorem qDf:qrV.keep=[false,false,true]:=rfl
def qks:Nat→Tree:=fun i=>if i=9 then .quiet 0 (.quiet 1 (.alt 2 (.quiet 3 (.quiet 4 (.alt 5 (.quiet 6 (.quiet 7 .done)) .stop))) (.alt 3 (.alt 2 (.quiet 4 (.alt 5 (.quiet 6 (.quiet 7 .done)) .stop)) (.alt 4 (.alt 2 (.alt 5 (.quiet 6 (.quiet 7 .done)) .stop) .stop) .stop)) .stop)))else .done
def qo6:Nat→Nm:=fun i=>if i=4 then qoe else ⟨[],[],false⟩
def qmA:Nat→Option Jn:=fun _=>none
def qkx:Nat→Option Nm:=fun i=>if i=0 then some qr1 else none
def qoh:Nat→Option Nm:=fun i=>if i=9 then some qrV else none
theorem p93:qn qks (Try.f93.body.getD .skip)=true:=by kernel_rfl
def T93 (N:Nat):Tab:={tr:=qks,lp:=qo6,ex:=qkx,rg:=qoh,jn:=qmA,fuel:=N}
theorem qv0 (N:Nat):(T93 N).pins=false:=rfl
theorem qTP (N:Nat):qp Try.prog (T93 N):=qw fun _=>rfl
theorem qAd (N:Nat) (i:Nat):(T93 N).tr i=qks i:=rfl
theorem qzq (N:Nat) (i:Nat):(T93 N).lp i=qo6 i:=rfl
theorem qzh (N:Nat) (i:Nat):(T93 N).ex i=qkx i:=rfl
theorem qt0 (N:Nat) (i:Nat):(T93 N).rg i=qoh i:=rfl
theorem qD3 (N:Nat) (i:Nat):(T93 N).jn i=qmA i:=rfl
theorem qAp (N:Nat):(T93 N).fuel=N:=rfl
noncomputable def qGZ:Code:=cut [true,true,false,true,true,true] (Try.f93.body.getD .skip)
theorem qSB {N:Nat} {Q:X→St→Option (qc [i4])} {e:List LV} {h:List Blk}:qe tt Γ93 (T93 N) qGZ Q ⟨e,h⟩=qe tt Γ93 (T93 N) (cut [true,true,false,true,true,true] (Try.f93.body.getD .skip)) Q ⟨e,h⟩:=rfl
theorem qMq (N:Nat) (v1:List (Val (.int .i64))) (v2:Int) (v4:List (Val (.int .i64))) (v5:Int) (v6:Bool) {k0:Unit→Option (qc [i4])} {Q:X→St→Option (qc [i4])} {c:Code} (hc:c=qGZ) (hret: ∀st,Q .ret st=qI tt true [i4] [.tmp 2] st) (h0:Q (.exit 0) ⟨[u,.one (.ptr 0 0 0),u,u,u,u,u,u,u,u,u,u,u,u,u,u,u,u,u,u,u,u,u,u,u,u,u,u,u,u,u,u,u],[.box [.sl 3 (.int .i64) v4 1,.int .i64 v5,.bool v6]]⟩=k0 ()): ∀(n:Nat) (v3:Int),qC (qe tt Γ93 (T93 N) c) false qoe Q n ⟨[u,.one (.ptr 0 0 0),u,u,u,u,u,u,u,u,u,u,u,u,u,u,.one (.sl 3 (.int .i64) v1 1),.one (.int .i64 v2),.one (.int .i64 v3),u,u,u,u,u,u,u,u,u,u,u,u,u,u],[.box [.sl 3 (.int .i64) v4 1,.int .i64 v5,.bool v6]]⟩=qg2 N v1 v2 v4 v5 v6 k0 n v3:=by
 subst hc;intro n;induction n with
 | zero=>intros;rfl
 | succ n ih=>
   intro v3
   rw [qM,qSB,qg2];unfold Try.f93
   simp (maxSteps:=10000000) -implicitDefEqProofs [qAd,qks,qzq,qo6,qzh,qkx,qt0,qoh,qD3,qmA,qAp,qv0,qy2,qvj,qwH,qEa,qBk,qt3,qxs,qDf,qAn,qye,qvT,qyN,g94,g95,qkq,hret,h0,ih]
theorem qTt (N:Nat) (v0:Val Y83):qe tt Γ93 (T93 N) (Try.f93.body.getD .skip) (qr tt true [i4] [.tmp 2]) (qv [i83] 33 (v0,()))=m93 N v0:=by
 unfold Try.f93
 simp (maxSteps:=10000000) -implicitDefEqProofs [qAd,qks,qzq,qo6,qzh,qkx,qt0,qoh,qD3,qmA,qAp,qv0,qy2,qvj,qwH,qEa,qBk,qt3,qxs,qDf,qAn,qye,qvT,qyN,g94,g95,qkq]
 rewrite [qMq (k0:=(fun (_:Unit)=>chk (qoA (v0.1:List (Val (.int .i64)))) (chk (qf3 ((qgw (v0.1:List (Val (.int .i64)))):Int) (v0.2.1:Int)) (some ((decide (((qgM ((qgw (v0.1:List (Val (.int .i64)))):Int) (v0.2.1:Int)):Int)≤(1:Int))),()))))) N _ _ _ _ _ ?_ ?_ ?_]
 ·rewrite [m93];first | rfl | simp (maxSteps:=10000000) -implicitDefEqProofs []
 ·rfl
 ·intro;simp only [qK,qL,qN,qm]
 ·simp (maxSteps:=10000000) -implicitDefEqProofs [qAd,qks,qzq,qo6,qzh,qkx,qt0,qoh,qD3,qmA,qAp,qv0,qy2,qvj,qwH,qEa,qBk,qt3,qxs,qDf,qAn,qye,qvT,qyN,g94,g95,qkq]
theorem qpZ {n:Int} (h:qbX n=true):inI n:=by
 unfold qbX at h;unfold inI;have:=of_decide_eq_true h;omega
def g96:G:={ps:=[i83],rs:=[i4],dp:=true,pre:=fun _=>True,fn:=fun x=>(qaF x.1,())}
def g93:G:={ps:=[i83],rs:=[i4],dp:=true,pre:=fun _=>True,fn:=fun x=>(qaF x.1,())}
theorem t96 (N:Nat) (xs:List (Val (.int .i64))) (c:Int) (b:Bool) (K:Unit→Option (qc [i4])) (hl:xs.length≤1048576) (n:Nat) (hn:xs.length<n):qg4 N xs c b K n 0=bif List.all (α:=Int) xs qbX then K ()else some (false,()):=
 (qam (F:=fun n i (_:Unit)=>qg4 N xs c b K n i) (step:=fun _ x _ K=>bif qbX x then K ()else some (false,())) (k:=K) hl (fun n i s hi=>by rw [qg4,qj (by omega),qd (by omega),qA hi,qX]) (fun n i s hi=>by rw [qg4,qh (by omega)]) n () hn).trans (qeU xs 0)
theorem t93 (N:Nat) (xs ys:List (Val (.int .i64))) (c:Int) (b:Bool) (K:Unit→Option (qc [i4])) (hl:xs.length≤1048576) (n:Nat) (hn:xs.length<n):qg2 N xs xs.length ys c b K n 0=bif List.all (α:=Int) xs qbX then K ()else some (false,()):=
 (qam (F:=fun n i (_:Unit)=>qg2 N xs xs.length ys c b K n i) (step:=fun _ x _ K=>bif qbX x then K ()else some (false,())) (k:=K) hl (fun n i s hi=>by rw [qg2,qj (by omega),qd (by omega),qA hi,qX]) (fun n i s hi=>by rw [qg2,qh (by omega)]) n () hn).trans (qeU xs 0)
theorem e96 (a:Val Y83): ∃N,m96 N a=some (qaF a,()):=⟨(a.1:List (Val (.int .i64))).length+1,by
 obtain ⟨xs,c,b⟩:=a
 change List (Val (.int .i64))at xs
 change Int at c
 change Bool at b
 rw [m96,qaF]
 dsimp only
 by_cases h4:xs.length≤4
 ·rw [qh (by omega)]
  cases hc:qbX c with
  | false=>simp
  | true=>
    rw [t96 _ xs _ _ _ (by omega) _ (Nat.lt_succ_self _)]
    cases ha:List.all (α:=Int) xs qbX with
    | false=>simp
    | true=>
      rw [qd (show qo2 xs c from ⟨by omega,qpZ hc,fun x hx=>qpZ (List.all_eq_true.1 ha x hx)⟩)]
      simp [h4,qmJ]
      rfl
 ·rw [qj (by omega)]
  simp [h4]⟩
theorem s96:Sound Try.prog 96 g96:=qz (tt:=tt) (Γ:=Γ96) hT (ql s97 (ql s98 qt)) hm (fn:=Try.f96) Try.func96 (c:=Try.f96.body.getD .skip) (by kernel_rfl) (by kernel_rfl) fun x hx=>by
 obtain ⟨N,h⟩:=e96 x.1
 exact ⟨T96 N,p96,qy _,qS7 N,(qUj N x.1).trans h⟩
theorem qJk: ∀(xs:List Int) (g:Nat),(g:Int)≤9223372036854775807→(∀x∈xs,inI x)→inI (gL g xs:Nat)
 | [],g,h,_=>by unfold inI gL;omega
 | x::xs,g,h,hx=>qJk xs _ (qGy h (hx x (by simp))).2 fun y hy=>hx y (by simp [hy])
theorem e93 (a:Val Y83): ∃N,m93 N a=some (qaF a,()):=⟨(a.1:List (Val (.int .i64))).length+1,by
 obtain ⟨xs,c,b⟩:=a
 change List (Val (.int .i64))at xs
 change Int at c
 change Bool at b
 rw [m93,qaF]
 dsimp only
 by_cases h4:xs.length≤4
 ·rw [qh (by omega)]
  cases hc:qbX c with
  | false=>simp
  | true=>
    rw [t93 _ xs _ _ _ _ (by omega) _ (Nat.lt_succ_self _)]
    cases ha:List.all (α:=Int) xs qbX with
    | false=>simp
    | true=>
      have hx: ∀x∈xs,inI x:=fun x hx=>qpZ (List.all_eq_true.1 ha x hx)
      have e:Nat.gcd (gL 0 xs) c.natAbs=gL c.natAbs xs:=by rw [←qFP,Nat.gcd_zero_left]
      rw [qd (show qoA xs from ⟨by omega,hx⟩),qd (show qf3 (qgw xs) c from ⟨qJk xs 0 (by omega) hx,qpZ hc⟩)]
      simp [h4,qgw,qgM,e]
 ·rw [qj (by omega)]
  simp [h4]⟩
theorem s93:Sound Try.prog 93 g93:=qz (tt:=tt) (Γ:=Γ93) hT (ql s94 (ql s95 (ql qM7 qt))) hm (fn:=Try.f93) Try.func93 (c:=Try.f93.body.getD .skip) (by kernel_rfl) (by kernel_rfl) fun x hx=>by
 obtain ⟨N,h⟩:=e93 x.1
 exact ⟨T93 N,p93,qy _,qTP N,(qTt N x.1).trans h⟩
end Go.T
