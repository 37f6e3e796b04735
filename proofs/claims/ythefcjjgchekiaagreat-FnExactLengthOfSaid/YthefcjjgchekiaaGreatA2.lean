/- Whole numbers; atoms; cells; relations: what the functions compute. -/
import Derived.Test.YthefcjjgchekiaaGreatA1
set_option linter.unusedSimpArgs false
set_option linter.unusedVariables false
namespace Go.T
open Go Go.Proofs
set_option maxHeartbeats 1000000
set_option maxRecDepth 100000
def inI (n:Int):Prop:= -9223372036854775807≤n∧n≤9223372036854775807
def qal (n:Int):Int:=(n.natAbs:Int)
def qbQ (n:Int):Prop:=inI n
def q3 (a b:Int):Int:=(Nat.gcd a.natAbs b.natAbs:Nat)
def qcr (a b:Int):Prop:=inI a∧inI b
def qcI (xs:List (Val (.int .i64))) (k:Int):Int:=(gL k.natAbs xs:Nat)
def qfC (xs:List (Val (.int .i64))) (k:Int):Prop:=xs.length≤1048576∧inI k∧ ∀x∈xs,inI x
def qbd (xs:List (Val (.int .i64))):Int:=(gL 0 xs:Nat)
def qfq (xs:List (Val (.int .i64))):Prop:=xs.length≤1048576∧ ∀x∈xs,inI x
def qae (n:Int):Bool:=decide (-400000000≤n∧n≤400000000)
def inR (x a b:Int):Bool:=decide (a≤x∧x≤b)
def qoL:G:={ps:=[i3],rs:=[i3],dp:=true,pre:=fun x=>qbQ x.1,fn:=fun x=>(qal x.1,())}
noncomputable def qA0 (N:Nat) (v0:Int):Option (qc [i3]):=bif (decide (v0<(0:Int)))then (some ((IntKind.i64.wrap (0 - v0)),()))else (some (v0,()))
def q6c:Gam:=[]
def qEN:Nat→Tree:=fun _=> .done
def qWV:Nat→Nm:=fun _=>⟨[],[],false⟩
def qNY:Nat→Option Jn:=fun _=>none
def q20:Nat→Option Nm:=fun _=>none
def qKJ:Nat→Option Nm:=fun _=>none
theorem zp8:qh qEN (Tryz.f313.body.getD .skip)=true:=by kernel_rfl
def qgw (N:Nat):Tab:={tr:=qEN,lp:=qWV,ex:=q20,rg:=qKJ,jn:=qNY,fuel:=N}
theorem zno (N:Nat):(qgw N).pins=false:=rfl
theorem zio (N:Nat):qk Tryz.prog (qgw N):=qo fun _=>rfl
theorem zxV (N:Nat) (i:Nat):(qgw N).tr i=qEN i:=rfl
theorem znD (N:Nat) (i:Nat):(qgw N).lp i=qWV i:=rfl
theorem zlz (N:Nat) (i:Nat):(qgw N).ex i=q20 i:=rfl
theorem zbm (N:Nat) (i:Nat):(qgw N).rg i=qKJ i:=rfl
theorem zAJ (N:Nat) (i:Nat):(qgw N).jn i=qNY i:=rfl
theorem zpv (N:Nat):(qgw N).fuel=N:=rfl
theorem zvI (N:Nat) (v0:Int):qf tt q6c (qgw N) (Tryz.f313.body.getD .skip) (qm tt true [i3] [.tmp 2]) (qp [i3] 8 (v0,()))=qA0 N v0:=by
 rw [qA0];unfold Tryz.f313
 simp (maxSteps:=10000000) -implicitDefEqProofs [zxV,qEN,znD,qWV,zlz,q20,zbm,qKJ,zAJ,qNY,zpv,zno]
 try rfl
theorem zcG (n:Int) (h:inI n): ∃N,qA0 N n=some (qal n,()):=⟨0,by
 unfold inI at h
 simp only [qA0,qal]
 by_cases h0:n<0
 ·have e:IntKind.i64.wrap (0 - n)=(n.natAbs:Int):=by rw [qaC (by omega) (by omega)];omega
  simp only [h0,decide_true,cond_true,e]
 ·have e:(n.natAbs:Int)=n:=by omega
  simp [h0,e]⟩
theorem zkn:Sound Tryz.prog 313 qoL:=qr (tt:=tt) (Γ:=q6c) hT qn hm (fn:=Tryz.f313) Tryz.func313 (c:=Tryz.f313.body.getD .skip) (by kernel_rfl) (by kernel_rfl) fun x hx=>by
 obtain ⟨N,h⟩:=zcG x.1 hx
 exact ⟨qgw N,zp8,qu _,zio N,(zvI N x.1).trans h⟩
noncomputable def qmU (N:Nat) (k0:Int→Option (qc [i3])):Nat→Int→Int→Option (qc [i3])
 | 0,_,_=>none
 | n+1,v2,v3=>bif (!(decide (v3=(0:Int))))then (chk (v3≠0) (qmU N k0 n v3 (v2.tmod v3)))else (k0 v2)
noncomputable def qF1 (N:Nat) (v0:Int) (v1:Int):Option (qc [i3]):=chk (qbQ v0) (chk (qbQ v1) (qmU N (fun (v5:Int)=>some (v5,())) N ((qal v0):Int) ((qal v1):Int)))
def qn2:Gam:=[(313,qoL)]
theorem qVI:Gam.get qn2 313=some qoL:=rfl
def qqe:Nm:=⟨[true,true],[],false⟩
theorem qQg:qqe.zero=false:=rfl
theorem qWG:qqe.fix=[]:=rfl
theorem qSz:qqe.keep=[true,true]:=rfl
def qEK:Nm:=⟨[true],[],false⟩
theorem qN5:qEK.zero=false:=rfl
theorem q0n:qEK.fix=[]:=rfl
theorem qXb:qEK.keep=[true]:=rfl
def qps:Nat→Tree:=fun i=>if i=3 then .quiet 0 (.quiet 1 (.quiet 2 (.quiet 3 (.quiet 4 (.quiet 5 .done)))))else .done
def qss:Nat→Nm:=fun i=>if i=2 then qqe else ⟨[],[],false⟩
def qvy:Nat→Option Jn:=fun _=>none
def qwE:Nat→Option Nm:=fun i=>if i=0 then some qEK else none
def qtP:Nat→Option Nm:=fun _=>none
theorem zon:qh qps (Tryz.f280.body.getD .skip)=true:=by kernel_rfl
def qdL (N:Nat):Tab:={tr:=qps,lp:=qss,ex:=qwE,rg:=qtP,jn:=qvy,fuel:=N}
theorem qQI (N:Nat):(qdL N).pins=false:=rfl
theorem zv9 (N:Nat):qk Tryz.prog (qdL N):=qo fun _=>rfl
theorem qOx (N:Nat) (i:Nat):(qdL N).tr i=qps i:=rfl
theorem qR9 (N:Nat) (i:Nat):(qdL N).lp i=qss i:=rfl
theorem q2V (N:Nat) (i:Nat):(qdL N).ex i=qwE i:=rfl
theorem qX5 (N:Nat) (i:Nat):(qdL N).rg i=qtP i:=rfl
theorem qIv (N:Nat) (i:Nat):(qdL N).jn i=qvy i:=rfl
theorem qUg (N:Nat):(qdL N).fuel=N:=rfl
noncomputable def q8u:Code:=cut [true,true,false,true,true] (Tryz.f280.body.getD .skip)
theorem zqE {N:Nat} {Q:X→St→Option (qc [i3])} {e:List LV} {h:List Blk}:qf tt qn2 (qdL N) q8u Q ⟨e,h⟩=qf tt qn2 (qdL N) (cut [true,true,false,true,true] (Tryz.f280.body.getD .skip)) Q ⟨e,h⟩:=rfl
theorem zhc (N:Nat) {k0:Int→Option (qc [i3])} {Q:X→St→Option (qc [i3])} {c:Code} (hc:c=q8u) (hret: ∀st,Q .ret st=qC tt true [i3] [.tmp 4] st) (h0: ∀(v4:Int),Q (.exit 0) ⟨[.one (.int .i64 v4),u,u,u,u,u,u,u,u,u,u,u,u,u,u,u],[]⟩=k0 v4): ∀(n:Nat) (v2:Int) (v3:Int),qD (qf tt qn2 (qdL N) c) false qqe Q n ⟨[.one (.int .i64 v2),.one (.int .i64 v3),u,u,u,u,u,u,u,u,u,u,u,u,u,u],[]⟩=qmU N k0 n v2 v3:=by
 subst hc;intro n;induction n with
 | zero=>intros;rfl
 | succ n ih=>
   intro v2 v3
   rw [qN,zqE,qmU];unfold Tryz.f280
   simp (maxSteps:=10000000) -implicitDefEqProofs [qOx,qps,qR9,qss,q2V,qwE,qX5,qtP,qIv,qvy,qUg,qQI,qWG,qSz,qQg,q0n,qXb,qN5,qVI,qoL,hret,h0,ih]
theorem zqQ (N:Nat) (v0:Int) (v1:Int):qf tt qn2 (qdL N) (Tryz.f280.body.getD .skip) (qm tt true [i3] [.tmp 4]) (qp [i3,i3] 16 (v0,v1,()))=qF1 N v0 v1:=by
 unfold Tryz.f280
 simp (maxSteps:=10000000) -implicitDefEqProofs [qOx,qps,qR9,qss,q2V,qwE,qX5,qtP,qIv,qvy,qUg,qQI,qWG,qSz,qQg,q0n,qXb,qN5,qVI,qoL]
 rewrite [zhc (k0:=(fun (v5:Int)=>some (v5,()))) N ?_ ?_ ?_]
 ·rewrite [qF1];first | rfl | simp (maxSteps:=10000000) -implicitDefEqProofs []
 ·rfl
 ·intro;simp only [qK,qL,qJ,qB]
 ·intro v5;simp (maxSteps:=10000000) -implicitDefEqProofs [qOx,qps,qR9,qss,q2V,qwE,qX5,qtP,qIv,qvy,qUg,qQI,qWG,qSz,qQg,q0n,qXb,qN5,qVI,qoL]
theorem q97 (N:Nat) (k:Int→Option (qc [i3])): ∀(n a b:Nat),b<n→qmU N k n (a:Int) (b:Int)=k (Nat.gcd a b:Nat)
 | 0,_,_,h=>by omega
 | n+1,a,b,h=>by
   rw [qmU]
   by_cases hb:b=0
   ·subst hb;simp
   ·have hb': ¬((b:Int)=0):=by omega
    have hlt:a % b<b:=Nat.mod_lt _ (by omega)
    have hm:((a:Int).tmod (b:Int))=((a % b:Nat):Int):=by rw [Int.tmod_eq_emod_of_nonneg (by omega)];rfl
    simp only [hb',decide_false,Bool.not_false,cond_true,ne_eq,not_false_eq_true,za0]
    rw [hm,q97 N k n b (a % b) (by omega)]
    congr 2
    rw [Nat.gcd_comm b,←Nat.gcd_rec,Nat.gcd_comm]
def qbx:G:={ps:=[i3,i3],rs:=[i3],dp:=true,pre:=fun x=>qcr x.1 x.2.1,fn:=fun x=>(q3 x.1 x.2.1,())}
theorem zdq (a b:Int) (h:qcr a b): ∃N,qF1 N a b=some (q3 a b,()):=⟨b.natAbs+1,by
 rw [qF1,qe (show qbQ a from h.1),qe (show qbQ b from h.2)]
 simp only [qal]
 rw [q97 _ _ _ _ _ (Nat.lt_succ_self _)]
 rfl⟩
theorem qxl:Sound Tryz.prog 280 qbx:=qr (tt:=tt) (Γ:=qn2) hT (qg zkn qn) hm (fn:=Tryz.f280) Tryz.func280 (c:=Tryz.f280.body.getD .skip) (by kernel_rfl) (by kernel_rfl) fun x hx=>by
 obtain ⟨N,h⟩:=zdq x.1 x.2.1 hx
 exact ⟨qdL N,zon,qu _,zv9 N,(zqQ N x.1 x.2.1).trans h⟩
theorem q5N {g:Nat} {x:Int} (hg:(g:Int)≤9223372036854775807) (hx:inI x):qcr (g:Int) x∧((Nat.gcd g x.natAbs:Nat):Int)≤9223372036854775807:=by
 refine ⟨⟨⟨by omega,hg⟩,hx⟩,?_⟩
 unfold inI at hx
 by_cases h0:x.natAbs=0
 ·rw [h0];simpa using hg
 ·have:=Nat.gcd_le_right (m:=g) (n:=x.natAbs) (by omega)
  omega
theorem q9r {ρ:Type}: ∀(xs:List Int) (i g:Nat) (k:Int→Option ρ),(g:Int)≤9223372036854775807→(∀x∈xs,inI x)→qad (fun _ x s K=>chk (qcr s x) (K (q3 s x))) i xs (g:Int) k=k (gL g xs:Nat)
 | [],_,_,_,_,_=>rfl
 | x::xs,i,g,k,hg,hx=>by
   obtain ⟨h1,h2⟩:=q5N hg (hx x (by simp))
   rw [qad,qe h1]
   exact q9r xs (i+1) _ k h2 fun y hy=>hx y (by simp [hy])
noncomputable def qlf (N:Nat) (v2:List (Val (.int .i64))) (v3:Int) (k0:Int→Option (qc [i3])):Nat→Int→Int→Option (qc [i3])
 | 0,_,_=>none
 | n+1,v1,v4=>bif (decide (v4<v3))then (chk (0≤v4∧v4<(v2.length:Int)) (chk (qcr v1 ((v2.getD v4.toNat (qb (.int .i64))):Int)) (qlf N v2 v3 k0 n ((q3 v1 ((v2.getD v4.toNat (qb (.int .i64))):Int)):Int) (IntKind.i64.wrap (v4+(1:Int))))))else (k0 v1)
noncomputable def qzV (N:Nat) (v0:List (Val (.int .i64))):Option (qc [i3]):=qlf N v0 (v0.length:Int) (fun (v6:Int)=>some (v6,())) N (0:Int) (0:Int)
def qnW:Gam:=[(280,qbx)]
theorem q1q:Gam.get qnW 280=some qbx:=rfl
def qvi:Nm:=⟨[false,false,false,true,false,false,true,true,true],[],false⟩
theorem qH5:qvi.zero=false:=rfl
theorem qOj:qvi.fix=[]:=rfl
theorem qPI:qvi.keep=[false,false,false,true,false,false,true,true,true]:=rfl
def qCq:Nm:=⟨[false,false,false,true],[],false⟩
theorem qLN:qCq.zero=false:=rfl
theorem qPU:qCq.fix=[]:=rfl
theorem qMC:qCq.keep=[false,false,false,true]:=rfl
def qnU:Nat→Tree:=fun _=> .done
def qwj:Nat→Nm:=fun i=>if i=3 then qvi else ⟨[],[],false⟩
def qr3:Nat→Option Jn:=fun _=>none
def qrG:Nat→Option Nm:=fun i=>if i=0 then some qCq else none
def qqE:Nat→Option Nm:=fun _=>none
theorem zsF:qh qnU (Tryz.f282.body.getD .skip)=true:=by kernel_rfl
def qdo (N:Nat):Tab:={tr:=qnU,lp:=qwj,ex:=qrG,rg:=qqE,jn:=qr3,fuel:=N}
theorem qLb (N:Nat):(qdo N).pins=false:=rfl
theorem zly (N:Nat):qk Tryz.prog (qdo N):=qo fun _=>rfl
theorem qIi (N:Nat) (i:Nat):(qdo N).tr i=qnU i:=rfl
theorem q3v (N:Nat) (i:Nat):(qdo N).lp i=qwj i:=rfl
theorem q4k (N:Nat) (i:Nat):(qdo N).ex i=qrG i:=rfl
theorem qMc (N:Nat) (i:Nat):(qdo N).rg i=qqE i:=rfl
theorem qH3 (N:Nat) (i:Nat):(qdo N).jn i=qr3 i:=rfl
theorem q2D (N:Nat):(qdo N).fuel=N:=rfl
noncomputable def q5a:Code:=cut [true,true,false,true,true,true] (Tryz.f282.body.getD .skip)
theorem zoR {N:Nat} {Q:X→St→Option (qc [i3])} {e:List LV} {h:List Blk}:qf tt qnW (qdo N) q5a Q ⟨e,h⟩=qf tt qnW (qdo N) (cut [true,true,false,true,true,true] (Tryz.f282.body.getD .skip)) Q ⟨e,h⟩:=rfl
theorem ziM (N:Nat) (v2:List (Val (.int .i64))) (v3:Int) {k0:Int→Option (qc [i3])} {Q:X→St→Option (qc [i3])} {c:Code} (hc:c=q5a) (hret: ∀st,Q .ret st=qC tt true [i3] [.tmp 2] st) (h0: ∀(v5:Int),Q (.exit 0) ⟨[u,u,u,.one (.int .i64 v5),u,u,u,u,u,u,u,u,u,u,u,u,u],[]⟩=k0 v5): ∀(n:Nat) (v1:Int) (v4:Int),qD (qf tt qnW (qdo N) c) false qvi Q n ⟨[u,u,u,.one (.int .i64 v1),u,u,.one (.sl 3 (.int .i64) v2 0),.one (.int .i64 v3),.one (.int .i64 v4),u,u,u,u,u,u,u,u],[]⟩=qlf N v2 v3 k0 n v1 v4:=by
 subst hc;intro n;induction n with
 | zero=>intros;rfl
 | succ n ih=>
   intro v1 v4
   rw [qN,zoR,qlf];unfold Tryz.f282
   simp (maxSteps:=10000000) -implicitDefEqProofs [qIi,qnU,q3v,qwj,q4k,qrG,qMc,qqE,qH3,qr3,q2D,qLb,qOj,qPI,qH5,qPU,qMC,qLN,q1q,qbx,hret,h0,ih]
theorem zsP (N:Nat) (v0:List (Val (.int .i64))):qf tt qnW (qdo N) (Tryz.f282.body.getD .skip) (qm tt true [i3] [.tmp 2]) (qp [i25] 17 (v0,()))=qzV N v0:=by
 unfold Tryz.f282
 simp (maxSteps:=10000000) -implicitDefEqProofs [qIi,qnU,q3v,qwj,q4k,qrG,qMc,qqE,qH3,qr3,q2D,qLb,qOj,qPI,qH5,qPU,qMC,qLN,q1q,qbx]
 rewrite [ziM (k0:=(fun (v6:Int)=>some (v6,()))) N _ _ ?_ ?_ ?_]
 ·rewrite [qzV];first | rfl | simp (maxSteps:=10000000) -implicitDefEqProofs []
 ·rfl
 ·intro;simp only [qK,qL,qJ,qB]
 ·intro v6;simp (maxSteps:=10000000) -implicitDefEqProofs [qIi,qnU,q3v,qwj,q4k,qrG,qMc,qqE,qH3,qr3,q2D,qLb,qOj,qPI,qH5,qPU,qMC,qLN,q1q,qbx]
def qci:G:={ps:=[i25],rs:=[i3],dp:=true,pre:=fun x=>qfq x.1,fn:=fun x=>(qbd x.1,())}
theorem zlD (xs:List (Val (.int .i64))) (h:qfq xs): ∃N,qzV N xs=some (qbd xs,()):=⟨xs.length+1,by
 rw [qzV]
 rw [qaZ (F:=fun n i s=>qlf _ xs xs.length _ n s i) (step:=fun _ x s K=>chk (qcr s x) (K (q3 s x))) (k:=fun s=>some (s,())) h.1 ?_ ?_ _ _ (Nat.lt_succ_self _)]
 ·exact q9r xs 0 0 _ (by omega) h.2
 ·intro n i s hi
  rw [qlf,qj (by omega),qe (by omega),qI hi]
 ·intro n i s hi
  rw [qlf,qi (by omega)]⟩
theorem qBi:Sound Tryz.prog 282 qci:=qr (tt:=tt) (Γ:=qnW) hT (qg qxl qn) hm (fn:=Tryz.f282) Tryz.func282 (c:=Tryz.f282.body.getD .skip) (by kernel_rfl) (by kernel_rfl) fun x hx=>by
 obtain ⟨N,h⟩:=zlD x.1 hx
 exact ⟨qdo N,zsF,qu _,zly N,(zsP N x.1).trans h⟩
def qb1:G:={ps:=[i3],rs:=[i3],dp:=true,pre:=fun x=>qbQ x.1,fn:=fun x=>(qal x.1,())}
noncomputable def qFe (N:Nat) (v0:Int):Option (qc [i3]):=some ((max v0 (IntKind.i64.wrap (0 - v0))),())
def za1:Gam:=[]
def qC3:Nat→Tree:=fun _=> .done
def q1M:Nat→Nm:=fun _=>⟨[],[],false⟩
def qNf:Nat→Option Jn:=fun _=>none
def qJo:Nat→Option Nm:=fun _=>none
def qMi:Nat→Option Nm:=fun _=>none
theorem zsN:qh qC3 (Tryz.f278.body.getD .skip)=true:=by kernel_rfl
def qfW (N:Nat):Tab:={tr:=qC3,lp:=q1M,ex:=qJo,rg:=qMi,jn:=qNf,fuel:=N}
theorem zxW (N:Nat):(qfW N).pins=false:=rfl
theorem zsg (N:Nat):qk Tryz.prog (qfW N):=qo fun _=>rfl
theorem zrf (N:Nat) (i:Nat):(qfW N).tr i=qC3 i:=rfl
theorem zA6 (N:Nat) (i:Nat):(qfW N).lp i=q1M i:=rfl
theorem zvt (N:Nat) (i:Nat):(qfW N).ex i=qJo i:=rfl
theorem zdE (N:Nat) (i:Nat):(qfW N).rg i=qMi i:=rfl
theorem zgD (N:Nat) (i:Nat):(qfW N).jn i=qNf i:=rfl
theorem zm2 (N:Nat):(qfW N).fuel=N:=rfl
theorem zor (N:Nat) (v0:Int):qf tt za1 (qfW N) (Tryz.f278.body.getD .skip) (qm tt true [i3] [.tmp 2]) (qp [i3] 7 (v0,()))=qFe N v0:=by
 rw [qFe];unfold Tryz.f278
 simp (maxSteps:=10000000) -implicitDefEqProofs [zrf,qC3,zA6,q1M,zvt,qJo,zdE,qMi,zgD,qNf,zm2,zxW]
 try rfl
theorem zby (n:Int) (h:inI n): ∃N,qFe N n=some (qal n,()):=⟨0,by
 unfold inI at h
 rw [qFe,qaC (by omega) (by omega)]
 have e:max n (0 - n)=qal n:=by unfold qal;omega
 rw [e]⟩
theorem qI8:Sound Tryz.prog 278 qb1:=qr (tt:=tt) (Γ:=za1) hT qn hm (fn:=Tryz.f278) Tryz.func278 (c:=Tryz.f278.body.getD .skip) (by kernel_rfl) (by kernel_rfl) fun x hx=>by
 obtain ⟨N,h⟩:=zby x.1 hx
 exact ⟨qfW N,zsN,qu _,zsg N,(zor N x.1).trans h⟩
noncomputable def qBI (N:Nat) (v0:Int) (v1:Int) (v2:Int):Option (qc [i4]):=bif (decide (v1≤v0))then (some ((decide (v0≤v2)),()))else (some (false,()))
def q5O:Gam:=[]
def qCs:Nat→Tree:=fun _=> .done
def qRG:Nat→Nm:=fun _=>⟨[],[],false⟩
def qY9:Nat→Option Jn:=fun _=>none
def qOe:Nat→Option Nm:=fun _=>none
def qYF:Nat→Option Nm:=fun _=>none
theorem ztY:qh qCs (Tryz.f118.body.getD .skip)=true:=by kernel_rfl
def qfF (N:Nat):Tab:={tr:=qCs,lp:=qRG,ex:=qOe,rg:=qYF,jn:=qY9,fuel:=N}
theorem zBG (N:Nat):(qfF N).pins=false:=rfl
theorem zgN (N:Nat):qk Tryz.prog (qfF N):=qo fun _=>rfl
theorem zeZ (N:Nat) (i:Nat):(qfF N).tr i=qCs i:=rfl
theorem zcy (N:Nat) (i:Nat):(qfF N).lp i=qRG i:=rfl
theorem znJ (N:Nat) (i:Nat):(qfF N).ex i=qOe i:=rfl
theorem zxp (N:Nat) (i:Nat):(qfF N).rg i=qYF i:=rfl
theorem zuF (N:Nat) (i:Nat):(qfF N).jn i=qY9 i:=rfl
theorem zjU (N:Nat):(qfF N).fuel=N:=rfl
theorem zrw (N:Nat) (v0:Int) (v1:Int) (v2:Int):qf tt q5O (qfF N) (Tryz.f118.body.getD .skip) (qm tt true [i4] [.tmp 6]) (qp [i3,i3,i3] 15 (v0,v1,v2,()))=qBI N v0 v1 v2:=by
 rw [qBI];unfold Tryz.f118
 simp (maxSteps:=10000000) -implicitDefEqProofs [zeZ,qCs,zcy,qRG,znJ,qOe,zxp,qYF,zuF,qY9,zjU,zBG]
 try rfl
def qao:G:={ps:=[i3,i3,i3],rs:=[i4],dp:=true,pre:=fun _=>True,fn:=fun x=>(inR x.1 x.2.1 x.2.2.1,())}
theorem zeg (x a b:Int): ∃N,qBI N x a b=some (inR x a b,()):=⟨0,by
 simp only [qBI,inR]
 by_cases h1:a≤x<;>by_cases h2:x≤b<;>simp [h1,h2]⟩
theorem qgN:Sound Tryz.prog 118 qao:=qr (tt:=tt) (Γ:=q5O) hT qn hm (fn:=Tryz.f118) Tryz.func118 (c:=Tryz.f118.body.getD .skip) (by kernel_rfl) (by kernel_rfl) fun x hx=>by
 obtain ⟨N,h⟩:=zeg x.1 x.2.1 x.2.2.1
 exact ⟨qfF N,ztY,qu _,zgN N,(zrw N x.1 x.2.1 x.2.2.1).trans h⟩
noncomputable def qDx (N:Nat) (v0:Int):Option (qc [i4]):=some (((inR v0 (-400000000:Int) (400000000:Int)):Bool),())
def qKZ:Gam:=[(118,qao)]
theorem zks:Gam.get qKZ 118=some qao:=rfl
def qAm:Nat→Tree:=fun _=> .done
def qJ4:Nat→Nm:=fun _=>⟨[],[],false⟩
def qMO:Nat→Option Jn:=fun _=>none
def qKe:Nat→Option Nm:=fun _=>none
def q31:Nat→Option Nm:=fun _=>none
theorem ztG:qh qAm (Tryz.f194.body.getD .skip)=true:=by kernel_rfl
def qfn (N:Nat):Tab:={tr:=qAm,lp:=qJ4,ex:=qKe,rg:=q31,jn:=qMO,fuel:=N}
theorem zwd (N:Nat):(qfn N).pins=false:=rfl
theorem zy6 (N:Nat):qk Tryz.prog (qfn N):=qo fun _=>rfl
theorem ziu (N:Nat) (i:Nat):(qfn N).tr i=qAm i:=rfl
theorem znM (N:Nat) (i:Nat):(qfn N).lp i=qJ4 i:=rfl
theorem zlN (N:Nat) (i:Nat):(qfn N).ex i=qKe i:=rfl
theorem zc8 (N:Nat) (i:Nat):(qfn N).rg i=q31 i:=rfl
theorem znn (N:Nat) (i:Nat):(qfn N).jn i=qMO i:=rfl
theorem zBj (N:Nat):(qfn N).fuel=N:=rfl
theorem ztW (N:Nat) (v0:Int):qf tt qKZ (qfn N) (Tryz.f194.body.getD .skip) (qm tt true [i4] [.tmp 2]) (qp [i3] 5 (v0,()))=qDx N v0:=by
 rw [qDx];unfold Tryz.f194
 simp (maxSteps:=10000000) -implicitDefEqProofs [ziu,qAm,znM,qJ4,zlN,qKe,zc8,q31,znn,qMO,zBj,zwd,zks,qao]
 try rfl
noncomputable def qDI (N:Nat) (v0:Int):Option (qc [i4]):=bif (decide ((-400000000:Int)≤v0))then (some ((decide (v0≤(400000000:Int))),()))else (some (false,()))
def q6P:Gam:=[]
def qBa:Nat→Tree:=fun _=> .done
def qYM:Nat→Nm:=fun _=>⟨[],[],false⟩
def qWT:Nat→Option Jn:=fun _=>none
def q30:Nat→Option Nm:=fun _=>none
def qU2:Nat→Option Nm:=fun _=>none
theorem zkx:qh qBa (Tryz.f204.body.getD .skip)=true:=by kernel_rfl
def qfX (N:Nat):Tab:={tr:=qBa,lp:=qYM,ex:=q30,rg:=qU2,jn:=qWT,fuel:=N}
theorem zsd (N:Nat):(qfX N).pins=false:=rfl
theorem zhW (N:Nat):qk Tryz.prog (qfX N):=qo fun _=>rfl
theorem zoN (N:Nat) (i:Nat):(qfX N).tr i=qBa i:=rfl
theorem zng (N:Nat) (i:Nat):(qfX N).lp i=qYM i:=rfl
theorem zrk (N:Nat) (i:Nat):(qfX N).ex i=q30 i:=rfl
theorem zgr (N:Nat) (i:Nat):(qfX N).rg i=qU2 i:=rfl
theorem zz5 (N:Nat) (i:Nat):(qfX N).jn i=qWT i:=rfl
theorem zqF (N:Nat):(qfX N).fuel=N:=rfl
theorem zdN (N:Nat) (v0:Int):qf tt q6P (qfX N) (Tryz.f204.body.getD .skip) (qm tt true [i4] [.tmp 2]) (qp [i3] 9 (v0,()))=qDI N v0:=by
 rw [qDI];unfold Tryz.f204
 simp (maxSteps:=10000000) -implicitDefEqProofs [zoN,qBa,zng,qYM,zrk,q30,zgr,qU2,zz5,qWT,zqF,zsd]
 try rfl
def qcu:G:={ps:=[i3],rs:=[i4],dp:=true,pre:=fun _=>True,fn:=fun x=>(qae x.1,())}
def qel:G:={ps:=[i3],rs:=[i4],dp:=true,pre:=fun _=>True,fn:=fun x=>(qae x.1,())}
theorem zA5 (x:Int): ∃N,qDx N x=some (qae x,()):=⟨0,by
 simp only [qDx,inR,qae]⟩
theorem qDC:Sound Tryz.prog 194 qcu:=qr (tt:=tt) (Γ:=qKZ) hT (qg qgN qn) hm (fn:=Tryz.f194) Tryz.func194 (c:=Tryz.f194.body.getD .skip) (by kernel_rfl) (by kernel_rfl) fun x hx=>by
 obtain ⟨N,h⟩:=zA5 x.1
 exact ⟨qfn N,ztG,qu _,zy6 N,(ztW N x.1).trans h⟩
theorem znH (x:Int): ∃N,qDI N x=some (qae x,()):=⟨0,by
 simp only [qDI,qae]
 by_cases h1: -400000000≤x<;>by_cases h2:x≤400000000<;>simp [h1,h2]⟩
theorem qQn:Sound Tryz.prog 204 qel:=qr (tt:=tt) (Γ:=q6P) hT qn hm (fn:=Tryz.f204) Tryz.func204 (c:=Tryz.f204.body.getD .skip) (by kernel_rfl) (by kernel_rfl) fun x hx=>by
 obtain ⟨N,h⟩:=znH x.1
 exact ⟨qfX N,zkx,qu _,zhW N,(zdN N x.1).trans h⟩
noncomputable def qef (N:Nat) (v11:List (Val (.int .i64))) (v13:Int) (k2:Int→Option (qc [i3])):Nat→Int→Int→Option (qc [i3])
 | 0,_,_=>none
 | n+1,v12,v14=>bif (!(decide (v14=(0:Int))))then (chk (v14≠0) (qef N v11 v13 k2 n v14 (v12.tmod v14)))else (k2 v12)
noncomputable def qig (N:Nat) (v2:List (Val (.int .i64))) (k0:Int→Option (qc [i3])):Nat→Int→Int→Option (qc [i3])
 | 0,_,_=>none
 | n+1,v3,v4=>bif (decide (v4<(v2.length:Int)))then (chk (0≤v4∧v4<(v2.length:Int)) (chk (qbQ ((v2.getD v4.toNat (qb (.int .i64))):Int)) (qef N v2 v4 (fun (v16:Int)=>qig N v2 k0 n v16 (IntKind.i64.wrap (v4+(1:Int)))) N v3 ((qal ((v2.getD v4.toNat (qb (.int .i64))):Int)):Int))))else (k0 v3)
noncomputable def qBk (N:Nat) (v0:List (Val (.int .i64))) (v1:Int):Option (qc [i3]):=chk (qbQ v1) (qig N v0 (fun (v18:Int)=>some (v18,())) N ((qal v1):Int) (0:Int))
def qgV:Gam:=[(278,qb1)]
theorem qyf:Gam.get qgV 278=some qb1:=rfl
def qst:Nm:=⟨[true,false,false,false,false,true,true,true],[],false⟩
theorem qqD:qst.zero=false:=rfl
theorem qs7:qst.fix=[]:=rfl
theorem qyk:qst.keep=[true,false,false,false,false,true,true,true]:=rfl
def qvb:Nm:=⟨[true,false,false,false,false,true,true],[],false⟩
theorem qrO:qvb.zero=false:=rfl
theorem qsY:qvb.fix=[]:=rfl
theorem qw2:qvb.keep=[true,false,false,false,false,true,true]:=rfl
def qHi:Nm:=⟨[false,false,false,false,false,true],[],false⟩
theorem qwB:qHi.zero=false:=rfl
theorem qum:qHi.fix=[]:=rfl
theorem qxZ:qHi.keep=[false,false,false,false,false,true]:=rfl
def qFc:Nm:=⟨[true,false,false,false,false,true,true],[],false⟩
theorem qqI:qFc.zero=false:=rfl
theorem qxo:qFc.fix=[]:=rfl
theorem qp8:qFc.keep=[true,false,false,false,false,true,true]:=rfl
def qiA:Nat→Tree:=fun i=>if i=7 then .quiet 0 (.quiet 1 (.quiet 2 (.quiet 3 (.quiet 4 (.quiet 5 .done)))))else .done
def qmw:Nat→Nm:=fun i=>if i=6 then qst else if i=3 then qvb else ⟨[],[],false⟩
def qml:Nat→Option Jn:=fun _=>none
def qls:Nat→Option Nm:=fun i=>if i=0 then some qHi else if i=2 then some qFc else none
def qjg:Nat→Option Nm:=fun _=>none
theorem zi5:qh qiA (Tryz.f231.body.getD .skip)=true:=by kernel_rfl
def qcE (N:Nat):Tab:={tr:=qiA,lp:=qmw,ex:=qls,rg:=qjg,jn:=qml,fuel:=N}
theorem qxm (N:Nat):(qcE N).pins=false:=rfl
theorem zvA (N:Nat):qk Tryz.prog (qcE N):=qo fun _=>rfl
theorem qtp (N:Nat) (i:Nat):(qcE N).tr i=qiA i:=rfl
theorem qsM (N:Nat) (i:Nat):(qcE N).lp i=qmw i:=rfl
theorem qrL (N:Nat) (i:Nat):(qcE N).ex i=qls i:=rfl
theorem qqT (N:Nat) (i:Nat):(qcE N).rg i=qjg i:=rfl
theorem qxv (N:Nat) (i:Nat):(qcE N).jn i=qml i:=rfl
theorem qrP (N:Nat):(qcE N).fuel=N:=rfl
noncomputable def q7l:Code:=cut [true,true,false,true,true,true,true,false,true,true,true,true] (Tryz.f231.body.getD .skip)
theorem zpD {N:Nat} {Q:X→St→Option (qc [i3])} {e:List LV} {h:List Blk}:qf tt qgV (qcE N) q7l Q ⟨e,h⟩=qf tt qgV (qcE N) (cut [true,true,false,true,true,true,true,false,true,true,true,true] (Tryz.f231.body.getD .skip)) Q ⟨e,h⟩:=rfl
theorem zyU (N:Nat) (v11:List (Val (.int .i64))) (v13:Int) {k2:Int→Option (qc [i3])} {Q:X→St→Option (qc [i3])} {c:Code} (hc:c=q7l) (hret: ∀st,Q .ret st=qC tt true [i3] [.tmp 4] st) (h2: ∀(v15:Int),Q (.exit 2) ⟨[.one (.sl 3 (.int .i64) v11 0),u,u,u,u,.one (.int .i64 v15),.one (.int .i64 v13),u,u,u,u,u,u,u,u,u,u,u,u,u,u,u,u,u,u,u,u,u],[]⟩=k2 v15): ∀(n:Nat) (v12:Int) (v14:Int),qD (qf tt qgV (qcE N) c) false qst Q n ⟨[.one (.sl 3 (.int .i64) v11 0),u,u,u,u,.one (.int .i64 v12),.one (.int .i64 v13),.one (.int .i64 v14),u,u,u,u,u,u,u,u,u,u,u,u,u,u,u,u,u,u,u,u],[]⟩=qef N v11 v13 k2 n v12 v14:=by
 subst hc;intro n;induction n with
 | zero=>intros;rfl
 | succ n ih=>
   intro v12 v14
   rw [qN,zpD,qef];unfold Tryz.f231
   simp (maxSteps:=10000000) -implicitDefEqProofs [qtp,qiA,qsM,qmw,qrL,qls,qqT,qjg,qxv,qml,qrP,qxm,qs7,qyk,qqD,qsY,qw2,qrO,qum,qxZ,qwB,qxo,qp8,qqI,qyf,qb1,hret,h2,ih]
noncomputable def zao:Code:=cut [true,true,false,true,true,true] (Tryz.f231.body.getD .skip)
theorem zwo {N:Nat} {Q:X→St→Option (qc [i3])} {e:List LV} {h:List Blk}:qf tt qgV (qcE N) zao Q ⟨e,h⟩=qf tt qgV (qcE N) (cut [true,true,false,true,true,true] (Tryz.f231.body.getD .skip)) Q ⟨e,h⟩:=rfl
theorem zq6 (N:Nat) (v2:List (Val (.int .i64))) {k0:Int→Option (qc [i3])} {Q:X→St→Option (qc [i3])} {c:Code} (hc:c=zao) (hret: ∀st,Q .ret st=qC tt true [i3] [.tmp 4] st) (h0: ∀(v17:Int),Q (.exit 0) ⟨[u,u,u,u,u,.one (.int .i64 v17),u,u,u,u,u,u,u,u,u,u,u,u,u,u,u,u,u,u,u,u,u,u],[]⟩=k0 v17): ∀(n:Nat) (v3:Int) (v4:Int),qD (qf tt qgV (qcE N) c) false qvb Q n ⟨[.one (.sl 3 (.int .i64) v2 0),u,u,u,u,.one (.int .i64 v3),.one (.int .i64 v4),u,u,u,u,u,u,u,u,u,u,u,u,u,u,u,u,u,u,u,u,u],[]⟩=qig N v2 k0 n v3 v4:=by
 subst hc;intro n;induction n with
 | zero=>intros;rfl
 | succ n ih=>
   intro v3 v4
   rw [qN,zwo];unfold Tryz.f231
   simp (maxSteps:=10000000) -implicitDefEqProofs [qtp,qiA,qsM,qmw,qrL,qls,qqT,qjg,qxv,qml,qrP,qxm,qs7,qyk,qqD,qsY,qw2,qrO,qum,qxZ,qwB,qxo,qp8,qqI,qyf,qb1,hret,h0,ih]
   rewrite [zyU (k2:=(fun (v16:Int)=>qig N v2 k0 n v16 (IntKind.i64.wrap (v4+(1:Int))))) N _ _ ?_ ?_ ?_]
   ·rewrite [qig];first | rfl | simp (maxSteps:=10000000) -implicitDefEqProofs [ih]
   ·rfl
   ·intro;simp only [qK,qL,qJ,qB,hret]
   ·intro v16;simp (maxSteps:=10000000) -implicitDefEqProofs [qtp,qiA,qsM,qmw,qrL,qls,qqT,qjg,qxv,qml,qrP,qxm,qs7,qyk,qqD,qsY,qw2,qrO,qum,qxZ,qwB,qxo,qp8,qqI,qyf,qb1,hret,h0,ih]
theorem zoa (N:Nat) (v0:List (Val (.int .i64))) (v1:Int):qf tt qgV (qcE N) (Tryz.f231.body.getD .skip) (qm tt true [i3] [.tmp 4]) (qp [i25,i3] 28 (v0,v1,()))=qBk N v0 v1:=by
 unfold Tryz.f231
 simp (maxSteps:=10000000) -implicitDefEqProofs [qtp,qiA,qsM,qmw,qrL,qls,qqT,qjg,qxv,qml,qrP,qxm,qs7,qyk,qqD,qsY,qw2,qrO,qum,qxZ,qwB,qxo,qp8,qqI,qyf,qb1]
 rewrite [zq6 (k0:=(fun (v18:Int)=>some (v18,()))) N _ ?_ ?_ ?_]
 ·rewrite [qBk];first | rfl | simp (maxSteps:=10000000) -implicitDefEqProofs []
 ·rfl
 ·intro;simp only [qK,qL,qJ,qB]
 ·intro v18;simp (maxSteps:=10000000) -implicitDefEqProofs [qtp,qiA,qsM,qmw,qrL,qls,qqT,qjg,qxv,qml,qrP,qxm,qs7,qyk,qqD,qsY,qw2,qrO,qum,qxZ,qwB,qxo,qp8,qqI,qyf,qb1]
theorem q9u (N:Nat) (xs:List (Val (.int .i64))) (v:Int) (k:Int→Option (qc [i3])): ∀(n b a:Nat),b<n→qef N xs v k n (a:Int) (b:Int)=k (Nat.gcd a b:Nat)
 | 0,_,_,h=>by omega
 | n+1,b,a,h=>by
   rw [qef]
   by_cases hb:b=0
   ·subst hb;simp
   ·have hb': ¬((b:Int)=0):=by omega
    have hlt:a % b<b:=Nat.mod_lt _ (by omega)
    have hm:((a:Int).tmod (b:Int))=((a % b:Nat):Int):=by rw [Int.tmod_eq_emod_of_nonneg (by omega)];rfl
    simp only [hb',decide_false,Bool.not_false,cond_true,ne_eq,not_false_eq_true,za0]
    rw [hm,q9u N xs v k n (a % b) b (by omega)]
    congr 2
    rw [Nat.gcd_comm b,←Nat.gcd_rec,Nat.gcd_comm]
theorem q7c (N:Nat) (xs:List (Val (.int .i64))) (v v':Int) (k:Int→Option (qc [i3])): ∀(n:Nat) (a b:Int),qef N xs v k n a b=qef N xs v' k n a b
 | 0,_,_=>rfl
 | n+1,a,b=>by rw [qef,qef,q7c N xs v v' k n]
theorem q8P (N:Nat) (hN:9223372036854775807<N) (ys:List (Val (.int .i64))): ∀(xs:List Int) (i g:Nat) (k:Int→Option (qc [i3])),(∀x∈xs,inI x)→qad (fun _ x s K=>chk (qbQ x) (qef N ys 0 K N s (qal x))) i xs (g:Int) k=k (gL g xs:Nat)
 | [],_,_,_,_=>rfl
 | x::xs,i,g,k,hx=>by
   have h1:=hx x (by simp)
   rw [qad,qe (show qbQ x from h1)]
   simp only [qal]
   rw [q9u _ _ _ _ _ _ _ (by unfold inI at h1;omega)]
   exact q8P N hN ys xs (i+1) _ k fun y hy=>hx y (by simp [hy])
def qc0:G:={ps:=[i25,i3],rs:=[i3],dp:=true,pre:=fun x=>qfC x.1 x.2.1,fn:=fun x=>(qcI x.1 x.2.1,())}
theorem zyB (xs:List (Val (.int .i64))) (k:Int) (h:qfC xs k): ∃N,qBk N xs k=some (qcI xs k,()):=⟨9223372036854775808+xs.length,by
 rw [qBk,qe (show qbQ k from h.2.1)]
 rw [qaZ (F:=fun n i s=>qig _ xs _ n s i) (step:=fun _ x s K=>chk (qbQ x) (qef (9223372036854775808+xs.length) xs 0 K (9223372036854775808+xs.length) s (qal x))) (k:=fun s=>some (s,())) h.1 ?_ ?_ _ _ (by omega)]
 ·exact q8P _ (by omega) xs xs 0 k.natAbs _ h.2.2
 ·intro n i s hi
  rw [qig,qj (by omega),qe (by omega),qI hi]
  congr 1
  exact q7c ..
 ·intro n i s hi
  rw [qig,qi (by omega)]⟩
theorem qJV:Sound Tryz.prog 231 qc0:=qr (tt:=tt) (Γ:=qgV) hT (qg qI8 qn) hm (fn:=Tryz.f231) Tryz.func231 (c:=Tryz.f231.body.getD .skip) (by kernel_rfl) (by kernel_rfl) fun x hx=>by
 obtain ⟨N,h⟩:=zyB x.1 x.2.1 hx
 exact ⟨qcE N,zi5,qu _,zvA N,(zoa N x.1 x.2.1).trans h⟩
def qP (a:Val qa):Bool:=decide ((a.1:List Int).length≤4)&&qae a.2.1&&(a.1:List Int).all qae&&decide (((gL (Int.natAbs a.2.1) a.1:Nat):Int)≤1)
noncomputable def qh2 (N:Nat) (v2:List (Val (.int .i64))) (v3:Int) (v4:Bool) (k0:Unit→Option (qc [i4])):Nat→Int→Option (qc [i4])
 | 0,_=>none
 | n+1,v1=>bif (decide (v1<(v2.length:Int)))then (chk (0≤v1∧v1<(v2.length:Int)) (bif (!((qae ((v2.getD v1.toNat (qb (.int .i64))):Int)):Bool))then (some (false,()))else (qh2 N v2 v3 v4 k0 n (IntKind.i64.wrap (v1+(1:Int))))))else (k0 ())
noncomputable def qDT (N:Nat) (v0:Val qa):Option (qc [i4]):=bif (decide ((4:Int)<((v0.1:List (Val (.int .i64))).length:Int)))then (some (false,()))else (bif (!((qae (v0.2.1:Int)):Bool))then (some (false,()))else (qh2 N (v0.1:List (Val (.int .i64))) (v0.2.1:Int) (v0.2.2:Bool) (fun (_:Unit)=>chk (qfC (v0.1:List (Val (.int .i64))) (v0.2.1:Int)) (some ((decide (((qcI (v0.1:List (Val (.int .i64))) (v0.2.1:Int)):Int)≤(1:Int))),()))) N (0:Int)))
def qjo:Gam:=[(194,qcu),(231,qc0)]
theorem qU7:Gam.get qjo 194=some qcu:=rfl
theorem qZ9:Gam.get qjo 231=some qc0:=rfl
def qs4:Nm:=⟨[false,true,false,true],[],false⟩
theorem q3g:qs4.zero=false:=rfl
theorem qTf:qs4.fix=[]:=rfl
theorem qTe:qs4.keep=[false,true,false,true]:=rfl
def qBJ:Nm:=⟨[false,true],[],false⟩
theorem qT8:qBJ.zero=false:=rfl
theorem qQH:qBJ.fix=[]:=rfl
theorem q0s:qBJ.keep=[false,true]:=rfl
def qnp:Nat→Tree:=fun _=> .done
def qqS:Nat→Nm:=fun i=>if i=4 then qs4 else ⟨[],[],false⟩
def qt3:Nat→Option Jn:=fun _=>none
def qy5:Nat→Option Nm:=fun i=>if i=0 then some qBJ else none
def qy8:Nat→Option Nm:=fun _=>none
theorem zAf:qh qnp (Tryz.f193.body.getD .skip)=true:=by kernel_rfl
def qde (N:Nat):Tab:={tr:=qnp,lp:=qqS,ex:=qy5,rg:=qy8,jn:=qt3,fuel:=N}
theorem qYJ (N:Nat):(qde N).pins=false:=rfl
theorem zy0 (N:Nat):qk Tryz.prog (qde N):=qo fun _=>rfl
theorem qSU (N:Nat) (i:Nat):(qde N).tr i=qnp i:=rfl
theorem q04 (N:Nat) (i:Nat):(qde N).lp i=qqS i:=rfl
theorem q3F (N:Nat) (i:Nat):(qde N).ex i=qy5 i:=rfl
theorem qPZ (N:Nat) (i:Nat):(qde N).rg i=qy8 i:=rfl
theorem qNp (N:Nat) (i:Nat):(qde N).jn i=qt3 i:=rfl
theorem qOK (N:Nat):(qde N).fuel=N:=rfl
noncomputable def q43:Code:=cut [true,true,false,true,true,true] (Tryz.f193.body.getD .skip)
theorem zwp {N:Nat} {Q:X→St→Option (qc [i4])} {e:List LV} {h:List Blk}:qf tt qjo (qde N) q43 Q ⟨e,h⟩=qf tt qjo (qde N) (cut [true,true,false,true,true,true] (Tryz.f193.body.getD .skip)) Q ⟨e,h⟩:=rfl
theorem zky (N:Nat) (v2:List (Val (.int .i64))) (v3:Int) (v4:Bool) {k0:Unit→Option (qc [i4])} {Q:X→St→Option (qc [i4])} {c:Code} (hc:c=q43) (hret: ∀st,Q .ret st=qC tt true [i4] [.tmp 2] st) (h0:Q (.exit 0) ⟨[u,.one (.ptr 0 0 0),u,u,u,u,u,u,u,u,u,u,u,u,u,u,u,u,u,u,u,u,u,u,u,u,u,u,u,u,u,u,u,u],[.box [.sl 3 (.int .i64) v2 1,.int .i64 v3,.bool v4]]⟩=k0 ()): ∀(n:Nat) (v1:Int),qD (qf tt qjo (qde N) c) false qs4 Q n ⟨[u,.one (.ptr 0 0 0),u,.one (.int .i64 v1),u,u,u,u,u,u,u,u,u,u,u,u,u,u,u,u,u,u,u,u,u,u,u,u,u,u,u,u,u,u],[.box [.sl 3 (.int .i64) v2 1,.int .i64 v3,.bool v4]]⟩=qh2 N v2 v3 v4 k0 n v1:=by
 subst hc;intro n;induction n with
 | zero=>intros;rfl
 | succ n ih=>
   intro v1
   rw [qN,zwp,qh2];unfold Tryz.f193
   simp (maxSteps:=10000000) -implicitDefEqProofs [qSU,qnp,q04,qqS,q3F,qy5,qPZ,qy8,qNp,qt3,qOK,qYJ,qTf,qTe,q3g,qQH,q0s,qT8,qU7,qZ9,qcu,qc0,hret,h0,ih]
theorem zlh (N:Nat) (v0:Val qa):qf tt qjo (qde N) (Tryz.f193.body.getD .skip) (qm tt true [i4] [.tmp 2]) (qp [ql] 34 (v0,()))=qDT N v0:=by
 unfold Tryz.f193
 simp (maxSteps:=10000000) -implicitDefEqProofs [qSU,qnp,q04,qqS,q3F,qy5,qPZ,qy8,qNp,qt3,qOK,qYJ,qTf,qTe,q3g,qQH,q0s,qT8,qU7,qZ9,qcu,qc0]
 rewrite [zky (k0:=(fun (_:Unit)=>chk (qfC (v0.1:List (Val (.int .i64))) (v0.2.1:Int)) (some ((decide (((qcI (v0.1:List (Val (.int .i64))) (v0.2.1:Int)):Int)≤(1:Int))),())))) N _ _ _ ?_ ?_ ?_]
 ·rewrite [qDT];first | rfl | simp (maxSteps:=10000000) -implicitDefEqProofs []
 ·rfl
 ·intro;simp only [qK,qL,qJ,qB]
 ·simp (maxSteps:=10000000) -implicitDefEqProofs [qSU,qnp,q04,qqS,q3F,qy5,qPZ,qy8,qNp,qt3,qOK,qYJ,qTf,qTe,q3g,qQH,q0s,qT8,qU7,qZ9,qcu,qc0]
noncomputable def qiv (N:Nat) (v1:List (Val (.int .i64))) (v2:Int) (v4:List (Val (.int .i64))) (v5:Int) (v6:Bool) (k0:Unit→Option (qc [i4])):Nat→Int→Option (qc [i4])
 | 0,_=>none
 | n+1,v3=>bif (decide (v3<v2))then (chk (0≤v3∧v3<(v1.length:Int)) (bif (!((qae ((v1.getD v3.toNat (qb (.int .i64))):Int)):Bool))then (some (false,()))else (qiv N v1 v2 v4 v5 v6 k0 n (IntKind.i64.wrap (v3+(1:Int))))))else (k0 ())
noncomputable def qFC (N:Nat) (v0:Val qa):Option (qc [i4]):=bif (decide ((4:Int)<((v0.1:List (Val (.int .i64))).length:Int)))then (some (false,()))else (bif (!((qae (v0.2.1:Int)):Bool))then (some (false,()))else (qiv N (v0.1:List (Val (.int .i64))) ((v0.1:List (Val (.int .i64))).length:Int) (v0.1:List (Val (.int .i64))) (v0.2.1:Int) (v0.2.2:Bool) (fun (_:Unit)=>chk (qfq (v0.1:List (Val (.int .i64)))) (chk (qcr ((qbd (v0.1:List (Val (.int .i64)))):Int) (v0.2.1:Int)) (some ((decide (((q3 ((qbd (v0.1:List (Val (.int .i64)))):Int) (v0.2.1:Int)):Int)≤(1:Int))),())))) N (0:Int)))
def qiJ:Gam:=[(204,qel),(280,qbx),(282,qci)]
theorem qNw:Gam.get qiJ 204=some qel:=rfl
theorem qJM:Gam.get qiJ 280=some qbx:=rfl
theorem qL0:Gam.get qiJ 282=some qci:=rfl
def qyS:Nm:=⟨[false,true,false,false,false,false,false,false,false,false,false,false,false,false,false,false,true,true,true],[],false⟩
theorem q0L:qyS.zero=false:=rfl
theorem qWu:qyS.fix=[]:=rfl
theorem qSe:qyS.keep=[false,true,false,false,false,false,false,false,false,false,false,false,false,false,false,false,true,true,true]:=rfl
def qGr:Nm:=⟨[false,true],[],false⟩
theorem qIJ:qGr.zero=false:=rfl
theorem qOV:qGr.fix=[]:=rfl
theorem qYL:qGr.keep=[false,true]:=rfl
def qHj:Nm:=⟨[false,false,true],[],false⟩
theorem qIN:qHj.zero=false:=rfl
theorem q1i:qHj.fix=[]:=rfl
theorem qYe:qHj.keep=[false,false,true]:=rfl
def qmV:Nat→Tree:=fun i=>if i=9 then .quiet 0 (.quiet 1 (.alt 2 (.quiet 3 (.quiet 4 (.alt 5 (.quiet 6 (.quiet 7 .done)) .stop))) (.alt 3 (.alt 2 (.quiet 4 (.alt 5 (.quiet 6 (.quiet 7 .done)) .stop)) (.alt 4 (.alt 2 (.alt 5 (.quiet 6 (.quiet 7 .done)) .stop) .stop) .stop)) .stop)))else .done
def qyJ:Nat→Nm:=fun i=>if i=4 then qyS else ⟨[],[],false⟩
def qrt:Nat→Option Jn:=fun _=>none
def qtX:Nat→Option Nm:=fun i=>if i=0 then some qGr else none
def quQ:Nat→Option Nm:=fun i=>if i=9 then some qHj else none
theorem zyS:qh qmV (Tryz.f279.body.getD .skip)=true:=by kernel_rfl
def qed (N:Nat):Tab:={tr:=qmV,lp:=qyJ,ex:=qtX,rg:=quQ,jn:=qrt,fuel:=N}
theorem qQv (N:Nat):(qed N).pins=false:=rfl
theorem zji (N:Nat):qk Tryz.prog (qed N):=qo fun _=>rfl
theorem qPc (N:Nat) (i:Nat):(qed N).tr i=qmV i:=rfl
theorem qRy (N:Nat) (i:Nat):(qed N).lp i=qyJ i:=rfl
theorem q3o (N:Nat) (i:Nat):(qed N).ex i=qtX i:=rfl
theorem qZW (N:Nat) (i:Nat):(qed N).rg i=quQ i:=rfl
theorem qZS (N:Nat) (i:Nat):(qed N).jn i=qrt i:=rfl
theorem qWM (N:Nat):(qed N).fuel=N:=rfl
noncomputable def zak:Code:=cut [true,true,false,true,true,true] (Tryz.f279.body.getD .skip)
theorem zjV {N:Nat} {Q:X→St→Option (qc [i4])} {e:List LV} {h:List Blk}:qf tt qiJ (qed N) zak Q ⟨e,h⟩=qf tt qiJ (qed N) (cut [true,true,false,true,true,true] (Tryz.f279.body.getD .skip)) Q ⟨e,h⟩:=rfl
theorem zst (N:Nat) (v1:List (Val (.int .i64))) (v2:Int) (v4:List (Val (.int .i64))) (v5:Int) (v6:Bool) {k0:Unit→Option (qc [i4])} {Q:X→St→Option (qc [i4])} {c:Code} (hc:c=zak) (hret: ∀st,Q .ret st=qC tt true [i4] [.tmp 2] st) (h0:Q (.exit 0) ⟨[u,.one (.ptr 0 0 0),u,u,u,u,u,u,u,u,u,u,u,u,u,u,u,u,u,u,u,u,u,u,u,u,u,u,u,u,u,u,u],[.box [.sl 3 (.int .i64) v4 1,.int .i64 v5,.bool v6]]⟩=k0 ()): ∀(n:Nat) (v3:Int),qD (qf tt qiJ (qed N) c) false qyS Q n ⟨[u,.one (.ptr 0 0 0),u,u,u,u,u,u,u,u,u,u,u,u,u,u,.one (.sl 3 (.int .i64) v1 1),.one (.int .i64 v2),.one (.int .i64 v3),u,u,u,u,u,u,u,u,u,u,u,u,u,u],[.box [.sl 3 (.int .i64) v4 1,.int .i64 v5,.bool v6]]⟩=qiv N v1 v2 v4 v5 v6 k0 n v3:=by
 subst hc;intro n;induction n with
 | zero=>intros;rfl
 | succ n ih=>
   intro v3
   rw [qN,zjV,qiv];unfold Tryz.f279
   simp (maxSteps:=10000000) -implicitDefEqProofs [qPc,qmV,qRy,qyJ,q3o,qtX,qZW,quQ,qZS,qrt,qWM,qQv,qWu,qSe,q0L,qOV,qYL,qIJ,q1i,qYe,qIN,qNw,qJM,qL0,qel,qbx,qci,hret,h0,ih]
theorem zBv (N:Nat) (v0:Val qa):qf tt qiJ (qed N) (Tryz.f279.body.getD .skip) (qm tt true [i4] [.tmp 2]) (qp [ql] 33 (v0,()))=qFC N v0:=by
 unfold Tryz.f279
 simp (maxSteps:=10000000) -implicitDefEqProofs [qPc,qmV,qRy,qyJ,q3o,qtX,qZW,quQ,qZS,qrt,qWM,qQv,qWu,qSe,q0L,qOV,qYL,qIJ,q1i,qYe,qIN,qNw,qJM,qL0,qel,qbx,qci]
 rewrite [zst (k0:=(fun (_:Unit)=>chk (qfq (v0.1:List (Val (.int .i64)))) (chk (qcr ((qbd (v0.1:List (Val (.int .i64)))):Int) (v0.2.1:Int)) (some ((decide (((q3 ((qbd (v0.1:List (Val (.int .i64)))):Int) (v0.2.1:Int)):Int)≤(1:Int))),()))))) N _ _ _ _ _ ?_ ?_ ?_]
 ·rewrite [qFC];first | rfl | simp (maxSteps:=10000000) -implicitDefEqProofs []
 ·rfl
 ·intro;simp only [qK,qL,qJ,qB]
 ·simp (maxSteps:=10000000) -implicitDefEqProofs [qPc,qmV,qRy,qyJ,q3o,qtX,qZW,quQ,qZS,qrt,qWM,qQv,qWu,qSe,q0L,qOV,qYL,qIJ,q1i,qYe,qIN,qNw,qJM,qL0,qel,qbx,qci]
theorem qeX {n:Int} (h:qae n=true):inI n:=by
 unfold qae at h;unfold inI;have:=of_decide_eq_true h;omega
def qa9:G:={ps:=[ql],rs:=[i4],dp:=true,pre:=fun _=>True,fn:=fun x=>(qP x.1,())}
def qaV:G:={ps:=[ql],rs:=[i4],dp:=true,pre:=fun _=>True,fn:=fun x=>(qP x.1,())}
theorem znd (N:Nat) (xs:List (Val (.int .i64))) (c:Int) (b:Bool) (K:Unit→Option (qc [i4])) (hl:xs.length≤1048576) (n:Nat) (hn:xs.length<n):qh2 N xs c b K n 0=bif List.all (α:=Int) xs qae then K ()else some (false,()):=
 (qaZ (F:=fun n i (_:Unit)=>qh2 N xs c b K n i) (step:=fun _ x _ K=>bif qae x then K ()else some (false,())) (k:=K) hl (fun n i s hi=>by rw [qh2,qj (by omega),qe (by omega),qI hi,qbi]) (fun n i s hi=>by rw [qh2,qi (by omega)]) n () hn).trans (qgM xs 0)
theorem zer (N:Nat) (xs ys:List (Val (.int .i64))) (c:Int) (b:Bool) (K:Unit→Option (qc [i4])) (hl:xs.length≤1048576) (n:Nat) (hn:xs.length<n):qiv N xs xs.length ys c b K n 0=bif List.all (α:=Int) xs qae then K ()else some (false,()):=
 (qaZ (F:=fun n i (_:Unit)=>qiv N xs xs.length ys c b K n i) (step:=fun _ x _ K=>bif qae x then K ()else some (false,())) (k:=K) hl (fun n i s hi=>by rw [qiv,qj (by omega),qe (by omega),qI hi,qbi]) (fun n i s hi=>by rw [qiv,qi (by omega)]) n () hn).trans (qgM xs 0)
theorem zcY (a:Val qa): ∃N,qDT N a=some (qP a,()):=⟨(a.1:List (Val (.int .i64))).length+1,by
 obtain ⟨xs,c,b⟩:=a
 change List (Val (.int .i64))at xs
 change Int at c
 change Bool at b
 rw [qDT,qP]
 dsimp only
 by_cases h4:xs.length≤4
 ·rw [qi (by omega)]
  cases hc:qae c with
  | false=>simp
  | true=>
    rw [znd _ xs _ _ _ (by omega) _ (Nat.lt_succ_self _)]
    cases ha:List.all (α:=Int) xs qae with
    | false=>simp
    | true=>
      rw [qe (show qfC xs c from ⟨by omega,qeX hc,fun x hx=>qeX (List.all_eq_true.1 ha x hx)⟩)]
      simp [h4,qcI]
      rfl
 ·rw [qj (by omega)]
  simp [h4]⟩
theorem qrx:Sound Tryz.prog 193 qa9:=qr (tt:=tt) (Γ:=qjo) hT (qg qDC (qg qJV qn)) hm (fn:=Tryz.f193) Tryz.func193 (c:=Tryz.f193.body.getD .skip) (by kernel_rfl) (by kernel_rfl) fun x hx=>by
 obtain ⟨N,h⟩:=zcY x.1
 exact ⟨qde N,zAf,qu _,zy0 N,(zlh N x.1).trans h⟩
theorem q15: ∀(xs:List Int) (g:Nat),(g:Int)≤9223372036854775807→(∀x∈xs,inI x)→inI (gL g xs:Nat)
 | [],g,h,_=>by unfold inI gL;omega
 | x::xs,g,h,hx=>q15 xs _ (q5N h (hx x (by simp))).2 fun y hy=>hx y (by simp [hy])
theorem zsD (a:Val qa): ∃N,qFC N a=some (qP a,()):=⟨(a.1:List (Val (.int .i64))).length+1,by
 obtain ⟨xs,c,b⟩:=a
 change List (Val (.int .i64))at xs
 change Int at c
 change Bool at b
 rw [qFC,qP]
 dsimp only
 by_cases h4:xs.length≤4
 ·rw [qi (by omega)]
  cases hc:qae c with
  | false=>simp
  | true=>
    rw [zer _ xs _ _ _ _ (by omega) _ (Nat.lt_succ_self _)]
    cases ha:List.all (α:=Int) xs qae with
    | false=>simp
    | true=>
      have hx: ∀x∈xs,inI x:=fun x hx=>qeX (List.all_eq_true.1 ha x hx)
      have e:Nat.gcd (gL 0 xs) c.natAbs=gL c.natAbs xs:=by rw [←qHe,Nat.gcd_zero_left]
      rw [qe (show qfq xs from ⟨by omega,hx⟩),qe (show qcr (qbd xs) c from ⟨q15 xs 0 (by omega) hx,qeX hc⟩)]
      simp [h4,qbd,q3,e]
 ·rw [qj (by omega)]
  simp [h4]⟩
theorem qnv:Sound Tryz.prog 279 qaV:=qr (tt:=tt) (Γ:=qiJ) hT (qg qQn (qg qxl (qg qBi qn))) hm (fn:=Tryz.f279) Tryz.func279 (c:=Tryz.f279.body.getD .skip) (by kernel_rfl) (by kernel_rfl) fun x hx=>by
 obtain ⟨N,h⟩:=zsD x.1
 exact ⟨qed N,zyS,qu _,zji N,(zBv N x.1).trans h⟩
end Go.T
