/- Whole numbers; atoms; cells; relations: what the functions compute. -/
import Derived.Test.YthefcjjgchekiaaGreatA1
set_option linter.unusedSimpArgs false
set_option linter.unusedVariables false
namespace Go.T
open Go Go.Proofs
set_option maxHeartbeats 1000000
set_option maxRecDepth 100000
def inI (n:Int):Prop:= -9223372036854775807≤n∧n≤9223372036854775807
def qag (n:Int):Int:=(n.natAbs:Int)
def qbE (n:Int):Prop:=inI n
def qS (a b:Int):Int:=(Nat.gcd a.natAbs b.natAbs:Nat)
def qb5 (a b:Int):Prop:=inI a∧inI b
def qcy (xs:List (Val (.int .i64))) (k:Int):Int:=(gL k.natAbs xs:Nat)
def qgs (xs:List (Val (.int .i64))) (k:Int):Prop:=xs.length≤1048576∧inI k∧ ∀x∈xs,inI x
def qa4 (xs:List (Val (.int .i64))):Int:=(gL 0 xs:Nat)
def qgp (xs:List (Val (.int .i64))):Prop:=xs.length≤1048576∧ ∀x∈xs,inI x
def qR (n:Int):Bool:=decide (-400000000≤n∧n≤400000000)
def inR (x a b:Int):Bool:=decide (a≤x∧x≤b)
def qod:G:={ps:=[i3],rs:=[i3],dp:=true,pre:=fun x=>qbE x.1,fn:=fun x=>(qag x.1,())}
noncomputable def qx5 (N:Nat) (v0:Int):Option (qc [i3]):=bif (decide (v0<(0:Int)))then (some ((IntKind.i64.wrap (0 - v0)),()))else (some (v0,()))
def qYw:Gam:=[]
def qyv:Nat→Tree:=fun _=> .done
def qMm:Nat→Nm:=fun _=>⟨[],[],false⟩
def qLv:Nat→Option Jn:=fun _=>none
def qVT:Nat→Option Nm:=fun _=>none
def qQF:Nat→Option Nm:=fun _=>none
theorem zgF:qn qyv (Tryz.f313.body.getD .skip)=true:=by kernel_rfl
def qgt (N:Nat):Tab:={tr:=qyv,lp:=qMm,ex:=qVT,rg:=qQF,jn:=qLv,fuel:=N}
theorem zhV (N:Nat):(qgt N).pins=false:=rfl
theorem zjz (N:Nat):qp Tryz.prog (qgt N):=qv fun _=>rfl
theorem q7b (N:Nat) (i:Nat):(qgt N).tr i=qyv i:=rfl
theorem zgW (N:Nat) (i:Nat):(qgt N).lp i=qMm i:=rfl
theorem zmV (N:Nat) (i:Nat):(qgt N).ex i=qVT i:=rfl
theorem zaX (N:Nat) (i:Nat):(qgt N).rg i=qQF i:=rfl
theorem zkB (N:Nat) (i:Nat):(qgt N).jn i=qLv i:=rfl
theorem zdF (N:Nat):(qgt N).fuel=N:=rfl
theorem zjx (N:Nat) (v0:Int):qe tt qYw (qgt N) (Tryz.f313.body.getD .skip) (qt tt true [i3] [.tmp 2]) (qw [i3] 8 (v0,()))=qx5 N v0:=by
 rw [qx5];unfold Tryz.f313
 simp (maxSteps:=10000000) -implicitDefEqProofs [q7b,qyv,zgW,qMm,zmV,qVT,zaX,qQF,zkB,qLv,zdF,zhV]
 try rfl
theorem zke (n:Int) (h:inI n): ∃N,qx5 N n=some (qag n,()):=⟨0,by
 unfold inI at h
 simp only [qx5,qag]
 by_cases h0:n<0
 ·have e:IntKind.i64.wrap (0 - n)=(n.natAbs:Int):=by rw [qaq (by omega) (by omega)];omega
  simp only [h0,decide_true,cond_true,e]
 ·have e:(n.natAbs:Int)=n:=by omega
  simp [h0,e]⟩
theorem zpG:Sound Tryz.prog 313 qod:=qx (tt:=tt) (Γ:=qYw) hT qu hm (fn:=Tryz.f313) Tryz.func313 (c:=Tryz.f313.body.getD .skip) (by kernel_rfl) (by kernel_rfl) fun x hx=>by
 obtain ⟨N,h⟩:=zke x.1 hx
 exact ⟨qgt N,zgF,qy _,zjz N,(zjx N x.1).trans h⟩
noncomputable def qoh (N:Nat) (k0:Int→Option (qc [i3])):Nat→Int→Int→Option (qc [i3])
 | 0,_,_=>none
 | n+1,v2,v3=>bif (!(decide (v3=(0:Int))))then (chk (v3≠0) (qoh N k0 n v3 (v2.tmod v3)))else (k0 v2)
noncomputable def qyC (N:Nat) (v0:Int) (v1:Int):Option (qc [i3]):=chk (qbE v0) (chk (qbE v1) (qoh N (fun (v5:Int)=>some (v5,())) N ((qag v0):Int) ((qag v1):Int)))
def qnB:Gam:=[(313,qod)]
theorem qKX:Gam.get qnB 313=some qod:=rfl
def qvX:Nm:=⟨[true,true],[],false⟩
theorem qRC:qvX.zero=false:=rfl
theorem qQp:qvX.fix=[]:=rfl
theorem qST:qvX.keep=[true,true]:=rfl
def qBU:Nm:=⟨[true],[],false⟩
theorem qRY:qBU.zero=false:=rfl
theorem qXu:qBU.fix=[]:=rfl
theorem qRe:qBU.keep=[true]:=rfl
def qn9:Nat→Tree:=fun i=>if i=3 then .quiet 0 (.quiet 1 (.quiet 2 (.quiet 3 (.quiet 4 (.quiet 5 .done)))))else .done
def qrL:Nat→Nm:=fun i=>if i=2 then qvX else ⟨[],[],false⟩
def qvo:Nat→Option Jn:=fun _=>none
def qsr:Nat→Option Nm:=fun i=>if i=0 then some qBU else none
def qwA:Nat→Option Nm:=fun _=>none
theorem q5l:qn qn9 (Tryz.f280.body.getD .skip)=true:=by kernel_rfl
def qdc (N:Nat):Tab:={tr:=qn9,lp:=qrL,ex:=qsr,rg:=qwA,jn:=qvo,fuel:=N}
theorem qHi (N:Nat):(qdc N).pins=false:=rfl
theorem zjy (N:Nat):qp Tryz.prog (qdc N):=qv fun _=>rfl
theorem qX2 (N:Nat) (i:Nat):(qdc N).tr i=qn9 i:=rfl
theorem qNd (N:Nat) (i:Nat):(qdc N).lp i=qrL i:=rfl
theorem qQj (N:Nat) (i:Nat):(qdc N).ex i=qsr i:=rfl
theorem qXq (N:Nat) (i:Nat):(qdc N).rg i=qwA i:=rfl
theorem qIt (N:Nat) (i:Nat):(qdc N).jn i=qvo i:=rfl
theorem qOp (N:Nat):(qdc N).fuel=N:=rfl
noncomputable def qZX:Code:=cut [true,true,false,true,true] (Tryz.f280.body.getD .skip)
theorem q9R {N:Nat} {Q:X→St→Option (qc [i3])} {e:List LV} {h:List Blk}:qe tt qnB (qdc N) qZX Q ⟨e,h⟩=qe tt qnB (qdc N) (cut [true,true,false,true,true] (Tryz.f280.body.getD .skip)) Q ⟨e,h⟩:=rfl
theorem zmy (N:Nat) {k0:Int→Option (qc [i3])} {Q:X→St→Option (qc [i3])} {c:Code} (hc:c=qZX) (hret: ∀st,Q .ret st=qI tt true [i3] [.tmp 4] st) (h0: ∀(v4:Int),Q (.exit 0) ⟨[.one (.int .i64 v4),u,u,u,u,u,u,u,u,u,u,u,u,u,u,u],[]⟩=k0 v4): ∀(n:Nat) (v2:Int) (v3:Int),qE (qe tt qnB (qdc N) c) false qvX Q n ⟨[.one (.int .i64 v2),.one (.int .i64 v3),u,u,u,u,u,u,u,u,u,u,u,u,u,u],[]⟩=qoh N k0 n v2 v3:=by
 subst hc;intro n;induction n with
 | zero=>intros;rfl
 | succ n ih=>
   intro v2 v3
   rw [qN,q9R,qoh];unfold Tryz.f280
   simp (maxSteps:=10000000) -implicitDefEqProofs [qX2,qn9,qNd,qrL,qQj,qsr,qXq,qwA,qIt,qvo,qOp,qHi,qQp,qST,qRC,qXu,qRe,qRY,qKX,qod,hret,h0,ih]
theorem q4V (N:Nat) (v0:Int) (v1:Int):qe tt qnB (qdc N) (Tryz.f280.body.getD .skip) (qt tt true [i3] [.tmp 4]) (qw [i3,i3] 16 (v0,v1,()))=qyC N v0 v1:=by
 unfold Tryz.f280
 simp (maxSteps:=10000000) -implicitDefEqProofs [qX2,qn9,qNd,qrL,qQj,qsr,qXq,qwA,qIt,qvo,qOp,qHi,qQp,qST,qRC,qXu,qRe,qRY,qKX,qod]
 rewrite [zmy (k0:=(fun (v5:Int)=>some (v5,()))) N ?_ ?_ ?_]
 ·rewrite [qyC];first | rfl | simp (maxSteps:=10000000) -implicitDefEqProofs []
 ·rfl
 ·intro;simp only [qJ,qL,qK,qB]
 ·intro v5;simp (maxSteps:=10000000) -implicitDefEqProofs [qX2,qn9,qNd,qrL,qQj,qsr,qXq,qwA,qIt,qvo,qOp,qHi,qQp,qST,qRC,qXu,qRe,qRY,qKX,qod]
theorem qYy (N:Nat) (k:Int→Option (qc [i3])): ∀(n a b:Nat),b<n→qoh N k n (a:Int) (b:Int)=k (Nat.gcd a b:Nat)
 | 0,_,_,h=>by omega
 | n+1,a,b,h=>by
   rw [qoh]
   by_cases hb:b=0
   ·subst hb;simp
   ·have hb': ¬((b:Int)=0):=by omega
    have hlt:a % b<b:=Nat.mod_lt _ (by omega)
    have hm:((a:Int).tmod (b:Int))=((a % b:Nat):Int):=by rw [Int.tmod_eq_emod_of_nonneg (by omega)];rfl
    simp only [hb',decide_false,Bool.not_false,cond_true,ne_eq,not_false_eq_true,qYI]
    rw [hm,qYy N k n b (a % b) (by omega)]
    congr 2
    rw [Nat.gcd_comm b,←Nat.gcd_rec,Nat.gcd_comm]
def qbg:G:={ps:=[i3,i3],rs:=[i3],dp:=true,pre:=fun x=>qb5 x.1 x.2.1,fn:=fun x=>(qS x.1 x.2.1,())}
theorem zi1 (a b:Int) (h:qb5 a b): ∃N,qyC N a b=some (qS a b,()):=⟨b.natAbs+1,by
 rw [qyC,qd (show qbE a from h.1),qd (show qbE b from h.2)]
 simp only [qag]
 rw [qYy _ _ _ _ _ (Nat.lt_succ_self _)]
 rfl⟩
theorem qxg:Sound Tryz.prog 280 qbg:=qx (tt:=tt) (Γ:=qnB) hT (qg zpG qu) hm (fn:=Tryz.f280) Tryz.func280 (c:=Tryz.f280.body.getD .skip) (by kernel_rfl) (by kernel_rfl) fun x hx=>by
 obtain ⟨N,h⟩:=zi1 x.1 x.2.1 hx
 exact ⟨qdc N,q5l,qy _,zjy N,(q4V N x.1 x.2.1).trans h⟩
theorem qYT {g:Nat} {x:Int} (hg:(g:Int)≤9223372036854775807) (hx:inI x):qb5 (g:Int) x∧((Nat.gcd g x.natAbs:Nat):Int)≤9223372036854775807:=by
 refine ⟨⟨⟨by omega,hg⟩,hx⟩,?_⟩
 unfold inI at hx
 by_cases h0:x.natAbs=0
 ·rw [h0];simpa using hg
 ·have:=Nat.gcd_le_right (m:=g) (n:=x.natAbs) (by omega)
  omega
theorem qZq {ρ:Type}: ∀(xs:List Int) (i g:Nat) (k:Int→Option ρ),(g:Int)≤9223372036854775807→(∀x∈xs,inI x)→qat (fun _ x s K=>chk (qb5 s x) (K (qS s x))) i xs (g:Int) k=k (gL g xs:Nat)
 | [],_,_,_,_,_=>rfl
 | x::xs,i,g,k,hg,hx=>by
   obtain ⟨h1,h2⟩:=qYT hg (hx x (by simp))
   rw [qat,qd h1]
   exact qZq xs (i+1) _ k h2 fun y hy=>hx y (by simp [hy])
noncomputable def qlN (N:Nat) (v2:List (Val (.int .i64))) (v3:Int) (k0:Int→Option (qc [i3])):Nat→Int→Int→Option (qc [i3])
 | 0,_,_=>none
 | n+1,v1,v4=>bif (decide (v4<v3))then (chk (0≤v4∧v4<(v2.length:Int)) (chk (qb5 v1 ((v2.getD v4.toNat (qb (.int .i64))):Int)) (qlN N v2 v3 k0 n ((qS v1 ((v2.getD v4.toNat (qb (.int .i64))):Int)):Int) (IntKind.i64.wrap (v4+(1:Int))))))else (k0 v1)
noncomputable def qCI (N:Nat) (v0:List (Val (.int .i64))):Option (qc [i3]):=qlN N v0 (v0.length:Int) (fun (v6:Int)=>some (v6,())) N (0:Int) (0:Int)
def qoH:Gam:=[(280,qbg)]
theorem qI7:Gam.get qoH 280=some qbg:=rfl
def qwl:Nm:=⟨[false,false,false,true,false,false,true,true,true],[],false⟩
theorem qGi:qwl.zero=false:=rfl
theorem qVA:qwl.fix=[]:=rfl
theorem qKs:qwl.keep=[false,false,false,true,false,false,true,true,true]:=rfl
def qzZ:Nm:=⟨[false,false,false,true],[],false⟩
theorem qP8:qzZ.zero=false:=rfl
theorem qSw:qzZ.fix=[]:=rfl
theorem qLD:qzZ.keep=[false,false,false,true]:=rfl
def qmW:Nat→Tree:=fun _=> .done
def qrV:Nat→Nm:=fun i=>if i=3 then qwl else ⟨[],[],false⟩
def qtL:Nat→Option Jn:=fun _=>none
def quG:Nat→Option Nm:=fun i=>if i=0 then some qzZ else none
def qs2:Nat→Option Nm:=fun _=>none
theorem zlO:qn qmW (Tryz.f282.body.getD .skip)=true:=by kernel_rfl
def qdV (N:Nat):Tab:={tr:=qmW,lp:=qrV,ex:=quG,rg:=qs2,jn:=qtL,fuel:=N}
theorem qSL (N:Nat):(qdV N).pins=false:=rfl
theorem zfl (N:Nat):qp Tryz.prog (qdV N):=qv fun _=>rfl
theorem qNX (N:Nat) (i:Nat):(qdV N).tr i=qmW i:=rfl
theorem qMe (N:Nat) (i:Nat):(qdV N).lp i=qrV i:=rfl
theorem qKZ (N:Nat) (i:Nat):(qdV N).ex i=quG i:=rfl
theorem qUp (N:Nat) (i:Nat):(qdV N).rg i=qs2 i:=rfl
theorem qUf (N:Nat) (i:Nat):(qdV N).jn i=qtL i:=rfl
theorem qVt (N:Nat):(qdV N).fuel=N:=rfl
noncomputable def qZ6:Code:=cut [true,true,false,true,true,true] (Tryz.f282.body.getD .skip)
theorem zhF {N:Nat} {Q:X→St→Option (qc [i3])} {e:List LV} {h:List Blk}:qe tt qoH (qdV N) qZ6 Q ⟨e,h⟩=qe tt qoH (qdV N) (cut [true,true,false,true,true,true] (Tryz.f282.body.getD .skip)) Q ⟨e,h⟩:=rfl
theorem zbw (N:Nat) (v2:List (Val (.int .i64))) (v3:Int) {k0:Int→Option (qc [i3])} {Q:X→St→Option (qc [i3])} {c:Code} (hc:c=qZ6) (hret: ∀st,Q .ret st=qI tt true [i3] [.tmp 2] st) (h0: ∀(v5:Int),Q (.exit 0) ⟨[u,u,u,.one (.int .i64 v5),u,u,u,u,u,u,u,u,u,u,u,u,u],[]⟩=k0 v5): ∀(n:Nat) (v1:Int) (v4:Int),qE (qe tt qoH (qdV N) c) false qwl Q n ⟨[u,u,u,.one (.int .i64 v1),u,u,.one (.sl 3 (.int .i64) v2 0),.one (.int .i64 v3),.one (.int .i64 v4),u,u,u,u,u,u,u,u],[]⟩=qlN N v2 v3 k0 n v1 v4:=by
 subst hc;intro n;induction n with
 | zero=>intros;rfl
 | succ n ih=>
   intro v1 v4
   rw [qN,zhF,qlN];unfold Tryz.f282
   simp (maxSteps:=10000000) -implicitDefEqProofs [qNX,qmW,qMe,qrV,qKZ,quG,qUp,qs2,qUf,qtL,qVt,qSL,qVA,qKs,qGi,qSw,qLD,qP8,qI7,qbg,hret,h0,ih]
theorem q4J (N:Nat) (v0:List (Val (.int .i64))):qe tt qoH (qdV N) (Tryz.f282.body.getD .skip) (qt tt true [i3] [.tmp 2]) (qw [i25] 17 (v0,()))=qCI N v0:=by
 unfold Tryz.f282
 simp (maxSteps:=10000000) -implicitDefEqProofs [qNX,qmW,qMe,qrV,qKZ,quG,qUp,qs2,qUf,qtL,qVt,qSL,qVA,qKs,qGi,qSw,qLD,qP8,qI7,qbg]
 rewrite [zbw (k0:=(fun (v6:Int)=>some (v6,()))) N _ _ ?_ ?_ ?_]
 ·rewrite [qCI];first | rfl | simp (maxSteps:=10000000) -implicitDefEqProofs []
 ·rfl
 ·intro;simp only [qJ,qL,qK,qB]
 ·intro v6;simp (maxSteps:=10000000) -implicitDefEqProofs [qNX,qmW,qMe,qrV,qKZ,quG,qUp,qs2,qUf,qtL,qVt,qSL,qVA,qKs,qGi,qSw,qLD,qP8,qI7,qbg]
def qbZ:G:={ps:=[i25],rs:=[i3],dp:=true,pre:=fun x=>qgp x.1,fn:=fun x=>(qa4 x.1,())}
theorem zgs (xs:List (Val (.int .i64))) (h:qgp xs): ∃N,qCI N xs=some (qa4 xs,()):=⟨xs.length+1,by
 rw [qCI]
 rw [qaP (F:=fun n i s=>qlN _ xs xs.length _ n s i) (step:=fun _ x s K=>chk (qb5 s x) (K (qS s x))) (k:=fun s=>some (s,())) h.1 ?_ ?_ _ _ (Nat.lt_succ_self _)]
 ·exact qZq xs 0 0 _ (by omega) h.2
 ·intro n i s hi
  rw [qlN,qk (by omega),qd (by omega),qF hi]
 ·intro n i s hi
  rw [qlN,qj (by omega)]⟩
theorem qAA:Sound Tryz.prog 282 qbZ:=qx (tt:=tt) (Γ:=qoH) hT (qg qxg qu) hm (fn:=Tryz.f282) Tryz.func282 (c:=Tryz.f282.body.getD .skip) (by kernel_rfl) (by kernel_rfl) fun x hx=>by
 obtain ⟨N,h⟩:=zgs x.1 hx
 exact ⟨qdV N,zlO,qy _,zfl N,(q4J N x.1).trans h⟩
def qbP:G:={ps:=[i3],rs:=[i3],dp:=true,pre:=fun x=>qbE x.1,fn:=fun x=>(qag x.1,())}
noncomputable def qy6 (N:Nat) (v0:Int):Option (qc [i3]):=some ((max v0 (IntKind.i64.wrap (0 - v0))),())
def q0u:Gam:=[]
def qzB:Nat→Tree:=fun _=> .done
def qNw:Nat→Nm:=fun _=>⟨[],[],false⟩
def qRX:Nat→Option Jn:=fun _=>none
def qUP:Nat→Option Nm:=fun _=>none
def qSq:Nat→Option Nm:=fun _=>none
theorem zkj:qn qzB (Tryz.f278.body.getD .skip)=true:=by kernel_rfl
def qfm (N:Nat):Tab:={tr:=qzB,lp:=qNw,ex:=qUP,rg:=qSq,jn:=qRX,fuel:=N}
theorem q9A (N:Nat):(qfm N).pins=false:=rfl
theorem zoR (N:Nat):qp Tryz.prog (qfm N):=qv fun _=>rfl
theorem zmc (N:Nat) (i:Nat):(qfm N).tr i=qzB i:=rfl
theorem zg8 (N:Nat) (i:Nat):(qfm N).lp i=qNw i:=rfl
theorem q4F (N:Nat) (i:Nat):(qfm N).ex i=qUP i:=rfl
theorem zjb (N:Nat) (i:Nat):(qfm N).rg i=qSq i:=rfl
theorem q5N (N:Nat) (i:Nat):(qfm N).jn i=qRX i:=rfl
theorem zq0 (N:Nat):(qfm N).fuel=N:=rfl
theorem q7Y (N:Nat) (v0:Int):qe tt q0u (qfm N) (Tryz.f278.body.getD .skip) (qt tt true [i3] [.tmp 2]) (qw [i3] 7 (v0,()))=qy6 N v0:=by
 rw [qy6];unfold Tryz.f278
 simp (maxSteps:=10000000) -implicitDefEqProofs [zmc,qzB,zg8,qNw,q4F,qUP,zjb,qSq,q5N,qRX,zq0,q9A]
 try rfl
theorem zeU (n:Int) (h:inI n): ∃N,qy6 N n=some (qag n,()):=⟨0,by
 unfold inI at h
 rw [qy6,qaq (by omega) (by omega)]
 have e:max n (0 - n)=qag n:=by unfold qag;omega
 rw [e]⟩
theorem qHT:Sound Tryz.prog 278 qbP:=qx (tt:=tt) (Γ:=q0u) hT qu hm (fn:=Tryz.f278) Tryz.func278 (c:=Tryz.f278.body.getD .skip) (by kernel_rfl) (by kernel_rfl) fun x hx=>by
 obtain ⟨N,h⟩:=zeU x.1 hx
 exact ⟨qfm N,zkj,qy _,zoR N,(q7Y N x.1).trans h⟩
noncomputable def qCD (N:Nat) (v0:Int) (v1:Int) (v2:Int):Option (qc [i4]):=bif (decide (v1≤v0))then (some ((decide (v0≤v2)),()))else (some (false,()))
def q2Z:Gam:=[]
def qAf:Nat→Tree:=fun _=> .done
def qHD:Nat→Nm:=fun _=>⟨[],[],false⟩
def qUh:Nat→Option Jn:=fun _=>none
def qQX:Nat→Option Nm:=fun _=>none
def qE4:Nat→Option Nm:=fun _=>none
theorem q9w:qn qAf (Tryz.f118.body.getD .skip)=true:=by kernel_rfl
def qfS (N:Nat):Tab:={tr:=qAf,lp:=qHD,ex:=qQX,rg:=qE4,jn:=qUh,fuel:=N}
theorem q5v (N:Nat):(qfS N).pins=false:=rfl
theorem q8N (N:Nat):qp Tryz.prog (qfS N):=qv fun _=>rfl
theorem zmC (N:Nat) (i:Nat):(qfS N).tr i=qAf i:=rfl
theorem zoj (N:Nat) (i:Nat):(qfS N).lp i=qHD i:=rfl
theorem q8d (N:Nat) (i:Nat):(qfS N).ex i=qQX i:=rfl
theorem zcW (N:Nat) (i:Nat):(qfS N).rg i=qE4 i:=rfl
theorem zh9 (N:Nat) (i:Nat):(qfS N).jn i=qUh i:=rfl
theorem q9s (N:Nat):(qfS N).fuel=N:=rfl
theorem zbg (N:Nat) (v0:Int) (v1:Int) (v2:Int):qe tt q2Z (qfS N) (Tryz.f118.body.getD .skip) (qt tt true [i4] [.tmp 6]) (qw [i3,i3,i3] 15 (v0,v1,v2,()))=qCD N v0 v1 v2:=by
 rw [qCD];unfold Tryz.f118
 simp (maxSteps:=10000000) -implicitDefEqProofs [zmC,qAf,zoj,qHD,q8d,qQX,zcW,qE4,zh9,qUh,q9s,q5v]
 try rfl
def qam:G:={ps:=[i3,i3,i3],rs:=[i4],dp:=true,pre:=fun _=>True,fn:=fun x=>(inR x.1 x.2.1 x.2.2.1,())}
theorem zdT (x a b:Int): ∃N,qCD N x a b=some (inR x a b,()):=⟨0,by
 simp only [qCD,inR]
 by_cases h1:a≤x<;>by_cases h2:x≤b<;>simp [h1,h2]⟩
theorem qh1:Sound Tryz.prog 118 qam:=qx (tt:=tt) (Γ:=q2Z) hT qu hm (fn:=Tryz.f118) Tryz.func118 (c:=Tryz.f118.body.getD .skip) (by kernel_rfl) (by kernel_rfl) fun x hx=>by
 obtain ⟨N,h⟩:=zdT x.1 x.2.1 x.2.2.1
 exact ⟨qfS N,q9w,qy _,q8N N,(zbg N x.1 x.2.1 x.2.2.1).trans h⟩
noncomputable def qDE (N:Nat) (v0:Int):Option (qc [i4]):=some (((inR v0 (-400000000:Int) (400000000:Int)):Bool),())
def qRw:Gam:=[(118,qam)]
theorem zf4:Gam.get qRw 118=some qam:=rfl
def qzg:Nat→Tree:=fun _=> .done
def qGB:Nat→Nm:=fun _=>⟨[],[],false⟩
def qWD:Nat→Option Jn:=fun _=>none
def qG8:Nat→Option Nm:=fun _=>none
def qQ5:Nat→Option Nm:=fun _=>none
theorem q5D:qn qzg (Tryz.f194.body.getD .skip)=true:=by kernel_rfl
def qgd (N:Nat):Tab:={tr:=qzg,lp:=qGB,ex:=qG8,rg:=qQ5,jn:=qWD,fuel:=N}
theorem ze2 (N:Nat):(qgd N).pins=false:=rfl
theorem zgr (N:Nat):qp Tryz.prog (qgd N):=qv fun _=>rfl
theorem q4Z (N:Nat) (i:Nat):(qgd N).tr i=qzg i:=rfl
theorem q9S (N:Nat) (i:Nat):(qgd N).lp i=qGB i:=rfl
theorem zgP (N:Nat) (i:Nat):(qgd N).ex i=qG8 i:=rfl
theorem zec (N:Nat) (i:Nat):(qgd N).rg i=qQ5 i:=rfl
theorem zhz (N:Nat) (i:Nat):(qgd N).jn i=qWD i:=rfl
theorem zpu (N:Nat):(qgd N).fuel=N:=rfl
theorem zbZ (N:Nat) (v0:Int):qe tt qRw (qgd N) (Tryz.f194.body.getD .skip) (qt tt true [i4] [.tmp 2]) (qw [i3] 5 (v0,()))=qDE N v0:=by
 rw [qDE];unfold Tryz.f194
 simp (maxSteps:=10000000) -implicitDefEqProofs [q4Z,qzg,q9S,qGB,zgP,qG8,zec,qQ5,zhz,qWD,zpu,ze2,zf4,qam]
 try rfl
noncomputable def qCq (N:Nat) (v0:Int):Option (qc [i4]):=bif (decide ((-400000000:Int)≤v0))then (some ((decide (v0≤(400000000:Int))),()))else (some (false,()))
def qZ0:Gam:=[]
def qyM:Nat→Tree:=fun _=> .done
def qSO:Nat→Nm:=fun _=>⟨[],[],false⟩
def qVu:Nat→Option Jn:=fun _=>none
def qGn:Nat→Option Nm:=fun _=>none
def qOt:Nat→Option Nm:=fun _=>none
theorem zpn:qn qyM (Tryz.f204.body.getD .skip)=true:=by kernel_rfl
def qfF (N:Nat):Tab:={tr:=qyM,lp:=qSO,ex:=qGn,rg:=qOt,jn:=qVu,fuel:=N}
theorem zml (N:Nat):(qfF N).pins=false:=rfl
theorem zqs (N:Nat):qp Tryz.prog (qfF N):=qv fun _=>rfl
theorem zp2 (N:Nat) (i:Nat):(qfF N).tr i=qyM i:=rfl
theorem zdJ (N:Nat) (i:Nat):(qfF N).lp i=qSO i:=rfl
theorem q6g (N:Nat) (i:Nat):(qfF N).ex i=qGn i:=rfl
theorem zqU (N:Nat) (i:Nat):(qfF N).rg i=qOt i:=rfl
theorem zjh (N:Nat) (i:Nat):(qfF N).jn i=qVu i:=rfl
theorem zdw (N:Nat):(qfF N).fuel=N:=rfl
theorem q4Y (N:Nat) (v0:Int):qe tt qZ0 (qfF N) (Tryz.f204.body.getD .skip) (qt tt true [i4] [.tmp 2]) (qw [i3] 9 (v0,()))=qCq N v0:=by
 rw [qCq];unfold Tryz.f204
 simp (maxSteps:=10000000) -implicitDefEqProofs [zp2,qyM,zdJ,qSO,q6g,qGn,zqU,qOt,zjh,qVu,zdw,zml]
 try rfl
def qbl:G:={ps:=[i3],rs:=[i4],dp:=true,pre:=fun _=>True,fn:=fun x=>(qR x.1,())}
def qb9:G:={ps:=[i3],rs:=[i4],dp:=true,pre:=fun _=>True,fn:=fun x=>(qR x.1,())}
theorem znZ (x:Int): ∃N,qDE N x=some (qR x,()):=⟨0,by
 simp only [qDE,inR,qR]⟩
theorem qqQ:Sound Tryz.prog 194 qbl:=qx (tt:=tt) (Γ:=qRw) hT (qg qh1 qu) hm (fn:=Tryz.f194) Tryz.func194 (c:=Tryz.f194.body.getD .skip) (by kernel_rfl) (by kernel_rfl) fun x hx=>by
 obtain ⟨N,h⟩:=znZ x.1
 exact ⟨qgd N,q5D,qy _,zgr N,(zbZ N x.1).trans h⟩
theorem zh6 (x:Int): ∃N,qCq N x=some (qR x,()):=⟨0,by
 simp only [qCq,qR]
 by_cases h1: -400000000≤x<;>by_cases h2:x≤400000000<;>simp [h1,h2]⟩
theorem qD3:Sound Tryz.prog 204 qb9:=qx (tt:=tt) (Γ:=qZ0) hT qu hm (fn:=Tryz.f204) Tryz.func204 (c:=Tryz.f204.body.getD .skip) (by kernel_rfl) (by kernel_rfl) fun x hx=>by
 obtain ⟨N,h⟩:=zh6 x.1
 exact ⟨qfF N,zpn,qy _,zqs N,(q4Y N x.1).trans h⟩
noncomputable def qd7 (N:Nat) (v11:List (Val (.int .i64))) (v13:Int) (k2:Int→Option (qc [i3])):Nat→Int→Int→Option (qc [i3])
 | 0,_,_=>none
 | n+1,v12,v14=>bif (!(decide (v14=(0:Int))))then (chk (v14≠0) (qd7 N v11 v13 k2 n v14 (v12.tmod v14)))else (k2 v12)
noncomputable def qje (N:Nat) (v2:List (Val (.int .i64))) (k0:Int→Option (qc [i3])):Nat→Int→Int→Option (qc [i3])
 | 0,_,_=>none
 | n+1,v3,v4=>bif (decide (v4<(v2.length:Int)))then (chk (0≤v4∧v4<(v2.length:Int)) (chk (qbE ((v2.getD v4.toNat (qb (.int .i64))):Int)) (qd7 N v2 v4 (fun (v16:Int)=>qje N v2 k0 n v16 (IntKind.i64.wrap (v4+(1:Int)))) N v3 ((qag ((v2.getD v4.toNat (qb (.int .i64))):Int)):Int))))else (k0 v3)
noncomputable def qzl (N:Nat) (v0:List (Val (.int .i64))) (v1:Int):Option (qc [i3]):=chk (qbE v1) (qje N v0 (fun (v18:Int)=>some (v18,())) N ((qag v1):Int) (0:Int))
def qh2:Gam:=[(278,qbP)]
theorem qqV:Gam.get qh2 278=some qbP:=rfl
def qvh:Nm:=⟨[true,false,false,false,false,true,true,true],[],false⟩
theorem qsx:qvh.zero=false:=rfl
theorem qvs:qvh.fix=[]:=rfl
theorem qsP:qvh.keep=[true,false,false,false,false,true,true,true]:=rfl
def qpw:Nm:=⟨[true,false,false,false,false,true,true],[],false⟩
theorem qpZ:qpw.zero=false:=rfl
theorem qr5:qpw.fix=[]:=rfl
theorem qrr:qpw.keep=[true,false,false,false,false,true,true]:=rfl
def qAu:Nm:=⟨[false,false,false,false,false,true],[],false⟩
theorem qs4:qAu.zero=false:=rfl
theorem qsz:qAu.fix=[]:=rfl
theorem qtQ:qAu.keep=[false,false,false,false,false,true]:=rfl
def qxR:Nm:=⟨[true,false,false,false,false,true,true],[],false⟩
theorem qqN:qxR.zero=false:=rfl
theorem qtX:qxR.fix=[]:=rfl
theorem qwv:qxR.keep=[true,false,false,false,false,true,true]:=rfl
def qis:Nat→Tree:=fun i=>if i=7 then .quiet 0 (.quiet 1 (.quiet 2 (.quiet 3 (.quiet 4 (.quiet 5 .done)))))else .done
def qlE:Nat→Nm:=fun i=>if i=6 then qvh else if i=3 then qpw else ⟨[],[],false⟩
def qmy:Nat→Option Jn:=fun _=>none
def qkd:Nat→Option Nm:=fun i=>if i=0 then some qAu else if i=2 then some qxR else none
def ql7:Nat→Option Nm:=fun _=>none
theorem q7k:qn qis (Tryz.f231.body.getD .skip)=true:=by kernel_rfl
def qch (N:Nat):Tab:={tr:=qis,lp:=qlE,ex:=qkd,rg:=ql7,jn:=qmy,fuel:=N}
theorem qr8 (N:Nat):(qch N).pins=false:=rfl
theorem zpf (N:Nat):qp Tryz.prog (qch N):=qv fun _=>rfl
theorem qsO (N:Nat) (i:Nat):(qch N).tr i=qis i:=rfl
theorem quD (N:Nat) (i:Nat):(qch N).lp i=qlE i:=rfl
theorem qsQ (N:Nat) (i:Nat):(qch N).ex i=qkd i:=rfl
theorem qwB (N:Nat) (i:Nat):(qch N).rg i=ql7 i:=rfl
theorem qwO (N:Nat) (i:Nat):(qch N).jn i=qmy i:=rfl
theorem quP (N:Nat):(qch N).fuel=N:=rfl
noncomputable def q1L:Code:=cut [true,true,false,true,true,true,true,false,true,true,true,true] (Tryz.f231.body.getD .skip)
theorem q8x {N:Nat} {Q:X→St→Option (qc [i3])} {e:List LV} {h:List Blk}:qe tt qh2 (qch N) q1L Q ⟨e,h⟩=qe tt qh2 (qch N) (cut [true,true,false,true,true,true,true,false,true,true,true,true] (Tryz.f231.body.getD .skip)) Q ⟨e,h⟩:=rfl
theorem zfU (N:Nat) (v11:List (Val (.int .i64))) (v13:Int) {k2:Int→Option (qc [i3])} {Q:X→St→Option (qc [i3])} {c:Code} (hc:c=q1L) (hret: ∀st,Q .ret st=qI tt true [i3] [.tmp 4] st) (h2: ∀(v15:Int),Q (.exit 2) ⟨[.one (.sl 3 (.int .i64) v11 0),u,u,u,u,.one (.int .i64 v15),.one (.int .i64 v13),u,u,u,u,u,u,u,u,u,u,u,u,u,u,u,u,u,u,u,u,u],[]⟩=k2 v15): ∀(n:Nat) (v12:Int) (v14:Int),qE (qe tt qh2 (qch N) c) false qvh Q n ⟨[.one (.sl 3 (.int .i64) v11 0),u,u,u,u,.one (.int .i64 v12),.one (.int .i64 v13),.one (.int .i64 v14),u,u,u,u,u,u,u,u,u,u,u,u,u,u,u,u,u,u,u,u],[]⟩=qd7 N v11 v13 k2 n v12 v14:=by
 subst hc;intro n;induction n with
 | zero=>intros;rfl
 | succ n ih=>
   intro v12 v14
   rw [qN,q8x,qd7];unfold Tryz.f231
   simp (maxSteps:=10000000) -implicitDefEqProofs [qsO,qis,quD,qlE,qsQ,qkd,qwB,ql7,qwO,qmy,quP,qr8,qvs,qsP,qsx,qr5,qrr,qpZ,qsz,qtQ,qs4,qtX,qwv,qqN,qqV,qbP,hret,h2,ih]
noncomputable def q3R:Code:=cut [true,true,false,true,true,true] (Tryz.f231.body.getD .skip)
theorem q8u {N:Nat} {Q:X→St→Option (qc [i3])} {e:List LV} {h:List Blk}:qe tt qh2 (qch N) q3R Q ⟨e,h⟩=qe tt qh2 (qch N) (cut [true,true,false,true,true,true] (Tryz.f231.body.getD .skip)) Q ⟨e,h⟩:=rfl
theorem zpD (N:Nat) (v2:List (Val (.int .i64))) {k0:Int→Option (qc [i3])} {Q:X→St→Option (qc [i3])} {c:Code} (hc:c=q3R) (hret: ∀st,Q .ret st=qI tt true [i3] [.tmp 4] st) (h0: ∀(v17:Int),Q (.exit 0) ⟨[u,u,u,u,u,.one (.int .i64 v17),u,u,u,u,u,u,u,u,u,u,u,u,u,u,u,u,u,u,u,u,u,u],[]⟩=k0 v17): ∀(n:Nat) (v3:Int) (v4:Int),qE (qe tt qh2 (qch N) c) false qpw Q n ⟨[.one (.sl 3 (.int .i64) v2 0),u,u,u,u,.one (.int .i64 v3),.one (.int .i64 v4),u,u,u,u,u,u,u,u,u,u,u,u,u,u,u,u,u,u,u,u,u],[]⟩=qje N v2 k0 n v3 v4:=by
 subst hc;intro n;induction n with
 | zero=>intros;rfl
 | succ n ih=>
   intro v3 v4
   rw [qN,q8u];unfold Tryz.f231
   simp (maxSteps:=10000000) -implicitDefEqProofs [qsO,qis,quD,qlE,qsQ,qkd,qwB,ql7,qwO,qmy,quP,qr8,qvs,qsP,qsx,qr5,qrr,qpZ,qsz,qtQ,qs4,qtX,qwv,qqN,qqV,qbP,hret,h0,ih]
   rewrite [zfU (k2:=(fun (v16:Int)=>qje N v2 k0 n v16 (IntKind.i64.wrap (v4+(1:Int))))) N _ _ ?_ ?_ ?_]
   ·rewrite [qje];first | rfl | simp (maxSteps:=10000000) -implicitDefEqProofs [ih]
   ·rfl
   ·intro;simp only [qJ,qL,qK,qB,hret]
   ·intro v16;simp (maxSteps:=10000000) -implicitDefEqProofs [qsO,qis,quD,qlE,qsQ,qkd,qwB,ql7,qwO,qmy,quP,qr8,qvs,qsP,qsx,qr5,qrr,qpZ,qsz,qtQ,qs4,qtX,qwv,qqN,qqV,qbP,hret,h0,ih]
theorem q6t (N:Nat) (v0:List (Val (.int .i64))) (v1:Int):qe tt qh2 (qch N) (Tryz.f231.body.getD .skip) (qt tt true [i3] [.tmp 4]) (qw [i25,i3] 28 (v0,v1,()))=qzl N v0 v1:=by
 unfold Tryz.f231
 simp (maxSteps:=10000000) -implicitDefEqProofs [qsO,qis,quD,qlE,qsQ,qkd,qwB,ql7,qwO,qmy,quP,qr8,qvs,qsP,qsx,qr5,qrr,qpZ,qsz,qtQ,qs4,qtX,qwv,qqN,qqV,qbP]
 rewrite [zpD (k0:=(fun (v18:Int)=>some (v18,()))) N _ ?_ ?_ ?_]
 ·rewrite [qzl];first | rfl | simp (maxSteps:=10000000) -implicitDefEqProofs []
 ·rfl
 ·intro;simp only [qJ,qL,qK,qB]
 ·intro v18;simp (maxSteps:=10000000) -implicitDefEqProofs [qsO,qis,quD,qlE,qsQ,qkd,qwB,ql7,qwO,qmy,quP,qr8,qvs,qsP,qsx,qr5,qrr,qpZ,qsz,qtQ,qs4,qtX,qwv,qqN,qqV,qbP]
theorem q39 (N:Nat) (xs:List (Val (.int .i64))) (v:Int) (k:Int→Option (qc [i3])): ∀(n b a:Nat),b<n→qd7 N xs v k n (a:Int) (b:Int)=k (Nat.gcd a b:Nat)
 | 0,_,_,h=>by omega
 | n+1,b,a,h=>by
   rw [qd7]
   by_cases hb:b=0
   ·subst hb;simp
   ·have hb': ¬((b:Int)=0):=by omega
    have hlt:a % b<b:=Nat.mod_lt _ (by omega)
    have hm:((a:Int).tmod (b:Int))=((a % b:Nat):Int):=by rw [Int.tmod_eq_emod_of_nonneg (by omega)];rfl
    simp only [hb',decide_false,Bool.not_false,cond_true,ne_eq,not_false_eq_true,qYI]
    rw [hm,q39 N xs v k n (a % b) b (by omega)]
    congr 2
    rw [Nat.gcd_comm b,←Nat.gcd_rec,Nat.gcd_comm]
theorem q3W (N:Nat) (xs:List (Val (.int .i64))) (v v':Int) (k:Int→Option (qc [i3])): ∀(n:Nat) (a b:Int),qd7 N xs v k n a b=qd7 N xs v' k n a b
 | 0,_,_=>rfl
 | n+1,a,b=>by rw [qd7,qd7,q3W N xs v v' k n]
theorem qZO (N:Nat) (hN:9223372036854775807<N) (ys:List (Val (.int .i64))): ∀(xs:List Int) (i g:Nat) (k:Int→Option (qc [i3])),(∀x∈xs,inI x)→qat (fun _ x s K=>chk (qbE x) (qd7 N ys 0 K N s (qag x))) i xs (g:Int) k=k (gL g xs:Nat)
 | [],_,_,_,_=>rfl
 | x::xs,i,g,k,hx=>by
   have h1:=hx x (by simp)
   rw [qat,qd (show qbE x from h1)]
   simp only [qag]
   rw [q39 _ _ _ _ _ _ _ (by unfold inI at h1;omega)]
   exact qZO N hN ys xs (i+1) _ k fun y hy=>hx y (by simp [hy])
def qcS:G:={ps:=[i25,i3],rs:=[i3],dp:=true,pre:=fun x=>qgs x.1 x.2.1,fn:=fun x=>(qcy x.1 x.2.1,())}
theorem zhC (xs:List (Val (.int .i64))) (k:Int) (h:qgs xs k): ∃N,qzl N xs k=some (qcy xs k,()):=⟨9223372036854775808+xs.length,by
 rw [qzl,qd (show qbE k from h.2.1)]
 rw [qaP (F:=fun n i s=>qje _ xs _ n s i) (step:=fun _ x s K=>chk (qbE x) (qd7 (9223372036854775808+xs.length) xs 0 K (9223372036854775808+xs.length) s (qag x))) (k:=fun s=>some (s,())) h.1 ?_ ?_ _ _ (by omega)]
 ·exact qZO _ (by omega) xs xs 0 k.natAbs _ h.2.2
 ·intro n i s hi
  rw [qje,qk (by omega),qd (by omega),qF hi]
  congr 1
  exact q3W ..
 ·intro n i s hi
  rw [qje,qj (by omega)]⟩
theorem qTv:Sound Tryz.prog 231 qcS:=qx (tt:=tt) (Γ:=qh2) hT (qg qHT qu) hm (fn:=Tryz.f231) Tryz.func231 (c:=Tryz.f231.body.getD .skip) (by kernel_rfl) (by kernel_rfl) fun x hx=>by
 obtain ⟨N,h⟩:=zhC x.1 x.2.1 hx
 exact ⟨qch N,q7k,qy _,zpf N,(q6t N x.1 x.2.1).trans h⟩
def qG (a:Val qa):Bool:=decide ((a.1:List Int).length≤4)&&qR a.2.1&&(a.1:List Int).all qR&&decide (((gL (Int.natAbs a.2.1) a.1:Nat):Int)≤1)
noncomputable def qio (N:Nat) (v2:List (Val (.int .i64))) (v3:Int) (v4:Bool) (k0:Unit→Option (qc [i4])):Nat→Int→Option (qc [i4])
 | 0,_=>none
 | n+1,v1=>bif (decide (v1<(v2.length:Int)))then (chk (0≤v1∧v1<(v2.length:Int)) (bif (!((qR ((v2.getD v1.toNat (qb (.int .i64))):Int)):Bool))then (some (false,()))else (qio N v2 v3 v4 k0 n (IntKind.i64.wrap (v1+(1:Int))))))else (k0 ())
noncomputable def qxz (N:Nat) (v0:Val qa):Option (qc [i4]):=bif (decide ((4:Int)<((v0.1:List (Val (.int .i64))).length:Int)))then (some (false,()))else (bif (!((qR (v0.2.1:Int)):Bool))then (some (false,()))else (qio N (v0.1:List (Val (.int .i64))) (v0.2.1:Int) (v0.2.2:Bool) (fun (_:Unit)=>chk (qgs (v0.1:List (Val (.int .i64))) (v0.2.1:Int)) (some ((decide (((qcy (v0.1:List (Val (.int .i64))) (v0.2.1:Int)):Int)≤(1:Int))),()))) N (0:Int)))
def qjx:Gam:=[(194,qbl),(231,qcS)]
theorem qFd:Gam.get qjx 194=some qbl:=rfl
theorem qMJ:Gam.get qjx 231=some qcS:=rfl
def quL:Nm:=⟨[false,true,false,true],[],false⟩
theorem qNG:quL.zero=false:=rfl
theorem qRH:quL.fix=[]:=rfl
theorem qM7:quL.keep=[false,true,false,true]:=rfl
def qAZ:Nm:=⟨[false,true],[],false⟩
theorem qJi:qAZ.zero=false:=rfl
theorem qId:qAZ.fix=[]:=rfl
theorem qJP:qAZ.keep=[false,true]:=rfl
def qn4:Nat→Tree:=fun _=> .done
def qwg:Nat→Nm:=fun i=>if i=4 then quL else ⟨[],[],false⟩
def qpu:Nat→Option Jn:=fun _=>none
def qso:Nat→Option Nm:=fun i=>if i=0 then some qAZ else none
def qqI:Nat→Option Nm:=fun _=>none
theorem zlT:qn qn4 (Tryz.f193.body.getD .skip)=true:=by kernel_rfl
def qdA (N:Nat):Tab:={tr:=qn4,lp:=qwg,ex:=qso,rg:=qqI,jn:=qpu,fuel:=N}
theorem qTf (N:Nat):(qdA N).pins=false:=rfl
theorem zdQ (N:Nat):qp Tryz.prog (qdA N):=qv fun _=>rfl
theorem qOP (N:Nat) (i:Nat):(qdA N).tr i=qn4 i:=rfl
theorem qRJ (N:Nat) (i:Nat):(qdA N).lp i=qwg i:=rfl
theorem qTc (N:Nat) (i:Nat):(qdA N).ex i=qso i:=rfl
theorem qM6 (N:Nat) (i:Nat):(qdA N).rg i=qqI i:=rfl
theorem qFe (N:Nat) (i:Nat):(qdA N).jn i=qpu i:=rfl
theorem qOc (N:Nat):(qdA N).fuel=N:=rfl
noncomputable def qZe:Code:=cut [true,true,false,true,true,true] (Tryz.f193.body.getD .skip)
theorem zmQ {N:Nat} {Q:X→St→Option (qc [i4])} {e:List LV} {h:List Blk}:qe tt qjx (qdA N) qZe Q ⟨e,h⟩=qe tt qjx (qdA N) (cut [true,true,false,true,true,true] (Tryz.f193.body.getD .skip)) Q ⟨e,h⟩:=rfl
theorem zg3 (N:Nat) (v2:List (Val (.int .i64))) (v3:Int) (v4:Bool) {k0:Unit→Option (qc [i4])} {Q:X→St→Option (qc [i4])} {c:Code} (hc:c=qZe) (hret: ∀st,Q .ret st=qI tt true [i4] [.tmp 2] st) (h0:Q (.exit 0) ⟨[u,.one (.ptr 0 0 0),u,u,u,u,u,u,u,u,u,u,u,u,u,u,u,u,u,u,u,u,u,u,u,u,u,u,u,u,u,u,u,u],[.box [.sl 3 (.int .i64) v2 1,.int .i64 v3,.bool v4]]⟩=k0 ()): ∀(n:Nat) (v1:Int),qE (qe tt qjx (qdA N) c) false quL Q n ⟨[u,.one (.ptr 0 0 0),u,.one (.int .i64 v1),u,u,u,u,u,u,u,u,u,u,u,u,u,u,u,u,u,u,u,u,u,u,u,u,u,u,u,u,u,u],[.box [.sl 3 (.int .i64) v2 1,.int .i64 v3,.bool v4]]⟩=qio N v2 v3 v4 k0 n v1:=by
 subst hc;intro n;induction n with
 | zero=>intros;rfl
 | succ n ih=>
   intro v1
   rw [qN,zmQ,qio];unfold Tryz.f193
   simp (maxSteps:=10000000) -implicitDefEqProofs [qOP,qn4,qRJ,qwg,qTc,qso,qM6,qqI,qFe,qpu,qOc,qTf,qRH,qM7,qNG,qId,qJP,qJi,qFd,qMJ,qbl,qcS,hret,h0,ih]
theorem ziS (N:Nat) (v0:Val qa):qe tt qjx (qdA N) (Tryz.f193.body.getD .skip) (qt tt true [i4] [.tmp 2]) (qw [qr] 34 (v0,()))=qxz N v0:=by
 unfold Tryz.f193
 simp (maxSteps:=10000000) -implicitDefEqProofs [qOP,qn4,qRJ,qwg,qTc,qso,qM6,qqI,qFe,qpu,qOc,qTf,qRH,qM7,qNG,qId,qJP,qJi,qFd,qMJ,qbl,qcS]
 rewrite [zg3 (k0:=(fun (_:Unit)=>chk (qgs (v0.1:List (Val (.int .i64))) (v0.2.1:Int)) (some ((decide (((qcy (v0.1:List (Val (.int .i64))) (v0.2.1:Int)):Int)≤(1:Int))),())))) N _ _ _ ?_ ?_ ?_]
 ·rewrite [qxz];first | rfl | simp (maxSteps:=10000000) -implicitDefEqProofs []
 ·rfl
 ·intro;simp only [qJ,qL,qK,qB]
 ·simp (maxSteps:=10000000) -implicitDefEqProofs [qOP,qn4,qRJ,qwg,qTc,qso,qM6,qqI,qFe,qpu,qOc,qTf,qRH,qM7,qNG,qId,qJP,qJi,qFd,qMJ,qbl,qcS]
noncomputable def qjk (N:Nat) (v1:List (Val (.int .i64))) (v2:Int) (v4:List (Val (.int .i64))) (v5:Int) (v6:Bool) (k0:Unit→Option (qc [i4])):Nat→Int→Option (qc [i4])
 | 0,_=>none
 | n+1,v3=>bif (decide (v3<v2))then (chk (0≤v3∧v3<(v1.length:Int)) (bif (!((qR ((v1.getD v3.toNat (qb (.int .i64))):Int)):Bool))then (some (false,()))else (qjk N v1 v2 v4 v5 v6 k0 n (IntKind.i64.wrap (v3+(1:Int))))))else (k0 ())
noncomputable def qyz (N:Nat) (v0:Val qa):Option (qc [i4]):=bif (decide ((4:Int)<((v0.1:List (Val (.int .i64))).length:Int)))then (some (false,()))else (bif (!((qR (v0.2.1:Int)):Bool))then (some (false,()))else (qjk N (v0.1:List (Val (.int .i64))) ((v0.1:List (Val (.int .i64))).length:Int) (v0.1:List (Val (.int .i64))) (v0.2.1:Int) (v0.2.2:Bool) (fun (_:Unit)=>chk (qgp (v0.1:List (Val (.int .i64)))) (chk (qb5 ((qa4 (v0.1:List (Val (.int .i64)))):Int) (v0.2.1:Int)) (some ((decide (((qS ((qa4 (v0.1:List (Val (.int .i64)))):Int) (v0.2.1:Int)):Int)≤(1:Int))),())))) N (0:Int)))
def qiC:Gam:=[(204,qb9),(280,qbg),(282,qbZ)]
theorem qM8:Gam.get qiC 204=some qb9:=rfl
theorem qSA:Gam.get qiC 280=some qbg:=rfl
theorem qK5:Gam.get qiC 282=some qbZ:=rfl
def qus:Nm:=⟨[false,true,false,false,false,false,false,false,false,false,false,false,false,false,false,false,true,true,true],[],false⟩
theorem qHh:qus.zero=false:=rfl
theorem qQN:qus.fix=[]:=rfl
theorem qLs:qus.keep=[false,true,false,false,false,false,false,false,false,false,false,false,false,false,false,false,true,true,true]:=rfl
def qCz:Nm:=⟨[false,true],[],false⟩
theorem qUm:qCz.zero=false:=rfl
theorem qW4:qCz.fix=[]:=rfl
theorem qQL:qCz.keep=[false,true]:=rfl
def qzb:Nm:=⟨[false,false,true],[],false⟩
theorem qLZ:qzb.zero=false:=rfl
theorem qPN:qzb.fix=[]:=rfl
theorem qLg:qzb.keep=[false,false,true]:=rfl
def qnh:Nat→Tree:=fun i=>if i=9 then .quiet 0 (.quiet 1 (.alt 2 (.quiet 3 (.quiet 4 (.alt 5 (.quiet 6 (.quiet 7 .done)) .stop))) (.alt 3 (.alt 2 (.quiet 4 (.alt 5 (.quiet 6 (.quiet 7 .done)) .stop)) (.alt 4 (.alt 2 (.alt 5 (.quiet 6 (.quiet 7 .done)) .stop) .stop) .stop)) .stop)))else .done
def qsD:Nat→Nm:=fun i=>if i=4 then qus else ⟨[],[],false⟩
def qte:Nat→Option Jn:=fun _=>none
def qwN:Nat→Option Nm:=fun i=>if i=0 then some qCz else none
def qut:Nat→Option Nm:=fun i=>if i=9 then some qzb else none
theorem zhc:qn qnh (Tryz.f279.body.getD .skip)=true:=by kernel_rfl
def qc4 (N:Nat):Tab:={tr:=qnh,lp:=qsD,ex:=qwN,rg:=qut,jn:=qte,fuel:=N}
theorem qIw (N:Nat):(qc4 N).pins=false:=rfl
theorem zqr (N:Nat):qp Tryz.prog (qc4 N):=qv fun _=>rfl
theorem qGh (N:Nat) (i:Nat):(qc4 N).tr i=qnh i:=rfl
theorem qQd (N:Nat) (i:Nat):(qc4 N).lp i=qsD i:=rfl
theorem qP1 (N:Nat) (i:Nat):(qc4 N).ex i=qwN i:=rfl
theorem qPG (N:Nat) (i:Nat):(qc4 N).rg i=qut i:=rfl
theorem qJz (N:Nat) (i:Nat):(qc4 N).jn i=qte i:=rfl
theorem qYf (N:Nat):(qc4 N).fuel=N:=rfl
noncomputable def q1s:Code:=cut [true,true,false,true,true,true] (Tryz.f279.body.getD .skip)
theorem zcX {N:Nat} {Q:X→St→Option (qc [i4])} {e:List LV} {h:List Blk}:qe tt qiC (qc4 N) q1s Q ⟨e,h⟩=qe tt qiC (qc4 N) (cut [true,true,false,true,true,true] (Tryz.f279.body.getD .skip)) Q ⟨e,h⟩:=rfl
theorem zaV (N:Nat) (v1:List (Val (.int .i64))) (v2:Int) (v4:List (Val (.int .i64))) (v5:Int) (v6:Bool) {k0:Unit→Option (qc [i4])} {Q:X→St→Option (qc [i4])} {c:Code} (hc:c=q1s) (hret: ∀st,Q .ret st=qI tt true [i4] [.tmp 2] st) (h0:Q (.exit 0) ⟨[u,.one (.ptr 0 0 0),u,u,u,u,u,u,u,u,u,u,u,u,u,u,u,u,u,u,u,u,u,u,u,u,u,u,u,u,u,u,u],[.box [.sl 3 (.int .i64) v4 1,.int .i64 v5,.bool v6]]⟩=k0 ()): ∀(n:Nat) (v3:Int),qE (qe tt qiC (qc4 N) c) false qus Q n ⟨[u,.one (.ptr 0 0 0),u,u,u,u,u,u,u,u,u,u,u,u,u,u,.one (.sl 3 (.int .i64) v1 1),.one (.int .i64 v2),.one (.int .i64 v3),u,u,u,u,u,u,u,u,u,u,u,u,u,u],[.box [.sl 3 (.int .i64) v4 1,.int .i64 v5,.bool v6]]⟩=qjk N v1 v2 v4 v5 v6 k0 n v3:=by
 subst hc;intro n;induction n with
 | zero=>intros;rfl
 | succ n ih=>
   intro v3
   rw [qN,zcX,qjk];unfold Tryz.f279
   simp (maxSteps:=10000000) -implicitDefEqProofs [qGh,qnh,qQd,qsD,qP1,qwN,qPG,qut,qJz,qte,qYf,qIw,qQN,qLs,qHh,qW4,qQL,qUm,qPN,qLg,qLZ,qM8,qSA,qK5,qb9,qbg,qbZ,hret,h0,ih]
theorem q8F (N:Nat) (v0:Val qa):qe tt qiC (qc4 N) (Tryz.f279.body.getD .skip) (qt tt true [i4] [.tmp 2]) (qw [qr] 33 (v0,()))=qyz N v0:=by
 unfold Tryz.f279
 simp (maxSteps:=10000000) -implicitDefEqProofs [qGh,qnh,qQd,qsD,qP1,qwN,qPG,qut,qJz,qte,qYf,qIw,qQN,qLs,qHh,qW4,qQL,qUm,qPN,qLg,qLZ,qM8,qSA,qK5,qb9,qbg,qbZ]
 rewrite [zaV (k0:=(fun (_:Unit)=>chk (qgp (v0.1:List (Val (.int .i64)))) (chk (qb5 ((qa4 (v0.1:List (Val (.int .i64)))):Int) (v0.2.1:Int)) (some ((decide (((qS ((qa4 (v0.1:List (Val (.int .i64)))):Int) (v0.2.1:Int)):Int)≤(1:Int))),()))))) N _ _ _ _ _ ?_ ?_ ?_]
 ·rewrite [qyz];first | rfl | simp (maxSteps:=10000000) -implicitDefEqProofs []
 ·rfl
 ·intro;simp only [qJ,qL,qK,qB]
 ·simp (maxSteps:=10000000) -implicitDefEqProofs [qGh,qnh,qQd,qsD,qP1,qwN,qPG,qut,qJz,qte,qYf,qIw,qQN,qLs,qHh,qW4,qQL,qUm,qPN,qLg,qLZ,qM8,qSA,qK5,qb9,qbg,qbZ]
theorem qeo {n:Int} (h:qR n=true):inI n:=by
 unfold qR at h;unfold inI;have:=of_decide_eq_true h;omega
def qbs:G:={ps:=[qr],rs:=[i4],dp:=true,pre:=fun _=>True,fn:=fun x=>(qG x.1,())}
def qa6:G:={ps:=[qr],rs:=[i4],dp:=true,pre:=fun _=>True,fn:=fun x=>(qG x.1,())}
theorem zaN (N:Nat) (xs:List (Val (.int .i64))) (c:Int) (b:Bool) (K:Unit→Option (qc [i4])) (hl:xs.length≤1048576) (n:Nat) (hn:xs.length<n):qio N xs c b K n 0=bif List.all (α:=Int) xs qR then K ()else some (false,()):=
 (qaP (F:=fun n i (_:Unit)=>qio N xs c b K n i) (step:=fun _ x _ K=>bif qR x then K ()else some (false,())) (k:=K) hl (fun n i s hi=>by rw [qio,qk (by omega),qd (by omega),qF hi,qaG]) (fun n i s hi=>by rw [qio,qj (by omega)]) n () hn).trans (qdd xs 0)
theorem zoT (N:Nat) (xs ys:List (Val (.int .i64))) (c:Int) (b:Bool) (K:Unit→Option (qc [i4])) (hl:xs.length≤1048576) (n:Nat) (hn:xs.length<n):qjk N xs xs.length ys c b K n 0=bif List.all (α:=Int) xs qR then K ()else some (false,()):=
 (qaP (F:=fun n i (_:Unit)=>qjk N xs xs.length ys c b K n i) (step:=fun _ x _ K=>bif qR x then K ()else some (false,())) (k:=K) hl (fun n i s hi=>by rw [qjk,qk (by omega),qd (by omega),qF hi,qaG]) (fun n i s hi=>by rw [qjk,qj (by omega)]) n () hn).trans (qdd xs 0)
theorem zff (a:Val qa): ∃N,qxz N a=some (qG a,()):=⟨(a.1:List (Val (.int .i64))).length+1,by
 obtain ⟨xs,c,b⟩:=a
 change List (Val (.int .i64))at xs
 change Int at c
 change Bool at b
 rw [qxz,qG]
 dsimp only
 by_cases h4:xs.length≤4
 ·rw [qj (by omega)]
  cases hc:qR c with
  | false=>simp
  | true=>
    rw [zaN _ xs _ _ _ (by omega) _ (Nat.lt_succ_self _)]
    cases ha:List.all (α:=Int) xs qR with
    | false=>simp
    | true=>
      rw [qd (show qgs xs c from ⟨by omega,qeo hc,fun x hx=>qeo (List.all_eq_true.1 ha x hx)⟩)]
      simp [h4,qcy]
      rfl
 ·rw [qk (by omega)]
  simp [h4]⟩
theorem qEg:Sound Tryz.prog 193 qbs:=qx (tt:=tt) (Γ:=qjx) hT (qg qqQ (qg qTv qu)) hm (fn:=Tryz.f193) Tryz.func193 (c:=Tryz.f193.body.getD .skip) (by kernel_rfl) (by kernel_rfl) fun x hx=>by
 obtain ⟨N,h⟩:=zff x.1
 exact ⟨qdA N,zlT,qy _,zdQ N,(ziS N x.1).trans h⟩
theorem qXD: ∀(xs:List Int) (g:Nat),(g:Int)≤9223372036854775807→(∀x∈xs,inI x)→inI (gL g xs:Nat)
 | [],g,h,_=>by unfold inI gL;omega
 | x::xs,g,h,hx=>qXD xs _ (qYT h (hx x (by simp))).2 fun y hy=>hx y (by simp [hy])
theorem zi4 (a:Val qa): ∃N,qyz N a=some (qG a,()):=⟨(a.1:List (Val (.int .i64))).length+1,by
 obtain ⟨xs,c,b⟩:=a
 change List (Val (.int .i64))at xs
 change Int at c
 change Bool at b
 rw [qyz,qG]
 dsimp only
 by_cases h4:xs.length≤4
 ·rw [qj (by omega)]
  cases hc:qR c with
  | false=>simp
  | true=>
    rw [zoT _ xs _ _ _ _ (by omega) _ (Nat.lt_succ_self _)]
    cases ha:List.all (α:=Int) xs qR with
    | false=>simp
    | true=>
      have hx: ∀x∈xs,inI x:=fun x hx=>qeo (List.all_eq_true.1 ha x hx)
      have e:Nat.gcd (gL 0 xs) c.natAbs=gL c.natAbs xs:=by rw [←qxA,Nat.gcd_zero_left]
      rw [qd (show qgp xs from ⟨by omega,hx⟩),qd (show qb5 (qa4 xs) c from ⟨qXD xs 0 (by omega) hx,qeo hc⟩)]
      simp [h4,qa4,qS,e]
 ·rw [qk (by omega)]
  simp [h4]⟩
theorem qxq:Sound Tryz.prog 279 qa6:=qx (tt:=tt) (Γ:=qiC) hT (qg qD3 (qg qxg (qg qAA qu))) hm (fn:=Tryz.f279) Tryz.func279 (c:=Tryz.f279.body.getD .skip) (by kernel_rfl) (by kernel_rfl) fun x hx=>by
 obtain ⟨N,h⟩:=zi4 x.1
 exact ⟨qc4 N,zhc,qy _,zqr N,(q8F N x.1).trans h⟩
end Go.T
