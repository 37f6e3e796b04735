/- Whole numbers; atoms; cells; relations: what the functions compute. -/
import Derived.Test.YtkjiecjpdbpghaaA1
set_option linter.unusedSimpArgs false
set_option linter.unusedVariables false
namespace Go.T
open Go Go.Proofs
set_option maxHeartbeats 1000000
set_option maxRecDepth 100000
def inI (n:Int):Prop:= -9223372036854775807≤n∧n≤9223372036854775807
def qaC (n:Int):Int:=(n.natAbs:Int)
def qbV (n:Int):Prop:=inI n
def qde (a b:Int):Int:=(Nat.gcd a.natAbs b.natAbs:Nat)
def qcL (a b:Int):Prop:=inI a∧inI b
def qhH (xs:List (Val (.int .i64))) (k:Int):Int:=(gL k.natAbs xs:Nat)
def qjv (xs:List (Val (.int .i64))) (k:Int):Prop:=xs.length≤1048576∧inI k∧ ∀x∈xs,inI x
def qc2 (xs:List (Val (.int .i64))):Int:=(gL 0 xs:Nat)
def qjc (xs:List (Val (.int .i64))):Prop:=xs.length≤1048576∧ ∀x∈xs,inI x
def q7 (n:Int):Bool:=decide (-400000000≤n∧n≤400000000)
def inR (x a b:Int):Bool:=decide (a≤x∧x≤b)
def qfN:G:={ps:=[i3],rs:=[i3],dp:=true,pre:=fun x=>qbV x.1,fn:=fun x=>(qaC x.1,())}
noncomputable def qlK (N:Nat) (v0:Int):Option (qa [i3]):=bif (decide (v0<(0:Int)))then (some ((IntKind.i64.wrap (0 - v0)),()))else (some (v0,()))
def qxw:Gam:=[]
def qld:Nat→Tree:=fun _=> .done
def qvk:Nat→Nm:=fun _=>⟨[],[],false⟩
def qv0:Nat→Option Jn:=fun _=>none
def qqv:Nat→Option Nm:=fun _=>none
def qnW:Nat→Option Nm:=fun _=>none
theorem qC5:qm qld (Try.f163.body.getD .skip)=true:=by kernel_rfl
def qcw (N:Nat):Tab:={tr:=qld,lp:=qvk,ex:=qqv,rg:=qnW,jn:=qv0,fuel:=N}
theorem qGK (N:Nat):(qcw N).pins=false:=rfl
theorem qEd (N:Nat):qp Try.prog (qcw N):=qv fun _=>rfl
theorem qJF (N:Nat) (i:Nat):(qcw N).tr i=qld i:=rfl
theorem qDO (N:Nat) (i:Nat):(qcw N).lp i=qvk i:=rfl
theorem qEu (N:Nat) (i:Nat):(qcw N).ex i=qqv i:=rfl
theorem qFr (N:Nat) (i:Nat):(qcw N).rg i=qnW i:=rfl
theorem qH4 (N:Nat) (i:Nat):(qcw N).jn i=qv0 i:=rfl
theorem qEg (N:Nat):(qcw N).fuel=N:=rfl
theorem qCe (N:Nat) (v0:Int):qc tt qxw (qcw N) (Try.f163.body.getD .skip) (qn tt true [i3] [.tmp 2]) (qq [i3] 8 (v0,()))=qlK N v0:=by
 rw [qlK];unfold Try.f163
 simp (maxSteps:=10000000) -implicitDefEqProofs [qJF,qld,qDO,qvk,qEu,qqv,qFr,qnW,qH4,qv0,qEg,qGK]
 try rfl
theorem qJC (n:Int) (h:inI n): ∃N,qlK N n=some (qaC n,()):=⟨0,by
 unfold inI at h
 simp only [qlK,qaC]
 by_cases h0:n<0
 ·have e:IntKind.i64.wrap (0 - n)=(n.natAbs:Int):=by rw [qbw (by omega) (by omega)];omega
  simp only [h0,decide_true,cond_true,e]
 ·have e:(n.natAbs:Int)=n:=by omega
  simp [h0,e]⟩
theorem qJT:Sound Try.prog 163 qfN:=qu (tt:=tt) (Γ:=qxw) hT qt hm (fn:=Try.f163) Try.func163 (c:=Try.f163.body.getD .skip) (by kernel_rfl) (by kernel_rfl) fun x hx=>by
 obtain ⟨N,h⟩:=qJC x.1 hx
 exact ⟨qcw N,qC5,qr _,qEd N,(qCe N x.1).trans h⟩
noncomputable def qe1 (N:Nat) (k0:Int→Option (qa [i3])):Nat→Int→Int→Option (qa [i3])
 | 0,_,_=>none
 | n+1,v2,v3=>bif (!(decide (v3=(0:Int))))then (chk (v3≠0) (qe1 N k0 n v3 (v2.tmod v3)))else (k0 v2)
noncomputable def qki (N:Nat) (v0:Int) (v1:Int):Option (qa [i3]):=chk (qbV v0) (chk (qbV v1) (qe1 N (fun (v5:Int)=>some (v5,())) N ((qaC v0):Int) ((qaC v1):Int)))
def qfO:Gam:=[(163,qfN)]
theorem qvI:Gam.get qfO 163=some qfN:=rfl
def qhs:Nm:=⟨[true,true],[],false⟩
theorem qpm:qhs.zero=false:=rfl
theorem qvV:qhs.fix=[]:=rfl
theorem qrH:qhs.keep=[true,true]:=rfl
def qkq:Nm:=⟨[true],[],false⟩
theorem qoc:qkq.zero=false:=rfl
theorem qu0:qkq.fix=[]:=rfl
theorem qr5:qkq.keep=[true]:=rfl
def qew:Nat→Tree:=fun i=>if i=3 then .quiet 0 (.quiet 1 (.quiet 2 (.quiet 3 (.quiet 4 (.quiet 5 .done)))))else .done
def qg9:Nat→Nm:=fun i=>if i=2 then qhs else ⟨[],[],false⟩
def qhe:Nat→Option Jn:=fun _=>none
def qgD:Nat→Option Nm:=fun i=>if i=0 then some qkq else none
def qhy:Nat→Option Nm:=fun _=>none
theorem qAg:qm qew (Try.f131.body.getD .skip)=true:=by kernel_rfl
def qbt (N:Nat):Tab:={tr:=qew,lp:=qg9,ex:=qgD,rg:=qhy,jn:=qhe,fuel:=N}
theorem qoE (N:Nat):(qbt N).pins=false:=rfl
theorem qJh (N:Nat):qp Try.prog (qbt N):=qv fun _=>rfl
theorem qvh (N:Nat) (i:Nat):(qbt N).tr i=qew i:=rfl
theorem quc (N:Nat) (i:Nat):(qbt N).lp i=qg9 i:=rfl
theorem qtt (N:Nat) (i:Nat):(qbt N).ex i=qgD i:=rfl
theorem qte (N:Nat) (i:Nat):(qbt N).rg i=qhy i:=rfl
theorem qqA (N:Nat) (i:Nat):(qbt N).jn i=qhe i:=rfl
theorem qp3 (N:Nat):(qbt N).fuel=N:=rfl
noncomputable def qxC:Code:=cut [true,true,false,true,true] (Try.f131.body.getD .skip)
theorem qEL {N:Nat} {Q:X→St→Option (qa [i3])} {e:List LV} {h:List Blk}:qc tt qfO (qbt N) qxC Q ⟨e,h⟩=qc tt qfO (qbt N) (cut [true,true,false,true,true] (Try.f131.body.getD .skip)) Q ⟨e,h⟩:=rfl
theorem qE0 (N:Nat) {k0:Int→Option (qa [i3])} {Q:X→St→Option (qa [i3])} {c:Code} (hc:c=qxC) (hret: ∀st,Q .ret st=qG tt true [i3] [.tmp 4] st) (h0: ∀(v4:Int),Q (.exit 0) ⟨[.one (.int .i64 v4),u,u,u,u,u,u,u,u,u,u,u,u,u,u,u],[]⟩=k0 v4): ∀(n:Nat) (v2:Int) (v3:Int),qE (qc tt qfO (qbt N) c) false qhs Q n ⟨[.one (.int .i64 v2),.one (.int .i64 v3),u,u,u,u,u,u,u,u,u,u,u,u,u,u],[]⟩=qe1 N k0 n v2 v3:=by
 subst hc;intro n;induction n with
 | zero=>intros;rfl
 | succ n ih=>
   intro v2 v3
   rw [qP,qEL,qe1];unfold Try.f131
   simp (maxSteps:=10000000) -implicitDefEqProofs [qvh,qew,quc,qg9,qtt,qgD,qte,qhy,qqA,qhe,qp3,qoE,qvV,qrH,qpm,qu0,qr5,qoc,qvI,qfN,hret,h0,ih]
theorem qFX (N:Nat) (v0:Int) (v1:Int):qc tt qfO (qbt N) (Try.f131.body.getD .skip) (qn tt true [i3] [.tmp 4]) (qq [i3,i3] 16 (v0,v1,()))=qki N v0 v1:=by
 unfold Try.f131
 simp (maxSteps:=10000000) -implicitDefEqProofs [qvh,qew,quc,qg9,qtt,qgD,qte,qhy,qqA,qhe,qp3,qoE,qvV,qrH,qpm,qu0,qr5,qoc,qvI,qfN]
 rewrite [qE0 (k0:=(fun (v5:Int)=>some (v5,()))) N ?_ ?_ ?_]
 ·rewrite [qki];first | rfl | simp (maxSteps:=10000000) -implicitDefEqProofs []
 ·rfl
 ·intro;simp only [qN,qO,qQ,qM]
 ·intro v5;simp (maxSteps:=10000000) -implicitDefEqProofs [qvh,qew,quc,qg9,qtt,qgD,qte,qhy,qqA,qhe,qp3,qoE,qvV,qrH,qpm,qu0,qr5,qoc,qvI,qfN]
theorem qzy (N:Nat) (k:Int→Option (qa [i3])): ∀(n a b:Nat),b<n→qe1 N k n (a:Int) (b:Int)=k (Nat.gcd a b:Nat)
 | 0,_,_,h=>by omega
 | n+1,a,b,h=>by
   rw [qe1]
   by_cases hb:b=0
   ·subst hb;simp
   ·have hb': ¬((b:Int)=0):=by omega
    have hlt:a % b<b:=Nat.mod_lt _ (by omega)
    have hm:((a:Int).tmod (b:Int))=((a % b:Nat):Int):=by rw [Int.tmod_eq_emod_of_nonneg (by omega)];rfl
    simp only [hb',decide_false,Bool.not_false,cond_true,ne_eq,not_false_eq_true,qxg]
    rw [hm,qzy N k n b (a % b) (by omega)]
    congr 2
    rw [Nat.gcd_comm b,←Nat.gcd_rec,Nat.gcd_comm]
def qcb:G:={ps:=[i3,i3],rs:=[i3],dp:=true,pre:=fun x=>qcL x.1 x.2.1,fn:=fun x=>(qde x.1 x.2.1,())}
theorem qIa (a b:Int) (h:qcL a b): ∃N,qki N a b=some (qde a b,()):=⟨b.natAbs+1,by
 rw [qki,qd (show qbV a from h.1),qd (show qbV b from h.2)]
 simp only [qaC]
 rw [qzy _ _ _ _ _ (Nat.lt_succ_self _)]
 rfl⟩
theorem qzP:Sound Try.prog 131 qcb:=qu (tt:=tt) (Γ:=qfO) hT (qk qJT qt) hm (fn:=Try.f131) Try.func131 (c:=Try.f131.body.getD .skip) (by kernel_rfl) (by kernel_rfl) fun x hx=>by
 obtain ⟨N,h⟩:=qIa x.1 x.2.1 hx
 exact ⟨qbt N,qAg,qr _,qJh N,(qFX N x.1 x.2.1).trans h⟩
theorem qxu {g:Nat} {x:Int} (hg:(g:Int)≤9223372036854775807) (hx:inI x):qcL (g:Int) x∧((Nat.gcd g x.natAbs:Nat):Int)≤9223372036854775807:=by
 refine ⟨⟨⟨by omega,hg⟩,hx⟩,?_⟩
 unfold inI at hx
 by_cases h0:x.natAbs=0
 ·rw [h0];simpa using hg
 ·have:=Nat.gcd_le_right (m:=g) (n:=x.natAbs) (by omega)
  omega
theorem qx7 {ρ:Type}: ∀(xs:List Int) (i g:Nat) (k:Int→Option ρ),(g:Int)≤9223372036854775807→(∀x∈xs,inI x)→qaq (fun _ x s K=>chk (qcL s x) (K (qde s x))) i xs (g:Int) k=k (gL g xs:Nat)
 | [],_,_,_,_,_=>rfl
 | x::xs,i,g,k,hg,hx=>by
   obtain ⟨h1,h2⟩:=qxu hg (hx x (by simp))
   rw [qaq,qd h1]
   exact qx7 xs (i+1) _ k h2 fun y hy=>hx y (by simp [hy])
noncomputable def qdO (N:Nat) (v2:List (Val (.int .i64))) (v3:Int) (k0:Int→Option (qa [i3])):Nat→Int→Int→Option (qa [i3])
 | 0,_,_=>none
 | n+1,v1,v4=>bif (decide (v4<v3))then (chk (0≤v4∧v4<(v2.length:Int)) (chk (qcL v1 ((v2.getD v4.toNat (qb (.int .i64))):Int)) (qdO N v2 v3 k0 n ((qde v1 ((v2.getD v4.toNat (qb (.int .i64))):Int)):Int) (IntKind.i64.wrap (v4+(1:Int))))))else (k0 v1)
noncomputable def qkW (N:Nat) (v0:List (Val (.int .i64))):Option (qa [i3]):=qdO N v0 (v0.length:Int) (fun (v6:Int)=>some (v6,())) N (0:Int) (0:Int)
def qfJ:Gam:=[(131,qcb)]
theorem qsn:Gam.get qfJ 131=some qcb:=rfl
def qge:Nm:=⟨[false,false,false,true,false,false,true,true,true],[],false⟩
theorem qng:qge.zero=false:=rfl
theorem qqV:qge.fix=[]:=rfl
theorem qmK:qge.keep=[false,false,false,true,false,false,true,true,true]:=rfl
def qkZ:Nm:=⟨[false,false,false,true],[],false⟩
theorem quP:qkZ.zero=false:=rfl
theorem quA:qkZ.fix=[]:=rfl
theorem qsG:qkZ.keep=[false,false,false,true]:=rfl
def qeN:Nat→Tree:=fun _=> .done
def qhn:Nat→Nm:=fun i=>if i=3 then qge else ⟨[],[],false⟩
def qhM:Nat→Option Jn:=fun _=>none
def qg7:Nat→Option Nm:=fun i=>if i=0 then some qkZ else none
def qio:Nat→Option Nm:=fun _=>none
theorem qCB:qm qeN (Try.f132.body.getD .skip)=true:=by kernel_rfl
def qaS (N:Nat):Tab:={tr:=qeN,lp:=qhn,ex:=qg7,rg:=qio,jn:=qhM,fuel:=N}
theorem qrL (N:Nat):(qaS N).pins=false:=rfl
theorem qD0 (N:Nat):qp Try.prog (qaS N):=qv fun _=>rfl
theorem qvH (N:Nat) (i:Nat):(qaS N).tr i=qeN i:=rfl
theorem qwv (N:Nat) (i:Nat):(qaS N).lp i=qhn i:=rfl
theorem qqG (N:Nat) (i:Nat):(qaS N).ex i=qg7 i:=rfl
theorem qpR (N:Nat) (i:Nat):(qaS N).rg i=qio i:=rfl
theorem qux (N:Nat) (i:Nat):(qaS N).jn i=qhM i:=rfl
theorem qq3 (N:Nat):(qaS N).fuel=N:=rfl
noncomputable def qw5:Code:=cut [true,true,false,true,true,true] (Try.f132.body.getD .skip)
theorem qHj {N:Nat} {Q:X→St→Option (qa [i3])} {e:List LV} {h:List Blk}:qc tt qfJ (qaS N) qw5 Q ⟨e,h⟩=qc tt qfJ (qaS N) (cut [true,true,false,true,true,true] (Try.f132.body.getD .skip)) Q ⟨e,h⟩:=rfl
theorem qFM (N:Nat) (v2:List (Val (.int .i64))) (v3:Int) {k0:Int→Option (qa [i3])} {Q:X→St→Option (qa [i3])} {c:Code} (hc:c=qw5) (hret: ∀st,Q .ret st=qG tt true [i3] [.tmp 2] st) (h0: ∀(v5:Int),Q (.exit 0) ⟨[u,u,u,.one (.int .i64 v5),u,u,u,u,u,u,u,u,u,u,u,u,u],[]⟩=k0 v5): ∀(n:Nat) (v1:Int) (v4:Int),qE (qc tt qfJ (qaS N) c) false qge Q n ⟨[u,u,u,.one (.int .i64 v1),u,u,.one (.sl 3 (.int .i64) v2 0),.one (.int .i64 v3),.one (.int .i64 v4),u,u,u,u,u,u,u,u],[]⟩=qdO N v2 v3 k0 n v1 v4:=by
 subst hc;intro n;induction n with
 | zero=>intros;rfl
 | succ n ih=>
   intro v1 v4
   rw [qP,qHj,qdO];unfold Try.f132
   simp (maxSteps:=10000000) -implicitDefEqProofs [qvH,qeN,qwv,qhn,qqG,qg7,qpR,qio,qux,qhM,qq3,qrL,qqV,qmK,qng,quA,qsG,quP,qsn,qcb,hret,h0,ih]
theorem qAk (N:Nat) (v0:List (Val (.int .i64))):qc tt qfJ (qaS N) (Try.f132.body.getD .skip) (qn tt true [i3] [.tmp 2]) (qq [i32] 17 (v0,()))=qkW N v0:=by
 unfold Try.f132
 simp (maxSteps:=10000000) -implicitDefEqProofs [qvH,qeN,qwv,qhn,qqG,qg7,qpR,qio,qux,qhM,qq3,qrL,qqV,qmK,qng,quA,qsG,quP,qsn,qcb]
 rewrite [qFM (k0:=(fun (v6:Int)=>some (v6,()))) N _ _ ?_ ?_ ?_]
 ·rewrite [qkW];first | rfl | simp (maxSteps:=10000000) -implicitDefEqProofs []
 ·rfl
 ·intro;simp only [qN,qO,qQ,qM]
 ·intro v6;simp (maxSteps:=10000000) -implicitDefEqProofs [qvH,qeN,qwv,qhn,qqG,qg7,qpR,qio,qux,qhM,qq3,qrL,qqV,qmK,qng,quA,qsG,quP,qsn,qcb]
def qeF:G:={ps:=[i32],rs:=[i3],dp:=true,pre:=fun x=>qjc x.1,fn:=fun x=>(qc2 x.1,())}
theorem qJW (xs:List (Val (.int .i64))) (h:qjc xs): ∃N,qkW N xs=some (qc2 xs,()):=⟨xs.length+1,by
 rw [qkW]
 rw [qac (F:=fun n i s=>qdO _ xs xs.length _ n s i) (step:=fun _ x s K=>chk (qcL s x) (K (qde s x))) (k:=fun s=>some (s,())) h.1 ?_ ?_ _ _ (Nat.lt_succ_self _)]
 ·exact qx7 xs 0 0 _ (by omega) h.2
 ·intro n i s hi
  rw [qdO,qh (by omega),qd (by omega),qB hi]
 ·intro n i s hi
  rw [qdO,qg (by omega)]⟩
theorem qEy:Sound Try.prog 132 qeF:=qu (tt:=tt) (Γ:=qfJ) hT (qk qzP qt) hm (fn:=Try.f132) Try.func132 (c:=Try.f132.body.getD .skip) (by kernel_rfl) (by kernel_rfl) fun x hx=>by
 obtain ⟨N,h⟩:=qJW x.1 hx
 exact ⟨qaS N,qCB,qr _,qD0 N,(qAk N x.1).trans h⟩
def qdv:G:={ps:=[i3],rs:=[i3],dp:=true,pre:=fun x=>qbV x.1,fn:=fun x=>(qaC x.1,())}
noncomputable def qmm (N:Nat) (v0:Int):Option (qa [i3]):=some ((max v0 (IntKind.i64.wrap (0 - v0))),())
def qxW:Gam:=[]
def qkg:Nat→Tree:=fun _=> .done
def qov:Nat→Nm:=fun _=>⟨[],[],false⟩
def qpi:Nat→Option Jn:=fun _=>none
def qvj:Nat→Option Nm:=fun _=>none
def qmT:Nat→Option Nm:=fun _=>none
theorem qIb:qm qkg (Try.f162.body.getD .skip)=true:=by kernel_rfl
def qcC (N:Nat):Tab:={tr:=qkg,lp:=qov,ex:=qvj,rg:=qmT,jn:=qpi,fuel:=N}
theorem qFn (N:Nat):(qcC N).pins=false:=rfl
theorem qFL (N:Nat):qp Try.prog (qcC N):=qv fun _=>rfl
theorem qFI (N:Nat) (i:Nat):(qcC N).tr i=qkg i:=rfl
theorem qC9 (N:Nat) (i:Nat):(qcC N).lp i=qov i:=rfl
theorem qEW (N:Nat) (i:Nat):(qcC N).ex i=qvj i:=rfl
theorem qD5 (N:Nat) (i:Nat):(qcC N).rg i=qmT i:=rfl
theorem qAj (N:Nat) (i:Nat):(qcC N).jn i=qpi i:=rfl
theorem qGq (N:Nat):(qcC N).fuel=N:=rfl
theorem qGl (N:Nat) (v0:Int):qc tt qxW (qcC N) (Try.f162.body.getD .skip) (qn tt true [i3] [.tmp 2]) (qq [i3] 7 (v0,()))=qmm N v0:=by
 rw [qmm];unfold Try.f162
 simp (maxSteps:=10000000) -implicitDefEqProofs [qFI,qkg,qC9,qov,qEW,qvj,qD5,qmT,qAj,qpi,qGq,qFn]
 try rfl
theorem qDf (n:Int) (h:inI n): ∃N,qmm N n=some (qaC n,()):=⟨0,by
 unfold inI at h
 rw [qmm,qbw (by omega) (by omega)]
 have e:max n (0 - n)=qaC n:=by unfold qaC;omega
 rw [e]⟩
theorem qDQ:Sound Try.prog 162 qdv:=qu (tt:=tt) (Γ:=qxW) hT qt hm (fn:=Try.f162) Try.func162 (c:=Try.f162.body.getD .skip) (by kernel_rfl) (by kernel_rfl) fun x hx=>by
 obtain ⟨N,h⟩:=qDf x.1 hx
 exact ⟨qcC N,qIb,qr _,qFL N,(qGl N x.1).trans h⟩
noncomputable def m65 (N:Nat) (v0:Int) (v1:Int) (v2:Int):Option (qa [i4]):=bif (decide (v1≤v0))then (some ((decide (v0≤v2)),()))else (some (false,()))
def Γ65:Gam:=[]
def qjP:Nat→Tree:=fun _=> .done
def qro:Nat→Nm:=fun _=>⟨[],[],false⟩
def qwK:Nat→Option Jn:=fun _=>none
def qn0:Nat→Option Nm:=fun _=>none
def qvf:Nat→Option Nm:=fun _=>none
theorem p65:qm qjP (Try.f65.body.getD .skip)=true:=by kernel_rfl
def T65 (N:Nat):Tab:={tr:=qjP,lp:=qro,ex:=qn0,rg:=qvf,jn:=qwK,fuel:=N}
theorem qC1 (N:Nat):(T65 N).pins=false:=rfl
theorem qBo (N:Nat):qp Try.prog (T65 N):=qv fun _=>rfl
theorem qEq (N:Nat) (i:Nat):(T65 N).tr i=qjP i:=rfl
theorem qFV (N:Nat) (i:Nat):(T65 N).lp i=qro i:=rfl
theorem qI9 (N:Nat) (i:Nat):(T65 N).ex i=qn0 i:=rfl
theorem qDm (N:Nat) (i:Nat):(T65 N).rg i=qvf i:=rfl
theorem qC8 (N:Nat) (i:Nat):(T65 N).jn i=qwK i:=rfl
theorem qBz (N:Nat):(T65 N).fuel=N:=rfl
theorem qBF (N:Nat) (v0:Int) (v1:Int) (v2:Int):qc tt Γ65 (T65 N) (Try.f65.body.getD .skip) (qn tt true [i4] [.tmp 6]) (qq [i3,i3,i3] 15 (v0,v1,v2,()))=m65 N v0 v1 v2:=by
 rw [m65];unfold Try.f65
 simp (maxSteps:=10000000) -implicitDefEqProofs [qEq,qjP,qFV,qro,qI9,qn0,qDm,qvf,qC8,qwK,qBz,qC1]
 try rfl
def g65:G:={ps:=[i3,i3,i3],rs:=[i4],dp:=true,pre:=fun _=>True,fn:=fun x=>(inR x.1 x.2.1 x.2.2.1,())}
theorem e65 (x a b:Int): ∃N,m65 N x a b=some (inR x a b,()):=⟨0,by
 simp only [m65,inR]
 by_cases h1:a≤x<;>by_cases h2:x≤b<;>simp [h1,h2]⟩
theorem s65:Sound Try.prog 65 g65:=qu (tt:=tt) (Γ:=Γ65) hT qt hm (fn:=Try.f65) Try.func65 (c:=Try.f65.body.getD .skip) (by kernel_rfl) (by kernel_rfl) fun x hx=>by
 obtain ⟨N,h⟩:=e65 x.1 x.2.1 x.2.2.1
 exact ⟨T65 N,p65,qr _,qBo N,(qBF N x.1 x.2.1 x.2.2.1).trans h⟩
noncomputable def qkm (N:Nat) (v0:Int):Option (qa [i4]):=some (((inR v0 (-400000000:Int) (400000000:Int)):Bool),())
def qsx:Gam:=[(65,g65)]
theorem qHg:Gam.get qsx 65=some g65:=rfl
def qlT:Nat→Tree:=fun _=> .done
def qm7:Nat→Nm:=fun _=>⟨[],[],false⟩
def qsT:Nat→Option Jn:=fun _=>none
def qu2:Nat→Option Nm:=fun _=>none
def qsy:Nat→Option Nm:=fun _=>none
theorem qHN:qm qlT (Try.f141.body.getD .skip)=true:=by kernel_rfl
def qcG (N:Nat):Tab:={tr:=qlT,lp:=qm7,ex:=qu2,rg:=qsy,jn:=qsT,fuel:=N}
theorem qBR (N:Nat):(qcG N).pins=false:=rfl
theorem qAw (N:Nat):qp Try.prog (qcG N):=qv fun _=>rfl
theorem qDq (N:Nat) (i:Nat):(qcG N).tr i=qlT i:=rfl
theorem qH7 (N:Nat) (i:Nat):(qcG N).lp i=qm7 i:=rfl
theorem qAU (N:Nat) (i:Nat):(qcG N).ex i=qu2 i:=rfl
theorem qE3 (N:Nat) (i:Nat):(qcG N).rg i=qsy i:=rfl
theorem qEv (N:Nat) (i:Nat):(qcG N).jn i=qsT i:=rfl
theorem qFu (N:Nat):(qcG N).fuel=N:=rfl
theorem qFD (N:Nat) (v0:Int):qc tt qsx (qcG N) (Try.f141.body.getD .skip) (qn tt true [i4] [.tmp 2]) (qq [i3] 5 (v0,()))=qkm N v0:=by
 rw [qkm];unfold Try.f141
 simp (maxSteps:=10000000) -implicitDefEqProofs [qDq,qlT,qH7,qm7,qAU,qu2,qE3,qsy,qEv,qsT,qFu,qBR,qHg,g65]
 try rfl
noncomputable def qlF (N:Nat) (v0:Int):Option (qa [i4]):=bif (decide ((-400000000:Int)≤v0))then (some ((decide (v0≤(400000000:Int))),()))else (some (false,()))
def qwS:Gam:=[]
def qls:Nat→Tree:=fun _=> .done
def qpd:Nat→Nm:=fun _=>⟨[],[],false⟩
def qmG:Nat→Option Jn:=fun _=>none
def qnh:Nat→Option Nm:=fun _=>none
def qni:Nat→Option Nm:=fun _=>none
theorem qGy:qm qls (Try.f153.body.getD .skip)=true:=by kernel_rfl
def qcu (N:Nat):Tab:={tr:=qls,lp:=qpd,ex:=qnh,rg:=qni,jn:=qmG,fuel:=N}
theorem qIS (N:Nat):(qcu N).pins=false:=rfl
theorem qIl (N:Nat):qp Try.prog (qcu N):=qv fun _=>rfl
theorem qJa (N:Nat) (i:Nat):(qcu N).tr i=qls i:=rfl
theorem qIm (N:Nat) (i:Nat):(qcu N).lp i=qpd i:=rfl
theorem qHH (N:Nat) (i:Nat):(qcu N).ex i=qnh i:=rfl
theorem qBq (N:Nat) (i:Nat):(qcu N).rg i=qni i:=rfl
theorem qHb (N:Nat) (i:Nat):(qcu N).jn i=qmG i:=rfl
theorem qC7 (N:Nat):(qcu N).fuel=N:=rfl
theorem qz8 (N:Nat) (v0:Int):qc tt qwS (qcu N) (Try.f153.body.getD .skip) (qn tt true [i4] [.tmp 2]) (qq [i3] 9 (v0,()))=qlF N v0:=by
 rw [qlF];unfold Try.f153
 simp (maxSteps:=10000000) -implicitDefEqProofs [qJa,qls,qIm,qpd,qHH,qnh,qBq,qni,qHb,qmG,qC7,qIS]
 try rfl
def qfU:G:={ps:=[i3],rs:=[i4],dp:=true,pre:=fun _=>True,fn:=fun x=>(q7 x.1,())}
def qfR:G:={ps:=[i3],rs:=[i4],dp:=true,pre:=fun _=>True,fn:=fun x=>(q7 x.1,())}
theorem qA3 (x:Int): ∃N,qkm N x=some (q7 x,()):=⟨0,by
 simp only [qkm,inR,q7]⟩
theorem qHF:Sound Try.prog 141 qfU:=qu (tt:=tt) (Γ:=qsx) hT (qk s65 qt) hm (fn:=Try.f141) Try.func141 (c:=Try.f141.body.getD .skip) (by kernel_rfl) (by kernel_rfl) fun x hx=>by
 obtain ⟨N,h⟩:=qA3 x.1
 exact ⟨qcG N,qHN,qr _,qAw N,(qFD N x.1).trans h⟩
theorem qCt (x:Int): ∃N,qlF N x=some (q7 x,()):=⟨0,by
 simp only [qlF,q7]
 by_cases h1: -400000000≤x<;>by_cases h2:x≤400000000<;>simp [h1,h2]⟩
theorem qCf:Sound Try.prog 153 qfR:=qu (tt:=tt) (Γ:=qwS) hT qt hm (fn:=Try.f153) Try.func153 (c:=Try.f153.body.getD .skip) (by kernel_rfl) (by kernel_rfl) fun x hx=>by
 obtain ⟨N,h⟩:=qCt x.1
 exact ⟨qcu N,qGy,qr _,qIl N,(qz8 N x.1).trans h⟩
noncomputable def qbT (N:Nat) (v11:List (Val (.int .i64))) (v13:Int) (k2:Int→Option (qa [i3])):Nat→Int→Int→Option (qa [i3])
 | 0,_,_=>none
 | n+1,v12,v14=>bif (!(decide (v14=(0:Int))))then (chk (v14≠0) (qbT N v11 v13 k2 n v14 (v12.tmod v14)))else (k2 v12)
noncomputable def qdi (N:Nat) (v2:List (Val (.int .i64))) (k0:Int→Option (qa [i3])):Nat→Int→Int→Option (qa [i3])
 | 0,_,_=>none
 | n+1,v3,v4=>bif (decide (v4<(v2.length:Int)))then (chk (0≤v4∧v4<(v2.length:Int)) (chk (qbV ((v2.getD v4.toNat (qb (.int .i64))):Int)) (qbT N v2 v4 (fun (v16:Int)=>qdi N v2 k0 n v16 (IntKind.i64.wrap (v4+(1:Int)))) N v3 ((qaC ((v2.getD v4.toNat (qb (.int .i64))):Int)):Int))))else (k0 v3)
noncomputable def qlc (N:Nat) (v0:List (Val (.int .i64))) (v1:Int):Option (qa [i3]):=chk (qbV v1) (qdi N v0 (fun (v18:Int)=>some (v18,())) N ((qaC v1):Int) (0:Int))
def qcY:Gam:=[(162,qdv)]
theorem qjt:Gam.get qcY 162=some qdv:=rfl
def qjd:Nm:=⟨[true,false,false,false,false,true,true,true],[],false⟩
theorem qh1:qjd.zero=false:=rfl
theorem qgN:qjd.fix=[]:=rfl
theorem qgW:qjd.keep=[true,false,false,false,false,true,true,true]:=rfl
def qf1:Nm:=⟨[true,false,false,false,false,true,true],[],false⟩
theorem qg5:qf1.zero=false:=rfl
theorem qgX:qf1.fix=[]:=rfl
theorem qih:qf1.keep=[true,false,false,false,false,true,true]:=rfl
def qj9:Nm:=⟨[false,false,false,false,false,true],[],false⟩
theorem qhZ:qj9.zero=false:=rfl
theorem qjw:qj9.fix=[]:=rfl
theorem qhW:qj9.keep=[false,false,false,false,false,true]:=rfl
def ql5:Nm:=⟨[true,false,false,false,false,true,true],[],false⟩
theorem qho:ql5.zero=false:=rfl
theorem qiJ:ql5.fix=[]:=rfl
theorem qjI:ql5.keep=[true,false,false,false,false,true,true]:=rfl
def qc0:Nat→Tree:=fun i=>if i=7 then .quiet 0 (.quiet 1 (.quiet 2 (.quiet 3 (.quiet 4 (.quiet 5 .done)))))else .done
def qdR:Nat→Nm:=fun i=>if i=6 then qjd else if i=3 then qf1 else ⟨[],[],false⟩
def qei:Nat→Option Jn:=fun _=>none
def qep:Nat→Option Nm:=fun i=>if i=0 then some qj9 else if i=2 then some ql5 else none
def qdA:Nat→Option Nm:=fun _=>none
theorem qCZ:qm qc0 (Try.f128.body.getD .skip)=true:=by kernel_rfl
def qaw (N:Nat):Tab:={tr:=qc0,lp:=qdR,ex:=qep,rg:=qdA,jn:=qei,fuel:=N}
theorem qiq (N:Nat):(qaw N).pins=false:=rfl
theorem qDF (N:Nat):qp Try.prog (qaw N):=qv fun _=>rfl
theorem qjA (N:Nat) (i:Nat):(qaw N).tr i=qc0 i:=rfl
theorem qhY (N:Nat) (i:Nat):(qaw N).lp i=qdR i:=rfl
theorem qhT (N:Nat) (i:Nat):(qaw N).ex i=qep i:=rfl
theorem qhq (N:Nat) (i:Nat):(qaw N).rg i=qdA i:=rfl
theorem qij (N:Nat) (i:Nat):(qaw N).jn i=qei i:=rfl
theorem qh4 (N:Nat):(qaw N).fuel=N:=rfl
noncomputable def qxp:Code:=cut [true,true,false,true,true,true,true,false,true,true,true,true] (Try.f128.body.getD .skip)
theorem qDl {N:Nat} {Q:X→St→Option (qa [i3])} {e:List LV} {h:List Blk}:qc tt qcY (qaw N) qxp Q ⟨e,h⟩=qc tt qcY (qaw N) (cut [true,true,false,true,true,true,true,false,true,true,true,true] (Try.f128.body.getD .skip)) Q ⟨e,h⟩:=rfl
theorem qDk (N:Nat) (v11:List (Val (.int .i64))) (v13:Int) {k2:Int→Option (qa [i3])} {Q:X→St→Option (qa [i3])} {c:Code} (hc:c=qxp) (hret: ∀st,Q .ret st=qG tt true [i3] [.tmp 4] st) (h2: ∀(v15:Int),Q (.exit 2) ⟨[.one (.sl 3 (.int .i64) v11 0),u,u,u,u,.one (.int .i64 v15),.one (.int .i64 v13),u,u,u,u,u,u,u,u,u,u,u,u,u,u,u,u,u,u,u,u,u],[]⟩=k2 v15): ∀(n:Nat) (v12:Int) (v14:Int),qE (qc tt qcY (qaw N) c) false qjd Q n ⟨[.one (.sl 3 (.int .i64) v11 0),u,u,u,u,.one (.int .i64 v12),.one (.int .i64 v13),.one (.int .i64 v14),u,u,u,u,u,u,u,u,u,u,u,u,u,u,u,u,u,u,u,u],[]⟩=qbT N v11 v13 k2 n v12 v14:=by
 subst hc;intro n;induction n with
 | zero=>intros;rfl
 | succ n ih=>
   intro v12 v14
   rw [qP,qDl,qbT];unfold Try.f128
   simp (maxSteps:=10000000) -implicitDefEqProofs [qjA,qc0,qhY,qdR,qhT,qep,qhq,qdA,qij,qei,qh4,qiq,qgN,qgW,qh1,qgX,qih,qg5,qjw,qhW,qhZ,qiJ,qjI,qho,qjt,qdv,hret,h2,ih]
noncomputable def qxa:Code:=cut [true,true,false,true,true,true] (Try.f128.body.getD .skip)
theorem qF8 {N:Nat} {Q:X→St→Option (qa [i3])} {e:List LV} {h:List Blk}:qc tt qcY (qaw N) qxa Q ⟨e,h⟩=qc tt qcY (qaw N) (cut [true,true,false,true,true,true] (Try.f128.body.getD .skip)) Q ⟨e,h⟩:=rfl
theorem qJR (N:Nat) (v2:List (Val (.int .i64))) {k0:Int→Option (qa [i3])} {Q:X→St→Option (qa [i3])} {c:Code} (hc:c=qxa) (hret: ∀st,Q .ret st=qG tt true [i3] [.tmp 4] st) (h0: ∀(v17:Int),Q (.exit 0) ⟨[u,u,u,u,u,.one (.int .i64 v17),u,u,u,u,u,u,u,u,u,u,u,u,u,u,u,u,u,u,u,u,u,u],[]⟩=k0 v17): ∀(n:Nat) (v3:Int) (v4:Int),qE (qc tt qcY (qaw N) c) false qf1 Q n ⟨[.one (.sl 3 (.int .i64) v2 0),u,u,u,u,.one (.int .i64 v3),.one (.int .i64 v4),u,u,u,u,u,u,u,u,u,u,u,u,u,u,u,u,u,u,u,u,u],[]⟩=qdi N v2 k0 n v3 v4:=by
 subst hc;intro n;induction n with
 | zero=>intros;rfl
 | succ n ih=>
   intro v3 v4
   rw [qP,qF8];unfold Try.f128
   simp (maxSteps:=10000000) -implicitDefEqProofs [qjA,qc0,qhY,qdR,qhT,qep,qhq,qdA,qij,qei,qh4,qiq,qgN,qgW,qh1,qgX,qih,qg5,qjw,qhW,qhZ,qiJ,qjI,qho,qjt,qdv,hret,h0,ih]
   rewrite [qDk (k2:=(fun (v16:Int)=>qdi N v2 k0 n v16 (IntKind.i64.wrap (v4+(1:Int))))) N _ _ ?_ ?_ ?_]
   ·rewrite [qdi];first | rfl | simp (maxSteps:=10000000) -implicitDefEqProofs [ih]
   ·rfl
   ·intro;simp only [qN,qO,qQ,qM,hret]
   ·intro v16;simp (maxSteps:=10000000) -implicitDefEqProofs [qjA,qc0,qhY,qdR,qhT,qep,qhq,qdA,qij,qei,qh4,qiq,qgN,qgW,qh1,qgX,qih,qg5,qjw,qhW,qhZ,qiJ,qjI,qho,qjt,qdv,hret,h0,ih]
theorem qIt (N:Nat) (v0:List (Val (.int .i64))) (v1:Int):qc tt qcY (qaw N) (Try.f128.body.getD .skip) (qn tt true [i3] [.tmp 4]) (qq [i32,i3] 28 (v0,v1,()))=qlc N v0 v1:=by
 unfold Try.f128
 simp (maxSteps:=10000000) -implicitDefEqProofs [qjA,qc0,qhY,qdR,qhT,qep,qhq,qdA,qij,qei,qh4,qiq,qgN,qgW,qh1,qgX,qih,qg5,qjw,qhW,qhZ,qiJ,qjI,qho,qjt,qdv]
 rewrite [qJR (k0:=(fun (v18:Int)=>some (v18,()))) N _ ?_ ?_ ?_]
 ·rewrite [qlc];first | rfl | simp (maxSteps:=10000000) -implicitDefEqProofs []
 ·rfl
 ·intro;simp only [qN,qO,qQ,qM]
 ·intro v18;simp (maxSteps:=10000000) -implicitDefEqProofs [qjA,qc0,qhY,qdR,qhT,qep,qhq,qdA,qij,qei,qh4,qiq,qgN,qgW,qh1,qgX,qih,qg5,qjw,qhW,qhZ,qiJ,qjI,qho,qjt,qdv]
theorem qy6 (N:Nat) (xs:List (Val (.int .i64))) (v:Int) (k:Int→Option (qa [i3])): ∀(n b a:Nat),b<n→qbT N xs v k n (a:Int) (b:Int)=k (Nat.gcd a b:Nat)
 | 0,_,_,h=>by omega
 | n+1,b,a,h=>by
   rw [qbT]
   by_cases hb:b=0
   ·subst hb;simp
   ·have hb': ¬((b:Int)=0):=by omega
    have hlt:a % b<b:=Nat.mod_lt _ (by omega)
    have hm:((a:Int).tmod (b:Int))=((a % b:Nat):Int):=by rw [Int.tmod_eq_emod_of_nonneg (by omega)];rfl
    simp only [hb',decide_false,Bool.not_false,cond_true,ne_eq,not_false_eq_true,qxg]
    rw [hm,qy6 N xs v k n (a % b) b (by omega)]
    congr 2
    rw [Nat.gcd_comm b,←Nat.gcd_rec,Nat.gcd_comm]
theorem qxm (N:Nat) (xs:List (Val (.int .i64))) (v v':Int) (k:Int→Option (qa [i3])): ∀(n:Nat) (a b:Int),qbT N xs v k n a b=qbT N xs v' k n a b
 | 0,_,_=>rfl
 | n+1,a,b=>by rw [qbT,qbT,qxm N xs v v' k n]
theorem qxO (N:Nat) (hN:9223372036854775807<N) (ys:List (Val (.int .i64))): ∀(xs:List Int) (i g:Nat) (k:Int→Option (qa [i3])),(∀x∈xs,inI x)→qaq (fun _ x s K=>chk (qbV x) (qbT N ys 0 K N s (qaC x))) i xs (g:Int) k=k (gL g xs:Nat)
 | [],_,_,_,_=>rfl
 | x::xs,i,g,k,hx=>by
   have h1:=hx x (by simp)
   rw [qaq,qd (show qbV x from h1)]
   simp only [qaC]
   rw [qy6 _ _ _ _ _ _ _ (by unfold inI at h1;omega)]
   exact qxO N hN ys xs (i+1) _ k fun y hy=>hx y (by simp [hy])
def qfw:G:={ps:=[i32,i3],rs:=[i3],dp:=true,pre:=fun x=>qjv x.1 x.2.1,fn:=fun x=>(qhH x.1 x.2.1,())}
theorem qF4 (xs:List (Val (.int .i64))) (k:Int) (h:qjv xs k): ∃N,qlc N xs k=some (qhH xs k,()):=⟨9223372036854775808+xs.length,by
 rw [qlc,qd (show qbV k from h.2.1)]
 rw [qac (F:=fun n i s=>qdi _ xs _ n s i) (step:=fun _ x s K=>chk (qbV x) (qbT (9223372036854775808+xs.length) xs 0 K (9223372036854775808+xs.length) s (qaC x))) (k:=fun s=>some (s,())) h.1 ?_ ?_ _ _ (by omega)]
 ·exact qxO _ (by omega) xs xs 0 k.natAbs _ h.2.2
 ·intro n i s hi
  rw [qdi,qh (by omega),qd (by omega),qB hi]
  congr 1
  exact qxm ..
 ·intro n i s hi
  rw [qdi,qg (by omega)]⟩
theorem qAJ:Sound Try.prog 128 qfw:=qu (tt:=tt) (Γ:=qcY) hT (qk qDQ qt) hm (fn:=Try.f128) Try.func128 (c:=Try.f128.body.getD .skip) (by kernel_rfl) (by kernel_rfl) fun x hx=>by
 obtain ⟨N,h⟩:=qF4 x.1 x.2.1 hx
 exact ⟨qaw N,qCZ,qr _,qDF N,(qIt N x.1 x.2.1).trans h⟩
def q4 (a:Val qf):Bool:=decide ((a.1:List Int).length≤4)&&q7 a.2.1&&(a.1:List Int).all q7&&decide (((gL (Int.natAbs a.2.1) a.1:Nat):Int)≤1)
noncomputable def qdd (N:Nat) (v2:List (Val (.int .i64))) (v3:Int) (v4:Bool) (k0:Unit→Option (qa [i4])):Nat→Int→Option (qa [i4])
 | 0,_=>none
 | n+1,v1=>bif (decide (v1<(v2.length:Int)))then (chk (0≤v1∧v1<(v2.length:Int)) (bif (!((q7 ((v2.getD v1.toNat (qb (.int .i64))):Int)):Bool))then (some (false,()))else (qdd N v2 v3 v4 k0 n (IntKind.i64.wrap (v1+(1:Int))))))else (k0 ())
noncomputable def qlm (N:Nat) (v0:Val qf):Option (qa [i4]):=bif (decide ((4:Int)<((v0.1:List (Val (.int .i64))).length:Int)))then (some (false,()))else (bif (!((q7 (v0.2.1:Int)):Bool))then (some (false,()))else (qdd N (v0.1:List (Val (.int .i64))) (v0.2.1:Int) (v0.2.2:Bool) (fun (_:Unit)=>chk (qjv (v0.1:List (Val (.int .i64))) (v0.2.1:Int)) (some ((decide (((qhH (v0.1:List (Val (.int .i64))) (v0.2.1:Int)):Int)≤(1:Int))),()))) N (0:Int)))
def qdT:Gam:=[(128,qfw),(141,qfU)]
theorem qvQ:Gam.get qdT 128=some qfw:=rfl
theorem qtc:Gam.get qdT 141=some qfU:=rfl
def qgZ:Nm:=⟨[false,true,false,true],[],false⟩
theorem qwD:qgZ.zero=false:=rfl
theorem qol:qgZ.fix=[]:=rfl
theorem qrf:qgZ.keep=[false,true,false,true]:=rfl
def qlY:Nm:=⟨[false,true],[],false⟩
theorem qvq:qlY.zero=false:=rfl
theorem qod:qlY.fix=[]:=rfl
theorem qwu:qlY.keep=[false,true]:=rfl
def qfp:Nat→Tree:=fun _=> .done
def qhP:Nat→Nm:=fun i=>if i=4 then qgZ else ⟨[],[],false⟩
def qgF:Nat→Option Jn:=fun _=>none
def qiU:Nat→Option Nm:=fun i=>if i=0 then some qlY else none
def qi7:Nat→Option Nm:=fun _=>none
theorem qAp:qm qfp (Try.f127.body.getD .skip)=true:=by kernel_rfl
def qbp (N:Nat):Tab:={tr:=qfp,lp:=qhP,ex:=qiU,rg:=qi7,jn:=qgF,fuel:=N}
theorem qvG (N:Nat):(qbp N).pins=false:=rfl
theorem qEU (N:Nat):qp Try.prog (qbp N):=qv fun _=>rfl
theorem qqc (N:Nat) (i:Nat):(qbp N).tr i=qfp i:=rfl
theorem qrl (N:Nat) (i:Nat):(qbp N).lp i=qhP i:=rfl
theorem qtS (N:Nat) (i:Nat):(qbp N).ex i=qiU i:=rfl
theorem qnF (N:Nat) (i:Nat):(qbp N).rg i=qi7 i:=rfl
theorem qoM (N:Nat) (i:Nat):(qbp N).jn i=qgF i:=rfl
theorem qsm (N:Nat):(qbp N).fuel=N:=rfl
noncomputable def qzU:Code:=cut [true,true,false,true,true,true] (Try.f127.body.getD .skip)
theorem qJ8 {N:Nat} {Q:X→St→Option (qa [i4])} {e:List LV} {h:List Blk}:qc tt qdT (qbp N) qzU Q ⟨e,h⟩=qc tt qdT (qbp N) (cut [true,true,false,true,true,true] (Try.f127.body.getD .skip)) Q ⟨e,h⟩:=rfl
theorem qBA (N:Nat) (v2:List (Val (.int .i64))) (v3:Int) (v4:Bool) {k0:Unit→Option (qa [i4])} {Q:X→St→Option (qa [i4])} {c:Code} (hc:c=qzU) (hret: ∀st,Q .ret st=qG tt true [i4] [.tmp 2] st) (h0:Q (.exit 0) ⟨[u,.one (.ptr 0 0 0),u,u,u,u,u,u,u,u,u,u,u,u,u,u,u,u,u,u,u,u,u,u,u,u,u,u,u,u,u,u,u,u],[.box [.sl 3 (.int .i64) v2 1,.int .i64 v3,.bool v4]]⟩=k0 ()): ∀(n:Nat) (v1:Int),qE (qc tt qdT (qbp N) c) false qgZ Q n ⟨[u,.one (.ptr 0 0 0),u,.one (.int .i64 v1),u,u,u,u,u,u,u,u,u,u,u,u,u,u,u,u,u,u,u,u,u,u,u,u,u,u,u,u,u,u],[.box [.sl 3 (.int .i64) v2 1,.int .i64 v3,.bool v4]]⟩=qdd N v2 v3 v4 k0 n v1:=by
 subst hc;intro n;induction n with
 | zero=>intros;rfl
 | succ n ih=>
   intro v1
   rw [qP,qJ8,qdd];unfold Try.f127
   simp (maxSteps:=10000000) -implicitDefEqProofs [qqc,qfp,qrl,qhP,qtS,qiU,qnF,qi7,qoM,qgF,qsm,qvG,qol,qrf,qwD,qod,qwu,qvq,qvQ,qtc,qfw,qfU,hret,h0,ih]
theorem qIE (N:Nat) (v0:Val qf):qc tt qdT (qbp N) (Try.f127.body.getD .skip) (qn tt true [i4] [.tmp 2]) (qq [qar] 34 (v0,()))=qlm N v0:=by
 unfold Try.f127
 simp (maxSteps:=10000000) -implicitDefEqProofs [qqc,qfp,qrl,qhP,qtS,qiU,qnF,qi7,qoM,qgF,qsm,qvG,qol,qrf,qwD,qod,qwu,qvq,qvQ,qtc,qfw,qfU]
 rewrite [qBA (k0:=(fun (_:Unit)=>chk (qjv (v0.1:List (Val (.int .i64))) (v0.2.1:Int)) (some ((decide (((qhH (v0.1:List (Val (.int .i64))) (v0.2.1:Int)):Int)≤(1:Int))),())))) N _ _ _ ?_ ?_ ?_]
 ·rewrite [qlm];first | rfl | simp (maxSteps:=10000000) -implicitDefEqProofs []
 ·rfl
 ·intro;simp only [qN,qO,qQ,qM]
 ·simp (maxSteps:=10000000) -implicitDefEqProofs [qqc,qfp,qrl,qhP,qtS,qiU,qnF,qi7,qoM,qgF,qsm,qvG,qol,qrf,qwD,qod,qwu,qvq,qvQ,qtc,qfw,qfU]
noncomputable def qds (N:Nat) (v1:List (Val (.int .i64))) (v2:Int) (v4:List (Val (.int .i64))) (v5:Int) (v6:Bool) (k0:Unit→Option (qa [i4])):Nat→Int→Option (qa [i4])
 | 0,_=>none
 | n+1,v3=>bif (decide (v3<v2))then (chk (0≤v3∧v3<(v1.length:Int)) (bif (!((q7 ((v1.getD v3.toNat (qb (.int .i64))):Int)):Bool))then (some (false,()))else (qds N v1 v2 v4 v5 v6 k0 n (IntKind.i64.wrap (v3+(1:Int))))))else (k0 ())
noncomputable def qk0 (N:Nat) (v0:Val qf):Option (qa [i4]):=bif (decide ((4:Int)<((v0.1:List (Val (.int .i64))).length:Int)))then (some (false,()))else (bif (!((q7 (v0.2.1:Int)):Bool))then (some (false,()))else (qds N (v0.1:List (Val (.int .i64))) ((v0.1:List (Val (.int .i64))).length:Int) (v0.1:List (Val (.int .i64))) (v0.2.1:Int) (v0.2.2:Bool) (fun (_:Unit)=>chk (qjc (v0.1:List (Val (.int .i64)))) (chk (qcL ((qc2 (v0.1:List (Val (.int .i64)))):Int) (v0.2.1:Int)) (some ((decide (((qde ((qc2 (v0.1:List (Val (.int .i64)))):Int) (v0.2.1:Int)):Int)≤(1:Int))),())))) N (0:Int)))
def qdp:Gam:=[(131,qcb),(132,qeF),(153,qfR)]
theorem qr6:Gam.get qdp 131=some qcb:=rfl
theorem qn9:Gam.get qdp 132=some qeF:=rfl
theorem qvu:Gam.get qdp 153=some qfR:=rfl
def qi1:Nm:=⟨[false,true,false,false,false,false,false,false,false,false,false,false,false,false,false,false,true,true,true],[],false⟩
theorem qt3:qi1.zero=false:=rfl
theorem qoj:qi1.fix=[]:=rfl
theorem qsg:qi1.keep=[false,true,false,false,false,false,false,false,false,false,false,false,false,false,false,false,true,true,true]:=rfl
def qkB:Nm:=⟨[false,true],[],false⟩
theorem qsp:qkB.zero=false:=rfl
theorem qpb:qkB.fix=[]:=rfl
theorem qnM:qkB.keep=[false,true]:=rfl
def qkc:Nm:=⟨[false,false,true],[],false⟩
theorem qmD:qkc.zero=false:=rfl
theorem qqr:qkc.fix=[]:=rfl
theorem qvz:qkc.keep=[false,false,true]:=rfl
def qeT:Nat→Tree:=fun i=>if i=9 then .quiet 0 (.quiet 1 (.alt 2 (.quiet 3 (.quiet 4 (.alt 5 (.quiet 6 (.quiet 7 .done)) .stop))) (.alt 3 (.alt 2 (.quiet 4 (.alt 5 (.quiet 6 (.quiet 7 .done)) .stop)) (.alt 4 (.alt 2 (.alt 5 (.quiet 6 (.quiet 7 .done)) .stop) .stop) .stop)) .stop)))else .done
def qg4:Nat→Nm:=fun i=>if i=4 then qi1 else ⟨[],[],false⟩
def qjJ:Nat→Option Jn:=fun _=>none
def qg3:Nat→Option Nm:=fun i=>if i=0 then some qkB else none
def qf8:Nat→Option Nm:=fun i=>if i=9 then some qkc else none
theorem qEt:qm qeT (Try.f130.body.getD .skip)=true:=by kernel_rfl
def qa9 (N:Nat):Tab:={tr:=qeT,lp:=qg4,ex:=qg3,rg:=qf8,jn:=qjJ,fuel:=N}
theorem qsf (N:Nat):(qa9 N).pins=false:=rfl
theorem qBw (N:Nat):qp Try.prog (qa9 N):=qv fun _=>rfl
theorem qq7 (N:Nat) (i:Nat):(qa9 N).tr i=qeT i:=rfl
theorem qph (N:Nat) (i:Nat):(qa9 N).lp i=qg4 i:=rfl
theorem qvL (N:Nat) (i:Nat):(qa9 N).ex i=qg3 i:=rfl
theorem qnk (N:Nat) (i:Nat):(qa9 N).rg i=qf8 i:=rfl
theorem qm3 (N:Nat) (i:Nat):(qa9 N).jn i=qjJ i:=rfl
theorem qqs (N:Nat):(qa9 N).fuel=N:=rfl
noncomputable def qzq:Code:=cut [true,true,false,true,true,true] (Try.f130.body.getD .skip)
theorem qI4 {N:Nat} {Q:X→St→Option (qa [i4])} {e:List LV} {h:List Blk}:qc tt qdp (qa9 N) qzq Q ⟨e,h⟩=qc tt qdp (qa9 N) (cut [true,true,false,true,true,true] (Try.f130.body.getD .skip)) Q ⟨e,h⟩:=rfl
theorem qEX (N:Nat) (v1:List (Val (.int .i64))) (v2:Int) (v4:List (Val (.int .i64))) (v5:Int) (v6:Bool) {k0:Unit→Option (qa [i4])} {Q:X→St→Option (qa [i4])} {c:Code} (hc:c=qzq) (hret: ∀st,Q .ret st=qG tt true [i4] [.tmp 2] st) (h0:Q (.exit 0) ⟨[u,.one (.ptr 0 0 0),u,u,u,u,u,u,u,u,u,u,u,u,u,u,u,u,u,u,u,u,u,u,u,u,u,u,u,u,u,u,u],[.box [.sl 3 (.int .i64) v4 1,.int .i64 v5,.bool v6]]⟩=k0 ()): ∀(n:Nat) (v3:Int),qE (qc tt qdp (qa9 N) c) false qi1 Q n ⟨[u,.one (.ptr 0 0 0),u,u,u,u,u,u,u,u,u,u,u,u,u,u,.one (.sl 3 (.int .i64) v1 1),.one (.int .i64 v2),.one (.int .i64 v3),u,u,u,u,u,u,u,u,u,u,u,u,u,u],[.box [.sl 3 (.int .i64) v4 1,.int .i64 v5,.bool v6]]⟩=qds N v1 v2 v4 v5 v6 k0 n v3:=by
 subst hc;intro n;induction n with
 | zero=>intros;rfl
 | succ n ih=>
   intro v3
   rw [qP,qI4,qds];unfold Try.f130
   simp (maxSteps:=10000000) -implicitDefEqProofs [qq7,qeT,qph,qg4,qvL,qg3,qnk,qf8,qm3,qjJ,qqs,qsf,qoj,qsg,qt3,qpb,qnM,qsp,qqr,qvz,qmD,qr6,qn9,qvu,qcb,qeF,qfR,hret,h0,ih]
theorem qCj (N:Nat) (v0:Val qf):qc tt qdp (qa9 N) (Try.f130.body.getD .skip) (qn tt true [i4] [.tmp 2]) (qq [qar] 33 (v0,()))=qk0 N v0:=by
 unfold Try.f130
 simp (maxSteps:=10000000) -implicitDefEqProofs [qq7,qeT,qph,qg4,qvL,qg3,qnk,qf8,qm3,qjJ,qqs,qsf,qoj,qsg,qt3,qpb,qnM,qsp,qqr,qvz,qmD,qr6,qn9,qvu,qcb,qeF,qfR]
 rewrite [qEX (k0:=(fun (_:Unit)=>chk (qjc (v0.1:List (Val (.int .i64)))) (chk (qcL ((qc2 (v0.1:List (Val (.int .i64)))):Int) (v0.2.1:Int)) (some ((decide (((qde ((qc2 (v0.1:List (Val (.int .i64)))):Int) (v0.2.1:Int)):Int)≤(1:Int))),()))))) N _ _ _ _ _ ?_ ?_ ?_]
 ·rewrite [qk0];first | rfl | simp (maxSteps:=10000000) -implicitDefEqProofs []
 ·rfl
 ·intro;simp only [qN,qO,qQ,qM]
 ·simp (maxSteps:=10000000) -implicitDefEqProofs [qq7,qeT,qph,qg4,qvL,qg3,qnk,qf8,qm3,qjJ,qqs,qsf,qoj,qsg,qt3,qpb,qnM,qsp,qqr,qvz,qmD,qr6,qn9,qvu,qcb,qeF,qfR]
theorem qj7 {n:Int} (h:q7 n=true):inI n:=by
 unfold q7 at h;unfold inI;have:=of_decide_eq_true h;omega
def qab:G:={ps:=[qar],rs:=[i4],dp:=true,pre:=fun _=>True,fn:=fun x=>(q4 x.1,())}
def qb6:G:={ps:=[qar],rs:=[i4],dp:=true,pre:=fun _=>True,fn:=fun x=>(q4 x.1,())}
theorem qEC (N:Nat) (xs:List (Val (.int .i64))) (c:Int) (b:Bool) (K:Unit→Option (qa [i4])) (hl:xs.length≤1048576) (n:Nat) (hn:xs.length<n):qdd N xs c b K n 0=bif List.all (α:=Int) xs q7 then K ()else some (false,()):=
 (qac (F:=fun n i (_:Unit)=>qdd N xs c b K n i) (step:=fun _ x _ K=>bif q7 x then K ()else some (false,())) (k:=K) hl (fun n i s hi=>by rw [qdd,qh (by omega),qd (by omega),qB hi,qF]) (fun n i s hi=>by rw [qdd,qg (by omega)]) n () hn).trans (qbX xs 0)
theorem qDZ (N:Nat) (xs ys:List (Val (.int .i64))) (c:Int) (b:Bool) (K:Unit→Option (qa [i4])) (hl:xs.length≤1048576) (n:Nat) (hn:xs.length<n):qds N xs xs.length ys c b K n 0=bif List.all (α:=Int) xs q7 then K ()else some (false,()):=
 (qac (F:=fun n i (_:Unit)=>qds N xs xs.length ys c b K n i) (step:=fun _ x _ K=>bif q7 x then K ()else some (false,())) (k:=K) hl (fun n i s hi=>by rw [qds,qh (by omega),qd (by omega),qB hi,qF]) (fun n i s hi=>by rw [qds,qg (by omega)]) n () hn).trans (qbX xs 0)
theorem qz7 (a:Val qf): ∃N,qlm N a=some (q4 a,()):=⟨(a.1:List (Val (.int .i64))).length+1,by
 obtain ⟨xs,c,b⟩:=a
 change List (Val (.int .i64))at xs
 change Int at c
 change Bool at b
 rw [qlm,q4]
 dsimp only
 by_cases h4:xs.length≤4
 ·rw [qg (by omega)]
  cases hc:q7 c with
  | false=>simp
  | true=>
    rw [qEC _ xs _ _ _ (by omega) _ (Nat.lt_succ_self _)]
    cases ha:List.all (α:=Int) xs q7 with
    | false=>simp
    | true=>
      rw [qd (show qjv xs c from ⟨by omega,qj7 hc,fun x hx=>qj7 (List.all_eq_true.1 ha x hx)⟩)]
      simp [h4,qhH]
      rfl
 ·rw [qh (by omega)]
  simp [h4]⟩
theorem qxT:Sound Try.prog 127 qab:=qu (tt:=tt) (Γ:=qdT) hT (qk qAJ (qk qHF qt)) hm (fn:=Try.f127) Try.func127 (c:=Try.f127.body.getD .skip) (by kernel_rfl) (by kernel_rfl) fun x hx=>by
 obtain ⟨N,h⟩:=qz7 x.1
 exact ⟨qbp N,qAp,qr _,qEU N,(qIE N x.1).trans h⟩
theorem qzL: ∀(xs:List Int) (g:Nat),(g:Int)≤9223372036854775807→(∀x∈xs,inI x)→inI (gL g xs:Nat)
 | [],g,h,_=>by unfold inI gL;omega
 | x::xs,g,h,hx=>qzL xs _ (qxu h (hx x (by simp))).2 fun y hy=>hx y (by simp [hy])
theorem qEH (a:Val qf): ∃N,qk0 N a=some (q4 a,()):=⟨(a.1:List (Val (.int .i64))).length+1,by
 obtain ⟨xs,c,b⟩:=a
 change List (Val (.int .i64))at xs
 change Int at c
 change Bool at b
 rw [qk0,q4]
 dsimp only
 by_cases h4:xs.length≤4
 ·rw [qg (by omega)]
  cases hc:q7 c with
  | false=>simp
  | true=>
    rw [qDZ _ xs _ _ _ _ (by omega) _ (Nat.lt_succ_self _)]
    cases ha:List.all (α:=Int) xs q7 with
    | false=>simp
    | true=>
      have hx: ∀x∈xs,inI x:=fun x hx=>qj7 (List.all_eq_true.1 ha x hx)
      have e:Nat.gcd (gL 0 xs) c.natAbs=gL c.natAbs xs:=by rw [←qwT,Nat.gcd_zero_left]
      rw [qd (show qjc xs from ⟨by omega,hx⟩),qd (show qcL (qc2 xs) c from ⟨qzL xs 0 (by omega) hx,qj7 hc⟩)]
      simp [h4,qc2,qde,e]
 ·rw [qh (by omega)]
  simp [h4]⟩
theorem qxd:Sound Try.prog 130 qb6:=qu (tt:=tt) (Γ:=qdp) hT (qk qzP (qk qEy (qk qCf qt))) hm (fn:=Try.f130) Try.func130 (c:=Try.f130.body.getD .skip) (by kernel_rfl) (by kernel_rfl) fun x hx=>by
 obtain ⟨N,h⟩:=qEH x.1
 exact ⟨qa9 N,qEt,qr _,qBw N,(qCj N x.1).trans h⟩
end Go.T
