/- Whole numbers; atoms; cells; relations: what the functions compute. -/
import Derived.Test.YtlhkmndfkjlodaaA1
set_option linter.unusedSimpArgs false
set_option linter.unusedVariables false
namespace Go.T
open Go Go.Proofs
set_option maxHeartbeats 1000000
set_option maxRecDepth 100000
def inI (n:Int):Prop:= -9223372036854775807≤n∧n≤9223372036854775807
def qcH (n:Int):Int:=(n.natAbs:Int)
def qel (n:Int):Prop:=inI n
def qgf (a b:Int):Int:=(Nat.gcd a.natAbs b.natAbs:Nat)
def qfv (a b:Int):Prop:=inI a∧inI b
def qma (xs:List (Val (.int .i64))) (k:Int):Int:=(gL k.natAbs xs:Nat)
def qow (xs:List (Val (.int .i64))) (k:Int):Prop:=xs.length≤1048576∧inI k∧ ∀x∈xs,inI x
def qf2 (xs:List (Val (.int .i64))):Int:=(gL 0 xs:Nat)
def qn3 (xs:List (Val (.int .i64))):Prop:=xs.length≤1048576∧ ∀x∈xs,inI x
def qb3 (n:Int):Bool:=decide (-400000000≤n∧n≤400000000)
def inR (x a b:Int):Bool:=decide (a≤x∧x≤b)
def qjK:G:={ps:=[i3],rs:=[i3],dp:=true,pre:=fun x=>qel x.1,fn:=fun x=>(qcH x.1,())}
noncomputable def qrZ (N:Nat) (v0:Int):Option (qc [i3]):=bif (decide (v0<(0:Int)))then (some ((IntKind.i64.wrap (0 - v0)),()))else (some (v0,()))
def qJc:Gam:=[]
def qp2:Nat→Tree:=fun _=> .done
def qBp:Nat→Nm:=fun _=>⟨[],[],false⟩
def qB2:Nat→Option Jn:=fun _=>none
def qxY:Nat→Option Nm:=fun _=>none
def qCG:Nat→Option Nm:=fun _=>none
theorem qUi:qm qp2 (Try.f134.body.getD .skip)=true:=by kernel_rfl
def qeP (N:Nat):Tab:={tr:=qp2,lp:=qBp,ex:=qxY,rg:=qCG,jn:=qB2,fuel:=N}
theorem qLY (N:Nat):(qeP N).pins=false:=rfl
theorem qTK (N:Nat):qn Try.prog (qeP N):=qt fun _=>rfl
theorem qQD (N:Nat) (i:Nat):(qeP N).tr i=qp2 i:=rfl
theorem qW8 (N:Nat) (i:Nat):(qeP N).lp i=qBp i:=rfl
theorem qSA (N:Nat) (i:Nat):(qeP N).ex i=qxY i:=rfl
theorem qY8 (N:Nat) (i:Nat):(qeP N).rg i=qCG i:=rfl
theorem qU7 (N:Nat) (i:Nat):(qeP N).jn i=qB2 i:=rfl
theorem qL6 (N:Nat):(qeP N).fuel=N:=rfl
theorem qQf (N:Nat) (v0:Int):qf tt qJc (qeP N) (Try.f134.body.getD .skip) (qo tt true [i3] [.tmp 2]) (qv [i3] 8 (v0,()))=qrZ N v0:=by
 rw [qrZ];unfold Try.f134
 simp (maxSteps:=10000000) -implicitDefEqProofs [qQD,qp2,qW8,qBp,qSA,qxY,qY8,qCG,qU7,qB2,qL6,qLY]
 try rfl
theorem qXM (n:Int) (h:inI n): ∃N,qrZ N n=some (qcH n,()):=⟨0,by
 unfold inI at h
 simp only [qrZ,qcH]
 by_cases h0:n<0
 ·have e:IntKind.i64.wrap (0 - n)=(n.natAbs:Int):=by rw [qax (by omega) (by omega)];omega
  simp only [h0,decide_true,cond_true,e]
 ·have e:(n.natAbs:Int)=n:=by omega
  simp [h0,e]⟩
theorem qUT:Sound Try.prog 134 qjK:=qz (tt:=tt) (Γ:=qJc) hT qp hm (fn:=Try.f134) Try.func134 (c:=Try.f134.body.getD .skip) (by kernel_rfl) (by kernel_rfl) fun x hx=>by
 obtain ⟨N,h⟩:=qXM x.1 hx
 exact ⟨qeP N,qUi,qx _,qTK N,(qQf N x.1).trans h⟩
noncomputable def qiq (N:Nat) (k0:Int→Option (qc [i3])):Nat→Int→Int→Option (qc [i3])
 | 0,_,_=>none
 | n+1,v2,v3=>bif (!(decide (v3=(0:Int))))then (chk (v3≠0) (qiq N k0 n v3 (v2.tmod v3)))else (k0 v2)
noncomputable def m94 (N:Nat) (v0:Int) (v1:Int):Option (qc [i3]):=chk (qel v0) (chk (qel v1) (qiq N (fun (v5:Int)=>some (v5,())) N ((qcH v0):Int) ((qcH v1):Int)))
def Γ94:Gam:=[(134,qjK)]
theorem qFa:Gam.get Γ94 134=some qjK:=rfl
def qnX:Nm:=⟨[true,true],[],false⟩
theorem qwq:qnX.zero=false:=rfl
theorem qzu:qnX.fix=[]:=rfl
theorem qyl:qnX.keep=[true,true]:=rfl
def qq5:Nm:=⟨[true],[],false⟩
theorem qun:qq5.zero=false:=rfl
theorem qEZ:qq5.fix=[]:=rfl
theorem qFN:qq5.keep=[true]:=rfl
def qjj:Nat→Tree:=fun i=>if i=3 then .quiet 0 (.quiet 1 (.quiet 2 (.quiet 3 (.quiet 4 (.quiet 5 .done)))))else .done
def qks:Nat→Nm:=fun i=>if i=2 then qnX else ⟨[],[],false⟩
def qli:Nat→Option Jn:=fun _=>none
def qlh:Nat→Option Nm:=fun i=>if i=0 then some qq5 else none
def qnS:Nat→Option Nm:=fun _=>none
theorem p94:qm qjj (Try.f94.body.getD .skip)=true:=by kernel_rfl
def T94 (N:Nat):Tab:={tr:=qjj,lp:=qks,ex:=qlh,rg:=qnS,jn:=qli,fuel:=N}
theorem qwc (N:Nat):(T94 N).pins=false:=rfl
theorem qO6 (N:Nat):qn Try.prog (T94 N):=qt fun _=>rfl
theorem qGi (N:Nat) (i:Nat):(T94 N).tr i=qjj i:=rfl
theorem qCy (N:Nat) (i:Nat):(T94 N).lp i=qks i:=rfl
theorem qt1 (N:Nat) (i:Nat):(T94 N).ex i=qlh i:=rfl
theorem qtX (N:Nat) (i:Nat):(T94 N).rg i=qnS i:=rfl
theorem qBB (N:Nat) (i:Nat):(T94 N).jn i=qli i:=rfl
theorem qvr (N:Nat):(T94 N).fuel=N:=rfl
noncomputable def qIu:Code:=cut [true,true,false,true,true] (Try.f94.body.getD .skip)
theorem qQ7 {N:Nat} {Q:X→St→Option (qc [i3])} {e:List LV} {h:List Blk}:qf tt Γ94 (T94 N) qIu Q ⟨e,h⟩=qf tt Γ94 (T94 N) (cut [true,true,false,true,true] (Try.f94.body.getD .skip)) Q ⟨e,h⟩:=rfl
theorem qLO (N:Nat) {k0:Int→Option (qc [i3])} {Q:X→St→Option (qc [i3])} {c:Code} (hc:c=qIu) (hret: ∀st,Q .ret st=qN tt true [i3] [.tmp 4] st) (h0: ∀(v4:Int),Q (.exit 0) ⟨[.one (.int .i64 v4),u,u,u,u,u,u,u,u,u,u,u,u,u,u,u],[]⟩=k0 v4): ∀(n:Nat) (v2:Int) (v3:Int),qI (qf tt Γ94 (T94 N) c) false qnX Q n ⟨[.one (.int .i64 v2),.one (.int .i64 v3),u,u,u,u,u,u,u,u,u,u,u,u,u,u],[]⟩=qiq N k0 n v2 v3:=by
 subst hc;intro n;induction n with
 | zero=>intros;rfl
 | succ n ih=>
   intro v2 v3
   rw [qS,qQ7,qiq];unfold Try.f94
   simp (maxSteps:=10000000) -implicitDefEqProofs [qGi,qjj,qCy,qks,qt1,qlh,qtX,qnS,qBB,qli,qvr,qwc,qzu,qyl,qwq,qEZ,qFN,qun,qFa,qjK,hret,h0,ih]
theorem qRP (N:Nat) (v0:Int) (v1:Int):qf tt Γ94 (T94 N) (Try.f94.body.getD .skip) (qo tt true [i3] [.tmp 4]) (qv [i3,i3] 16 (v0,v1,()))=m94 N v0 v1:=by
 unfold Try.f94
 simp (maxSteps:=10000000) -implicitDefEqProofs [qGi,qjj,qCy,qks,qt1,qlh,qtX,qnS,qBB,qli,qvr,qwc,qzu,qyl,qwq,qEZ,qFN,qun,qFa,qjK]
 rewrite [qLO (k0:=(fun (v5:Int)=>some (v5,()))) N ?_ ?_ ?_]
 ·rewrite [m94];first | rfl | simp (maxSteps:=10000000) -implicitDefEqProofs []
 ·rfl
 ·intro;simp only [qQ,qR,qT,qr]
 ·intro v5;simp (maxSteps:=10000000) -implicitDefEqProofs [qGi,qjj,qCy,qks,qt1,qlh,qtX,qnS,qBB,qli,qvr,qwc,qzu,qyl,qwq,qEZ,qFN,qun,qFa,qjK]
theorem t94 (N:Nat) (k:Int→Option (qc [i3])): ∀(n a b:Nat),b<n→qiq N k n (a:Int) (b:Int)=k (Nat.gcd a b:Nat)
 | 0,_,_,h=>by omega
 | n+1,a,b,h=>by
   rw [qiq]
   by_cases hb:b=0
   ·subst hb;simp
   ·have hb': ¬((b:Int)=0):=by omega
    have hlt:a % b<b:=Nat.mod_lt _ (by omega)
    have hm:((a:Int).tmod (b:Int))=((a % b:Nat):Int):=by rw [Int.tmod_eq_emod_of_nonneg (by omega)];rfl
    simp only [hb',decide_false,Bool.not_false,cond_true,ne_eq,not_false_eq_true,qHF]
    rw [hm,t94 N k n b (a % b) (by omega)]
    congr 2
    rw [Nat.gcd_comm b,←Nat.gcd_rec,Nat.gcd_comm]
def g94:G:={ps:=[i3,i3],rs:=[i3],dp:=true,pre:=fun x=>qfv x.1 x.2.1,fn:=fun x=>(qgf x.1 x.2.1,())}
theorem e94 (a b:Int) (h:qfv a b): ∃N,m94 N a b=some (qgf a b,()):=⟨b.natAbs+1,by
 rw [m94,qd (show qel a from h.1),qd (show qel b from h.2)]
 simp only [qcH]
 rw [t94 _ _ _ _ _ (Nat.lt_succ_self _)]
 rfl⟩
theorem s94:Sound Try.prog 94 g94:=qz (tt:=tt) (Γ:=Γ94) hT (ql qUT qp) hm (fn:=Try.f94) Try.func94 (c:=Try.f94.body.getD .skip) (by kernel_rfl) (by kernel_rfl) fun x hx=>by
 obtain ⟨N,h⟩:=e94 x.1 x.2.1 hx
 exact ⟨T94 N,p94,qx _,qO6 N,(qRP N x.1 x.2.1).trans h⟩
theorem qHX {g:Nat} {x:Int} (hg:(g:Int)≤9223372036854775807) (hx:inI x):qfv (g:Int) x∧((Nat.gcd g x.natAbs:Nat):Int)≤9223372036854775807:=by
 refine ⟨⟨⟨by omega,hg⟩,hx⟩,?_⟩
 unfold inI at hx
 by_cases h0:x.natAbs=0
 ·rw [h0];simpa using hg
 ·have:=Nat.gcd_le_right (m:=g) (n:=x.natAbs) (by omega)
  omega
theorem qIK {ρ:Type}: ∀(xs:List Int) (i g:Nat) (k:Int→Option ρ),(g:Int)≤9223372036854775807→(∀x∈xs,inI x)→qcb (fun _ x s K=>chk (qfv s x) (K (qgf s x))) i xs (g:Int) k=k (gL g xs:Nat)
 | [],_,_,_,_,_=>rfl
 | x::xs,i,g,k,hg,hx=>by
   obtain ⟨h1,h2⟩:=qHX hg (hx x (by simp))
   rw [qcb,qd h1]
   exact qIK xs (i+1) _ k h2 fun y hy=>hx y (by simp [hy])
noncomputable def qht (N:Nat) (v2:List (Val (.int .i64))) (v3:Int) (k0:Int→Option (qc [i3])):Nat→Int→Int→Option (qc [i3])
 | 0,_,_=>none
 | n+1,v1,v4=>bif (decide (v4<v3))then (chk (0≤v4∧v4<(v2.length:Int)) (chk (qfv v1 ((v2.getD v4.toNat (qb (.int .i64))):Int)) (qht N v2 v3 k0 n ((qgf v1 ((v2.getD v4.toNat (qb (.int .i64))):Int)):Int) (IntKind.i64.wrap (v4+(1:Int))))))else (k0 v1)
noncomputable def m95 (N:Nat) (v0:List (Val (.int .i64))):Option (qc [i3]):=qht N v0 (v0.length:Int) (fun (v6:Int)=>some (v6,())) N (0:Int) (0:Int)
def Γ95:Gam:=[(94,g94)]
theorem qBz:Gam.get Γ95 94=some g94:=rfl
def qlJ:Nm:=⟨[false,false,false,true,false,false,true,true,true],[],false⟩
theorem qvM:qlJ.zero=false:=rfl
theorem qF0:qlJ.fix=[]:=rfl
theorem qGQ:qlJ.keep=[false,false,false,true,false,false,true,true,true]:=rfl
def qoR:Nm:=⟨[false,false,false,true],[],false⟩
theorem qGz:qoR.zero=false:=rfl
theorem qB1:qoR.fix=[]:=rfl
theorem qDj:qoR.keep=[false,false,false,true]:=rfl
def qjS:Nat→Tree:=fun _=> .done
def qnF:Nat→Nm:=fun i=>if i=3 then qlJ else ⟨[],[],false⟩
def qoj:Nat→Option Jn:=fun _=>none
def qkV:Nat→Option Nm:=fun i=>if i=0 then some qoR else none
def qkZ:Nat→Option Nm:=fun _=>none
theorem p95:qm qjS (Try.f95.body.getD .skip)=true:=by kernel_rfl
def T95 (N:Nat):Tab:={tr:=qjS,lp:=qnF,ex:=qkV,rg:=qkZ,jn:=qoj,fuel:=N}
theorem qyt (N:Nat):(T95 N).pins=false:=rfl
theorem qTd (N:Nat):qn Try.prog (T95 N):=qt fun _=>rfl
theorem qF1 (N:Nat) (i:Nat):(T95 N).tr i=qjS i:=rfl
theorem qGK (N:Nat) (i:Nat):(T95 N).lp i=qnF i:=rfl
theorem qAc (N:Nat) (i:Nat):(T95 N).ex i=qkV i:=rfl
theorem qAe (N:Nat) (i:Nat):(T95 N).rg i=qkZ i:=rfl
theorem qG4 (N:Nat) (i:Nat):(T95 N).jn i=qoj i:=rfl
theorem qzc (N:Nat):(T95 N).fuel=N:=rfl
noncomputable def qII:Code:=cut [true,true,false,true,true,true] (Try.f95.body.getD .skip)
theorem qRD {N:Nat} {Q:X→St→Option (qc [i3])} {e:List LV} {h:List Blk}:qf tt Γ95 (T95 N) qII Q ⟨e,h⟩=qf tt Γ95 (T95 N) (cut [true,true,false,true,true,true] (Try.f95.body.getD .skip)) Q ⟨e,h⟩:=rfl
theorem qQm (N:Nat) (v2:List (Val (.int .i64))) (v3:Int) {k0:Int→Option (qc [i3])} {Q:X→St→Option (qc [i3])} {c:Code} (hc:c=qII) (hret: ∀st,Q .ret st=qN tt true [i3] [.tmp 2] st) (h0: ∀(v5:Int),Q (.exit 0) ⟨[u,u,u,.one (.int .i64 v5),u,u,u,u,u,u,u,u,u,u,u,u,u],[]⟩=k0 v5): ∀(n:Nat) (v1:Int) (v4:Int),qI (qf tt Γ95 (T95 N) c) false qlJ Q n ⟨[u,u,u,.one (.int .i64 v1),u,u,.one (.sl 3 (.int .i64) v2 0),.one (.int .i64 v3),.one (.int .i64 v4),u,u,u,u,u,u,u,u],[]⟩=qht N v2 v3 k0 n v1 v4:=by
 subst hc;intro n;induction n with
 | zero=>intros;rfl
 | succ n ih=>
   intro v1 v4
   rw [qS,qRD,qht];unfold Try.f95
   simp (maxSteps:=10000000) -implicitDefEqProofs [qF1,qjS,qGK,qnF,qAc,qkV,qAe,qkZ,qG4,qoj,qzc,qyt,qF0,qGQ,qvM,qB1,qDj,qGz,qBz,g94,hret,h0,ih]
theorem qTW (N:Nat) (v0:List (Val (.int .i64))):qf tt Γ95 (T95 N) (Try.f95.body.getD .skip) (qo tt true [i3] [.tmp 2]) (qv [i27] 17 (v0,()))=m95 N v0:=by
 unfold Try.f95
 simp (maxSteps:=10000000) -implicitDefEqProofs [qF1,qjS,qGK,qnF,qAc,qkV,qAe,qkZ,qG4,qoj,qzc,qyt,qF0,qGQ,qvM,qB1,qDj,qGz,qBz,g94]
 rewrite [qQm (k0:=(fun (v6:Int)=>some (v6,()))) N _ _ ?_ ?_ ?_]
 ·rewrite [m95];first | rfl | simp (maxSteps:=10000000) -implicitDefEqProofs []
 ·rfl
 ·intro;simp only [qQ,qR,qT,qr]
 ·intro v6;simp (maxSteps:=10000000) -implicitDefEqProofs [qF1,qjS,qGK,qnF,qAc,qkV,qAe,qkZ,qG4,qoj,qzc,qyt,qF0,qGQ,qvM,qB1,qDj,qGz,qBz,g94]
def g95:G:={ps:=[i27],rs:=[i3],dp:=true,pre:=fun x=>qn3 x.1,fn:=fun x=>(qf2 x.1,())}
theorem e95 (xs:List (Val (.int .i64))) (h:qn3 xs): ∃N,m95 N xs=some (qf2 xs,()):=⟨xs.length+1,by
 rw [m95]
 rw [qbA (F:=fun n i s=>qht _ xs xs.length _ n s i) (step:=fun _ x s K=>chk (qfv s x) (K (qgf s x))) (k:=fun s=>some (s,())) h.1 ?_ ?_ _ _ (Nat.lt_succ_self _)]
 ·exact qIK xs 0 0 _ (by omega) h.2
 ·intro n i s hi
  rw [qht,qj (by omega),qd (by omega),qE hi]
 ·intro n i s hi
  rw [qht,qh (by omega)]⟩
theorem s95:Sound Try.prog 95 g95:=qz (tt:=tt) (Γ:=Γ95) hT (ql s94 qp) hm (fn:=Try.f95) Try.func95 (c:=Try.f95.body.getD .skip) (by kernel_rfl) (by kernel_rfl) fun x hx=>by
 obtain ⟨N,h⟩:=e95 x.1 hx
 exact ⟨T95 N,p95,qx _,qTd N,(qTW N x.1).trans h⟩
def qgb:G:={ps:=[i3],rs:=[i3],dp:=true,pre:=fun x=>qel x.1,fn:=fun x=>(qcH x.1,())}
noncomputable def qqj (N:Nat) (v0:Int):Option (qc [i3]):=some ((max v0 (IntKind.i64.wrap (0 - v0))),())
def qH4:Gam:=[]
def qqU:Nat→Tree:=fun _=> .done
def qxU:Nat→Nm:=fun _=>⟨[],[],false⟩
def qEs:Nat→Option Jn:=fun _=>none
def qFb:Nat→Option Nm:=fun _=>none
def qDw:Nat→Option Nm:=fun _=>none
theorem qOH:qm qqU (Try.f135.body.getD .skip)=true:=by kernel_rfl
def qe1 (N:Nat):Tab:={tr:=qqU,lp:=qxU,ex:=qFb,rg:=qDw,jn:=qEs,fuel:=N}
theorem qQu (N:Nat):(qe1 N).pins=false:=rfl
theorem qOX (N:Nat):qn Try.prog (qe1 N):=qt fun _=>rfl
theorem qT2 (N:Nat) (i:Nat):(qe1 N).tr i=qqU i:=rfl
theorem qOa (N:Nat) (i:Nat):(qe1 N).lp i=qxU i:=rfl
theorem qUd (N:Nat) (i:Nat):(qe1 N).ex i=qFb i:=rfl
theorem qSk (N:Nat) (i:Nat):(qe1 N).rg i=qDw i:=rfl
theorem qTm (N:Nat) (i:Nat):(qe1 N).jn i=qEs i:=rfl
theorem qRl (N:Nat):(qe1 N).fuel=N:=rfl
theorem qTs (N:Nat) (v0:Int):qf tt qH4 (qe1 N) (Try.f135.body.getD .skip) (qo tt true [i3] [.tmp 2]) (qv [i3] 7 (v0,()))=qqj N v0:=by
 rw [qqj];unfold Try.f135
 simp (maxSteps:=10000000) -implicitDefEqProofs [qT2,qqU,qOa,qxU,qUd,qFb,qSk,qDw,qTm,qEs,qRl,qQu]
 try rfl
theorem qNr (n:Int) (h:inI n): ∃N,qqj N n=some (qcH n,()):=⟨0,by
 unfold inI at h
 rw [qqj,qax (by omega) (by omega)]
 have e:max n (0 - n)=qcH n:=by unfold qcH;omega
 rw [e]⟩
theorem qV1:Sound Try.prog 135 qgb:=qz (tt:=tt) (Γ:=qH4) hT qp hm (fn:=Try.f135) Try.func135 (c:=Try.f135.body.getD .skip) (by kernel_rfl) (by kernel_rfl) fun x hx=>by
 obtain ⟨N,h⟩:=qNr x.1 hx
 exact ⟨qe1 N,qOH,qx _,qOX N,(qTs N x.1).trans h⟩
noncomputable def m47 (N:Nat) (v0:Int) (v1:Int) (v2:Int):Option (qc [i4]):=bif (decide (v1≤v0))then (some ((decide (v0≤v2)),()))else (some (false,()))
def Γ47:Gam:=[]
def qpn:Nat→Tree:=fun _=> .done
def qCH:Nat→Nm:=fun _=>⟨[],[],false⟩
def qDQ:Nat→Option Jn:=fun _=>none
def qth:Nat→Option Nm:=fun _=>none
def qDn:Nat→Option Nm:=fun _=>none
theorem p47:qm qpn (Try.f47.body.getD .skip)=true:=by kernel_rfl
def T47 (N:Nat):Tab:={tr:=qpn,lp:=qCH,ex:=qth,rg:=qDn,jn:=qDQ,fuel:=N}
theorem qT0 (N:Nat):(T47 N).pins=false:=rfl
theorem qUr (N:Nat):qn Try.prog (T47 N):=qt fun _=>rfl
theorem qUa (N:Nat) (i:Nat):(T47 N).tr i=qpn i:=rfl
theorem qNo (N:Nat) (i:Nat):(T47 N).lp i=qCH i:=rfl
theorem qKW (N:Nat) (i:Nat):(T47 N).ex i=qth i:=rfl
theorem qPT (N:Nat) (i:Nat):(T47 N).rg i=qDn i:=rfl
theorem qVN (N:Nat) (i:Nat):(T47 N).jn i=qDQ i:=rfl
theorem qOf (N:Nat):(T47 N).fuel=N:=rfl
theorem qRK (N:Nat) (v0:Int) (v1:Int) (v2:Int):qf tt Γ47 (T47 N) (Try.f47.body.getD .skip) (qo tt true [i4] [.tmp 6]) (qv [i3,i3,i3] 15 (v0,v1,v2,()))=m47 N v0 v1 v2:=by
 rw [m47];unfold Try.f47
 simp (maxSteps:=10000000) -implicitDefEqProofs [qUa,qpn,qNo,qCH,qKW,qth,qPT,qDn,qVN,qDQ,qOf,qT0]
 try rfl
def g47:G:={ps:=[i3,i3,i3],rs:=[i4],dp:=true,pre:=fun _=>True,fn:=fun x=>(inR x.1 x.2.1 x.2.2.1,())}
theorem e47 (x a b:Int): ∃N,m47 N x a b=some (inR x a b,()):=⟨0,by
 simp only [m47,inR]
 by_cases h1:a≤x<;>by_cases h2:x≤b<;>simp [h1,h2]⟩
theorem s47:Sound Try.prog 47 g47:=qz (tt:=tt) (Γ:=Γ47) hT qp hm (fn:=Try.f47) Try.func47 (c:=Try.f47.body.getD .skip) (by kernel_rfl) (by kernel_rfl) fun x hx=>by
 obtain ⟨N,h⟩:=e47 x.1 x.2.1 x.2.2.1
 exact ⟨T47 N,p47,qx _,qUr N,(qRK N x.1 x.2.1 x.2.2.1).trans h⟩
noncomputable def m98 (N:Nat) (v0:Int):Option (qc [i4]):=some (((inR v0 (-400000000:Int) (400000000:Int)):Bool),())
def Γ98:Gam:=[(47,g47)]
theorem qZl:Gam.get Γ98 47=some g47:=rfl
def qoP:Nat→Tree:=fun _=> .done
def qtd:Nat→Nm:=fun _=>⟨[],[],false⟩
def qxk:Nat→Option Jn:=fun _=>none
def qxv:Nat→Option Nm:=fun _=>none
def qxC:Nat→Option Nm:=fun _=>none
theorem p98:qm qoP (Try.f98.body.getD .skip)=true:=by kernel_rfl
def T98 (N:Nat):Tab:={tr:=qoP,lp:=qtd,ex:=qxv,rg:=qxC,jn:=qxk,fuel:=N}
theorem qUp (N:Nat):(T98 N).pins=false:=rfl
theorem qSt (N:Nat):qn Try.prog (T98 N):=qt fun _=>rfl
theorem qOK (N:Nat) (i:Nat):(T98 N).tr i=qoP i:=rfl
theorem qLJ (N:Nat) (i:Nat):(T98 N).lp i=qtd i:=rfl
theorem qU0 (N:Nat) (i:Nat):(T98 N).ex i=qxv i:=rfl
theorem qR1 (N:Nat) (i:Nat):(T98 N).rg i=qxC i:=rfl
theorem qQN (N:Nat) (i:Nat):(T98 N).jn i=qxk i:=rfl
theorem qRw (N:Nat):(T98 N).fuel=N:=rfl
theorem qYw (N:Nat) (v0:Int):qf tt Γ98 (T98 N) (Try.f98.body.getD .skip) (qo tt true [i4] [.tmp 2]) (qv [i3] 5 (v0,()))=m98 N v0:=by
 rw [m98];unfold Try.f98
 simp (maxSteps:=10000000) -implicitDefEqProofs [qOK,qoP,qLJ,qtd,qU0,qxv,qR1,qxC,qQN,qxk,qRw,qUp,qZl,g47]
 try rfl
noncomputable def qpt (N:Nat) (v0:Int):Option (qc [i4]):=bif (decide ((-400000000:Int)≤v0))then (some ((decide (v0≤(400000000:Int))),()))else (some (false,()))
def qKs:Gam:=[]
def qpJ:Nat→Tree:=fun _=> .done
def qCK:Nat→Nm:=fun _=>⟨[],[],false⟩
def quY:Nat→Option Jn:=fun _=>none
def qBY:Nat→Option Nm:=fun _=>none
def quy:Nat→Option Nm:=fun _=>none
theorem qS1:qm qpJ (Try.f109.body.getD .skip)=true:=by kernel_rfl
def qeX (N:Nat):Tab:={tr:=qpJ,lp:=qCK,ex:=qBY,rg:=quy,jn:=quY,fuel:=N}
theorem qY2 (N:Nat):(qeX N).pins=false:=rfl
theorem qLh (N:Nat):qn Try.prog (qeX N):=qt fun _=>rfl
theorem qSQ (N:Nat) (i:Nat):(qeX N).tr i=qpJ i:=rfl
theorem qTi (N:Nat) (i:Nat):(qeX N).lp i=qCK i:=rfl
theorem qST (N:Nat) (i:Nat):(qeX N).ex i=qBY i:=rfl
theorem qRC (N:Nat) (i:Nat):(qeX N).rg i=quy i:=rfl
theorem qSP (N:Nat) (i:Nat):(qeX N).jn i=quY i:=rfl
theorem qLN (N:Nat):(qeX N).fuel=N:=rfl
theorem qVw (N:Nat) (v0:Int):qf tt qKs (qeX N) (Try.f109.body.getD .skip) (qo tt true [i4] [.tmp 2]) (qv [i3] 9 (v0,()))=qpt N v0:=by
 rw [qpt];unfold Try.f109
 simp (maxSteps:=10000000) -implicitDefEqProofs [qSQ,qpJ,qTi,qCK,qST,qBY,qRC,quy,qSP,quY,qLN,qY2]
 try rfl
def g98:G:={ps:=[i3],rs:=[i4],dp:=true,pre:=fun _=>True,fn:=fun x=>(qb3 x.1,())}
def qjM:G:={ps:=[i3],rs:=[i4],dp:=true,pre:=fun _=>True,fn:=fun x=>(qb3 x.1,())}
theorem e98 (x:Int): ∃N,m98 N x=some (qb3 x,()):=⟨0,by
 simp only [m98,inR,qb3]⟩
theorem s98:Sound Try.prog 98 g98:=qz (tt:=tt) (Γ:=Γ98) hT (ql s47 qp) hm (fn:=Try.f98) Try.func98 (c:=Try.f98.body.getD .skip) (by kernel_rfl) (by kernel_rfl) fun x hx=>by
 obtain ⟨N,h⟩:=e98 x.1
 exact ⟨T98 N,p98,qx _,qSt N,(qYw N x.1).trans h⟩
theorem qRr (x:Int): ∃N,qpt N x=some (qb3 x,()):=⟨0,by
 simp only [qpt,qb3]
 by_cases h1: -400000000≤x<;>by_cases h2:x≤400000000<;>simp [h1,h2]⟩
theorem qPa:Sound Try.prog 109 qjM:=qz (tt:=tt) (Γ:=qKs) hT qp hm (fn:=Try.f109) Try.func109 (c:=Try.f109.body.getD .skip) (by kernel_rfl) (by kernel_rfl) fun x hx=>by
 obtain ⟨N,h⟩:=qRr x.1
 exact ⟨qeX N,qS1,qx _,qLh N,(qVw N x.1).trans h⟩
noncomputable def qef (N:Nat) (v11:List (Val (.int .i64))) (v13:Int) (k2:Int→Option (qc [i3])):Nat→Int→Int→Option (qc [i3])
 | 0,_,_=>none
 | n+1,v12,v14=>bif (!(decide (v14=(0:Int))))then (chk (v14≠0) (qef N v11 v13 k2 n v14 (v12.tmod v14)))else (k2 v12)
noncomputable def qgh (N:Nat) (v2:List (Val (.int .i64))) (k0:Int→Option (qc [i3])):Nat→Int→Int→Option (qc [i3])
 | 0,_,_=>none
 | n+1,v3,v4=>bif (decide (v4<(v2.length:Int)))then (chk (0≤v4∧v4<(v2.length:Int)) (chk (qel ((v2.getD v4.toNat (qb (.int .i64))):Int)) (qef N v2 v4 (fun (v16:Int)=>qgh N v2 k0 n v16 (IntKind.i64.wrap (v4+(1:Int)))) N v3 ((qcH ((v2.getD v4.toNat (qb (.int .i64))):Int)):Int))))else (k0 v3)
noncomputable def m97 (N:Nat) (v0:List (Val (.int .i64))) (v1:Int):Option (qc [i3]):=chk (qel v1) (qgh N v0 (fun (v18:Int)=>some (v18,())) N ((qcH v1):Int) (0:Int))
def Γ97:Gam:=[(135,qgb)]
theorem qov:Gam.get Γ97 135=some qgb:=rfl
def qnh:Nm:=⟨[true,false,false,false,false,true,true,true],[],false⟩
theorem qna:qnh.zero=false:=rfl
theorem qk0:qnh.fix=[]:=rfl
theorem qjX:qnh.keep=[true,false,false,false,false,true,true,true]:=rfl
def qnL:Nm:=⟨[true,false,false,false,false,true,true],[],false⟩
theorem qkb:qnL.zero=false:=rfl
theorem qml:qnL.fix=[]:=rfl
theorem qmC:qnL.keep=[true,false,false,false,false,true,true]:=rfl
def qrl:Nm:=⟨[false,false,false,false,false,true],[],false⟩
theorem qmZ:qrl.zero=false:=rfl
theorem qod:qrl.fix=[]:=rfl
theorem qmJ:qrl.keep=[false,false,false,false,false,true]:=rfl
def qoT:Nm:=⟨[true,false,false,false,false,true,true],[],false⟩
theorem qnc:qoT.zero=false:=rfl
theorem qmP:qoT.fix=[]:=rfl
theorem qng:qoT.keep=[true,false,false,false,false,true,true]:=rfl
def qf0:Nat→Tree:=fun i=>if i=7 then .quiet 0 (.quiet 1 (.quiet 2 (.quiet 3 (.quiet 4 (.quiet 5 .done)))))else .done
def qhX:Nat→Nm:=fun i=>if i=6 then qnh else if i=3 then qnL else ⟨[],[],false⟩
def qgN:Nat→Option Jn:=fun _=>none
def qg8:Nat→Option Nm:=fun i=>if i=0 then some qrl else if i=2 then some qoT else none
def qgK:Nat→Option Nm:=fun _=>none
theorem p97:qm qf0 (Try.f97.body.getD .skip)=true:=by kernel_rfl
def T97 (N:Nat):Tab:={tr:=qf0,lp:=qhX,ex:=qg8,rg:=qgK,jn:=qgN,fuel:=N}
theorem qky (N:Nat):(T97 N).pins=false:=rfl
theorem qQ2 (N:Nat):qn Try.prog (T97 N):=qt fun _=>rfl
theorem qnD (N:Nat) (i:Nat):(T97 N).tr i=qf0 i:=rfl
theorem qm4 (N:Nat) (i:Nat):(T97 N).lp i=qhX i:=rfl
theorem qn1 (N:Nat) (i:Nat):(T97 N).ex i=qg8 i:=rfl
theorem ql8 (N:Nat) (i:Nat):(T97 N).rg i=qgK i:=rfl
theorem qlC (N:Nat) (i:Nat):(T97 N).jn i=qgN i:=rfl
theorem qk5 (N:Nat):(T97 N).fuel=N:=rfl
noncomputable def qJl:Code:=cut [true,true,false,true,true,true,true,false,true,true,true,true] (Try.f97.body.getD .skip)
theorem qNL {N:Nat} {Q:X→St→Option (qc [i3])} {e:List LV} {h:List Blk}:qf tt Γ97 (T97 N) qJl Q ⟨e,h⟩=qf tt Γ97 (T97 N) (cut [true,true,false,true,true,true,true,false,true,true,true,true] (Try.f97.body.getD .skip)) Q ⟨e,h⟩:=rfl
theorem qOD (N:Nat) (v11:List (Val (.int .i64))) (v13:Int) {k2:Int→Option (qc [i3])} {Q:X→St→Option (qc [i3])} {c:Code} (hc:c=qJl) (hret: ∀st,Q .ret st=qN tt true [i3] [.tmp 4] st) (h2: ∀(v15:Int),Q (.exit 2) ⟨[.one (.sl 3 (.int .i64) v11 0),u,u,u,u,.one (.int .i64 v15),.one (.int .i64 v13),u,u,u,u,u,u,u,u,u,u,u,u,u,u,u,u,u,u,u,u,u],[]⟩=k2 v15): ∀(n:Nat) (v12:Int) (v14:Int),qI (qf tt Γ97 (T97 N) c) false qnh Q n ⟨[.one (.sl 3 (.int .i64) v11 0),u,u,u,u,.one (.int .i64 v12),.one (.int .i64 v13),.one (.int .i64 v14),u,u,u,u,u,u,u,u,u,u,u,u,u,u,u,u,u,u,u,u],[]⟩=qef N v11 v13 k2 n v12 v14:=by
 subst hc;intro n;induction n with
 | zero=>intros;rfl
 | succ n ih=>
   intro v12 v14
   rw [qS,qNL,qef];unfold Try.f97
   simp (maxSteps:=10000000) -implicitDefEqProofs [qnD,qf0,qm4,qhX,qn1,qg8,ql8,qgK,qlC,qgN,qk5,qky,qk0,qjX,qna,qml,qmC,qkb,qod,qmJ,qmZ,qmP,qng,qnc,qov,qgb,hret,h2,ih]
noncomputable def qKw:Code:=cut [true,true,false,true,true,true] (Try.f97.body.getD .skip)
theorem qXC {N:Nat} {Q:X→St→Option (qc [i3])} {e:List LV} {h:List Blk}:qf tt Γ97 (T97 N) qKw Q ⟨e,h⟩=qf tt Γ97 (T97 N) (cut [true,true,false,true,true,true] (Try.f97.body.getD .skip)) Q ⟨e,h⟩:=rfl
theorem qLa (N:Nat) (v2:List (Val (.int .i64))) {k0:Int→Option (qc [i3])} {Q:X→St→Option (qc [i3])} {c:Code} (hc:c=qKw) (hret: ∀st,Q .ret st=qN tt true [i3] [.tmp 4] st) (h0: ∀(v17:Int),Q (.exit 0) ⟨[u,u,u,u,u,.one (.int .i64 v17),u,u,u,u,u,u,u,u,u,u,u,u,u,u,u,u,u,u,u,u,u,u],[]⟩=k0 v17): ∀(n:Nat) (v3:Int) (v4:Int),qI (qf tt Γ97 (T97 N) c) false qnL Q n ⟨[.one (.sl 3 (.int .i64) v2 0),u,u,u,u,.one (.int .i64 v3),.one (.int .i64 v4),u,u,u,u,u,u,u,u,u,u,u,u,u,u,u,u,u,u,u,u,u],[]⟩=qgh N v2 k0 n v3 v4:=by
 subst hc;intro n;induction n with
 | zero=>intros;rfl
 | succ n ih=>
   intro v3 v4
   rw [qS,qXC];unfold Try.f97
   simp (maxSteps:=10000000) -implicitDefEqProofs [qnD,qf0,qm4,qhX,qn1,qg8,ql8,qgK,qlC,qgN,qk5,qky,qk0,qjX,qna,qml,qmC,qkb,qod,qmJ,qmZ,qmP,qng,qnc,qov,qgb,hret,h0,ih]
   rewrite [qOD (k2:=(fun (v16:Int)=>qgh N v2 k0 n v16 (IntKind.i64.wrap (v4+(1:Int))))) N _ _ ?_ ?_ ?_]
   ·rewrite [qgh];first | rfl | simp (maxSteps:=10000000) -implicitDefEqProofs [ih]
   ·rfl
   ·intro;simp only [qQ,qR,qT,qr,hret]
   ·intro v16;simp (maxSteps:=10000000) -implicitDefEqProofs [qnD,qf0,qm4,qhX,qn1,qg8,ql8,qgK,qlC,qgN,qk5,qky,qk0,qjX,qna,qml,qmC,qkb,qod,qmJ,qmZ,qmP,qng,qnc,qov,qgb,hret,h0,ih]
theorem qN6 (N:Nat) (v0:List (Val (.int .i64))) (v1:Int):qf tt Γ97 (T97 N) (Try.f97.body.getD .skip) (qo tt true [i3] [.tmp 4]) (qv [i27,i3] 28 (v0,v1,()))=m97 N v0 v1:=by
 unfold Try.f97
 simp (maxSteps:=10000000) -implicitDefEqProofs [qnD,qf0,qm4,qhX,qn1,qg8,ql8,qgK,qlC,qgN,qk5,qky,qk0,qjX,qna,qml,qmC,qkb,qod,qmJ,qmZ,qmP,qng,qnc,qov,qgb]
 rewrite [qLa (k0:=(fun (v18:Int)=>some (v18,()))) N _ ?_ ?_ ?_]
 ·rewrite [m97];first | rfl | simp (maxSteps:=10000000) -implicitDefEqProofs []
 ·rfl
 ·intro;simp only [qQ,qR,qT,qr]
 ·intro v18;simp (maxSteps:=10000000) -implicitDefEqProofs [qnD,qf0,qm4,qhX,qn1,qg8,ql8,qgK,qlC,qgN,qk5,qky,qk0,qjX,qna,qml,qmC,qkb,qod,qmJ,qmZ,qmP,qng,qnc,qov,qgb]
theorem qKP (N:Nat) (xs:List (Val (.int .i64))) (v:Int) (k:Int→Option (qc [i3])): ∀(n b a:Nat),b<n→qef N xs v k n (a:Int) (b:Int)=k (Nat.gcd a b:Nat)
 | 0,_,_,h=>by omega
 | n+1,b,a,h=>by
   rw [qef]
   by_cases hb:b=0
   ·subst hb;simp
   ·have hb': ¬((b:Int)=0):=by omega
    have hlt:a % b<b:=Nat.mod_lt _ (by omega)
    have hm:((a:Int).tmod (b:Int))=((a % b:Nat):Int):=by rw [Int.tmod_eq_emod_of_nonneg (by omega)];rfl
    simp only [hb',decide_false,Bool.not_false,cond_true,ne_eq,not_false_eq_true,qHF]
    rw [hm,qKP N xs v k n (a % b) b (by omega)]
    congr 2
    rw [Nat.gcd_comm b,←Nat.gcd_rec,Nat.gcd_comm]
theorem qJV (N:Nat) (xs:List (Val (.int .i64))) (v v':Int) (k:Int→Option (qc [i3])): ∀(n:Nat) (a b:Int),qef N xs v k n a b=qef N xs v' k n a b
 | 0,_,_=>rfl
 | n+1,a,b=>by rw [qef,qef,qJV N xs v v' k n]
theorem t97 (N:Nat) (hN:9223372036854775807<N) (ys:List (Val (.int .i64))): ∀(xs:List Int) (i g:Nat) (k:Int→Option (qc [i3])),(∀x∈xs,inI x)→qcb (fun _ x s K=>chk (qel x) (qef N ys 0 K N s (qcH x))) i xs (g:Int) k=k (gL g xs:Nat)
 | [],_,_,_,_=>rfl
 | x::xs,i,g,k,hx=>by
   have h1:=hx x (by simp)
   rw [qcb,qd (show qel x from h1)]
   simp only [qcH]
   rw [qKP _ _ _ _ _ _ _ (by unfold inI at h1;omega)]
   exact t97 N hN ys xs (i+1) _ k fun y hy=>hx y (by simp [hy])
def g97:G:={ps:=[i27,i3],rs:=[i3],dp:=true,pre:=fun x=>qow x.1 x.2.1,fn:=fun x=>(qma x.1 x.2.1,())}
theorem e97 (xs:List (Val (.int .i64))) (k:Int) (h:qow xs k): ∃N,m97 N xs k=some (qma xs k,()):=⟨9223372036854775808+xs.length,by
 rw [m97,qd (show qel k from h.2.1)]
 rw [qbA (F:=fun n i s=>qgh _ xs _ n s i) (step:=fun _ x s K=>chk (qel x) (qef (9223372036854775808+xs.length) xs 0 K (9223372036854775808+xs.length) s (qcH x))) (k:=fun s=>some (s,())) h.1 ?_ ?_ _ _ (by omega)]
 ·exact t97 _ (by omega) xs xs 0 k.natAbs _ h.2.2
 ·intro n i s hi
  rw [qgh,qj (by omega),qd (by omega),qE hi]
  congr 1
  exact qJV ..
 ·intro n i s hi
  rw [qgh,qh (by omega)]⟩
theorem s97:Sound Try.prog 97 g97:=qz (tt:=tt) (Γ:=Γ97) hT (ql qV1 qp) hm (fn:=Try.f97) Try.func97 (c:=Try.f97.body.getD .skip) (by kernel_rfl) (by kernel_rfl) fun x hx=>by
 obtain ⟨N,h⟩:=e97 x.1 x.2.1 hx
 exact ⟨T97 N,p97,qx _,qQ2 N,(qN6 N x.1 x.2.1).trans h⟩
def qai (a:Val Y83):Bool:=decide ((a.1:List Int).length≤4)&&qb3 a.2.1&&(a.1:List Int).all qb3&&decide (((gL (Int.natAbs a.2.1) a.1:Nat):Int)≤1)
noncomputable def qgv (N:Nat) (v2:List (Val (.int .i64))) (v3:Int) (v4:Bool) (k0:Unit→Option (qc [i4])):Nat→Int→Option (qc [i4])
 | 0,_=>none
 | n+1,v1=>bif (decide (v1<(v2.length:Int)))then (chk (0≤v1∧v1<(v2.length:Int)) (bif (!((qb3 ((v2.getD v1.toNat (qb (.int .i64))):Int)):Bool))then (some (false,()))else (qgv N v2 v3 v4 k0 n (IntKind.i64.wrap (v1+(1:Int))))))else (k0 ())
noncomputable def m96 (N:Nat) (v0:Val Y83):Option (qc [i4]):=bif (decide ((4:Int)<((v0.1:List (Val (.int .i64))).length:Int)))then (some (false,()))else (bif (!((qb3 (v0.2.1:Int)):Bool))then (some (false,()))else (qgv N (v0.1:List (Val (.int .i64))) (v0.2.1:Int) (v0.2.2:Bool) (fun (_:Unit)=>chk (qow (v0.1:List (Val (.int .i64))) (v0.2.1:Int)) (some ((decide (((qma (v0.1:List (Val (.int .i64))) (v0.2.1:Int)):Int)≤(1:Int))),()))) N (0:Int)))
def Γ96:Gam:=[(97,g97),(98,g98)]
theorem qGr:Gam.get Γ96 97=some g97:=rfl
theorem qCn:Gam.get Γ96 98=some g98:=rfl
def qnB:Nm:=⟨[false,true,false,true],[],false⟩
theorem qGp:qnB.zero=false:=rfl
theorem qAb:qnB.fix=[]:=rfl
theorem qyF:qnB.keep=[false,true,false,true]:=rfl
def qpq:Nm:=⟨[false,true],[],false⟩
theorem qs5:qpq.zero=false:=rfl
theorem qEN:qpq.fix=[]:=rfl
theorem qC4:qpq.keep=[false,true]:=rfl
def qju:Nat→Tree:=fun _=> .done
def qnb:Nat→Nm:=fun i=>if i=4 then qnB else ⟨[],[],false⟩
def qn7:Nat→Option Jn:=fun _=>none
def qjV:Nat→Option Nm:=fun i=>if i=0 then some qpq else none
def qnf:Nat→Option Nm:=fun _=>none
theorem p96:qm qju (Try.f96.body.getD .skip)=true:=by kernel_rfl
def T96 (N:Nat):Tab:={tr:=qju,lp:=qnb,ex:=qjV,rg:=qnf,jn:=qn7,fuel:=N}
theorem qGM (N:Nat):(T96 N).pins=false:=rfl
theorem qWb (N:Nat):qn Try.prog (T96 N):=qt fun _=>rfl
theorem qzM (N:Nat) (i:Nat):(T96 N).tr i=qju i:=rfl
theorem qy0 (N:Nat) (i:Nat):(T96 N).lp i=qnb i:=rfl
theorem qGw (N:Nat) (i:Nat):(T96 N).ex i=qjV i:=rfl
theorem qzf (N:Nat) (i:Nat):(T96 N).rg i=qnf i:=rfl
theorem qwg (N:Nat) (i:Nat):(T96 N).jn i=qn7 i:=rfl
theorem qzX (N:Nat):(T96 N).fuel=N:=rfl
noncomputable def qJK:Code:=cut [true,true,false,true,true,true] (Try.f96.body.getD .skip)
theorem qSV {N:Nat} {Q:X→St→Option (qc [i4])} {e:List LV} {h:List Blk}:qf tt Γ96 (T96 N) qJK Q ⟨e,h⟩=qf tt Γ96 (T96 N) (cut [true,true,false,true,true,true] (Try.f96.body.getD .skip)) Q ⟨e,h⟩:=rfl
theorem qWl (N:Nat) (v2:List (Val (.int .i64))) (v3:Int) (v4:Bool) {k0:Unit→Option (qc [i4])} {Q:X→St→Option (qc [i4])} {c:Code} (hc:c=qJK) (hret: ∀st,Q .ret st=qN tt true [i4] [.tmp 2] st) (h0:Q (.exit 0) ⟨[u,.one (.ptr 0 0 0),u,u,u,u,u,u,u,u,u,u,u,u,u,u,u,u,u,u,u,u,u,u,u,u,u,u,u,u,u,u,u,u],[.box [.sl 3 (.int .i64) v2 1,.int .i64 v3,.bool v4]]⟩=k0 ()): ∀(n:Nat) (v1:Int),qI (qf tt Γ96 (T96 N) c) false qnB Q n ⟨[u,.one (.ptr 0 0 0),u,.one (.int .i64 v1),u,u,u,u,u,u,u,u,u,u,u,u,u,u,u,u,u,u,u,u,u,u,u,u,u,u,u,u,u,u],[.box [.sl 3 (.int .i64) v2 1,.int .i64 v3,.bool v4]]⟩=qgv N v2 v3 v4 k0 n v1:=by
 subst hc;intro n;induction n with
 | zero=>intros;rfl
 | succ n ih=>
   intro v1
   rw [qS,qSV,qgv];unfold Try.f96
   simp (maxSteps:=10000000) -implicitDefEqProofs [qzM,qju,qy0,qnb,qGw,qjV,qzf,qnf,qwg,qn7,qzX,qGM,qAb,qyF,qGp,qEN,qC4,qs5,qGr,qCn,g97,g98,hret,h0,ih]
theorem qXu (N:Nat) (v0:Val Y83):qf tt Γ96 (T96 N) (Try.f96.body.getD .skip) (qo tt true [i4] [.tmp 2]) (qv [i83] 34 (v0,()))=m96 N v0:=by
 unfold Try.f96
 simp (maxSteps:=10000000) -implicitDefEqProofs [qzM,qju,qy0,qnb,qGw,qjV,qzf,qnf,qwg,qn7,qzX,qGM,qAb,qyF,qGp,qEN,qC4,qs5,qGr,qCn,g97,g98]
 rewrite [qWl (k0:=(fun (_:Unit)=>chk (qow (v0.1:List (Val (.int .i64))) (v0.2.1:Int)) (some ((decide (((qma (v0.1:List (Val (.int .i64))) (v0.2.1:Int)):Int)≤(1:Int))),())))) N _ _ _ ?_ ?_ ?_]
 ·rewrite [m96];first | rfl | simp (maxSteps:=10000000) -implicitDefEqProofs []
 ·rfl
 ·intro;simp only [qQ,qR,qT,qr]
 ·simp (maxSteps:=10000000) -implicitDefEqProofs [qzM,qju,qy0,qnb,qGw,qjV,qzf,qnf,qwg,qn7,qzX,qGM,qAb,qyF,qGp,qEN,qC4,qs5,qGr,qCn,g97,g98]
noncomputable def qgt (N:Nat) (v1:List (Val (.int .i64))) (v2:Int) (v4:List (Val (.int .i64))) (v5:Int) (v6:Bool) (k0:Unit→Option (qc [i4])):Nat→Int→Option (qc [i4])
 | 0,_=>none
 | n+1,v3=>bif (decide (v3<v2))then (chk (0≤v3∧v3<(v1.length:Int)) (bif (!((qb3 ((v1.getD v3.toNat (qb (.int .i64))):Int)):Bool))then (some (false,()))else (qgt N v1 v2 v4 v5 v6 k0 n (IntKind.i64.wrap (v3+(1:Int))))))else (k0 ())
noncomputable def m93 (N:Nat) (v0:Val Y83):Option (qc [i4]):=bif (decide ((4:Int)<((v0.1:List (Val (.int .i64))).length:Int)))then (some (false,()))else (bif (!((qb3 (v0.2.1:Int)):Bool))then (some (false,()))else (qgt N (v0.1:List (Val (.int .i64))) ((v0.1:List (Val (.int .i64))).length:Int) (v0.1:List (Val (.int .i64))) (v0.2.1:Int) (v0.2.2:Bool) (fun (_:Unit)=>chk (qn3 (v0.1:List (Val (.int .i64)))) (chk (qfv ((qf2 (v0.1:List (Val (.int .i64)))):Int) (v0.2.1:Int)) (some ((decide (((qgf ((qf2 (v0.1:List (Val (.int .i64)))):Int) (v0.2.1:Int)):Int)≤(1:Int))),())))) N (0:Int)))
def Γ93:Gam:=[(94,g94),(95,g95),(109,qjM)]
theorem qyw:Gam.get Γ93 94=some g94:=rfl
theorem qvW:Gam.get Γ93 95=some g95:=rfl
theorem qy8:Gam.get Γ93 109=some qjM:=rfl
def qnE:Nm:=⟨[false,true,false,false,false,false,false,false,false,false,false,false,false,false,false,false,true,true,true],[],false⟩
theorem qwO:qnE.zero=false:=rfl
theorem qzp:qnE.fix=[]:=rfl
theorem qvh:qnE.keep=[false,true,false,false,false,false,false,false,false,false,false,false,false,false,false,false,true,true,true]:=rfl
def qrE:Nm:=⟨[false,true],[],false⟩
theorem qtR:qrE.zero=false:=rfl
theorem qFp:qrE.fix=[]:=rfl
theorem qB4:qrE.keep=[false,true]:=rfl
def qrx:Nm:=⟨[false,false,true],[],false⟩
theorem qAZ:qrx.zero=false:=rfl
theorem qxH:qrx.fix=[]:=rfl
theorem qEl:qrx.keep=[false,false,true]:=rfl
def qjP:Nat→Tree:=fun i=>if i=9 then .quiet 0 (.quiet 1 (.alt 2 (.quiet 3 (.quiet 4 (.alt 5 (.quiet 6 (.quiet 7 .done)) .stop))) (.alt 3 (.alt 2 (.quiet 4 (.alt 5 (.quiet 6 (.quiet 7 .done)) .stop)) (.alt 4 (.alt 2 (.alt 5 (.quiet 6 (.quiet 7 .done)) .stop) .stop) .stop)) .stop)))else .done
def qoA:Nat→Nm:=fun i=>if i=4 then qnE else ⟨[],[],false⟩
def ql1:Nat→Option Jn:=fun _=>none
def qjT:Nat→Option Nm:=fun i=>if i=0 then some qrE else none
def qnG:Nat→Option Nm:=fun i=>if i=9 then some qrx else none
theorem p93:qm qjP (Try.f93.body.getD .skip)=true:=by kernel_rfl
def T93 (N:Nat):Tab:={tr:=qjP,lp:=qoA,ex:=qjT,rg:=qnG,jn:=ql1,fuel:=N}
theorem qv5 (N:Nat):(T93 N).pins=false:=rfl
theorem qWW (N:Nat):qn Try.prog (T93 N):=qt fun _=>rfl
theorem qAP (N:Nat) (i:Nat):(T93 N).tr i=qjP i:=rfl
theorem qzU (N:Nat) (i:Nat):(T93 N).lp i=qoA i:=rfl
theorem qzH (N:Nat) (i:Nat):(T93 N).ex i=qjT i:=rfl
theorem qtN (N:Nat) (i:Nat):(T93 N).rg i=qnG i:=rfl
theorem qFf (N:Nat) (i:Nat):(T93 N).jn i=ql1 i:=rfl
theorem qA1 (N:Nat):(T93 N).fuel=N:=rfl
noncomputable def qIp:Code:=cut [true,true,false,true,true,true] (Try.f93.body.getD .skip)
theorem qVA {N:Nat} {Q:X→St→Option (qc [i4])} {e:List LV} {h:List Blk}:qf tt Γ93 (T93 N) qIp Q ⟨e,h⟩=qf tt Γ93 (T93 N) (cut [true,true,false,true,true,true] (Try.f93.body.getD .skip)) Q ⟨e,h⟩:=rfl
theorem qOn (N:Nat) (v1:List (Val (.int .i64))) (v2:Int) (v4:List (Val (.int .i64))) (v5:Int) (v6:Bool) {k0:Unit→Option (qc [i4])} {Q:X→St→Option (qc [i4])} {c:Code} (hc:c=qIp) (hret: ∀st,Q .ret st=qN tt true [i4] [.tmp 2] st) (h0:Q (.exit 0) ⟨[u,.one (.ptr 0 0 0),u,u,u,u,u,u,u,u,u,u,u,u,u,u,u,u,u,u,u,u,u,u,u,u,u,u,u,u,u,u,u],[.box [.sl 3 (.int .i64) v4 1,.int .i64 v5,.bool v6]]⟩=k0 ()): ∀(n:Nat) (v3:Int),qI (qf tt Γ93 (T93 N) c) false qnE Q n ⟨[u,.one (.ptr 0 0 0),u,u,u,u,u,u,u,u,u,u,u,u,u,u,.one (.sl 3 (.int .i64) v1 1),.one (.int .i64 v2),.one (.int .i64 v3),u,u,u,u,u,u,u,u,u,u,u,u,u,u],[.box [.sl 3 (.int .i64) v4 1,.int .i64 v5,.bool v6]]⟩=qgt N v1 v2 v4 v5 v6 k0 n v3:=by
 subst hc;intro n;induction n with
 | zero=>intros;rfl
 | succ n ih=>
   intro v3
   rw [qS,qVA,qgt];unfold Try.f93
   simp (maxSteps:=10000000) -implicitDefEqProofs [qAP,qjP,qzU,qoA,qzH,qjT,qtN,qnG,qFf,ql1,qA1,qv5,qzp,qvh,qwO,qFp,qB4,qtR,qxH,qEl,qAZ,qyw,qvW,qy8,g94,g95,qjM,hret,h0,ih]
theorem qWy (N:Nat) (v0:Val Y83):qf tt Γ93 (T93 N) (Try.f93.body.getD .skip) (qo tt true [i4] [.tmp 2]) (qv [i83] 33 (v0,()))=m93 N v0:=by
 unfold Try.f93
 simp (maxSteps:=10000000) -implicitDefEqProofs [qAP,qjP,qzU,qoA,qzH,qjT,qtN,qnG,qFf,ql1,qA1,qv5,qzp,qvh,qwO,qFp,qB4,qtR,qxH,qEl,qAZ,qyw,qvW,qy8,g94,g95,qjM]
 rewrite [qOn (k0:=(fun (_:Unit)=>chk (qn3 (v0.1:List (Val (.int .i64)))) (chk (qfv ((qf2 (v0.1:List (Val (.int .i64)))):Int) (v0.2.1:Int)) (some ((decide (((qgf ((qf2 (v0.1:List (Val (.int .i64)))):Int) (v0.2.1:Int)):Int)≤(1:Int))),()))))) N _ _ _ _ _ ?_ ?_ ?_]
 ·rewrite [m93];first | rfl | simp (maxSteps:=10000000) -implicitDefEqProofs []
 ·rfl
 ·intro;simp only [qQ,qR,qT,qr]
 ·simp (maxSteps:=10000000) -implicitDefEqProofs [qAP,qjP,qzU,qoA,qzH,qjT,qtN,qnG,qFf,ql1,qA1,qv5,qzp,qvh,qwO,qFp,qB4,qtR,qxH,qEl,qAZ,qyw,qvW,qy8,g94,g95,qjM]
theorem qkP {n:Int} (h:qb3 n=true):inI n:=by
 unfold qb3 at h;unfold inI;have:=of_decide_eq_true h;omega
def g96:G:={ps:=[i83],rs:=[i4],dp:=true,pre:=fun _=>True,fn:=fun x=>(qai x.1,())}
def g93:G:={ps:=[i83],rs:=[i4],dp:=true,pre:=fun _=>True,fn:=fun x=>(qai x.1,())}
theorem t96 (N:Nat) (xs:List (Val (.int .i64))) (c:Int) (b:Bool) (K:Unit→Option (qc [i4])) (hl:xs.length≤1048576) (n:Nat) (hn:xs.length<n):qgv N xs c b K n 0=bif List.all (α:=Int) xs qb3 then K ()else some (false,()):=
 (qbA (F:=fun n i (_:Unit)=>qgv N xs c b K n i) (step:=fun _ x _ K=>bif qb3 x then K ()else some (false,())) (k:=K) hl (fun n i s hi=>by rw [qgv,qj (by omega),qd (by omega),qE hi,qL]) (fun n i s hi=>by rw [qgv,qh (by omega)]) n () hn).trans (qes xs 0)
theorem t93 (N:Nat) (xs ys:List (Val (.int .i64))) (c:Int) (b:Bool) (K:Unit→Option (qc [i4])) (hl:xs.length≤1048576) (n:Nat) (hn:xs.length<n):qgt N xs xs.length ys c b K n 0=bif List.all (α:=Int) xs qb3 then K ()else some (false,()):=
 (qbA (F:=fun n i (_:Unit)=>qgt N xs xs.length ys c b K n i) (step:=fun _ x _ K=>bif qb3 x then K ()else some (false,())) (k:=K) hl (fun n i s hi=>by rw [qgt,qj (by omega),qd (by omega),qE hi,qL]) (fun n i s hi=>by rw [qgt,qh (by omega)]) n () hn).trans (qes xs 0)
theorem e96 (a:Val Y83): ∃N,m96 N a=some (qai a,()):=⟨(a.1:List (Val (.int .i64))).length+1,by
 obtain ⟨xs,c,b⟩:=a
 change List (Val (.int .i64))at xs
 change Int at c
 change Bool at b
 rw [m96,qai]
 dsimp only
 by_cases h4:xs.length≤4
 ·rw [qh (by omega)]
  cases hc:qb3 c with
  | false=>simp
  | true=>
    rw [t96 _ xs _ _ _ (by omega) _ (Nat.lt_succ_self _)]
    cases ha:List.all (α:=Int) xs qb3 with
    | false=>simp
    | true=>
      rw [qd (show qow xs c from ⟨by omega,qkP hc,fun x hx=>qkP (List.all_eq_true.1 ha x hx)⟩)]
      simp [h4,qma]
      rfl
 ·rw [qj (by omega)]
  simp [h4]⟩
theorem s96:Sound Try.prog 96 g96:=qz (tt:=tt) (Γ:=Γ96) hT (ql s97 (ql s98 qp)) hm (fn:=Try.f96) Try.func96 (c:=Try.f96.body.getD .skip) (by kernel_rfl) (by kernel_rfl) fun x hx=>by
 obtain ⟨N,h⟩:=e96 x.1
 exact ⟨T96 N,p96,qx _,qWb N,(qXu N x.1).trans h⟩
theorem qKG: ∀(xs:List Int) (g:Nat),(g:Int)≤9223372036854775807→(∀x∈xs,inI x)→inI (gL g xs:Nat)
 | [],g,h,_=>by unfold inI gL;omega
 | x::xs,g,h,hx=>qKG xs _ (qHX h (hx x (by simp))).2 fun y hy=>hx y (by simp [hy])
theorem e93 (a:Val Y83): ∃N,m93 N a=some (qai a,()):=⟨(a.1:List (Val (.int .i64))).length+1,by
 obtain ⟨xs,c,b⟩:=a
 change List (Val (.int .i64))at xs
 change Int at c
 change Bool at b
 rw [m93,qai]
 dsimp only
 by_cases h4:xs.length≤4
 ·rw [qh (by omega)]
  cases hc:qb3 c with
  | false=>simp
  | true=>
    rw [t93 _ xs _ _ _ _ (by omega) _ (Nat.lt_succ_self _)]
    cases ha:List.all (α:=Int) xs qb3 with
    | false=>simp
    | true=>
      have hx: ∀x∈xs,inI x:=fun x hx=>qkP (List.all_eq_true.1 ha x hx)
      have e:Nat.gcd (gL 0 xs) c.natAbs=gL c.natAbs xs:=by rw [←qHc,Nat.gcd_zero_left]
      rw [qd (show qn3 xs from ⟨by omega,hx⟩),qd (show qfv (qf2 xs) c from ⟨qKG xs 0 (by omega) hx,qkP hc⟩)]
      simp [h4,qf2,qgf,e]
 ·rw [qj (by omega)]
  simp [h4]⟩
theorem s93:Sound Try.prog 93 g93:=qz (tt:=tt) (Γ:=Γ93) hT (ql s94 (ql s95 (ql qPa qp))) hm (fn:=Try.f93) Try.func93 (c:=Try.f93.body.getD .skip) (by kernel_rfl) (by kernel_rfl) fun x hx=>by
 obtain ⟨N,h⟩:=e93 x.1
 exact ⟨T93 N,p93,qx _,qWW N,(qWy N x.1).trans h⟩
end Go.T
