/- Certificates: what CheckBest computes. -/
import Derived.Test.YtlhkmndfkjlodaaK1
import Derived.Test.YtlhkmndfkjlodaaK2
import Derived.Test.YtlhkmndfkjlodaaE43
import Derived.Test.YtlhkmndfkjlodaaT12
set_option linter.unusedSimpArgs false
set_option linter.unusedVariables false
namespace Go.T
open Go Go.Proofs
set_option maxHeartbeats 4000000
set_option maxRecDepth 100000
abbrev Opt:=Val Y51
def qH (l:List (Val (.int .i64))) (p:List (Val Y35)):Val Y35:=qbR l p ((0:Int),(1:Int))
def qaw (l:List (Val (.int .i64))) (p:List (Val Y35)):Prop:=p.length=l.length∧l.length≤1048576
def qa0 (c:Val Y26) (p:List (Val Y35)):Bool:=(inV c p).1&&(inV c p).2
def qfv (c:Val Y26) (p:List (Val Y35)):Prop:=qbH c p
def qdu (s:Val Y35):Bool:=qo s&& !decide ((0:Int)<s.1)
def qj8 (s:Val Y35):Bool:=qo s&&decide ((0:Int)<s.1)
def qfX (c:Val Y26) (l:List (Val (.int .i64))) (p:List (Val Y35)):Bool:=q6 p c.1&&List.all (α:=Val Y83) c.2 (fun a=>qdu (qH a.1 p))&&qj8 (qH l p)
def qnh (c:Val Y26) (l:List (Val (.int .i64))) (p:List (Val Y35)):Prop:=qS c=true∧(l.length:Int)=(c.1:Int)∧p.length≤1048576
def qaS (l:List Int) (d:Int):List (Val (.int .i64)):=l.map fun n=> -n*d
def qO (l:List (Val (.int .i64))) (r:Val Y35) (s:Bool):Val Y83×Bool:=qab (qaS l r.2) r.1 s
def qe4 (l:List (Val (.int .i64))) (r:Val Y35) (_:Bool):Prop:=l.length≤4∧(∀n∈l,qv n=true)∧qo r=true
def qaB (l:List (Val (.int .i64))) (r:Val Y35) (s:Bool):Val Y83×Bool:=qaz (List.map (α:=Int) (fun n=>IntKind.i64.wrap (IntKind.i64.wrap (0 - n)*(r.2:Int))) l) r.1 s
def qmD (l:List (Val (.int .i64))) (_:Val Y35) (_:Bool):Prop:=l.length≤1048576
def qdl (c:Val Y26) (l:List (Val (.int .i64))) (o:Opt):Bool:=
 bif qS c&&(decide ((c.1:Int)<4)&&qbO c l)then
    (bif decide ((o.1:Int)=1)then qal c o.2.2.2.2.2 else
    bif decide ((o.1:Int)=2)then qa0 c o.2.2.2.1&&qfX c l o.2.2.2.2.1 else
    bif decide ((o.1:Int)=0)then (bif qo o.2.1&&(qO l o.2.1 o.2.2.1).2&&qal (qaK c [(qO l o.2.1 o.2.2.1).1]) o.2.2.2.2.2 then (bif o.2.2.1 then qa0 c o.2.2.2.1&&(decide ((qH l o.2.2.2.1).1=(o.2.1.1:Int))&&decide ((qH l o.2.2.2.1).2=(o.2.1.2:Int)))else decide ((List.length (α:=Val Y35) o.2.2.2.1:Int)=0))else false)else false)
 else false
def qeT (c:Val Y26) (l:List (Val (.int .i64))) (o:Opt):Prop:=qca c∧l.length≤1048576∧Bd Y51 o
def qnp (c:Val Y26) (a:Val Y83):Val Y26:=qaK c [a]
def qmG (c:Val Y26) (a:Val Y83):Prop:=qf2 c [a]
def g73:G:={ps:=[i27,i32],rs:=[i35],dp:=true,pre:=fun x=>qaw x.1 x.2.1,fn:=fun x=>(qH x.1 x.2.1,())}
noncomputable def qd1 (N:Nat) (v2:List (Val Y35)) (v3:List (Val (.int .i64))) (v4:Int) (v6:Int) (v7:Int) (k0:Int→Int→Option (qa [i35])):Nat→Int→Int→Int→Option (qa [i35])
 | 0,_,_,_=>none
 | n+1,v5,v8,v9=>bif (decide (v5<v4))then (chk (0≤v5∧v5<(v3.length:Int)) (chk (0≤v5∧v5<(v2.length:Int)) (qd1 N v2 v3 v4 v6 v7 k0 n (IntKind.i64.wrap (v5+(1:Int))) ((qaF (v8,v9) (((q5 (((v3.getD v5.toNat (qc (.int .i64))):Int),(1:Int)) (v2.getD v5.toNat (qc Y35))).1:Int),((q5 (((v3.getD v5.toNat (qc (.int .i64))):Int),(1:Int)) (v2.getD v5.toNat (qc Y35))).2:Int))).1:Int) ((qaF (v8,v9) (((q5 (((v3.getD v5.toNat (qc (.int .i64))):Int),(1:Int)) (v2.getD v5.toNat (qc Y35))).1:Int),((q5 (((v3.getD v5.toNat (qc (.int .i64))):Int),(1:Int)) (v2.getD v5.toNat (qc Y35))).2:Int))).2:Int))))else (k0 v8 v9)
noncomputable def m73 (N:Nat) (v0:List (Val (.int .i64))) (v1:List (Val Y35)):Option (qa [i35]):=qd1 N v1 v0 (v0.length:Int) (0:Int) (0:Int) (fun (v12:Int) (v13:Int)=>some ((v12,v13),())) N (0:Int) (0:Int) (1:Int)
def Γ73:Gam:=[(113,qbF),(114,qbB)]
theorem qrx:Gam.get Γ73 113=some qbF:=rfl
theorem qzK:Gam.get Γ73 114=some qbB:=rfl
def qhv:Nm:=⟨[false,true,false,false,true,true,false,false,false,true,true,true],[],false⟩
theorem qym:qhv.zero=false:=rfl
theorem qyD:qhv.fix=[]:=rfl
theorem qrg:qhv.keep=[false,true,false,false,true,true,false,false,false,true,true,true]:=rfl
def qnN:Nm:=⟨[false,false,false,false,true,true],[],false⟩
theorem qwd:qnN.zero=false:=rfl
theorem qp9:qnN.fix=[]:=rfl
theorem qyK:qnN.keep=[false,false,false,false,true,true]:=rfl
def qlE:Nm:=⟨[false,true,false,false,true,true,false,false,false,true,true,true],[],false⟩
theorem qwy:qlE.zero=false:=rfl
theorem qpj:qlE.fix=[]:=rfl
theorem qti:qlE.keep=[false,true,false,false,true,true,false,false,false,true,true,true]:=rfl
def qgc:Nat→Tree:=fun i=>if i=5 then .quiet 1 (.quiet 2 (.quiet 3 (.quiet 4 (.quiet 5 (.quiet 6 (.alt 0 (.alt 7 (.alt 8 (.alt 9 .done .stop) .stop) .stop) (.alt 7 (.quiet 0 (.alt 8 (.alt 9 .done .stop) .stop)) .stop)))))))else .done
def qjK:Nat→Nm:=fun i=>if i=3 then qhv else ⟨[],[],false⟩
def qky:Nat→Option Jn:=fun _=>none
def qkU:Nat→Option Nm:=fun i=>if i=0 then some qnN else none
def qih:Nat→Option Nm:=fun i=>if i=5 then some qlE else none
theorem p73:qg qgc (Try.f73.body.getD .skip)=true:=by kernel_rfl
def T73 (N:Nat):Tab:={tr:=qgc,lp:=qjK,ex:=qkU,rg:=qih,jn:=qky,fuel:=N}
theorem qsh (N:Nat):(T73 N).pins=false:=rfl
theorem qGx (N:Nat):qk Try.prog (T73 N):=qn fun _=>rfl
theorem qwV (N:Nat) (i:Nat):(T73 N).tr i=qgc i:=rfl
theorem qyq (N:Nat) (i:Nat):(T73 N).lp i=qjK i:=rfl
theorem qxW (N:Nat) (i:Nat):(T73 N).ex i=qkU i:=rfl
theorem qut (N:Nat) (i:Nat):(T73 N).rg i=qih i:=rfl
theorem qyH (N:Nat) (i:Nat):(T73 N).jn i=qky i:=rfl
theorem qpr (N:Nat):(T73 N).fuel=N:=rfl
noncomputable def qE9:Code:=cut [true,true,false,true,true,true] (Try.f73.body.getD .skip)
theorem qN5 {N:Nat} {Q:X→St→Option (qa [i35])} {e:List LV} {h:List Blk}:qb tt Γ73 (T73 N) qE9 Q ⟨e,h⟩=qb tt Γ73 (T73 N) (cut [true,true,false,true,true,true] (Try.f73.body.getD .skip)) Q ⟨e,h⟩:=rfl
theorem qK8 (N:Nat) (v2:List (Val Y35)) (v3:List (Val (.int .i64))) (v4:Int) (v6:Int) (v7:Int) {k0:Int→Int→Option (qa [i35])} {Q:X→St→Option (qa [i35])} {c:Code} (hc:c=qE9) (hret: ∀st,Q .ret st=qy tt true [i35] [.cell 4 35] st) (h0: ∀(v10:Int) (v11:Int),Q (.exit 0) ⟨[u,u,u,u,.one (.ptr 0 0 0),.one (.ptr 1 0 0),u,u,u,u,u,u,u,u,u,u,u,u,u,u,u,u,u,u,u,u,u],[.box [.int .i64 v6,.int .i64 v7],.box [.int .i64 v10,.int .i64 v11]]⟩=k0 v10 v11): ∀(n:Nat) (v5:Int) (v8:Int) (v9:Int),qx (qb tt Γ73 (T73 N) c) false qhv Q n ⟨[u,.one (.sl 35 Y35 v2 2),u,u,.one (.ptr 0 0 0),.one (.ptr 1 0 0),u,u,u,.one (.sl 3 (.int .i64) v3 2),.one (.int .i64 v4),.one (.int .i64 v5),u,u,u,u,u,u,u,u,u,u,u,u,u,u,u],[.box [.int .i64 v6,.int .i64 v7],.box [.int .i64 v8,.int .i64 v9]]⟩=qd1 N v2 v3 v4 v6 v7 k0 n v5 v8 v9:=by
 subst hc;intro n;induction n with
 | zero=>intros;rfl
 | succ n ih=>
   intro v5 v8 v9
   rw [qI,qN5,qd1];unfold Try.f73
   simp (maxSteps:=10000000) -implicitDefEqProofs [qwV,qgc,qyq,qjK,qxW,qkU,qut,qih,qyH,qky,qpr,qsh,qyD,qrg,qym,qp9,qyK,qwd,qpj,qti,qwy,qrx,qzK,qbF,qbB,hret,h0,ih]
theorem qG4 (N:Nat) (v0:List (Val (.int .i64))) (v1:List (Val Y35)):qb tt Γ73 (T73 N) (Try.f73.body.getD .skip) (qh tt true [i35] [.cell 4 35]) (ql [i27,i32] 27 (v0,v1,()))=m73 N v0 v1:=by
 unfold Try.f73
 simp (maxSteps:=10000000) -implicitDefEqProofs [qwV,qgc,qyq,qjK,qxW,qkU,qut,qih,qyH,qky,qpr,qsh,qyD,qrg,qym,qp9,qyK,qwd,qpj,qti,qwy,qrx,qzK,qbF,qbB]
 rewrite [qK8 (k0:=(fun (v12:Int) (v13:Int)=>some ((v12,v13),()))) N _ _ _ _ _ ?_ ?_ ?_]
 ·rewrite [m73];first | rfl | simp (maxSteps:=10000000) -implicitDefEqProofs []
 ·rfl
 ·intro;simp only [qD,qE,qF,qC]
 ·intro v12 v13;simp (maxSteps:=10000000) -implicitDefEqProofs [qwV,qgc,qyq,qjK,qxW,qkU,qut,qih,qyH,qky,qpr,qsh,qyD,qrg,qym,qp9,qyK,qwd,qpj,qti,qwy,qrx,qzK,qbF,qbB]
def g68:G:={ps:=[i26,i32],rs:=[i4],dp:=true,pre:=fun x=>qfv x.1 x.2.1,fn:=fun x=>(qa0 x.1 x.2.1,())}
noncomputable def m68 (N:Nat) (v0:Val Y26) (v1:List (Val Y35)):Option (qa [i4]):=chk (qbH v0 v1) (bif ((inV v0 v1).1:Bool)then (some (((inV v0 v1).2:Bool),()))else (some (false,())))
def Γ68:Gam:=[(12,g12)]
theorem qLF:Gam.get Γ68 12=some g12:=rfl
def qo1:Nat→Tree:=fun _=> .done
def qqf:Nat→Nm:=fun _=>⟨[],[],false⟩
def qws:Nat→Option Jn:=fun _=>none
def qpQ:Nat→Option Nm:=fun _=>none
def quT:Nat→Option Nm:=fun _=>none
theorem p68:qg qo1 (Try.f68.body.getD .skip)=true:=by kernel_rfl
def T68 (N:Nat):Tab:={tr:=qo1,lp:=qqf,ex:=qpQ,rg:=quT,jn:=qws,fuel:=N}
theorem qLO (N:Nat):(T68 N).pins=false:=rfl
theorem qIn (N:Nat):qk Try.prog (T68 N):=qn fun _=>rfl
theorem qPN (N:Nat) (i:Nat):(T68 N).tr i=qo1 i:=rfl
theorem qPO (N:Nat) (i:Nat):(T68 N).lp i=qqf i:=rfl
theorem qGV (N:Nat) (i:Nat):(T68 N).ex i=qpQ i:=rfl
theorem qMI (N:Nat) (i:Nat):(T68 N).rg i=quT i:=rfl
theorem qMJ (N:Nat) (i:Nat):(T68 N).jn i=qws i:=rfl
theorem qRp (N:Nat):(T68 N).fuel=N:=rfl
theorem qQf (N:Nat) (v0:Val Y26) (v1:List (Val Y35)):qb tt Γ68 (T68 N) (Try.f68.body.getD .skip) (qh tt true [i4] [.tmp 4]) (ql [i26,i32] 17 (v0,v1,()))=m68 N v0 v1:=by
 rw [m68];unfold Try.f68
 simp (maxSteps:=10000000) -implicitDefEqProofs [qPN,qo1,qPO,qqf,qGV,qpQ,qMI,quT,qMJ,qws,qRp,qLO,qLF,g12]
 try rfl
def g69:G:={ps:=[i26,i27,i32],rs:=[i4],dp:=true,pre:=fun x=>qnh x.1 x.2.1 x.2.2.1,fn:=fun x=>(qfX x.1 x.2.1 x.2.2.1,())}
noncomputable def qeR (N:Nat) (v3:List (Val (.int .i64))) (v4:List (Val Y35)) (v5:List (Val Y83)) (v6:Int) (k0:Unit→Option (qa [i4])):Nat→Int→Option (qa [i4])
 | 0,_=>none
 | n+1,v7=>bif (decide (v7<v6))then (chk (0≤v7∧v7<(v5.length:Int)) (chk (qaw ((v5.getD v7.toNat (qc Y83)).1:List (Val (.int .i64))) v4) (bif (!((qo (((qH ((v5.getD v7.toNat (qc Y83)).1:List (Val (.int .i64))) v4).1:Int),((qH ((v5.getD v7.toNat (qc Y83)).1:List (Val (.int .i64))) v4).2:Int))):Bool))then (some (false,()))else (bif (decide ((0:Int)<((qH ((v5.getD v7.toNat (qc Y83)).1:List (Val (.int .i64))) v4).1:Int)))then (some (false,()))else (qeR N v3 v4 v5 v6 k0 n (IntKind.i64.wrap (v7+(1:Int))))))))else (k0 ())
noncomputable def m69 (N:Nat) (v0:Val Y26) (v1:List (Val (.int .i64))) (v2:List (Val Y35)):Option (qa [i4]):=chk (qaL v2 (v0.1:Int)) (bif (!((q6 v2 (v0.1:Int)):Bool))then (some (false,()))else (qeR N v1 v2 (v0.2:List (Val Y83)) ((v0.2:List (Val Y83)).length:Int) (fun (_:Unit)=>chk (qaw v1 v2) (bif ((qo (((qH v1 v2).1:Int),((qH v1 v2).2:Int))):Bool)then (some ((decide ((0:Int)<((qH v1 v2).1:Int))),()))else (some (false,())))) N (0:Int)))
def Γ69:Gam:=[(50,g50),(70,g70),(73,g73)]
theorem qpF:Gam.get Γ69 50=some g50:=rfl
theorem qzL:Gam.get Γ69 70=some g70:=rfl
theorem qwx:Gam.get Γ69 73=some g73:=rfl
def qg4:Nm:=⟨[false,true,true,false,false,false,false,false,false,false,false,false,false,false,false,false,false,true,true,true],[],false⟩
theorem quM:qg4.zero=false:=rfl
theorem qrH:qg4.fix=[]:=rfl
theorem qqU:qg4.keep=[false,true,true,false,false,false,false,false,false,false,false,false,false,false,false,false,false,true,true,true]:=rfl
def qmk:Nm:=⟨[false,true,true],[],false⟩
theorem qqx:qmk.zero=false:=rfl
theorem qqa:qmk.fix=[]:=rfl
theorem qAS:qmk.keep=[false,true,true]:=rfl
def qgK:Nat→Tree:=fun _=> .done
def qhL:Nat→Nm:=fun i=>if i=4 then qg4 else ⟨[],[],false⟩
def qkW:Nat→Option Jn:=fun _=>none
def qir:Nat→Option Nm:=fun i=>if i=0 then some qmk else none
def qiy:Nat→Option Nm:=fun _=>none
theorem p69:qg qgK (Try.f69.body.getD .skip)=true:=by kernel_rfl
def T69 (N:Nat):Tab:={tr:=qgK,lp:=qhL,ex:=qir,rg:=qiy,jn:=qkW,fuel:=N}
theorem qqA (N:Nat):(T69 N).pins=false:=rfl
theorem qR4 (N:Nat):qk Try.prog (T69 N):=qn fun _=>rfl
theorem qtP (N:Nat) (i:Nat):(T69 N).tr i=qgK i:=rfl
theorem qv9 (N:Nat) (i:Nat):(T69 N).lp i=qhL i:=rfl
theorem qpq (N:Nat) (i:Nat):(T69 N).ex i=qir i:=rfl
theorem qyz (N:Nat) (i:Nat):(T69 N).rg i=qiy i:=rfl
theorem qzQ (N:Nat) (i:Nat):(T69 N).jn i=qkW i:=rfl
theorem qBx (N:Nat):(T69 N).fuel=N:=rfl
noncomputable def qB4:Code:=cut [true,true,false,true,true,true] (Try.f69.body.getD .skip)
theorem qOn {N:Nat} {Q:X→St→Option (qa [i4])} {e:List LV} {h:List Blk}:qb tt Γ69 (T69 N) qB4 Q ⟨e,h⟩=qb tt Γ69 (T69 N) (cut [true,true,false,true,true,true] (Try.f69.body.getD .skip)) Q ⟨e,h⟩:=rfl
theorem qQ0 (N:Nat) (v3:List (Val (.int .i64))) (v4:List (Val Y35)) (v5:List (Val Y83)) (v6:Int) {k0:Unit→Option (qa [i4])} {Q:X→St→Option (qa [i4])} {c:Code} (hc:c=qB4) (hret: ∀st,Q .ret st=qy tt true [i4] [.tmp 6] st) (h0:Q (.exit 0) ⟨[u,.one (.sl 3 (.int .i64) v3 0),.one (.sl 35 Y35 v4 0),u,u,u,u,u,u,u,u,u,u,u,u,u,u,u,u,u,u,u,u,u,u,u,u,u,u,u,u,u,u,u,u,u,u,u,u,u,u,u,u,u,u,u],[]⟩=k0 ()): ∀(n:Nat) (v7:Int),qx (qb tt Γ69 (T69 N) c) false qg4 Q n ⟨[u,.one (.sl 3 (.int .i64) v3 0),.one (.sl 35 Y35 v4 0),u,u,u,u,u,u,u,u,u,u,u,u,u,u,.one (.sl 83 Y83 v5 0),.one (.int .i64 v6),.one (.int .i64 v7),u,u,u,u,u,u,u,u,u,u,u,u,u,u,u,u,u,u,u,u,u,u,u,u,u,u],[]⟩=qeR N v3 v4 v5 v6 k0 n v7:=by
 subst hc;intro n;induction n with
 | zero=>intros;rfl
 | succ n ih=>
   intro v7
   rw [qI,qOn,qeR];unfold Try.f69
   simp (maxSteps:=10000000) -implicitDefEqProofs [qtP,qgK,qv9,qhL,qpq,qir,qyz,qiy,qzQ,qkW,qBx,qqA,qrH,qqU,quM,qqa,qAS,qqx,qpF,qzL,qwx,g50,g70,g73,hret,h0,ih]
theorem qJf (N:Nat) (v0:Val Y26) (v1:List (Val (.int .i64))) (v2:List (Val Y35)):qb tt Γ69 (T69 N) (Try.f69.body.getD .skip) (qh tt true [i4] [.tmp 6]) (ql [i26,i27,i32] 46 (v0,v1,v2,()))=m69 N v0 v1 v2:=by
 unfold Try.f69
 simp (maxSteps:=10000000) -implicitDefEqProofs [qtP,qgK,qv9,qhL,qpq,qir,qyz,qiy,qzQ,qkW,qBx,qqA,qrH,qqU,quM,qqa,qAS,qqx,qpF,qzL,qwx,g50,g70,g73]
 rewrite [qQ0 (k0:=(fun (_:Unit)=>chk (qaw v1 v2) (bif ((qo (((qH v1 v2).1:Int),((qH v1 v2).2:Int))):Bool)then (some ((decide ((0:Int)<((qH v1 v2).1:Int))),()))else (some (false,()))))) N _ _ _ _ ?_ ?_ ?_]
 ·rewrite [m69];first | rfl | simp (maxSteps:=10000000) -implicitDefEqProofs []
 ·rfl
 ·intro;simp only [qD,qE,qF,qC]
 ·simp (maxSteps:=10000000) -implicitDefEqProofs [qtP,qgK,qv9,qhL,qpq,qir,qyz,qiy,qzQ,qkW,qBx,qqA,qrH,qqU,quM,qqa,qAS,qqx,qpF,qzL,qwx,g50,g70,g73]
def g71:G:={ps:=[i27,i35,i4],rs:=[i83,i4],dp:=true,pre:=fun x=>qe4 x.1 x.2.1 x.2.2.1,fn:=fun x=>((qO x.1 x.2.1 x.2.2.1).1,(qO x.1 x.2.1 x.2.2.1).2,())}
noncomputable def qdV (N:Nat) (v3:Bool) (v4:List (Val (.int .i64))) (v5:Int) (v7:Int) (v8:Int) (v9:Int) (v10:Bool) (k0:(List (Val (.int .i64)))→Option (qa [i83,i4])):Nat→Int→(List (Val (.int .i64)))→Option (qa [i83,i4])
 | 0,_,_=>none
 | n+1,v6,v11=>bif (decide (v6<v5))then (chk (0≤v6∧v6<(v4.length:Int)) (chk (0≤v6∧v6<(v11.length:Int)) (chk (v6.toNat<v11.length) (qdV N v3 v4 v5 v7 v8 v9 v10 k0 n (IntKind.i64.wrap (v6+(1:Int))) (v11.set v6.toNat (IntKind.i64.wrap ((IntKind.i64.wrap (0 - ((v4.getD v6.toNat (qc (.int .i64))):Int)))*v8)))))))else (k0 v11)
noncomputable def m71 (N:Nat) (v0:List (Val (.int .i64))) (v1:Val Y35) (v2:Bool):Option (qa [i83,i4]):=chk (0≤(v0.length:Int)∧(v0.length:Int)≤(v0.length:Int)∧(v0.length:Int)≤1048576) (qdV N v2 v0 (v0.length:Int) (v1.1:Int) (v1.2:Int) (0:Int) false (fun (v13:List (Val (.int .i64)))=>chk (qcS v13 (v1.1:Int) v2) (some (((((qab v13 (v1.1:Int) v2).1).1:List (Val (.int .i64))),((((qab v13 (v1.1:Int) v2).1).2).1:Int),((((qab v13 (v1.1:Int) v2).1).2).2:Bool)),((qab v13 (v1.1:Int) v2).2:Bool),()))) N (0:Int) (List.replicate (v0.length:Int).toNat (qc (.int .i64))))
def Γ71:Gam:=[(45,g45)]
theorem qBn:Gam.get Γ71 45=some g45:=rfl
def qk9:Nm:=⟨[false,false,true,false,true,false,true,false,true,false,false,false,false,false,true,true,true],[],false⟩
theorem qxg:qk9.zero=false:=rfl
theorem qsj:qk9.fix=[]:=rfl
theorem qx8:qk9.keep=[false,false,true,false,true,false,true,false,true,false,false,false,false,false,true,true,true]:=rfl
def qo0:Nm:=⟨[false,false,true,false,true,false,true,false,true],[],false⟩
theorem qvV:qo0.zero=false:=rfl
theorem qu9:qo0.fix=[]:=rfl
theorem qBD:qo0.keep=[false,false,true,false,true,false,true,false,true]:=rfl
def qgu:Nat→Tree:=fun _=> .done
def qhT:Nat→Nm:=fun i=>if i=3 then qk9 else ⟨[],[],false⟩
def qjW:Nat→Option Jn:=fun _=>none
def qht:Nat→Option Nm:=fun i=>if i=0 then some qo0 else none
def qla:Nat→Option Nm:=fun _=>none
theorem p71:qg qgu (Try.f71.body.getD .skip)=true:=by kernel_rfl
def T71 (N:Nat):Tab:={tr:=qgu,lp:=qhT,ex:=qht,rg:=qla,jn:=qjW,fuel:=N}
theorem qqj (N:Nat):(T71 N).pins=false:=rfl
theorem qH4 (N:Nat):qk Try.prog (T71 N):=qn fun _=>rfl
theorem qw9 (N:Nat) (i:Nat):(T71 N).tr i=qgu i:=rfl
theorem qsc (N:Nat) (i:Nat):(T71 N).lp i=qhT i:=rfl
theorem qwo (N:Nat) (i:Nat):(T71 N).ex i=qht i:=rfl
theorem qu8 (N:Nat) (i:Nat):(T71 N).rg i=qla i:=rfl
theorem qwv (N:Nat) (i:Nat):(T71 N).jn i=qjW i:=rfl
theorem qw0 (N:Nat):(T71 N).fuel=N:=rfl
noncomputable def qCI:Code:=cut [true,true,false,true,true,true] (Try.f71.body.getD .skip)
theorem qJ7 {N:Nat} {Q:X→St→Option (qa [i83,i4])} {e:List LV} {h:List Blk}:qb tt Γ71 (T71 N) qCI Q ⟨e,h⟩=qb tt Γ71 (T71 N) (cut [true,true,false,true,true,true] (Try.f71.body.getD .skip)) Q ⟨e,h⟩:=rfl
theorem qHL (N:Nat) (v3:Bool) (v4:List (Val (.int .i64))) (v5:Int) (v7:Int) (v8:Int) (v9:Int) (v10:Bool) {k0:(List (Val (.int .i64)))→Option (qa [i83,i4])} {Q:X→St→Option (qa [i83,i4])} {c:Code} (hc:c=qCI) (hret: ∀st,Q .ret st=qy tt true [i83,i4] [.cell 6 83,.tmp 7] st) (h0: ∀(v12:List (Val (.int .i64))),Q (.exit 0) ⟨[u,u,.one (.bool v3),u,.one (.ptr 0 0 0),u,.one (.ptr 1 0 0),u,.one (.own 2),u,u,u,u,u,u,u,u,u,u,u,u,u,u,u,u,u,u,u,u,u,u,u,u,u,u,u,u],[.box [.int .i64 v7,.int .i64 v8],.box [.nils,.int .i64 v9,.bool v10],.row 3 (.int .i64) v12 true true 0]⟩=k0 v12): ∀(n:Nat) (v6:Int) (v11:List (Val (.int .i64))),qx (qb tt Γ71 (T71 N) c) false qk9 Q n ⟨[u,u,.one (.bool v3),u,.one (.ptr 0 0 0),u,.one (.ptr 1 0 0),u,.one (.own 2),u,u,u,u,u,.one (.sl 3 (.int .i64) v4 3),.one (.int .i64 v5),.one (.int .i64 v6),u,u,u,u,u,u,u,u,u,u,u,u,u,u,u,u,u,u,u,u],[.box [.int .i64 v7,.int .i64 v8],.box [.nils,.int .i64 v9,.bool v10],.row 3 (.int .i64) v11 true true 0]⟩=qdV N v3 v4 v5 v7 v8 v9 v10 k0 n v6 v11:=by
 subst hc;intro n;induction n with
 | zero=>intros;rfl
 | succ n ih=>
   intro v6 v11
   rw [qI,qJ7,qdV];unfold Try.f71
   simp (maxSteps:=10000000) -implicitDefEqProofs [qw9,qgu,qsc,qhT,qwo,qht,qu8,qla,qwv,qjW,qw0,qqj,qsj,qx8,qxg,qu9,qBD,qvV,qBn,g45,hret,h0,ih]
theorem qGi (N:Nat) (v0:List (Val (.int .i64))) (v1:Val Y35) (v2:Bool):qb tt Γ71 (T71 N) (Try.f71.body.getD .skip) (qh tt true [i83,i4] [.cell 6 83,.tmp 7]) (ql [i27,i35,i4] 37 (v0,v1,v2,()))=m71 N v0 v1 v2:=by
 unfold Try.f71
 simp (maxSteps:=10000000) -implicitDefEqProofs [qw9,qgu,qsc,qhT,qwo,qht,qu8,qla,qwv,qjW,qw0,qqj,qsj,qx8,qxg,qu9,qBD,qvV,qBn,g45]
 rewrite [qHL (k0:=(fun (v13:List (Val (.int .i64)))=>chk (qcS v13 (v1.1:Int) v2) (some (((((qab v13 (v1.1:Int) v2).1).1:List (Val (.int .i64))),((((qab v13 (v1.1:Int) v2).1).2).1:Int),((((qab v13 (v1.1:Int) v2).1).2).2:Bool)),((qab v13 (v1.1:Int) v2).2:Bool),())))) N _ _ _ _ _ _ _ ?_ ?_ ?_]
 ·rewrite [m71];first | rfl | simp (maxSteps:=10000000) -implicitDefEqProofs []
 ·rfl
 ·intro;simp only [qD,qE,qF,qC]
 ·intro v13;simp (maxSteps:=10000000) -implicitDefEqProofs [qw9,qgu,qsc,qhT,qwo,qht,qu8,qla,qwv,qjW,qw0,qqj,qsj,qx8,qxg,qu9,qBD,qvV,qBn,g45]
def g19:G:={ps:=[i26,i27,i51],rs:=[i4],dp:=true,pre:=fun x=>qeT x.1 x.2.1 x.2.2.1,fn:=fun x=>(qdl x.1 x.2.1 x.2.2.1,())}
noncomputable def m19 (N:Nat) (v0:Val Y26) (v1:List (Val (.int .i64))) (v2:Val Y51):Option (qa [i4]):=bif (!((qS v0):Bool))then (some (false,()))else (bif (decide ((3:Int)<(v0.1:Int)))then (some (false,()))else (chk (qme v0 v1) (bif (!((qbO v0 v1):Bool))then (some (false,()))else (bif (decide ((v2.1:Int)=(1:Int)))then (chk (qa9 v0 (v2.2.2.2.2.2:List (Val (.int .i64)))) (some (((qal v0 (v2.2.2.2.2.2:List (Val (.int .i64)))):Bool),())))else (bif (decide ((v2.1:Int)=(2:Int)))then (chk (qfv v0 (v2.2.2.2.1:List (Val Y35))) (bif ((qa0 v0 (v2.2.2.2.1:List (Val Y35))):Bool)then (chk (qnh v0 v1 (v2.2.2.2.2.1:List (Val Y35))) (some (((qfX v0 v1 (v2.2.2.2.2.1:List (Val Y35))):Bool),())))else (some (false,()))))else (bif (decide ((v2.1:Int)=(0:Int)))then (bif (!((qo v2.2.1):Bool))then (some (false,()))else (chk (qe4 v1 v2.2.1 (v2.2.2.1:Bool)) (bif (!((qO v1 v2.2.1 (v2.2.2.1:Bool)).2:Bool))then (some (false,()))else (chk (qf2 v0 ([((((qO v1 v2.2.1 (v2.2.2.1:Bool)).1).1:List (Val (.int .i64))),((((qO v1 v2.2.1 (v2.2.2.1:Bool)).1).2).1:Int),((((qO v1 v2.2.1 (v2.2.2.1:Bool)).1).2).2:Bool))]:List (Val Y83))) (chk (qa9 (((qaK v0 ([((((qO v1 v2.2.1 (v2.2.2.1:Bool)).1).1:List (Val (.int .i64))),((((qO v1 v2.2.1 (v2.2.2.1:Bool)).1).2).1:Int),((((qO v1 v2.2.1 (v2.2.2.1:Bool)).1).2).2:Bool))]:List (Val Y83))).1:Int),((qaK v0 ([((((qO v1 v2.2.1 (v2.2.2.1:Bool)).1).1:List (Val (.int .i64))),((((qO v1 v2.2.1 (v2.2.2.1:Bool)).1).2).1:Int),((((qO v1 v2.2.1 (v2.2.2.1:Bool)).1).2).2:Bool))]:List (Val Y83))).2:List (Val Y83))) (v2.2.2.2.2.2:List (Val (.int .i64)))) (bif (!((qal (((qaK v0 ([((((qO v1 v2.2.1 (v2.2.2.1:Bool)).1).1:List (Val (.int .i64))),((((qO v1 v2.2.1 (v2.2.2.1:Bool)).1).2).1:Int),((((qO v1 v2.2.1 (v2.2.2.1:Bool)).1).2).2:Bool))]:List (Val Y83))).1:Int),((qaK v0 ([((((qO v1 v2.2.1 (v2.2.2.1:Bool)).1).1:List (Val (.int .i64))),((((qO v1 v2.2.1 (v2.2.2.1:Bool)).1).2).1:Int),((((qO v1 v2.2.1 (v2.2.2.1:Bool)).1).2).2:Bool))]:List (Val Y83))).2:List (Val Y83))) (v2.2.2.2.2.2:List (Val (.int .i64)))):Bool))then (some (false,()))else (bif (!(v2.2.2.1:Bool))then (some ((decide (((v2.2.2.2.1:List (Val Y35)).length:Int)=(0:Int))),()))else (chk (qfv v0 (v2.2.2.2.1:List (Val Y35))) (bif ((qa0 v0 (v2.2.2.2.1:List (Val Y35))):Bool)then (chk (qaw v1 (v2.2.2.2.1:List (Val Y35))) (some ((decide (((qH v1 (v2.2.2.2.1:List (Val Y35))).1:Int)=(v2.2.1.1:Int))&&decide (((qH v1 (v2.2.2.2.1:List (Val Y35))).2:Int)=(v2.2.1.2:Int))),())))else (some (false,())))))))))))else (some (false,()))))))))
def Γ19:Gam:=[(43,g43),(66,g66),(67,g67),(68,g68),(69,g69),(70,g70),(71,g71),(72,g72),(73,g73)]
theorem qHh:Gam.get Γ19 43=some g43:=rfl
theorem qNe:Gam.get Γ19 66=some g66:=rfl
theorem qOI:Gam.get Γ19 67=some g67:=rfl
theorem qQC:Gam.get Γ19 68=some g68:=rfl
theorem qKH:Gam.get Γ19 69=some g69:=rfl
theorem qP5:Gam.get Γ19 70=some g70:=rfl
theorem qL2:Gam.get Γ19 71=some g71:=rfl
theorem qKd:Gam.get Γ19 72=some g72:=rfl
theorem qLK:Gam.get Γ19 73=some g73:=rfl
def qmE:Nm:=⟨[false,true,false,true,false,true,false,false,false,false,false,false,false,false,false,false,false,false,false,false,false,false,false,false,false,false,false,false,false,false,false,false,false,false,false,false,false,false,false,false,false,false,false,false,false,false,false,false,false,false,false,false,false,false,false,false,false,false,false,false,false,false,false,false,false,false,false,false,false,false,true],[],false⟩
theorem qFG:qmE.zero=false:=rfl
theorem qQz:qmE.fix=[]:=rfl
theorem qFQ:qmE.keep=[false,true,false,true,false,true,false,false,false,false,false,false,false,false,false,false,false,false,false,false,false,false,false,false,false,false,false,false,false,false,false,false,false,false,false,false,false,false,false,false,false,false,false,false,false,false,false,false,false,false,false,false,false,false,false,false,false,false,false,false,false,false,false,false,false,false,false,false,false,false,true]:=rfl
def qn1:Nm:=⟨[false,false,false,false,false,false,true],[],false⟩
theorem qOw:qn1.zero=false:=rfl
theorem qRx:qn1.fix=[]:=rfl
theorem qIS:qn1.keep=[false,false,false,false,false,false,true]:=rfl
def qmj:Nat→Tree:=fun i=>if i=12 then .quiet 0 (.quiet 1 (.quiet 2 (.quiet 4 (.alt 3 (.alt 5 (.alt 6 (.quiet 7 (.quiet 8 (.alt 9 (.quiet 10 (.quiet 11 .done)) .stop))) (.alt 7 (.alt 6 (.quiet 8 (.alt 9 (.quiet 10 (.quiet 11 .done)) .stop)) (.alt 8 (.alt 6 (.alt 9 (.quiet 10 (.quiet 11 .done)) .stop) .stop) .stop)) .stop)) (.alt 7 (.alt 5 (.alt 6 (.quiet 8 (.alt 9 (.quiet 10 (.quiet 11 .done)) .stop)) (.alt 8 (.alt 6 (.alt 9 (.quiet 10 (.quiet 11 .done)) .stop) .stop) .stop)) (.alt 8 (.alt 5 (.alt 6 (.alt 9 (.quiet 10 (.quiet 11 .done)) .stop) .stop) .stop) .stop)) .stop)) (.alt 5 (.quiet 3 (.alt 6 (.quiet 7 (.quiet 8 (.alt 9 (.quiet 10 (.quiet 11 .done)) .stop))) (.alt 7 (.alt 6 (.quiet 8 (.alt 9 (.quiet 10 (.quiet 11 .done)) .stop)) (.alt 8 (.alt 6 (.alt 9 (.quiet 10 (.quiet 11 .done)) .stop) .stop) .stop)) .stop))) (.alt 7 (.alt 3 (.alt 5 (.alt 6 (.quiet 8 (.alt 9 (.quiet 10 (.quiet 11 .done)) .stop)) (.alt 8 (.alt 6 (.alt 9 (.quiet 10 (.quiet 11 .done)) .stop) .stop) .stop)) (.alt 8 (.alt 5 (.alt 6 (.alt 9 (.quiet 10 (.quiet 11 .done)) .stop) .stop) .stop) .stop)) (.alt 5 (.quiet 3 (.alt 6 (.quiet 8 (.alt 9 (.quiet 10 (.quiet 11 .done)) .stop)) (.alt 8 (.alt 6 (.alt 9 (.quiet 10 (.quiet 11 .done)) .stop) .stop) .stop))) (.alt 8 (.alt 3 (.alt 5 (.alt 6 (.alt 9 (.quiet 10 (.quiet 11 .done)) .stop) .stop) .stop) (.alt 5 (.quiet 3 (.alt 6 (.alt 9 (.quiet 10 (.quiet 11 .done)) .stop) .stop)) .stop)) .stop))) .stop))))))else if i=16 then .quiet 0 (.quiet 1 (.quiet 2 (.alt 3 (.quiet 4 (.quiet 5 (.quiet 6 (.quiet 7 (.alt 8 (.quiet 9 (.quiet 10 (.quiet 11 (.quiet 12 (.quiet 13 .done))))) (.alt 9 (.alt 8 (.quiet 10 (.quiet 11 (.quiet 12 (.quiet 13 .done)))) (.alt 10 (.alt 8 (.quiet 11 (.quiet 12 (.quiet 13 .done))) .stop) .stop)) .stop)))))) .stop)))else .done
def qpY:Nat→Nm:=fun _=>⟨[],[],false⟩
def qy8:Nat→Option Jn:=fun _=>none
def qAW:Nat→Option Nm:=fun _=>none
def qv0:Nat→Option Nm:=fun i=>if i=12 then some qmE else if i=16 then some qn1 else none
theorem p19:qg qmj (Try.f19.body.getD .skip)=true:=by kernel_rfl
def T19 (N:Nat):Tab:={tr:=qmj,lp:=qpY,ex:=qAW,rg:=qv0,jn:=qy8,fuel:=N}
theorem qIp (N:Nat):(T19 N).pins=false:=rfl
theorem qIx (N:Nat):qk Try.prog (T19 N):=qn fun _=>rfl
theorem qJk (N:Nat) (i:Nat):(T19 N).tr i=qmj i:=rfl
theorem qJs (N:Nat) (i:Nat):(T19 N).lp i=qpY i:=rfl
theorem qM4 (N:Nat) (i:Nat):(T19 N).ex i=qAW i:=rfl
theorem qHo (N:Nat) (i:Nat):(T19 N).rg i=qv0 i:=rfl
theorem qQu (N:Nat) (i:Nat):(T19 N).jn i=qy8 i:=rfl
theorem qLj (N:Nat):(T19 N).fuel=N:=rfl
theorem qKx (N:Nat) (v0:Val Y26) (v1:List (Val (.int .i64))) (v2:Val Y51):qb tt Γ19 (T19 N) (Try.f19.body.getD .skip) (qh tt true [i4] [.tmp 6]) (ql [i26,i27,i51] 91 (v0,v1,v2,()))=m19 N v0 v1 v2:=by
 rw [m19];unfold Try.f19
 simp (maxSteps:=10000000) -implicitDefEqProofs [qJk,qmj,qJs,qpY,qM4,qAW,qHo,qv0,qQu,qy8,qLj,qIp,qQz,qFQ,qFG,qRx,qIS,qOw,qHh,qNe,qOI,qQC,qKH,qP5,qL2,qKd,qLK,g43,g66,g67,g68,g69,g70,g71,g72,g73]
 try rfl
def g59:G:={ps:=[i27,i32],rs:=[i35],dp:=true,pre:=fun x=>qaw x.1 x.2.1,fn:=fun x=>(qH x.1 x.2.1,())}
noncomputable def qdW (N:Nat) (v2:List (Val (.int .i64))) (v3:List (Val Y35)) (v5:Int) (v6:Int) (k0:Int→Int→Option (qa [i35])):Nat→Int→Int→Int→Option (qa [i35])
 | 0,_,_,_=>none
 | n+1,v4,v7,v8=>bif (decide (v4<(v2.length:Int)))then (bif (decide (v4<(v3.length:Int)))then (chk (0≤v4∧v4<(v2.length:Int)) (chk (0≤v4∧v4<(v3.length:Int)) (qdW N v2 v3 v5 v6 k0 n (IntKind.i64.wrap (v4+(1:Int))) ((qaF (v7,v8) (((q5 (((q7 ((v2.getD v4.toNat (qc (.int .i64))):Int)).1:Int),((q7 ((v2.getD v4.toNat (qc (.int .i64))):Int)).2:Int)) (v3.getD v4.toNat (qc Y35))).1:Int),((q5 (((q7 ((v2.getD v4.toNat (qc (.int .i64))):Int)).1:Int),((q7 ((v2.getD v4.toNat (qc (.int .i64))):Int)).2:Int)) (v3.getD v4.toNat (qc Y35))).2:Int))).1:Int) ((qaF (v7,v8) (((q5 (((q7 ((v2.getD v4.toNat (qc (.int .i64))):Int)).1:Int),((q7 ((v2.getD v4.toNat (qc (.int .i64))):Int)).2:Int)) (v3.getD v4.toNat (qc Y35))).1:Int),((q5 (((q7 ((v2.getD v4.toNat (qc (.int .i64))):Int)).1:Int),((q7 ((v2.getD v4.toNat (qc (.int .i64))):Int)).2:Int)) (v3.getD v4.toNat (qc Y35))).2:Int))).2:Int))))else (k0 v7 v8))else (k0 v7 v8)
noncomputable def m59 (N:Nat) (v0:List (Val (.int .i64))) (v1:List (Val Y35)):Option (qa [i35]):=qdW N v0 v1 (0:Int) (0:Int) (fun (v11:Int) (v12:Int)=>some ((v11,v12),())) N (0:Int) ((q7 (0:Int)).1:Int) ((q7 (0:Int)).2:Int)
def Γ59:Gam:=[(103,qbw),(104,qbJ),(105,qbE)]
theorem qxp:Gam.get Γ59 103=some qbw:=rfl
theorem qyt:Gam.get Γ59 104=some qbJ:=rfl
theorem qrv:Gam.get Γ59 105=some qbE:=rfl
def qkJ:Nm:=⟨[true,true,false,false,true,true,true],[],false⟩
theorem qsW:qkJ.zero=false:=rfl
theorem qr1:qkJ.fix=[]:=rfl
theorem qsM:qkJ.keep=[true,true,false,false,true,true,true]:=rfl
def qlB:Nm:=⟨[false,false,false,false,true,true],[],false⟩
theorem qyI:qlB.zero=false:=rfl
theorem qzJ:qlB.fix=[]:=rfl
theorem qsm:qlB.keep=[false,false,false,false,true,true]:=rfl
def qoe:Nm:=⟨[true,true,false,false,true,true,true],[],false⟩
theorem qxc:qoe.zero=false:=rfl
theorem qyN:qoe.fix=[]:=rfl
theorem qqD:qoe.keep=[true,true,false,false,true,true,true]:=rfl
def qgV:Nat→Tree:=fun i=>if i=5 then .quiet 1 (.quiet 2 (.quiet 3 (.quiet 4 (.first 6 (.first 7 (.alt 0 (.alt 5 (.quiet 8 (.quiet 9 (.alt 10 (.alt 11 (.alt 12 .done .stop) .stop) .stop))) (.alt 8 (.alt 5 (.quiet 9 (.alt 10 (.alt 11 (.alt 12 .done .stop) .stop) .stop)) (.alt 9 (.alt 5 (.alt 10 (.alt 11 (.alt 12 .done .stop) .stop) .stop) .stop) .stop)) .stop)) (.alt 5 (.quiet 8 (.quiet 9 (.alt 0 (.alt 10 (.alt 11 (.alt 12 .done .stop) .stop) .stop) (.alt 10 (.quiet 0 (.alt 11 (.alt 12 .done .stop) .stop)) .stop)))) (.alt 8 (.alt 0 (.alt 5 (.quiet 9 (.alt 10 (.alt 11 (.alt 12 .done .stop) .stop) .stop)) (.alt 9 (.alt 5 (.alt 10 (.alt 11 (.alt 12 .done .stop) .stop) .stop) .stop) .stop)) (.alt 5 (.quiet 9 (.alt 0 (.alt 10 (.alt 11 (.alt 12 .done .stop) .stop) .stop) (.alt 10 (.quiet 0 (.alt 11 (.alt 12 .done .stop) .stop)) .stop))) (.alt 9 (.alt 0 (.alt 5 (.alt 10 (.alt 11 (.alt 12 .done .stop) .stop) .stop) .stop) (.alt 5 (.alt 0 (.alt 10 (.alt 11 (.alt 12 .done .stop) .stop) .stop) (.alt 10 (.quiet 0 (.alt 11 (.alt 12 .done .stop) .stop)) .stop)) .stop)) .stop))) .stop))))))))else .done
def qjj:Nat→Nm:=fun i=>if i=3 then qkJ else ⟨[],[],false⟩
def qhw:Nat→Option Jn:=fun _=>none
def qia:Nat→Option Nm:=fun i=>if i=0 then some qlB else none
def qiO:Nat→Option Nm:=fun i=>if i=5 then some qoe else none
theorem p59:qg qgV (Try.f59.body.getD .skip)=true:=by kernel_rfl
def T59 (N:Nat):Tab:={tr:=qgV,lp:=qjj,ex:=qia,rg:=qiO,jn:=qhw,fuel:=N}
theorem qtG (N:Nat):(T59 N).pins=false:=rfl
theorem qF5 (N:Nat):qk Try.prog (T59 N):=qn fun _=>rfl
theorem qvY (N:Nat) (i:Nat):(T59 N).tr i=qgV i:=rfl
theorem qtB (N:Nat) (i:Nat):(T59 N).lp i=qjj i:=rfl
theorem qrG (N:Nat) (i:Nat):(T59 N).ex i=qia i:=rfl
theorem qzm (N:Nat) (i:Nat):(T59 N).rg i=qiO i:=rfl
theorem qwW (N:Nat) (i:Nat):(T59 N).jn i=qhw i:=rfl
theorem qpM (N:Nat):(T59 N).fuel=N:=rfl
noncomputable def qCW:Code:=cut [true,true,false,true,true,true] (Try.f59.body.getD .skip)
theorem qMj {N:Nat} {Q:X→St→Option (qa [i35])} {e:List LV} {h:List Blk}:qb tt Γ59 (T59 N) qCW Q ⟨e,h⟩=qb tt Γ59 (T59 N) (cut [true,true,false,true,true,true] (Try.f59.body.getD .skip)) Q ⟨e,h⟩:=rfl
theorem qNO (N:Nat) (v2:List (Val (.int .i64))) (v3:List (Val Y35)) (v5:Int) (v6:Int) {k0:Int→Int→Option (qa [i35])} {Q:X→St→Option (qa [i35])} {c:Code} (hc:c=qCW) (hret: ∀st,Q .ret st=qy tt true [i35] [.cell 4 35] st) (h0: ∀(v9:Int) (v10:Int),Q (.exit 0) ⟨[u,u,u,u,.one (.ptr 0 0 0),.one (.ptr 1 0 0),u,u,u,u,u,u,u,u,u,u,u,u,u,u,u,u,u,u,u,u,u,u,u,u,u,u,u],[.box [.int .i64 v5,.int .i64 v6],.box [.int .i64 v9,.int .i64 v10]]⟩=k0 v9 v10): ∀(n:Nat) (v4:Int) (v7:Int) (v8:Int),qx (qb tt Γ59 (T59 N) c) false qkJ Q n ⟨[.one (.sl 3 (.int .i64) v2 2),.one (.sl 35 Y35 v3 2),u,u,.one (.ptr 0 0 0),.one (.ptr 1 0 0),.one (.int .i64 v4),u,u,u,u,u,u,u,u,u,u,u,u,u,u,u,u,u,u,u,u,u,u,u,u,u,u],[.box [.int .i64 v5,.int .i64 v6],.box [.int .i64 v7,.int .i64 v8]]⟩=qdW N v2 v3 v5 v6 k0 n v4 v7 v8:=by
 subst hc;intro n;induction n with
 | zero=>intros;rfl
 | succ n ih=>
   intro v4 v7 v8
   rw [qI,qMj,qdW];unfold Try.f59
   simp (maxSteps:=10000000) -implicitDefEqProofs [qvY,qgV,qtB,qjj,qrG,qia,qzm,qiO,qwW,qhw,qpM,qtG,qr1,qsM,qsW,qzJ,qsm,qyI,qyN,qqD,qxc,qxp,qyt,qrv,qbw,qbJ,qbE,hret,h0,ih]
theorem qJF (N:Nat) (v0:List (Val (.int .i64))) (v1:List (Val Y35)):qb tt Γ59 (T59 N) (Try.f59.body.getD .skip) (qh tt true [i35] [.cell 4 35]) (ql [i27,i32] 33 (v0,v1,()))=m59 N v0 v1:=by
 unfold Try.f59
 simp (maxSteps:=10000000) -implicitDefEqProofs [qvY,qgV,qtB,qjj,qrG,qia,qzm,qiO,qwW,qhw,qpM,qtG,qr1,qsM,qsW,qzJ,qsm,qyI,qyN,qqD,qxc,qxp,qyt,qrv,qbw,qbJ,qbE]
 rewrite [qNO (k0:=(fun (v11:Int) (v12:Int)=>some ((v11,v12),()))) N _ _ _ _ ?_ ?_ ?_]
 ·rewrite [m59];first | rfl | simp (maxSteps:=10000000) -implicitDefEqProofs []
 ·rfl
 ·intro;simp only [qD,qE,qF,qC]
 ·intro v11 v12;simp (maxSteps:=10000000) -implicitDefEqProofs [qvY,qgV,qtB,qjj,qrG,qia,qzm,qiO,qwW,qhw,qpM,qtG,qr1,qsM,qsW,qzJ,qsm,qyI,qyN,qqD,qxc,qxp,qyt,qrv,qbw,qbJ,qbE]
def g61:G:={ps:=[i27,i35,i4],rs:=[i83,i4],dp:=true,pre:=fun x=>qmD x.1 x.2.1 x.2.2.1,fn:=fun x=>((qaB x.1 x.2.1 x.2.2.1).1,(qaB x.1 x.2.1 x.2.2.1).2,())}
noncomputable def qeq (N:Nat) (v3:List (Val (.int .i64))) (v4:Bool) (v6:Int) (v7:Int) (v8:Int) (v9:Bool) (k0:(List (Val (.int .i64)))→Option (qa [i83,i4])):Nat→Int→(List (Val (.int .i64)))→Option (qa [i83,i4])
 | 0,_,_=>none
 | n+1,v5,v10=>bif (decide (v5<(v3.length:Int)))then (chk (0≤v5∧v5<(v3.length:Int)) (chk (v10.length+([(IntKind.i64.wrap ((IntKind.i64.wrap (0 - ((v3.getD v5.toNat (qc (.int .i64))):Int)))*v7))]:List (Val (.int .i64))).length≤1048576) (qeq N v3 v4 v6 v7 v8 v9 k0 n (IntKind.i64.wrap (v5+(1:Int))) (v10++([(IntKind.i64.wrap ((IntKind.i64.wrap (0 - ((v3.getD v5.toNat (qc (.int .i64))):Int)))*v7))]:List (Val (.int .i64)))))))else (k0 v10)
noncomputable def m61 (N:Nat) (v0:List (Val (.int .i64))) (v1:Val Y35) (v2:Bool):Option (qa [i83,i4]):=qeq N v0 v2 (v1.1:Int) (v1.2:Int) (0:Int) false (fun (v12:List (Val (.int .i64)))=>chk (qfg v12 (v1.1:Int) v2) (some (((((qaz v12 (v1.1:Int) v2).1).1:List (Val (.int .i64))),((((qaz v12 (v1.1:Int) v2).1).2).1:Int),((((qaz v12 (v1.1:Int) v2).1).2).2:Bool)),((qaz v12 (v1.1:Int) v2).2:Bool),()))) N (0:Int) ([]:List (Val (.int .i64)))
def Γ61:Gam:=[(48,qf7)]
theorem qy0:Gam.get Γ61 48=some qf7:=rfl
def qhl:Nm:=⟨[true,false,true,false,true,false,true,false,true,true],[],true⟩
theorem qr6:qhl.zero=true:=rfl
theorem qzc:qhl.fix=[]:=rfl
theorem qqo:qhl.keep=[true,false,true,false,true,false,true,false,true,true]:=rfl
def qmM:Nm:=⟨[false,false,true,false,true,false,true,false,true],[],true⟩
theorem qrT:qmM.zero=true:=rfl
theorem qua:qmM.fix=[]:=rfl
theorem qq4:qmM.keep=[false,false,true,false,true,false,true,false,true]:=rfl
def qgH:Nat→Tree:=fun i=>if i=5 then .quiet 1 (.quiet 2 (.quiet 3 (.quiet 4 (.quiet 5 (.quiet 6 (.quiet 7 (.quiet 8 (.first 0 (.alt 9 (.alt 10 (.quiet 11 .done) .stop) .stop)))))))))else .done
def qjI:Nat→Nm:=fun i=>if i=3 then qhl else ⟨[],[],false⟩
def qjQ:Nat→Option Jn:=fun _=>none
def qkP:Nat→Option Nm:=fun i=>if i=0 then some qmM else none
def qii:Nat→Option Nm:=fun _=>none
theorem p61:qg qgH (Try.f61.body.getD .skip)=true:=by kernel_rfl
def T61 (N:Nat):Tab:={tr:=qgH,lp:=qjI,ex:=qkP,rg:=qii,jn:=qjQ,fuel:=N}
theorem qvc (N:Nat):(T61 N).pins=false:=rfl
theorem qMW (N:Nat):qk Try.prog (T61 N):=qn fun _=>rfl
theorem qs8 (N:Nat) (i:Nat):(T61 N).tr i=qgH i:=rfl
theorem qto (N:Nat) (i:Nat):(T61 N).lp i=qjI i:=rfl
theorem qxZ (N:Nat) (i:Nat):(T61 N).ex i=qkP i:=rfl
theorem qzj (N:Nat) (i:Nat):(T61 N).rg i=qii i:=rfl
theorem qsp (N:Nat) (i:Nat):(T61 N).jn i=qjQ i:=rfl
theorem qzS (N:Nat):(T61 N).fuel=N:=rfl
noncomputable def qBK:Code:=cut [true,true,false,true,true,true] (Try.f61.body.getD .skip)
theorem qNz {N:Nat} {Q:X→St→Option (qa [i83,i4])} {e:List LV} {h:List Blk}:qb tt Γ61 (T61 N) qBK Q ⟨e,h⟩=qb tt Γ61 (T61 N) (cut [true,true,false,true,true,true] (Try.f61.body.getD .skip)) Q ⟨e,h⟩:=rfl
theorem qKB (N:Nat) (v3:List (Val (.int .i64))) (v4:Bool) (v6:Int) (v7:Int) (v8:Int) (v9:Bool) {k0:(List (Val (.int .i64)))→Option (qa [i83,i4])} {Q:X→St→Option (qa [i83,i4])} {c:Code} (hc:c=qBK) (hret: ∀st,Q .ret st=qy tt true [i83,i4] [.cell 6 83,.tmp 7] st) (h0: ∀(v11:List (Val (.int .i64))),Q (.exit 0) ⟨[u,u,.one (.bool v4),u,.one (.ptr 0 0 0),u,.one (.ptr 1 0 0),u,.one (.own 2),u,u,u,u,u,u,u,u,u,u,u,u,u,u,u,u,u,u,u,u,u,u,u,u,u,u,u,u,u,u,u],[.box [.int .i64 v6,.int .i64 v7],.box [.nils,.int .i64 v8,.bool v9],.row 3 (.int .i64) v11 true true 0]⟩=k0 v11): ∀(n:Nat) (v5:Int) (v10:List (Val (.int .i64))),qx (qb tt Γ61 (T61 N) c) false qhl Q n ⟨[.one (.sl 3 (.int .i64) v3 0),u,.one (.bool v4),u,.one (.ptr 0 0 0),u,.one (.ptr 1 0 0),u,.one (.own 2),.one (.int .i64 v5),u,u,u,u,u,u,u,u,u,u,u,u,u,u,u,u,u,u,u,u,u,u,u,u,u,u,u,u,u,u],[.box [.int .i64 v6,.int .i64 v7],.box [.nils,.int .i64 v8,.bool v9],.row 3 (.int .i64) v10 true true 0]⟩=qeq N v3 v4 v6 v7 v8 v9 k0 n v5 v10:=by
 subst hc;intro n;induction n with
 | zero=>intros;rfl
 | succ n ih=>
   intro v5 v10
   rw [qI,qNz,qeq];unfold Try.f61
   simp (maxSteps:=10000000) -implicitDefEqProofs [qs8,qgH,qto,qjI,qxZ,qkP,qzj,qii,qsp,qjQ,qzS,qvc,qzc,qqo,qr6,qua,qq4,qrT,qy0,qf7,hret,h0,ih]
theorem qGY (N:Nat) (v0:List (Val (.int .i64))) (v1:Val Y35) (v2:Bool):qb tt Γ61 (T61 N) (Try.f61.body.getD .skip) (qh tt true [i83,i4] [.cell 6 83,.tmp 7]) (ql [i27,i35,i4] 40 (v0,v1,v2,()))=m61 N v0 v1 v2:=by
 unfold Try.f61
 simp (maxSteps:=10000000) -implicitDefEqProofs [qs8,qgH,qto,qjI,qxZ,qkP,qzj,qii,qsp,qjQ,qzS,qvc,qzc,qqo,qr6,qua,qq4,qrT,qy0,qf7]
 rewrite [qKB (k0:=(fun (v12:List (Val (.int .i64)))=>chk (qfg v12 (v1.1:Int) v2) (some (((((qaz v12 (v1.1:Int) v2).1).1:List (Val (.int .i64))),((((qaz v12 (v1.1:Int) v2).1).2).1:Int),((((qaz v12 (v1.1:Int) v2).1).2).2:Bool)),((qaz v12 (v1.1:Int) v2).2:Bool),())))) N _ _ _ _ _ _ ?_ ?_ ?_]
 ·rewrite [m61];first | rfl | simp (maxSteps:=10000000) -implicitDefEqProofs []
 ·rfl
 ·intro;simp only [qD,qE,qF,qC]
 ·intro v12;simp (maxSteps:=10000000) -implicitDefEqProofs [qs8,qgH,qto,qjI,qxZ,qkP,qzj,qii,qsp,qjQ,qzS,qvc,qzc,qqo,qr6,qua,qq4,qrT,qy0,qf7]
def g62:G:={ps:=[i26,i83],rs:=[i26],dp:=false,pre:=fun x=>qmG x.1 x.2.1,fn:=fun x=>(qnp x.1 x.2.1,())}
noncomputable def m62 (N:Nat) (v0:Val Y26) (v1:Val Y83):Option (qa [i26]):=chk (qeh v0) (chk (((cpC v0).2:List (Val Y83)).length+([v1]:List (Val Y83)).length≤1048576) (some (((v0.1:Int),(((cpC v0).2:List (Val Y83))++([v1]:List (Val Y83)))),())))
def Γ62:Gam:=[(107,qnq)]
theorem qGq:Gam.get Γ62 107=some qnq:=rfl
def qns:Nm:=⟨[false,false,false,false,true],[],false⟩
theorem qMw:qns.zero=false:=rfl
theorem qFR:qns.fix=[]:=rfl
theorem qL8:qns.keep=[false,false,false,false,true]:=rfl
def qzi:Sem:=qlO tt [(26,1,24)] (qbe)
def qou:Nat→Tree:=fun i=>if i=1 then .sem [4] (.keep 2 (.alt 0 (.alt 1 (.alt 3 (.alt 4 (.quiet 5 (.alt 6 (.alt 7 (.quiet 8 (.alt 9 .done .stop)) .stop) .stop)) (.alt 5 (.alt 4 (.alt 6 (.alt 7 (.quiet 8 (.alt 9 .done .stop)) .stop) .stop) (.alt 6 (.alt 4 (.alt 7 (.quiet 8 (.alt 9 .done .stop)) .stop) .stop) .stop)) .stop)) (.alt 5 (.alt 3 (.alt 4 (.alt 6 (.alt 7 (.quiet 8 (.alt 9 .done .stop)) .stop) .stop) (.alt 6 (.alt 4 (.alt 7 (.quiet 8 (.alt 9 .done .stop)) .stop) .stop) .stop)) (.alt 6 (.alt 3 (.alt 4 (.alt 7 (.quiet 8 (.alt 9 .done .stop)) .stop) .stop) .stop) .stop)) .stop)) (.alt 3 (.alt 1 (.alt 4 (.quiet 5 (.alt 6 (.alt 7 (.quiet 8 (.alt 9 .done .stop)) .stop) .stop)) (.alt 5 (.alt 4 (.alt 6 (.alt 7 (.quiet 8 (.alt 9 .done .stop)) .stop) .stop) (.alt 6 (.alt 4 (.alt 7 (.quiet 8 (.alt 9 .done .stop)) .stop) .stop) .stop)) .stop)) (.alt 4 (.quiet 5 (.keep 1 (.alt 6 (.alt 7 (.quiet 8 (.alt 9 .done .stop)) .stop) .stop))) (.alt 5 (.alt 1 (.alt 4 (.alt 6 (.alt 7 (.quiet 8 (.alt 9 .done .stop)) .stop) .stop) (.alt 6 (.alt 4 (.alt 7 (.quiet 8 (.alt 9 .done .stop)) .stop) .stop) .stop)) (.alt 4 (.keep 1 (.alt 6 (.alt 7 (.quiet 8 (.alt 9 .done .stop)) .stop) .stop)) (.alt 6 (.alt 1 (.alt 4 (.alt 7 (.quiet 8 (.alt 9 .done .stop)) .stop) .stop) (.alt 4 (.keep 1 (.alt 7 (.quiet 8 (.alt 9 .done .stop)) .stop)) .stop)) .stop))) .stop))) (.alt 5 (.alt 1 (.alt 3 (.alt 4 (.alt 6 (.alt 7 (.quiet 8 (.alt 9 .done .stop)) .stop) .stop) (.alt 6 (.alt 4 (.alt 7 (.quiet 8 (.alt 9 .done .stop)) .stop) .stop) .stop)) (.alt 6 (.alt 3 (.alt 4 (.alt 7 (.quiet 8 (.alt 9 .done .stop)) .stop) .stop) .stop) .stop)) (.alt 3 (.alt 1 (.alt 4 (.alt 6 (.alt 7 (.quiet 8 (.alt 9 .done .stop)) .stop) .stop) (.alt 6 (.alt 4 (.alt 7 (.quiet 8 (.alt 9 .done .stop)) .stop) .stop) .stop)) (.alt 4 (.keep 1 (.alt 6 (.alt 7 (.quiet 8 (.alt 9 .done .stop)) .stop) .stop)) (.alt 6 (.alt 1 (.alt 4 (.alt 7 (.quiet 8 (.alt 9 .done .stop)) .stop) .stop) (.alt 4 (.keep 1 (.alt 7 (.quiet 8 (.alt 9 .done .stop)) .stop)) .stop)) .stop))) (.alt 6 (.alt 1 (.alt 3 (.alt 4 (.alt 7 (.quiet 8 (.alt 9 .done .stop)) .stop) .stop) .stop) (.alt 3 (.alt 1 (.alt 4 (.alt 7 (.quiet 8 (.alt 9 .done .stop)) .stop) .stop) (.alt 4 (.keep 1 (.alt 7 (.quiet 8 (.alt 9 .done .stop)) .stop)) .stop)) .stop)) .stop))) .stop))) (.alt 3 (.alt 0 (.alt 1 (.alt 4 (.quiet 5 (.alt 6 (.alt 7 (.quiet 8 (.alt 9 .done .stop)) .stop) .stop)) (.alt 5 (.alt 4 (.alt 6 (.alt 7 (.quiet 8 (.alt 9 .done .stop)) .stop) .stop) (.alt 6 (.alt 4 (.alt 7 (.quiet 8 (.alt 9 .done .stop)) .stop) .stop) .stop)) .stop)) (.alt 4 (.quiet 5 (.keep 1 (.alt 6 (.alt 7 (.quiet 8 (.alt 9 .done .stop)) .stop) .stop))) (.alt 5 (.alt 1 (.alt 4 (.alt 6 (.alt 7 (.quiet 8 (.alt 9 .done .stop)) .stop) .stop) (.alt 6 (.alt 4 (.alt 7 (.quiet 8 (.alt 9 .done .stop)) .stop) .stop) .stop)) (.alt 4 (.keep 1 (.alt 6 (.alt 7 (.quiet 8 (.alt 9 .done .stop)) .stop) .stop)) (.alt 6 (.alt 1 (.alt 4 (.alt 7 (.quiet 8 (.alt 9 .done .stop)) .stop) .stop) (.alt 4 (.keep 1 (.alt 7 (.quiet 8 (.alt 9 .done .stop)) .stop)) .stop)) .stop))) .stop))) (.alt 4 (.quiet 5 (.keep 0 (.keep 1 (.alt 6 (.alt 7 (.quiet 8 (.alt 9 .done .stop)) .stop) .stop)))) (.alt 5 (.alt 0 (.alt 1 (.alt 4 (.alt 6 (.alt 7 (.quiet 8 (.alt 9 .done .stop)) .stop) .stop) (.alt 6 (.alt 4 (.alt 7 (.quiet 8 (.alt 9 .done .stop)) .stop) .stop) .stop)) (.alt 4 (.keep 1 (.alt 6 (.alt 7 (.quiet 8 (.alt 9 .done .stop)) .stop) .stop)) (.alt 6 (.alt 1 (.alt 4 (.alt 7 (.quiet 8 (.alt 9 .done .stop)) .stop) .stop) (.alt 4 (.keep 1 (.alt 7 (.quiet 8 (.alt 9 .done .stop)) .stop)) .stop)) .stop))) (.alt 4 (.keep 0 (.keep 1 (.alt 6 (.alt 7 (.quiet 8 (.alt 9 .done .stop)) .stop) .stop))) (.alt 6 (.alt 0 (.alt 1 (.alt 4 (.alt 7 (.quiet 8 (.alt 9 .done .stop)) .stop) .stop) (.alt 4 (.keep 1 (.alt 7 (.quiet 8 (.alt 9 .done .stop)) .stop)) .stop)) (.alt 4 (.keep 0 (.keep 1 (.alt 7 (.quiet 8 (.alt 9 .done .stop)) .stop))) .stop)) .stop))) .stop))) (.alt 5 (.alt 0 (.alt 1 (.alt 3 (.alt 4 (.alt 6 (.alt 7 (.quiet 8 (.alt 9 .done .stop)) .stop) .stop) (.alt 6 (.alt 4 (.alt 7 (.quiet 8 (.alt 9 .done .stop)) .stop) .stop) .stop)) (.alt 6 (.alt 3 (.alt 4 (.alt 7 (.quiet 8 (.alt 9 .done .stop)) .stop) .stop) .stop) .stop)) (.alt 3 (.alt 1 (.alt 4 (.alt 6 (.alt 7 (.quiet 8 (.alt 9 .done .stop)) .stop) .stop) (.alt 6 (.alt 4 (.alt 7 (.quiet 8 (.alt 9 .done .stop)) .stop) .stop) .stop)) (.alt 4 (.keep 1 (.alt 6 (.alt 7 (.quiet 8 (.alt 9 .done .stop)) .stop) .stop)) (.alt 6 (.alt 1 (.alt 4 (.alt 7 (.quiet 8 (.alt 9 .done .stop)) .stop) .stop) (.alt 4 (.keep 1 (.alt 7 (.quiet 8 (.alt 9 .done .stop)) .stop)) .stop)) .stop))) (.alt 6 (.alt 1 (.alt 3 (.alt 4 (.alt 7 (.quiet 8 (.alt 9 .done .stop)) .stop) .stop) .stop) (.alt 3 (.alt 1 (.alt 4 (.alt 7 (.quiet 8 (.alt 9 .done .stop)) .stop) .stop) (.alt 4 (.keep 1 (.alt 7 (.quiet 8 (.alt 9 .done .stop)) .stop)) .stop)) .stop)) .stop))) (.alt 3 (.alt 0 (.alt 1 (.alt 4 (.alt 6 (.alt 7 (.quiet 8 (.alt 9 .done .stop)) .stop) .stop) (.alt 6 (.alt 4 (.alt 7 (.quiet 8 (.alt 9 .done .stop)) .stop) .stop) .stop)) (.alt 4 (.keep 1 (.alt 6 (.alt 7 (.quiet 8 (.alt 9 .done .stop)) .stop) .stop)) (.alt 6 (.alt 1 (.alt 4 (.alt 7 (.quiet 8 (.alt 9 .done .stop)) .stop) .stop) (.alt 4 (.keep 1 (.alt 7 (.quiet 8 (.alt 9 .done .stop)) .stop)) .stop)) .stop))) (.alt 4 (.keep 0 (.keep 1 (.alt 6 (.alt 7 (.quiet 8 (.alt 9 .done .stop)) .stop) .stop))) (.alt 6 (.alt 0 (.alt 1 (.alt 4 (.alt 7 (.quiet 8 (.alt 9 .done .stop)) .stop) .stop) (.alt 4 (.keep 1 (.alt 7 (.quiet 8 (.alt 9 .done .stop)) .stop)) .stop)) (.alt 4 (.keep 0 (.keep 1 (.alt 7 (.quiet 8 (.alt 9 .done .stop)) .stop))) .stop)) .stop))) (.alt 6 (.alt 0 (.alt 1 (.alt 3 (.alt 4 (.alt 7 (.quiet 8 (.alt 9 .done .stop)) .stop) .stop) .stop) (.alt 3 (.alt 1 (.alt 4 (.alt 7 (.quiet 8 (.alt 9 .done .stop)) .stop) .stop) (.alt 4 (.keep 1 (.alt 7 (.quiet 8 (.alt 9 .done .stop)) .stop)) .stop)) .stop)) (.alt 3 (.alt 0 (.alt 1 (.alt 4 (.alt 7 (.quiet 8 (.alt 9 .done .stop)) .stop) .stop) (.alt 4 (.keep 1 (.alt 7 (.quiet 8 (.alt 9 .done .stop)) .stop)) .stop)) (.alt 4 (.keep 0 (.keep 1 (.alt 7 (.quiet 8 (.alt 9 .done .stop)) .stop))) .stop)) .stop)) .stop))) .stop))))else .done
def qAd:Nat→Nm:=fun _=>⟨[],[],false⟩
def qpH:Nat→Option Jn:=fun _=>none
def qup:Nat→Option Nm:=fun _=>none
def qAc:Nat→Option Nm:=fun i=>if i=1 then some qns else none
theorem p62:qg qou (Try.f62.body.getD .skip)=true:=by kernel_rfl
def T62 (N:Nat):Tab:={tr:=qou,lp:=qAd,ex:=qup,rg:=qAc,jn:=qpH,fuel:=N,sem:=qzi}
theorem qPU (N:Nat):(T62 N).pins=false:=rfl
theorem qKm (N:Nat):qk Try.prog (T62 N):=qn fun _=>rfl
theorem qJV (N:Nat):(T62 N).sem=qzi:=rfl
theorem qGw (N:Nat) (i:Nat):(T62 N).tr i=qou i:=rfl
theorem qLX (N:Nat) (i:Nat):(T62 N).lp i=qAd i:=rfl
theorem qOb (N:Nat) (i:Nat):(T62 N).ex i=qup i:=rfl
theorem qPH (N:Nat) (i:Nat):(T62 N).rg i=qAc i:=rfl
theorem qOZ (N:Nat) (i:Nat):(T62 N).jn i=qpH i:=rfl
theorem qJ4 (N:Nat):(T62 N).fuel=N:=rfl
theorem qR7 (N:Nat) (v0:Val Y26) (v1:Val Y83):qb tt Γ62 (T62 N) (Try.f62.body.getD .skip) (qh tt false [i26] [.cell 4 26]) (ql [i26,i83] 14 (v0,v1,()))=m62 N v0 v1:=by
 rw [m62];unfold Try.f62
 simp (maxSteps:=10000000) -implicitDefEqProofs [qGw,qou,qLX,qAd,qOb,qup,qPH,qAc,qOZ,qpH,qJ4,qPU,qJV,qzi,qNF,qFR,qL8,qMw,qGq,qnq]
 try rfl
def g15:G:={ps:=[i26,i27,i51],rs:=[i4],dp:=true,pre:=fun x=>qeT x.1 x.2.1 x.2.2.1,fn:=fun x=>(qdl x.1 x.2.1 x.2.2.1,())}
noncomputable def qfd (N:Nat) (v3:List (Val (.int .i64))) (v5:Int) (v6:List (Val Y83)) (v7:Int) (v8:Int) (v9:Int) (v10:Bool) (v11:List (Val Y35)) (v12:List (Val Y35)) (v13:List (Val (.int .i64))) (k1:Unit→Option (qa [i4])):Nat→Int→Option (qa [i4])
 | 0,_=>none
 | n+1,v4=>bif (decide (v4<(v6.length:Int)))then (chk (0≤v4∧v4<(v6.length:Int)) (chk (qaw ((v6.getD v4.toNat (qc Y83)).1:List (Val (.int .i64))) v12) (bif (!((qo (((qH ((v6.getD v4.toNat (qc Y83)).1:List (Val (.int .i64))) v12).1:Int),((qH ((v6.getD v4.toNat (qc Y83)).1:List (Val (.int .i64))) v12).2:Int))):Bool))then (some (false,()))else (bif (decide ((0:Int)<((qH ((v6.getD v4.toNat (qc Y83)).1:List (Val (.int .i64))) v12).1:Int)))then (some (false,()))else (qfd N v3 v5 v6 v7 v8 v9 v10 v11 v12 v13 k1 n (IntKind.i64.wrap (v4+(1:Int))))))))else (k1 ())
noncomputable def m15 (N:Nat) (v0:Val Y26) (v1:List (Val (.int .i64))) (v2:Val Y51):Option (qa [i4]):=chk (qca v0) (bif (!((qS v0):Bool))then (some (false,()))else (chk (qoW v1 (v0.1:Int)) (bif (!((qgG v1 (v0.1:Int)):Bool))then (some (false,()))else (bif (decide ((v2.1:Int)=(1:Int)))then (chk (qa9 v0 (v2.2.2.2.2.2:List (Val (.int .i64)))) (some (((qal v0 (v2.2.2.2.2.2:List (Val (.int .i64)))):Bool),())))else (bif (decide ((v2.1:Int)=(2:Int)))then (chk (qbH v0 (v2.2.2.2.1:List (Val Y35))) (bif (!((inV v0 (v2.2.2.2.1:List (Val Y35))).2:Bool))then (some (false,()))else (bif (!((inV v0 (v2.2.2.2.1:List (Val Y35))).1:Bool))then (some (false,()))else (chk (qaL (v2.2.2.2.2.1:List (Val Y35)) (v0.1:Int)) (bif (!((q6 (v2.2.2.2.2.1:List (Val Y35)) (v0.1:Int)):Bool))then (some (false,()))else (qfd N v1 (v0.1:Int) (v0.2:List (Val Y83)) (v2.1:Int) (v2.2.1.1:Int) (v2.2.1.2:Int) (v2.2.2.1:Bool) (v2.2.2.2.1:List (Val Y35)) (v2.2.2.2.2.1:List (Val Y35)) (v2.2.2.2.2.2:List (Val (.int .i64))) (fun (_:Unit)=>chk (qaw v1 (v2.2.2.2.2.1:List (Val Y35))) (bif ((qo (((qH v1 (v2.2.2.2.2.1:List (Val Y35))).1:Int),((qH v1 (v2.2.2.2.2.1:List (Val Y35))).2:Int))):Bool)then (some ((decide ((0:Int)<((qH v1 (v2.2.2.2.2.1:List (Val Y35))).1:Int))),()))else (some (false,())))) N (0:Int)))))))else (bif (decide ((v2.1:Int)=(0:Int)))then (chk (qmD v1 v2.2.1 (v2.2.2.1:Bool)) (bif (!((qaB v1 v2.2.1 (v2.2.2.1:Bool)).2:Bool))then (some (false,()))else (bif (!((qo v2.2.1):Bool))then (some (false,()))else (chk (qmG v0 ((((qaB v1 v2.2.1 (v2.2.2.1:Bool)).1).1:List (Val (.int .i64))),((((qaB v1 v2.2.1 (v2.2.2.1:Bool)).1).2).1:Int),((((qaB v1 v2.2.1 (v2.2.2.1:Bool)).1).2).2:Bool))) (chk (qa9 (qnp v0 ((((qaB v1 v2.2.1 (v2.2.2.1:Bool)).1).1:List (Val (.int .i64))),((((qaB v1 v2.2.1 (v2.2.2.1:Bool)).1).2).1:Int),((((qaB v1 v2.2.1 (v2.2.2.1:Bool)).1).2).2:Bool))) (v2.2.2.2.2.2:List (Val (.int .i64)))) (bif (!((qal (qnp v0 ((((qaB v1 v2.2.1 (v2.2.2.1:Bool)).1).1:List (Val (.int .i64))),((((qaB v1 v2.2.1 (v2.2.2.1:Bool)).1).2).1:Int),((((qaB v1 v2.2.1 (v2.2.2.1:Bool)).1).2).2:Bool))) (v2.2.2.2.2.2:List (Val (.int .i64)))):Bool))then (some (false,()))else (chk (qbH v0 (v2.2.2.2.1:List (Val Y35))) (bif (!(v2.2.2.1:Bool))then (bif (decide (((v2.2.2.2.1:List (Val Y35)).length:Int)=(0:Int)))then (some (true,()))else (bif (v2.2.2.1:Bool)then (bif ((inV v0 (v2.2.2.2.1:List (Val Y35))).2:Bool)then (bif ((inV v0 (v2.2.2.2.1:List (Val Y35))).1:Bool)then (chk (qaw v1 (v2.2.2.2.1:List (Val Y35))) (some ((decide (((qH v1 (v2.2.2.2.1:List (Val Y35))).1:Int)=(v2.2.1.1:Int))&&decide (((qH v1 (v2.2.2.2.1:List (Val Y35))).2:Int)=(v2.2.1.2:Int))),())))else (some (false,())))else (some (false,())))else (some (false,()))))else (bif (v2.2.2.1:Bool)then (bif ((inV v0 (v2.2.2.2.1:List (Val Y35))).2:Bool)then (bif ((inV v0 (v2.2.2.2.1:List (Val Y35))).1:Bool)then (chk (qaw v1 (v2.2.2.2.1:List (Val Y35))) (some ((decide (((qH v1 (v2.2.2.2.1:List (Val Y35))).1:Int)=(v2.2.1.1:Int))&&decide (((qH v1 (v2.2.2.2.1:List (Val Y35))).2:Int)=(v2.2.1.2:Int))),())))else (some (false,())))else (some (false,())))else (some (false,())))))))))))else (some (false,()))))))))
def Γ15:Gam:=[(46,g46),(55,g55),(56,g56),(57,g57),(58,g58),(59,g59),(60,g60),(61,g61),(62,g62)]
theorem qy3:Gam.get Γ15 46=some g46:=rfl
theorem qAA:Gam.get Γ15 55=some g55:=rfl
theorem qvh:Gam.get Γ15 56=some g56:=rfl
theorem qux:Gam.get Γ15 57=some g57:=rfl
theorem qAf:Gam.get Γ15 58=some g58:=rfl
theorem qwR:Gam.get Γ15 59=some g59:=rfl
theorem qz1:Gam.get Γ15 60=some g60:=rfl
theorem qvm:Gam.get Γ15 61=some g61:=rfl
theorem qBo:Gam.get Γ15 62=some g62:=rfl
def qk4:Nm:=⟨[false,true,false,true,false,true,false,false,false,true],[],false⟩
theorem qq9:qk4.zero=false:=rfl
theorem qBk:qk4.fix=[]:=rfl
theorem qui:qk4.keep=[false,true,false,true,false,true,false,false,false,true]:=rfl
def qoi:Nm:=⟨[false,true,false,false,false,true],[],false⟩
theorem qz2:qoi.zero=false:=rfl
theorem qyV:qoi.fix=[]:=rfl
theorem qAp:qoi.keep=[false,true,false,false,false,true]:=rfl
def qm7:Nm:=⟨[false,true,false,true,false,true,false,false,false,true,true],[],false⟩
theorem qyT:qm7.zero=false:=rfl
theorem qw8:qm7.fix=[]:=rfl
theorem qsA:qm7.keep=[false,true,false,true,false,true,false,false,false,true,true]:=rfl
def qnn:Nm:=⟨[false,true,false,true,false,true,false,false,false,false,false,false,false,false,false,false,false,false,false,false,false,false,false,false,false,false,false,false,false,false,false,false,false,false,false,false,false,false,false,false,false,false,false,false,false,false,false,false,false,false,false,false,false,false,false,false,false,false,false,false,false,false,false,false,false,false,false,false,false,false,false,false,false,false,false,false,false,false,false,false,false,false,false,false,false,false,false,false,false,false,false,false,false,false,false,false,false,false,false,false,false,false,false,false,false,false,false,false,false,false,false,false,false,false,false,false,false,false,false,true],[],false⟩
theorem qs9:qnn.zero=false:=rfl
theorem qzD:qnn.fix=[]:=rfl
theorem qpN:qnn.keep=[false,true,false,true,false,true,false,false,false,false,false,false,false,false,false,false,false,false,false,false,false,false,false,false,false,false,false,false,false,false,false,false,false,false,false,false,false,false,false,false,false,false,false,false,false,false,false,false,false,false,false,false,false,false,false,false,false,false,false,false,false,false,false,false,false,false,false,false,false,false,false,false,false,false,false,false,false,false,false,false,false,false,false,false,false,false,false,false,false,false,false,false,false,false,false,false,false,false,false,false,false,false,false,false,false,false,false,false,false,false,false,false,false,false,false,false,false,false,false,true]:=rfl
def qpe:Nm:=⟨[false,false,false,false,false,false,true],[],false⟩
theorem qqM:qpe.zero=false:=rfl
theorem qro:qpe.fix=[]:=rfl
theorem qzO:qpe.keep=[false,false,false,false,false,false,true]:=rfl
def qgk:Nat→Tree:=fun i=>if i=13 then .first 2 (.grow 0 (.grow 1 (.grow 3 (.grow 4 (.grow 5 (.grow 6 (.grow 7 (.alt 8 (.alt 9 (.alt 10 .done .stop) .stop) (.alt 9 (.alt 8 (.alt 10 .done .stop) .stop) .stop)))))))))else if i=20 then .quiet 0 (.quiet 1 (.quiet 2 (.quiet 3 (.quiet 4 (.alt 5 (.quiet 6 (.quiet 7 (.quiet 8 (.quiet 9 (.quiet 10 (.alt 11 (.quiet 12 (.quiet 13 (.alt 14 (.quiet 15 (.quiet 16 .done)) .stop))) (.alt 12 (.alt 11 (.quiet 13 (.alt 14 (.quiet 15 (.quiet 16 .done)) .stop)) (.alt 13 (.alt 11 (.alt 14 (.quiet 15 (.quiet 16 .done)) .stop) .stop) .stop)) .stop))))))) .stop)))))else if i=23 then .quiet 0 (.quiet 1 (.quiet 2 (.quiet 3 (.quiet 4 (.quiet 5 (.quiet 6 (.quiet 7 (.quiet 8 (.quiet 9 (.quiet 10 (.quiet 11 (.quiet 12 (.quiet 13 (.quiet 14 (.quiet 15 (.quiet 16 (.quiet 17 (.quiet 18 (.quiet 19 (.quiet 20 (.quiet 21 (.alt 22 (.quiet 23 (.quiet 24 (.quiet 25 (.quiet 26 (.quiet 27 (.quiet 28 .done)))))) (.alt 23 (.alt 22 (.quiet 24 (.quiet 25 (.quiet 26 (.quiet 27 (.quiet 28 .done))))) (.alt 24 (.alt 22 (.quiet 25 (.quiet 26 (.quiet 27 (.quiet 28 .done)))) .stop) .stop)) .stop)))))))))))))))))))))))else .done
def qi6:Nat→Nm:=fun i=>if i=11 then qk4 else ⟨[],[],false⟩
def qk8:Nat→Option Jn:=fun _=>none
def qkS:Nat→Option Nm:=fun i=>if i=1 then some qoi else none
def qj7:Nat→Option Nm:=fun i=>if i=13 then some qm7 else if i=20 then some qnn else if i=23 then some qpe else none
theorem p15:qg qgk (Try.f15.body.getD .skip)=true:=by kernel_rfl
def T15 (N:Nat):Tab:={tr:=qgk,lp:=qi6,ex:=qkS,rg:=qj7,jn:=qk8,fuel:=N}
theorem quW (N:Nat):(T15 N).pins=false:=rfl
theorem qIe (N:Nat):qk Try.prog (T15 N):=qn fun _=>rfl
theorem qwk (N:Nat) (i:Nat):(T15 N).tr i=qgk i:=rfl
theorem quL (N:Nat) (i:Nat):(T15 N).lp i=qi6 i:=rfl
theorem qxK (N:Nat) (i:Nat):(T15 N).ex i=qkS i:=rfl
theorem qry (N:Nat) (i:Nat):(T15 N).rg i=qj7 i:=rfl
theorem qx0 (N:Nat) (i:Nat):(T15 N).jn i=qk8 i:=rfl
theorem qva (N:Nat):(T15 N).fuel=N:=rfl
noncomputable def qFj:Code:=cut [true,true,false,true,true,true,true,true,false,true,true,false,true,true,true] (Try.f15.body.getD .skip)
theorem qHk {N:Nat} {Q:X→St→Option (qa [i4])} {e:List LV} {h:List Blk}:qb tt Γ15 (T15 N) qFj Q ⟨e,h⟩=qb tt Γ15 (T15 N) (cut [true,true,false,true,true,true,true,true,false,true,true,false,true,true,true] (Try.f15.body.getD .skip)) Q ⟨e,h⟩:=rfl
theorem qGN (N:Nat) (v3:List (Val (.int .i64))) (v5:Int) (v6:List (Val Y83)) (v7:Int) (v8:Int) (v9:Int) (v10:Bool) (v11:List (Val Y35)) (v12:List (Val Y35)) (v13:List (Val (.int .i64))) {k1:Unit→Option (qa [i4])} {Q:X→St→Option (qa [i4])} {c:Code} (hc:c=qFj) (hret: ∀st,Q .ret st=qy tt true [i4] [.tmp 6] st) (h1:Q (.exit 1) ⟨[u,.one (.sl 3 (.int .i64) v3 1),u,u,u,.one (.ptr 0 0 0),u,u,u,u,u,u,u,u,u,u,u,u,u,u,u,u,u,u,u,u,u,u,u,u,u,u,u,u,u,u,u,u,u,u,u,u,u,u,u,u,u,u,u,u,u,u,u,u,u,u,u,u,u,u,u,u,u,u,u,u,u,u,u,u,u,u,u,u,u,u,u,u,u,u,u,u,u,u,u,u,u,u,u,u,u,u,u,u,u,u,u,u,u,u,u,u,u,u,u,u,u,u,u,u,u,u,u,u,u,u,u,u,u,u,u,u,u,u,u,u,u,u,u,u,u,u,u,u,u,u,u,u,u,u,u,u,u,u,u,u,u,u,u,u,u,u,u,u,u],[.box [.int .i64 v7,.int .i64 v8,.int .i64 v9,.bool v10,.sl 35 Y35 v11 1,.sl 35 Y35 v12 1,.sl 3 (.int .i64) v13 1]]⟩=k1 ()): ∀(n:Nat) (v4:Int),qx (qb tt Γ15 (T15 N) c) false qk4 Q n ⟨[u,.one (.sl 3 (.int .i64) v3 2),u,.one (.ptr 0 0 0),u,.one (.ptr 1 0 0),u,u,u,.one (.int .i64 v4),u,u,u,u,u,u,u,u,u,u,u,u,u,u,u,u,u,u,u,u,u,u,u,u,u,u,u,u,u,u,u,u,u,u,u,u,u,u,u,u,u,u,u,u,u,u,u,u,u,u,u,u,u,u,u,u,u,u,u,u,u,u,u,u,u,u,u,u,u,u,u,u,u,u,u,u,u,u,u,u,u,u,u,u,u,u,u,u,u,u,u,u,u,u,u,u,u,u,u,u,u,u,u,u,u,u,u,u,u,u,u,u,u,u,u,u,u,u,u,u,u,u,u,u,u,u,u,u,u,u,u,u,u,u,u,u,u,u,u,u,u,u,u,u,u],[.box [.int .i64 v5,.sl 83 Y83 v6 2],.box [.int .i64 v7,.int .i64 v8,.int .i64 v9,.bool v10,.sl 35 Y35 v11 2,.sl 35 Y35 v12 2,.sl 3 (.int .i64) v13 2]]⟩=qfd N v3 v5 v6 v7 v8 v9 v10 v11 v12 v13 k1 n v4:=by
 subst hc;intro n;induction n with
 | zero=>intros;rfl
 | succ n ih=>
   intro v4
   rw [qI,qHk,qfd];unfold Try.f15
   simp (maxSteps:=10000000) -implicitDefEqProofs [qwk,qgk,quL,qi6,qxK,qkS,qry,qj7,qx0,qk8,qva,quW,qBk,qui,qq9,qyV,qAp,qz2,qw8,qsA,qyT,qzD,qpN,qs9,qro,qzO,qqM,qy3,qAA,qvh,qux,qAf,qwR,qz1,qvm,qBo,g46,g55,g56,g57,g58,g59,g60,g61,g62,hret,h1,ih]
theorem qMS (N:Nat) (v0:Val Y26) (v1:List (Val (.int .i64))) (v2:Val Y51):qb tt Γ15 (T15 N) (Try.f15.body.getD .skip) (qh tt true [i4] [.tmp 6]) (ql [i26,i27,i51] 155 (v0,v1,v2,()))=m15 N v0 v1 v2:=by
 unfold Try.f15
 simp (maxSteps:=10000000) -implicitDefEqProofs [qwk,qgk,quL,qi6,qxK,qkS,qry,qj7,qx0,qk8,qva,quW,qBk,qui,qq9,qyV,qAp,qz2,qw8,qsA,qyT,qzD,qpN,qs9,qro,qzO,qqM,qy3,qAA,qvh,qux,qAf,qwR,qz1,qvm,qBo,g46,g55,g56,g57,g58,g59,g60,g61,g62]
 rewrite [qGN (k1:=(fun (_:Unit)=>chk (qaw v1 (v2.2.2.2.2.1:List (Val Y35))) (bif ((qo (((qH v1 (v2.2.2.2.2.1:List (Val Y35))).1:Int),((qH v1 (v2.2.2.2.2.1:List (Val Y35))).2:Int))):Bool)then (some ((decide ((0:Int)<((qH v1 (v2.2.2.2.2.1:List (Val Y35))).1:Int))),()))else (some (false,()))))) N _ _ _ _ _ _ _ _ _ _ ?_ ?_ ?_]
 ·rewrite [m15];first | rfl | simp (maxSteps:=10000000) -implicitDefEqProofs []
 ·rfl
 ·intro;simp only [qD,qE,qF,qC]
 ·simp (maxSteps:=10000000) -implicitDefEqProofs [qwk,qgk,quL,qi6,qxK,qkS,qry,qj7,qx0,qk8,qva,quW,qBk,qui,qq9,qyV,qAp,qz2,qw8,qsA,qyT,qzD,qpN,qs9,qro,qzO,qqM,qy3,qAA,qvh,qux,qAf,qwR,qz1,qvm,qBo,g46,g55,g56,g57,g58,g59,g60,g61,g62]
end Go.T
