/- Sizes, copies and equality of regions. -/
import Derived.Test.YthefcjjgchekiaaGreatA1
set_option linter.unusedSimpArgs false
set_option linter.unusedVariables false
namespace Go.T
open Go Go.Proofs
set_option maxHeartbeats 4000000
set_option maxRecDepth 100000
def qif (x:List (Val (.int .i64))) (n:Int):Int:=szV (.slice 3 (.int .i64)) x n
def qCR (x:List (Val (.int .i64))) (n:Int):Prop:=qiE (.slice 3 (.int .i64)) x n
noncomputable def qAV (N:Nat) (v0:List (Val (.int .i64))) (v1:Int):Option (qc [i3]):=bif (decide ((IntKind.i64.wrap (v1 - (v0.length:Int)))<(0:Int)))then (some ((-1:Int),()))else (some ((IntKind.i64.wrap (v1 - (v0.length:Int))),()))
def q2P:Gam:=[]
def qxG:Nat→Tree:=fun _=> .done
def qNE:Nat→Nm:=fun _=>⟨[],[],false⟩
def qGJ:Nat→Option Jn:=fun _=>none
def qFi:Nat→Option Nm:=fun _=>none
def qJZ:Nat→Option Nm:=fun _=>none
theorem ziZ:qn qxG (Tryz.f176.body.getD .skip)=true:=by kernel_rfl
def qfM (N:Nat):Tab:={tr:=qxG,lp:=qNE,ex:=qFi,rg:=qJZ,jn:=qGJ,fuel:=N}
theorem zcp (N:Nat):(qfM N).pins=false:=rfl
theorem q6I (N:Nat):qp Tryz.prog (qfM N):=qv fun _=>rfl
theorem zcQ (N:Nat) (i:Nat):(qfM N).tr i=qxG i:=rfl
theorem zlh (N:Nat) (i:Nat):(qfM N).lp i=qNE i:=rfl
theorem zaP (N:Nat) (i:Nat):(qfM N).ex i=qFi i:=rfl
theorem ziL (N:Nat) (i:Nat):(qfM N).rg i=qJZ i:=rfl
theorem zmb (N:Nat) (i:Nat):(qfM N).jn i=qGJ i:=rfl
theorem zqY (N:Nat):(qfM N).fuel=N:=rfl
theorem q7j (N:Nat) (v0:List (Val (.int .i64))) (v1:Int):qe tt q2P (qfM N) (Tryz.f176.body.getD .skip) (qt tt true [i3] [.tmp 4]) (qw [i25,i3] 12 (v0,v1,()))=qAV N v0 v1:=by
 rw [qAV];unfold Tryz.f176
 simp (maxSteps:=10000000) -implicitDefEqProofs [zcQ,qxG,zlh,qNE,zaP,qFi,ziL,qJZ,zmb,qGJ,zqY,zcp]
 try rfl
def qCN:G:={ps:=[i25,i3],rs:=[i3],dp:=true,pre:=fun x=>qCR x.1 x.2.1,fn:=fun x=>(qif x.1 x.2.1,())}
theorem zbh (x:List (Val (.int .i64))) (n:Int) (h:qCR x n): ∃N,qAV N x n=some (qif x n,()):=⟨0,by
 obtain ⟨hs,h0,h1⟩:=h
 rw [qAV,qB7 h0 h1 hs.1]
 simp only [qif,qxy]
 by_cases c:n - (List.length x:Int)<0
 ·rw [qk c,if_pos c]
 ·rw [qj c,if_neg c,zm4 (fun _ _=>rfl) _ _ (by omega)]⟩
theorem zcl:Sound Tryz.prog 176 qCN:=qx (tt:=tt) (Γ:=q2P) hT qu hm (fn:=Tryz.f176) Tryz.func176 (c:=Tryz.f176.body.getD .skip) (by kernel_rfl) (by kernel_rfl) fun x hx=>by
 obtain ⟨N,h⟩:=zbh x.1 x.2.1 hx
 exact ⟨qfM N,ziZ,qy _,q6I N,(q7j N x.1 x.2.1).trans h⟩
def qlh (x:Val q7) (n:Int):Int:=szV q7 x n
def qCF (x:Val q7) (n:Int):Prop:=qiE q7 x n
noncomputable def qyk (N:Nat) (v0:Val q7) (v1:Int):Option (qc [i3]):=chk (qCR (v0.1:List (Val (.int .i64))) v1) (bif (decide (((qif (v0.1:List (Val (.int .i64))) v1):Int)<(0:Int)))then (some ((-1:Int),()))else (some (((qif (v0.1:List (Val (.int .i64))) v1):Int),())))
def qTS:Gam:=[(176,qCN)]
theorem q6D:Gam.get qTS 176=some qCN:=rfl
def qCL:Nat→Tree:=fun _=> .done
def qGo:Nat→Nm:=fun _=>⟨[],[],false⟩
def qXN:Nat→Option Jn:=fun _=>none
def qJG:Nat→Option Nm:=fun _=>none
def qOw:Nat→Option Nm:=fun _=>none
theorem zfF:qn qCL (Tryz.f175.body.getD .skip)=true:=by kernel_rfl
def qfc (N:Nat):Tab:={tr:=qCL,lp:=qGo,ex:=qJG,rg:=qOw,jn:=qXN,fuel:=N}
theorem zrc (N:Nat):(qfc N).pins=false:=rfl
theorem q9n (N:Nat):qp Tryz.prog (qfc N):=qv fun _=>rfl
theorem zdf (N:Nat) (i:Nat):(qfc N).tr i=qCL i:=rfl
theorem zf6 (N:Nat) (i:Nat):(qfc N).lp i=qGo i:=rfl
theorem zkA (N:Nat) (i:Nat):(qfc N).ex i=qJG i:=rfl
theorem znR (N:Nat) (i:Nat):(qfc N).rg i=qOw i:=rfl
theorem zcO (N:Nat) (i:Nat):(qfc N).jn i=qXN i:=rfl
theorem zob (N:Nat):(qfc N).fuel=N:=rfl
theorem zow (N:Nat) (v0:Val q7) (v1:Int):qe tt qTS (qfc N) (Tryz.f175.body.getD .skip) (qt tt true [i3] [.tmp 4]) (qw [qig,i3] 12 (v0,v1,()))=qyk N v0 v1:=by
 rw [qyk];unfold Tryz.f175
 simp (maxSteps:=10000000) -implicitDefEqProofs [zdf,qCL,zf6,qGo,zkA,qJG,znR,qOw,zcO,qXN,zob,zrc,q6D,qCN]
 try rfl
def qnu:G:={ps:=[qig,i3],rs:=[i3],dp:=true,pre:=fun x=>qCF x.1 x.2.1,fn:=fun x=>(qlh x.1 x.2.1,())}
theorem zjt (x:Val q7) (n:Int) (h:qCF x n): ∃N,qyk N x n=some (qlh x n,()):=⟨0,by
 obtain ⟨x0,x1,x2⟩:=x
 obtain ⟨hs,h0,h1⟩:=h
 obtain ⟨s0,s1,s2⟩:=hs
 rw [qyk,qlh]
 dsimp only
 rw [qd (show qCR x0 n from ⟨s0,h0,h1⟩)]
 by_cases c0:qif x0 n<0
 ·rw [qk c0,q6v (show szV (.slice 3 (.int .i64)) x0 n<0 from c0)]
 ·have h00:0≤qif x0 n:=by omega
  have h10:qif x0 n≤1048576:=Int.le_trans (qc0 (.slice 3 (.int .i64)) x0 n h0).1 h1
  rw [qj c0,zdE (show 0≤szV (.slice 3 (.int .i64)) x0 n from h00)]
  change _=some (szV (.pair (.int .i64) .bool) _ (qif x0 n),())
  rw [qyY h00]
  rfl⟩
theorem zpH:Sound Tryz.prog 175 qnu:=qx (tt:=tt) (Γ:=qTS) hT (qg zcl qu) hm (fn:=Tryz.f175) Tryz.func175 (c:=Tryz.f175.body.getD .skip) (by kernel_rfl) (by kernel_rfl) fun x hx=>by
 obtain ⟨N,h⟩:=zjt x.1 x.2.1 hx
 exact ⟨qfc N,zfF,qy _,q9n N,(zow N x.1 x.2.1).trans h⟩
def qni (x:List (Val q7)) (n:Int):Int:=szV (.slice 101 q7) x n
def qxt (x:List (Val q7)) (n:Int):Prop:=qiE (.slice 101 q7) x n
noncomputable def qlt (N:Nat) (v2:List (Val q7)) (k0:Int→Option (qc [i3])):Nat→Int→Int→Option (qc [i3])
 | 0,_,_=>none
 | n+1,v3,v4=>bif (decide (v4<(v2.length:Int)))then (chk (0≤v4∧v4<(v2.length:Int)) (chk (qCF (v2.getD v4.toNat (qb q7)) v3) (bif (decide (((qlh (v2.getD v4.toNat (qb q7)) v3):Int)<(0:Int)))then (some ((-1:Int),()))else (qlt N v2 k0 n ((qlh (v2.getD v4.toNat (qb q7)) v3):Int) (IntKind.i64.wrap (v4+(1:Int)))))))else (k0 v3)
noncomputable def qzY (N:Nat) (v0:List (Val q7)) (v1:Int):Option (qc [i3]):=bif (decide ((IntKind.i64.wrap (v1 - (v0.length:Int)))<(0:Int)))then (some ((-1:Int),()))else (qlt N v0 (fun (v6:Int)=>some (v6,())) N (IntKind.i64.wrap (v1 - (v0.length:Int))) (0:Int))
def qm7:Gam:=[(175,qnu)]
theorem qH2:Gam.get qm7 175=some qnu:=rfl
def qrD:Nm:=⟨[true,true,false,false,false,true],[],false⟩
theorem qVd:qrD.zero=false:=rfl
theorem qWE:qrD.fix=[]:=rfl
theorem qMb:qrD.keep=[true,true,false,false,false,true]:=rfl
def qzX:Nm:=⟨[false,true],[],false⟩
theorem qUc:qzX.zero=false:=rfl
theorem qFg:qzX.fix=[]:=rfl
theorem qWF:qzX.keep=[false,true]:=rfl
def qou:Nat→Tree:=fun _=> .done
def qs6:Nat→Nm:=fun i=>if i=5 then qrD else ⟨[],[],false⟩
def qpH:Nat→Option Jn:=fun _=>none
def qsp:Nat→Option Nm:=fun i=>if i=0 then some qzX else none
def quI:Nat→Option Nm:=fun _=>none
theorem zfL:qn qou (Tryz.f103.body.getD .skip)=true:=by kernel_rfl
def qdv (N:Nat):Tab:={tr:=qou,lp:=qs6,ex:=qsp,rg:=quI,jn:=qpH,fuel:=N}
theorem qLk (N:Nat):(qdv N).pins=false:=rfl
theorem znf (N:Nat):qp Tryz.prog (qdv N):=qv fun _=>rfl
theorem qNI (N:Nat) (i:Nat):(qdv N).tr i=qou i:=rfl
theorem qK7 (N:Nat) (i:Nat):(qdv N).lp i=qs6 i:=rfl
theorem qKr (N:Nat) (i:Nat):(qdv N).ex i=qsp i:=rfl
theorem qX1 (N:Nat) (i:Nat):(qdv N).rg i=quI i:=rfl
theorem qVP (N:Nat) (i:Nat):(qdv N).jn i=qpH i:=rfl
theorem qPl (N:Nat):(qdv N).fuel=N:=rfl
noncomputable def q2N:Code:=cut [true,true,true,false,true,true,true] (Tryz.f103.body.getD .skip)
theorem q8m {N:Nat} {Q:X→St→Option (qc [i3])} {e:List LV} {h:List Blk}:qe tt qm7 (qdv N) q2N Q ⟨e,h⟩=qe tt qm7 (qdv N) (cut [true,true,true,false,true,true,true] (Tryz.f103.body.getD .skip)) Q ⟨e,h⟩:=rfl
theorem zpz (N:Nat) (v2:List (Val q7)) {k0:Int→Option (qc [i3])} {Q:X→St→Option (qc [i3])} {c:Code} (hc:c=q2N) (hret: ∀st,Q .ret st=qI tt true [i3] [.tmp 4] st) (h0: ∀(v5:Int),Q (.exit 0) ⟨[u,.one (.int .i64 v5),u,u,u,u,u,u,u,u,u,u,u,u,u,u,u,u,u,u,u,u,u,u,u,u,u],[]⟩=k0 v5): ∀(n:Nat) (v3:Int) (v4:Int),qE (qe tt qm7 (qdv N) c) false qrD Q n ⟨[.one (.sl 101 q7 v2 0),.one (.int .i64 v3),u,u,u,.one (.int .i64 v4),u,u,u,u,u,u,u,u,u,u,u,u,u,u,u,u,u,u,u,u,u],[]⟩=qlt N v2 k0 n v3 v4:=by
 subst hc;intro n;induction n with
 | zero=>intros;rfl
 | succ n ih=>
   intro v3 v4
   rw [qN,q8m,qlt];unfold Tryz.f103
   simp (maxSteps:=10000000) -implicitDefEqProofs [qNI,qou,qK7,qs6,qKr,qsp,qX1,quI,qVP,qpH,qPl,qLk,qWE,qMb,qVd,qFg,qWF,qUc,qH2,qnu,hret,h0,ih]
theorem q8f (N:Nat) (v0:List (Val q7)) (v1:Int):qe tt qm7 (qdv N) (Tryz.f103.body.getD .skip) (qt tt true [i3] [.tmp 4]) (qw [i22,i3] 27 (v0,v1,()))=qzY N v0 v1:=by
 unfold Tryz.f103
 simp (maxSteps:=10000000) -implicitDefEqProofs [qNI,qou,qK7,qs6,qKr,qsp,qX1,quI,qVP,qpH,qPl,qLk,qWE,qMb,qVd,qFg,qWF,qUc,qH2,qnu]
 rewrite [zpz (k0:=(fun (v6:Int)=>some (v6,()))) N _ ?_ ?_ ?_]
 ·rewrite [qzY];first | rfl | simp (maxSteps:=10000000) -implicitDefEqProofs []
 ·rfl
 ·intro;simp only [qJ,qL,qK,qB]
 ·intro v6;simp (maxSteps:=10000000) -implicitDefEqProofs [qNI,qou,qK7,qs6,qKr,qsp,qX1,quI,qVP,qpH,qPl,qLk,qWE,qMb,qVd,qFg,qWF,qUc,qH2,qnu]
def qxF:G:={ps:=[i22,i3],rs:=[i3],dp:=true,pre:=fun x=>qxt x.1 x.2.1,fn:=fun x=>(qni x.1 x.2.1,())}
theorem zn4 (x:List (Val q7)) (n:Int) (h:qxt x n): ∃N,qzY N x n=some (qni x n,()):=⟨List.length x+1,by
 obtain ⟨hs,h0,h1⟩:=h
 rw [qzY,qB7 h0 h1 hs.1]
 simp only [qni,qxy]
 by_cases c:n - (List.length x:Int)<0
 ·rw [qk c,if_pos c]
 ·rw [qj c,if_neg c]
  refine (qaP (F:=fun n i s=>qlt _ x _ n s i) (step:=fun _ y (s:Int) K=>chk (qCF y s) (bif decide (qlh y s<0)then some ((-1:Int),())else K (qlh y s))) (k:=fun s=>some (s,())) (by omega) (fun n i s hi=> ?_) (fun n i s hi=> ?_) _ _ (Nat.lt_succ_self _)).trans (qMO (t:=q7) x 0 _ (by omega) (by omega) hs.2)
  ·rw [qlt,qk (by omega),qd (by omega),qF hi]
  ·rw [qlt,qj (by omega)]⟩
theorem q9x:Sound Tryz.prog 103 qxF:=qx (tt:=tt) (Γ:=qm7) hT (qg zpH qu) hm (fn:=Tryz.f103) Tryz.func103 (c:=Tryz.f103.body.getD .skip) (by kernel_rfl) (by kernel_rfl) fun x hx=>by
 obtain ⟨N,h⟩:=zn4 x.1 x.2.1 hx
 exact ⟨qdv N,zfL,qy _,znf N,(q8f N x.1 x.2.1).trans h⟩
def qhE (x:Val Y24) (n:Int):Int:=szV Y24 x n
def qoZ (x:Val Y24) (n:Int):Prop:=qiE Y24 x n
noncomputable def m22 (N:Nat) (v0:Val Y24) (v1:Int):Option (qc [i3]):=chk (qxt (v0.2:List (Val q7)) v1) (bif (decide (((qni (v0.2:List (Val q7)) v1):Int)<(0:Int)))then (some ((-1:Int),()))else (some (((qni (v0.2:List (Val q7)) v1):Int),())))
def Γ22:Gam:=[(103,qxF)]
theorem zqE:Gam.get Γ22 103=some qxF:=rfl
def qBA:Nat→Tree:=fun _=> .done
def qRL:Nat→Nm:=fun _=>⟨[],[],false⟩
def qRg:Nat→Option Jn:=fun _=>none
def qIF:Nat→Option Nm:=fun _=>none
def qQT:Nat→Option Nm:=fun _=>none
theorem p22:qn qBA (Tryz.f22.body.getD .skip)=true:=by kernel_rfl
def T22 (N:Nat):Tab:={tr:=qBA,lp:=qRL,ex:=qIF,rg:=qQT,jn:=qRg,fuel:=N}
theorem zle (N:Nat):(T22 N).pins=false:=rfl
theorem zpi (N:Nat):qp Tryz.prog (T22 N):=qv fun _=>rfl
theorem zdn (N:Nat) (i:Nat):(T22 N).tr i=qBA i:=rfl
theorem zaT (N:Nat) (i:Nat):(T22 N).lp i=qRL i:=rfl
theorem zod (N:Nat) (i:Nat):(T22 N).ex i=qIF i:=rfl
theorem za0 (N:Nat) (i:Nat):(T22 N).rg i=qQT i:=rfl
theorem zfH (N:Nat) (i:Nat):(T22 N).jn i=qRg i:=rfl
theorem zi9 (N:Nat):(T22 N).fuel=N:=rfl
theorem zjJ (N:Nat) (v0:Val Y24) (v1:Int):qe tt Γ22 (T22 N) (Tryz.f22.body.getD .skip) (qt tt true [i3] [.tmp 4]) (qw [i24,i3] 12 (v0,v1,()))=m22 N v0 v1:=by
 rw [m22];unfold Tryz.f22
 simp (maxSteps:=10000000) -implicitDefEqProofs [zdn,qBA,zaT,qRL,zod,qIF,za0,qQT,zfH,qRg,zi9,zle,zqE,qxF]
 try rfl
def g22:G:={ps:=[i24,i3],rs:=[i3],dp:=true,pre:=fun x=>qoZ x.1 x.2.1,fn:=fun x=>(qhE x.1 x.2.1,())}
theorem e22 (x:Val Y24) (n:Int) (h:qoZ x n): ∃N,m22 N x n=some (qhE x n,()):=⟨0,by
 obtain ⟨x0,x1⟩:=x
 obtain ⟨hs,h0,h1⟩:=h
 obtain ⟨s0,s1⟩:=hs
 rw [m22,qhE]
 dsimp only
 rw [qyY h0]
 rw [qd (show qxt x1 n from ⟨s1,h0,h1⟩)]
 by_cases c1:qni x1 n<0
 ·rw [qk c1]
  exact congrArg (fun z=>some (z,())) ((qc0 (.slice 101 q7) x1 n h0).2 c1).symm
 ·rw [qj c1]
  rfl⟩
theorem s22:Sound Tryz.prog 22 g22:=qx (tt:=tt) (Γ:=Γ22) hT (qg q9x qu) hm (fn:=Tryz.f22) Tryz.func22 (c:=Tryz.f22.body.getD .skip) (by kernel_rfl) (by kernel_rfl) fun x hx=>by
 obtain ⟨N,h⟩:=e22 x.1 x.2.1 hx
 exact ⟨T22 N,p22,qy _,zpi N,(zjJ N x.1 x.2.1).trans h⟩
def qnC (x:List (Val Y24)) (n:Int):Int:=szV (.slice 24 Y24) x n
def qyK (x:List (Val Y24)) (n:Int):Prop:=qiE (.slice 24 Y24) x n
noncomputable def qkV (N:Nat) (v2:List (Val Y24)) (k0:Int→Option (qc [i3])):Nat→Int→Int→Option (qc [i3])
 | 0,_,_=>none
 | n+1,v3,v4=>bif (decide (v4<(v2.length:Int)))then (chk (0≤v4∧v4<(v2.length:Int)) (chk (qoZ (v2.getD v4.toNat (qb Y24)) v3) (bif (decide (((qhE (v2.getD v4.toNat (qb Y24)) v3):Int)<(0:Int)))then (some ((-1:Int),()))else (qkV N v2 k0 n ((qhE (v2.getD v4.toNat (qb Y24)) v3):Int) (IntKind.i64.wrap (v4+(1:Int)))))))else (k0 v3)
noncomputable def qBk (N:Nat) (v0:List (Val Y24)) (v1:Int):Option (qc [i3]):=bif (decide ((IntKind.i64.wrap (v1 - (v0.length:Int)))<(0:Int)))then (some ((-1:Int),()))else (qkV N v0 (fun (v6:Int)=>some (v6,())) N (IntKind.i64.wrap (v1 - (v0.length:Int))) (0:Int))
def qnQ:Gam:=[(22,g22)]
theorem qW8:Gam.get qnQ 22=some g22:=rfl
def qqh:Nm:=⟨[true,true,false,false,false,true],[],false⟩
theorem qOT:qqh.zero=false:=rfl
theorem qPz:qqh.fix=[]:=rfl
theorem qT0:qqh.keep=[true,true,false,false,false,true]:=rfl
def qCd:Nm:=⟨[false,true],[],false⟩
theorem qFV:qCd.zero=false:=rfl
theorem qM0:qCd.fix=[]:=rfl
theorem qU5:qCd.keep=[false,true]:=rfl
def qoT:Nat→Tree:=fun _=> .done
def qt1:Nat→Nm:=fun i=>if i=5 then qqh else ⟨[],[],false⟩
def qxb:Nat→Option Jn:=fun _=>none
def qva:Nat→Option Nm:=fun i=>if i=0 then some qCd else none
def qqt:Nat→Option Nm:=fun _=>none
theorem zdy:qn qoT (Tryz.f116.body.getD .skip)=true:=by kernel_rfl
def qdT (N:Nat):Tab:={tr:=qoT,lp:=qt1,ex:=qva,rg:=qqt,jn:=qxb,fuel:=N}
theorem qMf (N:Nat):(qdT N).pins=false:=rfl
theorem zh7 (N:Nat):qp Tryz.prog (qdT N):=qv fun _=>rfl
theorem qV7 (N:Nat) (i:Nat):(qdT N).tr i=qoT i:=rfl
theorem qPe (N:Nat) (i:Nat):(qdT N).lp i=qt1 i:=rfl
theorem qE7 (N:Nat) (i:Nat):(qdT N).ex i=qva i:=rfl
theorem qTE (N:Nat) (i:Nat):(qdT N).rg i=qqt i:=rfl
theorem qGb (N:Nat) (i:Nat):(qdT N).jn i=qxb i:=rfl
theorem qPd (N:Nat):(qdT N).fuel=N:=rfl
noncomputable def qZY:Code:=cut [true,true,true,false,true,true,true] (Tryz.f116.body.getD .skip)
theorem zcn {N:Nat} {Q:X→St→Option (qc [i3])} {e:List LV} {h:List Blk}:qe tt qnQ (qdT N) qZY Q ⟨e,h⟩=qe tt qnQ (qdT N) (cut [true,true,true,false,true,true,true] (Tryz.f116.body.getD .skip)) Q ⟨e,h⟩:=rfl
theorem zij (N:Nat) (v2:List (Val Y24)) {k0:Int→Option (qc [i3])} {Q:X→St→Option (qc [i3])} {c:Code} (hc:c=qZY) (hret: ∀st,Q .ret st=qI tt true [i3] [.tmp 4] st) (h0: ∀(v5:Int),Q (.exit 0) ⟨[u,.one (.int .i64 v5),u,u,u,u,u,u,u,u,u,u,u,u,u,u,u,u,u,u,u,u,u,u,u,u,u],[]⟩=k0 v5): ∀(n:Nat) (v3:Int) (v4:Int),qE (qe tt qnQ (qdT N) c) false qqh Q n ⟨[.one (.sl 24 Y24 v2 0),.one (.int .i64 v3),u,u,u,.one (.int .i64 v4),u,u,u,u,u,u,u,u,u,u,u,u,u,u,u,u,u,u,u,u,u],[]⟩=qkV N v2 k0 n v3 v4:=by
 subst hc;intro n;induction n with
 | zero=>intros;rfl
 | succ n ih=>
   intro v3 v4
   rw [qN,zcn,qkV];unfold Tryz.f116
   simp (maxSteps:=10000000) -implicitDefEqProofs [qV7,qoT,qPe,qt1,qE7,qva,qTE,qqt,qGb,qxb,qPd,qMf,qPz,qT0,qOT,qM0,qU5,qFV,qW8,g22,hret,h0,ih]
theorem zmd (N:Nat) (v0:List (Val Y24)) (v1:Int):qe tt qnQ (qdT N) (Tryz.f116.body.getD .skip) (qt tt true [i3] [.tmp 4]) (qw [i40,i3] 27 (v0,v1,()))=qBk N v0 v1:=by
 unfold Tryz.f116
 simp (maxSteps:=10000000) -implicitDefEqProofs [qV7,qoT,qPe,qt1,qE7,qva,qTE,qqt,qGb,qxb,qPd,qMf,qPz,qT0,qOT,qM0,qU5,qFV,qW8,g22]
 rewrite [zij (k0:=(fun (v6:Int)=>some (v6,()))) N _ ?_ ?_ ?_]
 ·rewrite [qBk];first | rfl | simp (maxSteps:=10000000) -implicitDefEqProofs []
 ·rfl
 ·intro;simp only [qJ,qL,qK,qB]
 ·intro v6;simp (maxSteps:=10000000) -implicitDefEqProofs [qV7,qoT,qPe,qt1,qE7,qva,qTE,qqt,qGb,qxb,qPd,qMf,qPz,qT0,qOT,qM0,qU5,qFV,qW8,g22]
def qCs:G:={ps:=[i40,i3],rs:=[i3],dp:=true,pre:=fun x=>qyK x.1 x.2.1,fn:=fun x=>(qnC x.1 x.2.1,())}
theorem q4C (x:List (Val Y24)) (n:Int) (h:qyK x n): ∃N,qBk N x n=some (qnC x n,()):=⟨List.length x+1,by
 obtain ⟨hs,h0,h1⟩:=h
 rw [qBk,qB7 h0 h1 hs.1]
 simp only [qnC,qxy]
 by_cases c:n - (List.length x:Int)<0
 ·rw [qk c,if_pos c]
 ·rw [qj c,if_neg c]
  refine (qaP (F:=fun n i s=>qkV _ x _ n s i) (step:=fun _ y (s:Int) K=>chk (qoZ y s) (bif decide (qhE y s<0)then some ((-1:Int),())else K (qhE y s))) (k:=fun s=>some (s,())) (by omega) (fun n i s hi=> ?_) (fun n i s hi=> ?_) _ _ (Nat.lt_succ_self _)).trans (qMO (t:=Y24) x 0 _ (by omega) (by omega) hs.2)
  ·rw [qkV,qk (by omega),qd (by omega),qF hi]
  ·rw [qkV,qj (by omega)]⟩
theorem zgC:Sound Tryz.prog 116 qCs:=qx (tt:=tt) (Γ:=qnQ) hT (qg s22 qu) hm (fn:=Tryz.f116) Tryz.func116 (c:=Tryz.f116.body.getD .skip) (by kernel_rfl) (by kernel_rfl) fun x hx=>by
 obtain ⟨N,h⟩:=q4C x.1 x.2.1 hx
 exact ⟨qdT N,zdy,qy _,zh7 N,(zmd N x.1 x.2.1).trans h⟩
def qeW (x:Val Y42) (n:Int):Int:=szV Y42 x n
def qm6 (x:Val Y42) (n:Int):Prop:=qiE Y42 x n
noncomputable def m30 (N:Nat) (v0:Val Y42) (v1:Int):Option (qc [i3]):=chk (qyK (v0.2:List (Val Y24)) v1) (bif (decide (((qnC (v0.2:List (Val Y24)) v1):Int)<(0:Int)))then (some ((-1:Int),()))else (some (((qnC (v0.2:List (Val Y24)) v1):Int),())))
def Γ30:Gam:=[(116,qCs)]
theorem zio:Gam.get Γ30 116=some qCs:=rfl
def qzn:Nat→Tree:=fun _=> .done
def qNW:Nat→Nm:=fun _=>⟨[],[],false⟩
def qH9:Nat→Option Jn:=fun _=>none
def qFW:Nat→Option Nm:=fun _=>none
def qT3:Nat→Option Nm:=fun _=>none
theorem p30:qn qzn (Tryz.f30.body.getD .skip)=true:=by kernel_rfl
def T30 (N:Nat):Tab:={tr:=qzn,lp:=qNW,ex:=qFW,rg:=qT3,jn:=qH9,fuel:=N}
theorem zcZ (N:Nat):(T30 N).pins=false:=rfl
theorem zmX (N:Nat):qp Tryz.prog (T30 N):=qv fun _=>rfl
theorem zd1 (N:Nat) (i:Nat):(T30 N).tr i=qzn i:=rfl
theorem zaH (N:Nat) (i:Nat):(T30 N).lp i=qNW i:=rfl
theorem zbM (N:Nat) (i:Nat):(T30 N).ex i=qFW i:=rfl
theorem zog (N:Nat) (i:Nat):(T30 N).rg i=qT3 i:=rfl
theorem zmJ (N:Nat) (i:Nat):(T30 N).jn i=qH9 i:=rfl
theorem q81 (N:Nat):(T30 N).fuel=N:=rfl
theorem zey (N:Nat) (v0:Val Y42) (v1:Int):qe tt Γ30 (T30 N) (Tryz.f30.body.getD .skip) (qt tt true [i3] [.tmp 4]) (qw [i42,i3] 12 (v0,v1,()))=m30 N v0 v1:=by
 rw [m30];unfold Tryz.f30
 simp (maxSteps:=10000000) -implicitDefEqProofs [zd1,qzn,zaH,qNW,zbM,qFW,zog,qT3,zmJ,qH9,q81,zcZ,zio,qCs]
 try rfl
def g30:G:={ps:=[i42,i3],rs:=[i3],dp:=true,pre:=fun x=>qm6 x.1 x.2.1,fn:=fun x=>(qeW x.1 x.2.1,())}
theorem e30 (x:Val Y42) (n:Int) (h:qm6 x n): ∃N,m30 N x n=some (qeW x n,()):=⟨0,by
 obtain ⟨x0,x1⟩:=x
 obtain ⟨hs,h0,h1⟩:=h
 obtain ⟨s0,s1⟩:=hs
 rw [m30,qeW]
 dsimp only
 rw [qyY h0]
 rw [qd (show qyK x1 n from ⟨s1,h0,h1⟩)]
 by_cases c1:qnC x1 n<0
 ·rw [qk c1]
  exact congrArg (fun z=>some (z,())) ((qc0 (.slice 24 Y24) x1 n h0).2 c1).symm
 ·rw [qj c1]
  rfl⟩
theorem s30:Sound Tryz.prog 30 g30:=qx (tt:=tt) (Γ:=Γ30) hT (qg zgC qu) hm (fn:=Tryz.f30) Tryz.func30 (c:=Tryz.f30.body.getD .skip) (by kernel_rfl) (by kernel_rfl) fun x hx=>by
 obtain ⟨N,h⟩:=e30 x.1 x.2.1 hx
 exact ⟨T30 N,p30,qy _,zmX N,(zey N x.1 x.2.1).trans h⟩
def qaT (x:List (Val (.int .i64))):List (Val (.int .i64)):=x
def qiV (x:List (Val (.int .i64))):Prop:=Bd (.slice 3 (.int .i64)) x
noncomputable def qls (N:Nat) (v1:List (Val (.int .i64))) (k0:(List (Val (.int .i64)))→Option (qc [i25])):Nat→Int→(List (Val (.int .i64)))→Option (qc [i25])
 | 0,_,_=>none
 | n+1,v2,v3=>bif (decide (v2<(v1.length:Int)))then (chk (0≤v2∧v2<(v1.length:Int)) (chk (0≤v2∧v2<(v3.length:Int)) (chk (v2.toNat<v3.length) (qls N v1 k0 n (IntKind.i64.wrap (v2+(1:Int))) (v3.set v2.toNat ((v1.getD v2.toNat (qb (.int .i64))):Int))))))else (k0 v3)
noncomputable def m25 (N:Nat) (v0:List (Val (.int .i64))):Option (qc [i25]):=chk (0≤(v0.length:Int)∧(v0.length:Int)≤(v0.length:Int)∧(v0.length:Int)≤1048576) (qls N v0 (fun (v5:List (Val (.int .i64)))=>some (v5,())) N (0:Int) (List.replicate (v0.length:Int).toNat (qb (.int .i64))))
def Γ25:Gam:=[]
def qwG:Nm:=⟨[true,false,false,true,true],[],false⟩
theorem qP3:qwG.zero=false:=rfl
theorem qHC:qwG.fix=[]:=rfl
theorem qJD:qwG.keep=[true,false,false,true,true]:=rfl
def qyD:Nm:=⟨[false,false,false,true],[],false⟩
theorem qWu:qyD.zero=false:=rfl
theorem qMl:qyD.fix=[]:=rfl
theorem qV3:qyD.keep=[false,false,false,true]:=rfl
def qoc:Nat→Tree:=fun _=> .done
def quV:Nat→Nm:=fun i=>if i=3 then qwG else ⟨[],[],false⟩
def qtw:Nat→Option Jn:=fun _=>none
def qsv:Nat→Option Nm:=fun i=>if i=0 then some qyD else none
def qq9:Nat→Option Nm:=fun _=>none
theorem p25:qn qoc (Tryz.f25.body.getD .skip)=true:=by kernel_rfl
def T25 (N:Nat):Tab:={tr:=qoc,lp:=quV,ex:=qsv,rg:=qq9,jn:=qtw,fuel:=N}
theorem qHL (N:Nat):(T25 N).pins=false:=rfl
theorem zmB (N:Nat):qp Tryz.prog (T25 N):=qv fun _=>rfl
theorem qIC (N:Nat) (i:Nat):(T25 N).tr i=qoc i:=rfl
theorem qXm (N:Nat) (i:Nat):(T25 N).lp i=quV i:=rfl
theorem qLJ (N:Nat) (i:Nat):(T25 N).ex i=qsv i:=rfl
theorem qO9 (N:Nat) (i:Nat):(T25 N).rg i=qq9 i:=rfl
theorem qW5 (N:Nat) (i:Nat):(T25 N).jn i=qtw i:=rfl
theorem qRu (N:Nat):(T25 N).fuel=N:=rfl
noncomputable def qYm:Code:=cut [true,true,false,true,true,true] (Tryz.f25.body.getD .skip)
theorem zm8 {N:Nat} {Q:X→St→Option (qc [i25])} {e:List LV} {h:List Blk}:qe tt Γ25 (T25 N) qYm Q ⟨e,h⟩=qe tt Γ25 (T25 N) (cut [true,true,false,true,true,true] (Tryz.f25.body.getD .skip)) Q ⟨e,h⟩:=rfl
theorem zpP (N:Nat) (v1:List (Val (.int .i64))) {k0:(List (Val (.int .i64)))→Option (qc [i25])} {Q:X→St→Option (qc [i25])} {c:Code} (hc:c=qYm) (hret: ∀st,Q .ret st=qI tt true [i25] [.tmp 2] st) (h0: ∀(v4:List (Val (.int .i64))),Q (.exit 0) ⟨[u,u,u,.one (.own 0),u,u,u,u,u,u,u,u,u,u,u,u,u,u,u,u,u,u],[.row 3 (.int .i64) v4 true true 0]⟩=k0 v4): ∀(n:Nat) (v2:Int) (v3:List (Val (.int .i64))),qE (qe tt Γ25 (T25 N) c) false qwG Q n ⟨[.one (.sl 3 (.int .i64) v1 1),u,u,.one (.own 0),.one (.int .i64 v2),u,u,u,u,u,u,u,u,u,u,u,u,u,u,u,u,u],[.row 3 (.int .i64) v3 true true 0]⟩=qls N v1 k0 n v2 v3:=by
 subst hc;intro n;induction n with
 | zero=>intros;rfl
 | succ n ih=>
   intro v2 v3
   rw [qN,zm8,qls];unfold Tryz.f25
   simp (maxSteps:=10000000) -implicitDefEqProofs [qIC,qoc,qXm,quV,qLJ,qsv,qO9,qq9,qW5,qtw,qRu,qHL,qHC,qJD,qP3,qMl,qV3,qWu,hret,h0,ih]
theorem zk8 (N:Nat) (v0:List (Val (.int .i64))):qe tt Γ25 (T25 N) (Tryz.f25.body.getD .skip) (qt tt true [i25] [.tmp 2]) (qw [i25] 22 (v0,()))=m25 N v0:=by
 unfold Tryz.f25
 simp (maxSteps:=10000000) -implicitDefEqProofs [qIC,qoc,qXm,quV,qLJ,qsv,qO9,qq9,qW5,qtw,qRu,qHL,qHC,qJD,qP3,qMl,qV3,qWu]
 rewrite [zpP (k0:=(fun (v5:List (Val (.int .i64)))=>some (v5,()))) N _ ?_ ?_ ?_]
 ·rewrite [m25];first | rfl | simp (maxSteps:=10000000) -implicitDefEqProofs []
 ·rfl
 ·intro;simp only [qJ,qL,qK,qB]
 ·intro v5;simp (maxSteps:=10000000) -implicitDefEqProofs [qIC,qoc,qXm,quV,qLJ,qsv,qO9,qq9,qW5,qtw,qRu,qHL,qHC,qJD,qP3,qMl,qV3,qWu]
def g25:G:={ps:=[i25],rs:=[i25],dp:=true,pre:=fun x=>qiV x.1,fn:=fun x=>(qaT x.1,())}
theorem e25 (x:List (Val (.int .i64))) (h:qiV x): ∃N,m25 N x=some (qaT x,()):=⟨List.length x+1,by
 rw [m25,qd (qiq h.1),Int.toNat_natCast]
 refine qmK (F:=fun n i s=>qls _ x _ n i s) (k:=fun s=>some (s,())) (qb (.int .i64)) h.1 (fun n i s hi hl=> ?_) (fun n i s hi=> ?_) _ (Nat.lt_succ_self _)
 ·rw [qls,qk (by omega),qd (by omega),qF hi,qd (by omega),qd (by omega)]
  rfl
 ·rw [qls,qj (by omega)]⟩
theorem s25:Sound Tryz.prog 25 g25:=qx (tt:=tt) (Γ:=Γ25) hT qu hm (fn:=Tryz.f25) Tryz.func25 (c:=Tryz.f25.body.getD .skip) (by kernel_rfl) (by kernel_rfl) fun x hx=>by
 obtain ⟨N,h⟩:=e25 x.1 hx
 exact ⟨T25 N,p25,qy _,zmB N,(zk8 N x.1).trans h⟩
def qqi (x:Val q7):Val qa:=x
def qDv (x:Val q7):Prop:=Bd q7 x
noncomputable def qxU (N:Nat) (v0:Val q7):Option (qc [qr]):=chk (qiV (v0.1:List (Val (.int .i64)))) (some ((((qaT (v0.1:List (Val (.int .i64)))):List (Val (.int .i64))),(v0.2.1:Int),(v0.2.2:Bool)),()))
def qYh:Gam:=[(25,g25)]
theorem zpt:Gam.get qYh 25=some g25:=rfl
def qCX:Nat→Tree:=fun _=> .done
def qPZ:Nat→Nm:=fun _=>⟨[],[],false⟩
def qPr:Nat→Option Jn:=fun _=>none
def qGL:Nat→Option Nm:=fun _=>none
def qV6:Nat→Option Nm:=fun _=>none
theorem zf0:qn qCX (Tryz.f179.body.getD .skip)=true:=by kernel_rfl
def qgj (N:Nat):Tab:={tr:=qCX,lp:=qPZ,ex:=qGL,rg:=qV6,jn:=qPr,fuel:=N}
theorem q5t (N:Nat):(qgj N).pins=false:=rfl
theorem znV (N:Nat):qp Tryz.prog (qgj N):=qv fun _=>rfl
theorem zgD (N:Nat) (i:Nat):(qgj N).tr i=qCX i:=rfl
theorem zpy (N:Nat) (i:Nat):(qgj N).lp i=qPZ i:=rfl
theorem zg0 (N:Nat) (i:Nat):(qgj N).ex i=qGL i:=rfl
theorem zaA (N:Nat) (i:Nat):(qgj N).rg i=qV6 i:=rfl
theorem zlK (N:Nat) (i:Nat):(qgj N).jn i=qPr i:=rfl
theorem znz (N:Nat):(qgj N).fuel=N:=rfl
theorem q94 (N:Nat) (v0:Val q7):qe tt qYh (qgj N) (Tryz.f179.body.getD .skip) (qt tt true [qr] [.cell 2 108]) (qw [qig] 15 (v0,()))=qxU N v0:=by
 rw [qxU];unfold Tryz.f179
 simp (maxSteps:=10000000) -implicitDefEqProofs [zgD,qCX,zpy,qPZ,zg0,qGL,zaA,qV6,zlK,qPr,znz,q5t,zpt,g25]
 try rfl
def qnL:G:={ps:=[qig],rs:=[qr],dp:=true,pre:=fun x=>qDv x.1,fn:=fun x=>(qqi x.1,())}
theorem zon (x:Val q7) (h:qDv x): ∃N,qxU N x=some (qqi x,()):=⟨0,by
 obtain ⟨s0,s1,s2⟩:=h
 rw [qxU,qd (show qiV _ from s0)]
 rfl⟩
theorem q4y:Sound Tryz.prog 179 qnL:=qx (tt:=tt) (Γ:=qYh) hT (qg s25 qu) hm (fn:=Tryz.f179) Tryz.func179 (c:=Tryz.f179.body.getD .skip) (by kernel_rfl) (by kernel_rfl) fun x hx=>by
 obtain ⟨N,h⟩:=zon x.1 hx
 exact ⟨qgj N,zf0,qy _,znV N,(q94 N x.1).trans h⟩
def qPJ (x:List (Val q7)):List (Val qa):=x
def qzf (x:List (Val q7)):Prop:=Bd (.slice 101 q7) x
noncomputable def qlf (N:Nat) (v1:List (Val q7)) (k0:(List (Val qa))→Option (qc [i31])):Nat→Int→(List (Val qa))→Option (qc [i31])
 | 0,_,_=>none
 | n+1,v2,v3=>bif (decide (v2<(v1.length:Int)))then (chk (0≤v2∧v2<(v1.length:Int)) (chk (qDv (v1.getD v2.toNat (qb q7))) (chk (0≤v2∧v2<(v3.length:Int)) (chk (v2.toNat<v3.length) (qlf N v1 k0 n (IntKind.i64.wrap (v2+(1:Int))) (v3.set v2.toNat (((qqi (v1.getD v2.toNat (qb q7))).1:List (Val (.int .i64))),(((qqi (v1.getD v2.toNat (qb q7))).2).1:Int),(((qqi (v1.getD v2.toNat (qb q7))).2).2:Bool))))))))else (k0 v3)
noncomputable def qC9 (N:Nat) (v0:List (Val q7)):Option (qc [i31]):=chk (0≤(v0.length:Int)∧(v0.length:Int)≤(v0.length:Int)∧(v0.length:Int)≤1048576) (qlf N v0 (fun (v5:List (Val qa))=>some (v5,())) N (0:Int) (List.replicate (v0.length:Int).toNat (qb qa)))
def qob:Gam:=[(179,qnL)]
theorem qLw:Gam.get qob 179=some qnL:=rfl
def qrw:Nm:=⟨[true,false,false,true,true],[],false⟩
theorem qSJ:qrw.zero=false:=rfl
theorem qMI:qrw.fix=[]:=rfl
theorem qR0:qrw.keep=[true,false,false,true,true]:=rfl
def qDJ:Nm:=⟨[false,false,false,true],[],false⟩
theorem qGk:qDJ.zero=false:=rfl
theorem qJf:qDJ.fix=[]:=rfl
theorem qN7:qDJ.keep=[false,false,false,true]:=rfl
def qn8:Nat→Tree:=fun _=> .done
def qw0:Nat→Nm:=fun i=>if i=3 then qrw else ⟨[],[],false⟩
def qvG:Nat→Option Jn:=fun _=>none
def qpS:Nat→Option Nm:=fun i=>if i=0 then some qDJ else none
def qsw:Nat→Option Nm:=fun _=>none
theorem zaK:qn qn8 (Tryz.f110.body.getD .skip)=true:=by kernel_rfl
def qdY (N:Nat):Tab:={tr:=qn8,lp:=qw0,ex:=qpS,rg:=qsw,jn:=qvG,fuel:=N}
theorem qUR (N:Nat):(qdY N).pins=false:=rfl
theorem zfS (N:Nat):qp Tryz.prog (qdY N):=qv fun _=>rfl
theorem qGH (N:Nat) (i:Nat):(qdY N).tr i=qn8 i:=rfl
theorem qQO (N:Nat) (i:Nat):(qdY N).lp i=qw0 i:=rfl
theorem qKe (N:Nat) (i:Nat):(qdY N).ex i=qpS i:=rfl
theorem qXB (N:Nat) (i:Nat):(qdY N).rg i=qsw i:=rfl
theorem qGA (N:Nat) (i:Nat):(qdY N).jn i=qvG i:=rfl
theorem qJX (N:Nat):(qdY N).fuel=N:=rfl
noncomputable def q2J:Code:=cut [true,true,false,true,true,true] (Tryz.f110.body.getD .skip)
theorem zgk {N:Nat} {Q:X→St→Option (qc [i31])} {e:List LV} {h:List Blk}:qe tt qob (qdY N) q2J Q ⟨e,h⟩=qe tt qob (qdY N) (cut [true,true,false,true,true,true] (Tryz.f110.body.getD .skip)) Q ⟨e,h⟩:=rfl
theorem zjn (N:Nat) (v1:List (Val q7)) {k0:(List (Val qa))→Option (qc [i31])} {Q:X→St→Option (qc [i31])} {c:Code} (hc:c=q2J) (hret: ∀st,Q .ret st=qI tt true [i31] [.tmp 2] st) (h0: ∀(v4:List (Val qa)),Q (.exit 0) ⟨[u,u,u,.one (.own 0),u,u,u,u,u,u,u,u,u,u,u,u,u,u,u,u,u,u,u],[.row 108 qa v4 true true 0]⟩=k0 v4): ∀(n:Nat) (v2:Int) (v3:List (Val qa)),qE (qe tt qob (qdY N) c) false qrw Q n ⟨[.one (.sl 101 q7 v1 1),u,u,.one (.own 0),.one (.int .i64 v2),u,u,u,u,u,u,u,u,u,u,u,u,u,u,u,u,u,u],[.row 108 qa v3 true true 0]⟩=qlf N v1 k0 n v2 v3:=by
 subst hc;intro n;induction n with
 | zero=>intros;rfl
 | succ n ih=>
   intro v2 v3
   rw [qN,zgk,qlf];unfold Tryz.f110
   simp (maxSteps:=10000000) -implicitDefEqProofs [qGH,qn8,qQO,qw0,qKe,qpS,qXB,qsw,qGA,qvG,qJX,qUR,qMI,qR0,qSJ,qJf,qN7,qGk,qLw,qnL,hret,h0,ih]
theorem q8w (N:Nat) (v0:List (Val q7)):qe tt qob (qdY N) (Tryz.f110.body.getD .skip) (qt tt true [i31] [.tmp 2]) (qw [i22] 23 (v0,()))=qC9 N v0:=by
 unfold Tryz.f110
 simp (maxSteps:=10000000) -implicitDefEqProofs [qGH,qn8,qQO,qw0,qKe,qpS,qXB,qsw,qGA,qvG,qJX,qUR,qMI,qR0,qSJ,qJf,qN7,qGk,qLw,qnL]
 rewrite [zjn (k0:=(fun (v5:List (Val qa))=>some (v5,()))) N _ ?_ ?_ ?_]
 ·rewrite [qC9];first | rfl | simp (maxSteps:=10000000) -implicitDefEqProofs []
 ·rfl
 ·intro;simp only [qJ,qL,qK,qB]
 ·intro v5;simp (maxSteps:=10000000) -implicitDefEqProofs [qGH,qn8,qQO,qw0,qKe,qpS,qXB,qsw,qGA,qvG,qJX,qUR,qMI,qR0,qSJ,qJf,qN7,qGk,qLw,qnL]
def qAl:G:={ps:=[i22],rs:=[i31],dp:=true,pre:=fun x=>qzf x.1,fn:=fun x=>(qPJ x.1,())}
theorem q9e (x:List (Val q7)) (h:qzf x): ∃N,qC9 N x=some (qPJ x,()):=⟨List.length x+1,by
 rw [qC9,qd (qiq h.1),Int.toNat_natCast]
 refine qmK (F:=fun n i s=>qlf _ x _ n i s) (k:=fun s=>some (s,())) (qb qa) h.1 (fun n i s hi hl=> ?_) (fun n i s hi=> ?_) _ (Nat.lt_succ_self _)
 ·rw [qlf,qk (by omega),qd (by omega),qd (show qDv _ from by rw [qF hi];exact h.2 _ (List.getElem_mem hi)),qF hi,qd (by omega),qd (by omega)]
  rfl
 ·rw [qlf,qj (by omega)]⟩
theorem zpc:Sound Tryz.prog 110 qAl:=qx (tt:=tt) (Γ:=qob) hT (qg q4y qu) hm (fn:=Tryz.f110) Tryz.func110 (c:=Tryz.f110.body.getD .skip) (by kernel_rfl) (by kernel_rfl) fun x hx=>by
 obtain ⟨N,h⟩:=q9e x.1 hx
 exact ⟨qdY N,zaK,qy _,zfS N,(q8w N x.1).trans h⟩
def qac (x:Val Y24):Val Y33:=x
def qjh (x:Val Y24):Prop:=Bd Y24 x
noncomputable def m24 (N:Nat) (v0:Val Y24):Option (qc [i33]):=chk (qzf (v0.2:List (Val q7))) (some (((v0.1:Int),((qPJ (v0.2:List (Val q7))):List (Val qa))),()))
def Γ24:Gam:=[(110,qAl)]
theorem zlv:Gam.get Γ24 110=some qAl:=rfl
def qx7:Nat→Tree:=fun _=> .done
def qGl:Nat→Nm:=fun _=>⟨[],[],false⟩
def qGE:Nat→Option Jn:=fun _=>none
def qIS:Nat→Option Nm:=fun _=>none
def qQf:Nat→Option Nm:=fun _=>none
theorem p24:qn qx7 (Tryz.f24.body.getD .skip)=true:=by kernel_rfl
def T24 (N:Nat):Tab:={tr:=qx7,lp:=qGl,ex:=qIS,rg:=qQf,jn:=qGE,fuel:=N}
theorem zdW (N:Nat):(T24 N).pins=false:=rfl
theorem zbi (N:Nat):qp Tryz.prog (T24 N):=qv fun _=>rfl
theorem zmY (N:Nat) (i:Nat):(T24 N).tr i=qx7 i:=rfl
theorem zap (N:Nat) (i:Nat):(T24 N).lp i=qGl i:=rfl
theorem zaS (N:Nat) (i:Nat):(T24 N).ex i=qIS i:=rfl
theorem zbx (N:Nat) (i:Nat):(T24 N).rg i=qQf i:=rfl
theorem zlZ (N:Nat) (i:Nat):(T24 N).jn i=qGE i:=rfl
theorem zeP (N:Nat):(T24 N).fuel=N:=rfl
theorem zmk (N:Nat) (v0:Val Y24):qe tt Γ24 (T24 N) (Tryz.f24.body.getD .skip) (qt tt true [i33] [.cell 2 33]) (qw [i24] 12 (v0,()))=m24 N v0:=by
 rw [m24];unfold Tryz.f24
 simp (maxSteps:=10000000) -implicitDefEqProofs [zmY,qx7,zap,qGl,zaS,qIS,zbx,qQf,zlZ,qGE,zeP,zdW,zlv,qAl]
 try rfl
def g24:G:={ps:=[i24],rs:=[i33],dp:=true,pre:=fun x=>qjh x.1,fn:=fun x=>(qac x.1,())}
theorem e24 (x:Val Y24) (h:qjh x): ∃N,m24 N x=some (qac x,()):=⟨0,by
 obtain ⟨s0,s1⟩:=h
 rw [m24,qd (show qzf _ from s1)]
 rfl⟩
theorem s24:Sound Tryz.prog 24 g24:=qx (tt:=tt) (Γ:=Γ24) hT (qg zpc qu) hm (fn:=Tryz.f24) Tryz.func24 (c:=Tryz.f24.body.getD .skip) (by kernel_rfl) (by kernel_rfl) fun x hx=>by
 obtain ⟨N,h⟩:=e24 x.1 hx
 exact ⟨T24 N,p24,qy _,zbi N,(zmk N x.1).trans h⟩
def qHe (x:List (Val Y24)):List (Val Y33):=x
def qCv (x:List (Val Y24)):Prop:=Bd (.slice 24 Y24) x
noncomputable def qlw (N:Nat) (v1:List (Val Y24)) (k0:(List (Val Y33))→Option (qc [i48])):Nat→Int→(List (Val Y33))→Option (qc [i48])
 | 0,_,_=>none
 | n+1,v2,v3=>bif (decide (v2<(v1.length:Int)))then (chk (0≤v2∧v2<(v1.length:Int)) (chk (qjh (v1.getD v2.toNat (qb Y24))) (chk (0≤v2∧v2<(v3.length:Int)) (chk (v2.toNat<v3.length) (qlw N v1 k0 n (IntKind.i64.wrap (v2+(1:Int))) (v3.set v2.toNat (((qac (v1.getD v2.toNat (qb Y24))).1:Int),((qac (v1.getD v2.toNat (qb Y24))).2:List (Val qa)))))))))else (k0 v3)
noncomputable def qzI (N:Nat) (v0:List (Val Y24)):Option (qc [i48]):=chk (0≤(v0.length:Int)∧(v0.length:Int)≤(v0.length:Int)∧(v0.length:Int)≤1048576) (qlw N v0 (fun (v5:List (Val Y33))=>some (v5,())) N (0:Int) (List.replicate (v0.length:Int).toNat (qb Y33)))
def qoA:Gam:=[(24,g24)]
theorem qNo:Gam.get qoA 24=some g24:=rfl
def qsc:Nm:=⟨[true,false,false,true,true],[],false⟩
theorem qRh:qsc.zero=false:=rfl
theorem qSe:qsc.fix=[]:=rfl
theorem qJh:qsc.keep=[true,false,false,true,true]:=rfl
def qyS:Nm:=⟨[false,false,false,true],[],false⟩
theorem qLS:qyS.zero=false:=rfl
theorem qO4:qyS.fix=[]:=rfl
theorem qX7:qyS.keep=[false,false,false,true]:=rfl
def qo6:Nat→Tree:=fun _=> .done
def qtT:Nat→Nm:=fun i=>if i=3 then qsc else ⟨[],[],false⟩
def qst:Nat→Option Jn:=fun _=>none
def qw5:Nat→Option Nm:=fun i=>if i=0 then some qyS else none
def qru:Nat→Option Nm:=fun _=>none
theorem zef:qn qo6 (Tryz.f123.body.getD .skip)=true:=by kernel_rfl
def qdR (N:Nat):Tab:={tr:=qo6,lp:=qtT,ex:=qw5,rg:=qru,jn:=qst,fuel:=N}
theorem qPy (N:Nat):(qdR N).pins=false:=rfl
theorem zmI (N:Nat):qp Tryz.prog (qdR N):=qv fun _=>rfl
theorem qNp (N:Nat) (i:Nat):(qdR N).tr i=qo6 i:=rfl
theorem qPO (N:Nat) (i:Nat):(qdR N).lp i=qtT i:=rfl
theorem qUv (N:Nat) (i:Nat):(qdR N).ex i=qw5 i:=rfl
theorem qK8 (N:Nat) (i:Nat):(qdR N).rg i=qru i:=rfl
theorem qT1 (N:Nat) (i:Nat):(qdR N).jn i=qst i:=rfl
theorem qRy (N:Nat):(qdR N).fuel=N:=rfl
noncomputable def qYA:Code:=cut [true,true,false,true,true,true] (Tryz.f123.body.getD .skip)
theorem zkN {N:Nat} {Q:X→St→Option (qc [i48])} {e:List LV} {h:List Blk}:qe tt qoA (qdR N) qYA Q ⟨e,h⟩=qe tt qoA (qdR N) (cut [true,true,false,true,true,true] (Tryz.f123.body.getD .skip)) Q ⟨e,h⟩:=rfl
theorem q8P (N:Nat) (v1:List (Val Y24)) {k0:(List (Val Y33))→Option (qc [i48])} {Q:X→St→Option (qc [i48])} {c:Code} (hc:c=qYA) (hret: ∀st,Q .ret st=qI tt true [i48] [.tmp 2] st) (h0: ∀(v4:List (Val Y33)),Q (.exit 0) ⟨[u,u,u,.one (.own 0),u,u,u,u,u,u,u,u,u,u,u,u,u,u,u,u,u,u,u],[.row 33 Y33 v4 true true 0]⟩=k0 v4): ∀(n:Nat) (v2:Int) (v3:List (Val Y33)),qE (qe tt qoA (qdR N) c) false qsc Q n ⟨[.one (.sl 24 Y24 v1 1),u,u,.one (.own 0),.one (.int .i64 v2),u,u,u,u,u,u,u,u,u,u,u,u,u,u,u,u,u,u],[.row 33 Y33 v3 true true 0]⟩=qlw N v1 k0 n v2 v3:=by
 subst hc;intro n;induction n with
 | zero=>intros;rfl
 | succ n ih=>
   intro v2 v3
   rw [qN,zkN,qlw];unfold Tryz.f123
   simp (maxSteps:=10000000) -implicitDefEqProofs [qNp,qo6,qPO,qtT,qUv,qw5,qK8,qru,qT1,qst,qRy,qPy,qSe,qJh,qRh,qO4,qX7,qLS,qNo,g24,hret,h0,ih]
theorem q8Z (N:Nat) (v0:List (Val Y24)):qe tt qoA (qdR N) (Tryz.f123.body.getD .skip) (qt tt true [i48] [.tmp 2]) (qw [i40] 23 (v0,()))=qzI N v0:=by
 unfold Tryz.f123
 simp (maxSteps:=10000000) -implicitDefEqProofs [qNp,qo6,qPO,qtT,qUv,qw5,qK8,qru,qT1,qst,qRy,qPy,qSe,qJh,qRh,qO4,qX7,qLS,qNo,g24]
 rewrite [q8P (k0:=(fun (v5:List (Val Y33))=>some (v5,()))) N _ ?_ ?_ ?_]
 ·rewrite [qzI];first | rfl | simp (maxSteps:=10000000) -implicitDefEqProofs []
 ·rfl
 ·intro;simp only [qJ,qL,qK,qB]
 ·intro v5;simp (maxSteps:=10000000) -implicitDefEqProofs [qNp,qo6,qPO,qtT,qUv,qw5,qK8,qru,qT1,qst,qRy,qPy,qSe,qJh,qRh,qO4,qX7,qLS,qNo,g24]
def qzy:G:={ps:=[i40],rs:=[i48],dp:=true,pre:=fun x=>qCv x.1,fn:=fun x=>(qHe x.1,())}
theorem q9K (x:List (Val Y24)) (h:qCv x): ∃N,qzI N x=some (qHe x,()):=⟨List.length x+1,by
 rw [qzI,qd (qiq h.1),Int.toNat_natCast]
 refine qmK (F:=fun n i s=>qlw _ x _ n i s) (k:=fun s=>some (s,())) (qb Y33) h.1 (fun n i s hi hl=> ?_) (fun n i s hi=> ?_) _ (Nat.lt_succ_self _)
 ·rw [qlw,qk (by omega),qd (by omega),qd (show qjh _ from by rw [qF hi];exact h.2 _ (List.getElem_mem hi)),qF hi,qd (by omega),qd (by omega)]
  rfl
 ·rw [qlw,qj (by omega)]⟩
theorem zeA:Sound Tryz.prog 123 qzy:=qx (tt:=tt) (Γ:=qoA) hT (qg s24 qu) hm (fn:=Tryz.f123) Tryz.func123 (c:=Tryz.f123.body.getD .skip) (by kernel_rfl) (by kernel_rfl) fun x hx=>by
 obtain ⟨N,h⟩:=q9K x.1 hx
 exact ⟨qdR N,zef,qy _,zmI N,(q8Z N x.1).trans h⟩
def qo (x:Val Y42):Val Y50:=x
def qeD (x:Val Y42):Prop:=Bd Y42 x
noncomputable def m33 (N:Nat) (v0:Val Y42):Option (qc [i50]):=chk (qCv (v0.2:List (Val Y24))) (some (((v0.1:Int),((qHe (v0.2:List (Val Y24))):List (Val Y33))),()))
def Γ33:Gam:=[(123,qzy)]
theorem zkX:Gam.get Γ33 123=some qzy:=rfl
def qzP:Nat→Tree:=fun _=> .done
def qJ6:Nat→Nm:=fun _=>⟨[],[],false⟩
def qPa:Nat→Option Jn:=fun _=>none
def qSK:Nat→Option Nm:=fun _=>none
def qOh:Nat→Option Nm:=fun _=>none
theorem p33:qn qzP (Tryz.f33.body.getD .skip)=true:=by kernel_rfl
def T33 (N:Nat):Tab:={tr:=qzP,lp:=qJ6,ex:=qSK,rg:=qOh,jn:=qPa,fuel:=N}
theorem zbr (N:Nat):(T33 N).pins=false:=rfl
theorem zdK (N:Nat):qp Tryz.prog (T33 N):=qv fun _=>rfl
theorem zdS (N:Nat) (i:Nat):(T33 N).tr i=qzP i:=rfl
theorem zoH (N:Nat) (i:Nat):(T33 N).lp i=qJ6 i:=rfl
theorem zj7 (N:Nat) (i:Nat):(T33 N).ex i=qSK i:=rfl
theorem zgS (N:Nat) (i:Nat):(T33 N).rg i=qOh i:=rfl
theorem zar (N:Nat) (i:Nat):(T33 N).jn i=qPa i:=rfl
theorem zk1 (N:Nat):(T33 N).fuel=N:=rfl
theorem zj9 (N:Nat) (v0:Val Y42):qe tt Γ33 (T33 N) (Tryz.f33.body.getD .skip) (qt tt true [i50] [.cell 2 50]) (qw [i42] 12 (v0,()))=m33 N v0:=by
 rw [m33];unfold Tryz.f33
 simp (maxSteps:=10000000) -implicitDefEqProofs [zdS,qzP,zoH,qJ6,zj7,qSK,zgS,qOh,zar,qPa,zk1,zbr,zkX,qzy]
 try rfl
def g33:G:={ps:=[i42],rs:=[i50],dp:=true,pre:=fun x=>qeD x.1,fn:=fun x=>(qo x.1,())}
theorem e33 (x:Val Y42) (h:qeD x): ∃N,m33 N x=some (qo x,()):=⟨0,by
 obtain ⟨s0,s1⟩:=h
 rw [m33,qd (show qCv _ from s1)]
 rfl⟩
theorem s33:Sound Tryz.prog 33 g33:=qx (tt:=tt) (Γ:=Γ33) hT (qg zeA qu) hm (fn:=Tryz.f33) Tryz.func33 (c:=Tryz.f33.body.getD .skip) (by kernel_rfl) (by kernel_rfl) fun x hx=>by
 obtain ⟨N,h⟩:=e33 x.1 hx
 exact ⟨T33 N,p33,qy _,zdK N,(zj9 N x.1).trans h⟩
def qjA (x y:List (Val (.int .i64))):Bool:=eqV (.slice 3 (.int .i64)) x y
def qoQ (x _:List (Val (.int .i64))):Prop:=Bd (.slice 3 (.int .i64)) x
noncomputable def qkb (N:Nat) (v2:List (Val (.int .i64))) (v3:List (Val (.int .i64))) (k0:Unit→Option (qc [i4])):Nat→Int→Option (qc [i4])
 | 0,_=>none
 | n+1,v4=>bif (decide (v4<(v2.length:Int)))then (chk (0≤v4∧v4<(v2.length:Int)) (chk (0≤v4∧v4<(v3.length:Int)) (bif (!(decide (((v2.getD v4.toNat (qb (.int .i64))):Int)=((v3.getD v4.toNat (qb (.int .i64))):Int))))then (some (false,()))else (qkb N v2 v3 k0 n (IntKind.i64.wrap (v4+(1:Int)))))))else (k0 ())
noncomputable def m29 (N:Nat) (v0:List (Val (.int .i64))) (v1:List (Val (.int .i64))):Option (qc [i4]):=bif (!(decide ((v0.length:Int)=(v1.length:Int))))then (some (false,()))else (qkb N v0 v1 (fun (_:Unit)=>some (true,())) N (0:Int))
def Γ29:Gam:=[]
def qvu:Nm:=⟨[true,true,false,false,false,true],[],false⟩
theorem qT6:qvu.zero=false:=rfl
theorem qMk:qvu.fix=[]:=rfl
theorem qWZ:qvu.keep=[true,true,false,false,false,true]:=rfl
def qEf:Nm:=⟨[],[],false⟩
theorem qSE:qEf.zero=false:=rfl
theorem qG1:qEf.fix=[]:=rfl
theorem qRQ:qEf.keep=[]:=rfl
def qoG:Nat→Tree:=fun i=>if i=6 then .quiet 0 (.quiet 1 (.quiet 2 (.quiet 3 (.quiet 4 (.quiet 5 (.quiet 6 (.quiet 7 (.quiet 8 .done))))))))else .done
def qs3:Nat→Nm:=fun i=>if i=4 then qvu else ⟨[],[],false⟩
def qpB:Nat→Option Jn:=fun _=>none
def qtO:Nat→Option Nm:=fun i=>if i=0 then some qEf else none
def qvF:Nat→Option Nm:=fun _=>none
theorem p29:qn qoG (Tryz.f29.body.getD .skip)=true:=by kernel_rfl
def T29 (N:Nat):Tab:={tr:=qoG,lp:=qs3,ex:=qtO,rg:=qvF,jn:=qpB,fuel:=N}
theorem qRo (N:Nat):(T29 N).pins=false:=rfl
theorem zoJ (N:Nat):qp Tryz.prog (T29 N):=qv fun _=>rfl
theorem qIx (N:Nat) (i:Nat):(T29 N).tr i=qoG i:=rfl
theorem qFI (N:Nat) (i:Nat):(T29 N).lp i=qs3 i:=rfl
theorem qGy (N:Nat) (i:Nat):(T29 N).ex i=qtO i:=rfl
theorem qGY (N:Nat) (i:Nat):(T29 N).rg i=qvF i:=rfl
theorem qNj (N:Nat) (i:Nat):(T29 N).jn i=qpB i:=rfl
theorem qTb (N:Nat):(T29 N).fuel=N:=rfl
noncomputable def q2U:Code:=cut [true,true,false,true,true,true] (Tryz.f29.body.getD .skip)
theorem q6K {N:Nat} {Q:X→St→Option (qc [i4])} {e:List LV} {h:List Blk}:qe tt Γ29 (T29 N) q2U Q ⟨e,h⟩=qe tt Γ29 (T29 N) (cut [true,true,false,true,true,true] (Tryz.f29.body.getD .skip)) Q ⟨e,h⟩:=rfl
theorem zfm (N:Nat) (v2:List (Val (.int .i64))) (v3:List (Val (.int .i64))) {k0:Unit→Option (qc [i4])} {Q:X→St→Option (qc [i4])} {c:Code} (hc:c=q2U) (hret: ∀st,Q .ret st=qI tt true [i4] [.tmp 4] st) (h0:Q (.exit 0) ⟨[u,u,u,u,u,u,u,u,u,u,u,u,u,u,u,u,u,u,u,u,u,u,u,u,u,u],[]⟩=k0 ()): ∀(n:Nat) (v4:Int),qE (qe tt Γ29 (T29 N) c) false qvu Q n ⟨[.one (.sl 3 (.int .i64) v2 0),.one (.sl 3 (.int .i64) v3 0),u,u,u,.one (.int .i64 v4),u,u,u,u,u,u,u,u,u,u,u,u,u,u,u,u,u,u,u,u],[]⟩=qkb N v2 v3 k0 n v4:=by
 subst hc;intro n;induction n with
 | zero=>intros;rfl
 | succ n ih=>
   intro v4
   rw [qN,q6K,qkb];unfold Tryz.f29
   simp (maxSteps:=10000000) -implicitDefEqProofs [qIx,qoG,qFI,qs3,qGy,qtO,qGY,qvF,qNj,qpB,qTb,qRo,qMk,qWZ,qT6,qG1,qRQ,qSE,hret,h0,ih]
theorem zmi (N:Nat) (v0:List (Val (.int .i64))) (v1:List (Val (.int .i64))):qe tt Γ29 (T29 N) (Tryz.f29.body.getD .skip) (qt tt true [i4] [.tmp 4]) (qw [i25,i25] 26 (v0,v1,()))=m29 N v0 v1:=by
 unfold Tryz.f29
 simp (maxSteps:=10000000) -implicitDefEqProofs [qIx,qoG,qFI,qs3,qGy,qtO,qGY,qvF,qNj,qpB,qTb,qRo,qMk,qWZ,qT6,qG1,qRQ,qSE]
 rewrite [zfm (k0:=(fun (_:Unit)=>some (true,()))) N _ _ ?_ ?_ ?_]
 ·rewrite [m29];first | rfl | simp (maxSteps:=10000000) -implicitDefEqProofs []
 ·rfl
 ·intro;simp only [qJ,qL,qK,qB]
 ·simp (maxSteps:=10000000) -implicitDefEqProofs [qIx,qoG,qFI,qs3,qGy,qtO,qGY,qvF,qNj,qpB,qTb,qRo,qMk,qWZ,qT6,qG1,qRQ,qSE]
def g29:G:={ps:=[i25,i25],rs:=[i4],dp:=true,pre:=fun x=>qoQ x.1 x.2.1,fn:=fun x=>(qjA x.1 x.2.1,())}
theorem e29 (x y:List (Val (.int .i64))) (h:qoQ x y): ∃N,m29 N x y=some (qjA x y,()):=⟨List.length x+1,by
 rw [m29,qaG]
 rw [qjA,eqS]
 by_cases c:List.length x=List.length y
 ·rw [qk (by omega)]
  refine (qr9 (f:=eqV (.int .i64)) (xs:=x) (ys:=y) (F:=fun n i=>qkb _ x y _ n i) (k:=fun _=>some (true,())) (r:=some (false,())) h.1 c (fun n i hi hi2=> ?_) (fun n i hi=> ?_) _ (Nat.lt_succ_self _)).trans qp1
  ·rw [qkb,qk (by omega),qd (by omega),qd (by omega),qF hi,qF hi2,qaG]
   rfl
  ·rw [qkb,qj (by omega)]
 ·rw [qj (by omega),qoq _ _ c]⟩
theorem s29:Sound Tryz.prog 29 g29:=qx (tt:=tt) (Γ:=Γ29) hT qu hm (fn:=Tryz.f29) Tryz.func29 (c:=Tryz.f29.body.getD .skip) (by kernel_rfl) (by kernel_rfl) fun x hx=>by
 obtain ⟨N,h⟩:=e29 x.1 x.2.1 hx
 exact ⟨T29 N,p29,qy _,zoJ N,(zmi N x.1 x.2.1).trans h⟩
def qS2 (x y:Val qa):Bool:=eqV qa x y
def qxT (x _:Val qa):Prop:=Bd qa x
noncomputable def qBc (N:Nat) (v0:Val qa) (v1:Val qa):Option (qc [i4]):=chk (qoQ (v0.1:List (Val (.int .i64))) (v1.1:List (Val (.int .i64)))) (bif (!((qjA (v0.1:List (Val (.int .i64))) (v1.1:List (Val (.int .i64)))):Bool))then (some (false,()))else (bif (!(decide ((v0.2.1:Int)=(v1.2.1:Int))))then (some (false,()))else (bif (!((v0.2.2:Bool)==(v1.2.2:Bool)))then (some (false,()))else (some (true,())))))
def qX5:Gam:=[(29,g29)]
theorem zjg:Gam.get qX5 29=some g29:=rfl
def qyE:Nat→Tree:=fun _=> .done
def qOy:Nat→Nm:=fun _=>⟨[],[],false⟩
def qIQ:Nat→Option Jn:=fun _=>none
def qFU:Nat→Option Nm:=fun _=>none
def qQ1:Nat→Option Nm:=fun _=>none
theorem zpK:qn qyE (Tryz.f183.body.getD .skip)=true:=by kernel_rfl
def qga (N:Nat):Tab:={tr:=qyE,lp:=qOy,ex:=qFU,rg:=qQ1,jn:=qIQ,fuel:=N}
theorem zfw (N:Nat):(qga N).pins=false:=rfl
theorem q5d (N:Nat):qp Tryz.prog (qga N):=qv fun _=>rfl
theorem zpa (N:Nat) (i:Nat):(qga N).tr i=qyE i:=rfl
theorem zng (N:Nat) (i:Nat):(qga N).lp i=qOy i:=rfl
theorem q44 (N:Nat) (i:Nat):(qga N).ex i=qFU i:=rfl
theorem ziC (N:Nat) (i:Nat):(qga N).rg i=qQ1 i:=rfl
theorem zcy (N:Nat) (i:Nat):(qga N).jn i=qIQ i:=rfl
theorem q5Z (N:Nat):(qga N).fuel=N:=rfl
theorem zpX (N:Nat) (v0:Val qa) (v1:Val qa):qe tt qX5 (qga N) (Tryz.f183.body.getD .skip) (qt tt true [i4] [.tmp 4]) (qw [qr,qr] 21 (v0,v1,()))=qBc N v0 v1:=by
 rw [qBc];unfold Tryz.f183
 simp (maxSteps:=10000000) -implicitDefEqProofs [zpa,qyE,zng,qOy,q44,qFU,ziC,qQ1,zcy,qIQ,q5Z,zfw,zjg,g29]
 try rfl
def qor:G:={ps:=[qr,qr],rs:=[i4],dp:=true,pre:=fun x=>qxT x.1 x.2.1,fn:=fun x=>(qS2 x.1 x.2.1,())}
theorem zna (x y:Val qa) (h:qxT x y): ∃N,qBc N x y=some (qS2 x y,()):=⟨0,by
 obtain ⟨s0,s1,s2⟩:=h
 rw [qBc,qd (show qoQ _ _ from s0)]
 obtain ⟨x0,x1,x2⟩:=x
 obtain ⟨y0,y1,y2⟩:=y
 change _=some ((eqV (.slice 3 (.int .i64)) x0 y0&&(eqV (.int .i64) x1 y1&&eqV .bool x2 y2)),())
 simp only [qaG]
 show _=_
 generalize he0:eqV (.slice 3 (.int .i64)) x0 y0=e0
 have hd0:qjA x0 y0=e0:=he0
 generalize he1:eqV (.int .i64) x1 y1=e1
 have hd1:decide ((x1:Int)=y1)=e1:=he1
 generalize he2:eqV .bool x2 y2=e2
 have hd2:((x2:Bool)==y2)=e2:=he2
 simp only [hd0,hd1,hd2]
 cases e0<;>cases e1<;>cases e2<;>rfl⟩
theorem zjM:Sound Tryz.prog 183 qor:=qx (tt:=tt) (Γ:=qX5) hT (qg s29 qu) hm (fn:=Tryz.f183) Tryz.func183 (c:=Tryz.f183.body.getD .skip) (by kernel_rfl) (by kernel_rfl) fun x hx=>by
 obtain ⟨N,h⟩:=zna x.1 x.2.1 hx
 exact ⟨qga N,zpK,qy _,q5d N,(zpX N x.1 x.2.1).trans h⟩
def qxh (x y:List (Val qa)):Bool:=eqV (.slice 108 qa) x y
def qBt (x _:List (Val qa)):Prop:=Bd (.slice 108 qa) x
noncomputable def qj2 (N:Nat) (v2:List (Val qa)) (v3:List (Val qa)) (k0:Unit→Option (qc [i4])):Nat→Int→Option (qc [i4])
 | 0,_=>none
 | n+1,v4=>bif (decide (v4<(v2.length:Int)))then (chk (0≤v4∧v4<(v2.length:Int)) (chk (0≤v4∧v4<(v3.length:Int)) (chk (qxT (v2.getD v4.toNat (qb qa)) (v3.getD v4.toNat (qb qa))) (bif (!((qS2 (v2.getD v4.toNat (qb qa)) (v3.getD v4.toNat (qb qa))):Bool))then (some (false,()))else (qj2 N v2 v3 k0 n (IntKind.i64.wrap (v4+(1:Int))))))))else (k0 ())
noncomputable def qBs (N:Nat) (v0:List (Val qa)) (v1:List (Val qa)):Option (qc [i4]):=bif (!(decide ((v0.length:Int)=(v1.length:Int))))then (some (false,()))else (qj2 N v0 v1 (fun (_:Unit)=>some (true,())) N (0:Int))
def qnN:Gam:=[(183,qor)]
theorem qXY:Gam.get qnN 183=some qor:=rfl
def qvU:Nm:=⟨[true,true,false,false,false,true],[],false⟩
theorem qJ4:qvU.zero=false:=rfl
theorem qWw:qvU.fix=[]:=rfl
theorem qFo:qvU.keep=[true,true,false,false,false,true]:=rfl
def qBn:Nm:=⟨[],[],false⟩
theorem qKa:qBn.zero=false:=rfl
theorem qMU:qBn.fix=[]:=rfl
theorem qFN:qBn.keep=[]:=rfl
def qm0:Nat→Tree:=fun i=>if i=6 then .quiet 0 (.quiet 1 (.quiet 2 (.quiet 3 (.quiet 4 (.quiet 5 (.quiet 6 (.quiet 7 (.alt 8 (.quiet 9 .done) .stop))))))))else .done
def qtq:Nat→Nm:=fun i=>if i=4 then qvU else ⟨[],[],false⟩
def qpv:Nat→Option Jn:=fun _=>none
def qsn:Nat→Option Nm:=fun i=>if i=0 then some qBn else none
def qul:Nat→Option Nm:=fun _=>none
theorem q6j:qn qm0 (Tryz.f115.body.getD .skip)=true:=by kernel_rfl
def qdJ (N:Nat):Tab:={tr:=qm0,lp:=qtq,ex:=qsn,rg:=qul,jn:=qpv,fuel:=N}
theorem qU6 (N:Nat):(qdJ N).pins=false:=rfl
theorem zjB (N:Nat):qp Tryz.prog (qdJ N):=qv fun _=>rfl
theorem qVa (N:Nat) (i:Nat):(qdJ N).tr i=qm0 i:=rfl
theorem qF5 (N:Nat) (i:Nat):(qdJ N).lp i=qtq i:=rfl
theorem qPP (N:Nat) (i:Nat):(qdJ N).ex i=qsn i:=rfl
theorem qOd (N:Nat) (i:Nat):(qdJ N).rg i=qul i:=rfl
theorem qOV (N:Nat) (i:Nat):(qdJ N).jn i=qpv i:=rfl
theorem qRb (N:Nat):(qdJ N).fuel=N:=rfl
noncomputable def q0P:Code:=cut [true,true,false,true,true,true] (Tryz.f115.body.getD .skip)
theorem ziI {N:Nat} {Q:X→St→Option (qc [i4])} {e:List LV} {h:List Blk}:qe tt qnN (qdJ N) q0P Q ⟨e,h⟩=qe tt qnN (qdJ N) (cut [true,true,false,true,true,true] (Tryz.f115.body.getD .skip)) Q ⟨e,h⟩:=rfl
theorem zn5 (N:Nat) (v2:List (Val qa)) (v3:List (Val qa)) {k0:Unit→Option (qc [i4])} {Q:X→St→Option (qc [i4])} {c:Code} (hc:c=q0P) (hret: ∀st,Q .ret st=qI tt true [i4] [.tmp 4] st) (h0:Q (.exit 0) ⟨[u,u,u,u,u,u,u,u,u,u,u,u,u,u,u,u,u,u,u,u,u,u,u,u,u,u,u],[]⟩=k0 ()): ∀(n:Nat) (v4:Int),qE (qe tt qnN (qdJ N) c) false qvU Q n ⟨[.one (.sl 108 qa v2 0),.one (.sl 108 qa v3 0),u,u,u,.one (.int .i64 v4),u,u,u,u,u,u,u,u,u,u,u,u,u,u,u,u,u,u,u,u,u],[]⟩=qj2 N v2 v3 k0 n v4:=by
 subst hc;intro n;induction n with
 | zero=>intros;rfl
 | succ n ih=>
   intro v4
   rw [qN,ziI,qj2];unfold Tryz.f115
   simp (maxSteps:=10000000) -implicitDefEqProofs [qVa,qm0,qF5,qtq,qPP,qsn,qOd,qul,qOV,qpv,qRb,qU6,qWw,qFo,qJ4,qMU,qFN,qKa,qXY,qor,hret,h0,ih]
theorem zbB (N:Nat) (v0:List (Val qa)) (v1:List (Val qa)):qe tt qnN (qdJ N) (Tryz.f115.body.getD .skip) (qt tt true [i4] [.tmp 4]) (qw [i31,i31] 27 (v0,v1,()))=qBs N v0 v1:=by
 unfold Tryz.f115
 simp (maxSteps:=10000000) -implicitDefEqProofs [qVa,qm0,qF5,qtq,qPP,qsn,qOd,qul,qOV,qpv,qRb,qU6,qWw,qFo,qJ4,qMU,qFN,qKa,qXY,qor]
 rewrite [zn5 (k0:=(fun (_:Unit)=>some (true,()))) N _ _ ?_ ?_ ?_]
 ·rewrite [qBs];first | rfl | simp (maxSteps:=10000000) -implicitDefEqProofs []
 ·rfl
 ·intro;simp only [qJ,qL,qK,qB]
 ·simp (maxSteps:=10000000) -implicitDefEqProofs [qVa,qm0,qF5,qtq,qPP,qsn,qOd,qul,qOV,qpv,qRb,qU6,qWw,qFo,qJ4,qMU,qFN,qKa,qXY,qor]
def qDn:G:={ps:=[i31,i31],rs:=[i4],dp:=true,pre:=fun x=>qBt x.1 x.2.1,fn:=fun x=>(qxh x.1 x.2.1,())}
theorem q6d (x y:List (Val qa)) (h:qBt x y): ∃N,qBs N x y=some (qxh x y,()):=⟨List.length x+1,by
 rw [qBs,qaG]
 rw [qxh,eqS]
 by_cases c:List.length x=List.length y
 ·rw [qk (by omega)]
  refine (qr9 (f:=eqV qa) (xs:=x) (ys:=y) (F:=fun n i=>qj2 _ x y _ n i) (k:=fun _=>some (true,())) (r:=some (false,())) h.1 c (fun n i hi hi2=> ?_) (fun n i hi=> ?_) _ (Nat.lt_succ_self _)).trans qp1
  ·rw [qj2,qk (by omega),qd (by omega),qd (by omega),qd (show qxT _ _ from by rw [qF hi];exact h.2 _ (List.getElem_mem hi)),qF hi,qF hi2,qaG]
   rfl
  ·rw [qj2,qj (by omega)]
 ·rw [qj (by omega),qoq _ _ c]⟩
theorem zfd:Sound Tryz.prog 115 qDn:=qx (tt:=tt) (Γ:=qnN) hT (qg zjM qu) hm (fn:=Tryz.f115) Tryz.func115 (c:=Tryz.f115.body.getD .skip) (by kernel_rfl) (by kernel_rfl) fun x hx=>by
 obtain ⟨N,h⟩:=q6d x.1 x.2.1 hx
 exact ⟨qdJ N,q6j,qy _,zjB N,(zbB N x.1 x.2.1).trans h⟩
def qqJ (x y:Val Y33):Bool:=eqV Y33 x y
def qoB (x _:Val Y33):Prop:=Bd Y33 x
noncomputable def m28 (N:Nat) (v0:Val Y33) (v1:Val Y33):Option (qc [i4]):=bif (!(decide ((v0.1:Int)=(v1.1:Int))))then (some (false,()))else (chk (qBt (v0.2:List (Val qa)) (v1.2:List (Val qa))) (bif (!((qxh (v0.2:List (Val qa)) (v1.2:List (Val qa))):Bool))then (some (false,()))else (some (true,()))))
def Γ28:Gam:=[(115,qDn)]
theorem zer:Gam.get Γ28 115=some qDn:=rfl
def qAT:Nat→Tree:=fun _=> .done
def qKo:Nat→Nm:=fun _=>⟨[],[],false⟩
def qLo:Nat→Option Jn:=fun _=>none
def qWL:Nat→Option Nm:=fun _=>none
def qNB:Nat→Option Nm:=fun _=>none
theorem p28:qn qAT (Tryz.f28.body.getD .skip)=true:=by kernel_rfl
def T28 (N:Nat):Tab:={tr:=qAT,lp:=qKo,ex:=qWL,rg:=qNB,jn:=qLo,fuel:=N}
theorem zhY (N:Nat):(T28 N).pins=false:=rfl
theorem zac (N:Nat):qp Tryz.prog (T28 N):=qv fun _=>rfl
theorem znt (N:Nat) (i:Nat):(T28 N).tr i=qAT i:=rfl
theorem zbO (N:Nat) (i:Nat):(T28 N).lp i=qKo i:=rfl
theorem zdj (N:Nat) (i:Nat):(T28 N).ex i=qWL i:=rfl
theorem zhp (N:Nat) (i:Nat):(T28 N).rg i=qNB i:=rfl
theorem q84 (N:Nat) (i:Nat):(T28 N).jn i=qLo i:=rfl
theorem zot (N:Nat):(T28 N).fuel=N:=rfl
theorem zkO (N:Nat) (v0:Val Y33) (v1:Val Y33):qe tt Γ28 (T28 N) (Tryz.f28.body.getD .skip) (qt tt true [i4] [.tmp 4]) (qw [i33,i33] 16 (v0,v1,()))=m28 N v0 v1:=by
 rw [m28];unfold Tryz.f28
 simp (maxSteps:=10000000) -implicitDefEqProofs [znt,qAT,zbO,qKo,zdj,qWL,zhp,qNB,q84,qLo,zot,zhY,zer,qDn]
 try rfl
def g28:G:={ps:=[i33,i33],rs:=[i4],dp:=true,pre:=fun x=>qoB x.1 x.2.1,fn:=fun x=>(qqJ x.1 x.2.1,())}
theorem e28 (x y:Val Y33) (h:qoB x y): ∃N,m28 N x y=some (qqJ x y,()):=⟨0,by
 obtain ⟨s0,s1⟩:=h
 rw [m28,qd (show qBt _ _ from s1)]
 obtain ⟨x0,x1⟩:=x
 obtain ⟨y0,y1⟩:=y
 change _=some ((eqV (.int .i64) x0 y0&&eqV (.slice 108 qa) x1 y1),())
 simp only [qaG]
 show _=_
 generalize he0:eqV (.int .i64) x0 y0=e0
 have hd0:decide ((x0:Int)=y0)=e0:=he0
 generalize he1:eqV (.slice 108 qa) x1 y1=e1
 have hd1:qxh x1 y1=e1:=he1
 simp only [hd0,hd1]
 cases e0<;>cases e1<;>rfl⟩
theorem s28:Sound Tryz.prog 28 g28:=qx (tt:=tt) (Γ:=Γ28) hT (qg zfd qu) hm (fn:=Tryz.f28) Tryz.func28 (c:=Tryz.f28.body.getD .skip) (by kernel_rfl) (by kernel_rfl) fun x hx=>by
 obtain ⟨N,h⟩:=e28 x.1 x.2.1 hx
 exact ⟨T28 N,p28,qy _,zac N,(zkO N x.1 x.2.1).trans h⟩
def qqX (x y:List (Val Y33)):Bool:=eqV (.slice 33 Y33) x y
def qAy (x _:List (Val Y33)):Prop:=Bd (.slice 33 Y33) x
noncomputable def ql6 (N:Nat) (v2:List (Val Y33)) (v3:List (Val Y33)) (k0:Unit→Option (qc [i4])):Nat→Int→Option (qc [i4])
 | 0,_=>none
 | n+1,v4=>bif (decide (v4<(v2.length:Int)))then (chk (0≤v4∧v4<(v2.length:Int)) (chk (0≤v4∧v4<(v3.length:Int)) (chk (qoB (v2.getD v4.toNat (qb Y33)) (v3.getD v4.toNat (qb Y33))) (bif (!((qqJ (v2.getD v4.toNat (qb Y33)) (v3.getD v4.toNat (qb Y33))):Bool))then (some (false,()))else (ql6 N v2 v3 k0 n (IntKind.i64.wrap (v4+(1:Int))))))))else (k0 ())
noncomputable def qDl (N:Nat) (v0:List (Val Y33)) (v1:List (Val Y33)):Option (qc [i4]):=bif (!(decide ((v0.length:Int)=(v1.length:Int))))then (some (false,()))else (ql6 N v0 v1 (fun (_:Unit)=>some (true,())) N (0:Int))
def qog:Gam:=[(28,g28)]
theorem qUG:Gam.get qog 28=some g28:=rfl
def qpF:Nm:=⟨[true,true,false,false,false,true],[],false⟩
theorem qSo:qpF.zero=false:=rfl
theorem qHm:qpF.fix=[]:=rfl
theorem qVR:qpF.keep=[true,true,false,false,false,true]:=rfl
def qBX:Nm:=⟨[],[],false⟩
theorem qKC:qBX.zero=false:=rfl
theorem qOb:qBX.fix=[]:=rfl
theorem qKy:qBX.keep=[]:=rfl
def qon:Nat→Tree:=fun i=>if i=6 then .quiet 0 (.quiet 1 (.quiet 2 (.quiet 3 (.quiet 4 (.quiet 5 (.quiet 6 (.quiet 7 (.alt 8 (.quiet 9 .done) .stop))))))))else .done
def qqp:Nat→Nm:=fun i=>if i=4 then qpF else ⟨[],[],false⟩
def qwI:Nat→Option Jn:=fun _=>none
def qta:Nat→Option Nm:=fun i=>if i=0 then some qBX else none
def qtH:Nat→Option Nm:=fun _=>none
theorem q74:qn qon (Tryz.f128.body.getD .skip)=true:=by kernel_rfl
def qds (N:Nat):Tab:={tr:=qon,lp:=qqp,ex:=qta,rg:=qtH,jn:=qwI,fuel:=N}
theorem qLz (N:Nat):(qds N).pins=false:=rfl
theorem zj5 (N:Nat):qp Tryz.prog (qds N):=qv fun _=>rfl
theorem qOe (N:Nat) (i:Nat):(qds N).tr i=qon i:=rfl
theorem qUj (N:Nat) (i:Nat):(qds N).lp i=qqp i:=rfl
theorem qKp (N:Nat) (i:Nat):(qds N).ex i=qta i:=rfl
theorem qSH (N:Nat) (i:Nat):(qds N).rg i=qtH i:=rfl
theorem qUU (N:Nat) (i:Nat):(qds N).jn i=qwI i:=rfl
theorem qKH (N:Nat):(qds N).fuel=N:=rfl
noncomputable def qYn:Code:=cut [true,true,false,true,true,true] (Tryz.f128.body.getD .skip)
theorem zc2 {N:Nat} {Q:X→St→Option (qc [i4])} {e:List LV} {h:List Blk}:qe tt qog (qds N) qYn Q ⟨e,h⟩=qe tt qog (qds N) (cut [true,true,false,true,true,true] (Tryz.f128.body.getD .skip)) Q ⟨e,h⟩:=rfl
theorem zhA (N:Nat) (v2:List (Val Y33)) (v3:List (Val Y33)) {k0:Unit→Option (qc [i4])} {Q:X→St→Option (qc [i4])} {c:Code} (hc:c=qYn) (hret: ∀st,Q .ret st=qI tt true [i4] [.tmp 4] st) (h0:Q (.exit 0) ⟨[u,u,u,u,u,u,u,u,u,u,u,u,u,u,u,u,u,u,u,u,u,u,u,u,u,u,u],[]⟩=k0 ()): ∀(n:Nat) (v4:Int),qE (qe tt qog (qds N) c) false qpF Q n ⟨[.one (.sl 33 Y33 v2 0),.one (.sl 33 Y33 v3 0),u,u,u,.one (.int .i64 v4),u,u,u,u,u,u,u,u,u,u,u,u,u,u,u,u,u,u,u,u,u],[]⟩=ql6 N v2 v3 k0 n v4:=by
 subst hc;intro n;induction n with
 | zero=>intros;rfl
 | succ n ih=>
   intro v4
   rw [qN,zc2,ql6];unfold Tryz.f128
   simp (maxSteps:=10000000) -implicitDefEqProofs [qOe,qon,qUj,qqp,qKp,qta,qSH,qtH,qUU,qwI,qKH,qLz,qHm,qVR,qSo,qOb,qKy,qKC,qUG,g28,hret,h0,ih]
theorem zpg (N:Nat) (v0:List (Val Y33)) (v1:List (Val Y33)):qe tt qog (qds N) (Tryz.f128.body.getD .skip) (qt tt true [i4] [.tmp 4]) (qw [i48,i48] 27 (v0,v1,()))=qDl N v0 v1:=by
 unfold Tryz.f128
 simp (maxSteps:=10000000) -implicitDefEqProofs [qOe,qon,qUj,qqp,qKp,qta,qSH,qtH,qUU,qwI,qKH,qLz,qHm,qVR,qSo,qOb,qKy,qKC,qUG,g28]
 rewrite [zhA (k0:=(fun (_:Unit)=>some (true,()))) N _ _ ?_ ?_ ?_]
 ·rewrite [qDl];first | rfl | simp (maxSteps:=10000000) -implicitDefEqProofs []
 ·rfl
 ·intro;simp only [qJ,qL,qK,qB]
 ·simp (maxSteps:=10000000) -implicitDefEqProofs [qOe,qon,qUj,qqp,qKp,qta,qSH,qtH,qUU,qwI,qKH,qLz,qHm,qVR,qSo,qOb,qKy,qKC,qUG,g28]
def qzM:G:={ps:=[i48,i48],rs:=[i4],dp:=true,pre:=fun x=>qAy x.1 x.2.1,fn:=fun x=>(qqX x.1 x.2.1,())}
theorem zmD (x y:List (Val Y33)) (h:qAy x y): ∃N,qDl N x y=some (qqX x y,()):=⟨List.length x+1,by
 rw [qDl,qaG]
 rw [qqX,eqS]
 by_cases c:List.length x=List.length y
 ·rw [qk (by omega)]
  refine (qr9 (f:=eqV Y33) (xs:=x) (ys:=y) (F:=fun n i=>ql6 _ x y _ n i) (k:=fun _=>some (true,())) (r:=some (false,())) h.1 c (fun n i hi hi2=> ?_) (fun n i hi=> ?_) _ (Nat.lt_succ_self _)).trans qp1
  ·rw [ql6,qk (by omega),qd (by omega),qd (by omega),qd (show qoB _ _ from by rw [qF hi];exact h.2 _ (List.getElem_mem hi)),qF hi,qF hi2,qaG]
   rfl
  ·rw [ql6,qj (by omega)]
 ·rw [qj (by omega),qoq _ _ c]⟩
theorem zhf:Sound Tryz.prog 128 qzM:=qx (tt:=tt) (Γ:=qog) hT (qg s28 qu) hm (fn:=Tryz.f128) Tryz.func128 (c:=Tryz.f128.body.getD .skip) (by kernel_rfl) (by kernel_rfl) fun x hx=>by
 obtain ⟨N,h⟩:=zmD x.1 x.2.1 hx
 exact ⟨qds N,q74,qy _,zj5 N,(zpg N x.1 x.2.1).trans h⟩
def qoO (x y:Val Y50):Bool:=eqV Y50 x y
def qoP (x _:Val Y50):Prop:=Bd Y50 x
noncomputable def m36 (N:Nat) (v0:Val Y50) (v1:Val Y50):Option (qc [i4]):=bif (!(decide ((v0.1:Int)=(v1.1:Int))))then (some (false,()))else (chk (qAy (v0.2:List (Val Y33)) (v1.2:List (Val Y33))) (bif (!((qqX (v0.2:List (Val Y33)) (v1.2:List (Val Y33))):Bool))then (some (false,()))else (some (true,()))))
def Γ36:Gam:=[(128,qzM)]
theorem zqG:Gam.get Γ36 128=some qzM:=rfl
def qzk:Nat→Tree:=fun _=> .done
def qN4:Nat→Nm:=fun _=>⟨[],[],false⟩
def qR6:Nat→Option Jn:=fun _=>none
def qFO:Nat→Option Nm:=fun _=>none
def qMN:Nat→Option Nm:=fun _=>none
theorem p36:qn qzk (Tryz.f36.body.getD .skip)=true:=by kernel_rfl
def T36 (N:Nat):Tab:={tr:=qzk,lp:=qN4,ex:=qFO,rg:=qMN,jn:=qR6,fuel:=N}
theorem zor (N:Nat):(T36 N).pins=false:=rfl
theorem zdX (N:Nat):qp Tryz.prog (T36 N):=qv fun _=>rfl
theorem zoF (N:Nat) (i:Nat):(T36 N).tr i=qzk i:=rfl
theorem zdm (N:Nat) (i:Nat):(T36 N).lp i=qN4 i:=rfl
theorem zcr (N:Nat) (i:Nat):(T36 N).ex i=qFO i:=rfl
theorem zo0 (N:Nat) (i:Nat):(T36 N).rg i=qMN i:=rfl
theorem zfr (N:Nat) (i:Nat):(T36 N).jn i=qR6 i:=rfl
theorem znY (N:Nat):(T36 N).fuel=N:=rfl
theorem q4W (N:Nat) (v0:Val Y50) (v1:Val Y50):qe tt Γ36 (T36 N) (Tryz.f36.body.getD .skip) (qt tt true [i4] [.tmp 4]) (qw [i50,i50] 16 (v0,v1,()))=m36 N v0 v1:=by
 rw [m36];unfold Tryz.f36
 simp (maxSteps:=10000000) -implicitDefEqProofs [zoF,qzk,zdm,qN4,zcr,qFO,zo0,qMN,zfr,qR6,znY,zor,zqG,qzM]
 try rfl
def g36:G:={ps:=[i50,i50],rs:=[i4],dp:=true,pre:=fun x=>qoP x.1 x.2.1,fn:=fun x=>(qoO x.1 x.2.1,())}
theorem e36 (x y:Val Y50) (h:qoP x y): ∃N,m36 N x y=some (qoO x y,()):=⟨0,by
 obtain ⟨s0,s1⟩:=h
 rw [m36,qd (show qAy _ _ from s1)]
 obtain ⟨x0,x1⟩:=x
 obtain ⟨y0,y1⟩:=y
 change _=some ((eqV (.int .i64) x0 y0&&eqV (.slice 33 Y33) x1 y1),())
 simp only [qaG]
 show _=_
 generalize he0:eqV (.int .i64) x0 y0=e0
 have hd0:decide ((x0:Int)=y0)=e0:=he0
 generalize he1:eqV (.slice 33 Y33) x1 y1=e1
 have hd1:qqX x1 y1=e1:=he1
 simp only [hd0,hd1]
 cases e0<;>cases e1<;>rfl⟩
theorem s36:Sound Tryz.prog 36 g36:=qx (tt:=tt) (Γ:=Γ36) hT (qg zhf qu) hm (fn:=Tryz.f36) Tryz.func36 (c:=Tryz.f36.body.getD .skip) (by kernel_rfl) (by kernel_rfl) fun x hx=>by
 obtain ⟨N,h⟩:=e36 x.1 x.2.1 hx
 exact ⟨T36 N,p36,qy _,zdX N,(q4W N x.1 x.2.1).trans h⟩
end Go.T
