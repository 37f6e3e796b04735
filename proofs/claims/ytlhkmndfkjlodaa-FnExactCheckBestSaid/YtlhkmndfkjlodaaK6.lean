/- The law of CheckBest. -/
import Derived.Test.YtlhkmndfkjlodaaK5
set_option linter.unusedSimpArgs false
set_option linter.unusedVariables false
namespace Go.T
open Go Go.Proofs
set_option maxHeartbeats 4000000
set_option maxRecDepth 100000
def qbt (x:List (Val (.int .i64))) (n:Int):Int:=szV (.slice 3 (.int .i64)) x n
def qf0 (x:List (Val (.int .i64))) (n:Int):Prop:=qeF (.slice 3 (.int .i64)) x n
noncomputable def m54 (N:Nat) (v0:List (Val (.int .i64))) (v1:Int):Option (qa [i3]):=bif (decide ((IntKind.i64.wrap (v1 - (v0.length:Int)))<(0:Int)))then (some ((-1:Int),()))else (some ((IntKind.i64.wrap (v1 - (v0.length:Int))),()))
def Γ54:Gam:=[]
def qnK:Nat→Tree:=fun _=> .done
def qww:Nat→Nm:=fun _=>⟨[],[],false⟩
def qpk:Nat→Option Jn:=fun _=>none
def qsn:Nat→Option Nm:=fun _=>none
def qtm:Nat→Option Nm:=fun _=>none
theorem p54:qg qnK (Try.f54.body.getD .skip)=true:=by kernel_rfl
def T54 (N:Nat):Tab:={tr:=qnK,lp:=qww,ex:=qsn,rg:=qtm,jn:=qpk,fuel:=N}
theorem qQJ (N:Nat):(T54 N).pins=false:=rfl
theorem qMY (N:Nat):qk Try.prog (T54 N):=qn fun _=>rfl
theorem qOq (N:Nat) (i:Nat):(T54 N).tr i=qnK i:=rfl
theorem qIE (N:Nat) (i:Nat):(T54 N).lp i=qww i:=rfl
theorem qP7 (N:Nat) (i:Nat):(T54 N).ex i=qsn i:=rfl
theorem qOT (N:Nat) (i:Nat):(T54 N).rg i=qtm i:=rfl
theorem qIP (N:Nat) (i:Nat):(T54 N).jn i=qpk i:=rfl
theorem qOU (N:Nat):(T54 N).fuel=N:=rfl
theorem qR0 (N:Nat) (v0:List (Val (.int .i64))) (v1:Int):qb tt Γ54 (T54 N) (Try.f54.body.getD .skip) (qh tt true [i3] [.tmp 4]) (ql [i27,i3] 12 (v0,v1,()))=m54 N v0 v1:=by
 rw [m54];unfold Try.f54
 simp (maxSteps:=10000000) -implicitDefEqProofs [qOq,qnK,qIE,qww,qP7,qsn,qOT,qtm,qIP,qpk,qOU,qQJ]
 try rfl
def g54:G:={ps:=[i27,i3],rs:=[i3],dp:=true,pre:=fun x=>qf0 x.1 x.2.1,fn:=fun x=>(qbt x.1 x.2.1,())}
theorem e54 (x:List (Val (.int .i64))) (n:Int) (h:qf0 x n): ∃N,m54 N x n=some (qbt x n,()):=⟨0,by
 obtain ⟨hs,h0,h1⟩:=h
 rw [m54,qr4 h0 h1 hs.1]
 simp only [qbt,qpK]
 by_cases c:n - (List.length x:Int)<0
 ·rw [qi c,if_pos c]
 ·rw [qj c,if_neg c,qM6 (fun _ _=>rfl) _ _ (by omega)]⟩
theorem s54:Sound Try.prog 54 g54:=qq (tt:=tt) (Γ:=Γ54) hT qp hm (fn:=Try.f54) Try.func54 (c:=Try.f54.body.getD .skip) (by kernel_rfl) (by kernel_rfl) fun x hx=>by
 obtain ⟨N,h⟩:=e54 x.1 x.2.1 hx
 exact ⟨T54 N,p54,qm _,qMY N,(qR0 N x.1 x.2.1).trans h⟩
def qdw (x:Val qz) (n:Int):Int:=szV qz x n
def qmY (x:Val qz) (n:Int):Prop:=qeF qz x n
noncomputable def qm9 (N:Nat) (v0:Val qz) (v1:Int):Option (qa [i3]):=chk (qf0 (v0.1:List (Val (.int .i64))) v1) (bif (decide (((qbt (v0.1:List (Val (.int .i64))) v1):Int)<(0:Int)))then (some ((-1:Int),()))else (some (((qbt (v0.1:List (Val (.int .i64))) v1):Int),())))
def qyM:Gam:=[(54,g54)]
theorem qIq:Gam.get qyM 54=some g54:=rfl
def qlA:Nat→Tree:=fun _=> .done
def qwj:Nat→Nm:=fun _=>⟨[],[],false⟩
def quP:Nat→Option Jn:=fun _=>none
def qrM:Nat→Option Nm:=fun _=>none
def qr3:Nat→Option Nm:=fun _=>none
theorem qRU:qg qlA (Try.f101.body.getD .skip)=true:=by kernel_rfl
def qb3 (N:Nat):Tab:={tr:=qlA,lp:=qwj,ex:=qrM,rg:=qr3,jn:=quP,fuel:=N}
theorem qKt (N:Nat):(qb3 N).pins=false:=rfl
theorem qNM (N:Nat):qk Try.prog (qb3 N):=qn fun _=>rfl
theorem qIi (N:Nat) (i:Nat):(qb3 N).tr i=qlA i:=rfl
theorem qHb (N:Nat) (i:Nat):(qb3 N).lp i=qwj i:=rfl
theorem qF6 (N:Nat) (i:Nat):(qb3 N).ex i=qrM i:=rfl
theorem qGb (N:Nat) (i:Nat):(qb3 N).rg i=qr3 i:=rfl
theorem qHY (N:Nat) (i:Nat):(qb3 N).jn i=quP i:=rfl
theorem qRo (N:Nat):(qb3 N).fuel=N:=rfl
theorem qJg (N:Nat) (v0:Val qz) (v1:Int):qb tt qyM (qb3 N) (Try.f101.body.getD .skip) (qh tt true [i3] [.tmp 4]) (ql [qc7,i3] 12 (v0,v1,()))=qm9 N v0 v1:=by
 rw [qm9];unfold Try.f101
 simp (maxSteps:=10000000) -implicitDefEqProofs [qIi,qlA,qHb,qwj,qF6,qrM,qGb,qr3,qHY,quP,qRo,qKt,qIq,g54]
 try rfl
def qgP:G:={ps:=[qc7,i3],rs:=[i3],dp:=true,pre:=fun x=>qmY x.1 x.2.1,fn:=fun x=>(qdw x.1 x.2.1,())}
theorem qKJ (x:Val qz) (n:Int) (h:qmY x n): ∃N,qm9 N x n=some (qdw x n,()):=⟨0,by
 obtain ⟨x0,x1,x2⟩:=x
 obtain ⟨hs,h0,h1⟩:=h
 obtain ⟨s0,s1,s2⟩:=hs
 rw [qm9,qdw]
 dsimp only
 rw [qd (show qf0 x0 n from ⟨s0,h0,h1⟩)]
 by_cases c0:qbt x0 n<0
 ·rw [qi c0,qq2 (show szV (.slice 3 (.int .i64)) x0 n<0 from c0)]
 ·have h00:0≤qbt x0 n:=by omega
  have h10:qbt x0 n≤1048576:=Int.le_trans (qbs (.slice 3 (.int .i64)) x0 n h0).1 h1
  rw [qj c0,qoo (show 0≤szV (.slice 3 (.int .i64)) x0 n from h00)]
  change _=some (szV (.pair (.int .i64) .bool) _ (qbt x0 n),())
  rw [qio h00]
  rfl⟩
theorem qFS:Sound Try.prog 101 qgP:=qq (tt:=tt) (Γ:=qyM) hT (qe s54 qp) hm (fn:=Try.f101) Try.func101 (c:=Try.f101.body.getD .skip) (by kernel_rfl) (by kernel_rfl) fun x hx=>by
 obtain ⟨N,h⟩:=qKJ x.1 x.2.1 hx
 exact ⟨qb3 N,qRU,qm _,qNM N,(qJg N x.1 x.2.1).trans h⟩
def qfP (x:List (Val qz)) (n:Int):Int:=szV (.slice 113 qz) x n
def qlg (x:List (Val qz)) (n:Int):Prop:=qeF (.slice 113 qz) x n
noncomputable def qd6 (N:Nat) (v2:List (Val qz)) (k0:Int→Option (qa [i3])):Nat→Int→Int→Option (qa [i3])
 | 0,_,_=>none
 | n+1,v3,v4=>bif (decide (v4<(v2.length:Int)))then (chk (0≤v4∧v4<(v2.length:Int)) (chk (qmY (v2.getD v4.toNat (qc qz)) v3) (bif (decide (((qdw (v2.getD v4.toNat (qc qz)) v3):Int)<(0:Int)))then (some ((-1:Int),()))else (qd6 N v2 k0 n ((qdw (v2.getD v4.toNat (qc qz)) v3):Int) (IntKind.i64.wrap (v4+(1:Int)))))))else (k0 v3)
noncomputable def m52 (N:Nat) (v0:List (Val qz)) (v1:Int):Option (qa [i3]):=bif (decide ((IntKind.i64.wrap (v1 - (v0.length:Int)))<(0:Int)))then (some ((-1:Int),()))else (qd6 N v0 (fun (v6:Int)=>some (v6,())) N (IntKind.i64.wrap (v1 - (v0.length:Int))) (0:Int))
def Γ52:Gam:=[(101,qgP)]
theorem qpE:Gam.get Γ52 101=some qgP:=rfl
def qkY:Nm:=⟨[true,true,false,false,false,true],[],false⟩
theorem qBf:qkY.zero=false:=rfl
theorem qA1:qkY.fix=[]:=rfl
theorem qBi:qkY.keep=[true,true,false,false,false,true]:=rfl
def qoj:Nm:=⟨[false,true],[],false⟩
theorem qya:qoj.zero=false:=rfl
theorem qso:qoj.fix=[]:=rfl
theorem qAk:qoj.keep=[false,true]:=rfl
def qgW:Nat→Tree:=fun _=> .done
def qjD:Nat→Nm:=fun i=>if i=5 then qkY else ⟨[],[],false⟩
def qha:Nat→Option Jn:=fun _=>none
def qhk:Nat→Option Nm:=fun i=>if i=0 then some qoj else none
def qjk:Nat→Option Nm:=fun _=>none
theorem p52:qg qgW (Try.f52.body.getD .skip)=true:=by kernel_rfl
def T52 (N:Nat):Tab:={tr:=qgW,lp:=qjD,ex:=qhk,rg:=qjk,jn:=qha,fuel:=N}
theorem qu5 (N:Nat):(T52 N).pins=false:=rfl
theorem qFX (N:Nat):qk Try.prog (T52 N):=qn fun _=>rfl
theorem qqN (N:Nat) (i:Nat):(T52 N).tr i=qgW i:=rfl
theorem qrk (N:Nat) (i:Nat):(T52 N).lp i=qjD i:=rfl
theorem qyW (N:Nat) (i:Nat):(T52 N).ex i=qhk i:=rfl
theorem qrU (N:Nat) (i:Nat):(T52 N).rg i=qjk i:=rfl
theorem qyx (N:Nat) (i:Nat):(T52 N).jn i=qha i:=rfl
theorem qz8 (N:Nat):(T52 N).fuel=N:=rfl
noncomputable def qDg:Code:=cut [true,true,true,false,true,true,true] (Try.f52.body.getD .skip)
theorem qHv {N:Nat} {Q:X→St→Option (qa [i3])} {e:List LV} {h:List Blk}:qb tt Γ52 (T52 N) qDg Q ⟨e,h⟩=qb tt Γ52 (T52 N) (cut [true,true,true,false,true,true,true] (Try.f52.body.getD .skip)) Q ⟨e,h⟩:=rfl
theorem qOC (N:Nat) (v2:List (Val qz)) {k0:Int→Option (qa [i3])} {Q:X→St→Option (qa [i3])} {c:Code} (hc:c=qDg) (hret: ∀st,Q .ret st=qy tt true [i3] [.tmp 4] st) (h0: ∀(v5:Int),Q (.exit 0) ⟨[u,.one (.int .i64 v5),u,u,u,u,u,u,u,u,u,u,u,u,u,u,u,u,u,u,u,u,u,u,u,u,u],[]⟩=k0 v5): ∀(n:Nat) (v3:Int) (v4:Int),qx (qb tt Γ52 (T52 N) c) false qkY Q n ⟨[.one (.sl 113 qz v2 0),.one (.int .i64 v3),u,u,u,.one (.int .i64 v4),u,u,u,u,u,u,u,u,u,u,u,u,u,u,u,u,u,u,u,u,u],[]⟩=qd6 N v2 k0 n v3 v4:=by
 subst hc;intro n;induction n with
 | zero=>intros;rfl
 | succ n ih=>
   intro v3 v4
   rw [qI,qHv,qd6];unfold Try.f52
   simp (maxSteps:=10000000) -implicitDefEqProofs [qqN,qgW,qrk,qjD,qyW,qhk,qrU,qjk,qyx,qha,qz8,qu5,qA1,qBi,qBf,qso,qAk,qya,qpE,qgP,hret,h0,ih]
theorem qLf (N:Nat) (v0:List (Val qz)) (v1:Int):qb tt Γ52 (T52 N) (Try.f52.body.getD .skip) (qh tt true [i3] [.tmp 4]) (ql [i38,i3] 27 (v0,v1,()))=m52 N v0 v1:=by
 unfold Try.f52
 simp (maxSteps:=10000000) -implicitDefEqProofs [qqN,qgW,qrk,qjD,qyW,qhk,qrU,qjk,qyx,qha,qz8,qu5,qA1,qBi,qBf,qso,qAk,qya,qpE,qgP]
 rewrite [qOC (k0:=(fun (v6:Int)=>some (v6,()))) N _ ?_ ?_ ?_]
 ·rewrite [m52];first | rfl | simp (maxSteps:=10000000) -implicitDefEqProofs []
 ·rfl
 ·intro;simp only [qD,qE,qF,qC]
 ·intro v6;simp (maxSteps:=10000000) -implicitDefEqProofs [qqN,qgW,qrk,qjD,qyW,qhk,qrU,qjk,qyx,qha,qz8,qu5,qA1,qBi,qBf,qso,qAk,qya,qpE,qgP]
def g52:G:={ps:=[i38,i3],rs:=[i3],dp:=true,pre:=fun x=>qlg x.1 x.2.1,fn:=fun x=>(qfP x.1 x.2.1,())}
theorem e52 (x:List (Val qz)) (n:Int) (h:qlg x n): ∃N,m52 N x n=some (qfP x n,()):=⟨List.length x+1,by
 obtain ⟨hs,h0,h1⟩:=h
 rw [m52,qr4 h0 h1 hs.1]
 simp only [qfP,qpK]
 by_cases c:n - (List.length x:Int)<0
 ·rw [qi c,if_pos c]
 ·rw [qj c,if_neg c]
  refine (q4 (F:=fun n i s=>qd6 _ x _ n s i) (step:=fun _ y (s:Int) K=>chk (qmY y s) (bif decide (qdw y s<0)then some ((-1:Int),())else K (qdw y s))) (k:=fun s=>some (s,())) (by omega) (fun n i s hi=> ?_) (fun n i s hi=> ?_) _ _ (Nat.lt_succ_self _)).trans (qEE (t:=qz) x 0 _ (by omega) (by omega) hs.2)
  ·rw [qd6,qi (by omega),qd (by omega),qB hi]
  ·rw [qd6,qj (by omega)]⟩
theorem s52:Sound Try.prog 52 g52:=qq (tt:=tt) (Γ:=Γ52) hT (qe qFS qp) hm (fn:=Try.f52) Try.func52 (c:=Try.f52.body.getD .skip) (by kernel_rfl) (by kernel_rfl) fun x hx=>by
 obtain ⟨N,h⟩:=e52 x.1 x.2.1 hx
 exact ⟨T52 N,p52,qm _,qFX N,(qLf N x.1 x.2.1).trans h⟩
def qR (x:List (Val Y41)) (n:Int):Int:=szV (.slice 41 Y41) x n
def qgF (x:List (Val Y41)) (n:Int):Prop:=qeF (.slice 41 Y41) x n
noncomputable def m53 (N:Nat) (v0:List (Val Y41)) (v1:Int):Option (qa [i3]):=bif (decide ((IntKind.i64.wrap (v1 - (v0.length:Int)))<(0:Int)))then (some ((-1:Int),()))else (some ((IntKind.i64.wrap (v1 - (v0.length:Int))),()))
def Γ53:Gam:=[]
def qlF:Nat→Tree:=fun _=> .done
def qzu:Nat→Nm:=fun _=>⟨[],[],false⟩
def qpW:Nat→Option Jn:=fun _=>none
def qBG:Nat→Option Nm:=fun _=>none
def qp4:Nat→Option Nm:=fun _=>none
theorem p53:qg qlF (Try.f53.body.getD .skip)=true:=by kernel_rfl
def T53 (N:Nat):Tab:={tr:=qlF,lp:=qzu,ex:=qBG,rg:=qp4,jn:=qpW,fuel:=N}
theorem qJ5 (N:Nat):(T53 N).pins=false:=rfl
theorem qMi (N:Nat):qk Try.prog (T53 N):=qn fun _=>rfl
theorem qK6 (N:Nat) (i:Nat):(T53 N).tr i=qlF i:=rfl
theorem qMM (N:Nat) (i:Nat):(T53 N).lp i=qzu i:=rfl
theorem qQZ (N:Nat) (i:Nat):(T53 N).ex i=qBG i:=rfl
theorem qIc (N:Nat) (i:Nat):(T53 N).rg i=qp4 i:=rfl
theorem qKA (N:Nat) (i:Nat):(T53 N).jn i=qpW i:=rfl
theorem qI0 (N:Nat):(T53 N).fuel=N:=rfl
theorem qGC (N:Nat) (v0:List (Val Y41)) (v1:Int):qb tt Γ53 (T53 N) (Try.f53.body.getD .skip) (qh tt true [i3] [.tmp 4]) (ql [i42,i3] 12 (v0,v1,()))=m53 N v0 v1:=by
 rw [m53];unfold Try.f53
 simp (maxSteps:=10000000) -implicitDefEqProofs [qK6,qlF,qMM,qzu,qQZ,qBG,qIc,qp4,qKA,qpW,qI0,qJ5]
 try rfl
def g53:G:={ps:=[i42,i3],rs:=[i3],dp:=true,pre:=fun x=>qgF x.1 x.2.1,fn:=fun x=>(qR x.1 x.2.1,())}
theorem qCG: ∀(xs:List (Val Y41)) (n:Int),0≤n→szL (szV Y41) xs n=n
 | [],_,_=>rfl
 | x::r,n,h=>by
   have e:szV Y41 x n=n:=by
    obtain ⟨x0,x1⟩:=x
    rw [qio h]
    rfl
   simp only [szL,e]
   rw [if_neg (by omega)]
   exact qCG r n h
theorem e53 (x:List (Val Y41)) (n:Int) (h:qgF x n): ∃N,m53 N x n=some (qR x n,()):=⟨0,by
 obtain ⟨hs,h0,h1⟩:=h
 rw [m53,qr4 h0 h1 hs.1]
 simp only [qR,qpK]
 by_cases c:n - (List.length x:Int)<0
 ·rw [qi c,if_pos c]
 ·rw [qj c,if_neg c,qCG _ _ (by omega)]⟩
theorem s53:Sound Try.prog 53 g53:=qq (tt:=tt) (Γ:=Γ53) hT qp hm (fn:=Try.f53) Try.func53 (c:=Try.f53.body.getD .skip) (by kernel_rfl) (by kernel_rfl) fun x hx=>by
 obtain ⟨N,h⟩:=e53 x.1 x.2.1 hx
 exact ⟨T53 N,p53,qm _,qMi N,(qGC N x.1 x.2.1).trans h⟩
def qcC (x:Val Y40) (n:Int):Int:=szV Y40 x n
def qnv (x:Val Y40) (n:Int):Prop:=qeF Y40 x n
noncomputable def m13 (N:Nat) (v0:Val Y40) (v1:Int):Option (qa [i3]):=chk (qlg (v0.2:List (Val qz)) v1) (bif (decide (((qfP (v0.2:List (Val qz)) v1):Int)<(0:Int)))then (some ((-1:Int),()))else (some (((qfP (v0.2:List (Val qz)) v1):Int),())))
def Γ13:Gam:=[(52,g52)]
theorem qIK:Gam.get Γ13 52=some g52:=rfl
def qle:Nat→Tree:=fun _=> .done
def qA0:Nat→Nm:=fun _=>⟨[],[],false⟩
def qzs:Nat→Option Jn:=fun _=>none
def qrD:Nat→Option Nm:=fun _=>none
def qqB:Nat→Option Nm:=fun _=>none
theorem p13:qg qle (Try.f13.body.getD .skip)=true:=by kernel_rfl
def T13 (N:Nat):Tab:={tr:=qle,lp:=qA0,ex:=qrD,rg:=qqB,jn:=qzs,fuel:=N}
theorem qKu (N:Nat):(T13 N).pins=false:=rfl
theorem qIm (N:Nat):qk Try.prog (T13 N):=qn fun _=>rfl
theorem qFV (N:Nat) (i:Nat):(T13 N).tr i=qle i:=rfl
theorem qJa (N:Nat) (i:Nat):(T13 N).lp i=qA0 i:=rfl
theorem qO3 (N:Nat) (i:Nat):(T13 N).ex i=qrD i:=rfl
theorem qRw (N:Nat) (i:Nat):(T13 N).rg i=qqB i:=rfl
theorem qHq (N:Nat) (i:Nat):(T13 N).jn i=qzs i:=rfl
theorem qGD (N:Nat):(T13 N).fuel=N:=rfl
theorem qGW (N:Nat) (v0:Val Y40) (v1:Int):qb tt Γ13 (T13 N) (Try.f13.body.getD .skip) (qh tt true [i3] [.tmp 4]) (ql [i40,i3] 12 (v0,v1,()))=m13 N v0 v1:=by
 rw [m13];unfold Try.f13
 simp (maxSteps:=10000000) -implicitDefEqProofs [qFV,qle,qJa,qA0,qO3,qrD,qRw,qqB,qHq,qzs,qGD,qKu,qIK,g52]
 try rfl
def g13:G:={ps:=[i40,i3],rs:=[i3],dp:=true,pre:=fun x=>qnv x.1 x.2.1,fn:=fun x=>(qcC x.1 x.2.1,())}
theorem e13 (x:Val Y40) (n:Int) (h:qnv x n): ∃N,m13 N x n=some (qcC x n,()):=⟨0,by
 obtain ⟨x0,x1⟩:=x
 obtain ⟨hs,h0,h1⟩:=h
 obtain ⟨s0,s1⟩:=hs
 rw [m13,qcC]
 dsimp only
 rw [qio h0]
 rw [qd (show qlg x1 n from ⟨s1,h0,h1⟩)]
 by_cases c1:qfP x1 n<0
 ·rw [qi c1]
  exact congrArg (fun z=>some (z,())) ((qbs (.slice 113 qz) x1 n h0).2 c1).symm
 ·rw [qj c1]
  rfl⟩
theorem s13:Sound Try.prog 13 g13:=qq (tt:=tt) (Γ:=Γ13) hT (qe s52 qp) hm (fn:=Try.f13) Try.func13 (c:=Try.f13.body.getD .skip) (by kernel_rfl) (by kernel_rfl) fun x hx=>by
 obtain ⟨N,h⟩:=e13 x.1 x.2.1 hx
 exact ⟨T13 N,p13,qm _,qIm N,(qGW N x.1 x.2.1).trans h⟩
def qhd (x:Val Y44) (n:Int):Int:=szV Y44 x n
def qnR (x:Val Y44) (n:Int):Prop:=qeF Y44 x n
noncomputable def m14 (N:Nat) (v0:Val Y44) (v1:Int):Option (qa [i3]):=chk (qgF (v0.2.2.2.1:List (Val Y41)) v1) (bif (decide (((qR (v0.2.2.2.1:List (Val Y41)) v1):Int)<(0:Int)))then (some ((-1:Int),()))else (chk (qgF (v0.2.2.2.2.1:List (Val Y41)) ((qR (v0.2.2.2.1:List (Val Y41)) v1):Int)) (bif (decide (((qR (v0.2.2.2.2.1:List (Val Y41)) ((qR (v0.2.2.2.1:List (Val Y41)) v1):Int)):Int)<(0:Int)))then (some ((-1:Int),()))else (chk (qf0 (v0.2.2.2.2.2:List (Val (.int .i64))) ((qR (v0.2.2.2.2.1:List (Val Y41)) ((qR (v0.2.2.2.1:List (Val Y41)) v1):Int)):Int)) (bif (decide (((qbt (v0.2.2.2.2.2:List (Val (.int .i64))) ((qR (v0.2.2.2.2.1:List (Val Y41)) ((qR (v0.2.2.2.1:List (Val Y41)) v1):Int)):Int)):Int)<(0:Int)))then (some ((-1:Int),()))else (some (((qbt (v0.2.2.2.2.2:List (Val (.int .i64))) ((qR (v0.2.2.2.2.1:List (Val Y41)) ((qR (v0.2.2.2.1:List (Val Y41)) v1):Int)):Int)):Int),())))))))
def Γ14:Gam:=[(53,g53),(54,g54)]
theorem qPf:Gam.get Γ14 53=some g53:=rfl
theorem qOa:Gam.get Γ14 54=some g54:=rfl
def qnB:Nat→Tree:=fun _=> .done
def qwJ:Nat→Nm:=fun _=>⟨[],[],false⟩
def qqI:Nat→Option Jn:=fun _=>none
def qxa:Nat→Option Nm:=fun _=>none
def qxP:Nat→Option Nm:=fun _=>none
theorem p14:qg qnB (Try.f14.body.getD .skip)=true:=by kernel_rfl
def T14 (N:Nat):Tab:={tr:=qnB,lp:=qwJ,ex:=qxa,rg:=qxP,jn:=qqI,fuel:=N}
theorem qRn (N:Nat):(T14 N).pins=false:=rfl
theorem qNQ (N:Nat):qk Try.prog (T14 N):=qn fun _=>rfl
theorem qOE (N:Nat) (i:Nat):(T14 N).tr i=qnB i:=rfl
theorem qPx (N:Nat) (i:Nat):(T14 N).lp i=qwJ i:=rfl
theorem qID (N:Nat) (i:Nat):(T14 N).ex i=qxa i:=rfl
theorem qPD (N:Nat) (i:Nat):(T14 N).rg i=qxP i:=rfl
theorem qKI (N:Nat) (i:Nat):(T14 N).jn i=qqI i:=rfl
theorem qRD (N:Nat):(T14 N).fuel=N:=rfl
theorem qLu (N:Nat) (v0:Val Y44) (v1:Int):qb tt Γ14 (T14 N) (Try.f14.body.getD .skip) (qh tt true [i3] [.tmp 4]) (ql [i44,i3] 24 (v0,v1,()))=m14 N v0 v1:=by
 rw [m14];unfold Try.f14
 simp (maxSteps:=10000000) -implicitDefEqProofs [qOE,qnB,qPx,qwJ,qID,qxa,qPD,qxP,qKI,qqI,qRD,qRn,qPf,qOa,g53,g54]
 try rfl
def g14:G:={ps:=[i44,i3],rs:=[i3],dp:=true,pre:=fun x=>qnR x.1 x.2.1,fn:=fun x=>(qhd x.1 x.2.1,())}
theorem e14 (x:Val Y44) (n:Int) (h:qnR x n): ∃N,m14 N x n=some (qhd x n,()):=⟨0,by
 obtain ⟨x0,x1,x2,x3,x4,x5⟩:=x
 obtain ⟨hs,h0,h1⟩:=h
 obtain ⟨s0,s1,s2,s3,s4,s5⟩:=hs
 rw [m14,qhd]
 dsimp only
 rw [qio h0]
 have z1:szV Y41 x1 n=n:=by
  obtain ⟨z0,z1⟩:=x1
  rw [qio h0]
  rfl
 rw [qoo (show 0≤szV Y41 x1 n from by rw [z1];exact h0),z1]
 rw [qOy h0]
 rw [qd (show qgF x3 n from ⟨s3,h0,h1⟩)]
 by_cases c3:qR x3 n<0
 ·rw [qi c3,qq2 (show szV (.slice 41 Y41) x3 n<0 from c3)]
 ·have h03:0≤qR x3 n:=by omega
  have h13:qR x3 n≤1048576:=Int.le_trans (qbs (.slice 41 Y41) x3 n h0).1 h1
  rw [qj c3,qoo (show 0≤szV (.slice 41 Y41) x3 n from h03)]
  change _=some (szV (.pair (.slice 41 Y41) (.slice 3 (.int .i64))) _ (qR x3 n),())
  rw [qd (show qgF x4 (qR x3 n) from ⟨s4,h03,h13⟩)]
  by_cases c4:qR x4 (qR x3 n)<0
  ·rw [qi c4,qq2 (show szV (.slice 41 Y41) x4 (qR x3 n)<0 from c4)]
  ·have h04:0≤qR x4 (qR x3 n):=by omega
   have h14:qR x4 (qR x3 n)≤1048576:=Int.le_trans (qbs (.slice 41 Y41) x4 (qR x3 n) h03).1 h13
   rw [qj c4,qoo (show 0≤szV (.slice 41 Y41) x4 (qR x3 n) from h04)]
   change _=some (szV (.slice 3 (.int .i64)) _ (qR x4 (qR x3 n)),())
   rw [qd (show qf0 x5 (qR x4 (qR x3 n)) from ⟨s5,h04,h14⟩)]
   by_cases c5:qbt x5 (qR x4 (qR x3 n))<0
   ·rw [qi c5]
    exact congrArg (fun z=>some (z,())) ((qbs (.slice 3 (.int .i64)) x5 (qR x4 (qR x3 n)) h04).2 c5).symm
   ·rw [qj c5]
    rfl⟩
theorem s14:Sound Try.prog 14 g14:=qq (tt:=tt) (Γ:=Γ14) hT (qe s53 (qe s54 qp)) hm (fn:=Try.f14) Try.func14 (c:=Try.f14.body.getD .skip) (by kernel_rfl) (by kernel_rfl) fun x hx=>by
 obtain ⟨N,h⟩:=e14 x.1 x.2.1 hx
 exact ⟨T14 N,p14,qm _,qNQ N,(qLu N x.1 x.2.1).trans h⟩
def qaD (x:List (Val (.int .i64))):List (Val (.int .i64)):=x
def qbX (x:List (Val (.int .i64))):Prop:=Bd (.slice 3 (.int .i64)) x
noncomputable def qek (N:Nat) (v1:List (Val (.int .i64))) (k0:(List (Val (.int .i64)))→Option (qa [i27])):Nat→Int→(List (Val (.int .i64)))→Option (qa [i27])
 | 0,_,_=>none
 | n+1,v2,v3=>bif (decide (v2<(v1.length:Int)))then (chk (0≤v2∧v2<(v1.length:Int)) (chk (0≤v2∧v2<(v3.length:Int)) (chk (v2.toNat<v3.length) (qek N v1 k0 n (IntKind.i64.wrap (v2+(1:Int))) (v3.set v2.toNat ((v1.getD v2.toNat (qc (.int .i64))):Int))))))else (k0 v3)
noncomputable def m17 (N:Nat) (v0:List (Val (.int .i64))):Option (qa [i27]):=chk (0≤(v0.length:Int)∧(v0.length:Int)≤(v0.length:Int)∧(v0.length:Int)≤1048576) (qek N v0 (fun (v5:List (Val (.int .i64)))=>some (v5,())) N (0:Int) (List.replicate (v0.length:Int).toNat (qc (.int .i64))))
def Γ17:Gam:=[]
def qjy:Nm:=⟨[true,false,false,true,true],[],false⟩
theorem quX:qjy.zero=false:=rfl
theorem qqY:qjy.fix=[]:=rfl
theorem qxq:qjy.keep=[true,false,false,true,true]:=rfl
def qn2:Nm:=⟨[false,false,false,true],[],false⟩
theorem qqy:qn2.zero=false:=rfl
theorem qtH:qn2.fix=[]:=rfl
theorem qqk:qn2.keep=[false,false,false,true]:=rfl
def qgB:Nat→Tree:=fun _=> .done
def qiU:Nat→Nm:=fun i=>if i=3 then qjy else ⟨[],[],false⟩
def qh1:Nat→Option Jn:=fun _=>none
def qjd:Nat→Option Nm:=fun i=>if i=0 then some qn2 else none
def qhZ:Nat→Option Nm:=fun _=>none
theorem p17:qg qgB (Try.f17.body.getD .skip)=true:=by kernel_rfl
def T17 (N:Nat):Tab:={tr:=qgB,lp:=qiU,ex:=qjd,rg:=qhZ,jn:=qh1,fuel:=N}
theorem qpw (N:Nat):(T17 N).pins=false:=rfl
theorem qF0 (N:Nat):qk Try.prog (T17 N):=qn fun _=>rfl
theorem qBt (N:Nat) (i:Nat):(T17 N).tr i=qgB i:=rfl
theorem qug (N:Nat) (i:Nat):(T17 N).lp i=qiU i:=rfl
theorem qA5 (N:Nat) (i:Nat):(T17 N).ex i=qjd i:=rfl
theorem qwL (N:Nat) (i:Nat):(T17 N).rg i=qhZ i:=rfl
theorem qzN (N:Nat) (i:Nat):(T17 N).jn i=qh1 i:=rfl
theorem qtn (N:Nat):(T17 N).fuel=N:=rfl
noncomputable def qCv:Code:=cut [true,true,false,true,true,true] (Try.f17.body.getD .skip)
theorem qNr {N:Nat} {Q:X→St→Option (qa [i27])} {e:List LV} {h:List Blk}:qb tt Γ17 (T17 N) qCv Q ⟨e,h⟩=qb tt Γ17 (T17 N) (cut [true,true,false,true,true,true] (Try.f17.body.getD .skip)) Q ⟨e,h⟩:=rfl
theorem qKb (N:Nat) (v1:List (Val (.int .i64))) {k0:(List (Val (.int .i64)))→Option (qa [i27])} {Q:X→St→Option (qa [i27])} {c:Code} (hc:c=qCv) (hret: ∀st,Q .ret st=qy tt true [i27] [.tmp 2] st) (h0: ∀(v4:List (Val (.int .i64))),Q (.exit 0) ⟨[u,u,u,.one (.own 0),u,u,u,u,u,u,u,u,u,u,u,u,u,u,u,u,u,u],[.row 3 (.int .i64) v4 true true 0]⟩=k0 v4): ∀(n:Nat) (v2:Int) (v3:List (Val (.int .i64))),qx (qb tt Γ17 (T17 N) c) false qjy Q n ⟨[.one (.sl 3 (.int .i64) v1 1),u,u,.one (.own 0),.one (.int .i64 v2),u,u,u,u,u,u,u,u,u,u,u,u,u,u,u,u,u],[.row 3 (.int .i64) v3 true true 0]⟩=qek N v1 k0 n v2 v3:=by
 subst hc;intro n;induction n with
 | zero=>intros;rfl
 | succ n ih=>
   intro v2 v3
   rw [qI,qNr,qek];unfold Try.f17
   simp (maxSteps:=10000000) -implicitDefEqProofs [qBt,qgB,qug,qiU,qA5,qjd,qwL,qhZ,qzN,qh1,qtn,qpw,qqY,qxq,quX,qtH,qqk,qqy,hret,h0,ih]
theorem qKi (N:Nat) (v0:List (Val (.int .i64))):qb tt Γ17 (T17 N) (Try.f17.body.getD .skip) (qh tt true [i27] [.tmp 2]) (ql [i27] 22 (v0,()))=m17 N v0:=by
 unfold Try.f17
 simp (maxSteps:=10000000) -implicitDefEqProofs [qBt,qgB,qug,qiU,qA5,qjd,qwL,qhZ,qzN,qh1,qtn,qpw,qqY,qxq,quX,qtH,qqk,qqy]
 rewrite [qKb (k0:=(fun (v5:List (Val (.int .i64)))=>some (v5,()))) N _ ?_ ?_ ?_]
 ·rewrite [m17];first | rfl | simp (maxSteps:=10000000) -implicitDefEqProofs []
 ·rfl
 ·intro;simp only [qD,qE,qF,qC]
 ·intro v5;simp (maxSteps:=10000000) -implicitDefEqProofs [qBt,qgB,qug,qiU,qA5,qjd,qwL,qhZ,qzN,qh1,qtn,qpw,qqY,qxq,quX,qtH,qqk,qqy]
def g17:G:={ps:=[i27],rs:=[i27],dp:=true,pre:=fun x=>qbX x.1,fn:=fun x=>(qaD x.1,())}
theorem e17 (x:List (Val (.int .i64))) (h:qbX x): ∃N,m17 N x=some (qaD x,()):=⟨List.length x+1,by
 rw [m17,qd (qfN h.1),Int.toNat_natCast]
 refine qkR (F:=fun n i s=>qek _ x _ n i s) (k:=fun s=>some (s,())) (qc (.int .i64)) h.1 (fun n i s hi hl=> ?_) (fun n i s hi=> ?_) _ (Nat.lt_succ_self _)
 ·rw [qek,qi (by omega),qd (by omega),qB hi,qd (by omega),qd (by omega)]
  rfl
 ·rw [qek,qj (by omega)]⟩
theorem s17:Sound Try.prog 17 g17:=qq (tt:=tt) (Γ:=Γ17) hT qp hm (fn:=Try.f17) Try.func17 (c:=Try.f17.body.getD .skip) (by kernel_rfl) (by kernel_rfl) fun x hx=>by
 obtain ⟨N,h⟩:=e17 x.1 hx
 exact ⟨T17 N,p17,qm _,qF0 N,(qKi N x.1).trans h⟩
def qhX (x:Val qz):Val Y83:=x
def qnO (x:Val qz):Prop:=Bd qz x
noncomputable def qmu (N:Nat) (v0:Val qz):Option (qa [i83]):=chk (qbX (v0.1:List (Val (.int .i64)))) (some ((((qaD (v0.1:List (Val (.int .i64)))):List (Val (.int .i64))),(v0.2.1:Int),(v0.2.2:Bool)),()))
def qzF:Gam:=[(17,g17)]
theorem qHI:Gam.get qzF 17=some g17:=rfl
def qoz:Nat→Tree:=fun _=> .done
def qzo:Nat→Nm:=fun _=>⟨[],[],false⟩
def qtF:Nat→Option Jn:=fun _=>none
def qpI:Nat→Option Nm:=fun _=>none
def qty:Nat→Option Nm:=fun _=>none
theorem qR8:qg qoz (Try.f108.body.getD .skip)=true:=by kernel_rfl
def qci (N:Nat):Tab:={tr:=qoz,lp:=qzo,ex:=qpI,rg:=qty,jn:=qtF,fuel:=N}
theorem qNh (N:Nat):(qci N).pins=false:=rfl
theorem qGg (N:Nat):qk Try.prog (qci N):=qn fun _=>rfl
theorem qQT (N:Nat) (i:Nat):(qci N).tr i=qoz i:=rfl
theorem qHQ (N:Nat) (i:Nat):(qci N).lp i=qzo i:=rfl
theorem qKM (N:Nat) (i:Nat):(qci N).ex i=qpI i:=rfl
theorem qH6 (N:Nat) (i:Nat):(qci N).rg i=qty i:=rfl
theorem qQa (N:Nat) (i:Nat):(qci N).jn i=qtF i:=rfl
theorem qRR (N:Nat):(qci N).fuel=N:=rfl
theorem qKh (N:Nat) (v0:Val qz):qb tt qzF (qci N) (Try.f108.body.getD .skip) (qh tt true [i83] [.cell 2 83]) (ql [qc7] 15 (v0,()))=qmu N v0:=by
 rw [qmu];unfold Try.f108
 simp (maxSteps:=10000000) -implicitDefEqProofs [qQT,qoz,qHQ,qzo,qKM,qpI,qH6,qty,qQa,qtF,qRR,qNh,qHI,g17]
 try rfl
def qfp:G:={ps:=[qc7],rs:=[i83],dp:=true,pre:=fun x=>qnO x.1,fn:=fun x=>(qhX x.1,())}
theorem qNo (x:Val qz) (h:qnO x): ∃N,qmu N x=some (qhX x,()):=⟨0,by
 obtain ⟨s0,s1,s2⟩:=h
 rw [qmu,qd (show qbX _ from s0)]
 rfl⟩
theorem qQw:Sound Try.prog 108 qfp:=qq (tt:=tt) (Γ:=qzF) hT (qe s17 qp) hm (fn:=Try.f108) Try.func108 (c:=Try.f108.body.getD .skip) (by kernel_rfl) (by kernel_rfl) fun x hx=>by
 obtain ⟨N,h⟩:=qNo x.1 hx
 exact ⟨qci N,qR8,qm _,qGg N,(qKh N x.1).trans h⟩
def qqp (x:List (Val qz)):List (Val Y83):=x
def qne (x:List (Val qz)):Prop:=Bd (.slice 113 qz) x
noncomputable def qeg (N:Nat) (v1:List (Val qz)) (k0:(List (Val Y83))→Option (qa [i24])):Nat→Int→(List (Val Y83))→Option (qa [i24])
 | 0,_,_=>none
 | n+1,v2,v3=>bif (decide (v2<(v1.length:Int)))then (chk (0≤v2∧v2<(v1.length:Int)) (chk (qnO (v1.getD v2.toNat (qc qz))) (chk (0≤v2∧v2<(v3.length:Int)) (chk (v2.toNat<v3.length) (qeg N v1 k0 n (IntKind.i64.wrap (v2+(1:Int))) (v3.set v2.toNat (((qhX (v1.getD v2.toNat (qc qz))).1:List (Val (.int .i64))),(((qhX (v1.getD v2.toNat (qc qz))).2).1:Int),(((qhX (v1.getD v2.toNat (qc qz))).2).2:Bool))))))))else (k0 v3)
noncomputable def m63 (N:Nat) (v0:List (Val qz)):Option (qa [i24]):=chk (0≤(v0.length:Int)∧(v0.length:Int)≤(v0.length:Int)∧(v0.length:Int)≤1048576) (qeg N v0 (fun (v5:List (Val Y83))=>some (v5,())) N (0:Int) (List.replicate (v0.length:Int).toNat (qc Y83)))
def Γ63:Gam:=[(108,qfp)]
theorem qx5:Gam.get Γ63 108=some qfp:=rfl
def qkH:Nm:=⟨[true,false,false,true,true],[],false⟩
theorem quk:qkH.zero=false:=rfl
theorem qpB:qkH.fix=[]:=rfl
theorem qrh:qkH.keep=[true,false,false,true,true]:=rfl
def qoA:Nm:=⟨[false,false,false,true],[],false⟩
theorem qtb:qoA.zero=false:=rfl
theorem quC:qoA.fix=[]:=rfl
theorem qs4:qoA.keep=[false,false,false,true]:=rfl
def qfK:Nat→Tree:=fun _=> .done
def qk6:Nat→Nm:=fun i=>if i=3 then qkH else ⟨[],[],false⟩
def qi4:Nat→Option Jn:=fun _=>none
def qjm:Nat→Option Nm:=fun i=>if i=0 then some qoA else none
def qh7:Nat→Option Nm:=fun _=>none
theorem p63:qg qfK (Try.f63.body.getD .skip)=true:=by kernel_rfl
def T63 (N:Nat):Tab:={tr:=qfK,lp:=qk6,ex:=qjm,rg:=qh7,jn:=qi4,fuel:=N}
theorem qv5 (N:Nat):(T63 N).pins=false:=rfl
theorem qL7 (N:Nat):qk Try.prog (T63 N):=qn fun _=>rfl
theorem qzq (N:Nat) (i:Nat):(T63 N).tr i=qfK i:=rfl
theorem qqZ (N:Nat) (i:Nat):(T63 N).lp i=qk6 i:=rfl
theorem qvu (N:Nat) (i:Nat):(T63 N).ex i=qjm i:=rfl
theorem quD (N:Nat) (i:Nat):(T63 N).rg i=qh7 i:=rfl
theorem qzk (N:Nat) (i:Nat):(T63 N).jn i=qi4 i:=rfl
theorem qwt (N:Nat):(T63 N).fuel=N:=rfl
noncomputable def qCg:Code:=cut [true,true,false,true,true,true] (Try.f63.body.getD .skip)
theorem qPw {N:Nat} {Q:X→St→Option (qa [i24])} {e:List LV} {h:List Blk}:qb tt Γ63 (T63 N) qCg Q ⟨e,h⟩=qb tt Γ63 (T63 N) (cut [true,true,false,true,true,true] (Try.f63.body.getD .skip)) Q ⟨e,h⟩:=rfl
theorem qJu (N:Nat) (v1:List (Val qz)) {k0:(List (Val Y83))→Option (qa [i24])} {Q:X→St→Option (qa [i24])} {c:Code} (hc:c=qCg) (hret: ∀st,Q .ret st=qy tt true [i24] [.tmp 2] st) (h0: ∀(v4:List (Val Y83)),Q (.exit 0) ⟨[u,u,u,.one (.own 0),u,u,u,u,u,u,u,u,u,u,u,u,u,u,u,u,u,u,u],[.row 83 Y83 v4 true true 0]⟩=k0 v4): ∀(n:Nat) (v2:Int) (v3:List (Val Y83)),qx (qb tt Γ63 (T63 N) c) false qkH Q n ⟨[.one (.sl 113 qz v1 1),u,u,.one (.own 0),.one (.int .i64 v2),u,u,u,u,u,u,u,u,u,u,u,u,u,u,u,u,u,u],[.row 83 Y83 v3 true true 0]⟩=qeg N v1 k0 n v2 v3:=by
 subst hc;intro n;induction n with
 | zero=>intros;rfl
 | succ n ih=>
   intro v2 v3
   rw [qI,qPw,qeg];unfold Try.f63
   simp (maxSteps:=10000000) -implicitDefEqProofs [qzq,qfK,qqZ,qk6,qvu,qjm,quD,qh7,qzk,qi4,qwt,qv5,qpB,qrh,quk,quC,qs4,qtb,qx5,qfp,hret,h0,ih]
theorem qH8 (N:Nat) (v0:List (Val qz)):qb tt Γ63 (T63 N) (Try.f63.body.getD .skip) (qh tt true [i24] [.tmp 2]) (ql [i38] 23 (v0,()))=m63 N v0:=by
 unfold Try.f63
 simp (maxSteps:=10000000) -implicitDefEqProofs [qzq,qfK,qqZ,qk6,qvu,qjm,quD,qh7,qzk,qi4,qwt,qv5,qpB,qrh,quk,quC,qs4,qtb,qx5,qfp]
 rewrite [qJu (k0:=(fun (v5:List (Val Y83))=>some (v5,()))) N _ ?_ ?_ ?_]
 ·rewrite [m63];first | rfl | simp (maxSteps:=10000000) -implicitDefEqProofs []
 ·rfl
 ·intro;simp only [qD,qE,qF,qC]
 ·intro v5;simp (maxSteps:=10000000) -implicitDefEqProofs [qzq,qfK,qqZ,qk6,qvu,qjm,quD,qh7,qzk,qi4,qwt,qv5,qpB,qrh,quk,quC,qs4,qtb,qx5,qfp]
def g63:G:={ps:=[i38],rs:=[i24],dp:=true,pre:=fun x=>qne x.1,fn:=fun x=>(qqp x.1,())}
theorem e63 (x:List (Val qz)) (h:qne x): ∃N,m63 N x=some (qqp x,()):=⟨List.length x+1,by
 rw [m63,qd (qfN h.1),Int.toNat_natCast]
 refine qkR (F:=fun n i s=>qeg _ x _ n i s) (k:=fun s=>some (s,())) (qc Y83) h.1 (fun n i s hi hl=> ?_) (fun n i s hi=> ?_) _ (Nat.lt_succ_self _)
 ·rw [qeg,qi (by omega),qd (by omega),qd (show qnO _ from by rw [qB hi];exact h.2 _ (List.getElem_mem hi)),qB hi,qd (by omega),qd (by omega)]
  rfl
 ·rw [qeg,qj (by omega)]⟩
theorem s63:Sound Try.prog 63 g63:=qq (tt:=tt) (Γ:=Γ63) hT (qe qQw qp) hm (fn:=Try.f63) Try.func63 (c:=Try.f63.body.getD .skip) (by kernel_rfl) (by kernel_rfl) fun x hx=>by
 obtain ⟨N,h⟩:=e63 x.1 hx
 exact ⟨T63 N,p63,qm _,qL7 N,(qH8 N x.1).trans h⟩
def qX (x:Val Y40):Val Y26:=x
def qgS (x:Val Y40):Prop:=Bd Y40 x
noncomputable def m16 (N:Nat) (v0:Val Y40):Option (qa [i26]):=chk (qne (v0.2:List (Val qz))) (some (((v0.1:Int),((qqp (v0.2:List (Val qz))):List (Val Y83))),()))
def Γ16:Gam:=[(63,g63)]
theorem qF9:Gam.get Γ16 63=some g63:=rfl
def qlY:Nat→Tree:=fun _=> .done
def qAo:Nat→Nm:=fun _=>⟨[],[],false⟩
def qwf:Nat→Option Jn:=fun _=>none
def qzp:Nat→Option Nm:=fun _=>none
def qxt:Nat→Option Nm:=fun _=>none
theorem p16:qg qlY (Try.f16.body.getD .skip)=true:=by kernel_rfl
def T16 (N:Nat):Tab:={tr:=qlY,lp:=qAo,ex:=qzp,rg:=qxt,jn:=qwf,fuel:=N}
theorem qMG (N:Nat):(T16 N).pins=false:=rfl
theorem qJQ (N:Nat):qk Try.prog (T16 N):=qn fun _=>rfl
theorem qOF (N:Nat) (i:Nat):(T16 N).tr i=qlY i:=rfl
theorem qNE (N:Nat) (i:Nat):(T16 N).lp i=qAo i:=rfl
theorem qG5 (N:Nat) (i:Nat):(T16 N).ex i=qzp i:=rfl
theorem qGF (N:Nat) (i:Nat):(T16 N).rg i=qxt i:=rfl
theorem qRg (N:Nat) (i:Nat):(T16 N).jn i=qwf i:=rfl
theorem qPC (N:Nat):(T16 N).fuel=N:=rfl
theorem qJl (N:Nat) (v0:Val Y40):qb tt Γ16 (T16 N) (Try.f16.body.getD .skip) (qh tt true [i26] [.cell 2 26]) (ql [i40] 12 (v0,()))=m16 N v0:=by
 rw [m16];unfold Try.f16
 simp (maxSteps:=10000000) -implicitDefEqProofs [qOF,qlY,qNE,qAo,qG5,qzp,qGF,qxt,qRg,qwf,qPC,qMG,qF9,g63]
 try rfl
def g16:G:={ps:=[i40],rs:=[i26],dp:=true,pre:=fun x=>qgS x.1,fn:=fun x=>(qX x.1,())}
theorem e16 (x:Val Y40) (h:qgS x): ∃N,m16 N x=some (qX x,()):=⟨0,by
 obtain ⟨s0,s1⟩:=h
 rw [m16,qd (show qne _ from s1)]
 rfl⟩
theorem s16:Sound Try.prog 16 g16:=qq (tt:=tt) (Γ:=Γ16) hT (qe s63 qp) hm (fn:=Try.f16) Try.func16 (c:=Try.f16.body.getD .skip) (by kernel_rfl) (by kernel_rfl) fun x hx=>by
 obtain ⟨N,h⟩:=e16 x.1 hx
 exact ⟨T16 N,p16,qm _,qJQ N,(qJl N x.1).trans h⟩
def qga (x:Val Y41):Val Y35:=x
def qgh (x:Val Y41):Prop:=Bd Y41 x
noncomputable def m64 (N:Nat) (v0:Val Y41):Option (qa [i35]):=some (v0,())
def Γ64:Gam:=[]
def qoc:Nat→Tree:=fun _=> .done
def qsH:Nat→Nm:=fun _=>⟨[],[],false⟩
def qsq:Nat→Option Jn:=fun _=>none
def qwK:Nat→Option Nm:=fun _=>none
def qwn:Nat→Option Nm:=fun _=>none
theorem p64:qg qoc (Try.f64.body.getD .skip)=true:=by kernel_rfl
def T64 (N:Nat):Tab:={tr:=qoc,lp:=qsH,ex:=qwK,rg:=qwn,jn:=qsq,fuel:=N}
theorem qKq (N:Nat):(T64 N).pins=false:=rfl
theorem qIu (N:Nat):qk Try.prog (T64 N):=qn fun _=>rfl
theorem qPy (N:Nat) (i:Nat):(T64 N).tr i=qoc i:=rfl
theorem qHX (N:Nat) (i:Nat):(T64 N).lp i=qsH i:=rfl
theorem qNx (N:Nat) (i:Nat):(T64 N).ex i=qwK i:=rfl
theorem qRI (N:Nat) (i:Nat):(T64 N).rg i=qwn i:=rfl
theorem qNR (N:Nat) (i:Nat):(T64 N).jn i=qsq i:=rfl
theorem qRh (N:Nat):(T64 N).fuel=N:=rfl
theorem qIM (N:Nat) (v0:Val Y41):qb tt Γ64 (T64 N) (Try.f64.body.getD .skip) (qh tt true [i35] [.cell 2 35]) (ql [i41] 11 (v0,()))=m64 N v0:=by
 rw [m64];unfold Try.f64
 simp (maxSteps:=10000000) -implicitDefEqProofs [qPy,qoc,qHX,qsH,qNx,qwK,qRI,qwn,qNR,qsq,qRh,qKq]
 try rfl
def g64:G:={ps:=[i41],rs:=[i35],dp:=true,pre:=fun x=>qgh x.1,fn:=fun x=>(qga x.1,())}
theorem e64 (x:Val Y41) (h:qgh x): ∃N,m64 N x=some (qga x,()):=⟨0,by
 obtain ⟨s0,s1⟩:=h
 rw [m64]
 rfl⟩
theorem s64:Sound Try.prog 64 g64:=qq (tt:=tt) (Γ:=Γ64) hT qp hm (fn:=Try.f64) Try.func64 (c:=Try.f64.body.getD .skip) (by kernel_rfl) (by kernel_rfl) fun x hx=>by
 obtain ⟨N,h⟩:=e64 x.1 hx
 exact ⟨T64 N,p64,qm _,qIu N,(qIM N x.1).trans h⟩
def qoq (x:List (Val Y41)):List (Val Y35):=x
def qfS (x:List (Val Y41)):Prop:=Bd (.slice 41 Y41) x
noncomputable def qfe (N:Nat) (v1:List (Val Y41)) (k0:(List (Val Y35))→Option (qa [i32])):Nat→Int→(List (Val Y35))→Option (qa [i32])
 | 0,_,_=>none
 | n+1,v2,v3=>bif (decide (v2<(v1.length:Int)))then (chk (0≤v2∧v2<(v1.length:Int)) (chk (qgh (v1.getD v2.toNat (qc Y41))) (chk (0≤v2∧v2<(v3.length:Int)) (chk (v2.toNat<v3.length) (qfe N v1 k0 n (IntKind.i64.wrap (v2+(1:Int))) (v3.set v2.toNat (((qga (v1.getD v2.toNat (qc Y41))).1:Int),((qga (v1.getD v2.toNat (qc Y41))).2:Int))))))))else (k0 v3)
noncomputable def m65 (N:Nat) (v0:List (Val Y41)):Option (qa [i32]):=chk (0≤(v0.length:Int)∧(v0.length:Int)≤(v0.length:Int)∧(v0.length:Int)≤1048576) (qfe N v0 (fun (v5:List (Val Y35))=>some (v5,())) N (0:Int) (List.replicate (v0.length:Int).toNat (qc Y35)))
def Γ65:Gam:=[(64,g64)]
theorem qp8:Gam.get Γ65 64=some g64:=rfl
def qh5:Nm:=⟨[true,false,false,true,true],[],false⟩
theorem qpO:qh5.zero=false:=rfl
theorem qr2:qh5.fix=[]:=rfl
theorem qBB:qh5.keep=[true,false,false,true,true]:=rfl
def qo6:Nm:=⟨[false,false,false,true],[],false⟩
theorem qqc:qo6.zero=false:=rfl
theorem qvT:qo6.fix=[]:=rfl
theorem qBm:qo6.keep=[false,false,false,true]:=rfl
def qft:Nat→Tree:=fun _=> .done
def qiN:Nat→Nm:=fun i=>if i=3 then qh5 else ⟨[],[],false⟩
def qlb:Nat→Option Jn:=fun _=>none
def qhI:Nat→Option Nm:=fun i=>if i=0 then some qo6 else none
def qkv:Nat→Option Nm:=fun _=>none
theorem p65:qg qft (Try.f65.body.getD .skip)=true:=by kernel_rfl
def T65 (N:Nat):Tab:={tr:=qft,lp:=qiN,ex:=qhI,rg:=qkv,jn:=qlb,fuel:=N}
theorem qsV (N:Nat):(T65 N).pins=false:=rfl
theorem qG2 (N:Nat):qk Try.prog (T65 N):=qn fun _=>rfl
theorem quK (N:Nat) (i:Nat):(T65 N).tr i=qft i:=rfl
theorem qwe (N:Nat) (i:Nat):(T65 N).lp i=qiN i:=rfl
theorem qAg (N:Nat) (i:Nat):(T65 N).ex i=qhI i:=rfl
theorem qtk (N:Nat) (i:Nat):(T65 N).rg i=qkv i:=rfl
theorem qs1 (N:Nat) (i:Nat):(T65 N).jn i=qlb i:=rfl
theorem qqS (N:Nat):(T65 N).fuel=N:=rfl
noncomputable def qEy:Code:=cut [true,true,false,true,true,true] (Try.f65.body.getD .skip)
theorem qIV {N:Nat} {Q:X→St→Option (qa [i32])} {e:List LV} {h:List Blk}:qb tt Γ65 (T65 N) qEy Q ⟨e,h⟩=qb tt Γ65 (T65 N) (cut [true,true,false,true,true,true] (Try.f65.body.getD .skip)) Q ⟨e,h⟩:=rfl
theorem qN2 (N:Nat) (v1:List (Val Y41)) {k0:(List (Val Y35))→Option (qa [i32])} {Q:X→St→Option (qa [i32])} {c:Code} (hc:c=qEy) (hret: ∀st,Q .ret st=qy tt true [i32] [.tmp 2] st) (h0: ∀(v4:List (Val Y35)),Q (.exit 0) ⟨[u,u,u,.one (.own 0),u,u,u,u,u,u,u,u,u,u,u,u,u,u,u,u,u,u,u],[.row 35 Y35 v4 true true 0]⟩=k0 v4): ∀(n:Nat) (v2:Int) (v3:List (Val Y35)),qx (qb tt Γ65 (T65 N) c) false qh5 Q n ⟨[.one (.sl 41 Y41 v1 1),u,u,.one (.own 0),.one (.int .i64 v2),u,u,u,u,u,u,u,u,u,u,u,u,u,u,u,u,u,u],[.row 35 Y35 v3 true true 0]⟩=qfe N v1 k0 n v2 v3:=by
 subst hc;intro n;induction n with
 | zero=>intros;rfl
 | succ n ih=>
   intro v2 v3
   rw [qI,qIV,qfe];unfold Try.f65
   simp (maxSteps:=10000000) -implicitDefEqProofs [quK,qft,qwe,qiN,qAg,qhI,qtk,qkv,qs1,qlb,qqS,qsV,qr2,qBB,qpO,qvT,qBm,qqc,qp8,g64,hret,h0,ih]
theorem qHp (N:Nat) (v0:List (Val Y41)):qb tt Γ65 (T65 N) (Try.f65.body.getD .skip) (qh tt true [i32] [.tmp 2]) (ql [i42] 23 (v0,()))=m65 N v0:=by
 unfold Try.f65
 simp (maxSteps:=10000000) -implicitDefEqProofs [quK,qft,qwe,qiN,qAg,qhI,qtk,qkv,qs1,qlb,qqS,qsV,qr2,qBB,qpO,qvT,qBm,qqc,qp8,g64]
 rewrite [qN2 (k0:=(fun (v5:List (Val Y35))=>some (v5,()))) N _ ?_ ?_ ?_]
 ·rewrite [m65];first | rfl | simp (maxSteps:=10000000) -implicitDefEqProofs []
 ·rfl
 ·intro;simp only [qD,qE,qF,qC]
 ·intro v5;simp (maxSteps:=10000000) -implicitDefEqProofs [quK,qft,qwe,qiN,qAg,qhI,qtk,qkv,qs1,qlb,qqS,qsV,qr2,qBB,qpO,qvT,qBm,qqc,qp8,g64]
def g65:G:={ps:=[i42],rs:=[i32],dp:=true,pre:=fun x=>qfS x.1,fn:=fun x=>(qoq x.1,())}
theorem e65 (x:List (Val Y41)) (h:qfS x): ∃N,m65 N x=some (qoq x,()):=⟨List.length x+1,by
 rw [m65,qd (qfN h.1),Int.toNat_natCast]
 refine qkR (F:=fun n i s=>qfe _ x _ n i s) (k:=fun s=>some (s,())) (qc Y35) h.1 (fun n i s hi hl=> ?_) (fun n i s hi=> ?_) _ (Nat.lt_succ_self _)
 ·rw [qfe,qi (by omega),qd (by omega),qd (show qgh _ from by rw [qB hi];exact h.2 _ (List.getElem_mem hi)),qB hi,qd (by omega),qd (by omega)]
  rfl
 ·rw [qfe,qj (by omega)]⟩
theorem s65:Sound Try.prog 65 g65:=qq (tt:=tt) (Γ:=Γ65) hT (qe s64 qp) hm (fn:=Try.f65) Try.func65 (c:=Try.f65.body.getD .skip) (by kernel_rfl) (by kernel_rfl) fun x hx=>by
 obtain ⟨N,h⟩:=e65 x.1 hx
 exact ⟨T65 N,p65,qm _,qG2 N,(qHp N x.1).trans h⟩
def qt (x:Val Y44):Val Y51:=x
def qgR (x:Val Y44):Prop:=Bd Y44 x
noncomputable def m18 (N:Nat) (v0:Val Y44):Option (qa [i51]):=chk (qgh v0.2.1) (chk (qfS (v0.2.2.2.1:List (Val Y41))) (chk (qfS (v0.2.2.2.2.1:List (Val Y41))) (chk (qbX (v0.2.2.2.2.2:List (Val (.int .i64)))) (some (((v0.1:Int),(((qga v0.2.1).1:Int),((qga v0.2.1).2:Int)),(v0.2.2.1:Bool),((qoq (v0.2.2.2.1:List (Val Y41))):List (Val Y35)),((qoq (v0.2.2.2.2.1:List (Val Y41))):List (Val Y35)),((qaD (v0.2.2.2.2.2:List (Val (.int .i64)))):List (Val (.int .i64)))),())))))
def Γ18:Gam:=[(17,g17),(64,g64),(65,g65)]
theorem qRL:Gam.get Γ18 17=some g17:=rfl
theorem qQb:Gam.get Γ18 64=some g64:=rfl
theorem qR6:Gam.get Γ18 65=some g65:=rfl
def qoH:Nat→Tree:=fun _=> .done
def qra:Nat→Nm:=fun _=>⟨[],[],false⟩
def qzb:Nat→Option Jn:=fun _=>none
def qs6:Nat→Option Nm:=fun _=>none
def qyY:Nat→Option Nm:=fun _=>none
theorem p18:qg qoH (Try.f18.body.getD .skip)=true:=by kernel_rfl
def T18 (N:Nat):Tab:={tr:=qoH,lp:=qra,ex:=qs6,rg:=qyY,jn:=qzb,fuel:=N}
theorem qQO (N:Nat):(T18 N).pins=false:=rfl
theorem qG8 (N:Nat):qk Try.prog (T18 N):=qn fun _=>rfl
theorem qRf (N:Nat) (i:Nat):(T18 N).tr i=qoH i:=rfl
theorem qQE (N:Nat) (i:Nat):(T18 N).lp i=qra i:=rfl
theorem qGS (N:Nat) (i:Nat):(T18 N).ex i=qs6 i:=rfl
theorem qGj (N:Nat) (i:Nat):(T18 N).rg i=qyY i:=rfl
theorem qGT (N:Nat) (i:Nat):(T18 N).jn i=qzb i:=rfl
theorem qQS (N:Nat):(T18 N).fuel=N:=rfl
theorem qGn (N:Nat) (v0:Val Y44):qb tt Γ18 (T18 N) (Try.f18.body.getD .skip) (qh tt true [i51] [.cell 2 51]) (ql [i44] 27 (v0,()))=m18 N v0:=by
 rw [m18];unfold Try.f18
 simp (maxSteps:=10000000) -implicitDefEqProofs [qRf,qoH,qQE,qra,qGS,qs6,qGj,qyY,qGT,qzb,qQS,qQO,qRL,qQb,qR6,g17,g64,g65]
 try rfl
def g18:G:={ps:=[i44],rs:=[i51],dp:=true,pre:=fun x=>qgR x.1,fn:=fun x=>(qt x.1,())}
theorem e18 (x:Val Y44) (h:qgR x): ∃N,m18 N x=some (qt x,()):=⟨0,by
 obtain ⟨s0,s1,s2,s3,s4,s5⟩:=h
 rw [m18,qd (show qgh _ from s1),qd (show qfS _ from s3),qd (show qfS _ from s4),qd (show qbX _ from s5)]
 rfl⟩
theorem s18:Sound Try.prog 18 g18:=qq (tt:=tt) (Γ:=Γ18) hT (qe s17 (qe s64 (qe s65 qp))) hm (fn:=Try.f18) Try.func18 (c:=Try.f18.body.getD .skip) (by kernel_rfl) (by kernel_rfl) fun x hx=>by
 obtain ⟨N,h⟩:=e18 x.1 hx
 exact ⟨T18 N,p18,qm _,qG8 N,(qGn N x.1).trans h⟩
def qco (x y:List (Val (.int .i64))):Bool:=eqV (.slice 3 (.int .i64)) x y
def qc1 (x _:List (Val (.int .i64))):Prop:=Bd (.slice 3 (.int .i64)) x
noncomputable def qe0 (N:Nat) (v2:List (Val (.int .i64))) (v3:List (Val (.int .i64))) (k0:Unit→Option (qa [i4])):Nat→Int→Option (qa [i4])
 | 0,_=>none
 | n+1,v4=>bif (decide (v4<(v2.length:Int)))then (chk (0≤v4∧v4<(v2.length:Int)) (chk (0≤v4∧v4<(v3.length:Int)) (bif (!(decide (((v2.getD v4.toNat (qc (.int .i64))):Int)=((v3.getD v4.toNat (qc (.int .i64))):Int))))then (some (false,()))else (qe0 N v2 v3 k0 n (IntKind.i64.wrap (v4+(1:Int)))))))else (k0 ())
noncomputable def m21 (N:Nat) (v0:List (Val (.int .i64))) (v1:List (Val (.int .i64))):Option (qa [i4]):=bif (!(decide ((v0.length:Int)=(v1.length:Int))))then (some (false,()))else (qe0 N v0 v1 (fun (_:Unit)=>some (true,())) N (0:Int))
def Γ21:Gam:=[]
def qh9:Nm:=⟨[true,true,false,false,false,true],[],false⟩
theorem qwM:qh9.zero=false:=rfl
theorem qw7:qh9.fix=[]:=rfl
theorem qAY:qh9.keep=[true,true,false,false,false,true]:=rfl
def qoF:Nm:=⟨[],[],false⟩
theorem qsL:qoF.zero=false:=rfl
theorem qtt:qoF.fix=[]:=rfl
theorem qyb:qoF.keep=[]:=rfl
def qgX:Nat→Tree:=fun i=>if i=6 then .quiet 0 (.quiet 1 (.quiet 2 (.quiet 3 (.quiet 4 (.quiet 5 (.quiet 6 (.quiet 7 (.quiet 8 .done))))))))else .done
def qjv:Nat→Nm:=fun i=>if i=4 then qh9 else ⟨[],[],false⟩
def qhJ:Nat→Option Jn:=fun _=>none
def qhf:Nat→Option Nm:=fun i=>if i=0 then some qoF else none
def qiC:Nat→Option Nm:=fun _=>none
theorem p21:qg qgX (Try.f21.body.getD .skip)=true:=by kernel_rfl
def T21 (N:Nat):Tab:={tr:=qgX,lp:=qjv,ex:=qhf,rg:=qiC,jn:=qhJ,fuel:=N}
theorem qqK (N:Nat):(T21 N).pins=false:=rfl
theorem qHT (N:Nat):qk Try.prog (T21 N):=qn fun _=>rfl
theorem qrn (N:Nat) (i:Nat):(T21 N).tr i=qgX i:=rfl
theorem qvS (N:Nat) (i:Nat):(T21 N).lp i=qjv i:=rfl
theorem qtS (N:Nat) (i:Nat):(T21 N).ex i=qhf i:=rfl
theorem qyw (N:Nat) (i:Nat):(T21 N).rg i=qiC i:=rfl
theorem qtT (N:Nat) (i:Nat):(T21 N).jn i=qhJ i:=rfl
theorem qrF (N:Nat):(T21 N).fuel=N:=rfl
noncomputable def qDu:Code:=cut [true,true,false,true,true,true] (Try.f21.body.getD .skip)
theorem qHV {N:Nat} {Q:X→St→Option (qa [i4])} {e:List LV} {h:List Blk}:qb tt Γ21 (T21 N) qDu Q ⟨e,h⟩=qb tt Γ21 (T21 N) (cut [true,true,false,true,true,true] (Try.f21.body.getD .skip)) Q ⟨e,h⟩:=rfl
theorem qMB (N:Nat) (v2:List (Val (.int .i64))) (v3:List (Val (.int .i64))) {k0:Unit→Option (qa [i4])} {Q:X→St→Option (qa [i4])} {c:Code} (hc:c=qDu) (hret: ∀st,Q .ret st=qy tt true [i4] [.tmp 4] st) (h0:Q (.exit 0) ⟨[u,u,u,u,u,u,u,u,u,u,u,u,u,u,u,u,u,u,u,u,u,u,u,u,u,u],[]⟩=k0 ()): ∀(n:Nat) (v4:Int),qx (qb tt Γ21 (T21 N) c) false qh9 Q n ⟨[.one (.sl 3 (.int .i64) v2 0),.one (.sl 3 (.int .i64) v3 0),u,u,u,.one (.int .i64 v4),u,u,u,u,u,u,u,u,u,u,u,u,u,u,u,u,u,u,u,u],[]⟩=qe0 N v2 v3 k0 n v4:=by
 subst hc;intro n;induction n with
 | zero=>intros;rfl
 | succ n ih=>
   intro v4
   rw [qI,qHV,qe0];unfold Try.f21
   simp (maxSteps:=10000000) -implicitDefEqProofs [qrn,qgX,qvS,qjv,qtS,qhf,qyw,qiC,qtT,qhJ,qrF,qqK,qw7,qAY,qwM,qtt,qyb,qsL,hret,h0,ih]
theorem qSb (N:Nat) (v0:List (Val (.int .i64))) (v1:List (Val (.int .i64))):qb tt Γ21 (T21 N) (Try.f21.body.getD .skip) (qh tt true [i4] [.tmp 4]) (ql [i27,i27] 26 (v0,v1,()))=m21 N v0 v1:=by
 unfold Try.f21
 simp (maxSteps:=10000000) -implicitDefEqProofs [qrn,qgX,qvS,qjv,qtS,qhf,qyw,qiC,qtT,qhJ,qrF,qqK,qw7,qAY,qwM,qtt,qyb,qsL]
 rewrite [qMB (k0:=(fun (_:Unit)=>some (true,()))) N _ _ ?_ ?_ ?_]
 ·rewrite [m21];first | rfl | simp (maxSteps:=10000000) -implicitDefEqProofs []
 ·rfl
 ·intro;simp only [qD,qE,qF,qC]
 ·simp (maxSteps:=10000000) -implicitDefEqProofs [qrn,qgX,qvS,qjv,qtS,qhf,qyw,qiC,qtT,qhJ,qrF,qqK,qw7,qAY,qwM,qtt,qyb,qsL]
def g21:G:={ps:=[i27,i27],rs:=[i4],dp:=true,pre:=fun x=>qc1 x.1 x.2.1,fn:=fun x=>(qco x.1 x.2.1,())}
theorem e21 (x y:List (Val (.int .i64))) (h:qc1 x y): ∃N,m21 N x y=some (qco x y,()):=⟨List.length x+1,by
 rw [m21,q9]
 rw [qco,eqS]
 by_cases c:List.length x=List.length y
 ·rw [qi (by omega)]
  refine (qxF (f:=eqV (.int .i64)) (xs:=x) (ys:=y) (F:=fun n i=>qe0 _ x y _ n i) (k:=fun _=>some (true,())) (r:=some (false,())) h.1 c (fun n i hi hi2=> ?_) (fun n i hi=> ?_) _ (Nat.lt_succ_self _)).trans qq7
  ·rw [qe0,qi (by omega),qd (by omega),qd (by omega),qB hi,qB hi2,q9]
   rfl
  ·rw [qe0,qj (by omega)]
 ·rw [qj (by omega),qlH _ _ c]⟩
theorem s21:Sound Try.prog 21 g21:=qq (tt:=tt) (Γ:=Γ21) hT qp hm (fn:=Try.f21) Try.func21 (c:=Try.f21.body.getD .skip) (by kernel_rfl) (by kernel_rfl) fun x hx=>by
 obtain ⟨N,h⟩:=e21 x.1 x.2.1 hx
 exact ⟨T21 N,p21,qm _,qHT N,(qSb N x.1 x.2.1).trans h⟩
def quH (x y:Val Y83):Bool:=eqV Y83 x y
def qlK (x _:Val Y83):Prop:=Bd Y83 x
noncomputable def qlu (N:Nat) (v0:Val Y83) (v1:Val Y83):Option (qa [i4]):=chk (qc1 (v0.1:List (Val (.int .i64))) (v1.1:List (Val (.int .i64)))) (bif (!((qco (v0.1:List (Val (.int .i64))) (v1.1:List (Val (.int .i64)))):Bool))then (some (false,()))else (bif (!(decide ((v0.2.1:Int)=(v1.2.1:Int))))then (some (false,()))else (bif (!((v0.2.2:Bool)==(v1.2.2:Bool)))then (some (false,()))else (some (true,())))))
def qw5:Gam:=[(21,g21)]
theorem qOG:Gam.get qw5 21=some g21:=rfl
def qlD:Nat→Tree:=fun _=> .done
def qpn:Nat→Nm:=fun _=>⟨[],[],false⟩
def qpo:Nat→Option Jn:=fun _=>none
def qyB:Nat→Option Nm:=fun _=>none
def qsb:Nat→Option Nm:=fun _=>none
theorem qHj:qg qlD (Try.f115.body.getD .skip)=true:=by kernel_rfl
def qb7 (N:Nat):Tab:={tr:=qlD,lp:=qpn,ex:=qyB,rg:=qsb,jn:=qpo,fuel:=N}
theorem qNA (N:Nat):(qb7 N).pins=false:=rfl
theorem qJm (N:Nat):qk Try.prog (qb7 N):=qn fun _=>rfl
theorem qNG (N:Nat) (i:Nat):(qb7 N).tr i=qlD i:=rfl
theorem qGL (N:Nat) (i:Nat):(qb7 N).lp i=qpn i:=rfl
theorem qGK (N:Nat) (i:Nat):(qb7 N).ex i=qyB i:=rfl
theorem qRz (N:Nat) (i:Nat):(qb7 N).rg i=qsb i:=rfl
theorem qFO (N:Nat) (i:Nat):(qb7 N).jn i=qpo i:=rfl
theorem qId (N:Nat):(qb7 N).fuel=N:=rfl
theorem qMO (N:Nat) (v0:Val Y83) (v1:Val Y83):qb tt qw5 (qb7 N) (Try.f115.body.getD .skip) (qh tt true [i4] [.tmp 4]) (ql [i83,i83] 21 (v0,v1,()))=qlu N v0 v1:=by
 rw [qlu];unfold Try.f115
 simp (maxSteps:=10000000) -implicitDefEqProofs [qNG,qlD,qGL,qpn,qGK,qyB,qRz,qsb,qFO,qpo,qId,qNA,qOG,g21]
 try rfl
def qgj:G:={ps:=[i83,i83],rs:=[i4],dp:=true,pre:=fun x=>qlK x.1 x.2.1,fn:=fun x=>(quH x.1 x.2.1,())}
theorem qG9 (x y:Val Y83) (h:qlK x y): ∃N,qlu N x y=some (quH x y,()):=⟨0,by
 obtain ⟨s0,s1,s2⟩:=h
 rw [qlu,qd (show qc1 _ _ from s0)]
 obtain ⟨x0,x1,x2⟩:=x
 obtain ⟨y0,y1,y2⟩:=y
 change _=some ((eqV (.slice 3 (.int .i64)) x0 y0&&(eqV (.int .i64) x1 y1&&eqV .bool x2 y2)),())
 simp only [q9]
 show _=_
 generalize he0:eqV (.slice 3 (.int .i64)) x0 y0=e0
 have hd0:qco x0 y0=e0:=he0
 generalize he1:eqV (.int .i64) x1 y1=e1
 have hd1:decide ((x1:Int)=y1)=e1:=he1
 generalize he2:eqV .bool x2 y2=e2
 have hd2:((x2:Bool)==y2)=e2:=he2
 simp only [hd0,hd1,hd2]
 cases e0<;>cases e1<;>cases e2<;>rfl⟩
theorem qQY:Sound Try.prog 115 qgj:=qq (tt:=tt) (Γ:=qw5) hT (qe s21 qp) hm (fn:=Try.f115) Try.func115 (c:=Try.f115.body.getD .skip) (by kernel_rfl) (by kernel_rfl) fun x hx=>by
 obtain ⟨N,h⟩:=qG9 x.1 x.2.1 hx
 exact ⟨qb7 N,qHj,qm _,qJm N,(qMO N x.1 x.2.1).trans h⟩
def qkX (x y:List (Val Y83)):Bool:=eqV (.slice 83 Y83) x y
def qly (x _:List (Val Y83)):Prop:=Bd (.slice 83 Y83) x
noncomputable def qdJ (N:Nat) (v2:List (Val Y83)) (v3:List (Val Y83)) (k0:Unit→Option (qa [i4])):Nat→Int→Option (qa [i4])
 | 0,_=>none
 | n+1,v4=>bif (decide (v4<(v2.length:Int)))then (chk (0≤v4∧v4<(v2.length:Int)) (chk (0≤v4∧v4<(v3.length:Int)) (chk (qlK (v2.getD v4.toNat (qc Y83)) (v3.getD v4.toNat (qc Y83))) (bif (!((quH (v2.getD v4.toNat (qc Y83)) (v3.getD v4.toNat (qc Y83))):Bool))then (some (false,()))else (qdJ N v2 v3 k0 n (IntKind.i64.wrap (v4+(1:Int))))))))else (k0 ())
noncomputable def m74 (N:Nat) (v0:List (Val Y83)) (v1:List (Val Y83)):Option (qa [i4]):=bif (!(decide ((v0.length:Int)=(v1.length:Int))))then (some (false,()))else (qdJ N v0 v1 (fun (_:Unit)=>some (true,())) N (0:Int))
def Γ74:Gam:=[(115,qgj)]
theorem qqP:Gam.get Γ74 115=some qgj:=rfl
def qhK:Nm:=⟨[true,true,false,false,false,true],[],false⟩
theorem qqE:qhK.zero=false:=rfl
theorem qw6:qhK.fix=[]:=rfl
theorem qx1:qhK.keep=[true,true,false,false,false,true]:=rfl
def qob:Nm:=⟨[],[],false⟩
theorem qp2:qob.zero=false:=rfl
theorem qv1:qob.fix=[]:=rfl
theorem qrN:qob.keep=[]:=rfl
def qgr:Nat→Tree:=fun i=>if i=6 then .quiet 0 (.quiet 1 (.quiet 2 (.quiet 3 (.quiet 4 (.quiet 5 (.quiet 6 (.quiet 7 (.alt 8 (.quiet 9 .done) .stop))))))))else .done
def qj3:Nat→Nm:=fun i=>if i=4 then qhK else ⟨[],[],false⟩
def qg6:Nat→Option Jn:=fun _=>none
def qj2:Nat→Option Nm:=fun i=>if i=0 then some qob else none
def qkA:Nat→Option Nm:=fun _=>none
theorem p74:qg qgr (Try.f74.body.getD .skip)=true:=by kernel_rfl
def T74 (N:Nat):Tab:={tr:=qgr,lp:=qj3,ex:=qj2,rg:=qkA,jn:=qg6,fuel:=N}
theorem qvC (N:Nat):(T74 N).pins=false:=rfl
theorem qLQ (N:Nat):qk Try.prog (T74 N):=qn fun _=>rfl
theorem qAB (N:Nat) (i:Nat):(T74 N).tr i=qgr i:=rfl
theorem qqQ (N:Nat) (i:Nat):(T74 N).lp i=qj3 i:=rfl
theorem qzn (N:Nat) (i:Nat):(T74 N).ex i=qj2 i:=rfl
theorem qrp (N:Nat) (i:Nat):(T74 N).rg i=qkA i:=rfl
theorem qAy (N:Nat) (i:Nat):(T74 N).jn i=qg6 i:=rfl
theorem qqd (N:Nat):(T74 N).fuel=N:=rfl
noncomputable def qDA:Code:=cut [true,true,false,true,true,true] (Try.f74.body.getD .skip)
theorem qJG {N:Nat} {Q:X→St→Option (qa [i4])} {e:List LV} {h:List Blk}:qb tt Γ74 (T74 N) qDA Q ⟨e,h⟩=qb tt Γ74 (T74 N) (cut [true,true,false,true,true,true] (Try.f74.body.getD .skip)) Q ⟨e,h⟩:=rfl
theorem qFK (N:Nat) (v2:List (Val Y83)) (v3:List (Val Y83)) {k0:Unit→Option (qa [i4])} {Q:X→St→Option (qa [i4])} {c:Code} (hc:c=qDA) (hret: ∀st,Q .ret st=qy tt true [i4] [.tmp 4] st) (h0:Q (.exit 0) ⟨[u,u,u,u,u,u,u,u,u,u,u,u,u,u,u,u,u,u,u,u,u,u,u,u,u,u,u],[]⟩=k0 ()): ∀(n:Nat) (v4:Int),qx (qb tt Γ74 (T74 N) c) false qhK Q n ⟨[.one (.sl 83 Y83 v2 0),.one (.sl 83 Y83 v3 0),u,u,u,.one (.int .i64 v4),u,u,u,u,u,u,u,u,u,u,u,u,u,u,u,u,u,u,u,u,u],[]⟩=qdJ N v2 v3 k0 n v4:=by
 subst hc;intro n;induction n with
 | zero=>intros;rfl
 | succ n ih=>
   intro v4
   rw [qI,qJG,qdJ];unfold Try.f74
   simp (maxSteps:=10000000) -implicitDefEqProofs [qAB,qgr,qqQ,qj3,qzn,qj2,qrp,qkA,qAy,qg6,qqd,qvC,qw6,qx1,qqE,qv1,qrN,qp2,qqP,qgj,hret,h0,ih]
theorem qHH (N:Nat) (v0:List (Val Y83)) (v1:List (Val Y83)):qb tt Γ74 (T74 N) (Try.f74.body.getD .skip) (qh tt true [i4] [.tmp 4]) (ql [i24,i24] 27 (v0,v1,()))=m74 N v0 v1:=by
 unfold Try.f74
 simp (maxSteps:=10000000) -implicitDefEqProofs [qAB,qgr,qqQ,qj3,qzn,qj2,qrp,qkA,qAy,qg6,qqd,qvC,qw6,qx1,qqE,qv1,qrN,qp2,qqP,qgj]
 rewrite [qFK (k0:=(fun (_:Unit)=>some (true,()))) N _ _ ?_ ?_ ?_]
 ·rewrite [m74];first | rfl | simp (maxSteps:=10000000) -implicitDefEqProofs []
 ·rfl
 ·intro;simp only [qD,qE,qF,qC]
 ·simp (maxSteps:=10000000) -implicitDefEqProofs [qAB,qgr,qqQ,qj3,qzn,qj2,qrp,qkA,qAy,qg6,qqd,qvC,qw6,qx1,qqE,qv1,qrN,qp2,qqP,qgj]
def g74:G:={ps:=[i24,i24],rs:=[i4],dp:=true,pre:=fun x=>qly x.1 x.2.1,fn:=fun x=>(qkX x.1 x.2.1,())}
theorem e74 (x y:List (Val Y83)) (h:qly x y): ∃N,m74 N x y=some (qkX x y,()):=⟨List.length x+1,by
 rw [m74,q9]
 rw [qkX,eqS]
 by_cases c:List.length x=List.length y
 ·rw [qi (by omega)]
  refine (qxF (f:=eqV Y83) (xs:=x) (ys:=y) (F:=fun n i=>qdJ _ x y _ n i) (k:=fun _=>some (true,())) (r:=some (false,())) h.1 c (fun n i hi hi2=> ?_) (fun n i hi=> ?_) _ (Nat.lt_succ_self _)).trans qq7
  ·rw [qdJ,qi (by omega),qd (by omega),qd (by omega),qd (show qlK _ _ from by rw [qB hi];exact h.2 _ (List.getElem_mem hi)),qB hi,qB hi2,q9]
   rfl
  ·rw [qdJ,qj (by omega)]
 ·rw [qj (by omega),qlH _ _ c]⟩
theorem s74:Sound Try.prog 74 g74:=qq (tt:=tt) (Γ:=Γ74) hT (qe qQY qp) hm (fn:=Try.f74) Try.func74 (c:=Try.f74.body.getD .skip) (by kernel_rfl) (by kernel_rfl) fun x hx=>by
 obtain ⟨N,h⟩:=e74 x.1 x.2.1 hx
 exact ⟨T74 N,p74,qm _,qLQ N,(qHH N x.1 x.2.1).trans h⟩
def qmK (x y:Val Y26):Bool:=eqV Y26 x y
def qms (x _:Val Y26):Prop:=Bd Y26 x
noncomputable def m20 (N:Nat) (v0:Val Y26) (v1:Val Y26):Option (qa [i4]):=bif (!(decide ((v0.1:Int)=(v1.1:Int))))then (some (false,()))else (chk (qly (v0.2:List (Val Y83)) (v1.2:List (Val Y83))) (bif (!((qkX (v0.2:List (Val Y83)) (v1.2:List (Val Y83))):Bool))then (some (false,()))else (some (true,()))))
def Γ20:Gam:=[(74,g74)]
theorem qPg:Gam.get Γ20 74=some g74:=rfl
def qlw:Nat→Tree:=fun _=> .done
def qpV:Nat→Nm:=fun _=>⟨[],[],false⟩
def qvs:Nat→Option Jn:=fun _=>none
def qsf:Nat→Option Nm:=fun _=>none
def qwl:Nat→Option Nm:=fun _=>none
theorem p20:qg qlw (Try.f20.body.getD .skip)=true:=by kernel_rfl
def T20 (N:Nat):Tab:={tr:=qlw,lp:=qpV,ex:=qsf,rg:=qwl,jn:=qvs,fuel:=N}
theorem qP8 (N:Nat):(T20 N).pins=false:=rfl
theorem qKc (N:Nat):qk Try.prog (T20 N):=qn fun _=>rfl
theorem qJh (N:Nat) (i:Nat):(T20 N).tr i=qlw i:=rfl
theorem qOV (N:Nat) (i:Nat):(T20 N).lp i=qpV i:=rfl
theorem qOY (N:Nat) (i:Nat):(T20 N).ex i=qsf i:=rfl
theorem qJo (N:Nat) (i:Nat):(T20 N).rg i=qwl i:=rfl
theorem qHS (N:Nat) (i:Nat):(T20 N).jn i=qvs i:=rfl
theorem qLg (N:Nat):(T20 N).fuel=N:=rfl
theorem qPr (N:Nat) (v0:Val Y26) (v1:Val Y26):qb tt Γ20 (T20 N) (Try.f20.body.getD .skip) (qh tt true [i4] [.tmp 4]) (ql [i26,i26] 16 (v0,v1,()))=m20 N v0 v1:=by
 rw [m20];unfold Try.f20
 simp (maxSteps:=10000000) -implicitDefEqProofs [qJh,qlw,qOV,qpV,qOY,qsf,qJo,qwl,qHS,qvs,qLg,qP8,qPg,g74]
 try rfl
def g20:G:={ps:=[i26,i26],rs:=[i4],dp:=true,pre:=fun x=>qms x.1 x.2.1,fn:=fun x=>(qmK x.1 x.2.1,())}
theorem e20 (x y:Val Y26) (h:qms x y): ∃N,m20 N x y=some (qmK x y,()):=⟨0,by
 obtain ⟨s0,s1⟩:=h
 rw [m20,qd (show qly _ _ from s1)]
 obtain ⟨x0,x1⟩:=x
 obtain ⟨y0,y1⟩:=y
 change _=some ((eqV (.int .i64) x0 y0&&eqV (.slice 83 Y83) x1 y1),())
 simp only [q9]
 show _=_
 generalize he0:eqV (.int .i64) x0 y0=e0
 have hd0:decide ((x0:Int)=y0)=e0:=he0
 generalize he1:eqV (.slice 83 Y83) x1 y1=e1
 have hd1:qkX x1 y1=e1:=he1
 simp only [hd0,hd1]
 cases e0<;>cases e1<;>rfl⟩
theorem s20:Sound Try.prog 20 g20:=qq (tt:=tt) (Γ:=Γ20) hT (qe s74 qp) hm (fn:=Try.f20) Try.func20 (c:=Try.f20.body.getD .skip) (by kernel_rfl) (by kernel_rfl) fun x hx=>by
 obtain ⟨N,h⟩:=e20 x.1 x.2.1 hx
 exact ⟨T20 N,p20,qm _,qKc N,(qPr N x.1 x.2.1).trans h⟩
def qiV (x y:Val Y35):Bool:=eqV Y35 x y
def qfu (x _:Val Y35):Prop:=Bd Y35 x
noncomputable def m75 (N:Nat) (v0:Val Y35) (v1:Val Y35):Option (qa [i4]):=bif (!(decide ((v0.1:Int)=(v1.1:Int))))then (some (false,()))else (bif (!(decide ((v0.2:Int)=(v1.2:Int))))then (some (false,()))else (some (true,())))
def Γ75:Gam:=[]
def qna:Nat→Tree:=fun _=> .done
def qzY:Nat→Nm:=fun _=>⟨[],[],false⟩
def qt0:Nat→Option Jn:=fun _=>none
def qzy:Nat→Option Nm:=fun _=>none
def qtY:Nat→Option Nm:=fun _=>none
theorem p75:qg qna (Try.f75.body.getD .skip)=true:=by kernel_rfl
def T75 (N:Nat):Tab:={tr:=qna,lp:=qzY,ex:=qzy,rg:=qtY,jn:=qt0,fuel:=N}
theorem qQH (N:Nat):(T75 N).pins=false:=rfl
theorem qLy (N:Nat):qk Try.prog (T75 N):=qn fun _=>rfl
theorem qHf (N:Nat) (i:Nat):(T75 N).tr i=qna i:=rfl
theorem qNC (N:Nat) (i:Nat):(T75 N).lp i=qzY i:=rfl
theorem qHR (N:Nat) (i:Nat):(T75 N).ex i=qzy i:=rfl
theorem qFI (N:Nat) (i:Nat):(T75 N).rg i=qtY i:=rfl
theorem qOo (N:Nat) (i:Nat):(T75 N).jn i=qt0 i:=rfl
theorem qN3 (N:Nat):(T75 N).fuel=N:=rfl
theorem qO8 (N:Nat) (v0:Val Y35) (v1:Val Y35):qb tt Γ75 (T75 N) (Try.f75.body.getD .skip) (qh tt true [i4] [.tmp 4]) (ql [i35,i35] 15 (v0,v1,()))=m75 N v0 v1:=by
 rw [m75];unfold Try.f75
 simp (maxSteps:=10000000) -implicitDefEqProofs [qHf,qna,qNC,qzY,qHR,qzy,qFI,qtY,qOo,qt0,qN3,qQH]
 try rfl
def g75:G:={ps:=[i35,i35],rs:=[i4],dp:=true,pre:=fun x=>qfu x.1 x.2.1,fn:=fun x=>(qiV x.1 x.2.1,())}
theorem e75 (x y:Val Y35) (h:qfu x y): ∃N,m75 N x y=some (qiV x y,()):=⟨0,by
 obtain ⟨s0,s1⟩:=h
 rw [m75]
 obtain ⟨x0,x1⟩:=x
 obtain ⟨y0,y1⟩:=y
 change _=some ((eqV (.int .i64) x0 y0&&eqV (.int .i64) x1 y1),())
 simp only [q9]
 show _=_
 generalize he0:eqV (.int .i64) x0 y0=e0
 have hd0:decide ((x0:Int)=y0)=e0:=he0
 generalize he1:eqV (.int .i64) x1 y1=e1
 have hd1:decide ((x1:Int)=y1)=e1:=he1
 simp only [hd0,hd1]
 cases e0<;>cases e1<;>rfl⟩
theorem s75:Sound Try.prog 75 g75:=qq (tt:=tt) (Γ:=Γ75) hT qp hm (fn:=Try.f75) Try.func75 (c:=Try.f75.body.getD .skip) (by kernel_rfl) (by kernel_rfl) fun x hx=>by
 obtain ⟨N,h⟩:=e75 x.1 x.2.1 hx
 exact ⟨T75 N,p75,qm _,qLy N,(qO8 N x.1 x.2.1).trans h⟩
def qeC (x y:List (Val Y35)):Bool:=eqV (.slice 35 Y35) x y
def qgw (x _:List (Val Y35)):Prop:=Bd (.slice 35 Y35) x
noncomputable def qeH (N:Nat) (v2:List (Val Y35)) (v3:List (Val Y35)) (k0:Unit→Option (qa [i4])):Nat→Int→Option (qa [i4])
 | 0,_=>none
 | n+1,v4=>bif (decide (v4<(v2.length:Int)))then (chk (0≤v4∧v4<(v2.length:Int)) (chk (0≤v4∧v4<(v3.length:Int)) (chk (qfu (v2.getD v4.toNat (qc Y35)) (v3.getD v4.toNat (qc Y35))) (bif (!((qiV (v2.getD v4.toNat (qc Y35)) (v3.getD v4.toNat (qc Y35))):Bool))then (some (false,()))else (qeH N v2 v3 k0 n (IntKind.i64.wrap (v4+(1:Int))))))))else (k0 ())
noncomputable def m76 (N:Nat) (v0:List (Val Y35)) (v1:List (Val Y35)):Option (qa [i4]):=bif (!(decide ((v0.length:Int)=(v1.length:Int))))then (some (false,()))else (qeH N v0 v1 (fun (_:Unit)=>some (true,())) N (0:Int))
def Γ76:Gam:=[(75,g75)]
theorem qBa:Gam.get Γ76 75=some g75:=rfl
def qiW:Nm:=⟨[true,true,false,false,false,true],[],false⟩
theorem qAI:qiW.zero=false:=rfl
theorem qqF:qiW.fix=[]:=rfl
theorem qzP:qiW.keep=[true,true,false,false,false,true]:=rfl
def qmI:Nm:=⟨[],[],false⟩
theorem qqh:qmI.zero=false:=rfl
theorem qzT:qmI.fix=[]:=rfl
theorem qun:qmI.keep=[]:=rfl
def qfO:Nat→Tree:=fun i=>if i=6 then .quiet 0 (.quiet 1 (.quiet 2 (.quiet 3 (.quiet 4 (.quiet 5 (.quiet 6 (.quiet 7 (.alt 8 (.quiet 9 .done) .stop))))))))else .done
def qiv:Nat→Nm:=fun i=>if i=4 then qiW else ⟨[],[],false⟩
def qko:Nat→Option Jn:=fun _=>none
def qkZ:Nat→Option Nm:=fun i=>if i=0 then some qmI else none
def qkM:Nat→Option Nm:=fun _=>none
theorem p76:qg qfO (Try.f76.body.getD .skip)=true:=by kernel_rfl
def T76 (N:Nat):Tab:={tr:=qfO,lp:=qiv,ex:=qkZ,rg:=qkM,jn:=qko,fuel:=N}
theorem qpu (N:Nat):(T76 N).pins=false:=rfl
theorem qJN (N:Nat):qk Try.prog (T76 N):=qn fun _=>rfl
theorem qyr (N:Nat) (i:Nat):(T76 N).tr i=qfO i:=rfl
theorem qsx (N:Nat) (i:Nat):(T76 N).lp i=qiv i:=rfl
theorem qsK (N:Nat) (i:Nat):(T76 N).ex i=qkZ i:=rfl
theorem qvi (N:Nat) (i:Nat):(T76 N).rg i=qkM i:=rfl
theorem qyS (N:Nat) (i:Nat):(T76 N).jn i=qko i:=rfl
theorem qxi (N:Nat):(T76 N).fuel=N:=rfl
noncomputable def qCw:Code:=cut [true,true,false,true,true,true] (Try.f76.body.getD .skip)
theorem qPe {N:Nat} {Q:X→St→Option (qa [i4])} {e:List LV} {h:List Blk}:qb tt Γ76 (T76 N) qCw Q ⟨e,h⟩=qb tt Γ76 (T76 N) (cut [true,true,false,true,true,true] (Try.f76.body.getD .skip)) Q ⟨e,h⟩:=rfl
theorem qSc (N:Nat) (v2:List (Val Y35)) (v3:List (Val Y35)) {k0:Unit→Option (qa [i4])} {Q:X→St→Option (qa [i4])} {c:Code} (hc:c=qCw) (hret: ∀st,Q .ret st=qy tt true [i4] [.tmp 4] st) (h0:Q (.exit 0) ⟨[u,u,u,u,u,u,u,u,u,u,u,u,u,u,u,u,u,u,u,u,u,u,u,u,u,u,u],[]⟩=k0 ()): ∀(n:Nat) (v4:Int),qx (qb tt Γ76 (T76 N) c) false qiW Q n ⟨[.one (.sl 35 Y35 v2 0),.one (.sl 35 Y35 v3 0),u,u,u,.one (.int .i64 v4),u,u,u,u,u,u,u,u,u,u,u,u,u,u,u,u,u,u,u,u,u],[]⟩=qeH N v2 v3 k0 n v4:=by
 subst hc;intro n;induction n with
 | zero=>intros;rfl
 | succ n ih=>
   intro v4
   rw [qI,qPe,qeH];unfold Try.f76
   simp (maxSteps:=10000000) -implicitDefEqProofs [qyr,qfO,qsx,qiv,qsK,qkZ,qvi,qkM,qyS,qko,qxi,qpu,qqF,qzP,qAI,qzT,qun,qqh,qBa,g75,hret,h0,ih]
theorem qJz (N:Nat) (v0:List (Val Y35)) (v1:List (Val Y35)):qb tt Γ76 (T76 N) (Try.f76.body.getD .skip) (qh tt true [i4] [.tmp 4]) (ql [i32,i32] 27 (v0,v1,()))=m76 N v0 v1:=by
 unfold Try.f76
 simp (maxSteps:=10000000) -implicitDefEqProofs [qyr,qfO,qsx,qiv,qsK,qkZ,qvi,qkM,qyS,qko,qxi,qpu,qqF,qzP,qAI,qzT,qun,qqh,qBa,g75]
 rewrite [qSc (k0:=(fun (_:Unit)=>some (true,()))) N _ _ ?_ ?_ ?_]
 ·rewrite [m76];first | rfl | simp (maxSteps:=10000000) -implicitDefEqProofs []
 ·rfl
 ·intro;simp only [qD,qE,qF,qC]
 ·simp (maxSteps:=10000000) -implicitDefEqProofs [qyr,qfO,qsx,qiv,qsK,qkZ,qvi,qkM,qyS,qko,qxi,qpu,qqF,qzP,qAI,qzT,qun,qqh,qBa,g75]
def g76:G:={ps:=[i32,i32],rs:=[i4],dp:=true,pre:=fun x=>qgw x.1 x.2.1,fn:=fun x=>(qeC x.1 x.2.1,())}
theorem e76 (x y:List (Val Y35)) (h:qgw x y): ∃N,m76 N x y=some (qeC x y,()):=⟨List.length x+1,by
 rw [m76,q9]
 rw [qeC,eqS]
 by_cases c:List.length x=List.length y
 ·rw [qi (by omega)]
  refine (qxF (f:=eqV Y35) (xs:=x) (ys:=y) (F:=fun n i=>qeH _ x y _ n i) (k:=fun _=>some (true,())) (r:=some (false,())) h.1 c (fun n i hi hi2=> ?_) (fun n i hi=> ?_) _ (Nat.lt_succ_self _)).trans qq7
  ·rw [qeH,qi (by omega),qd (by omega),qd (by omega),qd (show qfu _ _ from by rw [qB hi];exact h.2 _ (List.getElem_mem hi)),qB hi,qB hi2,q9]
   rfl
  ·rw [qeH,qj (by omega)]
 ·rw [qj (by omega),qlH _ _ c]⟩
theorem s76:Sound Try.prog 76 g76:=qq (tt:=tt) (Γ:=Γ76) hT (qe s75 qp) hm (fn:=Try.f76) Try.func76 (c:=Try.f76.body.getD .skip) (by kernel_rfl) (by kernel_rfl) fun x hx=>by
 obtain ⟨N,h⟩:=e76 x.1 x.2.1 hx
 exact ⟨T76 N,p76,qm _,qJN N,(qJz N x.1 x.2.1).trans h⟩
def qlV (x y:Val Y51):Bool:=eqV Y51 x y
def qnA (x _:Val Y51):Prop:=Bd Y51 x
noncomputable def m22 (N:Nat) (v0:Val Y51) (v1:Val Y51):Option (qa [i4]):=bif (!(decide ((v0.1:Int)=(v1.1:Int))))then (some (false,()))else (chk (qfu v0.2.1 v1.2.1) (bif (!((qiV v0.2.1 v1.2.1):Bool))then (some (false,()))else (bif (!((v0.2.2.1:Bool)==(v1.2.2.1:Bool)))then (some (false,()))else (chk (qgw (v0.2.2.2.1:List (Val Y35)) (v1.2.2.2.1:List (Val Y35))) (bif (!((qeC (v0.2.2.2.1:List (Val Y35)) (v1.2.2.2.1:List (Val Y35))):Bool))then (some (false,()))else (chk (qgw (v0.2.2.2.2.1:List (Val Y35)) (v1.2.2.2.2.1:List (Val Y35))) (bif (!((qeC (v0.2.2.2.2.1:List (Val Y35)) (v1.2.2.2.2.1:List (Val Y35))):Bool))then (some (false,()))else (chk (qc1 (v0.2.2.2.2.2:List (Val (.int .i64))) (v1.2.2.2.2.2:List (Val (.int .i64)))) (bif (!((qco (v0.2.2.2.2.2:List (Val (.int .i64))) (v1.2.2.2.2.2:List (Val (.int .i64)))):Bool))then (some (false,()))else (some (true,())))))))))))
def Γ22:Gam:=[(21,g21),(75,g75),(76,g76)]
theorem qRJ:Gam.get Γ22 21=some g21:=rfl
theorem qLS:Gam.get Γ22 75=some g75:=rfl
theorem qOH:Gam.get Γ22 76=some g76:=rfl
def qlG:Nat→Tree:=fun _=> .done
def qtg:Nat→Nm:=fun _=>⟨[],[],false⟩
def qr7:Nat→Option Jn:=fun _=>none
def qtX:Nat→Option Nm:=fun _=>none
def qrP:Nat→Option Nm:=fun _=>none
theorem p22:qg qlG (Try.f22.body.getD .skip)=true:=by kernel_rfl
def T22 (N:Nat):Tab:={tr:=qlG,lp:=qtg,ex:=qtX,rg:=qrP,jn:=qr7,fuel:=N}
theorem qKY (N:Nat):(T22 N).pins=false:=rfl
theorem qPT (N:Nat):qk Try.prog (T22 N):=qn fun _=>rfl
theorem qOL (N:Nat) (i:Nat):(T22 N).tr i=qlG i:=rfl
theorem qLP (N:Nat) (i:Nat):(T22 N).lp i=qtg i:=rfl
theorem qOt (N:Nat) (i:Nat):(T22 N).ex i=qtX i:=rfl
theorem qLV (N:Nat) (i:Nat):(T22 N).rg i=qrP i:=rfl
theorem qRq (N:Nat) (i:Nat):(T22 N).jn i=qr7 i:=rfl
theorem qIw (N:Nat):(T22 N).fuel=N:=rfl
theorem qJx (N:Nat) (v0:Val Y51) (v1:Val Y51):qb tt Γ22 (T22 N) (Try.f22.body.getD .skip) (qh tt true [i4] [.tmp 4]) (ql [i51,i51] 39 (v0,v1,()))=m22 N v0 v1:=by
 rw [m22];unfold Try.f22
 simp (maxSteps:=10000000) -implicitDefEqProofs [qOL,qlG,qLP,qtg,qOt,qtX,qLV,qrP,qRq,qr7,qIw,qKY,qRJ,qLS,qOH,g21,g75,g76]
 try rfl
def g22:G:={ps:=[i51,i51],rs:=[i4],dp:=true,pre:=fun x=>qnA x.1 x.2.1,fn:=fun x=>(qlV x.1 x.2.1,())}
theorem e22 (x y:Val Y51) (h:qnA x y): ∃N,m22 N x y=some (qlV x y,()):=⟨0,by
 obtain ⟨s0,s1,s2,s3,s4,s5⟩:=h
 rw [m22,qd (show qfu _ _ from s1),qd (show qgw _ _ from s3),qd (show qgw _ _ from s4),qd (show qc1 _ _ from s5)]
 obtain ⟨x0,x1,x2,x3,x4,x5⟩:=x
 obtain ⟨y0,y1,y2,y3,y4,y5⟩:=y
 change _=some ((eqV (.int .i64) x0 y0&&(eqV Y35 x1 y1&&(eqV .bool x2 y2&&(eqV (.slice 35 Y35) x3 y3&&(eqV (.slice 35 Y35) x4 y4&&eqV (.slice 3 (.int .i64)) x5 y5))))),())
 simp only [q9]
 show _=_
 generalize he0:eqV (.int .i64) x0 y0=e0
 have hd0:decide ((x0:Int)=y0)=e0:=he0
 generalize he1:eqV Y35 x1 y1=e1
 have hd1:qiV x1 y1=e1:=he1
 generalize he2:eqV .bool x2 y2=e2
 have hd2:((x2:Bool)==y2)=e2:=he2
 generalize he3:eqV (.slice 35 Y35) x3 y3=e3
 have hd3:qeC x3 y3=e3:=he3
 generalize he4:eqV (.slice 35 Y35) x4 y4=e4
 have hd4:qeC x4 y4=e4:=he4
 generalize he5:eqV (.slice 3 (.int .i64)) x5 y5=e5
 have hd5:qco x5 y5=e5:=he5
 simp only [hd0,hd1,hd2,hd3,hd4,hd5]
 cases e0<;>cases e1<;>cases e2<;>cases e3<;>cases e4<;>cases e5<;>rfl⟩
theorem s22:Sound Try.prog 22 g22:=qq (tt:=tt) (Γ:=Γ22) hT (qe s21 (qe s75 (qe s76 qp))) hm (fn:=Try.f22) Try.func22 (c:=Try.f22.body.getD .skip) (by kernel_rfl) (by kernel_rfl) fun x hx=>by
 obtain ⟨N,h⟩:=e22 x.1 x.2.1 hx
 exact ⟨T22 N,p22,qm _,qPT N,(qJx N x.1 x.2.1).trans h⟩
noncomputable def m4 (N:Nat) (v0:Val Y40) (v1:List (Val (.int .i64))) (v2:Val Y44):Option (qa [i4]):=bif (decide ((1048576:Int)<(v1.length:Int)))then (some (true,()))else (chk (qnv v0 (1048576:Int)) (bif (decide (((qcC v0 (1048576:Int)):Int)<(0:Int)))then (some (true,()))else (chk (qnR v2 ((qcC v0 (1048576:Int)):Int)) (bif (decide (((qhd v2 ((qcC v0 (1048576:Int)):Int)):Int)<(0:Int)))then (some (true,()))else (chk (qgS v0) (chk (qbX v1) (chk (qgR v2) (chk (qeT (((qX v0).1:Int),((qX v0).2:List (Val Y83))) ((qaD v1):List (Val (.int .i64))) (((qt v2).1:Int),(((((qt v2).2).1).1:Int),((((qt v2).2).1).2:Int)),((((qt v2).2).2).1:Bool),(((((qt v2).2).2).2).1:List (Val Y35)),((((((qt v2).2).2).2).2).1:List (Val Y35)),((((((qt v2).2).2).2).2).2:List (Val (.int .i64))))) (chk (qgS v0) (chk (qbX v1) (chk (qgR v2) (chk (qeT (((qX v0).1:Int),((qX v0).2:List (Val Y83))) ((qaD v1):List (Val (.int .i64))) (((qt v2).1:Int),(((((qt v2).2).1).1:Int),((((qt v2).2).1).2:Int)),((((qt v2).2).2).1:Bool),(((((qt v2).2).2).2).1:List (Val Y35)),((((((qt v2).2).2).2).2).1:List (Val Y35)),((((((qt v2).2).2).2).2).2:List (Val (.int .i64))))) (bif (!(((qdl (((qX v0).1:Int),((qX v0).2:List (Val Y83))) ((qaD v1):List (Val (.int .i64))) (((qt v2).1:Int),(((((qt v2).2).1).1:Int),((((qt v2).2).1).2:Int)),((((qt v2).2).2).1:Bool),(((((qt v2).2).2).2).1:List (Val Y35)),((((((qt v2).2).2).2).2).1:List (Val Y35)),((((((qt v2).2).2).2).2).2:List (Val (.int .i64))))):Bool)==((qdl (((qX v0).1:Int),((qX v0).2:List (Val Y83))) ((qaD v1):List (Val (.int .i64))) (((qt v2).1:Int),(((((qt v2).2).1).1:Int),((((qt v2).2).1).2:Int)),((((qt v2).2).2).1:Bool),(((((qt v2).2).2).2).1:List (Val Y35)),((((((qt v2).2).2).2).2).1:List (Val Y35)),((((((qt v2).2).2).2).2).2:List (Val (.int .i64))))):Bool)))then (some (false,()))else (chk (qgS v0) (chk (qms (((qX v0).1:Int),((qX v0).2:List (Val Y83))) (((qX v0).1:Int),((qX v0).2:List (Val Y83)))) (bif (!((qmK (((qX v0).1:Int),((qX v0).2:List (Val Y83))) (((qX v0).1:Int),((qX v0).2:List (Val Y83)))):Bool))then (some (false,()))else (chk (qbX v1) (chk (qc1 ((qaD v1):List (Val (.int .i64))) ((qaD v1):List (Val (.int .i64)))) (bif (!((qco ((qaD v1):List (Val (.int .i64))) ((qaD v1):List (Val (.int .i64)))):Bool))then (some (false,()))else (chk (qgR v2) (chk (qnA (((qt v2).1:Int),(((((qt v2).2).1).1:Int),((((qt v2).2).1).2:Int)),((((qt v2).2).2).1:Bool),(((((qt v2).2).2).2).1:List (Val Y35)),((((((qt v2).2).2).2).2).1:List (Val Y35)),((((((qt v2).2).2).2).2).2:List (Val (.int .i64)))) (((qt v2).1:Int),(((((qt v2).2).1).1:Int),((((qt v2).2).1).2:Int)),((((qt v2).2).2).1:Bool),(((((qt v2).2).2).2).1:List (Val Y35)),((((((qt v2).2).2).2).2).1:List (Val Y35)),((((((qt v2).2).2).2).2).2:List (Val (.int .i64))))) (bif (!((qlV (((qt v2).1:Int),(((((qt v2).2).1).1:Int),((((qt v2).2).1).2:Int)),((((qt v2).2).2).1:Bool),(((((qt v2).2).2).2).1:List (Val Y35)),((((((qt v2).2).2).2).2).1:List (Val Y35)),((((((qt v2).2).2).2).2).2:List (Val (.int .i64)))) (((qt v2).1:Int),(((((qt v2).2).1).1:Int),((((qt v2).2).1).2:Int)),((((qt v2).2).2).1:Bool),(((((qt v2).2).2).2).1:List (Val Y35)),((((((qt v2).2).2).2).2).1:List (Val Y35)),((((((qt v2).2).2).2).2).2:List (Val (.int .i64))))):Bool))then (some (false,()))else (some (true,()))))))))))))))))))))))))
def Γ4:Gam:=[(13,g13),(14,g14),(15,g15),(16,g16),(17,g17),(18,g18),(19,g19),(20,g20),(21,g21),(22,g22)]
theorem qQy:Gam.get Γ4 13=some g13:=rfl
theorem qFA:Gam.get Γ4 14=some g14:=rfl
theorem qPK:Gam.get Γ4 15=some g15:=rfl
theorem qQi:Gam.get Γ4 16=some g16:=rfl
theorem qLb:Gam.get Γ4 17=some g17:=rfl
theorem qJX:Gam.get Γ4 18=some g18:=rfl
theorem qMm:Gam.get Γ4 19=some g19:=rfl
theorem qQ4:Gam.get Γ4 20=some g20:=rfl
theorem qPp:Gam.get Γ4 21=some g21:=rfl
theorem qII:Gam.get Γ4 22=some g22:=rfl
def tr4:Nat→Tree:=fun i=>if i=10 then .quiet 0 (.first 2 (.alt 1 (.alt 3 (.quiet 4 (.alt 5 (.alt 6 (.quiet 7 .done) .stop) .stop)) (.alt 4 (.alt 3 (.alt 5 (.alt 6 (.quiet 7 .done) .stop) .stop) .stop) .stop)) (.alt 4 (.alt 1 (.alt 3 (.alt 5 (.alt 6 (.quiet 7 .done) .stop) .stop) .stop) .stop) .stop)))else if i=17 then .quiet 1 (.alt 0 (.alt 2 (.alt 3 (.quiet 4 .done) .stop) .stop) (.alt 2 (.quiet 0 (.alt 3 (.quiet 4 .done) .stop)) .stop))else if i=21 then .quiet 1 (.alt 0 (.alt 2 (.alt 3 (.quiet 4 .done) .stop) .stop) (.alt 2 (.quiet 0 (.alt 3 (.quiet 4 .done) .stop)) .stop))else .done
def lp4:Nat→Nm:=fun _=>⟨[],[],false⟩
def jn4:Nat→Option Jn:=fun _=>none
def ex4:Nat→Option Nm:=fun _=>none
def rg4:Nat→Option Nm:=fun _=>none
theorem p4:qg tr4 (Try.f4.body.getD .skip)=true:=by kernel_rfl
def T4 (N:Nat):Tab:={tr:=tr4,lp:=lp4,ex:=ex4,rg:=rg4,jn:=jn4,fuel:=N}
theorem qLw (N:Nat):(T4 N).pins=false:=rfl
theorem tb4 (N:Nat):qk Try.prog (T4 N):=qn fun _=>rfl
theorem qRk (N:Nat) (i:Nat):(T4 N).tr i=tr4 i:=rfl
theorem qFD (N:Nat) (i:Nat):(T4 N).lp i=lp4 i:=rfl
theorem qQh (N:Nat) (i:Nat):(T4 N).ex i=ex4 i:=rfl
theorem qGa (N:Nat) (i:Nat):(T4 N).rg i=rg4 i:=rfl
theorem qFM (N:Nat) (i:Nat):(T4 N).jn i=jn4 i:=rfl
theorem qLN (N:Nat):(T4 N).fuel=N:=rfl
theorem qNN (N:Nat) (v0:Val Y40) (v1:List (Val (.int .i64))) (v2:Val Y44):qb tt Γ4 (T4 N) (Try.f4.body.getD .skip) (qh tt true [i4] [.tmp 6]) (ql [i40,i27,i44] 61 (v0,v1,v2,()))=m4 N v0 v1 v2:=by
 rw [m4];unfold Try.f4
 simp (maxSteps:=10000000) -implicitDefEqProofs [qRk,tr4,qFD,lp4,qQh,ex4,qGa,rg4,qFM,jn4,qLN,qLw,qQy,qFA,qPK,qQi,qLb,qJX,qMm,qQ4,qPp,qII,g13,g14,g15,g16,g17,g18,g19,g20,g21,g22]
 try rfl
def qEk (_:Val Y40) (_:List (Val (.int .i64))) (_:Val Y44):Bool:=true
def qDM (x0:Val Y40) (x1:List (Val (.int .i64))) (x2:Val Y44):Prop:=Sms [i40,i27,i44] (x0,x1,x2,())
def g4:G:={ps:=[i40,i27,i44],rs:=[i4],dp:=true,pre:=fun x=>qDM x.1 x.2.1 x.2.2.1,fn:=fun x=>(qEk x.1 x.2.1 x.2.2.1,())}
theorem e4 (x:Val Y40) (l:List (Val (.int .i64))) (o:Val Y44) (h:qDM x l o): ∃N,m4 N x l o=some (qEk x l o,()):=⟨0,by
 rw [m4]
 by_cases c0:(1048576:Int)<(l.length:Int)
 ·rw [qi c0];rfl
 rw [qj c0,qd (show qnv x 1048576 from ⟨h.1,by omega,by omega⟩)]
 by_cases c:qcC x 1048576<0
 ·rw [qi c];rfl
 rw [qj c]
 have hsz:0≤szV Y40 x 1048576:=by have: ¬szV Y40 x 1048576<0:=c;omega
 have hle:szV Y40 x 1048576≤1048576:=(qbs Y40 x 1048576 (by omega)).1
 have hb:Bd Y40 x:=qka Y40 x 1048576 (by omega) (by omega) hsz
 rw [qd (show qnR o (qcC x 1048576) from ⟨h.2.2.1,hsz,hle⟩)]
 generalize hr:qcC x 1048576=r at*
 by_cases c2:qhd o r<0
 ·rw [qi c2];rfl
 rw [qj c2]
 have hr0:0≤r:=by omega
 have hr1:r≤1048576:=by have:szV Y40 x 1048576=r:=hr;omega
 have ho:Bd Y44 o:=qka Y44 o r hr0 hr1 (by have: ¬szV Y44 o r<0:=c2;omega)
 have eX:((((qX x).1:Int),((qX x).2:List (Val Y83))):Val Y26)=qX x:=rfl
 have eO:((((qt o).1:Int),(((((qt o).2).1).1:Int),((((qt o).2).1).2:Int)),((((qt o).2).2).1:Bool),(((((qt o).2).2).2).1:List (Val Y35)),((((((qt o).2).2).2).2).1:List (Val Y35)),((((((qt o).2).2).2).2).2:List (Val (.int .i64)))):Opt)=qt o:=rfl
 have hl:l.length≤1048576:=by omega
 have hli:Bd (.slice 3 (.int .i64)) l:=⟨hl,fun _ _=>trivial⟩
 have tx:qgS x:=hb
 have tl:qbX l:=hli
 have to:qgR o:=ho
 have hp:qeT (qX x) (qaD l) (qt o):=⟨hb.2.1,hl,ho⟩
 have ex:qms (qX x) (qX x):=hb
 have el:qc1 (qaD l) (qaD l):=hli
 have eo:qnA (qt o) (qt o):=ho
 have rx:qmK (qX x) (qX x)=true:=qfF _ _
 have rl:qco (qaD l) (qaD l)=true:=qfF _ _
 have ro:qlV (qt o) (qt o)=true:=qfF _ _
 try rw [eX]
 try rw [eO]
 simp only [qd tx,qd tl,qd to,qd hp,qd ex,qd el,qd eo,rx,rl,ro,Bool.not_true,cond_false,beq_self_eq_true]
 rfl⟩
theorem s4:Sound Try.prog 4 g4:=qq (tt:=tt) (Γ:=Γ4) hT (qe s13 (qe s14 (qe s15 (qe s16 (qe s17 (qe s18 (qe s19 (qe s20 (qe s21 (qe s22 qp)))))))))) hm (fn:=Try.f4) Try.func4 (c:=Try.f4.body.getD .skip) (by kernel_rfl) (by kernel_rfl) fun x hx=>by
 obtain ⟨N,h⟩:=e4 x.1 x.2.1 x.2.2.1 hx
 exact ⟨T4 N,p4,qm _,tb4 N,(qNN N x.1 x.2.1 x.2.2.1).trans h⟩
end Go.T
