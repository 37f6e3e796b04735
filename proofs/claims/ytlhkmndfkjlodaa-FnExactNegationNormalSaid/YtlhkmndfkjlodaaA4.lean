/- Sizes, copies and equality of relations. -/
import Derived.Test.YtlhkmndfkjlodaaA1
set_option linter.unusedSimpArgs false
set_option linter.unusedVariables false
namespace Go.T
open Go Go.Proofs
set_option maxHeartbeats 4000000
set_option maxRecDepth 100000
def qcQ (x:List (Val (.int .i64))) (n:Int):Int:=szV (.slice 3 (.int .i64)) x n
def qiM (x:List (Val (.int .i64))) (n:Int):Prop:=qeI (.slice 3 (.int .i64)) x n
noncomputable def m54 (N:Nat) (v0:List (Val (.int .i64))) (v1:Int):Option (qc [i3]):=bif (decide ((IntKind.i64.wrap (v1 - (v0.length:Int)))<(0:Int)))then (some ((-1:Int),()))else (some ((IntKind.i64.wrap (v1 - (v0.length:Int))),()))
def Γ54:Gam:=[]
def qrc:Nat→Tree:=fun _=> .done
def qAR:Nat→Nm:=fun _=>⟨[],[],false⟩
def qs1:Nat→Option Jn:=fun _=>none
def qv7:Nat→Option Nm:=fun _=>none
def qw8:Nat→Option Nm:=fun _=>none
theorem p54:qm qrc (Try.f54.body.getD .skip)=true:=by kernel_rfl
def T54 (N:Nat):Tab:={tr:=qrc,lp:=qAR,ex:=qv7,rg:=qw8,jn:=qs1,fuel:=N}
theorem qXL (N:Nat):(T54 N).pins=false:=rfl
theorem qT1 (N:Nat):qn Try.prog (T54 N):=qt fun _=>rfl
theorem qVz (N:Nat) (i:Nat):(T54 N).tr i=qrc i:=rfl
theorem qO1 (N:Nat) (i:Nat):(T54 N).lp i=qAR i:=rfl
theorem qXd (N:Nat) (i:Nat):(T54 N).ex i=qv7 i:=rfl
theorem qV2 (N:Nat) (i:Nat):(T54 N).rg i=qw8 i:=rfl
theorem qPd (N:Nat) (i:Nat):(T54 N).jn i=qs1 i:=rfl
theorem qV3 (N:Nat):(T54 N).fuel=N:=rfl
theorem qZc (N:Nat) (v0:List (Val (.int .i64))) (v1:Int):qf tt Γ54 (T54 N) (Try.f54.body.getD .skip) (qo tt true [i3] [.tmp 4]) (qv [i27,i3] 12 (v0,v1,()))=m54 N v0 v1:=by
 rw [m54];unfold Try.f54
 simp (maxSteps:=10000000) -implicitDefEqProofs [qVz,qrc,qO1,qAR,qXd,qv7,qV2,qw8,qPd,qs1,qV3,qXL]
 try rfl
def g54:G:={ps:=[i27,i3],rs:=[i3],dp:=true,pre:=fun x=>qiM x.1 x.2.1,fn:=fun x=>(qcQ x.1 x.2.1,())}
theorem e54 (x:List (Val (.int .i64))) (n:Int) (h:qiM x n): ∃N,m54 N x n=some (qcQ x n,()):=⟨0,by
 obtain ⟨hs,h0,h1⟩:=h
 rw [m54,qfz h0 h1 hs.1]
 simp only [qcQ,qj6]
 by_cases c:n - (List.length x:Int)<0
 ·rw [qj c,if_pos c]
 ·rw [qh c,if_neg c,qT7 (fun _ _=>rfl) _ _ (by omega)]⟩
theorem s54:Sound Try.prog 54 g54:=qz (tt:=tt) (Γ:=Γ54) hT qp hm (fn:=Try.f54) Try.func54 (c:=Try.f54.body.getD .skip) (by kernel_rfl) (by kernel_rfl) fun x hx=>by
 obtain ⟨N,h⟩:=e54 x.1 x.2.1 hx
 exact ⟨T54 N,p54,qx _,qT1 N,(qZc N x.1 x.2.1).trans h⟩
def qak (x:Val qH) (n:Int):Int:=szV qH x n
def qiG (x:Val qH) (n:Int):Prop:=qeI qH x n
noncomputable def qqC (N:Nat) (v0:Val qH) (v1:Int):Option (qc [i3]):=chk (qiM (v0.1:List (Val (.int .i64))) v1) (bif (decide (((qcQ (v0.1:List (Val (.int .i64))) v1):Int)<(0:Int)))then (some ((-1:Int),()))else (some (((qcQ (v0.1:List (Val (.int .i64))) v1):Int),())))
def qDd:Gam:=[(54,g54)]
theorem qOO:Gam.get qDd 54=some g54:=rfl
def qpc:Nat→Tree:=fun _=> .done
def qAF:Nat→Nm:=fun _=>⟨[],[],false⟩
def qyX:Nat→Option Jn:=fun _=>none
def qvK:Nat→Option Nm:=fun _=>none
def qvV:Nat→Option Nm:=fun _=>none
theorem qY7:qm qpc (Try.f101.body.getD .skip)=true:=by kernel_rfl
def qe3 (N:Nat):Tab:={tr:=qpc,lp:=qAF,ex:=qvK,rg:=qvV,jn:=qyX,fuel:=N}
theorem qQU (N:Nat):(qe3 N).pins=false:=rfl
theorem qUY (N:Nat):qn Try.prog (qe3 N):=qt fun _=>rfl
theorem qOF (N:Nat) (i:Nat):(qe3 N).tr i=qpc i:=rfl
theorem qNf (N:Nat) (i:Nat):(qe3 N).lp i=qAF i:=rfl
theorem qLM (N:Nat) (i:Nat):(qe3 N).ex i=qvK i:=rfl
theorem qLV (N:Nat) (i:Nat):(qe3 N).rg i=qvV i:=rfl
theorem qOc (N:Nat) (i:Nat):(qe3 N).jn i=qyX i:=rfl
theorem qYz (N:Nat):(qe3 N).fuel=N:=rfl
theorem qPy (N:Nat) (v0:Val qH) (v1:Int):qf tt qDd (qe3 N) (Try.f101.body.getD .skip) (qo tt true [i3] [.tmp 4]) (qv [qgk,i3] 12 (v0,v1,()))=qqC N v0 v1:=by
 rw [qqC];unfold Try.f101
 simp (maxSteps:=10000000) -implicitDefEqProofs [qOF,qpc,qNf,qAF,qLM,qvK,qLV,qvV,qOc,qyX,qYz,qQU,qOO,g54]
 try rfl
def qfW:G:={ps:=[qgk,i3],rs:=[i3],dp:=true,pre:=fun x=>qiG x.1 x.2.1,fn:=fun x=>(qak x.1 x.2.1,())}
theorem qRo (x:Val qH) (n:Int) (h:qiG x n): ∃N,qqC N x n=some (qak x n,()):=⟨0,by
 obtain ⟨x0,x1,x2⟩:=x
 obtain ⟨hs,h0,h1⟩:=h
 obtain ⟨s0,s1,s2⟩:=hs
 rw [qqC,qak]
 dsimp only
 rw [qd (show qiM x0 n from ⟨s0,h0,h1⟩)]
 by_cases c0:qcQ x0 n<0
 ·rw [qj c0,quZ (show szV (.slice 3 (.int .i64)) x0 n<0 from c0)]
 ·have h00:0≤qcQ x0 n:=by omega
  have h10:qcQ x0 n≤1048576:=Int.le_trans (qcz (.slice 3 (.int .i64)) x0 n h0).1 h1
  rw [qh c0,qrW (show 0≤szV (.slice 3 (.int .i64)) x0 n from h00)]
  change _=some (szV (.pair (.int .i64) .bool) _ (qcQ x0 n),())
  rw [qiF h00]
  rfl⟩
theorem qG9:Sound Try.prog 101 qfW:=qz (tt:=tt) (Γ:=qDd) hT (ql s54 qp) hm (fn:=Try.f101) Try.func101 (c:=Try.f101.body.getD .skip) (by kernel_rfl) (by kernel_rfl) fun x hx=>by
 obtain ⟨N,h⟩:=qRo x.1 x.2.1 hx
 exact ⟨qe3 N,qY7,qx _,qUY N,(qPy N x.1 x.2.1).trans h⟩
def qiy (x:List (Val qH)) (n:Int):Int:=szV (.slice 113 qH) x n
def qoQ (x:List (Val qH)) (n:Int):Prop:=qeI (.slice 113 qH) x n
noncomputable def qha (N:Nat) (v2:List (Val qH)) (k0:Int→Option (qc [i3])):Nat→Int→Int→Option (qc [i3])
 | 0,_,_=>none
 | n+1,v3,v4=>bif (decide (v4<(v2.length:Int)))then (chk (0≤v4∧v4<(v2.length:Int)) (chk (qiG (v2.getD v4.toNat (qb qH)) v3) (bif (decide (((qak (v2.getD v4.toNat (qb qH)) v3):Int)<(0:Int)))then (some ((-1:Int),()))else (qha N v2 k0 n ((qak (v2.getD v4.toNat (qb qH)) v3):Int) (IntKind.i64.wrap (v4+(1:Int)))))))else (k0 v3)
noncomputable def m52 (N:Nat) (v0:List (Val qH)) (v1:Int):Option (qc [i3]):=bif (decide ((IntKind.i64.wrap (v1 - (v0.length:Int)))<(0:Int)))then (some ((-1:Int),()))else (qha N v0 (fun (v6:Int)=>some (v6,())) N (IntKind.i64.wrap (v1 - (v0.length:Int))) (0:Int))
def Γ52:Gam:=[(101,qfW)]
theorem qti:Gam.get Γ52 101=some qfW:=rfl
def qoy:Nm:=⟨[true,true,false,false,false,true],[],false⟩
theorem qGx:qoy.zero=false:=rfl
theorem qGg:qoy.fix=[]:=rfl
theorem qGA:qoy.keep=[true,true,false,false,false,true]:=rfl
def qrT:Nm:=⟨[false,true],[],false⟩
theorem qCt:qrT.zero=false:=rfl
theorem qv8:qrT.fix=[]:=rfl
theorem qFn:qrT.keep=[false,true]:=rfl
def qjL:Nat→Tree:=fun _=> .done
def qm8:Nat→Nm:=fun i=>if i=5 then qoy else ⟨[],[],false⟩
def qjW:Nat→Option Jn:=fun _=>none
def qkh:Nat→Option Nm:=fun i=>if i=0 then some qrT else none
def qmM:Nat→Option Nm:=fun _=>none
theorem p52:qm qjL (Try.f52.body.getD .skip)=true:=by kernel_rfl
def T52 (N:Nat):Tab:={tr:=qjL,lp:=qm8,ex:=qkh,rg:=qmM,jn:=qjW,fuel:=N}
theorem qzg (N:Nat):(T52 N).pins=false:=rfl
theorem qLA (N:Nat):qn Try.prog (T52 N):=qt fun _=>rfl
theorem quD (N:Nat) (i:Nat):(T52 N).tr i=qjL i:=rfl
theorem qvi (N:Nat) (i:Nat):(T52 N).lp i=qm8 i:=rfl
theorem qDs (N:Nat) (i:Nat):(T52 N).ex i=qkh i:=rfl
theorem qvQ (N:Nat) (i:Nat):(T52 N).rg i=qmM i:=rfl
theorem qCV (N:Nat) (i:Nat):(T52 N).jn i=qjW i:=rfl
theorem qE4 (N:Nat):(T52 N).fuel=N:=rfl
noncomputable def qIE:Code:=cut [true,true,true,false,true,true,true] (Try.f52.body.getD .skip)
theorem qNH {N:Nat} {Q:X→St→Option (qc [i3])} {e:List LV} {h:List Blk}:qf tt Γ52 (T52 N) qIE Q ⟨e,h⟩=qf tt Γ52 (T52 N) (cut [true,true,true,false,true,true,true] (Try.f52.body.getD .skip)) Q ⟨e,h⟩:=rfl
theorem qVK (N:Nat) (v2:List (Val qH)) {k0:Int→Option (qc [i3])} {Q:X→St→Option (qc [i3])} {c:Code} (hc:c=qIE) (hret: ∀st,Q .ret st=qN tt true [i3] [.tmp 4] st) (h0: ∀(v5:Int),Q (.exit 0) ⟨[u,.one (.int .i64 v5),u,u,u,u,u,u,u,u,u,u,u,u,u,u,u,u,u,u,u,u,u,u,u,u,u],[]⟩=k0 v5): ∀(n:Nat) (v3:Int) (v4:Int),qI (qf tt Γ52 (T52 N) c) false qoy Q n ⟨[.one (.sl 113 qH v2 0),.one (.int .i64 v3),u,u,u,.one (.int .i64 v4),u,u,u,u,u,u,u,u,u,u,u,u,u,u,u,u,u,u,u,u,u],[]⟩=qha N v2 k0 n v3 v4:=by
 subst hc;intro n;induction n with
 | zero=>intros;rfl
 | succ n ih=>
   intro v3 v4
   rw [qS,qNH,qha];unfold Try.f52
   simp (maxSteps:=10000000) -implicitDefEqProofs [quD,qjL,qvi,qm8,qDs,qkh,qvQ,qmM,qCV,qjW,qE4,qzg,qGg,qGA,qGx,qv8,qFn,qCt,qti,qfW,hret,h0,ih]
theorem qR3 (N:Nat) (v0:List (Val qH)) (v1:Int):qf tt Γ52 (T52 N) (Try.f52.body.getD .skip) (qo tt true [i3] [.tmp 4]) (qv [i38,i3] 27 (v0,v1,()))=m52 N v0 v1:=by
 unfold Try.f52
 simp (maxSteps:=10000000) -implicitDefEqProofs [quD,qjL,qvi,qm8,qDs,qkh,qvQ,qmM,qCV,qjW,qE4,qzg,qGg,qGA,qGx,qv8,qFn,qCt,qti,qfW]
 rewrite [qVK (k0:=(fun (v6:Int)=>some (v6,()))) N _ ?_ ?_ ?_]
 ·rewrite [m52];first | rfl | simp (maxSteps:=10000000) -implicitDefEqProofs []
 ·rfl
 ·intro;simp only [qQ,qR,qT,qr]
 ·intro v6;simp (maxSteps:=10000000) -implicitDefEqProofs [quD,qjL,qvi,qm8,qDs,qkh,qvQ,qmM,qCV,qjW,qE4,qzg,qGg,qGA,qGx,qv8,qFn,qCt,qti,qfW]
def g52:G:={ps:=[i38,i3],rs:=[i3],dp:=true,pre:=fun x=>qoQ x.1 x.2.1,fn:=fun x=>(qiy x.1 x.2.1,())}
theorem e52 (x:List (Val qH)) (n:Int) (h:qoQ x n): ∃N,m52 N x n=some (qiy x n,()):=⟨List.length x+1,by
 obtain ⟨hs,h0,h1⟩:=h
 rw [m52,qfz h0 h1 hs.1]
 simp only [qiy,qj6]
 by_cases c:n - (List.length x:Int)<0
 ·rw [qj c,if_pos c]
 ·rw [qh c,if_neg c]
  refine (qbA (F:=fun n i s=>qha _ x _ n s i) (step:=fun _ y (s:Int) K=>chk (qiG y s) (bif decide (qak y s<0)then some ((-1:Int),())else K (qak y s))) (k:=fun s=>some (s,())) (by omega) (fun n i s hi=> ?_) (fun n i s hi=> ?_) _ _ (Nat.lt_succ_self _)).trans (qnK (t:=qH) x 0 _ (by omega) (by omega) hs.2)
  ·rw [qha,qj (by omega),qd (by omega),qE hi]
  ·rw [qha,qh (by omega)]⟩
theorem s52:Sound Try.prog 52 g52:=qz (tt:=tt) (Γ:=Γ52) hT (ql qG9 qp) hm (fn:=Try.f52) Try.func52 (c:=Try.f52.body.getD .skip) (by kernel_rfl) (by kernel_rfl) fun x hx=>by
 obtain ⟨N,h⟩:=e52 x.1 x.2.1 hx
 exact ⟨T52 N,p52,qx _,qLA N,(qR3 N x.1 x.2.1).trans h⟩
def qiJ (x:Val Y40) (n:Int):Int:=szV Y40 x n
def qqW (x:Val Y40) (n:Int):Prop:=qeI Y40 x n
noncomputable def m13 (N:Nat) (v0:Val Y40) (v1:Int):Option (qc [i3]):=chk (qoQ (v0.2:List (Val qH)) v1) (bif (decide (((qiy (v0.2:List (Val qH)) v1):Int)<(0:Int)))then (some ((-1:Int),()))else (some (((qiy (v0.2:List (Val qH)) v1):Int),())))
def Γ13:Gam:=[(52,g52)]
theorem qO7:Gam.get Γ13 52=some g52:=rfl
def qoN:Nat→Tree:=fun _=> .done
def qGd:Nat→Nm:=fun _=>⟨[],[],false⟩
def qEd:Nat→Option Jn:=fun _=>none
def qvD:Nat→Option Nm:=fun _=>none
def quv:Nat→Option Nm:=fun _=>none
theorem p13:qm qoN (Try.f13.body.getD .skip)=true:=by kernel_rfl
def T13 (N:Nat):Tab:={tr:=qoN,lp:=qGd,ex:=qvD,rg:=quv,jn:=qEd,fuel:=N}
theorem qQV (N:Nat):(T13 N).pins=false:=rfl
theorem qOL (N:Nat):qn Try.prog (T13 N):=qt fun _=>rfl
theorem qLy (N:Nat) (i:Nat):(T13 N).tr i=qoN i:=rfl
theorem qPt (N:Nat) (i:Nat):(T13 N).lp i=qGd i:=rfl
theorem qWe (N:Nat) (i:Nat):(T13 N).ex i=qvD i:=rfl
theorem qYI (N:Nat) (i:Nat):(T13 N).rg i=quv i:=rfl
theorem qNv (N:Nat) (i:Nat):(T13 N).jn i=qEd i:=rfl
theorem qMw (N:Nat):(T13 N).fuel=N:=rfl
theorem qMW (N:Nat) (v0:Val Y40) (v1:Int):qf tt Γ13 (T13 N) (Try.f13.body.getD .skip) (qo tt true [i3] [.tmp 4]) (qv [i40,i3] 12 (v0,v1,()))=m13 N v0 v1:=by
 rw [m13];unfold Try.f13
 simp (maxSteps:=10000000) -implicitDefEqProofs [qLy,qoN,qPt,qGd,qWe,qvD,qYI,quv,qNv,qEd,qMw,qQV,qO7,g52]
 try rfl
def g13:G:={ps:=[i40,i3],rs:=[i3],dp:=true,pre:=fun x=>qqW x.1 x.2.1,fn:=fun x=>(qiJ x.1 x.2.1,())}
theorem e13 (x:Val Y40) (n:Int) (h:qqW x n): ∃N,m13 N x n=some (qiJ x n,()):=⟨0,by
 obtain ⟨x0,x1⟩:=x
 obtain ⟨hs,h0,h1⟩:=h
 obtain ⟨s0,s1⟩:=hs
 rw [m13,qiJ]
 dsimp only
 rw [qiF h0]
 rw [qd (show qoQ x1 n from ⟨s1,h0,h1⟩)]
 by_cases c1:qiy x1 n<0
 ·rw [qj c1]
  exact congrArg (fun z=>some (z,())) ((qcz (.slice 113 qH) x1 n h0).2 c1).symm
 ·rw [qh c1]
  rfl⟩
theorem s13:Sound Try.prog 13 g13:=qz (tt:=tt) (Γ:=Γ13) hT (ql s52 qp) hm (fn:=Try.f13) Try.func13 (c:=Try.f13.body.getD .skip) (by kernel_rfl) (by kernel_rfl) fun x hx=>by
 obtain ⟨N,h⟩:=e13 x.1 x.2.1 hx
 exact ⟨T13 N,p13,qx _,qOL N,(qMW N x.1 x.2.1).trans h⟩
def qhd (x:Val qM) (n:Int):Int:=szV qM x n
def qr7 (x:Val qM) (n:Int):Prop:=qeI qM x n
noncomputable def qrn (N:Nat) (v0:Val qM) (v1:Int):Option (qc [i3]):=bif (decide ((IntKind.i64.wrap (v1 - ((v0.1:ByteArray).size:Int)))<(0:Int)))then (some ((-1:Int),()))else (chk (qqW v0.2 (IntKind.i64.wrap (v1 - ((v0.1:ByteArray).size:Int)))) (bif (decide (((qiJ v0.2 (IntKind.i64.wrap (v1 - ((v0.1:ByteArray).size:Int)))):Int)<(0:Int)))then (some ((-1:Int),()))else (some (((qiJ v0.2 (IntKind.i64.wrap (v1 - ((v0.1:ByteArray).size:Int)))):Int),()))))
def qwU:Gam:=[(13,g13)]
theorem qXK:Gam.get qwU 13=some g13:=rfl
def qsP:Nat→Tree:=fun _=> .done
def qu5:Nat→Nm:=fun _=>⟨[],[],false⟩
def qD5:Nat→Option Jn:=fun _=>none
def qw6:Nat→Option Nm:=fun _=>none
def qtr:Nat→Option Nm:=fun _=>none
theorem qOV:qm qsP (Try.f139.body.getD .skip)=true:=by kernel_rfl
def qeQ (N:Nat):Tab:={tr:=qsP,lp:=qu5,ex:=qw6,rg:=qtr,jn:=qD5,fuel:=N}
theorem qUQ (N:Nat):(qeQ N).pins=false:=rfl
theorem qTt (N:Nat):qn Try.prog (qeQ N):=qt fun _=>rfl
theorem qLL (N:Nat) (i:Nat):(qeQ N).tr i=qsP i:=rfl
theorem qRQ (N:Nat) (i:Nat):(qeQ N).lp i=qu5 i:=rfl
theorem qUs (N:Nat) (i:Nat):(qeQ N).ex i=qw6 i:=rfl
theorem qUu (N:Nat) (i:Nat):(qeQ N).rg i=qtr i:=rfl
theorem qX9 (N:Nat) (i:Nat):(qeQ N).jn i=qD5 i:=rfl
theorem qOM (N:Nat):(qeQ N).fuel=N:=rfl
theorem qQg (N:Nat) (v0:Val qM) (v1:Int):qf tt qwU (qeQ N) (Try.f139.body.getD .skip) (qo tt true [i3] [.tmp 4]) (qv [qgz,i3] 19 (v0,v1,()))=qrn N v0 v1:=by
 rw [qrn];unfold Try.f139
 simp (maxSteps:=10000000) -implicitDefEqProofs [qLL,qsP,qRQ,qu5,qUs,qw6,qUu,qtr,qX9,qD5,qOM,qUQ,qXK,g13]
 try rfl
def qjz:G:={ps:=[qgz,i3],rs:=[i3],dp:=true,pre:=fun x=>qr7 x.1 x.2.1,fn:=fun x=>(qhd x.1 x.2.1,())}
theorem qVM (x:Val qM) (n:Int) (h:qr7 x n): ∃N,qrn N x n=some (qhd x n,()):=⟨0,by
 obtain ⟨x0,x1⟩:=x
 obtain ⟨hs,h0,h1⟩:=h
 obtain ⟨s0,s1⟩:=hs
 rw [qrn,qhd]
 dsimp only
 rw [qfz h0 h1 s0]
 by_cases c0:n - (ByteArray.size x0:Int)<0
 ·rw [qj c0,qqF c0]
 ·rw [qh c0,qqX (by omega)]
  have h00:0≤(n - (ByteArray.size x0:Int)):=by omega
  have h10:(n - (ByteArray.size x0:Int))≤1048576:=by omega
  rw [qd (show qqW x1 (n - (ByteArray.size x0:Int)) from ⟨s1,h00,h10⟩)]
  by_cases c1:qiJ x1 (n - (ByteArray.size x0:Int))<0
  ·rw [qj c1]
   exact congrArg (fun z=>some (z,())) ((qcz Y40 x1 (n - (ByteArray.size x0:Int)) h00).2 c1).symm
  ·rw [qh c1]
   rfl⟩
theorem qUJ:Sound Try.prog 139 qjz:=qz (tt:=tt) (Γ:=qwU) hT (ql s13 qp) hm (fn:=Try.f139) Try.func139 (c:=Try.f139.body.getD .skip) (by kernel_rfl) (by kernel_rfl) fun x hx=>by
 obtain ⟨N,h⟩:=qVM x.1 x.2.1 hx
 exact ⟨qeQ N,qOV,qx _,qTt N,(qQg N x.1 x.2.1).trans h⟩
def qid (x:List (Val qM)) (n:Int):Int:=szV (.slice 168 qM) x n
def qoO (x:List (Val qM)) (n:Int):Prop:=qeI (.slice 168 qM) x n
noncomputable def qhH (N:Nat) (v2:List (Val qM)) (k0:Int→Option (qc [i3])):Nat→Int→Int→Option (qc [i3])
 | 0,_,_=>none
 | n+1,v3,v4=>bif (decide (v4<(v2.length:Int)))then (chk (0≤v4∧v4<(v2.length:Int)) (chk (qr7 (v2.getD v4.toNat (qb qM)) v3) (bif (decide (((qhd (v2.getD v4.toNat (qb qM)) v3):Int)<(0:Int)))then (some ((-1:Int),()))else (qhH N v2 k0 n ((qhd (v2.getD v4.toNat (qb qM)) v3):Int) (IntKind.i64.wrap (v4+(1:Int)))))))else (k0 v3)
noncomputable def qoX (N:Nat) (v0:List (Val qM)) (v1:Int):Option (qc [i3]):=bif (decide ((IntKind.i64.wrap (v1 - (v0.length:Int)))<(0:Int)))then (some ((-1:Int),()))else (qhH N v0 (fun (v6:Int)=>some (v6,())) N (IntKind.i64.wrap (v1 - (v0.length:Int))) (0:Int))
def qjh:Gam:=[(139,qjz)]
theorem qF8:Gam.get qjh 139=some qjz:=rfl
def qk9:Nm:=⟨[true,true,false,false,false,true],[],false⟩
theorem qtm:qk9.zero=false:=rfl
theorem qt7:qk9.fix=[]:=rfl
theorem qAi:qk9.keep=[true,true,false,false,false,true]:=rfl
def qpO:Nm:=⟨[false,true],[],false⟩
theorem qui:qpO.zero=false:=rfl
theorem qEJ:qpO.fix=[]:=rfl
theorem qBJ:qpO.keep=[false,true]:=rfl
def qiT:Nat→Tree:=fun _=> .done
def qkT:Nat→Nm:=fun i=>if i=5 then qk9 else ⟨[],[],false⟩
def qon:Nat→Option Jn:=fun _=>none
def qlX:Nat→Option Nm:=fun i=>if i=0 then some qpO else none
def qlp:Nat→Option Nm:=fun _=>none
theorem qV5:qm qiT (Try.f116.body.getD .skip)=true:=by kernel_rfl
def qd7 (N:Nat):Tab:={tr:=qiT,lp:=qkT,ex:=qlX,rg:=qlp,jn:=qon,fuel:=N}
theorem qCM (N:Nat):(qd7 N).pins=false:=rfl
theorem qNA (N:Nat):qn Try.prog (qd7 N):=qt fun _=>rfl
theorem qDK (N:Nat) (i:Nat):(qd7 N).tr i=qiT i:=rfl
theorem qtH (N:Nat) (i:Nat):(qd7 N).lp i=qkT i:=rfl
theorem qtj (N:Nat) (i:Nat):(qd7 N).ex i=qlX i:=rfl
theorem qzF (N:Nat) (i:Nat):(qd7 N).rg i=qlp i:=rfl
theorem qux (N:Nat) (i:Nat):(qd7 N).jn i=qon i:=rfl
theorem qtG (N:Nat):(qd7 N).fuel=N:=rfl
noncomputable def qJt:Code:=cut [true,true,true,false,true,true,true] (Try.f116.body.getD .skip)
theorem qUZ {N:Nat} {Q:X→St→Option (qc [i3])} {e:List LV} {h:List Blk}:qf tt qjh (qd7 N) qJt Q ⟨e,h⟩=qf tt qjh (qd7 N) (cut [true,true,true,false,true,true,true] (Try.f116.body.getD .skip)) Q ⟨e,h⟩:=rfl
theorem qNQ (N:Nat) (v2:List (Val qM)) {k0:Int→Option (qc [i3])} {Q:X→St→Option (qc [i3])} {c:Code} (hc:c=qJt) (hret: ∀st,Q .ret st=qN tt true [i3] [.tmp 4] st) (h0: ∀(v5:Int),Q (.exit 0) ⟨[u,.one (.int .i64 v5),u,u,u,u,u,u,u,u,u,u,u,u,u,u,u,u,u,u,u,u,u,u,u,u,u],[]⟩=k0 v5): ∀(n:Nat) (v3:Int) (v4:Int),qI (qf tt qjh (qd7 N) c) false qk9 Q n ⟨[.one (.sl 168 qM v2 0),.one (.int .i64 v3),u,u,u,.one (.int .i64 v4),u,u,u,u,u,u,u,u,u,u,u,u,u,u,u,u,u,u,u,u,u],[]⟩=qhH N v2 k0 n v3 v4:=by
 subst hc;intro n;induction n with
 | zero=>intros;rfl
 | succ n ih=>
   intro v3 v4
   rw [qS,qUZ,qhH];unfold Try.f116
   simp (maxSteps:=10000000) -implicitDefEqProofs [qDK,qiT,qtH,qkT,qtj,qlX,qzF,qlp,qux,qon,qtG,qCM,qt7,qAi,qtm,qEJ,qBJ,qui,qF8,qjz,hret,h0,ih]
theorem qSN (N:Nat) (v0:List (Val qM)) (v1:Int):qf tt qjh (qd7 N) (Try.f116.body.getD .skip) (qo tt true [i3] [.tmp 4]) (qv [qgj,i3] 27 (v0,v1,()))=qoX N v0 v1:=by
 unfold Try.f116
 simp (maxSteps:=10000000) -implicitDefEqProofs [qDK,qiT,qtH,qkT,qtj,qlX,qzF,qlp,qux,qon,qtG,qCM,qt7,qAi,qtm,qEJ,qBJ,qui,qF8,qjz]
 rewrite [qNQ (k0:=(fun (v6:Int)=>some (v6,()))) N _ ?_ ?_ ?_]
 ·rewrite [qoX];first | rfl | simp (maxSteps:=10000000) -implicitDefEqProofs []
 ·rfl
 ·intro;simp only [qQ,qR,qT,qr]
 ·intro v6;simp (maxSteps:=10000000) -implicitDefEqProofs [qDK,qiT,qtH,qkT,qtj,qlX,qzF,qlp,qux,qon,qtG,qCM,qt7,qAi,qtm,qEJ,qBJ,qui,qF8,qjz]
def qpY:G:={ps:=[qgj,i3],rs:=[i3],dp:=true,pre:=fun x=>qoO x.1 x.2.1,fn:=fun x=>(qid x.1 x.2.1,())}
theorem qK5 (x:List (Val qM)) (n:Int) (h:qoO x n): ∃N,qoX N x n=some (qid x n,()):=⟨List.length x+1,by
 obtain ⟨hs,h0,h1⟩:=h
 rw [qoX,qfz h0 h1 hs.1]
 simp only [qid,qj6]
 by_cases c:n - (List.length x:Int)<0
 ·rw [qj c,if_pos c]
 ·rw [qh c,if_neg c]
  refine (qbA (F:=fun n i s=>qhH _ x _ n s i) (step:=fun _ y (s:Int) K=>chk (qr7 y s) (bif decide (qhd y s<0)then some ((-1:Int),())else K (qhd y s))) (k:=fun s=>some (s,())) (by omega) (fun n i s hi=> ?_) (fun n i s hi=> ?_) _ _ (Nat.lt_succ_self _)).trans (qnK (t:=qM) x 0 _ (by omega) (by omega) hs.2)
  ·rw [qhH,qj (by omega),qd (by omega),qE hi]
  ·rw [qhH,qh (by omega)]⟩
theorem qK8:Sound Try.prog 116 qpY:=qz (tt:=tt) (Γ:=qjh) hT (ql qUJ qp) hm (fn:=Try.f116) Try.func116 (c:=Try.f116.body.getD .skip) (by kernel_rfl) (by kernel_rfl) fun x hx=>by
 obtain ⟨N,h⟩:=qK5 x.1 x.2.1 hx
 exact ⟨qd7 N,qV5,qx _,qNA N,(qSN N x.1 x.2.1).trans h⟩
def qgO (x:Val qD) (n:Int):Int:=szV qD x n
def qpw (x:Val qD) (n:Int):Prop:=qeI qD x n
noncomputable def m77 (N:Nat) (v0:Val qD) (v1:Int):Option (qc [i3]):=bif (decide ((IntKind.i64.wrap (v1 - ((v0.1:ByteArray).size:Int)))<(0:Int)))then (some ((-1:Int),()))else (chk (qoO (v0.2.2:List (Val qM)) (IntKind.i64.wrap (v1 - ((v0.1:ByteArray).size:Int)))) (bif (decide (((qid (v0.2.2:List (Val qM)) (IntKind.i64.wrap (v1 - ((v0.1:ByteArray).size:Int)))):Int)<(0:Int)))then (some ((-1:Int),()))else (some (((qid (v0.2.2:List (Val qM)) (IntKind.i64.wrap (v1 - ((v0.1:ByteArray).size:Int)))):Int),()))))
def Γ77:Gam:=[(116,qpY)]
theorem qLT:Gam.get Γ77 116=some qpY:=rfl
def qoL:Nat→Tree:=fun _=> .done
def qtD:Nat→Nm:=fun _=>⟨[],[],false⟩
def qwR:Nat→Option Jn:=fun _=>none
def qvO:Nat→Option Nm:=fun _=>none
def qCB:Nat→Option Nm:=fun _=>none
theorem p77:qm qoL (Try.f77.body.getD .skip)=true:=by kernel_rfl
def T77 (N:Nat):Tab:={tr:=qoL,lp:=qtD,ex:=qvO,rg:=qCB,jn:=qwR,fuel:=N}
theorem qLt (N:Nat):(T77 N).pins=false:=rfl
theorem qTn (N:Nat):qn Try.prog (T77 N):=qt fun _=>rfl
theorem qQn (N:Nat) (i:Nat):(T77 N).tr i=qoL i:=rfl
theorem qLg (N:Nat) (i:Nat):(T77 N).lp i=qtD i:=rfl
theorem qVY (N:Nat) (i:Nat):(T77 N).ex i=qvO i:=rfl
theorem qOq (N:Nat) (i:Nat):(T77 N).rg i=qCB i:=rfl
theorem qOi (N:Nat) (i:Nat):(T77 N).jn i=qwR i:=rfl
theorem qTD (N:Nat):(T77 N).fuel=N:=rfl
theorem qVf (N:Nat) (v0:Val qD) (v1:Int):qf tt Γ77 (T77 N) (Try.f77.body.getD .skip) (qo tt true [i3] [.tmp 4]) (qv [qgd,i3] 19 (v0,v1,()))=m77 N v0 v1:=by
 rw [m77];unfold Try.f77
 simp (maxSteps:=10000000) -implicitDefEqProofs [qQn,qoL,qLg,qtD,qVY,qvO,qOq,qCB,qOi,qwR,qTD,qLt,qLT,qpY]
 try rfl
def g77:G:={ps:=[qgd,i3],rs:=[i3],dp:=true,pre:=fun x=>qpw x.1 x.2.1,fn:=fun x=>(qgO x.1 x.2.1,())}
theorem e77 (x:Val qD) (n:Int) (h:qpw x n): ∃N,m77 N x n=some (qgO x n,()):=⟨0,by
 obtain ⟨x0,x1,x2⟩:=x
 obtain ⟨hs,h0,h1⟩:=h
 obtain ⟨s0,s1,s2⟩:=hs
 rw [m77,qgO]
 dsimp only
 rw [qfz h0 h1 s0]
 by_cases c0:n - (ByteArray.size x0:Int)<0
 ·rw [qj c0,qqF c0]
 ·rw [qh c0,qqX (by omega)]
  have h00:0≤(n - (ByteArray.size x0:Int)):=by omega
  have h10:(n - (ByteArray.size x0:Int))≤1048576:=by omega
  rw [qiF h00]
  rw [qd (show qoO x2 (n - (ByteArray.size x0:Int)) from ⟨s2,h00,h10⟩)]
  by_cases c2:qid x2 (n - (ByteArray.size x0:Int))<0
  ·rw [qj c2]
   exact congrArg (fun z=>some (z,())) ((qcz (.slice 168 qM) x2 (n - (ByteArray.size x0:Int)) h00).2 c2).symm
  ·rw [qh c2]
   rfl⟩
theorem s77:Sound Try.prog 77 g77:=qz (tt:=tt) (Γ:=Γ77) hT (ql qK8 qp) hm (fn:=Try.f77) Try.func77 (c:=Try.f77.body.getD .skip) (by kernel_rfl) (by kernel_rfl) fun x hx=>by
 obtain ⟨N,h⟩:=e77 x.1 x.2.1 hx
 exact ⟨T77 N,p77,qx _,qTn N,(qVf N x.1 x.2.1).trans h⟩
def qc0 (x:List (Val qD)) (n:Int):Int:=szV (.slice 111 qD) x n
def qo0 (x:List (Val qD)) (n:Int):Prop:=qeI (.slice 111 qD) x n
noncomputable def qhw (N:Nat) (v2:List (Val qD)) (k0:Int→Option (qc [i3])):Nat→Int→Int→Option (qc [i3])
 | 0,_,_=>none
 | n+1,v3,v4=>bif (decide (v4<(v2.length:Int)))then (chk (0≤v4∧v4<(v2.length:Int)) (chk (qpw (v2.getD v4.toNat (qb qD)) v3) (bif (decide (((qgO (v2.getD v4.toNat (qb qD)) v3):Int)<(0:Int)))then (some ((-1:Int),()))else (qhw N v2 k0 n ((qgO (v2.getD v4.toNat (qb qD)) v3):Int) (IntKind.i64.wrap (v4+(1:Int)))))))else (k0 v3)
noncomputable def m23 (N:Nat) (v0:List (Val qD)) (v1:Int):Option (qc [i3]):=bif (decide ((IntKind.i64.wrap (v1 - (v0.length:Int)))<(0:Int)))then (some ((-1:Int),()))else (qhw N v0 (fun (v6:Int)=>some (v6,())) N (IntKind.i64.wrap (v1 - (v0.length:Int))) (0:Int))
def Γ23:Gam:=[(77,g77)]
theorem qwN:Gam.get Γ23 77=some g77:=rfl
def qmW:Nm:=⟨[true,true,false,false,false,true],[],false⟩
theorem qCE:qmW.zero=false:=rfl
theorem qCZ:qmW.fix=[]:=rfl
theorem qFh:qmW.keep=[true,true,false,false,false,true]:=rfl
def qsH:Nm:=⟨[false,true],[],false⟩
theorem qtz:qsH.zero=false:=rfl
theorem qA3:qsH.fix=[]:=rfl
theorem qFQ:qsH.keep=[false,true]:=rfl
def qic:Nat→Tree:=fun _=> .done
def qkA:Nat→Nm:=fun i=>if i=5 then qmW else ⟨[],[],false⟩
def qj5:Nat→Option Jn:=fun _=>none
def qki:Nat→Option Nm:=fun i=>if i=0 then some qsH else none
def qkr:Nat→Option Nm:=fun _=>none
theorem p23:qm qic (Try.f23.body.getD .skip)=true:=by kernel_rfl
def T23 (N:Nat):Tab:={tr:=qic,lp:=qkA,ex:=qki,rg:=qkr,jn:=qj5,fuel:=N}
theorem qEn (N:Nat):(T23 N).pins=false:=rfl
theorem qNu (N:Nat):qn Try.prog (T23 N):=qt fun _=>rfl
theorem qFY (N:Nat) (i:Nat):(T23 N).tr i=qic i:=rfl
theorem qDe (N:Nat) (i:Nat):(T23 N).lp i=qkA i:=rfl
theorem qyq (N:Nat) (i:Nat):(T23 N).ex i=qki i:=rfl
theorem qto (N:Nat) (i:Nat):(T23 N).rg i=qkr i:=rfl
theorem qv4 (N:Nat) (i:Nat):(T23 N).jn i=qj5 i:=rfl
theorem qAC (N:Nat):(T23 N).fuel=N:=rfl
noncomputable def qJ6:Code:=cut [true,true,true,false,true,true,true] (Try.f23.body.getD .skip)
theorem qQS {N:Nat} {Q:X→St→Option (qc [i3])} {e:List LV} {h:List Blk}:qf tt Γ23 (T23 N) qJ6 Q ⟨e,h⟩=qf tt Γ23 (T23 N) (cut [true,true,true,false,true,true,true] (Try.f23.body.getD .skip)) Q ⟨e,h⟩:=rfl
theorem qVI (N:Nat) (v2:List (Val qD)) {k0:Int→Option (qc [i3])} {Q:X→St→Option (qc [i3])} {c:Code} (hc:c=qJ6) (hret: ∀st,Q .ret st=qN tt true [i3] [.tmp 4] st) (h0: ∀(v5:Int),Q (.exit 0) ⟨[u,.one (.int .i64 v5),u,u,u,u,u,u,u,u,u,u,u,u,u,u,u,u,u,u,u,u,u,u,u,u,u],[]⟩=k0 v5): ∀(n:Nat) (v3:Int) (v4:Int),qI (qf tt Γ23 (T23 N) c) false qmW Q n ⟨[.one (.sl 111 qD v2 0),.one (.int .i64 v3),u,u,u,.one (.int .i64 v4),u,u,u,u,u,u,u,u,u,u,u,u,u,u,u,u,u,u,u,u,u],[]⟩=qhw N v2 k0 n v3 v4:=by
 subst hc;intro n;induction n with
 | zero=>intros;rfl
 | succ n ih=>
   intro v3 v4
   rw [qS,qQS,qhw];unfold Try.f23
   simp (maxSteps:=10000000) -implicitDefEqProofs [qFY,qic,qDe,qkA,qyq,qki,qto,qkr,qv4,qj5,qAC,qEn,qCZ,qFh,qCE,qA3,qFQ,qtz,qwN,g77,hret,h0,ih]
theorem qNw (N:Nat) (v0:List (Val qD)) (v1:Int):qf tt Γ23 (T23 N) (Try.f23.body.getD .skip) (qo tt true [i3] [.tmp 4]) (qv [i57,i3] 27 (v0,v1,()))=m23 N v0 v1:=by
 unfold Try.f23
 simp (maxSteps:=10000000) -implicitDefEqProofs [qFY,qic,qDe,qkA,qyq,qki,qto,qkr,qv4,qj5,qAC,qEn,qCZ,qFh,qCE,qA3,qFQ,qtz,qwN,g77]
 rewrite [qVI (k0:=(fun (v6:Int)=>some (v6,()))) N _ ?_ ?_ ?_]
 ·rewrite [m23];first | rfl | simp (maxSteps:=10000000) -implicitDefEqProofs []
 ·rfl
 ·intro;simp only [qQ,qR,qT,qr]
 ·intro v6;simp (maxSteps:=10000000) -implicitDefEqProofs [qFY,qic,qDe,qkA,qyq,qki,qto,qkr,qv4,qj5,qAC,qEn,qCZ,qFh,qCE,qA3,qFQ,qtz,qwN,g77]
def g23:G:={ps:=[i57,i3],rs:=[i3],dp:=true,pre:=fun x=>qo0 x.1 x.2.1,fn:=fun x=>(qc0 x.1 x.2.1,())}
theorem e23 (x:List (Val qD)) (n:Int) (h:qo0 x n): ∃N,m23 N x n=some (qc0 x n,()):=⟨List.length x+1,by
 obtain ⟨hs,h0,h1⟩:=h
 rw [m23,qfz h0 h1 hs.1]
 simp only [qc0,qj6]
 by_cases c:n - (List.length x:Int)<0
 ·rw [qj c,if_pos c]
 ·rw [qh c,if_neg c]
  refine (qbA (F:=fun n i s=>qhw _ x _ n s i) (step:=fun _ y (s:Int) K=>chk (qpw y s) (bif decide (qgO y s<0)then some ((-1:Int),())else K (qgO y s))) (k:=fun s=>some (s,())) (by omega) (fun n i s hi=> ?_) (fun n i s hi=> ?_) _ _ (Nat.lt_succ_self _)).trans (qnK (t:=qD) x 0 _ (by omega) (by omega) hs.2)
  ·rw [qhw,qj (by omega),qd (by omega),qE hi]
  ·rw [qhw,qh (by omega)]⟩
theorem s23:Sound Try.prog 23 g23:=qz (tt:=tt) (Γ:=Γ23) hT (ql s77 qp) hm (fn:=Try.f23) Try.func23 (c:=Try.f23.body.getD .skip) (by kernel_rfl) (by kernel_rfl) fun x hx=>by
 obtain ⟨N,h⟩:=e23 x.1 x.2.1 hx
 exact ⟨T23 N,p23,qx _,qNu N,(qNw N x.1 x.2.1).trans h⟩
def qpD (x:List (Val (.int .i64))):List (Val (.int .i64)):=x
def qiD (x:List (Val (.int .i64))):Prop:=Bd (.slice 3 (.int .i64)) x
noncomputable def qhl (N:Nat) (v1:List (Val (.int .i64))) (k0:(List (Val (.int .i64)))→Option (qc [i27])):Nat→Int→(List (Val (.int .i64)))→Option (qc [i27])
 | 0,_,_=>none
 | n+1,v2,v3=>bif (decide (v2<(v1.length:Int)))then (chk (0≤v2∧v2<(v1.length:Int)) (chk (0≤v2∧v2<(v3.length:Int)) (chk (v2.toNat<v3.length) (qhl N v1 k0 n (IntKind.i64.wrap (v2+(1:Int))) (v3.set v2.toNat ((v1.getD v2.toNat (qb (.int .i64))):Int))))))else (k0 v3)
noncomputable def m17 (N:Nat) (v0:List (Val (.int .i64))):Option (qc [i27]):=chk (0≤(v0.length:Int)∧(v0.length:Int)≤(v0.length:Int)∧(v0.length:Int)≤1048576) (qhl N v0 (fun (v5:List (Val (.int .i64)))=>some (v5,())) N (0:Int) (List.replicate (v0.length:Int).toNat (qb (.int .i64))))
def Γ17:Gam:=[]
def qm2:Nm:=⟨[true,false,false,true,true],[],false⟩
theorem qy6:qm2.zero=false:=rfl
theorem quU:qm2.fix=[]:=rfl
theorem qBP:qm2.keep=[true,false,false,true,true]:=rfl
def qrC:Nm:=⟨[false,false,false,true],[],false⟩
theorem qur:qrC.zero=false:=rfl
theorem qxp:qrC.fix=[]:=rfl
theorem qua:qrC.keep=[false,false,false,true]:=rfl
def qjm:Nat→Tree:=fun _=> .done
def qmb:Nat→Nm:=fun i=>if i=3 then qm2 else ⟨[],[],false⟩
def qld:Nat→Option Jn:=fun _=>none
def qmE:Nat→Option Nm:=fun i=>if i=0 then some qrC else none
def qlc:Nat→Option Nm:=fun _=>none
theorem p17:qm qjm (Try.f17.body.getD .skip)=true:=by kernel_rfl
def T17 (N:Nat):Tab:={tr:=qjm,lp:=qmb,ex:=qmE,rg:=qlc,jn:=qld,fuel:=N}
theorem qte (N:Nat):(T17 N).pins=false:=rfl
theorem qLF (N:Nat):qn Try.prog (T17 N):=qt fun _=>rfl
theorem qGI (N:Nat) (i:Nat):(T17 N).tr i=qjm i:=rfl
theorem qyc (N:Nat) (i:Nat):(T17 N).lp i=qmb i:=rfl
theorem qGk (N:Nat) (i:Nat):(T17 N).ex i=qmE i:=rfl
theorem qA7 (N:Nat) (i:Nat):(T17 N).rg i=qlc i:=rfl
theorem qED (N:Nat) (i:Nat):(T17 N).jn i=qld i:=rfl
theorem qw9 (N:Nat):(T17 N).fuel=N:=rfl
noncomputable def qHW:Code:=cut [true,true,false,true,true,true] (Try.f17.body.getD .skip)
theorem qUt {N:Nat} {Q:X→St→Option (qc [i27])} {e:List LV} {h:List Blk}:qf tt Γ17 (T17 N) qHW Q ⟨e,h⟩=qf tt Γ17 (T17 N) (cut [true,true,false,true,true,true] (Try.f17.body.getD .skip)) Q ⟨e,h⟩:=rfl
theorem qQB (N:Nat) (v1:List (Val (.int .i64))) {k0:(List (Val (.int .i64)))→Option (qc [i27])} {Q:X→St→Option (qc [i27])} {c:Code} (hc:c=qHW) (hret: ∀st,Q .ret st=qN tt true [i27] [.tmp 2] st) (h0: ∀(v4:List (Val (.int .i64))),Q (.exit 0) ⟨[u,u,u,.one (.own 0),u,u,u,u,u,u,u,u,u,u,u,u,u,u,u,u,u,u],[.row 3 (.int .i64) v4 true true 0]⟩=k0 v4): ∀(n:Nat) (v2:Int) (v3:List (Val (.int .i64))),qI (qf tt Γ17 (T17 N) c) false qm2 Q n ⟨[.one (.sl 3 (.int .i64) v1 1),u,u,.one (.own 0),.one (.int .i64 v2),u,u,u,u,u,u,u,u,u,u,u,u,u,u,u,u,u],[.row 3 (.int .i64) v3 true true 0]⟩=qhl N v1 k0 n v2 v3:=by
 subst hc;intro n;induction n with
 | zero=>intros;rfl
 | succ n ih=>
   intro v2 v3
   rw [qS,qUt,qhl];unfold Try.f17
   simp (maxSteps:=10000000) -implicitDefEqProofs [qGI,qjm,qyc,qmb,qGk,qmE,qA7,qlc,qED,qld,qw9,qte,quU,qBP,qy6,qxp,qua,qur,hret,h0,ih]
theorem qQH (N:Nat) (v0:List (Val (.int .i64))):qf tt Γ17 (T17 N) (Try.f17.body.getD .skip) (qo tt true [i27] [.tmp 2]) (qv [i27] 22 (v0,()))=m17 N v0:=by
 unfold Try.f17
 simp (maxSteps:=10000000) -implicitDefEqProofs [qGI,qjm,qyc,qmb,qGk,qmE,qA7,qlc,qED,qld,qw9,qte,quU,qBP,qy6,qxp,qua,qur]
 rewrite [qQB (k0:=(fun (v5:List (Val (.int .i64)))=>some (v5,()))) N _ ?_ ?_ ?_]
 ·rewrite [m17];first | rfl | simp (maxSteps:=10000000) -implicitDefEqProofs []
 ·rfl
 ·intro;simp only [qQ,qR,qT,qr]
 ·intro v5;simp (maxSteps:=10000000) -implicitDefEqProofs [qGI,qjm,qyc,qmb,qGk,qmE,qA7,qlc,qED,qld,qw9,qte,quU,qBP,qy6,qxp,qua,qur]
def g17:G:={ps:=[i27],rs:=[i27],dp:=true,pre:=fun x=>qiD x.1,fn:=fun x=>(qpD x.1,())}
theorem e17 (x:List (Val (.int .i64))) (h:qiD x): ∃N,m17 N x=some (qpD x,()):=⟨List.length x+1,by
 rw [m17,qd (qiv h.1),Int.toNat_natCast]
 refine qjJ (F:=fun n i s=>qhl _ x _ n i s) (k:=fun s=>some (s,())) (qb (.int .i64)) h.1 (fun n i s hi hl=> ?_) (fun n i s hi=> ?_) _ (Nat.lt_succ_self _)
 ·rw [qhl,qj (by omega),qd (by omega),qE hi,qd (by omega),qd (by omega)]
  rfl
 ·rw [qhl,qh (by omega)]⟩
theorem s17:Sound Try.prog 17 g17:=qz (tt:=tt) (Γ:=Γ17) hT qp hm (fn:=Try.f17) Try.func17 (c:=Try.f17.body.getD .skip) (by kernel_rfl) (by kernel_rfl) fun x hx=>by
 obtain ⟨N,h⟩:=e17 x.1 hx
 exact ⟨T17 N,p17,qx _,qLF N,(qQH N x.1).trans h⟩
def qf5 (x:Val qH):Val Y83:=x
def qjc (x:Val qH):Prop:=Bd qH x
noncomputable def qpP (N:Nat) (v0:Val qH):Option (qc [i83]):=chk (qiD (v0.1:List (Val (.int .i64)))) (some ((((qpD (v0.1:List (Val (.int .i64)))):List (Val (.int .i64))),(v0.2.1:Int),(v0.2.2:Bool)),()))
def qEq:Gam:=[(17,g17)]
theorem qNO:Gam.get qEq 17=some g17:=rfl
def qr5:Nat→Tree:=fun _=> .done
def qD3:Nat→Nm:=fun _=>⟨[],[],false⟩
def qxl:Nat→Option Jn:=fun _=>none
def qtl:Nat→Option Nm:=fun _=>none
def qxe:Nat→Option Nm:=fun _=>none
theorem qZf:qm qr5 (Try.f108.body.getD .skip)=true:=by kernel_rfl
def qfn (N:Nat):Tab:={tr:=qr5,lp:=qD3,ex:=qtl,rg:=qxe,jn:=qxl,fuel:=N}
theorem qUl (N:Nat):(qfn N).pins=false:=rfl
theorem qLZ (N:Nat):qn Try.prog (qfn N):=qt fun _=>rfl
theorem qXZ (N:Nat) (i:Nat):(qfn N).tr i=qr5 i:=rfl
theorem qN1 (N:Nat) (i:Nat):(qfn N).lp i=qD3 i:=rfl
theorem qRt (N:Nat) (i:Nat):(qfn N).ex i=qtl i:=rfl
theorem qOu (N:Nat) (i:Nat):(qfn N).rg i=qxe i:=rfl
theorem qXh (N:Nat) (i:Nat):(qfn N).jn i=qxl i:=rfl
theorem qY3 (N:Nat):(qfn N).fuel=N:=rfl
theorem qQG (N:Nat) (v0:Val qH):qf tt qEq (qfn N) (Try.f108.body.getD .skip) (qo tt true [i83] [.cell 2 83]) (qv [qgk] 15 (v0,()))=qpP N v0:=by
 rw [qpP];unfold Try.f108
 simp (maxSteps:=10000000) -implicitDefEqProofs [qXZ,qr5,qN1,qD3,qRt,qtl,qOu,qxe,qXh,qxl,qY3,qUl,qNO,g17]
 try rfl
def qfq:G:={ps:=[qgk],rs:=[i83],dp:=true,pre:=fun x=>qjc x.1,fn:=fun x=>(qf5 x.1,())}
theorem qUq (x:Val qH) (h:qjc x): ∃N,qpP N x=some (qf5 x,()):=⟨0,by
 obtain ⟨s0,s1,s2⟩:=h
 rw [qpP,qd (show qiD _ from s0)]
 rfl⟩
theorem qKp:Sound Try.prog 108 qfq:=qz (tt:=tt) (Γ:=qEq) hT (ql s17 qp) hm (fn:=Try.f108) Try.func108 (c:=Try.f108.body.getD .skip) (by kernel_rfl) (by kernel_rfl) fun x hx=>by
 obtain ⟨N,h⟩:=qUq x.1 hx
 exact ⟨qfn N,qZf,qx _,qLZ N,(qQG N x.1).trans h⟩
def quj (x:List (Val qH)):List (Val Y83):=x
def qqI (x:List (Val qH)):Prop:=Bd (.slice 113 qH) x
noncomputable def qhi (N:Nat) (v1:List (Val qH)) (k0:(List (Val Y83))→Option (qc [i24])):Nat→Int→(List (Val Y83))→Option (qc [i24])
 | 0,_,_=>none
 | n+1,v2,v3=>bif (decide (v2<(v1.length:Int)))then (chk (0≤v2∧v2<(v1.length:Int)) (chk (qjc (v1.getD v2.toNat (qb qH))) (chk (0≤v2∧v2<(v3.length:Int)) (chk (v2.toNat<v3.length) (qhi N v1 k0 n (IntKind.i64.wrap (v2+(1:Int))) (v3.set v2.toNat (((qf5 (v1.getD v2.toNat (qb qH))).1:List (Val (.int .i64))),(((qf5 (v1.getD v2.toNat (qb qH))).2).1:Int),(((qf5 (v1.getD v2.toNat (qb qH))).2).2:Bool))))))))else (k0 v3)
noncomputable def m63 (N:Nat) (v0:List (Val qH)):Option (qc [i24]):=chk (0≤(v0.length:Int)∧(v0.length:Int)≤(v0.length:Int)∧(v0.length:Int)≤1048576) (qhi N v0 (fun (v5:List (Val Y83))=>some (v5,())) N (0:Int) (List.replicate (v0.length:Int).toNat (qb Y83)))
def Γ63:Gam:=[(108,qfq)]
theorem qCk:Gam.get Γ63 108=some qfq:=rfl
def qn9:Nm:=⟨[true,false,false,true,true],[],false⟩
theorem qyg:qn9.zero=false:=rfl
theorem qtg:qn9.fix=[]:=rfl
theorem qvd:qn9.keep=[true,false,false,true,true]:=rfl
def qr8:Nm:=⟨[false,false,false,true],[],false⟩
theorem qwY:qr8.zero=false:=rfl
theorem qyA:qr8.fix=[]:=rfl
theorem qwP:qr8.keep=[false,false,false,true]:=rfl
def qir:Nat→Tree:=fun _=> .done
def qoE:Nat→Nm:=fun i=>if i=3 then qn9 else ⟨[],[],false⟩
def qmt:Nat→Option Jn:=fun _=>none
def qmN:Nat→Option Nm:=fun i=>if i=0 then some qr8 else none
def qll:Nat→Option Nm:=fun _=>none
theorem p63:qm qir (Try.f63.body.getD .skip)=true:=by kernel_rfl
def T63 (N:Nat):Tab:={tr:=qir,lp:=qoE,ex:=qmN,rg:=qll,jn:=qmt,fuel:=N}
theorem qAs (N:Nat):(T63 N).pins=false:=rfl
theorem qS3 (N:Nat):qn Try.prog (T63 N):=qt fun _=>rfl
theorem qD9 (N:Nat) (i:Nat):(T63 N).tr i=qir i:=rfl
theorem quV (N:Nat) (i:Nat):(T63 N).lp i=qoE i:=rfl
theorem qzT (N:Nat) (i:Nat):(T63 N).ex i=qmN i:=rfl
theorem qyB (N:Nat) (i:Nat):(T63 N).rg i=qll i:=rfl
theorem qDY (N:Nat) (i:Nat):(T63 N).jn i=qmt i:=rfl
theorem qAO (N:Nat):(T63 N).fuel=N:=rfl
noncomputable def qHD:Code:=cut [true,true,false,true,true,true] (Try.f63.body.getD .skip)
theorem qWI {N:Nat} {Q:X→St→Option (qc [i24])} {e:List LV} {h:List Blk}:qf tt Γ63 (T63 N) qHD Q ⟨e,h⟩=qf tt Γ63 (T63 N) (cut [true,true,false,true,true,true] (Try.f63.body.getD .skip)) Q ⟨e,h⟩:=rfl
theorem qPK (N:Nat) (v1:List (Val qH)) {k0:(List (Val Y83))→Option (qc [i24])} {Q:X→St→Option (qc [i24])} {c:Code} (hc:c=qHD) (hret: ∀st,Q .ret st=qN tt true [i24] [.tmp 2] st) (h0: ∀(v4:List (Val Y83)),Q (.exit 0) ⟨[u,u,u,.one (.own 0),u,u,u,u,u,u,u,u,u,u,u,u,u,u,u,u,u,u,u],[.row 83 Y83 v4 true true 0]⟩=k0 v4): ∀(n:Nat) (v2:Int) (v3:List (Val Y83)),qI (qf tt Γ63 (T63 N) c) false qn9 Q n ⟨[.one (.sl 113 qH v1 1),u,u,.one (.own 0),.one (.int .i64 v2),u,u,u,u,u,u,u,u,u,u,u,u,u,u,u,u,u,u],[.row 83 Y83 v3 true true 0]⟩=qhi N v1 k0 n v2 v3:=by
 subst hc;intro n;induction n with
 | zero=>intros;rfl
 | succ n ih=>
   intro v2 v3
   rw [qS,qWI,qhi];unfold Try.f63
   simp (maxSteps:=10000000) -implicitDefEqProofs [qD9,qir,quV,qoE,qzT,qmN,qyB,qll,qDY,qmt,qAO,qAs,qtg,qvd,qyg,qyA,qwP,qwY,qCk,qfq,hret,h0,ih]
theorem qOz (N:Nat) (v0:List (Val qH)):qf tt Γ63 (T63 N) (Try.f63.body.getD .skip) (qo tt true [i24] [.tmp 2]) (qv [i38] 23 (v0,()))=m63 N v0:=by
 unfold Try.f63
 simp (maxSteps:=10000000) -implicitDefEqProofs [qD9,qir,quV,qoE,qzT,qmN,qyB,qll,qDY,qmt,qAO,qAs,qtg,qvd,qyg,qyA,qwP,qwY,qCk,qfq]
 rewrite [qPK (k0:=(fun (v5:List (Val Y83))=>some (v5,()))) N _ ?_ ?_ ?_]
 ·rewrite [m63];first | rfl | simp (maxSteps:=10000000) -implicitDefEqProofs []
 ·rfl
 ·intro;simp only [qQ,qR,qT,qr]
 ·intro v5;simp (maxSteps:=10000000) -implicitDefEqProofs [qD9,qir,quV,qoE,qzT,qmN,qyB,qll,qDY,qmt,qAO,qAs,qtg,qvd,qyg,qyA,qwP,qwY,qCk,qfq]
def g63:G:={ps:=[i38],rs:=[i24],dp:=true,pre:=fun x=>qqI x.1,fn:=fun x=>(quj x.1,())}
theorem e63 (x:List (Val qH)) (h:qqI x): ∃N,m63 N x=some (quj x,()):=⟨List.length x+1,by
 rw [m63,qd (qiv h.1),Int.toNat_natCast]
 refine qjJ (F:=fun n i s=>qhi _ x _ n i s) (k:=fun s=>some (s,())) (qb Y83) h.1 (fun n i s hi hl=> ?_) (fun n i s hi=> ?_) _ (Nat.lt_succ_self _)
 ·rw [qhi,qj (by omega),qd (by omega),qd (show qjc _ from by rw [qE hi];exact h.2 _ (List.getElem_mem hi)),qE hi,qd (by omega),qd (by omega)]
  rfl
 ·rw [qhi,qh (by omega)]⟩
theorem s63:Sound Try.prog 63 g63:=qz (tt:=tt) (Γ:=Γ63) hT (ql qKp qp) hm (fn:=Try.f63) Try.func63 (c:=Try.f63.body.getD .skip) (by kernel_rfl) (by kernel_rfl) fun x hx=>by
 obtain ⟨N,h⟩:=e63 x.1 hx
 exact ⟨T63 N,p63,qx _,qS3 N,(qOz N x.1).trans h⟩
def qpx (x:Val Y40):Val Y26:=x
def qsF (x:Val Y40):Prop:=Bd Y40 x
noncomputable def m16 (N:Nat) (v0:Val Y40):Option (qc [i26]):=chk (qqI (v0.2:List (Val qH))) (some (((v0.1:Int),((quj (v0.2:List (Val qH))):List (Val Y83))),()))
def Γ16:Gam:=[(63,g63)]
theorem qLR:Gam.get Γ16 63=some g63:=rfl
def qps:Nat→Tree:=fun _=> .done
def qFs:Nat→Nm:=fun _=>⟨[],[],false⟩
def qAA:Nat→Option Jn:=fun _=>none
def qD7:Nat→Option Nm:=fun _=>none
def qBR:Nat→Option Nm:=fun _=>none
theorem p16:qm qps (Try.f16.body.getD .skip)=true:=by kernel_rfl
def T16 (N:Nat):Tab:={tr:=qps,lp:=qFs,ex:=qD7,rg:=qBR,jn:=qAA,fuel:=N}
theorem qTG (N:Nat):(T16 N).pins=false:=rfl
theorem qP6 (N:Nat):qn Try.prog (T16 N):=qt fun _=>rfl
theorem qVP (N:Nat) (i:Nat):(T16 N).tr i=qps i:=rfl
theorem qUK (N:Nat) (i:Nat):(T16 N).lp i=qFs i:=rfl
theorem qM6 (N:Nat) (i:Nat):(T16 N).ex i=qD7 i:=rfl
theorem qMA (N:Nat) (i:Nat):(T16 N).rg i=qBR i:=rfl
theorem qYt (N:Nat) (i:Nat):(T16 N).jn i=qAA i:=rfl
theorem qWN (N:Nat):(T16 N).fuel=N:=rfl
theorem qPD (N:Nat) (v0:Val Y40):qf tt Γ16 (T16 N) (Try.f16.body.getD .skip) (qo tt true [i26] [.cell 2 26]) (qv [i40] 12 (v0,()))=m16 N v0:=by
 rw [m16];unfold Try.f16
 simp (maxSteps:=10000000) -implicitDefEqProofs [qVP,qps,qUK,qFs,qM6,qD7,qMA,qBR,qYt,qAA,qWN,qTG,qLR,g63]
 try rfl
def g16:G:={ps:=[i40],rs:=[i26],dp:=true,pre:=fun x=>qsF x.1,fn:=fun x=>(qpx x.1,())}
theorem e16 (x:Val Y40) (h:qsF x): ∃N,m16 N x=some (qpx x,()):=⟨0,by
 obtain ⟨s0,s1⟩:=h
 rw [m16,qd (show qqI _ from s1)]
 rfl⟩
theorem s16:Sound Try.prog 16 g16:=qz (tt:=tt) (Γ:=Γ16) hT (ql s63 qp) hm (fn:=Try.f16) Try.func16 (c:=Try.f16.body.getD .skip) (by kernel_rfl) (by kernel_rfl) fun x hx=>by
 obtain ⟨N,h⟩:=e16 x.1 hx
 exact ⟨T16 N,p16,qx _,qP6 N,(qPD N x.1).trans h⟩
def qnC (x:Val qM):Val qi:=x
def qql (x:Val qM):Prop:=Bd qM x
noncomputable def qsK (N:Nat) (v0:Val qM):Option (qc [qeM]):=chk (qsF v0.2) (some (((v0.1:ByteArray),(((qpx v0.2).1:Int),((qpx v0.2).2:List (Val Y83)))),()))
def qxZ:Gam:=[(16,g16)]
theorem qUg:Gam.get qxZ 16=some g16:=rfl
def qsC:Nat→Tree:=fun _=> .done
def qCp:Nat→Nm:=fun _=>⟨[],[],false⟩
def qBG:Nat→Option Jn:=fun _=>none
def qtF:Nat→Option Nm:=fun _=>none
def qxI:Nat→Option Nm:=fun _=>none
theorem qWm:qm qsC (Try.f144.body.getD .skip)=true:=by kernel_rfl
def qe0 (N:Nat):Tab:={tr:=qsC,lp:=qCp,ex:=qtF,rg:=qxI,jn:=qBG,fuel:=N}
theorem qSK (N:Nat):(qe0 N).pins=false:=rfl
theorem qY9 (N:Nat):qn Try.prog (qe0 N):=qt fun _=>rfl
theorem qXr (N:Nat) (i:Nat):(qe0 N).tr i=qsC i:=rfl
theorem qMS (N:Nat) (i:Nat):(qe0 N).lp i=qCp i:=rfl
theorem qPu (N:Nat) (i:Nat):(qe0 N).ex i=qtF i:=rfl
theorem qOB (N:Nat) (i:Nat):(qe0 N).rg i=qxI i:=rfl
theorem qPV (N:Nat) (i:Nat):(qe0 N).jn i=qBG i:=rfl
theorem qL3 (N:Nat):(qe0 N).fuel=N:=rfl
theorem qUA (N:Nat) (v0:Val qM):qf tt qxZ (qe0 N) (Try.f144.body.getD .skip) (qo tt true [qeM] [.cell 2 158]) (qv [qgz] 12 (v0,()))=qsK N v0:=by
 rw [qsK];unfold Try.f144
 simp (maxSteps:=10000000) -implicitDefEqProofs [qXr,qsC,qMS,qCp,qPu,qtF,qOB,qxI,qPV,qBG,qL3,qSK,qUg,g16]
 try rfl
def qjG:G:={ps:=[qgz],rs:=[qeM],dp:=true,pre:=fun x=>qql x.1,fn:=fun x=>(qnC x.1,())}
theorem qOp (x:Val qM) (h:qql x): ∃N,qsK N x=some (qnC x,()):=⟨0,by
 obtain ⟨s0,s1⟩:=h
 rw [qsK,qd (show qsF _ from s1)]
 rfl⟩
theorem qNq:Sound Try.prog 144 qjG:=qz (tt:=tt) (Γ:=qxZ) hT (ql s16 qp) hm (fn:=Try.f144) Try.func144 (c:=Try.f144.body.getD .skip) (by kernel_rfl) (by kernel_rfl) fun x hx=>by
 obtain ⟨N,h⟩:=qOp x.1 hx
 exact ⟨qe0 N,qWm,qx _,qY9 N,(qUA N x.1).trans h⟩
def qzl (x:List (Val qM)):List (Val qi):=x
def qpA (x:List (Val qM)):Prop:=Bd (.slice 168 qM) x
noncomputable def qg1 (N:Nat) (v1:List (Val qM)) (k0:(List (Val qi))→Option (qc [qcr])):Nat→Int→(List (Val qi))→Option (qc [qcr])
 | 0,_,_=>none
 | n+1,v2,v3=>bif (decide (v2<(v1.length:Int)))then (chk (0≤v2∧v2<(v1.length:Int)) (chk (qql (v1.getD v2.toNat (qb qM))) (chk (0≤v2∧v2<(v3.length:Int)) (chk (v2.toNat<v3.length) (qg1 N v1 k0 n (IntKind.i64.wrap (v2+(1:Int))) (v3.set v2.toNat (((qnC (v1.getD v2.toNat (qb qM))).1:ByteArray),((((qnC (v1.getD v2.toNat (qb qM))).2).1:Int),(((qnC (v1.getD v2.toNat (qb qM))).2).2:List (Val Y83))))))))))else (k0 v3)
noncomputable def qrG (N:Nat) (v0:List (Val qM)):Option (qc [qcr]):=chk (0≤(v0.length:Int)∧(v0.length:Int)≤(v0.length:Int)∧(v0.length:Int)≤1048576) (qg1 N v0 (fun (v5:List (Val qi))=>some (v5,())) N (0:Int) (List.replicate (v0.length:Int).toNat (qb qi)))
def qjI:Gam:=[(144,qjG)]
theorem qxQ:Gam.get qjI 144=some qjG:=rfl
def qnl:Nm:=⟨[true,false,false,true,true],[],false⟩
theorem qBj:qnl.zero=false:=rfl
theorem qza:qnl.fix=[]:=rfl
theorem qz3:qnl.keep=[true,false,false,true,true]:=rfl
def qrD:Nm:=⟨[false,false,false,true],[],false⟩
theorem qAS:qrD.zero=false:=rfl
theorem qCi:qrD.fix=[]:=rfl
theorem qEF:qrD.keep=[false,false,false,true]:=rfl
def qh6:Nat→Tree:=fun _=> .done
def qkS:Nat→Nm:=fun i=>if i=3 then qnl else ⟨[],[],false⟩
def qoe:Nat→Option Jn:=fun _=>none
def qob:Nat→Option Nm:=fun i=>if i=0 then some qrD else none
def qlk:Nat→Option Nm:=fun _=>none
theorem qNY:qm qh6 (Try.f119.body.getD .skip)=true:=by kernel_rfl
def qc7 (N:Nat):Tab:={tr:=qh6,lp:=qkS,ex:=qob,rg:=qlk,jn:=qoe,fuel:=N}
theorem qyk (N:Nat):(qc7 N).pins=false:=rfl
theorem qYR (N:Nat):qn Try.prog (qc7 N):=qt fun _=>rfl
theorem qzk (N:Nat) (i:Nat):(qc7 N).tr i=qh6 i:=rfl
theorem qtA (N:Nat) (i:Nat):(qc7 N).lp i=qkS i:=rfl
theorem qzL (N:Nat) (i:Nat):(qc7 N).ex i=qob i:=rfl
theorem qy1 (N:Nat) (i:Nat):(qc7 N).rg i=qlk i:=rfl
theorem qtM (N:Nat) (i:Nat):(qc7 N).jn i=qoe i:=rfl
theorem qCW (N:Nat):(qc7 N).fuel=N:=rfl
noncomputable def qKJ:Code:=cut [true,true,false,true,true,true] (Try.f119.body.getD .skip)
theorem qYJ {N:Nat} {Q:X→St→Option (qc [qcr])} {e:List LV} {h:List Blk}:qf tt qjI (qc7 N) qKJ Q ⟨e,h⟩=qf tt qjI (qc7 N) (cut [true,true,false,true,true,true] (Try.f119.body.getD .skip)) Q ⟨e,h⟩:=rfl
theorem qMe (N:Nat) (v1:List (Val qM)) {k0:(List (Val qi))→Option (qc [qcr])} {Q:X→St→Option (qc [qcr])} {c:Code} (hc:c=qKJ) (hret: ∀st,Q .ret st=qN tt true [qcr] [.tmp 2] st) (h0: ∀(v4:List (Val qi)),Q (.exit 0) ⟨[u,u,u,.one (.own 0),u,u,u,u,u,u,u,u,u,u,u,u,u,u,u,u,u,u,u],[.row 158 qi v4 true true 0]⟩=k0 v4): ∀(n:Nat) (v2:Int) (v3:List (Val qi)),qI (qf tt qjI (qc7 N) c) false qnl Q n ⟨[.one (.sl 168 qM v1 1),u,u,.one (.own 0),.one (.int .i64 v2),u,u,u,u,u,u,u,u,u,u,u,u,u,u,u,u,u,u],[.row 158 qi v3 true true 0]⟩=qg1 N v1 k0 n v2 v3:=by
 subst hc;intro n;induction n with
 | zero=>intros;rfl
 | succ n ih=>
   intro v2 v3
   rw [qS,qYJ,qg1];unfold Try.f119
   simp (maxSteps:=10000000) -implicitDefEqProofs [qzk,qh6,qtA,qkS,qzL,qob,qy1,qlk,qtM,qoe,qCW,qyk,qza,qz3,qBj,qCi,qEF,qAS,qxQ,qjG,hret,h0,ih]
theorem qUc (N:Nat) (v0:List (Val qM)):qf tt qjI (qc7 N) (Try.f119.body.getD .skip) (qo tt true [qcr] [.tmp 2]) (qv [qgj] 23 (v0,()))=qrG N v0:=by
 unfold Try.f119
 simp (maxSteps:=10000000) -implicitDefEqProofs [qzk,qh6,qtA,qkS,qzL,qob,qy1,qlk,qtM,qoe,qCW,qyk,qza,qz3,qBj,qCi,qEF,qAS,qxQ,qjG]
 rewrite [qMe (k0:=(fun (v5:List (Val qi))=>some (v5,()))) N _ ?_ ?_ ?_]
 ·rewrite [qrG];first | rfl | simp (maxSteps:=10000000) -implicitDefEqProofs []
 ·rfl
 ·intro;simp only [qQ,qR,qT,qr]
 ·intro v5;simp (maxSteps:=10000000) -implicitDefEqProofs [qzk,qh6,qtA,qkS,qzL,qob,qy1,qlk,qtM,qoe,qCW,qyk,qza,qz3,qBj,qCi,qEF,qAS,qxQ,qjG]
def qsi:G:={ps:=[qgj],rs:=[qcr],dp:=true,pre:=fun x=>qpA x.1,fn:=fun x=>(qzl x.1,())}
theorem qUX (x:List (Val qM)) (h:qpA x): ∃N,qrG N x=some (qzl x,()):=⟨List.length x+1,by
 rw [qrG,qd (qiv h.1),Int.toNat_natCast]
 refine qjJ (F:=fun n i s=>qg1 _ x _ n i s) (k:=fun s=>some (s,())) (qb qi) h.1 (fun n i s hi hl=> ?_) (fun n i s hi=> ?_) _ (Nat.lt_succ_self _)
 ·rw [qg1,qj (by omega),qd (by omega),qd (show qql _ from by rw [qE hi];exact h.2 _ (List.getElem_mem hi)),qE hi,qd (by omega),qd (by omega)]
  rfl
 ·rw [qg1,qh (by omega)]⟩
theorem qSO:Sound Try.prog 119 qsi:=qz (tt:=tt) (Γ:=qjI) hT (ql qNq qp) hm (fn:=Try.f119) Try.func119 (c:=Try.f119.body.getD .skip) (by kernel_rfl) (by kernel_rfl) fun x hx=>by
 obtain ⟨N,h⟩:=qUX x.1 hx
 exact ⟨qc7 N,qNY,qx _,qYR N,(qUc N x.1).trans h⟩
def qof (x:Val qD):Val qe:=x
def qqy (x:Val qD):Prop:=Bd qD x
noncomputable def m80 (N:Nat) (v0:Val qD):Option (qc [qcC]):=chk (qpA (v0.2.2:List (Val qM))) (some (((v0.1:ByteArray),(v0.2.1:Int),((qzl (v0.2.2:List (Val qM))):List (Val qi))),()))
def Γ80:Gam:=[(119,qsi)]
theorem qWM:Gam.get Γ80 119=some qsi:=rfl
def qqQ:Nat→Tree:=fun _=> .done
def qxO:Nat→Nm:=fun _=>⟨[],[],false⟩
def qBD:Nat→Option Jn:=fun _=>none
def qwI:Nat→Option Nm:=fun _=>none
def qve:Nat→Option Nm:=fun _=>none
theorem p80:qm qqQ (Try.f80.body.getD .skip)=true:=by kernel_rfl
def T80 (N:Nat):Tab:={tr:=qqQ,lp:=qxO,ex:=qwI,rg:=qve,jn:=qBD,fuel:=N}
theorem qXX (N:Nat):(T80 N).pins=false:=rfl
theorem qW5 (N:Nat):qn Try.prog (T80 N):=qt fun _=>rfl
theorem qLs (N:Nat) (i:Nat):(T80 N).tr i=qqQ i:=rfl
theorem qLQ (N:Nat) (i:Nat):(T80 N).lp i=qxO i:=rfl
theorem qSG (N:Nat) (i:Nat):(T80 N).ex i=qwI i:=rfl
theorem qXY (N:Nat) (i:Nat):(T80 N).rg i=qve i:=rfl
theorem qOv (N:Nat) (i:Nat):(T80 N).jn i=qBD i:=rfl
theorem qPv (N:Nat):(T80 N).fuel=N:=rfl
theorem qL9 (N:Nat) (v0:Val qD):qf tt Γ80 (T80 N) (Try.f80.body.getD .skip) (qo tt true [qcC] [.cell 2 123]) (qv [qgd] 15 (v0,()))=m80 N v0:=by
 rw [m80];unfold Try.f80
 simp (maxSteps:=10000000) -implicitDefEqProofs [qLs,qqQ,qLQ,qxO,qSG,qwI,qXY,qve,qOv,qBD,qPv,qXX,qWM,qsi]
 try rfl
def g80:G:={ps:=[qgd],rs:=[qcC],dp:=true,pre:=fun x=>qqy x.1,fn:=fun x=>(qof x.1,())}
theorem e80 (x:Val qD) (h:qqy x): ∃N,m80 N x=some (qof x,()):=⟨0,by
 obtain ⟨s0,s1,s2⟩:=h
 rw [m80,qd (show qpA _ from s2)]
 rfl⟩
theorem s80:Sound Try.prog 80 g80:=qz (tt:=tt) (Γ:=Γ80) hT (ql qSO qp) hm (fn:=Try.f80) Try.func80 (c:=Try.f80.body.getD .skip) (by kernel_rfl) (by kernel_rfl) fun x hx=>by
 obtain ⟨N,h⟩:=e80 x.1 hx
 exact ⟨T80 N,p80,qx _,qW5 N,(qL9 N x.1).trans h⟩
def qK (x:List (Val qD)):List (Val qe):=x
def qhD (x:List (Val qD)):Prop:=Bd (.slice 111 qD) x
noncomputable def qhF (N:Nat) (v1:List (Val qD)) (k0:(List (Val qe))→Option (qc [i63])):Nat→Int→(List (Val qe))→Option (qc [i63])
 | 0,_,_=>none
 | n+1,v2,v3=>bif (decide (v2<(v1.length:Int)))then (chk (0≤v2∧v2<(v1.length:Int)) (chk (qqy (v1.getD v2.toNat (qb qD))) (chk (0≤v2∧v2<(v3.length:Int)) (chk (v2.toNat<v3.length) (qhF N v1 k0 n (IntKind.i64.wrap (v2+(1:Int))) (v3.set v2.toNat (((qof (v1.getD v2.toNat (qb qD))).1:ByteArray),(((qof (v1.getD v2.toNat (qb qD))).2).1:Int),(((qof (v1.getD v2.toNat (qb qD))).2).2:List (Val qi)))))))))else (k0 v3)
noncomputable def m26 (N:Nat) (v0:List (Val qD)):Option (qc [i63]):=chk (0≤(v0.length:Int)∧(v0.length:Int)≤(v0.length:Int)∧(v0.length:Int)≤1048576) (qhF N v0 (fun (v5:List (Val qe))=>some (v5,())) N (0:Int) (List.replicate (v0.length:Int).toNat (qb qe)))
def Γ26:Gam:=[(80,g80)]
theorem qEc:Gam.get Γ26 80=some g80:=rfl
def qnp:Nm:=⟨[true,false,false,true,true],[],false⟩
theorem qAB:qnp.zero=false:=rfl
theorem quC:qnp.fix=[]:=rfl
theorem qx2:qnp.keep=[true,false,false,true,true]:=rfl
def qq1:Nm:=⟨[false,false,false,true],[],false⟩
theorem qA9:qq1.zero=false:=rfl
theorem qCs:qq1.fix=[]:=rfl
theorem qDk:qq1.keep=[false,false,false,true]:=rfl
def qh7:Nat→Tree:=fun _=> .done
def qmi:Nat→Nm:=fun i=>if i=3 then qnp else ⟨[],[],false⟩
def qkX:Nat→Option Jn:=fun _=>none
def qlU:Nat→Option Nm:=fun i=>if i=0 then some qq1 else none
def qoC:Nat→Option Nm:=fun _=>none
theorem p26:qm qh7 (Try.f26.body.getD .skip)=true:=by kernel_rfl
def T26 (N:Nat):Tab:={tr:=qh7,lp:=qmi,ex:=qlU,rg:=qoC,jn:=qkX,fuel:=N}
theorem qwT (N:Nat):(T26 N).pins=false:=rfl
theorem qUz (N:Nat):qn Try.prog (T26 N):=qt fun _=>rfl
theorem qGN (N:Nat) (i:Nat):(T26 N).tr i=qh7 i:=rfl
theorem qFc (N:Nat) (i:Nat):(T26 N).lp i=qmi i:=rfl
theorem qs0 (N:Nat) (i:Nat):(T26 N).ex i=qlU i:=rfl
theorem quO (N:Nat) (i:Nat):(T26 N).rg i=qoC i:=rfl
theorem qyT (N:Nat) (i:Nat):(T26 N).jn i=qkX i:=rfl
theorem qF5 (N:Nat):(T26 N).fuel=N:=rfl
noncomputable def qIW:Code:=cut [true,true,false,true,true,true] (Try.f26.body.getD .skip)
theorem qYn {N:Nat} {Q:X→St→Option (qc [i63])} {e:List LV} {h:List Blk}:qf tt Γ26 (T26 N) qIW Q ⟨e,h⟩=qf tt Γ26 (T26 N) (cut [true,true,false,true,true,true] (Try.f26.body.getD .skip)) Q ⟨e,h⟩:=rfl
theorem qTu (N:Nat) (v1:List (Val qD)) {k0:(List (Val qe))→Option (qc [i63])} {Q:X→St→Option (qc [i63])} {c:Code} (hc:c=qIW) (hret: ∀st,Q .ret st=qN tt true [i63] [.tmp 2] st) (h0: ∀(v4:List (Val qe)),Q (.exit 0) ⟨[u,u,u,.one (.own 0),u,u,u,u,u,u,u,u,u,u,u,u,u,u,u,u,u,u,u],[.row 123 qe v4 true true 0]⟩=k0 v4): ∀(n:Nat) (v2:Int) (v3:List (Val qe)),qI (qf tt Γ26 (T26 N) c) false qnp Q n ⟨[.one (.sl 111 qD v1 1),u,u,.one (.own 0),.one (.int .i64 v2),u,u,u,u,u,u,u,u,u,u,u,u,u,u,u,u,u,u],[.row 123 qe v3 true true 0]⟩=qhF N v1 k0 n v2 v3:=by
 subst hc;intro n;induction n with
 | zero=>intros;rfl
 | succ n ih=>
   intro v2 v3
   rw [qS,qYn,qhF];unfold Try.f26
   simp (maxSteps:=10000000) -implicitDefEqProofs [qGN,qh7,qFc,qmi,qs0,qlU,quO,qoC,qyT,qkX,qF5,qwT,quC,qx2,qAB,qCs,qDk,qA9,qEc,g80,hret,h0,ih]
theorem qRR (N:Nat) (v0:List (Val qD)):qf tt Γ26 (T26 N) (Try.f26.body.getD .skip) (qo tt true [i63] [.tmp 2]) (qv [i57] 23 (v0,()))=m26 N v0:=by
 unfold Try.f26
 simp (maxSteps:=10000000) -implicitDefEqProofs [qGN,qh7,qFc,qmi,qs0,qlU,quO,qoC,qyT,qkX,qF5,qwT,quC,qx2,qAB,qCs,qDk,qA9,qEc,g80]
 rewrite [qTu (k0:=(fun (v5:List (Val qe))=>some (v5,()))) N _ ?_ ?_ ?_]
 ·rewrite [m26];first | rfl | simp (maxSteps:=10000000) -implicitDefEqProofs []
 ·rfl
 ·intro;simp only [qQ,qR,qT,qr]
 ·intro v5;simp (maxSteps:=10000000) -implicitDefEqProofs [qGN,qh7,qFc,qmi,qs0,qlU,quO,qoC,qyT,qkX,qF5,qwT,quC,qx2,qAB,qCs,qDk,qA9,qEc,g80]
def g26:G:={ps:=[i57],rs:=[i63],dp:=true,pre:=fun x=>qhD x.1,fn:=fun x=>(qK x.1,())}
theorem e26 (x:List (Val qD)) (h:qhD x): ∃N,m26 N x=some (qK x,()):=⟨List.length x+1,by
 rw [m26,qd (qiv h.1),Int.toNat_natCast]
 refine qjJ (F:=fun n i s=>qhF _ x _ n i s) (k:=fun s=>some (s,())) (qb qe) h.1 (fun n i s hi hl=> ?_) (fun n i s hi=> ?_) _ (Nat.lt_succ_self _)
 ·rw [qhF,qj (by omega),qd (by omega),qd (show qqy _ from by rw [qE hi];exact h.2 _ (List.getElem_mem hi)),qE hi,qd (by omega),qd (by omega)]
  rfl
 ·rw [qhF,qh (by omega)]⟩
theorem s26:Sound Try.prog 26 g26:=qz (tt:=tt) (Γ:=Γ26) hT (ql s80 qp) hm (fn:=Try.f26) Try.func26 (c:=Try.f26.body.getD .skip) (by kernel_rfl) (by kernel_rfl) fun x hx=>by
 obtain ⟨N,h⟩:=e26 x.1 hx
 exact ⟨T26 N,p26,qx _,qUz N,(qRR N x.1).trans h⟩
def qgP (x y:List (Val (.int .i64))):Bool:=eqV (.slice 3 (.int .i64)) x y
def qiN (x _:List (Val (.int .i64))):Prop:=Bd (.slice 3 (.int .i64)) x
noncomputable def qhG (N:Nat) (v2:List (Val (.int .i64))) (v3:List (Val (.int .i64))) (k0:Unit→Option (qc [i4])):Nat→Int→Option (qc [i4])
 | 0,_=>none
 | n+1,v4=>bif (decide (v4<(v2.length:Int)))then (chk (0≤v4∧v4<(v2.length:Int)) (chk (0≤v4∧v4<(v3.length:Int)) (bif (!(decide (((v2.getD v4.toNat (qb (.int .i64))):Int)=((v3.getD v4.toNat (qb (.int .i64))):Int))))then (some (false,()))else (qhG N v2 v3 k0 n (IntKind.i64.wrap (v4+(1:Int)))))))else (k0 ())
noncomputable def m21 (N:Nat) (v0:List (Val (.int .i64))) (v1:List (Val (.int .i64))):Option (qc [i4]):=bif (!(decide ((v0.length:Int)=(v1.length:Int))))then (some (false,()))else (qhG N v0 v1 (fun (_:Unit)=>some (true,())) N (0:Int))
def Γ21:Gam:=[]
def qln:Nm:=⟨[true,true,false,false,false,true],[],false⟩
theorem qBb:qln.zero=false:=rfl
theorem qBx:qln.fix=[]:=rfl
theorem qGa:qln.keep=[true,true,false,false,false,true]:=rfl
def qsc:Nm:=⟨[],[],false⟩
theorem qwt:qsc.zero=false:=rfl
theorem qxc:qsc.fix=[]:=rfl
theorem qCu:qsc.keep=[]:=rfl
def qjN:Nat→Tree:=fun i=>if i=6 then .quiet 0 (.quiet 1 (.quiet 2 (.quiet 3 (.quiet 4 (.quiet 5 (.quiet 6 (.quiet 7 (.quiet 8 .done))))))))else .done
def qmU:Nat→Nm:=fun i=>if i=4 then qln else ⟨[],[],false⟩
def qkN:Nat→Option Jn:=fun _=>none
def qj3:Nat→Option Nm:=fun i=>if i=0 then some qsc else none
def qlS:Nat→Option Nm:=fun _=>none
theorem p21:qm qjN (Try.f21.body.getD .skip)=true:=by kernel_rfl
def T21 (N:Nat):Tab:={tr:=qjN,lp:=qmU,ex:=qj3,rg:=qlS,jn:=qkN,fuel:=N}
theorem quA (N:Nat):(T21 N).pins=false:=rfl
theorem qN3 (N:Nat):qn Try.prog (T21 N):=qt fun _=>rfl
theorem qvm (N:Nat) (i:Nat):(T21 N).tr i=qjN i:=rfl
theorem qAf (N:Nat) (i:Nat):(T21 N).lp i=qmU i:=rfl
theorem qxD (N:Nat) (i:Nat):(T21 N).ex i=qj3 i:=rfl
theorem qCR (N:Nat) (i:Nat):(T21 N).rg i=qlS i:=rfl
theorem qxF (N:Nat) (i:Nat):(T21 N).jn i=qkN i:=rfl
theorem qvE (N:Nat):(T21 N).fuel=N:=rfl
noncomputable def qIT:Code:=cut [true,true,false,true,true,true] (Try.f21.body.getD .skip)
theorem qN7 {N:Nat} {Q:X→St→Option (qc [i4])} {e:List LV} {h:List Blk}:qf tt Γ21 (T21 N) qIT Q ⟨e,h⟩=qf tt Γ21 (T21 N) (cut [true,true,false,true,true,true] (Try.f21.body.getD .skip)) Q ⟨e,h⟩:=rfl
theorem qTz (N:Nat) (v2:List (Val (.int .i64))) (v3:List (Val (.int .i64))) {k0:Unit→Option (qc [i4])} {Q:X→St→Option (qc [i4])} {c:Code} (hc:c=qIT) (hret: ∀st,Q .ret st=qN tt true [i4] [.tmp 4] st) (h0:Q (.exit 0) ⟨[u,u,u,u,u,u,u,u,u,u,u,u,u,u,u,u,u,u,u,u,u,u,u,u,u,u],[]⟩=k0 ()): ∀(n:Nat) (v4:Int),qI (qf tt Γ21 (T21 N) c) false qln Q n ⟨[.one (.sl 3 (.int .i64) v2 0),.one (.sl 3 (.int .i64) v3 0),u,u,u,.one (.int .i64 v4),u,u,u,u,u,u,u,u,u,u,u,u,u,u,u,u,u,u,u,u],[]⟩=qhG N v2 v3 k0 n v4:=by
 subst hc;intro n;induction n with
 | zero=>intros;rfl
 | succ n ih=>
   intro v4
   rw [qS,qN7,qhG];unfold Try.f21
   simp (maxSteps:=10000000) -implicitDefEqProofs [qvm,qjN,qAf,qmU,qxD,qj3,qCR,qlS,qxF,qkN,qvE,quA,qBx,qGa,qBb,qxc,qCu,qwt,hret,h0,ih]
theorem qZh (N:Nat) (v0:List (Val (.int .i64))) (v1:List (Val (.int .i64))):qf tt Γ21 (T21 N) (Try.f21.body.getD .skip) (qo tt true [i4] [.tmp 4]) (qv [i27,i27] 26 (v0,v1,()))=m21 N v0 v1:=by
 unfold Try.f21
 simp (maxSteps:=10000000) -implicitDefEqProofs [qvm,qjN,qAf,qmU,qxD,qj3,qCR,qlS,qxF,qkN,qvE,quA,qBx,qGa,qBb,qxc,qCu,qwt]
 rewrite [qTz (k0:=(fun (_:Unit)=>some (true,()))) N _ _ ?_ ?_ ?_]
 ·rewrite [m21];first | rfl | simp (maxSteps:=10000000) -implicitDefEqProofs []
 ·rfl
 ·intro;simp only [qQ,qR,qT,qr]
 ·simp (maxSteps:=10000000) -implicitDefEqProofs [qvm,qjN,qAf,qmU,qxD,qj3,qCR,qlS,qxF,qkN,qvE,quA,qBx,qGa,qBb,qxc,qCu,qwt]
def g21:G:={ps:=[i27,i27],rs:=[i4],dp:=true,pre:=fun x=>qiN x.1 x.2.1,fn:=fun x=>(qgP x.1 x.2.1,())}
theorem e21 (x y:List (Val (.int .i64))) (h:qiN x y): ∃N,m21 N x y=some (qgP x y,()):=⟨List.length x+1,by
 rw [m21,qL]
 rw [qgP,eqS]
 by_cases c:List.length x=List.length y
 ·rw [qj (by omega)]
  refine (qm6 (f:=eqV (.int .i64)) (xs:=x) (ys:=y) (F:=fun n i=>qhG _ x y _ n i) (k:=fun _=>some (true,())) (r:=some (false,())) h.1 c (fun n i hi hi2=> ?_) (fun n i hi=> ?_) _ (Nat.lt_succ_self _)).trans qii
  ·rw [qhG,qj (by omega),qd (by omega),qd (by omega),qE hi,qE hi2,qL]
   rfl
  ·rw [qhG,qh (by omega)]
 ·rw [qh (by omega),qib _ _ c]⟩
theorem s21:Sound Try.prog 21 g21:=qz (tt:=tt) (Γ:=Γ21) hT qp hm (fn:=Try.f21) Try.func21 (c:=Try.f21.body.getD .skip) (by kernel_rfl) (by kernel_rfl) fun x hx=>by
 obtain ⟨N,h⟩:=e21 x.1 x.2.1 hx
 exact ⟨T21 N,p21,qx _,qN3 N,(qZh N x.1 x.2.1).trans h⟩
def qlV (x y:Val Y83):Bool:=eqV Y83 x y
def qif (x _:Val Y83):Prop:=Bd Y83 x
noncomputable def qo6 (N:Nat) (v0:Val Y83) (v1:Val Y83):Option (qc [i4]):=chk (qiN (v0.1:List (Val (.int .i64))) (v1.1:List (Val (.int .i64)))) (bif (!((qgP (v0.1:List (Val (.int .i64))) (v1.1:List (Val (.int .i64)))):Bool))then (some (false,()))else (bif (!(decide ((v0.2.1:Int)=(v1.2.1:Int))))then (some (false,()))else (bif (!((v0.2.2:Bool)==(v1.2.2:Bool)))then (some (false,()))else (some (true,())))))
def qBv:Gam:=[(21,g21)]
theorem qVQ:Gam.get qBv 21=some g21:=rfl
def qpj:Nat→Tree:=fun _=> .done
def qs8:Nat→Nm:=fun _=>⟨[],[],false⟩
def qs9:Nat→Option Jn:=fun _=>none
def qC3:Nat→Option Nm:=fun _=>none
def qv0:Nat→Option Nm:=fun _=>none
theorem qNp:qm qpj (Try.f115.body.getD .skip)=true:=by kernel_rfl
def qe9 (N:Nat):Tab:={tr:=qpj,lp:=qs8,ex:=qC3,rg:=qv0,jn:=qs9,fuel:=N}
theorem qUE (N:Nat):(qe9 N).pins=false:=rfl
theorem qPE (N:Nat):qn Try.prog (qe9 N):=qt fun _=>rfl
theorem qUN (N:Nat) (i:Nat):(qe9 N).tr i=qpj i:=rfl
theorem qMN (N:Nat) (i:Nat):(qe9 N).lp i=qs8 i:=rfl
theorem qMM (N:Nat) (i:Nat):(qe9 N).ex i=qC3 i:=rfl
theorem qYM (N:Nat) (i:Nat):(qe9 N).rg i=qv0 i:=rfl
theorem qLr (N:Nat) (i:Nat):(qe9 N).jn i=qs9 i:=rfl
theorem qOA (N:Nat):(qe9 N).fuel=N:=rfl
theorem qTT (N:Nat) (v0:Val Y83) (v1:Val Y83):qf tt qBv (qe9 N) (Try.f115.body.getD .skip) (qo tt true [i4] [.tmp 4]) (qv [i83,i83] 21 (v0,v1,()))=qo6 N v0 v1:=by
 rw [qo6];unfold Try.f115
 simp (maxSteps:=10000000) -implicitDefEqProofs [qUN,qpj,qMN,qs8,qMM,qC3,qYM,qv0,qLr,qs9,qOA,qUE,qVQ,g21]
 try rfl
def qfK:G:={ps:=[i83,i83],rs:=[i4],dp:=true,pre:=fun x=>qif x.1 x.2.1,fn:=fun x=>(qlV x.1 x.2.1,())}
theorem qNa (x y:Val Y83) (h:qif x y): ∃N,qo6 N x y=some (qlV x y,()):=⟨0,by
 obtain ⟨s0,s1,s2⟩:=h
 rw [qo6,qd (show qiN _ _ from s0)]
 obtain ⟨x0,x1,x2⟩:=x
 obtain ⟨y0,y1,y2⟩:=y
 change _=some ((eqV (.slice 3 (.int .i64)) x0 y0&&(eqV (.int .i64) x1 y1&&eqV .bool x2 y2)),())
 simp only [qL]
 show _=_
 generalize he0:eqV (.slice 3 (.int .i64)) x0 y0=e0
 have hd0:qgP x0 y0=e0:=he0
 generalize he1:eqV (.int .i64) x1 y1=e1
 have hd1:decide ((x1:Int)=y1)=e1:=he1
 generalize he2:eqV .bool x2 y2=e2
 have hd2:((x2:Bool)==y2)=e2:=he2
 simp only [hd0,hd1,hd2]
 cases e0<;>cases e1<;>cases e2<;>rfl⟩
theorem qKx:Sound Try.prog 115 qfK:=qz (tt:=tt) (Γ:=qBv) hT (ql s21 qp) hm (fn:=Try.f115) Try.func115 (c:=Try.f115.body.getD .skip) (by kernel_rfl) (by kernel_rfl) fun x hx=>by
 obtain ⟨N,h⟩:=qNa x.1 x.2.1 hx
 exact ⟨qe9 N,qNp,qx _,qPE N,(qTT N x.1 x.2.1).trans h⟩
def qox (x y:List (Val Y83)):Bool:=eqV (.slice 83 Y83) x y
def qpa (x _:List (Val Y83)):Prop:=Bd (.slice 83 Y83) x
noncomputable def qgV (N:Nat) (v2:List (Val Y83)) (v3:List (Val Y83)) (k0:Unit→Option (qc [i4])):Nat→Int→Option (qc [i4])
 | 0,_=>none
 | n+1,v4=>bif (decide (v4<(v2.length:Int)))then (chk (0≤v4∧v4<(v2.length:Int)) (chk (0≤v4∧v4<(v3.length:Int)) (chk (qif (v2.getD v4.toNat (qb Y83)) (v3.getD v4.toNat (qb Y83))) (bif (!((qlV (v2.getD v4.toNat (qb Y83)) (v3.getD v4.toNat (qb Y83))):Bool))then (some (false,()))else (qgV N v2 v3 k0 n (IntKind.i64.wrap (v4+(1:Int))))))))else (k0 ())
noncomputable def m74 (N:Nat) (v0:List (Val Y83)) (v1:List (Val Y83)):Option (qc [i4]):=bif (!(decide ((v0.length:Int)=(v1.length:Int))))then (some (false,()))else (qgV N v0 v1 (fun (_:Unit)=>some (true,())) N (0:Int))
def Γ74:Gam:=[(115,qfK)]
theorem quF:Gam.get Γ74 115=some qfK:=rfl
def qkQ:Nm:=⟨[true,true,false,false,false,true],[],false⟩
theorem quw:qkQ.zero=false:=rfl
theorem qBw:qkQ.fix=[]:=rfl
theorem qCj:qkQ.keep=[true,true,false,false,false,true]:=rfl
def qrL:Nm:=⟨[],[],false⟩
theorem qtI:qrL.zero=false:=rfl
theorem qAq:qrL.fix=[]:=rfl
theorem qvL:qrL.keep=[]:=rfl
def qje:Nat→Tree:=fun i=>if i=6 then .quiet 0 (.quiet 1 (.quiet 2 (.quiet 3 (.quiet 4 (.quiet 5 (.quiet 6 (.quiet 7 (.alt 8 (.quiet 9 .done) .stop))))))))else .done
def qnu:Nat→Nm:=fun i=>if i=4 then qkQ else ⟨[],[],false⟩
def qjU:Nat→Option Jn:=fun _=>none
def qno:Nat→Option Nm:=fun i=>if i=0 then some qrL else none
def qn5:Nat→Option Nm:=fun _=>none
theorem p74:qm qje (Try.f74.body.getD .skip)=true:=by kernel_rfl
def T74 (N:Nat):Tab:={tr:=qje,lp:=qnu,ex:=qno,rg:=qn5,jn:=qjU,fuel:=N}
theorem qz1 (N:Nat):(T74 N).pins=false:=rfl
theorem qSF (N:Nat):qn Try.prog (T74 N):=qt fun _=>rfl
theorem qFE (N:Nat) (i:Nat):(T74 N).tr i=qje i:=rfl
theorem quG (N:Nat) (i:Nat):(T74 N).lp i=qnu i:=rfl
theorem qD1 (N:Nat) (i:Nat):(T74 N).ex i=qno i:=rfl
theorem qvo (N:Nat) (i:Nat):(T74 N).rg i=qn5 i:=rfl
theorem qFB (N:Nat) (i:Nat):(T74 N).jn i=qjU i:=rfl
theorem qt0 (N:Nat):(T74 N).fuel=N:=rfl
noncomputable def qI1:Code:=cut [true,true,false,true,true,true] (Try.f74.body.getD .skip)
theorem qPR {N:Nat} {Q:X→St→Option (qc [i4])} {e:List LV} {h:List Blk}:qf tt Γ74 (T74 N) qI1 Q ⟨e,h⟩=qf tt Γ74 (T74 N) (cut [true,true,false,true,true,true] (Try.f74.body.getD .skip)) Q ⟨e,h⟩:=rfl
theorem qLi (N:Nat) (v2:List (Val Y83)) (v3:List (Val Y83)) {k0:Unit→Option (qc [i4])} {Q:X→St→Option (qc [i4])} {c:Code} (hc:c=qI1) (hret: ∀st,Q .ret st=qN tt true [i4] [.tmp 4] st) (h0:Q (.exit 0) ⟨[u,u,u,u,u,u,u,u,u,u,u,u,u,u,u,u,u,u,u,u,u,u,u,u,u,u,u],[]⟩=k0 ()): ∀(n:Nat) (v4:Int),qI (qf tt Γ74 (T74 N) c) false qkQ Q n ⟨[.one (.sl 83 Y83 v2 0),.one (.sl 83 Y83 v3 0),u,u,u,.one (.int .i64 v4),u,u,u,u,u,u,u,u,u,u,u,u,u,u,u,u,u,u,u,u,u],[]⟩=qgV N v2 v3 k0 n v4:=by
 subst hc;intro n;induction n with
 | zero=>intros;rfl
 | succ n ih=>
   intro v4
   rw [qS,qPR,qgV];unfold Try.f74
   simp (maxSteps:=10000000) -implicitDefEqProofs [qFE,qje,quG,qnu,qD1,qno,qvo,qn5,qFB,qjU,qt0,qz1,qBw,qCj,quw,qAq,qvL,qtI,quF,qfK,hret,h0,ih]
theorem qNN (N:Nat) (v0:List (Val Y83)) (v1:List (Val Y83)):qf tt Γ74 (T74 N) (Try.f74.body.getD .skip) (qo tt true [i4] [.tmp 4]) (qv [i24,i24] 27 (v0,v1,()))=m74 N v0 v1:=by
 unfold Try.f74
 simp (maxSteps:=10000000) -implicitDefEqProofs [qFE,qje,quG,qnu,qD1,qno,qvo,qn5,qFB,qjU,qt0,qz1,qBw,qCj,quw,qAq,qvL,qtI,quF,qfK]
 rewrite [qLi (k0:=(fun (_:Unit)=>some (true,()))) N _ _ ?_ ?_ ?_]
 ·rewrite [m74];first | rfl | simp (maxSteps:=10000000) -implicitDefEqProofs []
 ·rfl
 ·intro;simp only [qQ,qR,qT,qr]
 ·simp (maxSteps:=10000000) -implicitDefEqProofs [qFE,qje,quG,qnu,qD1,qno,qvo,qn5,qFB,qjU,qt0,qz1,qBw,qCj,quw,qAq,qvL,qtI,quF,qfK]
def g74:G:={ps:=[i24,i24],rs:=[i4],dp:=true,pre:=fun x=>qpa x.1 x.2.1,fn:=fun x=>(qox x.1 x.2.1,())}
theorem e74 (x y:List (Val Y83)) (h:qpa x y): ∃N,m74 N x y=some (qox x y,()):=⟨List.length x+1,by
 rw [m74,qL]
 rw [qox,eqS]
 by_cases c:List.length x=List.length y
 ·rw [qj (by omega)]
  refine (qm6 (f:=eqV Y83) (xs:=x) (ys:=y) (F:=fun n i=>qgV _ x y _ n i) (k:=fun _=>some (true,())) (r:=some (false,())) h.1 c (fun n i hi hi2=> ?_) (fun n i hi=> ?_) _ (Nat.lt_succ_self _)).trans qii
  ·rw [qgV,qj (by omega),qd (by omega),qd (by omega),qd (show qif _ _ from by rw [qE hi];exact h.2 _ (List.getElem_mem hi)),qE hi,qE hi2,qL]
   rfl
  ·rw [qgV,qh (by omega)]
 ·rw [qh (by omega),qib _ _ c]⟩
theorem s74:Sound Try.prog 74 g74:=qz (tt:=tt) (Γ:=Γ74) hT (ql qKx qp) hm (fn:=Try.f74) Try.func74 (c:=Try.f74.body.getD .skip) (by kernel_rfl) (by kernel_rfl) fun x hx=>by
 obtain ⟨N,h⟩:=e74 x.1 x.2.1 hx
 exact ⟨T74 N,p74,qx _,qSF N,(qNN N x.1 x.2.1).trans h⟩
def qp6 (x y:Val Y26):Bool:=eqV Y26 x y
def qpN (x _:Val Y26):Prop:=Bd Y26 x
noncomputable def m20 (N:Nat) (v0:Val Y26) (v1:Val Y26):Option (qc [i4]):=bif (!(decide ((v0.1:Int)=(v1.1:Int))))then (some (false,()))else (chk (qpa (v0.2:List (Val Y83)) (v1.2:List (Val Y83))) (bif (!((qox (v0.2:List (Val Y83)) (v1.2:List (Val Y83))):Bool))then (some (false,()))else (some (true,()))))
def Γ20:Gam:=[(74,g74)]
theorem qWu:Gam.get Γ20 74=some g74:=rfl
def qo8:Nat→Tree:=fun _=> .done
def qtB:Nat→Nm:=fun _=>⟨[],[],false⟩
def qzS:Nat→Option Jn:=fun _=>none
def qv2:Nat→Option Nm:=fun _=>none
def qAH:Nat→Option Nm:=fun _=>none
theorem p20:qm qo8 (Try.f20.body.getD .skip)=true:=by kernel_rfl
def T20 (N:Nat):Tab:={tr:=qo8,lp:=qtB,ex:=qv2,rg:=qAH,jn:=qzS,fuel:=N}
theorem qXf (N:Nat):(T20 N).pins=false:=rfl
theorem qQC (N:Nat):qn Try.prog (T20 N):=qt fun _=>rfl
theorem qPA (N:Nat) (i:Nat):(T20 N).tr i=qo8 i:=rfl
theorem qV4 (N:Nat) (i:Nat):(T20 N).lp i=qtB i:=rfl
theorem qV9 (N:Nat) (i:Nat):(T20 N).ex i=qv2 i:=rfl
theorem qPG (N:Nat) (i:Nat):(T20 N).rg i=qAH i:=rfl
theorem qN2 (N:Nat) (i:Nat):(T20 N).jn i=qzS i:=rfl
theorem qR5 (N:Nat):(T20 N).fuel=N:=rfl
theorem qWE (N:Nat) (v0:Val Y26) (v1:Val Y26):qf tt Γ20 (T20 N) (Try.f20.body.getD .skip) (qo tt true [i4] [.tmp 4]) (qv [i26,i26] 16 (v0,v1,()))=m20 N v0 v1:=by
 rw [m20];unfold Try.f20
 simp (maxSteps:=10000000) -implicitDefEqProofs [qPA,qo8,qV4,qtB,qV9,qv2,qPG,qAH,qN2,qzS,qR5,qXf,qWu,g74]
 try rfl
def g20:G:={ps:=[i26,i26],rs:=[i4],dp:=true,pre:=fun x=>qpN x.1 x.2.1,fn:=fun x=>(qp6 x.1 x.2.1,())}
theorem e20 (x y:Val Y26) (h:qpN x y): ∃N,m20 N x y=some (qp6 x y,()):=⟨0,by
 obtain ⟨s0,s1⟩:=h
 rw [m20,qd (show qpa _ _ from s1)]
 obtain ⟨x0,x1⟩:=x
 obtain ⟨y0,y1⟩:=y
 change _=some ((eqV (.int .i64) x0 y0&&eqV (.slice 83 Y83) x1 y1),())
 simp only [qL]
 show _=_
 generalize he0:eqV (.int .i64) x0 y0=e0
 have hd0:decide ((x0:Int)=y0)=e0:=he0
 generalize he1:eqV (.slice 83 Y83) x1 y1=e1
 have hd1:qox x1 y1=e1:=he1
 simp only [hd0,hd1]
 cases e0<;>cases e1<;>rfl⟩
theorem s20:Sound Try.prog 20 g20:=qz (tt:=tt) (Γ:=Γ20) hT (ql s74 qp) hm (fn:=Try.f20) Try.func20 (c:=Try.f20.body.getD .skip) (by kernel_rfl) (by kernel_rfl) fun x hx=>by
 obtain ⟨N,h⟩:=e20 x.1 x.2.1 hx
 exact ⟨T20 N,p20,qx _,qQC N,(qWE N x.1 x.2.1).trans h⟩
def qEf (x y:Val qi):Bool:=eqV qi x y
def qrd (x _:Val qi):Prop:=Bd qi x
noncomputable def qss (N:Nat) (v0:Val qi) (v1:Val qi):Option (qc [i4]):=bif (!(ByteArray.toList (v0.1:ByteArray)==ByteArray.toList (v1.1:ByteArray)))then (some (false,()))else (chk (qpN v0.2 v1.2) (bif (!((qp6 v0.2 v1.2):Bool))then (some (false,()))else (some (true,()))))
def qG0:Gam:=[(20,g20)]
theorem qTH:Gam.get qG0 20=some g20:=rfl
def qoM:Nat→Tree:=fun _=> .done
def qyZ:Nat→Nm:=fun _=>⟨[],[],false⟩
def qEL:Nat→Option Jn:=fun _=>none
def qGE:Nat→Option Nm:=fun _=>none
def quJ:Nat→Option Nm:=fun _=>none
theorem qQF:qm qoM (Try.f149.body.getD .skip)=true:=by kernel_rfl
def qe8 (N:Nat):Tab:={tr:=qoM,lp:=qyZ,ex:=qGE,rg:=quJ,jn:=qEL,fuel:=N}
theorem qQE (N:Nat):(qe8 N).pins=false:=rfl
theorem qR9 (N:Nat):qn Try.prog (qe8 N):=qt fun _=>rfl
theorem qWo (N:Nat) (i:Nat):(qe8 N).tr i=qoM i:=rfl
theorem qVr (N:Nat) (i:Nat):(qe8 N).lp i=qyZ i:=rfl
theorem qRk (N:Nat) (i:Nat):(qe8 N).ex i=qGE i:=rfl
theorem qMX (N:Nat) (i:Nat):(qe8 N).rg i=quJ i:=rfl
theorem qWv (N:Nat) (i:Nat):(qe8 N).jn i=qEL i:=rfl
theorem qLH (N:Nat):(qe8 N).fuel=N:=rfl
theorem qP8 (N:Nat) (v0:Val qi) (v1:Val qi):qf tt qG0 (qe8 N) (Try.f149.body.getD .skip) (qo tt true [i4] [.tmp 4]) (qv [qeM,qeM] 16 (v0,v1,()))=qss N v0 v1:=by
 rw [qss];unfold Try.f149
 simp (maxSteps:=10000000) -implicitDefEqProofs [qWo,qoM,qVr,qyZ,qRk,qGE,qMX,quJ,qWv,qEL,qLH,qQE,qTH,g20]
 try rfl
def qiR:G:={ps:=[qeM,qeM],rs:=[i4],dp:=true,pre:=fun x=>qrd x.1 x.2.1,fn:=fun x=>(qEf x.1 x.2.1,())}
theorem qP9 (x y:Val qi) (h:qrd x y): ∃N,qss N x y=some (qEf x y,()):=⟨0,by
 obtain ⟨s0,s1⟩:=h
 rw [qss,qd (show qpN _ _ from s1)]
 obtain ⟨x0,x1⟩:=x
 obtain ⟨y0,y1⟩:=y
 change _=some ((eqV .str x0 y0&&eqV Y26 x1 y1),())
 simp only [qL]
 show _=_
 generalize he0:eqV .str x0 y0=e0
 have hd0:(ByteArray.toList x0==ByteArray.toList y0)=e0:=he0
 generalize he1:eqV Y26 x1 y1=e1
 have hd1:qp6 x1 y1=e1:=he1
 simp only [hd0,hd1]
 cases e0<;>cases e1<;>rfl⟩
theorem qSw:Sound Try.prog 149 qiR:=qz (tt:=tt) (Γ:=qG0) hT (ql s20 qp) hm (fn:=Try.f149) Try.func149 (c:=Try.f149.body.getD .skip) (by kernel_rfl) (by kernel_rfl) fun x hx=>by
 obtain ⟨N,h⟩:=qP9 x.1 x.2.1 hx
 exact ⟨qe8 N,qQF,qx _,qR9 N,(qP8 N x.1 x.2.1).trans h⟩
def qns (x y:List (Val qi)):Bool:=eqV (.slice 158 qi) x y
def qo4 (x _:List (Val qi)):Prop:=Bd (.slice 158 qi) x
noncomputable def qgW (N:Nat) (v2:List (Val qi)) (v3:List (Val qi)) (k0:Unit→Option (qc [i4])):Nat→Int→Option (qc [i4])
 | 0,_=>none
 | n+1,v4=>bif (decide (v4<(v2.length:Int)))then (chk (0≤v4∧v4<(v2.length:Int)) (chk (0≤v4∧v4<(v3.length:Int)) (chk (qrd (v2.getD v4.toNat (qb qi)) (v3.getD v4.toNat (qb qi))) (bif (!((qEf (v2.getD v4.toNat (qb qi)) (v3.getD v4.toNat (qb qi))):Bool))then (some (false,()))else (qgW N v2 v3 k0 n (IntKind.i64.wrap (v4+(1:Int))))))))else (k0 ())
noncomputable def qrg (N:Nat) (v0:List (Val qi)) (v1:List (Val qi)):Option (qc [i4]):=bif (!(decide ((v0.length:Int)=(v1.length:Int))))then (some (false,()))else (qgW N v0 v1 (fun (_:Unit)=>some (true,())) N (0:Int))
def qil:Gam:=[(149,qiR)]
theorem qt3:Gam.get qil 149=some qiR:=rfl
def qlx:Nm:=⟨[true,true,false,false,false,true],[],false⟩
theorem qFR:qlx.zero=false:=rfl
theorem qGq:qlx.fix=[]:=rfl
theorem qEK:qlx.keep=[true,true,false,false,false,true]:=rfl
def qqg:Nm:=⟨[],[],false⟩
theorem qB7:qqg.zero=false:=rfl
theorem qtu:qqg.fix=[]:=rfl
theorem qGR:qqg.keep=[]:=rfl
def qjd:Nat→Tree:=fun i=>if i=6 then .quiet 0 (.quiet 1 (.quiet 2 (.quiet 3 (.quiet 4 (.quiet 5 (.quiet 6 (.quiet 7 (.alt 8 (.quiet 9 .done) .stop))))))))else .done
def qkI:Nat→Nm:=fun i=>if i=4 then qlx else ⟨[],[],false⟩
def qnq:Nat→Option Jn:=fun _=>none
def qoi:Nat→Option Nm:=fun i=>if i=0 then some qqg else none
def qmh:Nat→Option Nm:=fun _=>none
theorem qWY:qm qjd (Try.f123.body.getD .skip)=true:=by kernel_rfl
def qdW (N:Nat):Tab:={tr:=qjd,lp:=qkI,ex:=qoi,rg:=qmh,jn:=qnq,fuel:=N}
theorem qt4 (N:Nat):(qdW N).pins=false:=rfl
theorem qTC (N:Nat):qn Try.prog (qdW N):=qt fun _=>rfl
theorem qFr (N:Nat) (i:Nat):(qdW N).tr i=qjd i:=rfl
theorem qum (N:Nat) (i:Nat):(qdW N).lp i=qkI i:=rfl
theorem qA6 (N:Nat) (i:Nat):(qdW N).ex i=qoi i:=rfl
theorem qBi (N:Nat) (i:Nat):(qdW N).rg i=qmh i:=rfl
theorem qAk (N:Nat) (i:Nat):(qdW N).jn i=qnq i:=rfl
theorem qwL (N:Nat):(qdW N).fuel=N:=rfl
noncomputable def qHl:Code:=cut [true,true,false,true,true,true] (Try.f123.body.getD .skip)
theorem qQQ {N:Nat} {Q:X→St→Option (qc [i4])} {e:List LV} {h:List Blk}:qf tt qil (qdW N) qHl Q ⟨e,h⟩=qf tt qil (qdW N) (cut [true,true,false,true,true,true] (Try.f123.body.getD .skip)) Q ⟨e,h⟩:=rfl
theorem qWt (N:Nat) (v2:List (Val qi)) (v3:List (Val qi)) {k0:Unit→Option (qc [i4])} {Q:X→St→Option (qc [i4])} {c:Code} (hc:c=qHl) (hret: ∀st,Q .ret st=qN tt true [i4] [.tmp 4] st) (h0:Q (.exit 0) ⟨[u,u,u,u,u,u,u,u,u,u,u,u,u,u,u,u,u,u,u,u,u,u,u,u,u,u,u],[]⟩=k0 ()): ∀(n:Nat) (v4:Int),qI (qf tt qil (qdW N) c) false qlx Q n ⟨[.one (.sl 158 qi v2 0),.one (.sl 158 qi v3 0),u,u,u,.one (.int .i64 v4),u,u,u,u,u,u,u,u,u,u,u,u,u,u,u,u,u,u,u,u,u],[]⟩=qgW N v2 v3 k0 n v4:=by
 subst hc;intro n;induction n with
 | zero=>intros;rfl
 | succ n ih=>
   intro v4
   rw [qS,qQQ,qgW];unfold Try.f123
   simp (maxSteps:=10000000) -implicitDefEqProofs [qFr,qjd,qum,qkI,qA6,qoi,qBi,qmh,qAk,qnq,qwL,qt4,qGq,qEK,qFR,qtu,qGR,qB7,qt3,qiR,hret,h0,ih]
theorem qQk (N:Nat) (v0:List (Val qi)) (v1:List (Val qi)):qf tt qil (qdW N) (Try.f123.body.getD .skip) (qo tt true [i4] [.tmp 4]) (qv [qcr,qcr] 27 (v0,v1,()))=qrg N v0 v1:=by
 unfold Try.f123
 simp (maxSteps:=10000000) -implicitDefEqProofs [qFr,qjd,qum,qkI,qA6,qoi,qBi,qmh,qAk,qnq,qwL,qt4,qGq,qEK,qFR,qtu,qGR,qB7,qt3,qiR]
 rewrite [qWt (k0:=(fun (_:Unit)=>some (true,()))) N _ _ ?_ ?_ ?_]
 ·rewrite [qrg];first | rfl | simp (maxSteps:=10000000) -implicitDefEqProofs []
 ·rfl
 ·intro;simp only [qQ,qR,qT,qr]
 ·simp (maxSteps:=10000000) -implicitDefEqProofs [qFr,qjd,qum,qkI,qA6,qoi,qBi,qmh,qAk,qnq,qwL,qt4,qGq,qEK,qFR,qtu,qGR,qB7,qt3,qiR]
def qq3:G:={ps:=[qcr,qcr],rs:=[i4],dp:=true,pre:=fun x=>qo4 x.1 x.2.1,fn:=fun x=>(qns x.1 x.2.1,())}
theorem qRq (x y:List (Val qi)) (h:qo4 x y): ∃N,qrg N x y=some (qns x y,()):=⟨List.length x+1,by
 rw [qrg,qL]
 rw [qns,eqS]
 by_cases c:List.length x=List.length y
 ·rw [qj (by omega)]
  refine (qm6 (f:=eqV qi) (xs:=x) (ys:=y) (F:=fun n i=>qgW _ x y _ n i) (k:=fun _=>some (true,())) (r:=some (false,())) h.1 c (fun n i hi hi2=> ?_) (fun n i hi=> ?_) _ (Nat.lt_succ_self _)).trans qii
  ·rw [qgW,qj (by omega),qd (by omega),qd (by omega),qd (show qrd _ _ from by rw [qE hi];exact h.2 _ (List.getElem_mem hi)),qE hi,qE hi2,qL]
   rfl
  ·rw [qgW,qh (by omega)]
 ·rw [qh (by omega),qib _ _ c]⟩
theorem qXo:Sound Try.prog 123 qq3:=qz (tt:=tt) (Γ:=qil) hT (ql qSw qp) hm (fn:=Try.f123) Try.func123 (c:=Try.f123.body.getD .skip) (by kernel_rfl) (by kernel_rfl) fun x hx=>by
 obtain ⟨N,h⟩:=qRq x.1 x.2.1 hx
 exact ⟨qdW N,qWY,qx _,qTC N,(qQk N x.1 x.2.1).trans h⟩
def qvn (x y:Val qe):Bool:=eqV qe x y
def qqn (x _:Val qe):Prop:=Bd qe x
noncomputable def m84 (N:Nat) (v0:Val qe) (v1:Val qe):Option (qc [i4]):=bif (!(ByteArray.toList (v0.1:ByteArray)==ByteArray.toList (v1.1:ByteArray)))then (some (false,()))else (bif (!(decide ((v0.2.1:Int)=(v1.2.1:Int))))then (some (false,()))else (chk (qo4 (v0.2.2:List (Val qi)) (v1.2.2:List (Val qi))) (bif (!((qns (v0.2.2:List (Val qi)) (v1.2.2:List (Val qi))):Bool))then (some (false,()))else (some (true,())))))
def Γ84:Gam:=[(123,qq3)]
theorem qK2:Gam.get Γ84 123=some qq3:=rfl
def qpb:Nat→Tree:=fun _=> .done
def qEh:Nat→Nm:=fun _=>⟨[],[],false⟩
def qFP:Nat→Option Jn:=fun _=>none
def qA8:Nat→Option Nm:=fun _=>none
def qAG:Nat→Option Nm:=fun _=>none
theorem p84:qm qpb (Try.f84.body.getD .skip)=true:=by kernel_rfl
def T84 (N:Nat):Tab:={tr:=qpb,lp:=qEh,ex:=qA8,rg:=qAG,jn:=qFP,fuel:=N}
theorem qM7 (N:Nat):(T84 N).pins=false:=rfl
theorem qQM (N:Nat):qn Try.prog (T84 N):=qt fun _=>rfl
theorem qPe (N:Nat) (i:Nat):(T84 N).tr i=qpb i:=rfl
theorem qNi (N:Nat) (i:Nat):(T84 N).lp i=qEh i:=rfl
theorem qYg (N:Nat) (i:Nat):(T84 N).ex i=qA8 i:=rfl
theorem qYW (N:Nat) (i:Nat):(T84 N).rg i=qAG i:=rfl
theorem qQ1 (N:Nat) (i:Nat):(T84 N).jn i=qFP i:=rfl
theorem qWc (N:Nat):(T84 N).fuel=N:=rfl
theorem qMP (N:Nat) (v0:Val qe) (v1:Val qe):qf tt Γ84 (T84 N) (Try.f84.body.getD .skip) (qo tt true [i4] [.tmp 4]) (qv [qcC,qcC] 21 (v0,v1,()))=m84 N v0 v1:=by
 rw [m84];unfold Try.f84
 simp (maxSteps:=10000000) -implicitDefEqProofs [qPe,qpb,qNi,qEh,qYg,qA8,qYW,qAG,qQ1,qFP,qWc,qM7,qK2,qq3]
 try rfl
def g84:G:={ps:=[qcC,qcC],rs:=[i4],dp:=true,pre:=fun x=>qqn x.1 x.2.1,fn:=fun x=>(qvn x.1 x.2.1,())}
theorem e84 (x y:Val qe) (h:qqn x y): ∃N,m84 N x y=some (qvn x y,()):=⟨0,by
 obtain ⟨s0,s1,s2⟩:=h
 rw [m84,qd (show qo4 _ _ from s2)]
 obtain ⟨x0,x1,x2⟩:=x
 obtain ⟨y0,y1,y2⟩:=y
 change _=some ((eqV .str x0 y0&&(eqV (.int .i64) x1 y1&&eqV (.slice 158 qi) x2 y2)),())
 simp only [qL]
 show _=_
 generalize he0:eqV .str x0 y0=e0
 have hd0:(ByteArray.toList x0==ByteArray.toList y0)=e0:=he0
 generalize he1:eqV (.int .i64) x1 y1=e1
 have hd1:decide ((x1:Int)=y1)=e1:=he1
 generalize he2:eqV (.slice 158 qi) x2 y2=e2
 have hd2:qns x2 y2=e2:=he2
 simp only [hd0,hd1,hd2]
 cases e0<;>cases e1<;>cases e2<;>rfl⟩
theorem s84:Sound Try.prog 84 g84:=qz (tt:=tt) (Γ:=Γ84) hT (ql qXo qp) hm (fn:=Try.f84) Try.func84 (c:=Try.f84.body.getD .skip) (by kernel_rfl) (by kernel_rfl) fun x hx=>by
 obtain ⟨N,h⟩:=e84 x.1 x.2.1 hx
 exact ⟨T84 N,p84,qx _,qQM N,(qMP N x.1 x.2.1).trans h⟩
def qkv (x y:List (Val qe)):Bool:=eqV (.slice 123 qe) x y
def qrt (x _:List (Val qe)):Prop:=Bd (.slice 123 qe) x
noncomputable def qhf (N:Nat) (v2:List (Val qe)) (v3:List (Val qe)) (k0:Unit→Option (qc [i4])):Nat→Int→Option (qc [i4])
 | 0,_=>none
 | n+1,v4=>bif (decide (v4<(v2.length:Int)))then (chk (0≤v4∧v4<(v2.length:Int)) (chk (0≤v4∧v4<(v3.length:Int)) (chk (qqn (v2.getD v4.toNat (qb qe)) (v3.getD v4.toNat (qb qe))) (bif (!((qvn (v2.getD v4.toNat (qb qe)) (v3.getD v4.toNat (qb qe))):Bool))then (some (false,()))else (qhf N v2 v3 k0 n (IntKind.i64.wrap (v4+(1:Int))))))))else (k0 ())
noncomputable def m29 (N:Nat) (v0:List (Val qe)) (v1:List (Val qe)):Option (qc [i4]):=bif (!(decide ((v0.length:Int)=(v1.length:Int))))then (some (false,()))else (qhf N v0 v1 (fun (_:Unit)=>some (true,())) N (0:Int))
def Γ29:Gam:=[(84,g84)]
theorem qCe:Gam.get Γ29 84=some g84:=rfl
def qmp:Nm:=⟨[true,true,false,false,false,true],[],false⟩
theorem qAn:qmp.zero=false:=rfl
theorem qC5:qmp.fix=[]:=rfl
theorem qEQ:qmp.keep=[true,true,false,false,false,true]:=rfl
def qsh:Nm:=⟨[],[],false⟩
theorem qya:qsh.zero=false:=rfl
theorem qvu:qsh.fix=[]:=rfl
theorem qw3:qsh.keep=[]:=rfl
def qiz:Nat→Tree:=fun i=>if i=6 then .quiet 0 (.quiet 1 (.quiet 2 (.quiet 3 (.quiet 4 (.quiet 5 (.quiet 6 (.quiet 7 (.alt 8 (.quiet 9 .done) .stop))))))))else .done
def qoo:Nat→Nm:=fun i=>if i=4 then qmp else ⟨[],[],false⟩
def qj4:Nat→Option Jn:=fun _=>none
def qku:Nat→Option Nm:=fun i=>if i=0 then some qsh else none
def qmK:Nat→Option Nm:=fun _=>none
theorem p29:qm qiz (Try.f29.body.getD .skip)=true:=by kernel_rfl
def T29 (N:Nat):Tab:={tr:=qiz,lp:=qoo,ex:=qku,rg:=qmK,jn:=qj4,fuel:=N}
theorem qwe (N:Nat):(T29 N).pins=false:=rfl
theorem qWg (N:Nat):qn Try.prog (T29 N):=qt fun _=>rfl
theorem qxs (N:Nat) (i:Nat):(T29 N).tr i=qiz i:=rfl
theorem qt2 (N:Nat) (i:Nat):(T29 N).lp i=qoo i:=rfl
theorem quN (N:Nat) (i:Nat):(T29 N).ex i=qku i:=rfl
theorem qvq (N:Nat) (i:Nat):(T29 N).rg i=qmK i:=rfl
theorem qFi (N:Nat) (i:Nat):(T29 N).jn i=qj4 i:=rfl
theorem qyM (N:Nat):(T29 N).fuel=N:=rfl
noncomputable def qJg:Code:=cut [true,true,false,true,true,true] (Try.f29.body.getD .skip)
theorem qNS {N:Nat} {Q:X→St→Option (qc [i4])} {e:List LV} {h:List Blk}:qf tt Γ29 (T29 N) qJg Q ⟨e,h⟩=qf tt Γ29 (T29 N) (cut [true,true,false,true,true,true] (Try.f29.body.getD .skip)) Q ⟨e,h⟩:=rfl
theorem qYa (N:Nat) (v2:List (Val qe)) (v3:List (Val qe)) {k0:Unit→Option (qc [i4])} {Q:X→St→Option (qc [i4])} {c:Code} (hc:c=qJg) (hret: ∀st,Q .ret st=qN tt true [i4] [.tmp 4] st) (h0:Q (.exit 0) ⟨[u,u,u,u,u,u,u,u,u,u,u,u,u,u,u,u,u,u,u,u,u,u,u,u,u,u,u],[]⟩=k0 ()): ∀(n:Nat) (v4:Int),qI (qf tt Γ29 (T29 N) c) false qmp Q n ⟨[.one (.sl 123 qe v2 0),.one (.sl 123 qe v3 0),u,u,u,.one (.int .i64 v4),u,u,u,u,u,u,u,u,u,u,u,u,u,u,u,u,u,u,u,u,u],[]⟩=qhf N v2 v3 k0 n v4:=by
 subst hc;intro n;induction n with
 | zero=>intros;rfl
 | succ n ih=>
   intro v4
   rw [qS,qNS,qhf];unfold Try.f29
   simp (maxSteps:=10000000) -implicitDefEqProofs [qxs,qiz,qt2,qoo,quN,qku,qvq,qmK,qFi,qj4,qyM,qwe,qC5,qEQ,qAn,qvu,qw3,qya,qCe,g84,hret,h0,ih]
theorem qSR (N:Nat) (v0:List (Val qe)) (v1:List (Val qe)):qf tt Γ29 (T29 N) (Try.f29.body.getD .skip) (qo tt true [i4] [.tmp 4]) (qv [i63,i63] 27 (v0,v1,()))=m29 N v0 v1:=by
 unfold Try.f29
 simp (maxSteps:=10000000) -implicitDefEqProofs [qxs,qiz,qt2,qoo,quN,qku,qvq,qmK,qFi,qj4,qyM,qwe,qC5,qEQ,qAn,qvu,qw3,qya,qCe,g84]
 rewrite [qYa (k0:=(fun (_:Unit)=>some (true,()))) N _ _ ?_ ?_ ?_]
 ·rewrite [m29];first | rfl | simp (maxSteps:=10000000) -implicitDefEqProofs []
 ·rfl
 ·intro;simp only [qQ,qR,qT,qr]
 ·simp (maxSteps:=10000000) -implicitDefEqProofs [qxs,qiz,qt2,qoo,quN,qku,qvq,qmK,qFi,qj4,qyM,qwe,qC5,qEQ,qAn,qvu,qw3,qya,qCe,g84]
def g29:G:={ps:=[i63,i63],rs:=[i4],dp:=true,pre:=fun x=>qrt x.1 x.2.1,fn:=fun x=>(qkv x.1 x.2.1,())}
theorem e29 (x y:List (Val qe)) (h:qrt x y): ∃N,m29 N x y=some (qkv x y,()):=⟨List.length x+1,by
 rw [m29,qL]
 rw [qkv,eqS]
 by_cases c:List.length x=List.length y
 ·rw [qj (by omega)]
  refine (qm6 (f:=eqV qe) (xs:=x) (ys:=y) (F:=fun n i=>qhf _ x y _ n i) (k:=fun _=>some (true,())) (r:=some (false,())) h.1 c (fun n i hi hi2=> ?_) (fun n i hi=> ?_) _ (Nat.lt_succ_self _)).trans qii
  ·rw [qhf,qj (by omega),qd (by omega),qd (by omega),qd (show qqn _ _ from by rw [qE hi];exact h.2 _ (List.getElem_mem hi)),qE hi,qE hi2,qL]
   rfl
  ·rw [qhf,qh (by omega)]
 ·rw [qh (by omega),qib _ _ c]⟩
theorem s29:Sound Try.prog 29 g29:=qz (tt:=tt) (Γ:=Γ29) hT (ql s84 qp) hm (fn:=Try.f29) Try.func29 (c:=Try.f29.body.getD .skip) (by kernel_rfl) (by kernel_rfl) fun x hx=>by
 obtain ⟨N,h⟩:=e29 x.1 x.2.1 hx
 exact ⟨T29 N,p29,qx _,qWg N,(qSR N x.1 x.2.1).trans h⟩
end Go.T
