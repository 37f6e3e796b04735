/- Sizes, copies and equality of relations. -/
import Derived.Test.YtlhkmndfkjlodaaA1
set_option linter.unusedSimpArgs false
set_option linter.unusedVariables false
namespace Go.T
open Go Go.Proofs
set_option maxHeartbeats 4000000
set_option maxRecDepth 100000
def qcG (x:List (Val (.int .i64))) (n:Int):Int:=szV (.slice 3 (.int .i64)) x n
def qjz (x:List (Val (.int .i64))) (n:Int):Prop:=qfc (.slice 3 (.int .i64)) x n
noncomputable def m54 (N:Nat) (v0:List (Val (.int .i64))) (v1:Int):Option (qc [i3]):=bif (decide ((IntKind.i64.wrap (v1 - (v0.length:Int)))<(0:Int)))then (some ((-1:Int),()))else (some ((IntKind.i64.wrap (v1 - (v0.length:Int))),()))
def Γ54:Gam:=[]
def qrA:Nat→Tree:=fun _=> .done
def qAf:Nat→Nm:=fun _=>⟨[],[],false⟩
def qtf:Nat→Option Jn:=fun _=>none
def qv2:Nat→Option Nm:=fun _=>none
def qwX:Nat→Option Nm:=fun _=>none
theorem p54:qn qrA (Try.f54.body.getD .skip)=true:=by kernel_rfl
def T54 (N:Nat):Tab:={tr:=qrA,lp:=qAf,ex:=qv2,rg:=qwX,jn:=qtf,fuel:=N}
theorem qUy (N:Nat):(T54 N).pins=false:=rfl
theorem qRk (N:Nat):qp Try.prog (T54 N):=qw fun _=>rfl
theorem qSA (N:Nat) (i:Nat):(T54 N).tr i=qrA i:=rfl
theorem qM1 (N:Nat) (i:Nat):(T54 N).lp i=qAf i:=rfl
theorem qT3 (N:Nat) (i:Nat):(T54 N).ex i=qv2 i:=rfl
theorem qSZ (N:Nat) (i:Nat):(T54 N).rg i=qwX i:=rfl
theorem qNa (N:Nat) (i:Nat):(T54 N).jn i=qtf i:=rfl
theorem qS0 (N:Nat):(T54 N).fuel=N:=rfl
theorem qVL (N:Nat) (v0:List (Val (.int .i64))) (v1:Int):qe tt Γ54 (T54 N) (Try.f54.body.getD .skip) (qr tt true [i3] [.tmp 4]) (qv [i27,i3] 12 (v0,v1,()))=m54 N v0 v1:=by
 rw [m54];unfold Try.f54
 simp (maxSteps:=10000000) -implicitDefEqProofs [qSA,qrA,qM1,qAf,qT3,qv2,qSZ,qwX,qNa,qtf,qS0,qUy]
 try rfl
def g54:G:={ps:=[i27,i3],rs:=[i3],dp:=true,pre:=fun x=>qjz x.1 x.2.1,fn:=fun x=>(qcG x.1 x.2.1,())}
theorem e54 (x:List (Val (.int .i64))) (n:Int) (h:qjz x n): ∃N,m54 N x n=some (qcG x n,()):=⟨0,by
 obtain ⟨hs,h0,h1⟩:=h
 rw [m54,qf7 h0 h1 hs.1]
 simp only [qcG,qkK]
 by_cases c:n - (List.length x:Int)<0
 ·rw [qj c,if_pos c]
 ·rw [qh c,if_neg c,qRq (fun _ _=>rfl) _ _ (by omega)]⟩
theorem s54:Sound Try.prog 54 g54:=qz (tt:=tt) (Γ:=Γ54) hT qt hm (fn:=Try.f54) Try.func54 (c:=Try.f54.body.getD .skip) (by kernel_rfl) (by kernel_rfl) fun x hx=>by
 obtain ⟨N,h⟩:=e54 x.1 x.2.1 hx
 exact ⟨T54 N,p54,qy _,qRk N,(qVL N x.1 x.2.1).trans h⟩
def qab (x:Val qH) (n:Int):Int:=szV qH x n
def qjv (x:Val qH) (n:Int):Prop:=qfc qH x n
noncomputable def qq5 (N:Nat) (v0:Val qH) (v1:Int):Option (qc [i3]):=chk (qjz (v0.1:List (Val (.int .i64))) v1) (bif (decide (((qcG (v0.1:List (Val (.int .i64))) v1):Int)<(0:Int)))then (some ((-1:Int),()))else (some (((qcG (v0.1:List (Val (.int .i64))) v1):Int),())))
def qCk:Gam:=[(54,g54)]
theorem qMP:Gam.get qCk 54=some g54:=rfl
def qpG:Nat→Tree:=fun _=> .done
def qz3:Nat→Nm:=fun _=>⟨[],[],false⟩
def qyC:Nat→Option Jn:=fun _=>none
def qvI:Nat→Option Nm:=fun _=>none
def qvS:Nat→Option Nm:=fun _=>none
theorem qVF:qn qpG (Try.f101.body.getD .skip)=true:=by kernel_rfl
def qfF (N:Nat):Tab:={tr:=qpG,lp:=qz3,ex:=qvI,rg:=qvS,jn:=qyC,fuel:=N}
theorem qOA (N:Nat):(qfF N).pins=false:=rfl
theorem qR7 (N:Nat):qp Try.prog (qfF N):=qw fun _=>rfl
theorem qMH (N:Nat) (i:Nat):(qfF N).tr i=qpG i:=rfl
theorem qLr (N:Nat) (i:Nat):(qfF N).lp i=qz3 i:=rfl
theorem qKg (N:Nat) (i:Nat):(qfF N).ex i=qvI i:=rfl
theorem qKq (N:Nat) (i:Nat):(qfF N).rg i=qvS i:=rfl
theorem qMf (N:Nat) (i:Nat):(qfF N).jn i=qyC i:=rfl
theorem qVe (N:Nat):(qfF N).fuel=N:=rfl
theorem qNq (N:Nat) (v0:Val qH) (v1:Int):qe tt qCk (qfF N) (Try.f101.body.getD .skip) (qr tt true [i3] [.tmp 4]) (qv [qgT,i3] 12 (v0,v1,()))=qq5 N v0 v1:=by
 rw [qq5];unfold Try.f101
 simp (maxSteps:=10000000) -implicitDefEqProofs [qMH,qpG,qLr,qz3,qKg,qvI,qKq,qvS,qMf,qyC,qVe,qOA,qMP,g54]
 try rfl
def qgq:G:={ps:=[qgT,i3],rs:=[i3],dp:=true,pre:=fun x=>qjv x.1 x.2.1,fn:=fun x=>(qab x.1 x.2.1,())}
theorem qO2 (x:Val qH) (n:Int) (h:qjv x n): ∃N,qq5 N x n=some (qab x n,()):=⟨0,by
 obtain ⟨x0,x1,x2⟩:=x
 obtain ⟨hs,h0,h1⟩:=h
 obtain ⟨s0,s1,s2⟩:=hs
 rw [qq5,qab]
 dsimp only
 rw [qd (show qjz x0 n from ⟨s0,h0,h1⟩)]
 by_cases c0:qcG x0 n<0
 ·rw [qj c0,qu8 (show szV (.slice 3 (.int .i64)) x0 n<0 from c0)]
 ·have h00:0≤qcG x0 n:=by omega
  have h10:qcG x0 n≤1048576:=Int.le_trans (qcp (.slice 3 (.int .i64)) x0 n h0).1 h1
  rw [qh c0,qsf (show 0≤szV (.slice 3 (.int .i64)) x0 n from h00)]
  change _=some (szV (.pair (.int .i64) .bool) _ (qcG x0 n),())
  rw [qju h00]
  rfl⟩
theorem qFM:Sound Try.prog 101 qgq:=qz (tt:=tt) (Γ:=qCk) hT (ql s54 qt) hm (fn:=Try.f101) Try.func101 (c:=Try.f101.body.getD .skip) (by kernel_rfl) (by kernel_rfl) fun x hx=>by
 obtain ⟨N,h⟩:=qO2 x.1 x.2.1 hx
 exact ⟨qfF N,qVF,qy _,qR7 N,(qNq N x.1 x.2.1).trans h⟩
def qjn (x:List (Val qH)) (n:Int):Int:=szV (.slice 113 qH) x n
def qpn (x:List (Val qH)) (n:Int):Prop:=qfc (.slice 113 qH) x n
noncomputable def qhK (N:Nat) (v2:List (Val qH)) (k0:Int→Option (qc [i3])):Nat→Int→Int→Option (qc [i3])
 | 0,_,_=>none
 | n+1,v3,v4=>bif (decide (v4<(v2.length:Int)))then (chk (0≤v4∧v4<(v2.length:Int)) (chk (qjv (v2.getD v4.toNat (qa qH)) v3) (bif (decide (((qab (v2.getD v4.toNat (qa qH)) v3):Int)<(0:Int)))then (some ((-1:Int),()))else (qhK N v2 k0 n ((qab (v2.getD v4.toNat (qa qH)) v3):Int) (IntKind.i64.wrap (v4+(1:Int)))))))else (k0 v3)
noncomputable def m52 (N:Nat) (v0:List (Val qH)) (v1:Int):Option (qc [i3]):=bif (decide ((IntKind.i64.wrap (v1 - (v0.length:Int)))<(0:Int)))then (some ((-1:Int),()))else (qhK N v0 (fun (v6:Int)=>some (v6,())) N (IntKind.i64.wrap (v1 - (v0.length:Int))) (0:Int))
def Γ52:Gam:=[(101,qgq)]
theorem qtx:Gam.get Γ52 101=some qgq:=rfl
def qo4:Nm:=⟨[true,true,false,false,false,true],[],false⟩
theorem qFe:qo4.zero=false:=rfl
theorem qEZ:qo4.fix=[]:=rfl
theorem qFh:qo4.keep=[true,true,false,false,false,true]:=rfl
def qsc:Nm:=⟨[false,true],[],false⟩
theorem qBE:qsc.zero=false:=rfl
theorem qv3:qsc.fix=[]:=rfl
theorem qD9:qsc.keep=[false,true]:=rfl
def qkp:Nat→Tree:=fun _=> .done
def qnH:Nat→Nm:=fun i=>if i=5 then qo4 else ⟨[],[],false⟩
def qkA:Nat→Option Jn:=fun _=>none
def qkR:Nat→Option Nm:=fun i=>if i=0 then some qsc else none
def qnm:Nat→Option Nm:=fun _=>none
theorem p52:qn qkp (Try.f52.body.getD .skip)=true:=by kernel_rfl
def T52 (N:Nat):Tab:={tr:=qkp,lp:=qnH,ex:=qkR,rg:=qnm,jn:=qkA,fuel:=N}
theorem qyU (N:Nat):(T52 N).pins=false:=rfl
theorem qJ7 (N:Nat):qp Try.prog (T52 N):=qw fun _=>rfl
theorem quL (N:Nat) (i:Nat):(T52 N).tr i=qkp i:=rfl
theorem qvk (N:Nat) (i:Nat):(T52 N).lp i=qnH i:=rfl
theorem qCt (N:Nat) (i:Nat):(T52 N).ex i=qkR i:=rfl
theorem qvO (N:Nat) (i:Nat):(T52 N).rg i=qnm i:=rfl
theorem qB1 (N:Nat) (i:Nat):(T52 N).jn i=qkA i:=rfl
theorem qDR (N:Nat):(T52 N).fuel=N:=rfl
noncomputable def qHf:Code:=cut [true,true,true,false,true,true,true] (Try.f52.body.getD .skip)
theorem qLO {N:Nat} {Q:X→St→Option (qc [i3])} {e:List LV} {h:List Blk}:qe tt Γ52 (T52 N) qHf Q ⟨e,h⟩=qe tt Γ52 (T52 N) (cut [true,true,true,false,true,true,true] (Try.f52.body.getD .skip)) Q ⟨e,h⟩:=rfl
theorem qSI (N:Nat) (v2:List (Val qH)) {k0:Int→Option (qc [i3])} {Q:X→St→Option (qc [i3])} {c:Code} (hc:c=qHf) (hret: ∀st,Q .ret st=qI tt true [i3] [.tmp 4] st) (h0: ∀(v5:Int),Q (.exit 0) ⟨[u,.one (.int .i64 v5),u,u,u,u,u,u,u,u,u,u,u,u,u,u,u,u,u,u,u,u,u,u,u,u,u],[]⟩=k0 v5): ∀(n:Nat) (v3:Int) (v4:Int),qC (qe tt Γ52 (T52 N) c) false qo4 Q n ⟨[.one (.sl 113 qH v2 0),.one (.int .i64 v3),u,u,u,.one (.int .i64 v4),u,u,u,u,u,u,u,u,u,u,u,u,u,u,u,u,u,u,u,u,u],[]⟩=qhK N v2 k0 n v3 v4:=by
 subst hc;intro n;induction n with
 | zero=>intros;rfl
 | succ n ih=>
   intro v3 v4
   rw [qM,qLO,qhK];unfold Try.f52
   simp (maxSteps:=10000000) -implicitDefEqProofs [quL,qkp,qvk,qnH,qCt,qkR,qvO,qnm,qB1,qkA,qDR,qyU,qEZ,qFh,qFe,qv3,qD9,qBE,qtx,qgq,hret,h0,ih]
theorem qPE (N:Nat) (v0:List (Val qH)) (v1:Int):qe tt Γ52 (T52 N) (Try.f52.body.getD .skip) (qr tt true [i3] [.tmp 4]) (qv [i38,i3] 27 (v0,v1,()))=m52 N v0 v1:=by
 unfold Try.f52
 simp (maxSteps:=10000000) -implicitDefEqProofs [quL,qkp,qvk,qnH,qCt,qkR,qvO,qnm,qB1,qkA,qDR,qyU,qEZ,qFh,qFe,qv3,qD9,qBE,qtx,qgq]
 rewrite [qSI (k0:=(fun (v6:Int)=>some (v6,()))) N _ ?_ ?_ ?_]
 ·rewrite [m52];first | rfl | simp (maxSteps:=10000000) -implicitDefEqProofs []
 ·rfl
 ·intro;simp only [qK,qL,qN,qm]
 ·intro v6;simp (maxSteps:=10000000) -implicitDefEqProofs [quL,qkp,qvk,qnH,qCt,qkR,qvO,qnm,qB1,qkA,qDR,qyU,qEZ,qFh,qFe,qv3,qD9,qBE,qtx,qgq]
def g52:G:={ps:=[i38,i3],rs:=[i3],dp:=true,pre:=fun x=>qpn x.1 x.2.1,fn:=fun x=>(qjn x.1 x.2.1,())}
theorem e52 (x:List (Val qH)) (n:Int) (h:qpn x n): ∃N,m52 N x n=some (qjn x n,()):=⟨List.length x+1,by
 obtain ⟨hs,h0,h1⟩:=h
 rw [m52,qf7 h0 h1 hs.1]
 simp only [qjn,qkK]
 by_cases c:n - (List.length x:Int)<0
 ·rw [qj c,if_pos c]
 ·rw [qh c,if_neg c]
  refine (qam (F:=fun n i s=>qhK _ x _ n s i) (step:=fun _ y (s:Int) K=>chk (qjv y s) (bif decide (qab y s<0)then some ((-1:Int),())else K (qab y s))) (k:=fun s=>some (s,())) (by omega) (fun n i s hi=> ?_) (fun n i s hi=> ?_) _ _ (Nat.lt_succ_self _)).trans (qoj (t:=qH) x 0 _ (by omega) (by omega) hs.2)
  ·rw [qhK,qj (by omega),qd (by omega),qA hi]
  ·rw [qhK,qh (by omega)]⟩
theorem s52:Sound Try.prog 52 g52:=qz (tt:=tt) (Γ:=Γ52) hT (ql qFM qt) hm (fn:=Try.f52) Try.func52 (c:=Try.f52.body.getD .skip) (by kernel_rfl) (by kernel_rfl) fun x hx=>by
 obtain ⟨N,h⟩:=e52 x.1 x.2.1 hx
 exact ⟨T52 N,p52,qy _,qJ7 N,(qPE N x.1 x.2.1).trans h⟩
def qjy (x:Val Y40) (n:Int):Int:=szV Y40 x n
def qrn (x:Val Y40) (n:Int):Prop:=qfc Y40 x n
noncomputable def m13 (N:Nat) (v0:Val Y40) (v1:Int):Option (qc [i3]):=chk (qpn (v0.2:List (Val qH)) v1) (bif (decide (((qjn (v0.2:List (Val qH)) v1):Int)<(0:Int)))then (some ((-1:Int),()))else (some (((qjn (v0.2:List (Val qH)) v1):Int),())))
def Γ13:Gam:=[(52,g52)]
theorem qM4:Gam.get Γ13 52=some g52:=rfl
def qpk:Nat→Tree:=fun _=> .done
def qEX:Nat→Nm:=fun _=>⟨[],[],false⟩
def qC7:Nat→Option Jn:=fun _=>none
def qvD:Nat→Option Nm:=fun _=>none
def quE:Nat→Option Nm:=fun _=>none
theorem p13:qn qpk (Try.f13.body.getD .skip)=true:=by kernel_rfl
def T13 (N:Nat):Tab:={tr:=qpk,lp:=qEX,ex:=qvD,rg:=quE,jn:=qC7,fuel:=N}
theorem qOB (N:Nat):(T13 N).pins=false:=rfl
theorem qMM (N:Nat):qp Try.prog (T13 N):=qw fun _=>rfl
theorem qJ5 (N:Nat) (i:Nat):(T13 N).tr i=qpk i:=rfl
theorem qNm (N:Nat) (i:Nat):(T13 N).lp i=qEX i:=rfl
theorem qTb (N:Nat) (i:Nat):(T13 N).ex i=qvD i:=rfl
theorem qVm (N:Nat) (i:Nat):(T13 N).rg i=quE i:=rfl
theorem qLD (N:Nat) (i:Nat):(T13 N).jn i=qC7 i:=rfl
theorem qKN (N:Nat):(T13 N).fuel=N:=rfl
theorem qLa (N:Nat) (v0:Val Y40) (v1:Int):qe tt Γ13 (T13 N) (Try.f13.body.getD .skip) (qr tt true [i3] [.tmp 4]) (qv [i40,i3] 12 (v0,v1,()))=m13 N v0 v1:=by
 rw [m13];unfold Try.f13
 simp (maxSteps:=10000000) -implicitDefEqProofs [qJ5,qpk,qNm,qEX,qTb,qvD,qVm,quE,qLD,qC7,qKN,qOB,qM4,g52]
 try rfl
def g13:G:={ps:=[i40,i3],rs:=[i3],dp:=true,pre:=fun x=>qrn x.1 x.2.1,fn:=fun x=>(qjy x.1 x.2.1,())}
theorem e13 (x:Val Y40) (n:Int) (h:qrn x n): ∃N,m13 N x n=some (qjy x n,()):=⟨0,by
 obtain ⟨x0,x1⟩:=x
 obtain ⟨hs,h0,h1⟩:=h
 obtain ⟨s0,s1⟩:=hs
 rw [m13,qjy]
 dsimp only
 rw [qju h0]
 rw [qd (show qpn x1 n from ⟨s1,h0,h1⟩)]
 by_cases c1:qjn x1 n<0
 ·rw [qj c1]
  exact congrArg (fun z=>some (z,())) ((qcp (.slice 113 qH) x1 n h0).2 c1).symm
 ·rw [qh c1]
  rfl⟩
theorem s13:Sound Try.prog 13 g13:=qz (tt:=tt) (Γ:=Γ13) hT (ql s52 qt) hm (fn:=Try.f13) Try.func13 (c:=Try.f13.body.getD .skip) (by kernel_rfl) (by kernel_rfl) fun x hx=>by
 obtain ⟨N,h⟩:=e13 x.1 x.2.1 hx
 exact ⟨T13 N,p13,qy _,qMM N,(qLa N x.1 x.2.1).trans h⟩
def qhO (x:Val qO) (n:Int):Int:=szV qO x n
def qsr (x:Val qO) (n:Int):Prop:=qfc qO x n
noncomputable def qrL (N:Nat) (v0:Val qO) (v1:Int):Option (qc [i3]):=bif (decide ((IntKind.i64.wrap (v1 - ((v0.1:ByteArray).size:Int)))<(0:Int)))then (some ((-1:Int),()))else (chk (qrn v0.2 (IntKind.i64.wrap (v1 - ((v0.1:ByteArray).size:Int)))) (bif (decide (((qjy v0.2 (IntKind.i64.wrap (v1 - ((v0.1:ByteArray).size:Int)))):Int)<(0:Int)))then (some ((-1:Int),()))else (some (((qjy v0.2 (IntKind.i64.wrap (v1 - ((v0.1:ByteArray).size:Int)))):Int),()))))
def qwN:Gam:=[(13,g13)]
theorem qUx:Gam.get qwN 13=some g13:=rfl
def qs5:Nat→Tree:=fun _=> .done
def qvc:Nat→Nm:=fun _=>⟨[],[],false⟩
def qC0:Nat→Option Jn:=fun _=>none
def qwV:Nat→Option Nm:=fun _=>none
def qtE:Nat→Option Nm:=fun _=>none
theorem qMU:qn qs5 (Try.f139.body.getD .skip)=true:=by kernel_rfl
def qfm (N:Nat):Tab:={tr:=qs5,lp:=qvc,ex:=qwV,rg:=qtE,jn:=qC0,fuel:=N}
theorem qR0 (N:Nat):(qfm N).pins=false:=rfl
theorem qQP (N:Nat):qp Try.prog (qfm N):=qw fun _=>rfl
theorem qKf (N:Nat) (i:Nat):(qfm N).tr i=qs5 i:=rfl
theorem qPs (N:Nat) (i:Nat):(qfm N).lp i=qvc i:=rfl
theorem qRI (N:Nat) (i:Nat):(qfm N).ex i=qwV i:=rfl
theorem qRK (N:Nat) (i:Nat):(qfm N).rg i=qtE i:=rfl
theorem qUQ (N:Nat) (i:Nat):(qfm N).jn i=qC0 i:=rfl
theorem qMN (N:Nat):(qfm N).fuel=N:=rfl
theorem qN4 (N:Nat) (v0:Val qO) (v1:Int):qe tt qwN (qfm N) (Try.f139.body.getD .skip) (qr tt true [i3] [.tmp 4]) (qv [qg7,i3] 19 (v0,v1,()))=qrL N v0 v1:=by
 rw [qrL];unfold Try.f139
 simp (maxSteps:=10000000) -implicitDefEqProofs [qKf,qs5,qPs,qvc,qRI,qwV,qRK,qtE,qUQ,qC0,qMN,qR0,qUx,g13]
 try rfl
def qkf:G:={ps:=[qg7,i3],rs:=[i3],dp:=true,pre:=fun x=>qsr x.1 x.2.1,fn:=fun x=>(qhO x.1 x.2.1,())}
theorem qSK (x:Val qO) (n:Int) (h:qsr x n): ∃N,qrL N x n=some (qhO x n,()):=⟨0,by
 obtain ⟨x0,x1⟩:=x
 obtain ⟨hs,h0,h1⟩:=h
 obtain ⟨s0,s1⟩:=hs
 rw [qrL,qhO]
 dsimp only
 rw [qf7 h0 h1 s0]
 by_cases c0:n - (ByteArray.size x0:Int)<0
 ·rw [qj c0,qq8 c0]
 ·rw [qh c0,qro (by omega)]
  have h00:0≤(n - (ByteArray.size x0:Int)):=by omega
  have h10:(n - (ByteArray.size x0:Int))≤1048576:=by omega
  rw [qd (show qrn x1 (n - (ByteArray.size x0:Int)) from ⟨s1,h00,h10⟩)]
  by_cases c1:qjy x1 (n - (ByteArray.size x0:Int))<0
  ·rw [qj c1]
   exact congrArg (fun z=>some (z,())) ((qcp Y40 x1 (n - (ByteArray.size x0:Int)) h00).2 c1).symm
  ·rw [qh c1]
   rfl⟩
theorem qRU:Sound Try.prog 139 qkf:=qz (tt:=tt) (Γ:=qwN) hT (ql s13 qt) hm (fn:=Try.f139) Try.func139 (c:=Try.f139.body.getD .skip) (by kernel_rfl) (by kernel_rfl) fun x hx=>by
 obtain ⟨N,h⟩:=qSK x.1 x.2.1 hx
 exact ⟨qfm N,qMU,qy _,qQP N,(qN4 N x.1 x.2.1).trans h⟩
def qi2 (x:List (Val qO)) (n:Int):Int:=szV (.slice 168 qO) x n
def qpl (x:List (Val qO)) (n:Int):Prop:=qfc (.slice 168 qO) x n
noncomputable def qiu (N:Nat) (v2:List (Val qO)) (k0:Int→Option (qc [i3])):Nat→Int→Int→Option (qc [i3])
 | 0,_,_=>none
 | n+1,v3,v4=>bif (decide (v4<(v2.length:Int)))then (chk (0≤v4∧v4<(v2.length:Int)) (chk (qsr (v2.getD v4.toNat (qa qO)) v3) (bif (decide (((qhO (v2.getD v4.toNat (qa qO)) v3):Int)<(0:Int)))then (some ((-1:Int),()))else (qiu N v2 k0 n ((qhO (v2.getD v4.toNat (qa qO)) v3):Int) (IntKind.i64.wrap (v4+(1:Int)))))))else (k0 v3)
noncomputable def qpt (N:Nat) (v0:List (Val qO)) (v1:Int):Option (qc [i3]):=bif (decide ((IntKind.i64.wrap (v1 - (v0.length:Int)))<(0:Int)))then (some ((-1:Int),()))else (qiu N v0 (fun (v6:Int)=>some (v6,())) N (IntKind.i64.wrap (v1 - (v0.length:Int))) (0:Int))
def qjX:Gam:=[(139,qkf)]
theorem qES:Gam.get qjX 139=some qkf:=rfl
def qlL:Nm:=⟨[true,true,false,false,false,true],[],false⟩
theorem qtB:qlL.zero=false:=rfl
theorem qui:qlL.fix=[]:=rfl
theorem qzL:qlL.keep=[true,true,false,false,false,true]:=rfl
def qqe:Nm:=⟨[false,true],[],false⟩
theorem qur:qqe.zero=false:=rfl
theorem qDz:qqe.fix=[]:=rfl
theorem qA2:qqe.keep=[false,true]:=rfl
def qjD:Nat→Tree:=fun _=> .done
def qlv:Nat→Nm:=fun i=>if i=5 then qlL else ⟨[],[],false⟩
def qoU:Nat→Option Jn:=fun _=>none
def qmw:Nat→Option Nm:=fun i=>if i=0 then some qqe else none
def ql1:Nat→Option Nm:=fun _=>none
theorem qS2:qn qjD (Try.f116.body.getD .skip)=true:=by kernel_rfl
def qev (N:Nat):Tab:={tr:=qjD,lp:=qlv,ex:=qmw,rg:=ql1,jn:=qoU,fuel:=N}
theorem qBU (N:Nat):(qev N).pins=false:=rfl
theorem qLJ (N:Nat):qp Try.prog (qev N):=qw fun _=>rfl
theorem qCK (N:Nat) (i:Nat):(qev N).tr i=qjD i:=rfl
theorem qtV (N:Nat) (i:Nat):(qev N).lp i=qlv i:=rfl
theorem qty (N:Nat) (i:Nat):(qev N).ex i=qmw i:=rfl
theorem qzf (N:Nat) (i:Nat):(qev N).rg i=ql1 i:=rfl
theorem quG (N:Nat) (i:Nat):(qev N).jn i=qoU i:=rfl
theorem qtU (N:Nat):(qev N).fuel=N:=rfl
noncomputable def qH3:Code:=cut [true,true,true,false,true,true,true] (Try.f116.body.getD .skip)
theorem qR8 {N:Nat} {Q:X→St→Option (qc [i3])} {e:List LV} {h:List Blk}:qe tt qjX (qev N) qH3 Q ⟨e,h⟩=qe tt qjX (qev N) (cut [true,true,true,false,true,true,true] (Try.f116.body.getD .skip)) Q ⟨e,h⟩:=rfl
theorem qLW (N:Nat) (v2:List (Val qO)) {k0:Int→Option (qc [i3])} {Q:X→St→Option (qc [i3])} {c:Code} (hc:c=qH3) (hret: ∀st,Q .ret st=qI tt true [i3] [.tmp 4] st) (h0: ∀(v5:Int),Q (.exit 0) ⟨[u,.one (.int .i64 v5),u,u,u,u,u,u,u,u,u,u,u,u,u,u,u,u,u,u,u,u,u,u,u,u,u],[]⟩=k0 v5): ∀(n:Nat) (v3:Int) (v4:Int),qC (qe tt qjX (qev N) c) false qlL Q n ⟨[.one (.sl 168 qO v2 0),.one (.int .i64 v3),u,u,u,.one (.int .i64 v4),u,u,u,u,u,u,u,u,u,u,u,u,u,u,u,u,u,u,u,u,u],[]⟩=qiu N v2 k0 n v3 v4:=by
 subst hc;intro n;induction n with
 | zero=>intros;rfl
 | succ n ih=>
   intro v3 v4
   rw [qM,qR8,qiu];unfold Try.f116
   simp (maxSteps:=10000000) -implicitDefEqProofs [qCK,qjD,qtV,qlv,qty,qmw,qzf,ql1,quG,qoU,qtU,qBU,qui,qzL,qtB,qDz,qA2,qur,qES,qkf,hret,h0,ih]
theorem qQh (N:Nat) (v0:List (Val qO)) (v1:Int):qe tt qjX (qev N) (Try.f116.body.getD .skip) (qr tt true [i3] [.tmp 4]) (qv [qgS,i3] 27 (v0,v1,()))=qpt N v0 v1:=by
 unfold Try.f116
 simp (maxSteps:=10000000) -implicitDefEqProofs [qCK,qjD,qtV,qlv,qty,qmw,qzf,ql1,quG,qoU,qtU,qBU,qui,qzL,qtB,qDz,qA2,qur,qES,qkf]
 rewrite [qLW (k0:=(fun (v6:Int)=>some (v6,()))) N _ ?_ ?_ ?_]
 ·rewrite [qpt];first | rfl | simp (maxSteps:=10000000) -implicitDefEqProofs []
 ·rfl
 ·intro;simp only [qK,qL,qN,qm]
 ·intro v6;simp (maxSteps:=10000000) -implicitDefEqProofs [qCK,qjD,qtV,qlv,qty,qmw,qzf,ql1,quG,qoU,qtU,qBU,qui,qzL,qtB,qDz,qA2,qur,qES,qkf]
def qqq:G:={ps:=[qgS,i3],rs:=[i3],dp:=true,pre:=fun x=>qpl x.1 x.2.1,fn:=fun x=>(qi2 x.1 x.2.1,())}
theorem qJH (x:List (Val qO)) (n:Int) (h:qpl x n): ∃N,qpt N x n=some (qi2 x n,()):=⟨List.length x+1,by
 obtain ⟨hs,h0,h1⟩:=h
 rw [qpt,qf7 h0 h1 hs.1]
 simp only [qi2,qkK]
 by_cases c:n - (List.length x:Int)<0
 ·rw [qj c,if_pos c]
 ·rw [qh c,if_neg c]
  refine (qam (F:=fun n i s=>qiu _ x _ n s i) (step:=fun _ y (s:Int) K=>chk (qsr y s) (bif decide (qhO y s<0)then some ((-1:Int),())else K (qhO y s))) (k:=fun s=>some (s,())) (by omega) (fun n i s hi=> ?_) (fun n i s hi=> ?_) _ _ (Nat.lt_succ_self _)).trans (qoj (t:=qO) x 0 _ (by omega) (by omega) hs.2)
  ·rw [qiu,qj (by omega),qd (by omega),qA hi]
  ·rw [qiu,qh (by omega)]⟩
theorem qJL:Sound Try.prog 116 qqq:=qz (tt:=tt) (Γ:=qjX) hT (ql qRU qt) hm (fn:=Try.f116) Try.func116 (c:=Try.f116.body.getD .skip) (by kernel_rfl) (by kernel_rfl) fun x hx=>by
 obtain ⟨N,h⟩:=qJH x.1 x.2.1 hx
 exact ⟨qev N,qS2,qy _,qLJ N,(qQh N x.1 x.2.1).trans h⟩
def qhn (x:Val qE) (n:Int):Int:=szV qE x n
def qp1 (x:Val qE) (n:Int):Prop:=qfc qE x n
noncomputable def m77 (N:Nat) (v0:Val qE) (v1:Int):Option (qc [i3]):=bif (decide ((IntKind.i64.wrap (v1 - ((v0.1:ByteArray).size:Int)))<(0:Int)))then (some ((-1:Int),()))else (chk (qpl (v0.2.2:List (Val qO)) (IntKind.i64.wrap (v1 - ((v0.1:ByteArray).size:Int)))) (bif (decide (((qi2 (v0.2.2:List (Val qO)) (IntKind.i64.wrap (v1 - ((v0.1:ByteArray).size:Int)))):Int)<(0:Int)))then (some ((-1:Int),()))else (some (((qi2 (v0.2.2:List (Val qO)) (IntKind.i64.wrap (v1 - ((v0.1:ByteArray).size:Int)))):Int),()))))
def Γ77:Gam:=[(116,qqq)]
theorem qKn:Gam.get Γ77 116=some qqq:=rfl
def qpi:Nat→Tree:=fun _=> .done
def qtS:Nat→Nm:=fun _=>⟨[],[],false⟩
def qwK:Nat→Option Jn:=fun _=>none
def qvM:Nat→Option Nm:=fun _=>none
def qBL:Nat→Option Nm:=fun _=>none
theorem p77:qn qpi (Try.f77.body.getD .skip)=true:=by kernel_rfl
def T77 (N:Nat):Tab:={tr:=qpi,lp:=qtS,ex:=qvM,rg:=qBL,jn:=qwK,fuel:=N}
theorem qJ2 (N:Nat):(T77 N).pins=false:=rfl
theorem qQK (N:Nat):qp Try.prog (T77 N):=qw fun _=>rfl
theorem qN8 (N:Nat) (i:Nat):(T77 N).tr i=qpi i:=rfl
theorem qJS (N:Nat) (i:Nat):(T77 N).lp i=qtS i:=rfl
theorem qST (N:Nat) (i:Nat):(T77 N).ex i=qvM i:=rfl
theorem qMs (N:Nat) (i:Nat):(T77 N).rg i=qBL i:=rfl
theorem qMl (N:Nat) (i:Nat):(T77 N).jn i=qwK i:=rfl
theorem qQW (N:Nat):(T77 N).fuel=N:=rfl
theorem qSk (N:Nat) (v0:Val qE) (v1:Int):qe tt Γ77 (T77 N) (Try.f77.body.getD .skip) (qr tt true [i3] [.tmp 4]) (qv [qgL,i3] 19 (v0,v1,()))=m77 N v0 v1:=by
 rw [m77];unfold Try.f77
 simp (maxSteps:=10000000) -implicitDefEqProofs [qN8,qpi,qJS,qtS,qST,qvM,qMs,qBL,qMl,qwK,qQW,qJ2,qKn,qqq]
 try rfl
def g77:G:={ps:=[qgL,i3],rs:=[i3],dp:=true,pre:=fun x=>qp1 x.1 x.2.1,fn:=fun x=>(qhn x.1 x.2.1,())}
theorem e77 (x:Val qE) (n:Int) (h:qp1 x n): ∃N,m77 N x n=some (qhn x n,()):=⟨0,by
 obtain ⟨x0,x1,x2⟩:=x
 obtain ⟨hs,h0,h1⟩:=h
 obtain ⟨s0,s1,s2⟩:=hs
 rw [m77,qhn]
 dsimp only
 rw [qf7 h0 h1 s0]
 by_cases c0:n - (ByteArray.size x0:Int)<0
 ·rw [qj c0,qq8 c0]
 ·rw [qh c0,qro (by omega)]
  have h00:0≤(n - (ByteArray.size x0:Int)):=by omega
  have h10:(n - (ByteArray.size x0:Int))≤1048576:=by omega
  rw [qju h00]
  rw [qd (show qpl x2 (n - (ByteArray.size x0:Int)) from ⟨s2,h00,h10⟩)]
  by_cases c2:qi2 x2 (n - (ByteArray.size x0:Int))<0
  ·rw [qj c2]
   exact congrArg (fun z=>some (z,())) ((qcp (.slice 168 qO) x2 (n - (ByteArray.size x0:Int)) h00).2 c2).symm
  ·rw [qh c2]
   rfl⟩
theorem s77:Sound Try.prog 77 g77:=qz (tt:=tt) (Γ:=Γ77) hT (ql qJL qt) hm (fn:=Try.f77) Try.func77 (c:=Try.f77.body.getD .skip) (by kernel_rfl) (by kernel_rfl) fun x hx=>by
 obtain ⟨N,h⟩:=e77 x.1 x.2.1 hx
 exact ⟨T77 N,p77,qy _,qQK N,(qSk N x.1 x.2.1).trans h⟩
def qcS (x:List (Val qE)) (n:Int):Int:=szV (.slice 111 qE) x n
def qpu (x:List (Val qE)) (n:Int):Prop:=qfc (.slice 111 qE) x n
noncomputable def qig (N:Nat) (v2:List (Val qE)) (k0:Int→Option (qc [i3])):Nat→Int→Int→Option (qc [i3])
 | 0,_,_=>none
 | n+1,v3,v4=>bif (decide (v4<(v2.length:Int)))then (chk (0≤v4∧v4<(v2.length:Int)) (chk (qp1 (v2.getD v4.toNat (qa qE)) v3) (bif (decide (((qhn (v2.getD v4.toNat (qa qE)) v3):Int)<(0:Int)))then (some ((-1:Int),()))else (qig N v2 k0 n ((qhn (v2.getD v4.toNat (qa qE)) v3):Int) (IntKind.i64.wrap (v4+(1:Int)))))))else (k0 v3)
noncomputable def m23 (N:Nat) (v0:List (Val qE)) (v1:Int):Option (qc [i3]):=bif (decide ((IntKind.i64.wrap (v1 - (v0.length:Int)))<(0:Int)))then (some ((-1:Int),()))else (qig N v0 (fun (v6:Int)=>some (v6,())) N (IntKind.i64.wrap (v1 - (v0.length:Int))) (0:Int))
def Γ23:Gam:=[(77,g77)]
theorem qwG:Gam.get Γ23 77=some g77:=rfl
def qnv:Nm:=⟨[true,true,false,false,false,true],[],false⟩
theorem qBO:qnv.zero=false:=rfl
theorem qB4:qnv.fix=[]:=rfl
theorem qD5:qnv.keep=[true,true,false,false,false,true]:=rfl
def qs1:Nm:=⟨[false,true],[],false⟩
theorem qtM:qs1.zero=false:=rfl
theorem qAq:qs1.fix=[]:=rfl
theorem qEz:qs1.keep=[false,true]:=rfl
def qi1:Nat→Tree:=fun _=> .done
def qlc:Nat→Nm:=fun i=>if i=5 then qnv else ⟨[],[],false⟩
def qkJ:Nat→Option Jn:=fun _=>none
def qkS:Nat→Option Nm:=fun i=>if i=0 then some qs1 else none
def qk2:Nat→Option Nm:=fun _=>none
theorem p23:qn qi1 (Try.f23.body.getD .skip)=true:=by kernel_rfl
def T23 (N:Nat):Tab:={tr:=qi1,lp:=qlc,ex:=qkS,rg:=qk2,jn:=qkJ,fuel:=N}
theorem qDg (N:Nat):(T23 N).pins=false:=rfl
theorem qLC (N:Nat):qp Try.prog (T23 N):=qw fun _=>rfl
theorem qEH (N:Nat) (i:Nat):(T23 N).tr i=qi1 i:=rfl
theorem qCl (N:Nat) (i:Nat):(T23 N).lp i=qlc i:=rfl
theorem qx8 (N:Nat) (i:Nat):(T23 N).ex i=qkS i:=rfl
theorem qtD (N:Nat) (i:Nat):(T23 N).rg i=qk2 i:=rfl
theorem qvZ (N:Nat) (i:Nat):(T23 N).jn i=qkJ i:=rfl
theorem qz0 (N:Nat):(T23 N).fuel=N:=rfl
noncomputable def qIE:Code:=cut [true,true,true,false,true,true,true] (Try.f23.body.getD .skip)
theorem qOy {N:Nat} {Q:X→St→Option (qc [i3])} {e:List LV} {h:List Blk}:qe tt Γ23 (T23 N) qIE Q ⟨e,h⟩=qe tt Γ23 (T23 N) (cut [true,true,true,false,true,true,true] (Try.f23.body.getD .skip)) Q ⟨e,h⟩:=rfl
theorem qSG (N:Nat) (v2:List (Val qE)) {k0:Int→Option (qc [i3])} {Q:X→St→Option (qc [i3])} {c:Code} (hc:c=qIE) (hret: ∀st,Q .ret st=qI tt true [i3] [.tmp 4] st) (h0: ∀(v5:Int),Q (.exit 0) ⟨[u,.one (.int .i64 v5),u,u,u,u,u,u,u,u,u,u,u,u,u,u,u,u,u,u,u,u,u,u,u,u,u],[]⟩=k0 v5): ∀(n:Nat) (v3:Int) (v4:Int),qC (qe tt Γ23 (T23 N) c) false qnv Q n ⟨[.one (.sl 111 qE v2 0),.one (.int .i64 v3),u,u,u,.one (.int .i64 v4),u,u,u,u,u,u,u,u,u,u,u,u,u,u,u,u,u,u,u,u,u],[]⟩=qig N v2 k0 n v3 v4:=by
 subst hc;intro n;induction n with
 | zero=>intros;rfl
 | succ n ih=>
   intro v3 v4
   rw [qM,qOy,qig];unfold Try.f23
   simp (maxSteps:=10000000) -implicitDefEqProofs [qEH,qi1,qCl,qlc,qx8,qkS,qtD,qk2,qvZ,qkJ,qz0,qDg,qB4,qD5,qBO,qAq,qEz,qtM,qwG,g77,hret,h0,ih]
theorem qLE (N:Nat) (v0:List (Val qE)) (v1:Int):qe tt Γ23 (T23 N) (Try.f23.body.getD .skip) (qr tt true [i3] [.tmp 4]) (qv [i57,i3] 27 (v0,v1,()))=m23 N v0 v1:=by
 unfold Try.f23
 simp (maxSteps:=10000000) -implicitDefEqProofs [qEH,qi1,qCl,qlc,qx8,qkS,qtD,qk2,qvZ,qkJ,qz0,qDg,qB4,qD5,qBO,qAq,qEz,qtM,qwG,g77]
 rewrite [qSG (k0:=(fun (v6:Int)=>some (v6,()))) N _ ?_ ?_ ?_]
 ·rewrite [m23];first | rfl | simp (maxSteps:=10000000) -implicitDefEqProofs []
 ·rfl
 ·intro;simp only [qK,qL,qN,qm]
 ·intro v6;simp (maxSteps:=10000000) -implicitDefEqProofs [qEH,qi1,qCl,qlc,qx8,qkS,qtD,qk2,qvZ,qkJ,qz0,qDg,qB4,qD5,qBO,qAq,qEz,qtM,qwG,g77]
def g23:G:={ps:=[i57,i3],rs:=[i3],dp:=true,pre:=fun x=>qpu x.1 x.2.1,fn:=fun x=>(qcS x.1 x.2.1,())}
theorem e23 (x:List (Val qE)) (n:Int) (h:qpu x n): ∃N,m23 N x n=some (qcS x n,()):=⟨List.length x+1,by
 obtain ⟨hs,h0,h1⟩:=h
 rw [m23,qf7 h0 h1 hs.1]
 simp only [qcS,qkK]
 by_cases c:n - (List.length x:Int)<0
 ·rw [qj c,if_pos c]
 ·rw [qh c,if_neg c]
  refine (qam (F:=fun n i s=>qig _ x _ n s i) (step:=fun _ y (s:Int) K=>chk (qp1 y s) (bif decide (qhn y s<0)then some ((-1:Int),())else K (qhn y s))) (k:=fun s=>some (s,())) (by omega) (fun n i s hi=> ?_) (fun n i s hi=> ?_) _ _ (Nat.lt_succ_self _)).trans (qoj (t:=qE) x 0 _ (by omega) (by omega) hs.2)
  ·rw [qig,qj (by omega),qd (by omega),qA hi]
  ·rw [qig,qh (by omega)]⟩
theorem s23:Sound Try.prog 23 g23:=qz (tt:=tt) (Γ:=Γ23) hT (ql s77 qt) hm (fn:=Try.f23) Try.func23 (c:=Try.f23.body.getD .skip) (by kernel_rfl) (by kernel_rfl) fun x hx=>by
 obtain ⟨N,h⟩:=e23 x.1 x.2.1 hx
 exact ⟨T23 N,p23,qy _,qLC N,(qLE N x.1 x.2.1).trans h⟩
def qp5 (x:List (Val (.int .i64))):List (Val (.int .i64)):=x
def qjs (x:List (Val (.int .i64))):Prop:=Bd (.slice 3 (.int .i64)) x
noncomputable def qh0 (N:Nat) (v1:List (Val (.int .i64))) (k0:(List (Val (.int .i64)))→Option (qc [i27])):Nat→Int→(List (Val (.int .i64)))→Option (qc [i27])
 | 0,_,_=>none
 | n+1,v2,v3=>bif (decide (v2<(v1.length:Int)))then (chk (0≤v2∧v2<(v1.length:Int)) (chk (0≤v2∧v2<(v3.length:Int)) (chk (v2.toNat<v3.length) (qh0 N v1 k0 n (IntKind.i64.wrap (v2+(1:Int))) (v3.set v2.toNat ((v1.getD v2.toNat (qa (.int .i64))):Int))))))else (k0 v3)
noncomputable def m17 (N:Nat) (v0:List (Val (.int .i64))):Option (qc [i27]):=chk (0≤(v0.length:Int)∧(v0.length:Int)≤(v0.length:Int)∧(v0.length:Int)≤1048576) (qh0 N v0 (fun (v5:List (Val (.int .i64)))=>some (v5,())) N (0:Int) (List.replicate (v0.length:Int).toNat (qa (.int .i64))))
def Γ17:Gam:=[]
def qnB:Nm:=⟨[true,false,false,true,true],[],false⟩
theorem qyL:qnB.zero=false:=rfl
theorem qu3:qnB.fix=[]:=rfl
theorem qA5:qnB.keep=[true,false,false,true,true]:=rfl
def qrZ:Nm:=⟨[false,false,false,true],[],false⟩
theorem quA:qrZ.zero=false:=rfl
theorem qxc:qrZ.fix=[]:=rfl
theorem quk:qrZ.keep=[false,false,false,true]:=rfl
def qj4:Nat→Tree:=fun _=> .done
def qmK:Nat→Nm:=fun i=>if i=3 then qnB else ⟨[],[],false⟩
def qlP:Nat→Option Jn:=fun _=>none
def qnf:Nat→Option Nm:=fun i=>if i=0 then some qrZ else none
def qlN:Nat→Option Nm:=fun _=>none
theorem p17:qn qj4 (Try.f17.body.getD .skip)=true:=by kernel_rfl
def T17 (N:Nat):Tab:={tr:=qj4,lp:=qmK,ex:=qnf,rg:=qlN,jn:=qlP,fuel:=N}
theorem qtt (N:Nat):(T17 N).pins=false:=rfl
theorem qKa (N:Nat):qp Try.prog (T17 N):=qw fun _=>rfl
theorem qFo (N:Nat) (i:Nat):(T17 N).tr i=qj4 i:=rfl
theorem qxX (N:Nat) (i:Nat):(T17 N).lp i=qmK i:=rfl
theorem qE3 (N:Nat) (i:Nat):(T17 N).ex i=qnf i:=rfl
theorem qAu (N:Nat) (i:Nat):(T17 N).rg i=qlN i:=rfl
theorem qDv (N:Nat) (i:Nat):(T17 N).jn i=qlP i:=rfl
theorem qwY (N:Nat):(T17 N).fuel=N:=rfl
noncomputable def qGx:Code:=cut [true,true,false,true,true,true] (Try.f17.body.getD .skip)
theorem qRJ {N:Nat} {Q:X→St→Option (qc [i27])} {e:List LV} {h:List Blk}:qe tt Γ17 (T17 N) qGx Q ⟨e,h⟩=qe tt Γ17 (T17 N) (cut [true,true,false,true,true,true] (Try.f17.body.getD .skip)) Q ⟨e,h⟩:=rfl
theorem qOk (N:Nat) (v1:List (Val (.int .i64))) {k0:(List (Val (.int .i64)))→Option (qc [i27])} {Q:X→St→Option (qc [i27])} {c:Code} (hc:c=qGx) (hret: ∀st,Q .ret st=qI tt true [i27] [.tmp 2] st) (h0: ∀(v4:List (Val (.int .i64))),Q (.exit 0) ⟨[u,u,u,.one (.own 0),u,u,u,u,u,u,u,u,u,u,u,u,u,u,u,u,u,u],[.row 3 (.int .i64) v4 true true 0]⟩=k0 v4): ∀(n:Nat) (v2:Int) (v3:List (Val (.int .i64))),qC (qe tt Γ17 (T17 N) c) false qnB Q n ⟨[.one (.sl 3 (.int .i64) v1 1),u,u,.one (.own 0),.one (.int .i64 v2),u,u,u,u,u,u,u,u,u,u,u,u,u,u,u,u,u],[.row 3 (.int .i64) v3 true true 0]⟩=qh0 N v1 k0 n v2 v3:=by
 subst hc;intro n;induction n with
 | zero=>intros;rfl
 | succ n ih=>
   intro v2 v3
   rw [qM,qRJ,qh0];unfold Try.f17
   simp (maxSteps:=10000000) -implicitDefEqProofs [qFo,qj4,qxX,qmK,qE3,qnf,qAu,qlN,qDv,qlP,qwY,qtt,qu3,qA5,qyL,qxc,quk,quA,hret,h0,ih]
theorem qOq (N:Nat) (v0:List (Val (.int .i64))):qe tt Γ17 (T17 N) (Try.f17.body.getD .skip) (qr tt true [i27] [.tmp 2]) (qv [i27] 22 (v0,()))=m17 N v0:=by
 unfold Try.f17
 simp (maxSteps:=10000000) -implicitDefEqProofs [qFo,qj4,qxX,qmK,qE3,qnf,qAu,qlN,qDv,qlP,qwY,qtt,qu3,qA5,qyL,qxc,quk,quA]
 rewrite [qOk (k0:=(fun (v5:List (Val (.int .i64)))=>some (v5,()))) N _ ?_ ?_ ?_]
 ·rewrite [m17];first | rfl | simp (maxSteps:=10000000) -implicitDefEqProofs []
 ·rfl
 ·intro;simp only [qK,qL,qN,qm]
 ·intro v5;simp (maxSteps:=10000000) -implicitDefEqProofs [qFo,qj4,qxX,qmK,qE3,qnf,qAu,qlN,qDv,qlP,qwY,qtt,qu3,qA5,qyL,qxc,quk,quA]
def g17:G:={ps:=[i27],rs:=[i27],dp:=true,pre:=fun x=>qjs x.1,fn:=fun x=>(qp5 x.1,())}
theorem e17 (x:List (Val (.int .i64))) (h:qjs x): ∃N,m17 N x=some (qp5 x,()):=⟨List.length x+1,by
 rw [m17,qd (qjk h.1),Int.toNat_natCast]
 refine qha (F:=fun n i s=>qh0 _ x _ n i s) (k:=fun s=>some (s,())) (qa (.int .i64)) h.1 (fun n i s hi hl=> ?_) (fun n i s hi=> ?_) _ (Nat.lt_succ_self _)
 ·rw [qh0,qj (by omega),qd (by omega),qA hi,qd (by omega),qd (by omega)]
  rfl
 ·rw [qh0,qh (by omega)]⟩
theorem s17:Sound Try.prog 17 g17:=qz (tt:=tt) (Γ:=Γ17) hT qt hm (fn:=Try.f17) Try.func17 (c:=Try.f17.body.getD .skip) (by kernel_rfl) (by kernel_rfl) fun x hx=>by
 obtain ⟨N,h⟩:=e17 x.1 hx
 exact ⟨T17 N,p17,qy _,qKa N,(qOq N x.1).trans h⟩
def qgA (x:Val qH):Val Y83:=x
def qjS (x:Val qH):Prop:=Bd qH x
noncomputable def qqf (N:Nat) (v0:Val qH):Option (qc [i83]):=chk (qjs (v0.1:List (Val (.int .i64)))) (some ((((qp5 (v0.1:List (Val (.int .i64)))):List (Val (.int .i64))),(v0.2.1:Int),(v0.2.2:Bool)),()))
def qDk:Gam:=[(17,g17)]
theorem qLU:Gam.get qDk 17=some g17:=rfl
def qsp:Nat→Tree:=fun _=> .done
def qCY:Nat→Nm:=fun _=>⟨[],[],false⟩
def qxa:Nat→Option Jn:=fun _=>none
def qtA:Nat→Option Nm:=fun _=>none
def qw4:Nat→Option Nm:=fun _=>none
theorem qVN:qn qsp (Try.f108.body.getD .skip)=true:=by kernel_rfl
def qfX (N:Nat):Tab:={tr:=qsp,lp:=qCY,ex:=qtA,rg:=qw4,jn:=qxa,fuel:=N}
theorem qRD (N:Nat):(qfX N).pins=false:=rfl
theorem qKt (N:Nat):qp Try.prog (qfX N):=qw fun _=>rfl
theorem qUJ (N:Nat) (i:Nat):(qfX N).tr i=qsp i:=rfl
theorem qL4 (N:Nat) (i:Nat):(qfX N).lp i=qCY i:=rfl
theorem qO7 (N:Nat) (i:Nat):(qfX N).ex i=qtA i:=rfl
theorem qMw (N:Nat) (i:Nat):(qfX N).rg i=qw4 i:=rfl
theorem qT7 (N:Nat) (i:Nat):(qfX N).jn i=qxa i:=rfl
theorem qVC (N:Nat):(qfX N).fuel=N:=rfl
theorem qOp (N:Nat) (v0:Val qH):qe tt qDk (qfX N) (Try.f108.body.getD .skip) (qr tt true [i83] [.cell 2 83]) (qv [qgT] 15 (v0,()))=qqf N v0:=by
 rw [qqf];unfold Try.f108
 simp (maxSteps:=10000000) -implicitDefEqProofs [qUJ,qsp,qL4,qCY,qO7,qtA,qMw,qw4,qT7,qxa,qVC,qRD,qLU,g17]
 try rfl
def qfZ:G:={ps:=[qgT],rs:=[i83],dp:=true,pre:=fun x=>qjS x.1,fn:=fun x=>(qgA x.1,())}
theorem qRG (x:Val qH) (h:qjS x): ∃N,qqf N x=some (qgA x,()):=⟨0,by
 obtain ⟨s0,s1,s2⟩:=h
 rw [qqf,qd (show qjs _ from s0)]
 rfl⟩
theorem qI0:Sound Try.prog 108 qfZ:=qz (tt:=tt) (Γ:=qDk) hT (ql s17 qt) hm (fn:=Try.f108) Try.func108 (c:=Try.f108.body.getD .skip) (by kernel_rfl) (by kernel_rfl) fun x hx=>by
 obtain ⟨N,h⟩:=qRG x.1 hx
 exact ⟨qfX N,qVN,qy _,qKt N,(qOp N x.1).trans h⟩
def qut (x:List (Val qH)):List (Val Y83):=x
def qrc (x:List (Val qH)):Prop:=Bd (.slice 113 qH) x
noncomputable def qhX (N:Nat) (v1:List (Val qH)) (k0:(List (Val Y83))→Option (qc [i24])):Nat→Int→(List (Val Y83))→Option (qc [i24])
 | 0,_,_=>none
 | n+1,v2,v3=>bif (decide (v2<(v1.length:Int)))then (chk (0≤v2∧v2<(v1.length:Int)) (chk (qjS (v1.getD v2.toNat (qa qH))) (chk (0≤v2∧v2<(v3.length:Int)) (chk (v2.toNat<v3.length) (qhX N v1 k0 n (IntKind.i64.wrap (v2+(1:Int))) (v3.set v2.toNat (((qgA (v1.getD v2.toNat (qa qH))).1:List (Val (.int .i64))),(((qgA (v1.getD v2.toNat (qa qH))).2).1:Int),(((qgA (v1.getD v2.toNat (qa qH))).2).2:Bool))))))))else (k0 v3)
noncomputable def m63 (N:Nat) (v0:List (Val qH)):Option (qc [i24]):=chk (0≤(v0.length:Int)∧(v0.length:Int)≤(v0.length:Int)∧(v0.length:Int)≤1048576) (qhX N v0 (fun (v5:List (Val Y83))=>some (v5,())) N (0:Int) (List.replicate (v0.length:Int).toNat (qa Y83)))
def Γ63:Gam:=[(108,qfZ)]
theorem qBw:Gam.get Γ63 108=some qfZ:=rfl
def qoF:Nm:=⟨[true,false,false,true,true],[],false⟩
theorem qx0:qoF.zero=false:=rfl
theorem qtv:qoF.fix=[]:=rfl
theorem qvg:qoF.keep=[true,false,false,true,true]:=rfl
def qss:Nm:=⟨[false,false,false,true],[],false⟩
theorem qwQ:qss.zero=false:=rfl
theorem qyi:qss.fix=[]:=rfl
theorem qwI:qss.keep=[false,false,false,true]:=rfl
def qjg:Nat→Tree:=fun _=> .done
def qpa:Nat→Nm:=fun i=>if i=3 then qoF else ⟨[],[],false⟩
def qm4:Nat→Option Jn:=fun _=>none
def qnn:Nat→Option Nm:=fun i=>if i=0 then some qss else none
def qlX:Nat→Option Nm:=fun _=>none
theorem p63:qn qjg (Try.f63.body.getD .skip)=true:=by kernel_rfl
def T63 (N:Nat):Tab:={tr:=qjg,lp:=qpa,ex:=qnn,rg:=qlX,jn:=qm4,fuel:=N}
theorem qzS (N:Nat):(T63 N).pins=false:=rfl
theorem qQv (N:Nat):qp Try.prog (T63 N):=qw fun _=>rfl
theorem qC3 (N:Nat) (i:Nat):(T63 N).tr i=qjg i:=rfl
theorem qu4 (N:Nat) (i:Nat):(T63 N).lp i=qpa i:=rfl
theorem qzp (N:Nat) (i:Nat):(T63 N).ex i=qnn i:=rfl
theorem qyj (N:Nat) (i:Nat):(T63 N).rg i=qlX i:=rfl
theorem qCT (N:Nat) (i:Nat):(T63 N).jn i=qm4 i:=rfl
theorem qAc (N:Nat):(T63 N).fuel=N:=rfl
noncomputable def qGd:Code:=cut [true,true,false,true,true,true] (Try.f63.body.getD .skip)
theorem qTE {N:Nat} {Q:X→St→Option (qc [i24])} {e:List LV} {h:List Blk}:qe tt Γ63 (T63 N) qGd Q ⟨e,h⟩=qe tt Γ63 (T63 N) (cut [true,true,false,true,true,true] (Try.f63.body.getD .skip)) Q ⟨e,h⟩:=rfl
theorem qNC (N:Nat) (v1:List (Val qH)) {k0:(List (Val Y83))→Option (qc [i24])} {Q:X→St→Option (qc [i24])} {c:Code} (hc:c=qGd) (hret: ∀st,Q .ret st=qI tt true [i24] [.tmp 2] st) (h0: ∀(v4:List (Val Y83)),Q (.exit 0) ⟨[u,u,u,.one (.own 0),u,u,u,u,u,u,u,u,u,u,u,u,u,u,u,u,u,u,u],[.row 83 Y83 v4 true true 0]⟩=k0 v4): ∀(n:Nat) (v2:Int) (v3:List (Val Y83)),qC (qe tt Γ63 (T63 N) c) false qoF Q n ⟨[.one (.sl 113 qH v1 1),u,u,.one (.own 0),.one (.int .i64 v2),u,u,u,u,u,u,u,u,u,u,u,u,u,u,u,u,u,u],[.row 83 Y83 v3 true true 0]⟩=qhX N v1 k0 n v2 v3:=by
 subst hc;intro n;induction n with
 | zero=>intros;rfl
 | succ n ih=>
   intro v2 v3
   rw [qM,qTE,qhX];unfold Try.f63
   simp (maxSteps:=10000000) -implicitDefEqProofs [qC3,qjg,qu4,qpa,qzp,qnn,qyj,qlX,qCT,qm4,qAc,qzS,qtv,qvg,qx0,qyi,qwI,qwQ,qBw,qfZ,hret,h0,ih]
theorem qMA (N:Nat) (v0:List (Val qH)):qe tt Γ63 (T63 N) (Try.f63.body.getD .skip) (qr tt true [i24] [.tmp 2]) (qv [i38] 23 (v0,()))=m63 N v0:=by
 unfold Try.f63
 simp (maxSteps:=10000000) -implicitDefEqProofs [qC3,qjg,qu4,qpa,qzp,qnn,qyj,qlX,qCT,qm4,qAc,qzS,qtv,qvg,qx0,qyi,qwI,qwQ,qBw,qfZ]
 rewrite [qNC (k0:=(fun (v5:List (Val Y83))=>some (v5,()))) N _ ?_ ?_ ?_]
 ·rewrite [m63];first | rfl | simp (maxSteps:=10000000) -implicitDefEqProofs []
 ·rfl
 ·intro;simp only [qK,qL,qN,qm]
 ·intro v5;simp (maxSteps:=10000000) -implicitDefEqProofs [qC3,qjg,qu4,qpa,qzp,qnn,qyj,qlX,qCT,qm4,qAc,qzS,qtv,qvg,qx0,qyi,qwI,qwQ,qBw,qfZ]
def g63:G:={ps:=[i38],rs:=[i24],dp:=true,pre:=fun x=>qrc x.1,fn:=fun x=>(qut x.1,())}
theorem e63 (x:List (Val qH)) (h:qrc x): ∃N,m63 N x=some (qut x,()):=⟨List.length x+1,by
 rw [m63,qd (qjk h.1),Int.toNat_natCast]
 refine qha (F:=fun n i s=>qhX _ x _ n i s) (k:=fun s=>some (s,())) (qa Y83) h.1 (fun n i s hi hl=> ?_) (fun n i s hi=> ?_) _ (Nat.lt_succ_self _)
 ·rw [qhX,qj (by omega),qd (by omega),qd (show qjS _ from by rw [qA hi];exact h.2 _ (List.getElem_mem hi)),qA hi,qd (by omega),qd (by omega)]
  rfl
 ·rw [qhX,qh (by omega)]⟩
theorem s63:Sound Try.prog 63 g63:=qz (tt:=tt) (Γ:=Γ63) hT (ql qI0 qt) hm (fn:=Try.f63) Try.func63 (c:=Try.f63.body.getD .skip) (by kernel_rfl) (by kernel_rfl) fun x hx=>by
 obtain ⟨N,h⟩:=e63 x.1 hx
 exact ⟨T63 N,p63,qy _,qQv N,(qMA N x.1).trans h⟩
def qp2 (x:Val Y40):Val Y26:=x
def qsZ (x:Val Y40):Prop:=Bd Y40 x
noncomputable def m16 (N:Nat) (v0:Val Y40):Option (qc [i26]):=chk (qrc (v0.2:List (Val qH))) (some (((v0.1:Int),((qut (v0.2:List (Val qH))):List (Val Y83))),()))
def Γ16:Gam:=[(63,g63)]
theorem qKk:Gam.get Γ16 63=some g63:=rfl
def qpX:Nat→Tree:=fun _=> .done
def qEd:Nat→Nm:=fun _=>⟨[],[],false⟩
def qzY:Nat→Option Jn:=fun _=>none
def qC2:Nat→Option Nm:=fun _=>none
def qA7:Nat→Option Nm:=fun _=>none
theorem p16:qn qpX (Try.f16.body.getD .skip)=true:=by kernel_rfl
def T16 (N:Nat):Tab:={tr:=qpX,lp:=qEd,ex:=qC2,rg:=qA7,jn:=qzY,fuel:=N}
theorem qQ2 (N:Nat):(T16 N).pins=false:=rfl
theorem qNU (N:Nat):qp Try.prog (T16 N):=qw fun _=>rfl
theorem qSN (N:Nat) (i:Nat):(T16 N).tr i=qpX i:=rfl
theorem qRV (N:Nat) (i:Nat):(T16 N).lp i=qEd i:=rfl
theorem qLj (N:Nat) (i:Nat):(T16 N).ex i=qC2 i:=rfl
theorem qKR (N:Nat) (i:Nat):(T16 N).rg i=qA7 i:=rfl
theorem qU8 (N:Nat) (i:Nat):(T16 N).jn i=qzY i:=rfl
theorem qTI (N:Nat):(T16 N).fuel=N:=rfl
theorem qNv (N:Nat) (v0:Val Y40):qe tt Γ16 (T16 N) (Try.f16.body.getD .skip) (qr tt true [i26] [.cell 2 26]) (qv [i40] 12 (v0,()))=m16 N v0:=by
 rw [m16];unfold Try.f16
 simp (maxSteps:=10000000) -implicitDefEqProofs [qSN,qpX,qRV,qEd,qLj,qC2,qKR,qA7,qU8,qzY,qTI,qQ2,qKk,g63]
 try rfl
def g16:G:={ps:=[i40],rs:=[i26],dp:=true,pre:=fun x=>qsZ x.1,fn:=fun x=>(qp2 x.1,())}
theorem e16 (x:Val Y40) (h:qsZ x): ∃N,m16 N x=some (qp2 x,()):=⟨0,by
 obtain ⟨s0,s1⟩:=h
 rw [m16,qd (show qrc _ from s1)]
 rfl⟩
theorem s16:Sound Try.prog 16 g16:=qz (tt:=tt) (Γ:=Γ16) hT (ql s63 qt) hm (fn:=Try.f16) Try.func16 (c:=Try.f16.body.getD .skip) (by kernel_rfl) (by kernel_rfl) fun x hx=>by
 obtain ⟨N,h⟩:=e16 x.1 hx
 exact ⟨T16 N,p16,qy _,qNU N,(qNv N x.1).trans h⟩
def qoc (x:Val qO):Val qi:=x
def qqN (x:Val qO):Prop:=Bd qO x
noncomputable def qs3 (N:Nat) (v0:Val qO):Option (qc [qfe]):=chk (qsZ v0.2) (some (((v0.1:ByteArray),(((qp2 v0.2).1:Int),((qp2 v0.2).2:List (Val Y83)))),()))
def qxN:Gam:=[(16,g16)]
theorem qRz:Gam.get qxN 16=some g16:=rfl
def qsW:Nat→Tree:=fun _=> .done
def qBA:Nat→Nm:=fun _=>⟨[],[],false⟩
def qAZ:Nat→Option Jn:=fun _=>none
def qtT:Nat→Option Nm:=fun _=>none
def qxt:Nat→Option Nm:=fun _=>none
theorem qTj:qn qsW (Try.f144.body.getD .skip)=true:=by kernel_rfl
def qfy (N:Nat):Tab:={tr:=qsW,lp:=qBA,ex:=qtT,rg:=qxt,jn:=qAZ,fuel:=N}
theorem qQe (N:Nat):(qfy N).pins=false:=rfl
theorem qVI (N:Nat):qp Try.prog (qfy N):=qw fun _=>rfl
theorem qUg (N:Nat) (i:Nat):(qfy N).tr i=qsW i:=rfl
theorem qK8 (N:Nat) (i:Nat):(qfy N).lp i=qBA i:=rfl
theorem qNn (N:Nat) (i:Nat):(qfy N).ex i=qtT i:=rfl
theorem qMC (N:Nat) (i:Nat):(qfy N).rg i=qxt i:=rfl
theorem qNM (N:Nat) (i:Nat):(qfy N).jn i=qAZ i:=rfl
theorem qKu (N:Nat):(qfy N).fuel=N:=rfl
theorem qRO (N:Nat) (v0:Val qO):qe tt qxN (qfy N) (Try.f144.body.getD .skip) (qr tt true [qfe] [.cell 2 158]) (qv [qg7] 12 (v0,()))=qs3 N v0:=by
 rw [qs3];unfold Try.f144
 simp (maxSteps:=10000000) -implicitDefEqProofs [qUg,qsW,qK8,qBA,qNn,qtT,qMC,qxt,qNM,qAZ,qKu,qQe,qRz,g16]
 try rfl
def qkk:G:={ps:=[qg7],rs:=[qfe],dp:=true,pre:=fun x=>qqN x.1,fn:=fun x=>(qoc x.1,())}
theorem qMr (x:Val qO) (h:qqN x): ∃N,qs3 N x=some (qoc x,()):=⟨0,by
 obtain ⟨s0,s1⟩:=h
 rw [qs3,qd (show qsZ _ from s1)]
 rfl⟩
theorem qLz:Sound Try.prog 144 qkk:=qz (tt:=tt) (Γ:=qxN) hT (ql s16 qt) hm (fn:=Try.f144) Try.func144 (c:=Try.f144.body.getD .skip) (by kernel_rfl) (by kernel_rfl) fun x hx=>by
 obtain ⟨N,h⟩:=qMr x.1 hx
 exact ⟨qfy N,qTj,qy _,qVI N,(qRO N x.1).trans h⟩
def qyY (x:List (Val qO)):List (Val qi):=x
def qp3 (x:List (Val qO)):Prop:=Bd (.slice 168 qO) x
noncomputable def qhC (N:Nat) (v1:List (Val qO)) (k0:(List (Val qi))→Option (qc [qcg])):Nat→Int→(List (Val qi))→Option (qc [qcg])
 | 0,_,_=>none
 | n+1,v2,v3=>bif (decide (v2<(v1.length:Int)))then (chk (0≤v2∧v2<(v1.length:Int)) (chk (qqN (v1.getD v2.toNat (qa qO))) (chk (0≤v2∧v2<(v3.length:Int)) (chk (v2.toNat<v3.length) (qhC N v1 k0 n (IntKind.i64.wrap (v2+(1:Int))) (v3.set v2.toNat (((qoc (v1.getD v2.toNat (qa qO))).1:ByteArray),((((qoc (v1.getD v2.toNat (qa qO))).2).1:Int),(((qoc (v1.getD v2.toNat (qa qO))).2).2:List (Val Y83))))))))))else (k0 v3)
noncomputable def qr3 (N:Nat) (v0:List (Val qO)):Option (qc [qcg]):=chk (0≤(v0.length:Int)∧(v0.length:Int)≤(v0.length:Int)∧(v0.length:Int)≤1048576) (qhC N v0 (fun (v5:List (Val qi))=>some (v5,())) N (0:Int) (List.replicate (v0.length:Int).toNat (qa qi)))
def qkm:Gam:=[(144,qkk)]
theorem qxE:Gam.get qkm 144=some qkk:=rfl
def qnW:Nm:=⟨[true,false,false,true,true],[],false⟩
theorem qAG:qnW.zero=false:=rfl
theorem qyP:qnW.fix=[]:=rfl
theorem qzx:qnW.keep=[true,false,false,true,true]:=rfl
def qr0:Nm:=⟨[false,false,false,true],[],false⟩
theorem qAg:qr0.zero=false:=rfl
theorem qBu:qr0.fix=[]:=rfl
theorem qDw:qr0.keep=[false,false,false,true]:=rfl
def qiU:Nat→Tree:=fun _=> .done
def qlu:Nat→Nm:=fun i=>if i=3 then qnW else ⟨[],[],false⟩
def qoK:Nat→Option Jn:=fun _=>none
def qoH:Nat→Option Nm:=fun i=>if i=0 then some qr0 else none
def qlW:Nat→Option Nm:=fun _=>none
theorem qL1:qn qiU (Try.f119.body.getD .skip)=true:=by kernel_rfl
def qc3 (N:Nat):Tab:={tr:=qiU,lp:=qlu,ex:=qoH,rg:=qlW,jn:=qoK,fuel:=N}
theorem qx4 (N:Nat):(qc3 N).pins=false:=rfl
theorem qVt (N:Nat):qp Try.prog (qc3 N):=qw fun _=>rfl
theorem qyX (N:Nat) (i:Nat):(qc3 N).tr i=qiU i:=rfl
theorem qtN (N:Nat) (i:Nat):(qc3 N).lp i=qlu i:=rfl
theorem qzk (N:Nat) (i:Nat):(qc3 N).ex i=qoH i:=rfl
theorem qyG (N:Nat) (i:Nat):(qc3 N).rg i=qlW i:=rfl
theorem qtZ (N:Nat) (i:Nat):(qc3 N).jn i=qoK i:=rfl
theorem qB2 (N:Nat):(qc3 N).fuel=N:=rfl
noncomputable def qJn:Code:=cut [true,true,false,true,true,true] (Try.f119.body.getD .skip)
theorem qVn {N:Nat} {Q:X→St→Option (qc [qcg])} {e:List LV} {h:List Blk}:qe tt qkm (qc3 N) qJn Q ⟨e,h⟩=qe tt qkm (qc3 N) (cut [true,true,false,true,true,true] (Try.f119.body.getD .skip)) Q ⟨e,h⟩:=rfl
theorem qKB (N:Nat) (v1:List (Val qO)) {k0:(List (Val qi))→Option (qc [qcg])} {Q:X→St→Option (qc [qcg])} {c:Code} (hc:c=qJn) (hret: ∀st,Q .ret st=qI tt true [qcg] [.tmp 2] st) (h0: ∀(v4:List (Val qi)),Q (.exit 0) ⟨[u,u,u,.one (.own 0),u,u,u,u,u,u,u,u,u,u,u,u,u,u,u,u,u,u,u],[.row 158 qi v4 true true 0]⟩=k0 v4): ∀(n:Nat) (v2:Int) (v3:List (Val qi)),qC (qe tt qkm (qc3 N) c) false qnW Q n ⟨[.one (.sl 168 qO v1 1),u,u,.one (.own 0),.one (.int .i64 v2),u,u,u,u,u,u,u,u,u,u,u,u,u,u,u,u,u,u],[.row 158 qi v3 true true 0]⟩=qhC N v1 k0 n v2 v3:=by
 subst hc;intro n;induction n with
 | zero=>intros;rfl
 | succ n ih=>
   intro v2 v3
   rw [qM,qVn,qhC];unfold Try.f119
   simp (maxSteps:=10000000) -implicitDefEqProofs [qyX,qiU,qtN,qlu,qzk,qoH,qyG,qlW,qtZ,qoK,qB2,qx4,qyP,qzx,qAG,qBu,qDw,qAg,qxE,qkk,hret,h0,ih]
theorem qRw (N:Nat) (v0:List (Val qO)):qe tt qkm (qc3 N) (Try.f119.body.getD .skip) (qr tt true [qcg] [.tmp 2]) (qv [qgS] 23 (v0,()))=qr3 N v0:=by
 unfold Try.f119
 simp (maxSteps:=10000000) -implicitDefEqProofs [qyX,qiU,qtN,qlu,qzk,qoH,qyG,qlW,qtZ,qoK,qB2,qx4,qyP,qzx,qAG,qBu,qDw,qAg,qxE,qkk]
 rewrite [qKB (k0:=(fun (v5:List (Val qi))=>some (v5,()))) N _ ?_ ?_ ?_]
 ·rewrite [qr3];first | rfl | simp (maxSteps:=10000000) -implicitDefEqProofs []
 ·rfl
 ·intro;simp only [qK,qL,qN,qm]
 ·intro v5;simp (maxSteps:=10000000) -implicitDefEqProofs [qyX,qiU,qtN,qlu,qzk,qoH,qyG,qlW,qtZ,qoK,qB2,qx4,qyP,qzx,qAG,qBu,qDw,qAg,qxE,qkk]
def qsA:G:={ps:=[qgS],rs:=[qcg],dp:=true,pre:=fun x=>qp3 x.1,fn:=fun x=>(qyY x.1,())}
theorem qR6 (x:List (Val qO)) (h:qp3 x): ∃N,qr3 N x=some (qyY x,()):=⟨List.length x+1,by
 rw [qr3,qd (qjk h.1),Int.toNat_natCast]
 refine qha (F:=fun n i s=>qhC _ x _ n i s) (k:=fun s=>some (s,())) (qa qi) h.1 (fun n i s hi hl=> ?_) (fun n i s hi=> ?_) _ (Nat.lt_succ_self _)
 ·rw [qhC,qj (by omega),qd (by omega),qd (show qqN _ from by rw [qA hi];exact h.2 _ (List.getElem_mem hi)),qA hi,qd (by omega),qd (by omega)]
  rfl
 ·rw [qhC,qh (by omega)]⟩
theorem qQi:Sound Try.prog 119 qsA:=qz (tt:=tt) (Γ:=qkm) hT (ql qLz qt) hm (fn:=Try.f119) Try.func119 (c:=Try.f119.body.getD .skip) (by kernel_rfl) (by kernel_rfl) fun x hx=>by
 obtain ⟨N,h⟩:=qR6 x.1 hx
 exact ⟨qc3 N,qL1,qy _,qVt N,(qRw N x.1).trans h⟩
def qoL (x:Val qE):Val qf:=x
def qq0 (x:Val qE):Prop:=Bd qE x
noncomputable def m80 (N:Nat) (v0:Val qE):Option (qc [qcu]):=chk (qp3 (v0.2.2:List (Val qO))) (some (((v0.1:ByteArray),(v0.2.1:Int),((qyY (v0.2.2:List (Val qO))):List (Val qi))),()))
def Γ80:Gam:=[(119,qsA)]
theorem qTH:Gam.get Γ80 119=some qsA:=rfl
def qri:Nat→Tree:=fun _=> .done
def qxB:Nat→Nm:=fun _=>⟨[],[],false⟩
def qAW:Nat→Option Jn:=fun _=>none
def qwC:Nat→Option Nm:=fun _=>none
def qvh:Nat→Option Nm:=fun _=>none
theorem p80:qn qri (Try.f80.body.getD .skip)=true:=by kernel_rfl
def T80 (N:Nat):Tab:={tr:=qri,lp:=qxB,ex:=qwC,rg:=qvh,jn:=qAW,fuel:=N}
theorem qUH (N:Nat):(T80 N).pins=false:=rfl
theorem qTW (N:Nat):qp Try.prog (T80 N):=qw fun _=>rfl
theorem qJ1 (N:Nat) (i:Nat):(T80 N).tr i=qri i:=rfl
theorem qKj (N:Nat) (i:Nat):(T80 N).lp i=qxB i:=rfl
theorem qP8 (N:Nat) (i:Nat):(T80 N).ex i=qwC i:=rfl
theorem qUI (N:Nat) (i:Nat):(T80 N).rg i=qvh i:=rfl
theorem qMx (N:Nat) (i:Nat):(T80 N).jn i=qAW i:=rfl
theorem qNo (N:Nat):(T80 N).fuel=N:=rfl
theorem qKy (N:Nat) (v0:Val qE):qe tt Γ80 (T80 N) (Try.f80.body.getD .skip) (qr tt true [qcu] [.cell 2 123]) (qv [qgL] 15 (v0,()))=m80 N v0:=by
 rw [m80];unfold Try.f80
 simp (maxSteps:=10000000) -implicitDefEqProofs [qJ1,qri,qKj,qxB,qP8,qwC,qUI,qvh,qMx,qAW,qNo,qUH,qTH,qsA]
 try rfl
def g80:G:={ps:=[qgL],rs:=[qcu],dp:=true,pre:=fun x=>qq0 x.1,fn:=fun x=>(qoL x.1,())}
theorem e80 (x:Val qE) (h:qq0 x): ∃N,m80 N x=some (qoL x,()):=⟨0,by
 obtain ⟨s0,s1,s2⟩:=h
 rw [m80,qd (show qp3 _ from s2)]
 rfl⟩
theorem s80:Sound Try.prog 80 g80:=qz (tt:=tt) (Γ:=Γ80) hT (ql qQi qt) hm (fn:=Try.f80) Try.func80 (c:=Try.f80.body.getD .skip) (by kernel_rfl) (by kernel_rfl) fun x hx=>by
 obtain ⟨N,h⟩:=e80 x.1 hx
 exact ⟨T80 N,p80,qy _,qTW N,(qKy N x.1).trans h⟩
def qJ (x:List (Val qE)):List (Val qf):=x
def qio (x:List (Val qE)):Prop:=Bd (.slice 111 qE) x
noncomputable def qis (N:Nat) (v1:List (Val qE)) (k0:(List (Val qf))→Option (qc [i63])):Nat→Int→(List (Val qf))→Option (qc [i63])
 | 0,_,_=>none
 | n+1,v2,v3=>bif (decide (v2<(v1.length:Int)))then (chk (0≤v2∧v2<(v1.length:Int)) (chk (qq0 (v1.getD v2.toNat (qa qE))) (chk (0≤v2∧v2<(v3.length:Int)) (chk (v2.toNat<v3.length) (qis N v1 k0 n (IntKind.i64.wrap (v2+(1:Int))) (v3.set v2.toNat (((qoL (v1.getD v2.toNat (qa qE))).1:ByteArray),(((qoL (v1.getD v2.toNat (qa qE))).2).1:Int),(((qoL (v1.getD v2.toNat (qa qE))).2).2:List (Val qi)))))))))else (k0 v3)
noncomputable def m26 (N:Nat) (v0:List (Val qE)):Option (qc [i63]):=chk (0≤(v0.length:Int)∧(v0.length:Int)≤(v0.length:Int)∧(v0.length:Int)≤1048576) (qis N v0 (fun (v5:List (Val qf))=>some (v5,())) N (0:Int) (List.replicate (v0.length:Int).toNat (qa qf)))
def Γ26:Gam:=[(80,g80)]
theorem qC6:Gam.get Γ26 80=some g80:=rfl
def qnZ:Nm:=⟨[true,false,false,true,true],[],false⟩
theorem qzZ:qnZ.zero=false:=rfl
theorem quK:qnZ.fix=[]:=rfl
theorem qxQ:qnZ.keep=[true,false,false,true,true]:=rfl
def qrr:Nm:=⟨[false,false,false,true],[],false⟩
theorem qAw:qrr.zero=false:=rfl
theorem qBD:qrr.fix=[]:=rfl
theorem qCp:qrr.keep=[false,false,false,true]:=rfl
def qiV:Nat→Tree:=fun _=> .done
def qmR:Nat→Nm:=fun i=>if i=3 then qnZ else ⟨[],[],false⟩
def qlz:Nat→Option Jn:=fun _=>none
def qmt:Nat→Option Nm:=fun i=>if i=0 then some qrr else none
def qo8:Nat→Option Nm:=fun _=>none
theorem p26:qn qiV (Try.f26.body.getD .skip)=true:=by kernel_rfl
def T26 (N:Nat):Tab:={tr:=qiV,lp:=qmR,ex:=qmt,rg:=qo8,jn:=qlz,fuel:=N}
theorem qwM (N:Nat):(T26 N).pins=false:=rfl
theorem qRN (N:Nat):qp Try.prog (T26 N):=qw fun _=>rfl
theorem qFt (N:Nat) (i:Nat):(T26 N).tr i=qiV i:=rfl
theorem qD1 (N:Nat) (i:Nat):(T26 N).lp i=qmR i:=rfl
theorem qte (N:Nat) (i:Nat):(T26 N).ex i=qmt i:=rfl
theorem quZ (N:Nat) (i:Nat):(T26 N).rg i=qo8 i:=rfl
theorem qyy (N:Nat) (i:Nat):(T26 N).jn i=qlz i:=rfl
theorem qEQ (N:Nat):(T26 N).fuel=N:=rfl
noncomputable def qHv:Code:=cut [true,true,false,true,true,true] (Try.f26.body.getD .skip)
theorem qU4 {N:Nat} {Q:X→St→Option (qc [i63])} {e:List LV} {h:List Blk}:qe tt Γ26 (T26 N) qHv Q ⟨e,h⟩=qe tt Γ26 (T26 N) (cut [true,true,false,true,true,true] (Try.f26.body.getD .skip)) Q ⟨e,h⟩:=rfl
theorem qQQ (N:Nat) (v1:List (Val qE)) {k0:(List (Val qf))→Option (qc [i63])} {Q:X→St→Option (qc [i63])} {c:Code} (hc:c=qHv) (hret: ∀st,Q .ret st=qI tt true [i63] [.tmp 2] st) (h0: ∀(v4:List (Val qf)),Q (.exit 0) ⟨[u,u,u,.one (.own 0),u,u,u,u,u,u,u,u,u,u,u,u,u,u,u,u,u,u,u],[.row 123 qf v4 true true 0]⟩=k0 v4): ∀(n:Nat) (v2:Int) (v3:List (Val qf)),qC (qe tt Γ26 (T26 N) c) false qnZ Q n ⟨[.one (.sl 111 qE v1 1),u,u,.one (.own 0),.one (.int .i64 v2),u,u,u,u,u,u,u,u,u,u,u,u,u,u,u,u,u,u],[.row 123 qf v3 true true 0]⟩=qis N v1 k0 n v2 v3:=by
 subst hc;intro n;induction n with
 | zero=>intros;rfl
 | succ n ih=>
   intro v2 v3
   rw [qM,qU4,qis];unfold Try.f26
   simp (maxSteps:=10000000) -implicitDefEqProofs [qFt,qiV,qD1,qmR,qte,qmt,quZ,qo8,qyy,qlz,qEQ,qwM,quK,qxQ,qzZ,qBD,qCp,qAw,qC6,g80,hret,h0,ih]
theorem qPt (N:Nat) (v0:List (Val qE)):qe tt Γ26 (T26 N) (Try.f26.body.getD .skip) (qr tt true [i63] [.tmp 2]) (qv [i57] 23 (v0,()))=m26 N v0:=by
 unfold Try.f26
 simp (maxSteps:=10000000) -implicitDefEqProofs [qFt,qiV,qD1,qmR,qte,qmt,quZ,qo8,qyy,qlz,qEQ,qwM,quK,qxQ,qzZ,qBD,qCp,qAw,qC6,g80]
 rewrite [qQQ (k0:=(fun (v5:List (Val qf))=>some (v5,()))) N _ ?_ ?_ ?_]
 ·rewrite [m26];first | rfl | simp (maxSteps:=10000000) -implicitDefEqProofs []
 ·rfl
 ·intro;simp only [qK,qL,qN,qm]
 ·intro v5;simp (maxSteps:=10000000) -implicitDefEqProofs [qFt,qiV,qD1,qmR,qte,qmt,quZ,qo8,qyy,qlz,qEQ,qwM,quK,qxQ,qzZ,qBD,qCp,qAw,qC6,g80]
def g26:G:={ps:=[i57],rs:=[i63],dp:=true,pre:=fun x=>qio x.1,fn:=fun x=>(qJ x.1,())}
theorem e26 (x:List (Val qE)) (h:qio x): ∃N,m26 N x=some (qJ x,()):=⟨List.length x+1,by
 rw [m26,qd (qjk h.1),Int.toNat_natCast]
 refine qha (F:=fun n i s=>qis _ x _ n i s) (k:=fun s=>some (s,())) (qa qf) h.1 (fun n i s hi hl=> ?_) (fun n i s hi=> ?_) _ (Nat.lt_succ_self _)
 ·rw [qis,qj (by omega),qd (by omega),qd (show qq0 _ from by rw [qA hi];exact h.2 _ (List.getElem_mem hi)),qA hi,qd (by omega),qd (by omega)]
  rfl
 ·rw [qis,qh (by omega)]⟩
theorem s26:Sound Try.prog 26 g26:=qz (tt:=tt) (Γ:=Γ26) hT (ql s80 qt) hm (fn:=Try.f26) Try.func26 (c:=Try.f26.body.getD .skip) (by kernel_rfl) (by kernel_rfl) fun x hx=>by
 obtain ⟨N,h⟩:=e26 x.1 hx
 exact ⟨T26 N,p26,qy _,qRN N,(qPt N x.1).trans h⟩
def qe3 (x y:List (Val (.int .i64))):Bool:=eqV (.slice 3 (.int .i64)) x y
def qfC (x _:List (Val (.int .i64))):Prop:=Bd (.slice 3 (.int .i64)) x
noncomputable def qit (N:Nat) (v2:List (Val (.int .i64))) (v3:List (Val (.int .i64))) (k0:Unit→Option (qc [i4])):Nat→Int→Option (qc [i4])
 | 0,_=>none
 | n+1,v4=>bif (decide (v4<(v2.length:Int)))then (chk (0≤v4∧v4<(v2.length:Int)) (chk (0≤v4∧v4<(v3.length:Int)) (bif (!(decide (((v2.getD v4.toNat (qa (.int .i64))):Int)=((v3.getD v4.toNat (qa (.int .i64))):Int))))then (some (false,()))else (qit N v2 v3 k0 n (IntKind.i64.wrap (v4+(1:Int)))))))else (k0 ())
noncomputable def m21 (N:Nat) (v0:List (Val (.int .i64))) (v1:List (Val (.int .i64))):Option (qc [i4]):=bif (!(decide ((v0.length:Int)=(v1.length:Int))))then (some (false,()))else (qit N v0 v1 (fun (_:Unit)=>some (true,())) N (0:Int))
def Γ21:Gam:=[]
def qlZ:Nm:=⟨[true,true,false,false,false,true],[],false⟩
theorem qAy:qlZ.zero=false:=rfl
theorem qAQ:qlZ.fix=[]:=rfl
theorem qEU:qlZ.keep=[true,true,false,false,false,true]:=rfl
def qsv:Nm:=⟨[],[],false⟩
theorem qwo:qsv.zero=false:=rfl
theorem qw2:qsv.fix=[]:=rfl
theorem qBF:qsv.keep=[]:=rfl
def qkr:Nat→Tree:=fun i=>if i=6 then .quiet 0 (.quiet 1 (.quiet 2 (.quiet 3 (.quiet 4 (.quiet 5 (.quiet 6 (.quiet 7 (.quiet 8 .done))))))))else .done
def qnt:Nat→Nm:=fun i=>if i=4 then qlZ else ⟨[],[],false⟩
def qlq:Nat→Option Jn:=fun _=>none
def qkH:Nat→Option Nm:=fun i=>if i=0 then some qsv else none
def qms:Nat→Option Nm:=fun _=>none
theorem p21:qn qkr (Try.f21.body.getD .skip)=true:=by kernel_rfl
def T21 (N:Nat):Tab:={tr:=qkr,lp:=qnt,ex:=qkH,rg:=qms,jn:=qlq,fuel:=N}
theorem quJ (N:Nat):(T21 N).pins=false:=rfl
theorem qL7 (N:Nat):qp Try.prog (T21 N):=qw fun _=>rfl
theorem qvo (N:Nat) (i:Nat):(T21 N).tr i=qkr i:=rfl
theorem qzI (N:Nat) (i:Nat):(T21 N).lp i=qnt i:=rfl
theorem qxp (N:Nat) (i:Nat):(T21 N).ex i=qkH i:=rfl
theorem qBX (N:Nat) (i:Nat):(T21 N).rg i=qms i:=rfl
theorem qxr (N:Nat) (i:Nat):(T21 N).jn i=qlq i:=rfl
theorem qvE (N:Nat):(T21 N).fuel=N:=rfl
noncomputable def qHs:Code:=cut [true,true,false,true,true,true] (Try.f21.body.getD .skip)
theorem qMb {N:Nat} {Q:X→St→Option (qc [i4])} {e:List LV} {h:List Blk}:qe tt Γ21 (T21 N) qHs Q ⟨e,h⟩=qe tt Γ21 (T21 N) (cut [true,true,false,true,true,true] (Try.f21.body.getD .skip)) Q ⟨e,h⟩:=rfl
theorem qQT (N:Nat) (v2:List (Val (.int .i64))) (v3:List (Val (.int .i64))) {k0:Unit→Option (qc [i4])} {Q:X→St→Option (qc [i4])} {c:Code} (hc:c=qHs) (hret: ∀st,Q .ret st=qI tt true [i4] [.tmp 4] st) (h0:Q (.exit 0) ⟨[u,u,u,u,u,u,u,u,u,u,u,u,u,u,u,u,u,u,u,u,u,u,u,u,u,u],[]⟩=k0 ()): ∀(n:Nat) (v4:Int),qC (qe tt Γ21 (T21 N) c) false qlZ Q n ⟨[.one (.sl 3 (.int .i64) v2 0),.one (.sl 3 (.int .i64) v3 0),u,u,u,.one (.int .i64 v4),u,u,u,u,u,u,u,u,u,u,u,u,u,u,u,u,u,u,u,u],[]⟩=qit N v2 v3 k0 n v4:=by
 subst hc;intro n;induction n with
 | zero=>intros;rfl
 | succ n ih=>
   intro v4
   rw [qM,qMb,qit];unfold Try.f21
   simp (maxSteps:=10000000) -implicitDefEqProofs [qvo,qkr,qzI,qnt,qxp,qkH,qBX,qms,qxr,qlq,qvE,quJ,qAQ,qEU,qAy,qw2,qBF,qwo,hret,h0,ih]
theorem qVP (N:Nat) (v0:List (Val (.int .i64))) (v1:List (Val (.int .i64))):qe tt Γ21 (T21 N) (Try.f21.body.getD .skip) (qr tt true [i4] [.tmp 4]) (qv [i27,i27] 26 (v0,v1,()))=m21 N v0 v1:=by
 unfold Try.f21
 simp (maxSteps:=10000000) -implicitDefEqProofs [qvo,qkr,qzI,qnt,qxp,qkH,qBX,qms,qxr,qlq,qvE,quJ,qAQ,qEU,qAy,qw2,qBF,qwo]
 rewrite [qQT (k0:=(fun (_:Unit)=>some (true,()))) N _ _ ?_ ?_ ?_]
 ·rewrite [m21];first | rfl | simp (maxSteps:=10000000) -implicitDefEqProofs []
 ·rfl
 ·intro;simp only [qK,qL,qN,qm]
 ·simp (maxSteps:=10000000) -implicitDefEqProofs [qvo,qkr,qzI,qnt,qxp,qkH,qBX,qms,qxr,qlq,qvE,quJ,qAQ,qEU,qAy,qw2,qBF,qwo]
def g21:G:={ps:=[i27,i27],rs:=[i4],dp:=true,pre:=fun x=>qfC x.1 x.2.1,fn:=fun x=>(qe3 x.1 x.2.1,())}
theorem e21 (x y:List (Val (.int .i64))) (h:qfC x y): ∃N,m21 N x y=some (qe3 x y,()):=⟨List.length x+1,by
 rw [m21,qX]
 rw [qe3,eqS]
 by_cases c:List.length x=List.length y
 ·rw [qj (by omega)]
  refine (qnF (f:=eqV (.int .i64)) (xs:=x) (ys:=y) (F:=fun n i=>qit _ x y _ n i) (k:=fun _=>some (true,())) (r:=some (false,())) h.1 c (fun n i hi hi2=> ?_) (fun n i hi=> ?_) _ (Nat.lt_succ_self _)).trans qi8
  ·rw [qit,qj (by omega),qd (by omega),qd (by omega),qA hi,qA hi2,qX]
   rfl
  ·rw [qit,qh (by omega)]
 ·rw [qh (by omega),qi0 _ _ c]⟩
theorem s21:Sound Try.prog 21 g21:=qz (tt:=tt) (Γ:=Γ21) hT qt hm (fn:=Try.f21) Try.func21 (c:=Try.f21.body.getD .skip) (by kernel_rfl) (by kernel_rfl) fun x hx=>by
 obtain ⟨N,h⟩:=e21 x.1 x.2.1 hx
 exact ⟨T21 N,p21,qy _,qL7 N,(qVP N x.1 x.2.1).trans h⟩
def qmu (x y:Val Y83):Bool:=eqV Y83 x y
def qi4 (x _:Val Y83):Prop:=Bd Y83 x
noncomputable def qpA (N:Nat) (v0:Val Y83) (v1:Val Y83):Option (qc [i4]):=chk (qfC (v0.1:List (Val (.int .i64))) (v1.1:List (Val (.int .i64)))) (bif (!((qe3 (v0.1:List (Val (.int .i64))) (v1.1:List (Val (.int .i64)))):Bool))then (some (false,()))else (bif (!(decide ((v0.2.1:Int)=(v1.2.1:Int))))then (some (false,()))else (bif (!((v0.2.2:Bool)==(v1.2.2:Bool)))then (some (false,()))else (some (true,())))))
def qAO:Gam:=[(21,g21)]
theorem qSO:Gam.get qAO 21=some g21:=rfl
def qpL:Nat→Tree:=fun _=> .done
def qtm:Nat→Nm:=fun _=>⟨[],[],false⟩
def qtn:Nat→Option Jn:=fun _=>none
def qB9:Nat→Option Nm:=fun _=>none
def qvW:Nat→Option Nm:=fun _=>none
theorem qLy:qn qpL (Try.f115.body.getD .skip)=true:=by kernel_rfl
def qfL (N:Nat):Tab:={tr:=qpL,lp:=qtm,ex:=qB9,rg:=qvW,jn:=qtn,fuel:=N}
theorem qRQ (N:Nat):(qfL N).pins=false:=rfl
theorem qNw (N:Nat):qp Try.prog (qfL N):=qw fun _=>rfl
theorem qRY (N:Nat) (i:Nat):(qfL N).tr i=qpL i:=rfl
theorem qK3 (N:Nat) (i:Nat):(qfL N).lp i=qtm i:=rfl
theorem qK2 (N:Nat) (i:Nat):(qfL N).ex i=qB9 i:=rfl
theorem qVq (N:Nat) (i:Nat):(qfL N).rg i=qvW i:=rfl
theorem qJZ (N:Nat) (i:Nat):(qfL N).jn i=qtn i:=rfl
theorem qMB (N:Nat):(qfL N).fuel=N:=rfl
theorem qRd (N:Nat) (v0:Val Y83) (v1:Val Y83):qe tt qAO (qfL N) (Try.f115.body.getD .skip) (qr tt true [i4] [.tmp 4]) (qv [i83,i83] 21 (v0,v1,()))=qpA N v0 v1:=by
 rw [qpA];unfold Try.f115
 simp (maxSteps:=10000000) -implicitDefEqProofs [qRY,qpL,qK3,qtm,qK2,qB9,qVq,qvW,qJZ,qtn,qMB,qRQ,qSO,g21]
 try rfl
def qgh:G:={ps:=[i83,i83],rs:=[i4],dp:=true,pre:=fun x=>qi4 x.1 x.2.1,fn:=fun x=>(qmu x.1 x.2.1,())}
theorem qLl (x y:Val Y83) (h:qi4 x y): ∃N,qpA N x y=some (qmu x y,()):=⟨0,by
 obtain ⟨s0,s1,s2⟩:=h
 rw [qpA,qd (show qfC _ _ from s0)]
 obtain ⟨x0,x1,x2⟩:=x
 obtain ⟨y0,y1,y2⟩:=y
 change _=some ((eqV (.slice 3 (.int .i64)) x0 y0&&(eqV (.int .i64) x1 y1&&eqV .bool x2 y2)),())
 simp only [qX]
 show _=_
 generalize he0:eqV (.slice 3 (.int .i64)) x0 y0=e0
 have hd0:qe3 x0 y0=e0:=he0
 generalize he1:eqV (.int .i64) x1 y1=e1
 have hd1:decide ((x1:Int)=y1)=e1:=he1
 generalize he2:eqV .bool x2 y2=e2
 have hd2:((x2:Bool)==y2)=e2:=he2
 simp only [hd0,hd1,hd2]
 cases e0<;>cases e1<;>cases e2<;>rfl⟩
theorem qJb:Sound Try.prog 115 qgh:=qz (tt:=tt) (Γ:=qAO) hT (ql s21 qt) hm (fn:=Try.f115) Try.func115 (c:=Try.f115.body.getD .skip) (by kernel_rfl) (by kernel_rfl) fun x hx=>by
 obtain ⟨N,h⟩:=qLl x.1 x.2.1 hx
 exact ⟨qfL N,qLy,qy _,qNw N,(qRd N x.1 x.2.1).trans h⟩
def qo3 (x y:List (Val Y83)):Bool:=eqV (.slice 83 Y83) x y
def qpE (x _:List (Val Y83)):Prop:=Bd (.slice 83 Y83) x
noncomputable def qhw (N:Nat) (v2:List (Val Y83)) (v3:List (Val Y83)) (k0:Unit→Option (qc [i4])):Nat→Int→Option (qc [i4])
 | 0,_=>none
 | n+1,v4=>bif (decide (v4<(v2.length:Int)))then (chk (0≤v4∧v4<(v2.length:Int)) (chk (0≤v4∧v4<(v3.length:Int)) (chk (qi4 (v2.getD v4.toNat (qa Y83)) (v3.getD v4.toNat (qa Y83))) (bif (!((qmu (v2.getD v4.toNat (qa Y83)) (v3.getD v4.toNat (qa Y83))):Bool))then (some (false,()))else (qhw N v2 v3 k0 n (IntKind.i64.wrap (v4+(1:Int))))))))else (k0 ())
noncomputable def m74 (N:Nat) (v0:List (Val Y83)) (v1:List (Val Y83)):Option (qc [i4]):=bif (!(decide ((v0.length:Int)=(v1.length:Int))))then (some (false,()))else (qhw N v0 v1 (fun (_:Unit)=>some (true,())) N (0:Int))
def Γ74:Gam:=[(115,qgh)]
theorem quO:Gam.get Γ74 115=some qgh:=rfl
def qls:Nm:=⟨[true,true,false,false,false,true],[],false⟩
theorem quF:qls.zero=false:=rfl
theorem qAP:qls.fix=[]:=rfl
theorem qBv:qls.keep=[true,true,false,false,false,true]:=rfl
def qr7:Nm:=⟨[],[],false⟩
theorem qtW:qr7.zero=false:=rfl
theorem qzR:qr7.fix=[]:=rfl
theorem qvJ:qr7.keep=[]:=rfl
def qjU:Nat→Tree:=fun i=>if i=6 then .quiet 0 (.quiet 1 (.quiet 2 (.quiet 3 (.quiet 4 (.quiet 5 (.quiet 6 (.quiet 7 (.alt 8 (.quiet 9 .done) .stop))))))))else .done
def qn5:Nat→Nm:=fun i=>if i=4 then qls else ⟨[],[],false⟩
def qky:Nat→Option Jn:=fun _=>none
def qnY:Nat→Option Nm:=fun i=>if i=0 then some qr7 else none
def qoB:Nat→Option Nm:=fun _=>none
theorem p74:qn qjU (Try.f74.body.getD .skip)=true:=by kernel_rfl
def T74 (N:Nat):Tab:={tr:=qjU,lp:=qn5,ex:=qnY,rg:=qoB,jn:=qky,fuel:=N}
theorem qzv (N:Nat):(T74 N).pins=false:=rfl
theorem qP7 (N:Nat):qp Try.prog (T74 N):=qw fun _=>rfl
theorem qEq (N:Nat) (i:Nat):(T74 N).tr i=qjU i:=rfl
theorem quP (N:Nat) (i:Nat):(T74 N).lp i=qn5 i:=rfl
theorem qCW (N:Nat) (i:Nat):(T74 N).ex i=qnY i:=rfl
theorem qvq (N:Nat) (i:Nat):(T74 N).rg i=qoB i:=rfl
theorem qEn (N:Nat) (i:Nat):(T74 N).jn i=qky i:=rfl
theorem qua (N:Nat):(T74 N).fuel=N:=rfl
noncomputable def qHB:Code:=cut [true,true,false,true,true,true] (Try.f74.body.getD .skip)
theorem qNI {N:Nat} {Q:X→St→Option (qc [i4])} {e:List LV} {h:List Blk}:qe tt Γ74 (T74 N) qHB Q ⟨e,h⟩=qe tt Γ74 (T74 N) (cut [true,true,false,true,true,true] (Try.f74.body.getD .skip)) Q ⟨e,h⟩:=rfl
theorem qJU (N:Nat) (v2:List (Val Y83)) (v3:List (Val Y83)) {k0:Unit→Option (qc [i4])} {Q:X→St→Option (qc [i4])} {c:Code} (hc:c=qHB) (hret: ∀st,Q .ret st=qI tt true [i4] [.tmp 4] st) (h0:Q (.exit 0) ⟨[u,u,u,u,u,u,u,u,u,u,u,u,u,u,u,u,u,u,u,u,u,u,u,u,u,u,u],[]⟩=k0 ()): ∀(n:Nat) (v4:Int),qC (qe tt Γ74 (T74 N) c) false qls Q n ⟨[.one (.sl 83 Y83 v2 0),.one (.sl 83 Y83 v3 0),u,u,u,.one (.int .i64 v4),u,u,u,u,u,u,u,u,u,u,u,u,u,u,u,u,u,u,u,u,u],[]⟩=qhw N v2 v3 k0 n v4:=by
 subst hc;intro n;induction n with
 | zero=>intros;rfl
 | succ n ih=>
   intro v4
   rw [qM,qNI,qhw];unfold Try.f74
   simp (maxSteps:=10000000) -implicitDefEqProofs [qEq,qjU,quP,qn5,qCW,qnY,qvq,qoB,qEn,qky,qua,qzv,qAP,qBv,quF,qzR,qvJ,qtW,quO,qgh,hret,h0,ih]
theorem qLT (N:Nat) (v0:List (Val Y83)) (v1:List (Val Y83)):qe tt Γ74 (T74 N) (Try.f74.body.getD .skip) (qr tt true [i4] [.tmp 4]) (qv [i24,i24] 27 (v0,v1,()))=m74 N v0 v1:=by
 unfold Try.f74
 simp (maxSteps:=10000000) -implicitDefEqProofs [qEq,qjU,quP,qn5,qCW,qnY,qvq,qoB,qEn,qky,qua,qzv,qAP,qBv,quF,qzR,qvJ,qtW,quO,qgh]
 rewrite [qJU (k0:=(fun (_:Unit)=>some (true,()))) N _ _ ?_ ?_ ?_]
 ·rewrite [m74];first | rfl | simp (maxSteps:=10000000) -implicitDefEqProofs []
 ·rfl
 ·intro;simp only [qK,qL,qN,qm]
 ·simp (maxSteps:=10000000) -implicitDefEqProofs [qEq,qjU,quP,qn5,qCW,qnY,qvq,qoB,qEn,qky,qua,qzv,qAP,qBv,quF,qzR,qvJ,qtW,quO,qgh]
def g74:G:={ps:=[i24,i24],rs:=[i4],dp:=true,pre:=fun x=>qpE x.1 x.2.1,fn:=fun x=>(qo3 x.1 x.2.1,())}
theorem e74 (x y:List (Val Y83)) (h:qpE x y): ∃N,m74 N x y=some (qo3 x y,()):=⟨List.length x+1,by
 rw [m74,qX]
 rw [qo3,eqS]
 by_cases c:List.length x=List.length y
 ·rw [qj (by omega)]
  refine (qnF (f:=eqV Y83) (xs:=x) (ys:=y) (F:=fun n i=>qhw _ x y _ n i) (k:=fun _=>some (true,())) (r:=some (false,())) h.1 c (fun n i hi hi2=> ?_) (fun n i hi=> ?_) _ (Nat.lt_succ_self _)).trans qi8
  ·rw [qhw,qj (by omega),qd (by omega),qd (by omega),qd (show qi4 _ _ from by rw [qA hi];exact h.2 _ (List.getElem_mem hi)),qA hi,qA hi2,qX]
   rfl
  ·rw [qhw,qh (by omega)]
 ·rw [qh (by omega),qi0 _ _ c]⟩
theorem s74:Sound Try.prog 74 g74:=qz (tt:=tt) (Γ:=Γ74) hT (ql qJb qt) hm (fn:=Try.f74) Try.func74 (c:=Try.f74.body.getD .skip) (by kernel_rfl) (by kernel_rfl) fun x hx=>by
 obtain ⟨N,h⟩:=e74 x.1 x.2.1 hx
 exact ⟨T74 N,p74,qy _,qP7 N,(qLT N x.1 x.2.1).trans h⟩
def qqz (x y:Val Y26):Bool:=eqV Y26 x y
def qqd (x _:Val Y26):Prop:=Bd Y26 x
noncomputable def m20 (N:Nat) (v0:Val Y26) (v1:Val Y26):Option (qc [i4]):=bif (!(decide ((v0.1:Int)=(v1.1:Int))))then (some (false,()))else (chk (qpE (v0.2:List (Val Y83)) (v1.2:List (Val Y83))) (bif (!((qo3 (v0.2:List (Val Y83)) (v1.2:List (Val Y83))):Bool))then (some (false,()))else (some (true,()))))
def Γ20:Gam:=[(74,g74)]
theorem qTp:Gam.get Γ20 74=some g74:=rfl
def qpC:Nat→Tree:=fun _=> .done
def qtO:Nat→Nm:=fun _=>⟨[],[],false⟩
def qzo:Nat→Option Jn:=fun _=>none
def qvY:Nat→Option Nm:=fun _=>none
def qz5:Nat→Option Nm:=fun _=>none
theorem p20:qn qpC (Try.f20.body.getD .skip)=true:=by kernel_rfl
def T20 (N:Nat):Tab:={tr:=qpC,lp:=qtO,ex:=qvY,rg:=qz5,jn:=qzo,fuel:=N}
theorem qT5 (N:Nat):(T20 N).pins=false:=rfl
theorem qOl (N:Nat):qp Try.prog (T20 N):=qw fun _=>rfl
theorem qNs (N:Nat) (i:Nat):(T20 N).tr i=qpC i:=rfl
theorem qS1 (N:Nat) (i:Nat):(T20 N).lp i=qtO i:=rfl
theorem qS5 (N:Nat) (i:Nat):(T20 N).ex i=qvY i:=rfl
theorem qNy (N:Nat) (i:Nat):(T20 N).rg i=qz5 i:=rfl
theorem qL5 (N:Nat) (i:Nat):(T20 N).jn i=qzo i:=rfl
theorem qPG (N:Nat):(T20 N).fuel=N:=rfl
theorem qTy (N:Nat) (v0:Val Y26) (v1:Val Y26):qe tt Γ20 (T20 N) (Try.f20.body.getD .skip) (qr tt true [i4] [.tmp 4]) (qv [i26,i26] 16 (v0,v1,()))=m20 N v0 v1:=by
 rw [m20];unfold Try.f20
 simp (maxSteps:=10000000) -implicitDefEqProofs [qNs,qpC,qS1,qtO,qS5,qvY,qNy,qz5,qL5,qzo,qPG,qT5,qTp,g74]
 try rfl
def g20:G:={ps:=[i26,i26],rs:=[i4],dp:=true,pre:=fun x=>qqd x.1 x.2.1,fn:=fun x=>(qqz x.1 x.2.1,())}
theorem e20 (x y:Val Y26) (h:qqd x y): ∃N,m20 N x y=some (qqz x y,()):=⟨0,by
 obtain ⟨s0,s1⟩:=h
 rw [m20,qd (show qpE _ _ from s1)]
 obtain ⟨x0,x1⟩:=x
 obtain ⟨y0,y1⟩:=y
 change _=some ((eqV (.int .i64) x0 y0&&eqV (.slice 83 Y83) x1 y1),())
 simp only [qX]
 show _=_
 generalize he0:eqV (.int .i64) x0 y0=e0
 have hd0:decide ((x0:Int)=y0)=e0:=he0
 generalize he1:eqV (.slice 83 Y83) x1 y1=e1
 have hd1:qo3 x1 y1=e1:=he1
 simp only [hd0,hd1]
 cases e0<;>cases e1<;>rfl⟩
theorem s20:Sound Try.prog 20 g20:=qz (tt:=tt) (Γ:=Γ20) hT (ql s74 qt) hm (fn:=Try.f20) Try.func20 (c:=Try.f20.body.getD .skip) (by kernel_rfl) (by kernel_rfl) fun x hx=>by
 obtain ⟨N,h⟩:=e20 x.1 x.2.1 hx
 exact ⟨T20 N,p20,qy _,qOl N,(qTy N x.1 x.2.1).trans h⟩
def qDa (x y:Val qi):Bool:=eqV qi x y
def qrB (x _:Val qi):Prop:=Bd qi x
noncomputable def qsM (N:Nat) (v0:Val qi) (v1:Val qi):Option (qc [i4]):=bif (!(ByteArray.toList (v0.1:ByteArray)==ByteArray.toList (v1.1:ByteArray)))then (some (false,()))else (chk (qqd v0.2 v1.2) (bif (!((qqz v0.2 v1.2):Bool))then (some (false,()))else (some (true,()))))
def qFE:Gam:=[(20,g20)]
theorem qQ3:Gam.get qFE 20=some g20:=rfl
def qpj:Nat→Tree:=fun _=> .done
def qyE:Nat→Nm:=fun _=>⟨[],[],false⟩
def qDB:Nat→Option Jn:=fun _=>none
def qFk:Nat→Option Nm:=fun _=>none
def quS:Nat→Option Nm:=fun _=>none
theorem qOo:qn qpj (Try.f149.body.getD .skip)=true:=by kernel_rfl
def qfK (N:Nat):Tab:={tr:=qpj,lp:=qyE,ex:=qFk,rg:=quS,jn:=qDB,fuel:=N}
theorem qOn (N:Nat):(qfK N).pins=false:=rfl
theorem qPJ (N:Nat):qp Try.prog (qfK N):=qw fun _=>rfl
theorem qTl (N:Nat) (i:Nat):(qfK N).tr i=qpj i:=rfl
theorem qSu (N:Nat) (i:Nat):(qfK N).lp i=qyE i:=rfl
theorem qOX (N:Nat) (i:Nat):(qfK N).ex i=qFk i:=rfl
theorem qLb (N:Nat) (i:Nat):(qfK N).rg i=quS i:=rfl
theorem qTq (N:Nat) (i:Nat):(qfK N).jn i=qDB i:=rfl
theorem qKc (N:Nat):(qfK N).fuel=N:=rfl
theorem qNW (N:Nat) (v0:Val qi) (v1:Val qi):qe tt qFE (qfK N) (Try.f149.body.getD .skip) (qr tt true [i4] [.tmp 4]) (qv [qfe,qfe] 16 (v0,v1,()))=qsM N v0 v1:=by
 rw [qsM];unfold Try.f149
 simp (maxSteps:=10000000) -implicitDefEqProofs [qTl,qpj,qSu,qyE,qOX,qFk,qLb,quS,qTq,qDB,qKc,qOn,qQ3,g20]
 try rfl
def qjC:G:={ps:=[qfe,qfe],rs:=[i4],dp:=true,pre:=fun x=>qrB x.1 x.2.1,fn:=fun x=>(qDa x.1 x.2.1,())}
theorem qNX (x y:Val qi) (h:qrB x y): ∃N,qsM N x y=some (qDa x y,()):=⟨0,by
 obtain ⟨s0,s1⟩:=h
 rw [qsM,qd (show qqd _ _ from s1)]
 obtain ⟨x0,x1⟩:=x
 obtain ⟨y0,y1⟩:=y
 change _=some ((eqV .str x0 y0&&eqV Y26 x1 y1),())
 simp only [qX]
 show _=_
 generalize he0:eqV .str x0 y0=e0
 have hd0:(ByteArray.toList x0==ByteArray.toList y0)=e0:=he0
 generalize he1:eqV Y26 x1 y1=e1
 have hd1:qqz x1 y1=e1:=he1
 simp only [hd0,hd1]
 cases e0<;>cases e1<;>rfl⟩
theorem qP2:Sound Try.prog 149 qjC:=qz (tt:=tt) (Γ:=qFE) hT (ql s20 qt) hm (fn:=Try.f149) Try.func149 (c:=Try.f149.body.getD .skip) (by kernel_rfl) (by kernel_rfl) fun x hx=>by
 obtain ⟨N,h⟩:=qNX x.1 x.2.1 hx
 exact ⟨qfK N,qOo,qy _,qPJ N,(qNW N x.1 x.2.1).trans h⟩
def qn3 (x y:List (Val qi)):Bool:=eqV (.slice 158 qi) x y
def qpy (x _:List (Val qi)):Prop:=Bd (.slice 158 qi) x
noncomputable def qhx (N:Nat) (v2:List (Val qi)) (v3:List (Val qi)) (k0:Unit→Option (qc [i4])):Nat→Int→Option (qc [i4])
 | 0,_=>none
 | n+1,v4=>bif (decide (v4<(v2.length:Int)))then (chk (0≤v4∧v4<(v2.length:Int)) (chk (0≤v4∧v4<(v3.length:Int)) (chk (qrB (v2.getD v4.toNat (qa qi)) (v3.getD v4.toNat (qa qi))) (bif (!((qDa (v2.getD v4.toNat (qa qi)) (v3.getD v4.toNat (qa qi))):Bool))then (some (false,()))else (qhx N v2 v3 k0 n (IntKind.i64.wrap (v4+(1:Int))))))))else (k0 ())
noncomputable def qrE (N:Nat) (v0:List (Val qi)) (v1:List (Val qi)):Option (qc [i4]):=bif (!(decide ((v0.length:Int)=(v1.length:Int))))then (some (false,()))else (qhx N v0 v1 (fun (_:Unit)=>some (true,())) N (0:Int))
def qjb:Gam:=[(149,qjC)]
theorem qud:Gam.get qjb 149=some qjC:=rfl
def qma:Nm:=⟨[true,true,false,false,false,true],[],false⟩
theorem qEA:qma.zero=false:=rfl
theorem qE7:qma.fix=[]:=rfl
theorem qDA:qma.keep=[true,true,false,false,false,true]:=rfl
def qqH:Nm:=⟨[],[],false⟩
theorem qBl:qqH.zero=false:=rfl
theorem qtH:qqH.fix=[]:=rfl
theorem qFw:qqH.keep=[]:=rfl
def qjT:Nat→Tree:=fun i=>if i=6 then .quiet 0 (.quiet 1 (.quiet 2 (.quiet 3 (.quiet 4 (.quiet 5 (.quiet 6 (.quiet 7 (.alt 8 (.quiet 9 .done) .stop))))))))else .done
def qlm:Nat→Nm:=fun i=>if i=4 then qma else ⟨[],[],false⟩
def qn0:Nat→Option Jn:=fun _=>none
def qoO:Nat→Option Nm:=fun i=>if i=0 then some qqH else none
def qmQ:Nat→Option Nm:=fun _=>none
theorem qTQ:qn qjT (Try.f123.body.getD .skip)=true:=by kernel_rfl
def qef (N:Nat):Tab:={tr:=qjT,lp:=qlm,ex:=qoO,rg:=qmQ,jn:=qn0,fuel:=N}
theorem quf (N:Nat):(qef N).pins=false:=rfl
theorem qQV (N:Nat):qp Try.prog (qef N):=qw fun _=>rfl
theorem qEc (N:Nat) (i:Nat):(qef N).tr i=qjT i:=rfl
theorem quw (N:Nat) (i:Nat):(qef N).lp i=qlm i:=rfl
theorem qAt (N:Nat) (i:Nat):(qef N).ex i=qoO i:=rfl
theorem qAF (N:Nat) (i:Nat):(qef N).rg i=qmQ i:=rfl
theorem qzM (N:Nat) (i:Nat):(qef N).jn i=qn0 i:=rfl
theorem qwE (N:Nat):(qef N).fuel=N:=rfl
noncomputable def qFW:Code:=cut [true,true,false,true,true,true] (Try.f123.body.getD .skip)
theorem qOw {N:Nat} {Q:X→St→Option (qc [i4])} {e:List LV} {h:List Blk}:qe tt qjb (qef N) qFW Q ⟨e,h⟩=qe tt qjb (qef N) (cut [true,true,false,true,true,true] (Try.f123.body.getD .skip)) Q ⟨e,h⟩:=rfl
theorem qTo (N:Nat) (v2:List (Val qi)) (v3:List (Val qi)) {k0:Unit→Option (qc [i4])} {Q:X→St→Option (qc [i4])} {c:Code} (hc:c=qFW) (hret: ∀st,Q .ret st=qI tt true [i4] [.tmp 4] st) (h0:Q (.exit 0) ⟨[u,u,u,u,u,u,u,u,u,u,u,u,u,u,u,u,u,u,u,u,u,u,u,u,u,u,u],[]⟩=k0 ()): ∀(n:Nat) (v4:Int),qC (qe tt qjb (qef N) c) false qma Q n ⟨[.one (.sl 158 qi v2 0),.one (.sl 158 qi v3 0),u,u,u,.one (.int .i64 v4),u,u,u,u,u,u,u,u,u,u,u,u,u,u,u,u,u,u,u,u,u],[]⟩=qhx N v2 v3 k0 n v4:=by
 subst hc;intro n;induction n with
 | zero=>intros;rfl
 | succ n ih=>
   intro v4
   rw [qM,qOw,qhx];unfold Try.f123
   simp (maxSteps:=10000000) -implicitDefEqProofs [qEc,qjT,quw,qlm,qAt,qoO,qAF,qmQ,qzM,qn0,qwE,quf,qE7,qDA,qEA,qtH,qFw,qBl,qud,qjC,hret,h0,ih]
theorem qN6 (N:Nat) (v0:List (Val qi)) (v1:List (Val qi)):qe tt qjb (qef N) (Try.f123.body.getD .skip) (qr tt true [i4] [.tmp 4]) (qv [qcg,qcg] 27 (v0,v1,()))=qrE N v0 v1:=by
 unfold Try.f123
 simp (maxSteps:=10000000) -implicitDefEqProofs [qEc,qjT,quw,qlm,qAt,qoO,qAF,qmQ,qzM,qn0,qwE,quf,qE7,qDA,qEA,qtH,qFw,qBl,qud,qjC]
 rewrite [qTo (k0:=(fun (_:Unit)=>some (true,()))) N _ _ ?_ ?_ ?_]
 ·rewrite [qrE];first | rfl | simp (maxSteps:=10000000) -implicitDefEqProofs []
 ·rfl
 ·intro;simp only [qK,qL,qN,qm]
 ·simp (maxSteps:=10000000) -implicitDefEqProofs [qEc,qjT,quw,qlm,qAt,qoO,qAF,qmQ,qzM,qn0,qwE,quf,qE7,qDA,qEA,qtH,qFw,qBl,qud,qjC]
def qrt:G:={ps:=[qcg,qcg],rs:=[i4],dp:=true,pre:=fun x=>qpy x.1 x.2.1,fn:=fun x=>(qn3 x.1 x.2.1,())}
theorem qO4 (x y:List (Val qi)) (h:qpy x y): ∃N,qrE N x y=some (qn3 x y,()):=⟨List.length x+1,by
 rw [qrE,qX]
 rw [qn3,eqS]
 by_cases c:List.length x=List.length y
 ·rw [qj (by omega)]
  refine (qnF (f:=eqV qi) (xs:=x) (ys:=y) (F:=fun n i=>qhx _ x y _ n i) (k:=fun _=>some (true,())) (r:=some (false,())) h.1 c (fun n i hi hi2=> ?_) (fun n i hi=> ?_) _ (Nat.lt_succ_self _)).trans qi8
  ·rw [qhx,qj (by omega),qd (by omega),qd (by omega),qd (show qrB _ _ from by rw [qA hi];exact h.2 _ (List.getElem_mem hi)),qA hi,qA hi2,qX]
   rfl
  ·rw [qhx,qh (by omega)]
 ·rw [qh (by omega),qi0 _ _ c]⟩
theorem qUc:Sound Try.prog 123 qrt:=qz (tt:=tt) (Γ:=qjb) hT (ql qP2 qt) hm (fn:=Try.f123) Try.func123 (c:=Try.f123.body.getD .skip) (by kernel_rfl) (by kernel_rfl) fun x hx=>by
 obtain ⟨N,h⟩:=qO4 x.1 x.2.1 hx
 exact ⟨qef N,qTQ,qy _,qQV N,(qN6 N x.1 x.2.1).trans h⟩
def qvp (x y:Val qf):Bool:=eqV qf x y
def qqO (x _:Val qf):Prop:=Bd qf x
noncomputable def m84 (N:Nat) (v0:Val qf) (v1:Val qf):Option (qc [i4]):=bif (!(ByteArray.toList (v0.1:ByteArray)==ByteArray.toList (v1.1:ByteArray)))then (some (false,()))else (bif (!(decide ((v0.2.1:Int)=(v1.2.1:Int))))then (some (false,()))else (chk (qpy (v0.2.2:List (Val qi)) (v1.2.2:List (Val qi))) (bif (!((qn3 (v0.2.2:List (Val qi)) (v1.2.2:List (Val qi))):Bool))then (some (false,()))else (some (true,())))))
def Γ84:Gam:=[(123,qrt)]
theorem qJG:Gam.get Γ84 123=some qrt:=rfl
def qpF:Nat→Tree:=fun _=> .done
def qDc:Nat→Nm:=fun _=>⟨[],[],false⟩
def qEy:Nat→Option Jn:=fun _=>none
def qAv:Nat→Option Nm:=fun _=>none
def qz4:Nat→Option Nm:=fun _=>none
theorem p84:qn qpF (Try.f84.body.getD .skip)=true:=by kernel_rfl
def T84 (N:Nat):Tab:={tr:=qpF,lp:=qDc,ex:=qAv,rg:=qz4,jn:=qEy,fuel:=N}
theorem qLk (N:Nat):(T84 N).pins=false:=rfl
theorem qOs (N:Nat):qp Try.prog (T84 N):=qw fun _=>rfl
theorem qNb (N:Nat) (i:Nat):(T84 N).tr i=qpF i:=rfl
theorem qLu (N:Nat) (i:Nat):(T84 N).lp i=qDc i:=rfl
theorem qUY (N:Nat) (i:Nat):(T84 N).ex i=qAv i:=rfl
theorem qVy (N:Nat) (i:Nat):(T84 N).rg i=qz4 i:=rfl
theorem qOH (N:Nat) (i:Nat):(T84 N).jn i=qEy i:=rfl
theorem qS8 (N:Nat):(T84 N).fuel=N:=rfl
theorem qK5 (N:Nat) (v0:Val qf) (v1:Val qf):qe tt Γ84 (T84 N) (Try.f84.body.getD .skip) (qr tt true [i4] [.tmp 4]) (qv [qcu,qcu] 21 (v0,v1,()))=m84 N v0 v1:=by
 rw [m84];unfold Try.f84
 simp (maxSteps:=10000000) -implicitDefEqProofs [qNb,qpF,qLu,qDc,qUY,qAv,qVy,qz4,qOH,qEy,qS8,qLk,qJG,qrt]
 try rfl
def g84:G:={ps:=[qcu,qcu],rs:=[i4],dp:=true,pre:=fun x=>qqO x.1 x.2.1,fn:=fun x=>(qvp x.1 x.2.1,())}
theorem e84 (x y:Val qf) (h:qqO x y): ∃N,m84 N x y=some (qvp x y,()):=⟨0,by
 obtain ⟨s0,s1,s2⟩:=h
 rw [m84,qd (show qpy _ _ from s2)]
 obtain ⟨x0,x1,x2⟩:=x
 obtain ⟨y0,y1,y2⟩:=y
 change _=some ((eqV .str x0 y0&&(eqV (.int .i64) x1 y1&&eqV (.slice 158 qi) x2 y2)),())
 simp only [qX]
 show _=_
 generalize he0:eqV .str x0 y0=e0
 have hd0:(ByteArray.toList x0==ByteArray.toList y0)=e0:=he0
 generalize he1:eqV (.int .i64) x1 y1=e1
 have hd1:decide ((x1:Int)=y1)=e1:=he1
 generalize he2:eqV (.slice 158 qi) x2 y2=e2
 have hd2:qn3 x2 y2=e2:=he2
 simp only [hd0,hd1,hd2]
 cases e0<;>cases e1<;>cases e2<;>rfl⟩
theorem s84:Sound Try.prog 84 g84:=qz (tt:=tt) (Γ:=Γ84) hT (ql qUc qt) hm (fn:=Try.f84) Try.func84 (c:=Try.f84.body.getD .skip) (by kernel_rfl) (by kernel_rfl) fun x hx=>by
 obtain ⟨N,h⟩:=e84 x.1 x.2.1 hx
 exact ⟨T84 N,p84,qy _,qOs N,(qK5 N x.1 x.2.1).trans h⟩
def qk5 (x y:List (Val qf)):Bool:=eqV (.slice 123 qf) x y
def qrR (x _:List (Val qf)):Prop:=Bd (.slice 123 qf) x
noncomputable def qhR (N:Nat) (v2:List (Val qf)) (v3:List (Val qf)) (k0:Unit→Option (qc [i4])):Nat→Int→Option (qc [i4])
 | 0,_=>none
 | n+1,v4=>bif (decide (v4<(v2.length:Int)))then (chk (0≤v4∧v4<(v2.length:Int)) (chk (0≤v4∧v4<(v3.length:Int)) (chk (qqO (v2.getD v4.toNat (qa qf)) (v3.getD v4.toNat (qa qf))) (bif (!((qvp (v2.getD v4.toNat (qa qf)) (v3.getD v4.toNat (qa qf))):Bool))then (some (false,()))else (qhR N v2 v3 k0 n (IntKind.i64.wrap (v4+(1:Int))))))))else (k0 ())
noncomputable def m29 (N:Nat) (v0:List (Val qf)) (v1:List (Val qf)):Option (qc [i4]):=bif (!(decide ((v0.length:Int)=(v1.length:Int))))then (some (false,()))else (qhR N v0 v1 (fun (_:Unit)=>some (true,())) N (0:Int))
def Γ29:Gam:=[(84,g84)]
theorem qBr:Gam.get Γ29 84=some g84:=rfl
def qmZ:Nm:=⟨[true,true,false,false,false,true],[],false⟩
theorem qzO:qmZ.zero=false:=rfl
theorem qCc:qmZ.fix=[]:=rfl
theorem qDG:qmZ.keep=[true,true,false,false,false,true]:=rfl
def qsy:Nm:=⟨[],[],false⟩
theorem qxV:qsy.zero=false:=rfl
theorem qvw:qsy.fix=[]:=rfl
theorem qwT:qsy.keep=[]:=rfl
def qjo:Nat→Tree:=fun i=>if i=6 then .quiet 0 (.quiet 1 (.quiet 2 (.quiet 3 (.quiet 4 (.quiet 5 (.quiet 6 (.quiet 7 (.alt 8 (.quiet 9 .done) .stop))))))))else .done
def qoV:Nat→Nm:=fun i=>if i=4 then qmZ else ⟨[],[],false⟩
def qkI:Nat→Option Jn:=fun _=>none
def qk4:Nat→Option Nm:=fun i=>if i=0 then some qsy else none
def qnj:Nat→Option Nm:=fun _=>none
theorem p29:qn qjo (Try.f29.body.getD .skip)=true:=by kernel_rfl
def T29 (N:Nat):Tab:={tr:=qjo,lp:=qoV,ex:=qk4,rg:=qnj,jn:=qkI,fuel:=N}
theorem qwa (N:Nat):(T29 N).pins=false:=rfl
theorem qTd (N:Nat):qp Try.prog (T29 N):=qw fun _=>rfl
theorem qxf (N:Nat) (i:Nat):(T29 N).tr i=qjo i:=rfl
theorem quc (N:Nat) (i:Nat):(T29 N).lp i=qoV i:=rfl
theorem quY (N:Nat) (i:Nat):(T29 N).ex i=qk4 i:=rfl
theorem qvs (N:Nat) (i:Nat):(T29 N).rg i=qnj i:=rfl
theorem qD6 (N:Nat) (i:Nat):(T29 N).jn i=qkI i:=rfl
theorem qyt (N:Nat):(T29 N).fuel=N:=rfl
noncomputable def qHR:Code:=cut [true,true,false,true,true,true] (Try.f29.body.getD .skip)
theorem qLX {N:Nat} {Q:X→St→Option (qc [i4])} {e:List LV} {h:List Blk}:qe tt Γ29 (T29 N) qHR Q ⟨e,h⟩=qe tt Γ29 (T29 N) (cut [true,true,false,true,true,true] (Try.f29.body.getD .skip)) Q ⟨e,h⟩:=rfl
theorem qUR (N:Nat) (v2:List (Val qf)) (v3:List (Val qf)) {k0:Unit→Option (qc [i4])} {Q:X→St→Option (qc [i4])} {c:Code} (hc:c=qHR) (hret: ∀st,Q .ret st=qI tt true [i4] [.tmp 4] st) (h0:Q (.exit 0) ⟨[u,u,u,u,u,u,u,u,u,u,u,u,u,u,u,u,u,u,u,u,u,u,u,u,u,u,u],[]⟩=k0 ()): ∀(n:Nat) (v4:Int),qC (qe tt Γ29 (T29 N) c) false qmZ Q n ⟨[.one (.sl 123 qf v2 0),.one (.sl 123 qf v3 0),u,u,u,.one (.int .i64 v4),u,u,u,u,u,u,u,u,u,u,u,u,u,u,u,u,u,u,u,u,u],[]⟩=qhR N v2 v3 k0 n v4:=by
 subst hc;intro n;induction n with
 | zero=>intros;rfl
 | succ n ih=>
   intro v4
   rw [qM,qLX,qhR];unfold Try.f29
   simp (maxSteps:=10000000) -implicitDefEqProofs [qxf,qjo,quc,qoV,quY,qk4,qvs,qnj,qD6,qkI,qyt,qwa,qCc,qDG,qzO,qvw,qwT,qxV,qBr,g84,hret,h0,ih]
theorem qQl (N:Nat) (v0:List (Val qf)) (v1:List (Val qf)):qe tt Γ29 (T29 N) (Try.f29.body.getD .skip) (qr tt true [i4] [.tmp 4]) (qv [i63,i63] 27 (v0,v1,()))=m29 N v0 v1:=by
 unfold Try.f29
 simp (maxSteps:=10000000) -implicitDefEqProofs [qxf,qjo,quc,qoV,quY,qk4,qvs,qnj,qD6,qkI,qyt,qwa,qCc,qDG,qzO,qvw,qwT,qxV,qBr,g84]
 rewrite [qUR (k0:=(fun (_:Unit)=>some (true,()))) N _ _ ?_ ?_ ?_]
 ·rewrite [m29];first | rfl | simp (maxSteps:=10000000) -implicitDefEqProofs []
 ·rfl
 ·intro;simp only [qK,qL,qN,qm]
 ·simp (maxSteps:=10000000) -implicitDefEqProofs [qxf,qjo,quc,qoV,quY,qk4,qvs,qnj,qD6,qkI,qyt,qwa,qCc,qDG,qzO,qvw,qwT,qxV,qBr,g84]
def g29:G:={ps:=[i63,i63],rs:=[i4],dp:=true,pre:=fun x=>qrR x.1 x.2.1,fn:=fun x=>(qk5 x.1 x.2.1,())}
theorem e29 (x y:List (Val qf)) (h:qrR x y): ∃N,m29 N x y=some (qk5 x y,()):=⟨List.length x+1,by
 rw [m29,qX]
 rw [qk5,eqS]
 by_cases c:List.length x=List.length y
 ·rw [qj (by omega)]
  refine (qnF (f:=eqV qf) (xs:=x) (ys:=y) (F:=fun n i=>qhR _ x y _ n i) (k:=fun _=>some (true,())) (r:=some (false,())) h.1 c (fun n i hi hi2=> ?_) (fun n i hi=> ?_) _ (Nat.lt_succ_self _)).trans qi8
  ·rw [qhR,qj (by omega),qd (by omega),qd (by omega),qd (show qqO _ _ from by rw [qA hi];exact h.2 _ (List.getElem_mem hi)),qA hi,qA hi2,qX]
   rfl
  ·rw [qhR,qh (by omega)]
 ·rw [qh (by omega),qi0 _ _ c]⟩
theorem s29:Sound Try.prog 29 g29:=qz (tt:=tt) (Γ:=Γ29) hT (ql s84 qt) hm (fn:=Try.f29) Try.func29 (c:=Try.f29.body.getD .skip) (by kernel_rfl) (by kernel_rfl) fun x hx=>by
 obtain ⟨N,h⟩:=e29 x.1 x.2.1 hx
 exact ⟨T29 N,p29,qy _,qTd N,(qQl N x.1 x.2.1).trans h⟩
end Go.T
