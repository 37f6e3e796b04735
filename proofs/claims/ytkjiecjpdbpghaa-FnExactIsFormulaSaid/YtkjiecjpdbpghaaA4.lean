/- Sizes, copies and equality of relations. -/
import Derived.Test.YtkjiecjpdbpghaaA1
set_option linter.unusedSimpArgs false
set_option linter.unusedVariables false
namespace Go.T
open Go Go.Proofs
set_option maxHeartbeats 4000000
set_option maxRecDepth 100000
def qaK (x:List (Val (.int .i64))) (n:Int):Int:=szV (.slice 3 (.int .i64)) x n
def qfa (x:List (Val (.int .i64))) (n:Int):Prop:=qcd (.slice 3 (.int .i64)) x n
noncomputable def qkS (N:Nat) (v0:List (Val (.int .i64))) (v1:Int):Option (qa [i3]):=bif (decide ((IntKind.i64.wrap (v1 - (v0.length:Int)))<(0:Int)))then (some ((-1:Int),()))else (some ((IntKind.i64.wrap (v1 - (v0.length:Int))),()))
def qy8:Gam:=[]
def qjZ:Nat→Tree:=fun _=> .done
def qsr:Nat→Nm:=fun _=>⟨[],[],false⟩
def qre:Nat→Option Jn:=fun _=>none
def qoB:Nat→Option Nm:=fun _=>none
def qoO:Nat→Option Nm:=fun _=>none
theorem qJS:qm qjZ (Try.f101.body.getD .skip)=true:=by kernel_rfl
def qcr (N:Nat):Tab:={tr:=qjZ,lp:=qsr,ex:=qoB,rg:=qoO,jn:=qre,fuel:=N}
theorem qEc (N:Nat):(qcr N).pins=false:=rfl
theorem qG8 (N:Nat):qp Try.prog (qcr N):=qv fun _=>rfl
theorem qCs (N:Nat) (i:Nat):(qcr N).tr i=qjZ i:=rfl
theorem qBu (N:Nat) (i:Nat):(qcr N).lp i=qsr i:=rfl
theorem qAz (N:Nat) (i:Nat):(qcr N).ex i=qoB i:=rfl
theorem qAE (N:Nat) (i:Nat):(qcr N).rg i=qoO i:=rfl
theorem qCa (N:Nat) (i:Nat):(qcr N).jn i=qre i:=rfl
theorem qJE (N:Nat):(qcr N).fuel=N:=rfl
theorem qDc (N:Nat) (v0:List (Val (.int .i64))) (v1:Int):qc tt qy8 (qcr N) (Try.f101.body.getD .skip) (qn tt true [i3] [.tmp 4]) (qq [i32,i3] 12 (v0,v1,()))=qkS N v0 v1:=by
 rw [qkS];unfold Try.f101
 simp (maxSteps:=10000000) -implicitDefEqProofs [qCs,qjZ,qBu,qsr,qAz,qoB,qAE,qoO,qCa,qre,qJE,qEc]
 try rfl
def qel:G:={ps:=[i32,i3],rs:=[i3],dp:=true,pre:=fun x=>qfa x.1 x.2.1,fn:=fun x=>(qaK x.1 x.2.1,())}
theorem qEs (x:List (Val (.int .i64))) (n:Int) (h:qfa x n): ∃N,qkS N x n=some (qaK x n,()):=⟨0,by
 obtain ⟨hs,h0,h1⟩:=h
 rw [qkS,qcO h0 h1 hs.1]
 simp only [qaK,qf7]
 by_cases c:n - (List.length x:Int)<0
 ·rw [qh c,if_pos c]
 ·rw [qg c,if_neg c,qGs (fun _ _=>rfl) _ _ (by omega)]⟩
theorem qwQ:Sound Try.prog 101 qel:=qu (tt:=tt) (Γ:=qy8) hT qt hm (fn:=Try.f101) Try.func101 (c:=Try.f101.body.getD .skip) (by kernel_rfl) (by kernel_rfl) fun x hx=>by
 obtain ⟨N,h⟩:=qEs x.1 x.2.1 hx
 exact ⟨qcr N,qJS,qr _,qG8 N,(qDc N x.1 x.2.1).trans h⟩
def qS (x:Val qx) (n:Int):Int:=szV qx x n
def qe5 (x:Val qx) (n:Int):Prop:=qcd qx x n
noncomputable def qkJ (N:Nat) (v0:Val qx) (v1:Int):Option (qa [i3]):=chk (qfa (v0.1:List (Val (.int .i64))) v1) (bif (decide (((qaK (v0.1:List (Val (.int .i64))) v1):Int)<(0:Int)))then (some ((-1:Int),()))else (some (((qaK (v0.1:List (Val (.int .i64))) v1):Int),())))
def qmP:Gam:=[(101,qel)]
theorem qDn:Gam.get qmP 101=some qel:=rfl
def qke:Nat→Tree:=fun _=> .done
def qqS:Nat→Nm:=fun _=>⟨[],[],false⟩
def qvo:Nat→Option Jn:=fun _=>none
def qtg:Nat→Option Nm:=fun _=>none
def qsO:Nat→Option Nm:=fun _=>none
theorem qFN:qm qke (Try.f126.body.getD .skip)=true:=by kernel_rfl
def qcn (N:Nat):Tab:={tr:=qke,lp:=qqS,ex:=qtg,rg:=qsO,jn:=qvo,fuel:=N}
theorem qHW (N:Nat):(qcn N).pins=false:=rfl
theorem qFp (N:Nat):qp Try.prog (qcn N):=qv fun _=>rfl
theorem qHZ (N:Nat) (i:Nat):(qcn N).tr i=qke i:=rfl
theorem qBT (N:Nat) (i:Nat):(qcn N).lp i=qqS i:=rfl
theorem qGJ (N:Nat) (i:Nat):(qcn N).ex i=qtg i:=rfl
theorem qGv (N:Nat) (i:Nat):(qcn N).rg i=qsO i:=rfl
theorem qE6 (N:Nat) (i:Nat):(qcn N).jn i=qvo i:=rfl
theorem qIX (N:Nat):(qcn N).fuel=N:=rfl
theorem qIo (N:Nat) (v0:Val qx) (v1:Int):qc tt qmP (qcn N) (Try.f126.body.getD .skip) (qn tt true [i3] [.tmp 4]) (qq [qc1,i3] 12 (v0,v1,()))=qkJ N v0 v1:=by
 rw [qkJ];unfold Try.f126
 simp (maxSteps:=10000000) -implicitDefEqProofs [qHZ,qke,qBT,qqS,qGJ,qtg,qGv,qsO,qE6,qvo,qIX,qHW,qDn,qel]
 try rfl
def qcH:G:={ps:=[qc1,i3],rs:=[i3],dp:=true,pre:=fun x=>qe5 x.1 x.2.1,fn:=fun x=>(qS x.1 x.2.1,())}
theorem qEM (x:Val qx) (n:Int) (h:qe5 x n): ∃N,qkJ N x n=some (qS x n,()):=⟨0,by
 obtain ⟨x0,x1,x2⟩:=x
 obtain ⟨hs,h0,h1⟩:=h
 obtain ⟨s0,s1,s2⟩:=hs
 rw [qkJ,qS]
 dsimp only
 rw [qd (show qfa x0 n from ⟨s0,h0,h1⟩)]
 by_cases c0:qaK x0 n<0
 ·rw [qh c0,qn2 (show szV (.slice 3 (.int .i64)) x0 n<0 from c0)]
 ·have h00:0≤qaK x0 n:=by omega
  have h10:qaK x0 n≤1048576:=Int.le_trans (qbN (.slice 3 (.int .i64)) x0 n h0).1 h1
  rw [qg c0,qlH (show 0≤szV (.slice 3 (.int .i64)) x0 n from h00)]
  change _=some (szV (.pair (.int .i64) .bool) _ (qaK x0 n),())
  rw [qe4 h00]
  rfl⟩
theorem qyN:Sound Try.prog 126 qcH:=qu (tt:=tt) (Γ:=qmP) hT (qk qwQ qt) hm (fn:=Try.f126) Try.func126 (c:=Try.f126.body.getD .skip) (by kernel_rfl) (by kernel_rfl) fun x hx=>by
 obtain ⟨N,h⟩:=qEM x.1 x.2.1 hx
 exact ⟨qcn N,qFN,qr _,qFp N,(qIo N x.1 x.2.1).trans h⟩
def qeX (x:List (Val qx)) (n:Int):Int:=szV (.slice 134 qx) x n
def qjN (x:List (Val qx)) (n:Int):Prop:=qcd (.slice 134 qx) x n
noncomputable def qd9 (N:Nat) (v2:List (Val qx)) (k0:Int→Option (qa [i3])):Nat→Int→Int→Option (qa [i3])
 | 0,_,_=>none
 | n+1,v3,v4=>bif (decide (v4<(v2.length:Int)))then (chk (0≤v4∧v4<(v2.length:Int)) (chk (qe5 (v2.getD v4.toNat (qb qx)) v3) (bif (decide (((qS (v2.getD v4.toNat (qb qx)) v3):Int)<(0:Int)))then (some ((-1:Int),()))else (qd9 N v2 k0 n ((qS (v2.getD v4.toNat (qb qx)) v3):Int) (IntKind.i64.wrap (v4+(1:Int)))))))else (k0 v3)
noncomputable def m63 (N:Nat) (v0:List (Val qx)) (v1:Int):Option (qa [i3]):=bif (decide ((IntKind.i64.wrap (v1 - (v0.length:Int)))<(0:Int)))then (some ((-1:Int),()))else (qd9 N v0 (fun (v6:Int)=>some (v6,())) N (IntKind.i64.wrap (v1 - (v0.length:Int))) (0:Int))
def Γ63:Gam:=[(126,qcH)]
theorem qvF:Gam.get Γ63 126=some qcH:=rfl
def qiy:Nm:=⟨[true,true,false,false,false,true],[],false⟩
theorem qrc:qiy.zero=false:=rfl
theorem qrt:qiy.fix=[]:=rfl
theorem qs4:qiy.keep=[true,true,false,false,false,true]:=rfl
def qlR:Nm:=⟨[false,true],[],false⟩
theorem qpM:qlR.zero=false:=rfl
theorem qqY:qlR.fix=[]:=rfl
theorem qpF:qlR.keep=[false,true]:=rfl
def qeU:Nat→Tree:=fun _=> .done
def qjD:Nat→Nm:=fun i=>if i=5 then qiy else ⟨[],[],false⟩
def qh0:Nat→Option Jn:=fun _=>none
def qie:Nat→Option Nm:=fun i=>if i=0 then some qlR else none
def qgS:Nat→Option Nm:=fun _=>none
theorem p63:qm qeU (Try.f63.body.getD .skip)=true:=by kernel_rfl
def T63 (N:Nat):Tab:={tr:=qeU,lp:=qjD,ex:=qie,rg:=qgS,jn:=qh0,fuel:=N}
theorem qsk (N:Nat):(T63 N).pins=false:=rfl
theorem qFH (N:Nat):qp Try.prog (T63 N):=qv fun _=>rfl
theorem quF (N:Nat) (i:Nat):(T63 N).tr i=qeU i:=rfl
theorem qnY (N:Nat) (i:Nat):(T63 N).lp i=qjD i:=rfl
theorem qrQ (N:Nat) (i:Nat):(T63 N).ex i=qie i:=rfl
theorem qqZ (N:Nat) (i:Nat):(T63 N).rg i=qgS i:=rfl
theorem quz (N:Nat) (i:Nat):(T63 N).jn i=qh0 i:=rfl
theorem qsz (N:Nat):(T63 N).fuel=N:=rfl
noncomputable def qxQ:Code:=cut [true,true,true,false,true,true,true] (Try.f63.body.getD .skip)
theorem qBp {N:Nat} {Q:X→St→Option (qa [i3])} {e:List LV} {h:List Blk}:qc tt Γ63 (T63 N) qxQ Q ⟨e,h⟩=qc tt Γ63 (T63 N) (cut [true,true,true,false,true,true,true] (Try.f63.body.getD .skip)) Q ⟨e,h⟩:=rfl
theorem qHC (N:Nat) (v2:List (Val qx)) {k0:Int→Option (qa [i3])} {Q:X→St→Option (qa [i3])} {c:Code} (hc:c=qxQ) (hret: ∀st,Q .ret st=qG tt true [i3] [.tmp 4] st) (h0: ∀(v5:Int),Q (.exit 0) ⟨[u,.one (.int .i64 v5),u,u,u,u,u,u,u,u,u,u,u,u,u,u,u,u,u,u,u,u,u,u,u,u,u],[]⟩=k0 v5): ∀(n:Nat) (v3:Int) (v4:Int),qE (qc tt Γ63 (T63 N) c) false qiy Q n ⟨[.one (.sl 134 qx v2 0),.one (.int .i64 v3),u,u,u,.one (.int .i64 v4),u,u,u,u,u,u,u,u,u,u,u,u,u,u,u,u,u,u,u,u,u],[]⟩=qd9 N v2 k0 n v3 v4:=by
 subst hc;intro n;induction n with
 | zero=>intros;rfl
 | succ n ih=>
   intro v3 v4
   rw [qP,qBp,qd9];unfold Try.f63
   simp (maxSteps:=10000000) -implicitDefEqProofs [quF,qeU,qnY,qjD,qrQ,qie,qqZ,qgS,quz,qh0,qsz,qsk,qrt,qs4,qrc,qqY,qpF,qpM,qvF,qcH,hret,h0,ih]
theorem qCm (N:Nat) (v0:List (Val qx)) (v1:Int):qc tt Γ63 (T63 N) (Try.f63.body.getD .skip) (qn tt true [i3] [.tmp 4]) (qq [i29,i3] 27 (v0,v1,()))=m63 N v0 v1:=by
 unfold Try.f63
 simp (maxSteps:=10000000) -implicitDefEqProofs [quF,qeU,qnY,qjD,qrQ,qie,qqZ,qgS,quz,qh0,qsz,qsk,qrt,qs4,qrc,qqY,qpF,qpM,qvF,qcH]
 rewrite [qHC (k0:=(fun (v6:Int)=>some (v6,()))) N _ ?_ ?_ ?_]
 ·rewrite [m63];first | rfl | simp (maxSteps:=10000000) -implicitDefEqProofs []
 ·rfl
 ·intro;simp only [qN,qO,qQ,qM]
 ·intro v6;simp (maxSteps:=10000000) -implicitDefEqProofs [quF,qeU,qnY,qjD,qrQ,qie,qqZ,qgS,quz,qh0,qsz,qsk,qrt,qs4,qrc,qqY,qpF,qpM,qvF,qcH]
def g63:G:={ps:=[i29,i3],rs:=[i3],dp:=true,pre:=fun x=>qjN x.1 x.2.1,fn:=fun x=>(qeX x.1 x.2.1,())}
theorem e63 (x:List (Val qx)) (n:Int) (h:qjN x n): ∃N,m63 N x n=some (qeX x n,()):=⟨List.length x+1,by
 obtain ⟨hs,h0,h1⟩:=h
 rw [m63,qcO h0 h1 hs.1]
 simp only [qeX,qf7]
 by_cases c:n - (List.length x:Int)<0
 ·rw [qh c,if_pos c]
 ·rw [qg c,if_neg c]
  refine (qac (F:=fun n i s=>qd9 _ x _ n s i) (step:=fun _ y (s:Int) K=>chk (qe5 y s) (bif decide (qS y s<0)then some ((-1:Int),())else K (qS y s))) (k:=fun s=>some (s,())) (by omega) (fun n i s hi=> ?_) (fun n i s hi=> ?_) _ _ (Nat.lt_succ_self _)).trans (qiZ (t:=qx) x 0 _ (by omega) (by omega) hs.2)
  ·rw [qd9,qh (by omega),qd (by omega),qB hi]
  ·rw [qd9,qg (by omega)]⟩
theorem s63:Sound Try.prog 63 g63:=qu (tt:=tt) (Γ:=Γ63) hT (qk qyN qt) hm (fn:=Try.f63) Try.func63 (c:=Try.f63.body.getD .skip) (by kernel_rfl) (by kernel_rfl) fun x hx=>by
 obtain ⟨N,h⟩:=e63 x.1 x.2.1 hx
 exact ⟨T63 N,p63,qr _,qFH N,(qCm N x.1 x.2.1).trans h⟩
def qe6 (x:Val Y31) (n:Int):Int:=szV Y31 x n
def qk8 (x:Val Y31) (n:Int):Prop:=qcd Y31 x n
noncomputable def m18 (N:Nat) (v0:Val Y31) (v1:Int):Option (qa [i3]):=chk (qjN (v0.2:List (Val qx)) v1) (bif (decide (((qeX (v0.2:List (Val qx)) v1):Int)<(0:Int)))then (some ((-1:Int),()))else (some (((qeX (v0.2:List (Val qx)) v1):Int),())))
def Γ18:Gam:=[(63,g63)]
theorem qGX:Gam.get Γ18 63=some g63:=rfl
def qlX:Nat→Tree:=fun _=> .done
def qn8:Nat→Nm:=fun _=>⟨[],[],false⟩
def qut:Nat→Option Jn:=fun _=>none
def qpJ:Nat→Option Nm:=fun _=>none
def qui:Nat→Option Nm:=fun _=>none
theorem p18:qm qlX (Try.f18.body.getD .skip)=true:=by kernel_rfl
def T18 (N:Nat):Tab:={tr:=qlX,lp:=qn8,ex:=qpJ,rg:=qui,jn:=qut,fuel:=N}
theorem qJd (N:Nat):(T18 N).pins=false:=rfl
theorem qBr (N:Nat):qp Try.prog (T18 N):=qv fun _=>rfl
theorem qJy (N:Nat) (i:Nat):(T18 N).tr i=qlX i:=rfl
theorem qI0 (N:Nat) (i:Nat):(T18 N).lp i=qn8 i:=rfl
theorem qBd (N:Nat) (i:Nat):(T18 N).ex i=qpJ i:=rfl
theorem qAH (N:Nat) (i:Nat):(T18 N).rg i=qui i:=rfl
theorem qBe (N:Nat) (i:Nat):(T18 N).jn i=qut i:=rfl
theorem qJi (N:Nat):(T18 N).fuel=N:=rfl
theorem qAN (N:Nat) (v0:Val Y31) (v1:Int):qc tt Γ18 (T18 N) (Try.f18.body.getD .skip) (qn tt true [i3] [.tmp 4]) (qq [i31,i3] 12 (v0,v1,()))=m18 N v0 v1:=by
 rw [m18];unfold Try.f18
 simp (maxSteps:=10000000) -implicitDefEqProofs [qJy,qlX,qI0,qn8,qBd,qpJ,qAH,qui,qBe,qut,qJi,qJd,qGX,g63]
 try rfl
def g18:G:={ps:=[i31,i3],rs:=[i3],dp:=true,pre:=fun x=>qk8 x.1 x.2.1,fn:=fun x=>(qe6 x.1 x.2.1,())}
theorem e18 (x:Val Y31) (n:Int) (h:qk8 x n): ∃N,m18 N x n=some (qe6 x n,()):=⟨0,by
 obtain ⟨x0,x1⟩:=x
 obtain ⟨hs,h0,h1⟩:=h
 obtain ⟨s0,s1⟩:=hs
 rw [m18,qe6]
 dsimp only
 rw [qe4 h0]
 rw [qd (show qjN x1 n from ⟨s1,h0,h1⟩)]
 by_cases c1:qeX x1 n<0
 ·rw [qh c1]
  exact congrArg (fun z=>some (z,())) ((qbN (.slice 134 qx) x1 n h0).2 c1).symm
 ·rw [qg c1]
  rfl⟩
theorem s18:Sound Try.prog 18 g18:=qu (tt:=tt) (Γ:=Γ18) hT (qk s63 qt) hm (fn:=Try.f18) Try.func18 (c:=Try.f18.body.getD .skip) (by kernel_rfl) (by kernel_rfl) fun x hx=>by
 obtain ⟨N,h⟩:=e18 x.1 x.2.1 hx
 exact ⟨T18 N,p18,qr _,qBr N,(qAN N x.1 x.2.1).trans h⟩
def qdZ (x:Val qz) (n:Int):Int:=szV qz x n
def qlQ (x:Val qz) (n:Int):Prop:=qcd qz x n
noncomputable def qlL (N:Nat) (v0:Val qz) (v1:Int):Option (qa [i3]):=bif (decide ((IntKind.i64.wrap (v1 - ((v0.1:ByteArray).size:Int)))<(0:Int)))then (some ((-1:Int),()))else (chk (qk8 v0.2 (IntKind.i64.wrap (v1 - ((v0.1:ByteArray).size:Int)))) (bif (decide (((qe6 v0.2 (IntKind.i64.wrap (v1 - ((v0.1:ByteArray).size:Int)))):Int)<(0:Int)))then (some ((-1:Int),()))else (some (((qe6 v0.2 (IntKind.i64.wrap (v1 - ((v0.1:ByteArray).size:Int)))):Int),()))))
def qrV:Gam:=[(18,g18)]
theorem qIj:Gam.get qrV 18=some g18:=rfl
def qkv:Nat→Tree:=fun _=> .done
def qs9:Nat→Nm:=fun _=>⟨[],[],false⟩
def qtD:Nat→Option Jn:=fun _=>none
def qqz:Nat→Option Nm:=fun _=>none
def qt2:Nat→Option Nm:=fun _=>none
theorem qGz:qm qkv (Try.f134.body.getD .skip)=true:=by kernel_rfl
def qci (N:Nat):Tab:={tr:=qkv,lp:=qs9,ex:=qqz,rg:=qt2,jn:=qtD,fuel:=N}
theorem qAF (N:Nat):(qci N).pins=false:=rfl
theorem qGc (N:Nat):qp Try.prog (qci N):=qv fun _=>rfl
theorem qD3 (N:Nat) (i:Nat):(qci N).tr i=qkv i:=rfl
theorem qIx (N:Nat) (i:Nat):(qci N).lp i=qs9 i:=rfl
theorem qFq (N:Nat) (i:Nat):(qci N).ex i=qqz i:=rfl
theorem qJV (N:Nat) (i:Nat):(qci N).rg i=qt2 i:=rfl
theorem qHe (N:Nat) (i:Nat):(qci N).jn i=qtD i:=rfl
theorem qAL (N:Nat):(qci N).fuel=N:=rfl
theorem qDL (N:Nat) (v0:Val qz) (v1:Int):qc tt qrV (qci N) (Try.f134.body.getD .skip) (qn tt true [i3] [.tmp 4]) (qq [qdu,i3] 19 (v0,v1,()))=qlL N v0 v1:=by
 rw [qlL];unfold Try.f134
 simp (maxSteps:=10000000) -implicitDefEqProofs [qD3,qkv,qIx,qs9,qFq,qqz,qJV,qt2,qHe,qtD,qAL,qAF,qIj,g18]
 try rfl
def qfW:G:={ps:=[qdu,i3],rs:=[i3],dp:=true,pre:=fun x=>qlQ x.1 x.2.1,fn:=fun x=>(qdZ x.1 x.2.1,())}
theorem qI3 (x:Val qz) (n:Int) (h:qlQ x n): ∃N,qlL N x n=some (qdZ x n,()):=⟨0,by
 obtain ⟨x0,x1⟩:=x
 obtain ⟨hs,h0,h1⟩:=h
 obtain ⟨s0,s1⟩:=hs
 rw [qlL,qdZ]
 dsimp only
 rw [qcO h0 h1 s0]
 by_cases c0:n - (ByteArray.size x0:Int)<0
 ·rw [qh c0,qkU c0]
 ·rw [qg c0,qk9 (by omega)]
  have h00:0≤(n - (ByteArray.size x0:Int)):=by omega
  have h10:(n - (ByteArray.size x0:Int))≤1048576:=by omega
  rw [qd (show qk8 x1 (n - (ByteArray.size x0:Int)) from ⟨s1,h00,h10⟩)]
  by_cases c1:qe6 x1 (n - (ByteArray.size x0:Int))<0
  ·rw [qh c1]
   exact congrArg (fun z=>some (z,())) ((qbN Y31 x1 (n - (ByteArray.size x0:Int)) h00).2 c1).symm
  ·rw [qg c1]
   rfl⟩
theorem qG3:Sound Try.prog 134 qfW:=qu (tt:=tt) (Γ:=qrV) hT (qk s18 qt) hm (fn:=Try.f134) Try.func134 (c:=Try.f134.body.getD .skip) (by kernel_rfl) (by kernel_rfl) fun x hx=>by
 obtain ⟨N,h⟩:=qI3 x.1 x.2.1 hx
 exact ⟨qci N,qGz,qr _,qGc N,(qDL N x.1 x.2.1).trans h⟩
def qeD (x:List (Val qz)) (n:Int):Int:=szV (.slice 172 qz) x n
def qjL (x:List (Val qz)) (n:Int):Prop:=qcd (.slice 172 qz) x n
noncomputable def qdK (N:Nat) (v2:List (Val qz)) (k0:Int→Option (qa [i3])):Nat→Int→Int→Option (qa [i3])
 | 0,_,_=>none
 | n+1,v3,v4=>bif (decide (v4<(v2.length:Int)))then (chk (0≤v4∧v4<(v2.length:Int)) (chk (qlQ (v2.getD v4.toNat (qb qz)) v3) (bif (decide (((qdZ (v2.getD v4.toNat (qb qz)) v3):Int)<(0:Int)))then (some ((-1:Int),()))else (qdK N v2 k0 n ((qdZ (v2.getD v4.toNat (qb qz)) v3):Int) (IntKind.i64.wrap (v4+(1:Int)))))))else (k0 v3)
noncomputable def m74 (N:Nat) (v0:List (Val qz)) (v1:Int):Option (qa [i3]):=bif (decide ((IntKind.i64.wrap (v1 - (v0.length:Int)))<(0:Int)))then (some ((-1:Int),()))else (qdK N v0 (fun (v6:Int)=>some (v6,())) N (IntKind.i64.wrap (v1 - (v0.length:Int))) (0:Int))
def Γ74:Gam:=[(134,qfW)]
theorem qtZ:Gam.get Γ74 134=some qfW:=rfl
def qjg:Nm:=⟨[true,true,false,false,false,true],[],false⟩
theorem qwI:qjg.zero=false:=rfl
theorem qs0:qjg.fix=[]:=rfl
theorem qo0:qjg.keep=[true,true,false,false,false,true]:=rfl
def qly:Nm:=⟨[false,true],[],false⟩
theorem qm0:qly.zero=false:=rfl
theorem qsh:qly.fix=[]:=rfl
theorem qoC:qly.keep=[false,true]:=rfl
def qfx:Nat→Tree:=fun _=> .done
def qiK:Nat→Nm:=fun i=>if i=5 then qjg else ⟨[],[],false⟩
def qf2:Nat→Option Jn:=fun _=>none
def qiH:Nat→Option Nm:=fun i=>if i=0 then some qly else none
def qje:Nat→Option Nm:=fun _=>none
theorem p74:qm qfx (Try.f74.body.getD .skip)=true:=by kernel_rfl
def T74 (N:Nat):Tab:={tr:=qfx,lp:=qiK,ex:=qiH,rg:=qje,jn:=qf2,fuel:=N}
theorem qrW (N:Nat):(T74 N).pins=false:=rfl
theorem qFw (N:Nat):qp Try.prog (T74 N):=qv fun _=>rfl
theorem qvX (N:Nat) (i:Nat):(T74 N).tr i=qfx i:=rfl
theorem qnO (N:Nat) (i:Nat):(T74 N).lp i=qiK i:=rfl
theorem quC (N:Nat) (i:Nat):(T74 N).ex i=qiH i:=rfl
theorem qoh (N:Nat) (i:Nat):(T74 N).rg i=qje i:=rfl
theorem qvT (N:Nat) (i:Nat):(T74 N).jn i=qf2 i:=rfl
theorem qnc (N:Nat):(T74 N).fuel=N:=rfl
noncomputable def qzb:Code:=cut [true,true,true,false,true,true,true] (Try.f74.body.getD .skip)
theorem qBD {N:Nat} {Q:X→St→Option (qa [i3])} {e:List LV} {h:List Blk}:qc tt Γ74 (T74 N) qzb Q ⟨e,h⟩=qc tt Γ74 (T74 N) (cut [true,true,true,false,true,true,true] (Try.f74.body.getD .skip)) Q ⟨e,h⟩:=rfl
theorem qJ0 (N:Nat) (v2:List (Val qz)) {k0:Int→Option (qa [i3])} {Q:X→St→Option (qa [i3])} {c:Code} (hc:c=qzb) (hret: ∀st,Q .ret st=qG tt true [i3] [.tmp 4] st) (h0: ∀(v5:Int),Q (.exit 0) ⟨[u,.one (.int .i64 v5),u,u,u,u,u,u,u,u,u,u,u,u,u,u,u,u,u,u,u,u,u,u,u,u,u],[]⟩=k0 v5): ∀(n:Nat) (v3:Int) (v4:Int),qE (qc tt Γ74 (T74 N) c) false qjg Q n ⟨[.one (.sl 172 qz v2 0),.one (.int .i64 v3),u,u,u,.one (.int .i64 v4),u,u,u,u,u,u,u,u,u,u,u,u,u,u,u,u,u,u,u,u,u],[]⟩=qdK N v2 k0 n v3 v4:=by
 subst hc;intro n;induction n with
 | zero=>intros;rfl
 | succ n ih=>
   intro v3 v4
   rw [qP,qBD,qdK];unfold Try.f74
   simp (maxSteps:=10000000) -implicitDefEqProofs [qvX,qfx,qnO,qiK,quC,qiH,qoh,qje,qvT,qf2,qnc,qrW,qs0,qo0,qwI,qsh,qoC,qm0,qtZ,qfW,hret,h0,ih]
theorem qBY (N:Nat) (v0:List (Val qz)) (v1:Int):qc tt Γ74 (T74 N) (Try.f74.body.getD .skip) (qn tt true [i3] [.tmp 4]) (qq [i46,i3] 27 (v0,v1,()))=m74 N v0 v1:=by
 unfold Try.f74
 simp (maxSteps:=10000000) -implicitDefEqProofs [qvX,qfx,qnO,qiK,quC,qiH,qoh,qje,qvT,qf2,qnc,qrW,qs0,qo0,qwI,qsh,qoC,qm0,qtZ,qfW]
 rewrite [qJ0 (k0:=(fun (v6:Int)=>some (v6,()))) N _ ?_ ?_ ?_]
 ·rewrite [m74];first | rfl | simp (maxSteps:=10000000) -implicitDefEqProofs []
 ·rfl
 ·intro;simp only [qN,qO,qQ,qM]
 ·intro v6;simp (maxSteps:=10000000) -implicitDefEqProofs [qvX,qfx,qnO,qiK,quC,qiH,qoh,qje,qvT,qf2,qnc,qrW,qs0,qo0,qwI,qsh,qoC,qm0,qtZ,qfW]
def g74:G:={ps:=[i46,i3],rs:=[i3],dp:=true,pre:=fun x=>qjL x.1 x.2.1,fn:=fun x=>(qeD x.1 x.2.1,())}
theorem e74 (x:List (Val qz)) (n:Int) (h:qjL x n): ∃N,m74 N x n=some (qeD x n,()):=⟨List.length x+1,by
 obtain ⟨hs,h0,h1⟩:=h
 rw [m74,qcO h0 h1 hs.1]
 simp only [qeD,qf7]
 by_cases c:n - (List.length x:Int)<0
 ·rw [qh c,if_pos c]
 ·rw [qg c,if_neg c]
  refine (qac (F:=fun n i s=>qdK _ x _ n s i) (step:=fun _ y (s:Int) K=>chk (qlQ y s) (bif decide (qdZ y s<0)then some ((-1:Int),())else K (qdZ y s))) (k:=fun s=>some (s,())) (by omega) (fun n i s hi=> ?_) (fun n i s hi=> ?_) _ _ (Nat.lt_succ_self _)).trans (qiZ (t:=qz) x 0 _ (by omega) (by omega) hs.2)
  ·rw [qdK,qh (by omega),qd (by omega),qB hi]
  ·rw [qdK,qg (by omega)]⟩
theorem s74:Sound Try.prog 74 g74:=qu (tt:=tt) (Γ:=Γ74) hT (qk qG3 qt) hm (fn:=Try.f74) Try.func74 (c:=Try.f74.body.getD .skip) (by kernel_rfl) (by kernel_rfl) fun x hx=>by
 obtain ⟨N,h⟩:=e74 x.1 x.2.1 hx
 exact ⟨T74 N,p74,qr _,qFw N,(qBY N x.1 x.2.1).trans h⟩
def qdD (x:Val Y48) (n:Int):Int:=szV Y48 x n
def qka (x:Val Y48) (n:Int):Prop:=qcd Y48 x n
noncomputable def m28 (N:Nat) (v0:Val Y48) (v1:Int):Option (qa [i3]):=bif (decide ((IntKind.i64.wrap (v1 - ((v0.1:ByteArray).size:Int)))<(0:Int)))then (some ((-1:Int),()))else (chk (qjL (v0.2.2:List (Val qz)) (IntKind.i64.wrap (v1 - ((v0.1:ByteArray).size:Int)))) (bif (decide (((qeD (v0.2.2:List (Val qz)) (IntKind.i64.wrap (v1 - ((v0.1:ByteArray).size:Int)))):Int)<(0:Int)))then (some ((-1:Int),()))else (some (((qeD (v0.2.2:List (Val qz)) (IntKind.i64.wrap (v1 - ((v0.1:ByteArray).size:Int)))):Int),()))))
def Γ28:Gam:=[(74,g74)]
theorem qGL:Gam.get Γ28 74=some g74:=rfl
def qme:Nat→Tree:=fun _=> .done
def qsi:Nat→Nm:=fun _=>⟨[],[],false⟩
def qtf:Nat→Option Jn:=fun _=>none
def qu3:Nat→Option Nm:=fun _=>none
def qvS:Nat→Option Nm:=fun _=>none
theorem p28:qm qme (Try.f28.body.getD .skip)=true:=by kernel_rfl
def T28 (N:Nat):Tab:={tr:=qme,lp:=qsi,ex:=qu3,rg:=qvS,jn:=qtf,fuel:=N}
theorem qBB (N:Nat):(T28 N).pins=false:=rfl
theorem qEK (N:Nat):qp Try.prog (T28 N):=qv fun _=>rfl
theorem qGR (N:Nat) (i:Nat):(T28 N).tr i=qme i:=rfl
theorem qGr (N:Nat) (i:Nat):(T28 N).lp i=qsi i:=rfl
theorem qHL (N:Nat) (i:Nat):(T28 N).ex i=qu3 i:=rfl
theorem qAQ (N:Nat) (i:Nat):(T28 N).rg i=qvS i:=rfl
theorem qDS (N:Nat) (i:Nat):(T28 N).jn i=qtf i:=rfl
theorem qHO (N:Nat):(T28 N).fuel=N:=rfl
theorem qEj (N:Nat) (v0:Val Y48) (v1:Int):qc tt Γ28 (T28 N) (Try.f28.body.getD .skip) (qn tt true [i3] [.tmp 4]) (qq [i48,i3] 19 (v0,v1,()))=m28 N v0 v1:=by
 rw [m28];unfold Try.f28
 simp (maxSteps:=10000000) -implicitDefEqProofs [qGR,qme,qGr,qsi,qHL,qu3,qAQ,qvS,qDS,qtf,qHO,qBB,qGL,g74]
 try rfl
def g28:G:={ps:=[i48,i3],rs:=[i3],dp:=true,pre:=fun x=>qka x.1 x.2.1,fn:=fun x=>(qdD x.1 x.2.1,())}
theorem e28 (x:Val Y48) (n:Int) (h:qka x n): ∃N,m28 N x n=some (qdD x n,()):=⟨0,by
 obtain ⟨x0,x1,x2⟩:=x
 obtain ⟨hs,h0,h1⟩:=h
 obtain ⟨s0,s1,s2⟩:=hs
 rw [m28,qdD]
 dsimp only
 rw [qcO h0 h1 s0]
 by_cases c0:n - (ByteArray.size x0:Int)<0
 ·rw [qh c0,qkU c0]
 ·rw [qg c0,qk9 (by omega)]
  have h00:0≤(n - (ByteArray.size x0:Int)):=by omega
  have h10:(n - (ByteArray.size x0:Int))≤1048576:=by omega
  rw [qe4 h00]
  rw [qd (show qjL x2 (n - (ByteArray.size x0:Int)) from ⟨s2,h00,h10⟩)]
  by_cases c2:qeD x2 (n - (ByteArray.size x0:Int))<0
  ·rw [qh c2]
   exact congrArg (fun z=>some (z,())) ((qbN (.slice 172 qz) x2 (n - (ByteArray.size x0:Int)) h00).2 c2).symm
  ·rw [qg c2]
   rfl⟩
theorem s28:Sound Try.prog 28 g28:=qu (tt:=tt) (Γ:=Γ28) hT (qk s74 qt) hm (fn:=Try.f28) Try.func28 (c:=Try.f28.body.getD .skip) (by kernel_rfl) (by kernel_rfl) fun x hx=>by
 obtain ⟨N,h⟩:=e28 x.1 x.2.1 hx
 exact ⟨T28 N,p28,qr _,qEK N,(qEj N x.1 x.2.1).trans h⟩
def qb0 (x:List (Val Y48)) (n:Int):Int:=szV (.slice 48 Y48) x n
def qjR (x:List (Val Y48)) (n:Int):Prop:=qcd (.slice 48 Y48) x n
noncomputable def qdJ (N:Nat) (v2:List (Val Y48)) (k0:Int→Option (qa [i3])):Nat→Int→Int→Option (qa [i3])
 | 0,_,_=>none
 | n+1,v3,v4=>bif (decide (v4<(v2.length:Int)))then (chk (0≤v4∧v4<(v2.length:Int)) (chk (qka (v2.getD v4.toNat (qb Y48)) v3) (bif (decide (((qdD (v2.getD v4.toNat (qb Y48)) v3):Int)<(0:Int)))then (some ((-1:Int),()))else (qdJ N v2 k0 n ((qdD (v2.getD v4.toNat (qb Y48)) v3):Int) (IntKind.i64.wrap (v4+(1:Int)))))))else (k0 v3)
noncomputable def m13 (N:Nat) (v0:List (Val Y48)) (v1:Int):Option (qa [i3]):=bif (decide ((IntKind.i64.wrap (v1 - (v0.length:Int)))<(0:Int)))then (some ((-1:Int),()))else (qdJ N v0 (fun (v6:Int)=>some (v6,())) N (IntKind.i64.wrap (v1 - (v0.length:Int))) (0:Int))
def Γ13:Gam:=[(28,g28)]
theorem qwr:Gam.get Γ13 28=some g28:=rfl
def qgG:Nm:=⟨[true,true,false,false,false,true],[],false⟩
theorem qnz:qgG.zero=false:=rfl
theorem qoq:qgG.fix=[]:=rfl
theorem qwp:qgG.keep=[true,true,false,false,false,true]:=rfl
def qmg:Nm:=⟨[false,true],[],false⟩
theorem qmw:qmg.zero=false:=rfl
theorem qp6:qmg.fix=[]:=rfl
theorem qud:qmg.keep=[false,true]:=rfl
def qes:Nat→Tree:=fun _=> .done
def qjr:Nat→Nm:=fun i=>if i=5 then qgG else ⟨[],[],false⟩
def qiV:Nat→Option Jn:=fun _=>none
def qgK:Nat→Option Nm:=fun i=>if i=0 then some qmg else none
def qgq:Nat→Option Nm:=fun _=>none
theorem p13:qm qes (Try.f13.body.getD .skip)=true:=by kernel_rfl
def T13 (N:Nat):Tab:={tr:=qes,lp:=qjr,ex:=qgK,rg:=qgq,jn:=qiV,fuel:=N}
theorem qqP (N:Nat):(T13 N).pins=false:=rfl
theorem qCy (N:Nat):qp Try.prog (T13 N):=qv fun _=>rfl
theorem qmJ (N:Nat) (i:Nat):(T13 N).tr i=qes i:=rfl
theorem qpC (N:Nat) (i:Nat):(T13 N).lp i=qjr i:=rfl
theorem qug (N:Nat) (i:Nat):(T13 N).ex i=qgK i:=rfl
theorem qwl (N:Nat) (i:Nat):(T13 N).rg i=qgq i:=rfl
theorem qnZ (N:Nat) (i:Nat):(T13 N).jn i=qiV i:=rfl
theorem qns (N:Nat):(T13 N).fuel=N:=rfl
noncomputable def qzl:Code:=cut [true,true,true,false,true,true,true] (Try.f13.body.getD .skip)
theorem qBN {N:Nat} {Q:X→St→Option (qa [i3])} {e:List LV} {h:List Blk}:qc tt Γ13 (T13 N) qzl Q ⟨e,h⟩=qc tt Γ13 (T13 N) (cut [true,true,true,false,true,true,true] (Try.f13.body.getD .skip)) Q ⟨e,h⟩:=rfl
theorem qDW (N:Nat) (v2:List (Val Y48)) {k0:Int→Option (qa [i3])} {Q:X→St→Option (qa [i3])} {c:Code} (hc:c=qzl) (hret: ∀st,Q .ret st=qG tt true [i3] [.tmp 4] st) (h0: ∀(v5:Int),Q (.exit 0) ⟨[u,.one (.int .i64 v5),u,u,u,u,u,u,u,u,u,u,u,u,u,u,u,u,u,u,u,u,u,u,u,u,u],[]⟩=k0 v5): ∀(n:Nat) (v3:Int) (v4:Int),qE (qc tt Γ13 (T13 N) c) false qgG Q n ⟨[.one (.sl 48 Y48 v2 0),.one (.int .i64 v3),u,u,u,.one (.int .i64 v4),u,u,u,u,u,u,u,u,u,u,u,u,u,u,u,u,u,u,u,u,u],[]⟩=qdJ N v2 k0 n v3 v4:=by
 subst hc;intro n;induction n with
 | zero=>intros;rfl
 | succ n ih=>
   intro v3 v4
   rw [qP,qBN,qdJ];unfold Try.f13
   simp (maxSteps:=10000000) -implicitDefEqProofs [qmJ,qes,qpC,qjr,qug,qgK,qwl,qgq,qnZ,qiV,qns,qqP,qoq,qwp,qnz,qp6,qud,qmw,qwr,g28,hret,h0,ih]
theorem qBg (N:Nat) (v0:List (Val Y48)) (v1:Int):qc tt Γ13 (T13 N) (Try.f13.body.getD .skip) (qn tt true [i3] [.tmp 4]) (qq [i22,i3] 27 (v0,v1,()))=m13 N v0 v1:=by
 unfold Try.f13
 simp (maxSteps:=10000000) -implicitDefEqProofs [qmJ,qes,qpC,qjr,qug,qgK,qwl,qgq,qnZ,qiV,qns,qqP,qoq,qwp,qnz,qp6,qud,qmw,qwr,g28]
 rewrite [qDW (k0:=(fun (v6:Int)=>some (v6,()))) N _ ?_ ?_ ?_]
 ·rewrite [m13];first | rfl | simp (maxSteps:=10000000) -implicitDefEqProofs []
 ·rfl
 ·intro;simp only [qN,qO,qQ,qM]
 ·intro v6;simp (maxSteps:=10000000) -implicitDefEqProofs [qmJ,qes,qpC,qjr,qug,qgK,qwl,qgq,qnZ,qiV,qns,qqP,qoq,qwp,qnz,qp6,qud,qmw,qwr,g28]
def g13:G:={ps:=[i22,i3],rs:=[i3],dp:=true,pre:=fun x=>qjR x.1 x.2.1,fn:=fun x=>(qb0 x.1 x.2.1,())}
theorem e13 (x:List (Val Y48)) (n:Int) (h:qjR x n): ∃N,m13 N x n=some (qb0 x n,()):=⟨List.length x+1,by
 obtain ⟨hs,h0,h1⟩:=h
 rw [m13,qcO h0 h1 hs.1]
 simp only [qb0,qf7]
 by_cases c:n - (List.length x:Int)<0
 ·rw [qh c,if_pos c]
 ·rw [qg c,if_neg c]
  refine (qac (F:=fun n i s=>qdJ _ x _ n s i) (step:=fun _ y (s:Int) K=>chk (qka y s) (bif decide (qdD y s<0)then some ((-1:Int),())else K (qdD y s))) (k:=fun s=>some (s,())) (by omega) (fun n i s hi=> ?_) (fun n i s hi=> ?_) _ _ (Nat.lt_succ_self _)).trans (qiZ (t:=Y48) x 0 _ (by omega) (by omega) hs.2)
  ·rw [qdJ,qh (by omega),qd (by omega),qB hi]
  ·rw [qdJ,qg (by omega)]⟩
theorem s13:Sound Try.prog 13 g13:=qu (tt:=tt) (Γ:=Γ13) hT (qk s28 qt) hm (fn:=Try.f13) Try.func13 (c:=Try.f13.body.getD .skip) (by kernel_rfl) (by kernel_rfl) fun x hx=>by
 obtain ⟨N,h⟩:=e13 x.1 x.2.1 hx
 exact ⟨T13 N,p13,qr _,qCy N,(qBg N x.1 x.2.1).trans h⟩
def qkf (x:List (Val (.int .i64))):List (Val (.int .i64)):=x
def qe2 (x:List (Val (.int .i64))):Prop:=Bd (.slice 3 (.int .i64)) x
noncomputable def qer (N:Nat) (v1:List (Val (.int .i64))) (k0:(List (Val (.int .i64)))→Option (qa [i32])):Nat→Int→(List (Val (.int .i64)))→Option (qa [i32])
 | 0,_,_=>none
 | n+1,v2,v3=>bif (decide (v2<(v1.length:Int)))then (chk (0≤v2∧v2<(v1.length:Int)) (chk (0≤v2∧v2<(v3.length:Int)) (chk (v2.toNat<v3.length) (qer N v1 k0 n (IntKind.i64.wrap (v2+(1:Int))) (v3.set v2.toNat ((v1.getD v2.toNat (qb (.int .i64))):Int))))))else (k0 v3)
noncomputable def m21 (N:Nat) (v0:List (Val (.int .i64))):Option (qa [i32]):=chk (0≤(v0.length:Int)∧(v0.length:Int)≤(v0.length:Int)∧(v0.length:Int)≤1048576) (qer N v0 (fun (v5:List (Val (.int .i64)))=>some (v5,())) N (0:Int) (List.replicate (v0.length:Int).toNat (qb (.int .i64))))
def Γ21:Gam:=[]
def qim:Nm:=⟨[true,false,false,true,true],[],false⟩
theorem qor:qim.zero=false:=rfl
theorem qtQ:qim.fix=[]:=rfl
theorem qob:qim.keep=[true,false,false,true,true]:=rfl
def qlV:Nm:=⟨[false,false,false,true],[],false⟩
theorem qpu:qlV.zero=false:=rfl
theorem qpX:qlV.fix=[]:=rfl
theorem qtU:qlV.keep=[false,false,false,true]:=rfl
def qfX:Nat→Tree:=fun _=> .done
def qin:Nat→Nm:=fun i=>if i=3 then qim else ⟨[],[],false⟩
def qgy:Nat→Option Jn:=fun _=>none
def qf6:Nat→Option Nm:=fun i=>if i=0 then some qlV else none
def qhw:Nat→Option Nm:=fun _=>none
theorem p21:qm qfX (Try.f21.body.getD .skip)=true:=by kernel_rfl
def T21 (N:Nat):Tab:={tr:=qfX,lp:=qin,ex:=qf6,rg:=qhw,jn:=qgy,fuel:=N}
theorem qnI (N:Nat):(T21 N).pins=false:=rfl
theorem qB5 (N:Nat):qp Try.prog (T21 N):=qv fun _=>rfl
theorem qof (N:Nat) (i:Nat):(T21 N).tr i=qfX i:=rfl
theorem qr8 (N:Nat) (i:Nat):(T21 N).lp i=qin i:=rfl
theorem qqm (N:Nat) (i:Nat):(T21 N).ex i=qf6 i:=rfl
theorem qt9 (N:Nat) (i:Nat):(T21 N).rg i=qhw i:=rfl
theorem qqn (N:Nat) (i:Nat):(T21 N).jn i=qgy i:=rfl
theorem qou (N:Nat):(T21 N).fuel=N:=rfl
noncomputable def qwU:Code:=cut [true,true,false,true,true,true] (Try.f21.body.getD .skip)
theorem qHy {N:Nat} {Q:X→St→Option (qa [i32])} {e:List LV} {h:List Blk}:qc tt Γ21 (T21 N) qwU Q ⟨e,h⟩=qc tt Γ21 (T21 N) (cut [true,true,false,true,true,true] (Try.f21.body.getD .skip)) Q ⟨e,h⟩:=rfl
theorem qA2 (N:Nat) (v1:List (Val (.int .i64))) {k0:(List (Val (.int .i64)))→Option (qa [i32])} {Q:X→St→Option (qa [i32])} {c:Code} (hc:c=qwU) (hret: ∀st,Q .ret st=qG tt true [i32] [.tmp 2] st) (h0: ∀(v4:List (Val (.int .i64))),Q (.exit 0) ⟨[u,u,u,.one (.own 0),u,u,u,u,u,u,u,u,u,u,u,u,u,u,u,u,u,u],[.row 3 (.int .i64) v4 true true 0]⟩=k0 v4): ∀(n:Nat) (v2:Int) (v3:List (Val (.int .i64))),qE (qc tt Γ21 (T21 N) c) false qim Q n ⟨[.one (.sl 3 (.int .i64) v1 1),u,u,.one (.own 0),.one (.int .i64 v2),u,u,u,u,u,u,u,u,u,u,u,u,u,u,u,u,u],[.row 3 (.int .i64) v3 true true 0]⟩=qer N v1 k0 n v2 v3:=by
 subst hc;intro n;induction n with
 | zero=>intros;rfl
 | succ n ih=>
   intro v2 v3
   rw [qP,qHy,qer];unfold Try.f21
   simp (maxSteps:=10000000) -implicitDefEqProofs [qof,qfX,qr8,qin,qqm,qf6,qt9,qhw,qqn,qgy,qou,qnI,qtQ,qob,qor,qpX,qtU,qpu,hret,h0,ih]
theorem qJ5 (N:Nat) (v0:List (Val (.int .i64))):qc tt Γ21 (T21 N) (Try.f21.body.getD .skip) (qn tt true [i32] [.tmp 2]) (qq [i32] 22 (v0,()))=m21 N v0:=by
 unfold Try.f21
 simp (maxSteps:=10000000) -implicitDefEqProofs [qof,qfX,qr8,qin,qqm,qf6,qt9,qhw,qqn,qgy,qou,qnI,qtQ,qob,qor,qpX,qtU,qpu]
 rewrite [qA2 (k0:=(fun (v5:List (Val (.int .i64)))=>some (v5,()))) N _ ?_ ?_ ?_]
 ·rewrite [m21];first | rfl | simp (maxSteps:=10000000) -implicitDefEqProofs []
 ·rfl
 ·intro;simp only [qN,qO,qQ,qM]
 ·intro v5;simp (maxSteps:=10000000) -implicitDefEqProofs [qof,qfX,qr8,qin,qqm,qf6,qt9,qhw,qqn,qgy,qou,qnI,qtQ,qob,qor,qpX,qtU,qpu]
def g21:G:={ps:=[i32],rs:=[i32],dp:=true,pre:=fun x=>qe2 x.1,fn:=fun x=>(qkf x.1,())}
theorem e21 (x:List (Val (.int .i64))) (h:qe2 x): ∃N,m21 N x=some (qkf x,()):=⟨List.length x+1,by
 rw [m21,qd (qgY h.1),Int.toNat_natCast]
 refine qjn (F:=fun n i s=>qer _ x _ n i s) (k:=fun s=>some (s,())) (qb (.int .i64)) h.1 (fun n i s hi hl=> ?_) (fun n i s hi=> ?_) _ (Nat.lt_succ_self _)
 ·rw [qer,qh (by omega),qd (by omega),qB hi,qd (by omega),qd (by omega)]
  rfl
 ·rw [qer,qg (by omega)]⟩
theorem s21:Sound Try.prog 21 g21:=qu (tt:=tt) (Γ:=Γ21) hT qt hm (fn:=Try.f21) Try.func21 (c:=Try.f21.body.getD .skip) (by kernel_rfl) (by kernel_rfl) fun x hx=>by
 obtain ⟨N,h⟩:=e21 x.1 hx
 exact ⟨T21 N,p21,qr _,qB5 N,(qJ5 N x.1).trans h⟩
def qc3 (x:Val qx):Val qf:=x
def qfv (x:Val qx):Prop:=Bd qx x
noncomputable def qkD (N:Nat) (v0:Val qx):Option (qa [qar]):=chk (qe2 (v0.1:List (Val (.int .i64)))) (some ((((qkf (v0.1:List (Val (.int .i64)))):List (Val (.int .i64))),(v0.2.1:Int),(v0.2.2:Bool)),()))
def qq2:Gam:=[(21,g21)]
theorem qEa:Gam.get qq2 21=some g21:=rfl
def qk4:Nat→Tree:=fun _=> .done
def qmL:Nat→Nm:=fun _=>⟨[],[],false⟩
def qv8:Nat→Option Jn:=fun _=>none
def qqX:Nat→Option Nm:=fun _=>none
def qqQ:Nat→Option Nm:=fun _=>none
theorem qFF:qm qk4 (Try.f129.body.getD .skip)=true:=by kernel_rfl
def qcy (N:Nat):Tab:={tr:=qk4,lp:=qmL,ex:=qqX,rg:=qqQ,jn:=qv8,fuel:=N}
theorem qFE (N:Nat):(qcy N).pins=false:=rfl
theorem qE1 (N:Nat):qp Try.prog (qcy N):=qv fun _=>rfl
theorem qGW (N:Nat) (i:Nat):(qcy N).tr i=qk4 i:=rfl
theorem qG5 (N:Nat) (i:Nat):(qcy N).lp i=qmL i:=rfl
theorem qAV (N:Nat) (i:Nat):(qcy N).ex i=qqX i:=rfl
theorem qDr (N:Nat) (i:Nat):(qcy N).rg i=qqQ i:=rfl
theorem qJ2 (N:Nat) (i:Nat):(qcy N).jn i=qv8 i:=rfl
theorem qJo (N:Nat):(qcy N).fuel=N:=rfl
theorem qCU (N:Nat) (v0:Val qx):qc tt qq2 (qcy N) (Try.f129.body.getD .skip) (qn tt true [qar] [.cell 2 106]) (qq [qc1] 15 (v0,()))=qkD N v0:=by
 rw [qkD];unfold Try.f129
 simp (maxSteps:=10000000) -implicitDefEqProofs [qGW,qk4,qG5,qmL,qAV,qqX,qDr,qqQ,qJ2,qv8,qJo,qFE,qEa,g21]
 try rfl
def qcU:G:={ps:=[qc1],rs:=[qar],dp:=true,pre:=fun x=>qfv x.1,fn:=fun x=>(qc3 x.1,())}
theorem qJb (x:Val qx) (h:qfv x): ∃N,qkD N x=some (qc3 x,()):=⟨0,by
 obtain ⟨s0,s1,s2⟩:=h
 rw [qkD,qd (show qe2 _ from s0)]
 rfl⟩
theorem qx8:Sound Try.prog 129 qcU:=qu (tt:=tt) (Γ:=qq2) hT (qk s21 qt) hm (fn:=Try.f129) Try.func129 (c:=Try.f129.body.getD .skip) (by kernel_rfl) (by kernel_rfl) fun x hx=>by
 obtain ⟨N,h⟩:=qJb x.1 hx
 exact ⟨qcy N,qFF,qr _,qE1 N,(qCU N x.1).trans h⟩
def qnw (x:List (Val qx)):List (Val qf):=x
def qkX (x:List (Val qx)):Prop:=Bd (.slice 134 qx) x
noncomputable def qd6 (N:Nat) (v1:List (Val qx)) (k0:(List (Val qf))→Option (qa [i34])):Nat→Int→(List (Val qf))→Option (qa [i34])
 | 0,_,_=>none
 | n+1,v2,v3=>bif (decide (v2<(v1.length:Int)))then (chk (0≤v2∧v2<(v1.length:Int)) (chk (qfv (v1.getD v2.toNat (qb qx))) (chk (0≤v2∧v2<(v3.length:Int)) (chk (v2.toNat<v3.length) (qd6 N v1 k0 n (IntKind.i64.wrap (v2+(1:Int))) (v3.set v2.toNat (((qc3 (v1.getD v2.toNat (qb qx))).1:List (Val (.int .i64))),(((qc3 (v1.getD v2.toNat (qb qx))).2).1:Int),(((qc3 (v1.getD v2.toNat (qb qx))).2).2:Bool))))))))else (k0 v3)
noncomputable def m67 (N:Nat) (v0:List (Val qx)):Option (qa [i34]):=chk (0≤(v0.length:Int)∧(v0.length:Int)≤(v0.length:Int)∧(v0.length:Int)≤1048576) (qd6 N v0 (fun (v5:List (Val qf))=>some (v5,())) N (0:Int) (List.replicate (v0.length:Int).toNat (qb qf)))
def Γ67:Gam:=[(129,qcU)]
theorem qrC:Gam.get Γ67 129=some qcU:=rfl
def qiu:Nm:=⟨[true,false,false,true,true],[],false⟩
theorem qtm:qiu.zero=false:=rfl
theorem qmQ:qiu.fix=[]:=rfl
theorem quV:qiu.keep=[true,false,false,true,true]:=rfl
def qjO:Nm:=⟨[false,false,false,true],[],false⟩
theorem qmy:qjO.zero=false:=rfl
theorem qrR:qjO.fix=[]:=rfl
theorem qvD:qjO.keep=[false,false,false,true]:=rfl
def qfq:Nat→Tree:=fun _=> .done
def qhN:Nat→Nm:=fun i=>if i=3 then qiu else ⟨[],[],false⟩
def qg6:Nat→Option Jn:=fun _=>none
def qgp:Nat→Option Nm:=fun i=>if i=0 then some qjO else none
def qhj:Nat→Option Nm:=fun _=>none
theorem p67:qm qfq (Try.f67.body.getD .skip)=true:=by kernel_rfl
def T67 (N:Nat):Tab:={tr:=qfq,lp:=qhN,ex:=qgp,rg:=qhj,jn:=qg6,fuel:=N}
theorem qqo (N:Nat):(T67 N).pins=false:=rfl
theorem qIK (N:Nat):qp Try.prog (T67 N):=qv fun _=>rfl
theorem qmM (N:Nat) (i:Nat):(T67 N).tr i=qfq i:=rfl
theorem qoJ (N:Nat) (i:Nat):(T67 N).lp i=qhN i:=rfl
theorem qnU (N:Nat) (i:Nat):(T67 N).ex i=qgp i:=rfl
theorem qmx (N:Nat) (i:Nat):(T67 N).rg i=qhj i:=rfl
theorem qtv (N:Nat) (i:Nat):(T67 N).jn i=qg6 i:=rfl
theorem qmt (N:Nat):(T67 N).fuel=N:=rfl
noncomputable def qzc:Code:=cut [true,true,false,true,true,true] (Try.f67.body.getD .skip)
theorem qDx {N:Nat} {Q:X→St→Option (qa [i34])} {e:List LV} {h:List Blk}:qc tt Γ67 (T67 N) qzc Q ⟨e,h⟩=qc tt Γ67 (T67 N) (cut [true,true,false,true,true,true] (Try.f67.body.getD .skip)) Q ⟨e,h⟩:=rfl
theorem qE9 (N:Nat) (v1:List (Val qx)) {k0:(List (Val qf))→Option (qa [i34])} {Q:X→St→Option (qa [i34])} {c:Code} (hc:c=qzc) (hret: ∀st,Q .ret st=qG tt true [i34] [.tmp 2] st) (h0: ∀(v4:List (Val qf)),Q (.exit 0) ⟨[u,u,u,.one (.own 0),u,u,u,u,u,u,u,u,u,u,u,u,u,u,u,u,u,u,u],[.row 106 qf v4 true true 0]⟩=k0 v4): ∀(n:Nat) (v2:Int) (v3:List (Val qf)),qE (qc tt Γ67 (T67 N) c) false qiu Q n ⟨[.one (.sl 134 qx v1 1),u,u,.one (.own 0),.one (.int .i64 v2),u,u,u,u,u,u,u,u,u,u,u,u,u,u,u,u,u,u],[.row 106 qf v3 true true 0]⟩=qd6 N v1 k0 n v2 v3:=by
 subst hc;intro n;induction n with
 | zero=>intros;rfl
 | succ n ih=>
   intro v2 v3
   rw [qP,qDx,qd6];unfold Try.f67
   simp (maxSteps:=10000000) -implicitDefEqProofs [qmM,qfq,qoJ,qhN,qnU,qgp,qmx,qhj,qtv,qg6,qmt,qqo,qmQ,quV,qtm,qrR,qvD,qmy,qrC,qcU,hret,h0,ih]
theorem qI2 (N:Nat) (v0:List (Val qx)):qc tt Γ67 (T67 N) (Try.f67.body.getD .skip) (qn tt true [i34] [.tmp 2]) (qq [i29] 23 (v0,()))=m67 N v0:=by
 unfold Try.f67
 simp (maxSteps:=10000000) -implicitDefEqProofs [qmM,qfq,qoJ,qhN,qnU,qgp,qmx,qhj,qtv,qg6,qmt,qqo,qmQ,quV,qtm,qrR,qvD,qmy,qrC,qcU]
 rewrite [qE9 (k0:=(fun (v5:List (Val qf))=>some (v5,()))) N _ ?_ ?_ ?_]
 ·rewrite [m67];first | rfl | simp (maxSteps:=10000000) -implicitDefEqProofs []
 ·rfl
 ·intro;simp only [qN,qO,qQ,qM]
 ·intro v5;simp (maxSteps:=10000000) -implicitDefEqProofs [qmM,qfq,qoJ,qhN,qnU,qgp,qmx,qhj,qtv,qg6,qmt,qqo,qmQ,quV,qtm,qrR,qvD,qmy,qrC,qcU]
def g67:G:={ps:=[i29],rs:=[i34],dp:=true,pre:=fun x=>qkX x.1,fn:=fun x=>(qnw x.1,())}
theorem e67 (x:List (Val qx)) (h:qkX x): ∃N,m67 N x=some (qnw x,()):=⟨List.length x+1,by
 rw [m67,qd (qgY h.1),Int.toNat_natCast]
 refine qjn (F:=fun n i s=>qd6 _ x _ n i s) (k:=fun s=>some (s,())) (qb qf) h.1 (fun n i s hi hl=> ?_) (fun n i s hi=> ?_) _ (Nat.lt_succ_self _)
 ·rw [qd6,qh (by omega),qd (by omega),qd (show qfv _ from by rw [qB hi];exact h.2 _ (List.getElem_mem hi)),qB hi,qd (by omega),qd (by omega)]
  rfl
 ·rw [qd6,qg (by omega)]⟩
theorem s67:Sound Try.prog 67 g67:=qu (tt:=tt) (Γ:=Γ67) hT (qk qx8 qt) hm (fn:=Try.f67) Try.func67 (c:=Try.f67.body.getD .skip) (by kernel_rfl) (by kernel_rfl) fun x hx=>by
 obtain ⟨N,h⟩:=e67 x.1 hx
 exact ⟨T67 N,p67,qr _,qIK N,(qI2 N x.1).trans h⟩
def qkb (x:Val Y31):Val Y36:=x
def qmf (x:Val Y31):Prop:=Bd Y31 x
noncomputable def m20 (N:Nat) (v0:Val Y31):Option (qa [i36]):=chk (qkX (v0.2:List (Val qx))) (some (((v0.1:Int),((qnw (v0.2:List (Val qx))):List (Val qf))),()))
def Γ20:Gam:=[(67,g67)]
theorem qHT:Gam.get Γ20 67=some g67:=rfl
def qjW:Nat→Tree:=fun _=> .done
def qmS:Nat→Nm:=fun _=>⟨[],[],false⟩
def qrP:Nat→Option Jn:=fun _=>none
def qoS:Nat→Option Nm:=fun _=>none
def qst:Nat→Option Nm:=fun _=>none
theorem p20:qm qjW (Try.f20.body.getD .skip)=true:=by kernel_rfl
def T20 (N:Nat):Tab:={tr:=qjW,lp:=qmS,ex:=qoS,rg:=qst,jn:=qrP,fuel:=N}
theorem qIC (N:Nat):(T20 N).pins=false:=rfl
theorem qD2 (N:Nat):qp Try.prog (T20 N):=qv fun _=>rfl
theorem qDe (N:Nat) (i:Nat):(T20 N).tr i=qjW i:=rfl
theorem qHV (N:Nat) (i:Nat):(T20 N).lp i=qmS i:=rfl
theorem qHX (N:Nat) (i:Nat):(T20 N).ex i=qoS i:=rfl
theorem qDj (N:Nat) (i:Nat):(T20 N).rg i=qst i:=rfl
theorem qB4 (N:Nat) (i:Nat):(T20 N).jn i=qrP i:=rfl
theorem qET (N:Nat):(T20 N).fuel=N:=rfl
theorem qIf (N:Nat) (v0:Val Y31):qc tt Γ20 (T20 N) (Try.f20.body.getD .skip) (qn tt true [i36] [.cell 2 36]) (qq [i31] 12 (v0,()))=m20 N v0:=by
 rw [m20];unfold Try.f20
 simp (maxSteps:=10000000) -implicitDefEqProofs [qDe,qjW,qHV,qmS,qHX,qoS,qDj,qst,qB4,qrP,qET,qIC,qHT,g67]
 try rfl
def g20:G:={ps:=[i31],rs:=[i36],dp:=true,pre:=fun x=>qmf x.1,fn:=fun x=>(qkb x.1,())}
theorem e20 (x:Val Y31) (h:qmf x): ∃N,m20 N x=some (qkb x,()):=⟨0,by
 obtain ⟨s0,s1⟩:=h
 rw [m20,qd (show qkX _ from s1)]
 rfl⟩
theorem s20:Sound Try.prog 20 g20:=qu (tt:=tt) (Γ:=Γ20) hT (qk s67 qt) hm (fn:=Try.f20) Try.func20 (c:=Try.f20.body.getD .skip) (by kernel_rfl) (by kernel_rfl) fun x hx=>by
 obtain ⟨N,h⟩:=e20 x.1 hx
 exact ⟨T20 N,p20,qr _,qD2 N,(qIf N x.1).trans h⟩
def qiQ (x:Val qz):Val qi:=x
def qkH (x:Val qz):Prop:=Bd qz x
noncomputable def qkG (N:Nat) (v0:Val qz):Option (qa [qcf]):=chk (qmf v0.2) (some (((v0.1:ByteArray),(((qkb v0.2).1:Int),((qkb v0.2).2:List (Val qf)))),()))
def qps:Gam:=[(20,g20)]
theorem qJq:Gam.get qps 20=some g20:=rfl
def qk5:Nat→Tree:=fun _=> .done
def qqw:Nat→Nm:=fun _=>⟨[],[],false⟩
def quX:Nat→Option Jn:=fun _=>none
def qvv:Nat→Option Nm:=fun _=>none
def quj:Nat→Option Nm:=fun _=>none
theorem qCw:qm qk5 (Try.f135.body.getD .skip)=true:=by kernel_rfl
def qcp (N:Nat):Tab:={tr:=qk5,lp:=qqw,ex:=qvv,rg:=quj,jn:=quX,fuel:=N}
theorem qDU (N:Nat):(qcp N).pins=false:=rfl
theorem qCI (N:Nat):qp Try.prog (qcp N):=qv fun _=>rfl
theorem qGo (N:Nat) (i:Nat):(qcp N).tr i=qk5 i:=rfl
theorem qB9 (N:Nat) (i:Nat):(qcp N).lp i=qqw i:=rfl
theorem qGt (N:Nat) (i:Nat):(qcp N).ex i=qvv i:=rfl
theorem qFb (N:Nat) (i:Nat):(qcp N).rg i=quj i:=rfl
theorem qFZ (N:Nat) (i:Nat):(qcp N).jn i=quX i:=rfl
theorem qEp (N:Nat):(qcp N).fuel=N:=rfl
theorem qF3 (N:Nat) (v0:Val qz):qc tt qps (qcp N) (Try.f135.body.getD .skip) (qn tt true [qcf] [.cell 2 116]) (qq [qdu] 12 (v0,()))=qkG N v0:=by
 rw [qkG];unfold Try.f135
 simp (maxSteps:=10000000) -implicitDefEqProofs [qGo,qk5,qB9,qqw,qGt,qvv,qFb,quj,qFZ,quX,qEp,qDU,qJq,g20]
 try rfl
def qe7:G:={ps:=[qdu],rs:=[qcf],dp:=true,pre:=fun x=>qkH x.1,fn:=fun x=>(qiQ x.1,())}
theorem qBC (x:Val qz) (h:qkH x): ∃N,qkG N x=some (qiQ x,()):=⟨0,by
 obtain ⟨s0,s1⟩:=h
 rw [qkG,qd (show qmf _ from s1)]
 rfl⟩
theorem qHS:Sound Try.prog 135 qe7:=qu (tt:=tt) (Γ:=qps) hT (qk s20 qt) hm (fn:=Try.f135) Try.func135 (c:=Try.f135.body.getD .skip) (by kernel_rfl) (by kernel_rfl) fun x hx=>by
 obtain ⟨N,h⟩:=qBC x.1 hx
 exact ⟨qcp N,qCw,qr _,qCI N,(qF3 N x.1).trans h⟩
def qrs (x:List (Val qz)):List (Val qi):=x
def qkd (x:List (Val qz)):Prop:=Bd (.slice 172 qz) x
noncomputable def qeh (N:Nat) (v1:List (Val qz)) (k0:(List (Val qi))→Option (qa [i51])):Nat→Int→(List (Val qi))→Option (qa [i51])
 | 0,_,_=>none
 | n+1,v2,v3=>bif (decide (v2<(v1.length:Int)))then (chk (0≤v2∧v2<(v1.length:Int)) (chk (qkH (v1.getD v2.toNat (qb qz))) (chk (0≤v2∧v2<(v3.length:Int)) (chk (v2.toNat<v3.length) (qeh N v1 k0 n (IntKind.i64.wrap (v2+(1:Int))) (v3.set v2.toNat (((qiQ (v1.getD v2.toNat (qb qz))).1:ByteArray),((((qiQ (v1.getD v2.toNat (qb qz))).2).1:Int),(((qiQ (v1.getD v2.toNat (qb qz))).2).2:List (Val qf))))))))))else (k0 v3)
noncomputable def m76 (N:Nat) (v0:List (Val qz)):Option (qa [i51]):=chk (0≤(v0.length:Int)∧(v0.length:Int)≤(v0.length:Int)∧(v0.length:Int)≤1048576) (qeh N v0 (fun (v5:List (Val qi))=>some (v5,())) N (0:Int) (List.replicate (v0.length:Int).toNat (qb qi)))
def Γ76:Gam:=[(135,qe7)]
theorem qoa:Gam.get Γ76 135=some qe7:=rfl
def qgV:Nm:=⟨[true,false,false,true,true],[],false⟩
theorem qs2:qgV.zero=false:=rfl
theorem qrX:qgV.fix=[]:=rfl
theorem qu6:qgV.keep=[true,false,false,true,true]:=rfl
def qkw:Nm:=⟨[false,false,false,true],[],false⟩
theorem qnl:qkw.zero=false:=rfl
theorem qu9:qkw.fix=[]:=rfl
theorem qqN:qkw.keep=[false,false,false,true]:=rfl
def qeW:Nat→Tree:=fun _=> .done
def qhm:Nat→Nm:=fun i=>if i=3 then qgV else ⟨[],[],false⟩
def qi5:Nat→Option Jn:=fun _=>none
def qjy:Nat→Option Nm:=fun i=>if i=0 then some qkw else none
def qjl:Nat→Option Nm:=fun _=>none
theorem p76:qm qeW (Try.f76.body.getD .skip)=true:=by kernel_rfl
def T76 (N:Nat):Tab:={tr:=qeW,lp:=qhm,ex:=qjy,rg:=qjl,jn:=qi5,fuel:=N}
theorem qmu (N:Nat):(T76 N).pins=false:=rfl
theorem qDA (N:Nat):qp Try.prog (T76 N):=qv fun _=>rfl
theorem qt4 (N:Nat) (i:Nat):(T76 N).tr i=qeW i:=rfl
theorem qpe (N:Nat) (i:Nat):(T76 N).lp i=qhm i:=rfl
theorem qpt (N:Nat) (i:Nat):(T76 N).ex i=qjy i:=rfl
theorem qrB (N:Nat) (i:Nat):(T76 N).rg i=qjl i:=rfl
theorem quf (N:Nat) (i:Nat):(T76 N).jn i=qi5 i:=rfl
theorem qtl (N:Nat):(T76 N).fuel=N:=rfl
noncomputable def qyP:Code:=cut [true,true,false,true,true,true] (Try.f76.body.getD .skip)
theorem qFU {N:Nat} {Q:X→St→Option (qa [i51])} {e:List LV} {h:List Blk}:qc tt Γ76 (T76 N) qyP Q ⟨e,h⟩=qc tt Γ76 (T76 N) (cut [true,true,false,true,true,true] (Try.f76.body.getD .skip)) Q ⟨e,h⟩:=rfl
theorem qB7 (N:Nat) (v1:List (Val qz)) {k0:(List (Val qi))→Option (qa [i51])} {Q:X→St→Option (qa [i51])} {c:Code} (hc:c=qyP) (hret: ∀st,Q .ret st=qG tt true [i51] [.tmp 2] st) (h0: ∀(v4:List (Val qi)),Q (.exit 0) ⟨[u,u,u,.one (.own 0),u,u,u,u,u,u,u,u,u,u,u,u,u,u,u,u,u,u,u],[.row 116 qi v4 true true 0]⟩=k0 v4): ∀(n:Nat) (v2:Int) (v3:List (Val qi)),qE (qc tt Γ76 (T76 N) c) false qgV Q n ⟨[.one (.sl 172 qz v1 1),u,u,.one (.own 0),.one (.int .i64 v2),u,u,u,u,u,u,u,u,u,u,u,u,u,u,u,u,u,u],[.row 116 qi v3 true true 0]⟩=qeh N v1 k0 n v2 v3:=by
 subst hc;intro n;induction n with
 | zero=>intros;rfl
 | succ n ih=>
   intro v2 v3
   rw [qP,qFU,qeh];unfold Try.f76
   simp (maxSteps:=10000000) -implicitDefEqProofs [qt4,qeW,qpe,qhm,qpt,qjy,qrB,qjl,quf,qi5,qtl,qmu,qrX,qu6,qs2,qu9,qqN,qnl,qoa,qe7,hret,h0,ih]
theorem qDp (N:Nat) (v0:List (Val qz)):qc tt Γ76 (T76 N) (Try.f76.body.getD .skip) (qn tt true [i51] [.tmp 2]) (qq [i46] 23 (v0,()))=m76 N v0:=by
 unfold Try.f76
 simp (maxSteps:=10000000) -implicitDefEqProofs [qt4,qeW,qpe,qhm,qpt,qjy,qrB,qjl,quf,qi5,qtl,qmu,qrX,qu6,qs2,qu9,qqN,qnl,qoa,qe7]
 rewrite [qB7 (k0:=(fun (v5:List (Val qi))=>some (v5,()))) N _ ?_ ?_ ?_]
 ·rewrite [m76];first | rfl | simp (maxSteps:=10000000) -implicitDefEqProofs []
 ·rfl
 ·intro;simp only [qN,qO,qQ,qM]
 ·intro v5;simp (maxSteps:=10000000) -implicitDefEqProofs [qt4,qeW,qpe,qhm,qpt,qjy,qrB,qjl,quf,qi5,qtl,qmu,qrX,qu6,qs2,qu9,qqN,qnl,qoa,qe7]
def g76:G:={ps:=[i46],rs:=[i51],dp:=true,pre:=fun x=>qkd x.1,fn:=fun x=>(qrs x.1,())}
theorem e76 (x:List (Val qz)) (h:qkd x): ∃N,m76 N x=some (qrs x,()):=⟨List.length x+1,by
 rw [m76,qd (qgY h.1),Int.toNat_natCast]
 refine qjn (F:=fun n i s=>qeh _ x _ n i s) (k:=fun s=>some (s,())) (qb qi) h.1 (fun n i s hi hl=> ?_) (fun n i s hi=> ?_) _ (Nat.lt_succ_self _)
 ·rw [qeh,qh (by omega),qd (by omega),qd (show qkH _ from by rw [qB hi];exact h.2 _ (List.getElem_mem hi)),qB hi,qd (by omega),qd (by omega)]
  rfl
 ·rw [qeh,qg (by omega)]⟩
theorem s76:Sound Try.prog 76 g76:=qu (tt:=tt) (Γ:=Γ76) hT (qk qHS qt) hm (fn:=Try.f76) Try.func76 (c:=Try.f76.body.getD .skip) (by kernel_rfl) (by kernel_rfl) fun x hx=>by
 obtain ⟨N,h⟩:=e76 x.1 hx
 exact ⟨T76 N,p76,qr _,qDA N,(qDp N x.1).trans h⟩
def qjk (x:Val Y48):Val Y53:=x
def qkO (x:Val Y48):Prop:=Bd Y48 x
noncomputable def m30 (N:Nat) (v0:Val Y48):Option (qa [i53]):=chk (qkd (v0.2.2:List (Val qz))) (some (((v0.1:ByteArray),(v0.2.1:Int),((qrs (v0.2.2:List (Val qz))):List (Val qi))),()))
def Γ30:Gam:=[(76,g76)]
theorem qE4:Gam.get Γ30 76=some g76:=rfl
def qk3:Nat→Tree:=fun _=> .done
def qwd:Nat→Nm:=fun _=>⟨[],[],false⟩
def qpV:Nat→Option Jn:=fun _=>none
def qnu:Nat→Option Nm:=fun _=>none
def qsc:Nat→Option Nm:=fun _=>none
theorem p30:qm qk3 (Try.f30.body.getD .skip)=true:=by kernel_rfl
def T30 (N:Nat):Tab:={tr:=qk3,lp:=qwd,ex:=qnu,rg:=qsc,jn:=qpV,fuel:=N}
theorem qHv (N:Nat):(T30 N).pins=false:=rfl
theorem qGh (N:Nat):qp Try.prog (T30 N):=qv fun _=>rfl
theorem qIh (N:Nat) (i:Nat):(T30 N).tr i=qk3 i:=rfl
theorem qFd (N:Nat) (i:Nat):(T30 N).lp i=qwd i:=rfl
theorem qGj (N:Nat) (i:Nat):(T30 N).ex i=qnu i:=rfl
theorem qHB (N:Nat) (i:Nat):(T30 N).rg i=qsc i:=rfl
theorem qF7 (N:Nat) (i:Nat):(T30 N).jn i=qpV i:=rfl
theorem qDR (N:Nat):(T30 N).fuel=N:=rfl
theorem qIG (N:Nat) (v0:Val Y48):qc tt Γ30 (T30 N) (Try.f30.body.getD .skip) (qn tt true [i53] [.cell 2 53]) (qq [i48] 15 (v0,()))=m30 N v0:=by
 rw [m30];unfold Try.f30
 simp (maxSteps:=10000000) -implicitDefEqProofs [qIh,qk3,qFd,qwd,qGj,qnu,qHB,qsc,qF7,qpV,qDR,qHv,qE4,g76]
 try rfl
def g30:G:={ps:=[i48],rs:=[i53],dp:=true,pre:=fun x=>qkO x.1,fn:=fun x=>(qjk x.1,())}
theorem e30 (x:Val Y48) (h:qkO x): ∃N,m30 N x=some (qjk x,()):=⟨0,by
 obtain ⟨s0,s1,s2⟩:=h
 rw [m30,qd (show qkd _ from s2)]
 rfl⟩
theorem s30:Sound Try.prog 30 g30:=qu (tt:=tt) (Γ:=Γ30) hT (qk s76 qt) hm (fn:=Try.f30) Try.func30 (c:=Try.f30.body.getD .skip) (by kernel_rfl) (by kernel_rfl) fun x hx=>by
 obtain ⟨N,h⟩:=e30 x.1 hx
 exact ⟨T30 N,p30,qr _,qGh N,(qIG N x.1).trans h⟩
def qaE (x:List (Val Y48)):List (Val Y53):=x
def qfK (x:List (Val Y48)):Prop:=Bd (.slice 48 Y48) x
noncomputable def qek (N:Nat) (v1:List (Val Y48)) (k0:(List (Val Y53))→Option (qa [i25])):Nat→Int→(List (Val Y53))→Option (qa [i25])
 | 0,_,_=>none
 | n+1,v2,v3=>bif (decide (v2<(v1.length:Int)))then (chk (0≤v2∧v2<(v1.length:Int)) (chk (qkO (v1.getD v2.toNat (qb Y48))) (chk (0≤v2∧v2<(v3.length:Int)) (chk (v2.toNat<v3.length) (qek N v1 k0 n (IntKind.i64.wrap (v2+(1:Int))) (v3.set v2.toNat (((qjk (v1.getD v2.toNat (qb Y48))).1:ByteArray),(((qjk (v1.getD v2.toNat (qb Y48))).2).1:Int),(((qjk (v1.getD v2.toNat (qb Y48))).2).2:List (Val qi)))))))))else (k0 v3)
noncomputable def m15 (N:Nat) (v0:List (Val Y48)):Option (qa [i25]):=chk (0≤(v0.length:Int)∧(v0.length:Int)≤(v0.length:Int)∧(v0.length:Int)≤1048576) (qek N v0 (fun (v5:List (Val Y53))=>some (v5,())) N (0:Int) (List.replicate (v0.length:Int).toNat (qb Y53)))
def Γ15:Gam:=[(30,g30)]
theorem qru:Gam.get Γ15 30=some g30:=rfl
def qju:Nm:=⟨[true,false,false,true,true],[],false⟩
theorem qrN:qju.zero=false:=rfl
theorem qvd:qju.fix=[]:=rfl
theorem qoV:qju.keep=[true,false,false,true,true]:=rfl
def qlG:Nm:=⟨[false,false,false,true],[],false⟩
theorem qup:qlG.zero=false:=rfl
theorem qpT:qlG.fix=[]:=rfl
theorem qpr:qlG.keep=[false,false,false,true]:=rfl
def qfr:Nat→Tree:=fun _=> .done
def qh5:Nat→Nm:=fun i=>if i=3 then qju else ⟨[],[],false⟩
def qjF:Nat→Option Jn:=fun _=>none
def qjo:Nat→Option Nm:=fun i=>if i=0 then some qlG else none
def qiN:Nat→Option Nm:=fun _=>none
theorem p15:qm qfr (Try.f15.body.getD .skip)=true:=by kernel_rfl
def T15 (N:Nat):Tab:={tr:=qfr,lp:=qh5,ex:=qjo,rg:=qiN,jn:=qjF,fuel:=N}
theorem qrj (N:Nat):(T15 N).pins=false:=rfl
theorem qCq (N:Nat):qp Try.prog (T15 N):=qv fun _=>rfl
theorem qss (N:Nat) (i:Nat):(T15 N).tr i=qfr i:=rfl
theorem qra (N:Nat) (i:Nat):(T15 N).lp i=qh5 i:=rfl
theorem qtG (N:Nat) (i:Nat):(T15 N).ex i=qjo i:=rfl
theorem qoo (N:Nat) (i:Nat):(T15 N).rg i=qiN i:=rfl
theorem qtO (N:Nat) (i:Nat):(T15 N).jn i=qjF i:=rfl
theorem qrw (N:Nat):(T15 N).fuel=N:=rfl
noncomputable def qym:Code:=cut [true,true,false,true,true,true] (Try.f15.body.getD .skip)
theorem qA1 {N:Nat} {Q:X→St→Option (qa [i25])} {e:List LV} {h:List Blk}:qc tt Γ15 (T15 N) qym Q ⟨e,h⟩=qc tt Γ15 (T15 N) (cut [true,true,false,true,true,true] (Try.f15.body.getD .skip)) Q ⟨e,h⟩:=rfl
theorem qBK (N:Nat) (v1:List (Val Y48)) {k0:(List (Val Y53))→Option (qa [i25])} {Q:X→St→Option (qa [i25])} {c:Code} (hc:c=qym) (hret: ∀st,Q .ret st=qG tt true [i25] [.tmp 2] st) (h0: ∀(v4:List (Val Y53)),Q (.exit 0) ⟨[u,u,u,.one (.own 0),u,u,u,u,u,u,u,u,u,u,u,u,u,u,u,u,u,u,u],[.row 53 Y53 v4 true true 0]⟩=k0 v4): ∀(n:Nat) (v2:Int) (v3:List (Val Y53)),qE (qc tt Γ15 (T15 N) c) false qju Q n ⟨[.one (.sl 48 Y48 v1 1),u,u,.one (.own 0),.one (.int .i64 v2),u,u,u,u,u,u,u,u,u,u,u,u,u,u,u,u,u,u],[.row 53 Y53 v3 true true 0]⟩=qek N v1 k0 n v2 v3:=by
 subst hc;intro n;induction n with
 | zero=>intros;rfl
 | succ n ih=>
   intro v2 v3
   rw [qP,qA1,qek];unfold Try.f15
   simp (maxSteps:=10000000) -implicitDefEqProofs [qss,qfr,qra,qh5,qtG,qjo,qoo,qiN,qtO,qjF,qrw,qrj,qvd,qoV,qrN,qpT,qpr,qup,qru,g30,hret,h0,ih]
theorem qGg (N:Nat) (v0:List (Val Y48)):qc tt Γ15 (T15 N) (Try.f15.body.getD .skip) (qn tt true [i25] [.tmp 2]) (qq [i22] 23 (v0,()))=m15 N v0:=by
 unfold Try.f15
 simp (maxSteps:=10000000) -implicitDefEqProofs [qss,qfr,qra,qh5,qtG,qjo,qoo,qiN,qtO,qjF,qrw,qrj,qvd,qoV,qrN,qpT,qpr,qup,qru,g30]
 rewrite [qBK (k0:=(fun (v5:List (Val Y53))=>some (v5,()))) N _ ?_ ?_ ?_]
 ·rewrite [m15];first | rfl | simp (maxSteps:=10000000) -implicitDefEqProofs []
 ·rfl
 ·intro;simp only [qN,qO,qQ,qM]
 ·intro v5;simp (maxSteps:=10000000) -implicitDefEqProofs [qss,qfr,qra,qh5,qtG,qjo,qoo,qiN,qtO,qjF,qrw,qrj,qvd,qoV,qrN,qpT,qpr,qup,qru,g30]
def g15:G:={ps:=[i22],rs:=[i25],dp:=true,pre:=fun x=>qfK x.1,fn:=fun x=>(qaE x.1,())}
theorem e15 (x:List (Val Y48)) (h:qfK x): ∃N,m15 N x=some (qaE x,()):=⟨List.length x+1,by
 rw [m15,qd (qgY h.1),Int.toNat_natCast]
 refine qjn (F:=fun n i s=>qek _ x _ n i s) (k:=fun s=>some (s,())) (qb Y53) h.1 (fun n i s hi hl=> ?_) (fun n i s hi=> ?_) _ (Nat.lt_succ_self _)
 ·rw [qek,qh (by omega),qd (by omega),qd (show qkO _ from by rw [qB hi];exact h.2 _ (List.getElem_mem hi)),qB hi,qd (by omega),qd (by omega)]
  rfl
 ·rw [qek,qg (by omega)]⟩
theorem s15:Sound Try.prog 15 g15:=qu (tt:=tt) (Γ:=Γ15) hT (qk s30 qt) hm (fn:=Try.f15) Try.func15 (c:=Try.f15.body.getD .skip) (by kernel_rfl) (by kernel_rfl) fun x hx=>by
 obtain ⟨N,h⟩:=e15 x.1 hx
 exact ⟨T15 N,p15,qr _,qCq N,(qGg N x.1).trans h⟩
def qdE (x y:List (Val (.int .i64))):Bool:=eqV (.slice 3 (.int .i64)) x y
def qfb (x _:List (Val (.int .i64))):Prop:=Bd (.slice 3 (.int .i64)) x
noncomputable def qdP (N:Nat) (v2:List (Val (.int .i64))) (v3:List (Val (.int .i64))) (k0:Unit→Option (qa [i4])):Nat→Int→Option (qa [i4])
 | 0,_=>none
 | n+1,v4=>bif (decide (v4<(v2.length:Int)))then (chk (0≤v4∧v4<(v2.length:Int)) (chk (0≤v4∧v4<(v3.length:Int)) (bif (!(decide (((v2.getD v4.toNat (qb (.int .i64))):Int)=((v3.getD v4.toNat (qb (.int .i64))):Int))))then (some (false,()))else (qdP N v2 v3 k0 n (IntKind.i64.wrap (v4+(1:Int)))))))else (k0 ())
noncomputable def m24 (N:Nat) (v0:List (Val (.int .i64))) (v1:List (Val (.int .i64))):Option (qa [i4]):=bif (!(decide ((v0.length:Int)=(v1.length:Int))))then (some (false,()))else (qdP N v0 v1 (fun (_:Unit)=>some (true,())) N (0:Int))
def Γ24:Gam:=[]
def qhR:Nm:=⟨[true,true,false,false,false,true],[],false⟩
theorem qtF:qhR.zero=false:=rfl
theorem qtR:qhR.fix=[]:=rfl
theorem qsL:qhR.keep=[true,true,false,false,false,true]:=rfl
def qj1:Nm:=⟨[],[],false⟩
theorem qpA:qj1.zero=false:=rfl
theorem qop:qj1.fix=[]:=rfl
theorem qnq:qj1.keep=[]:=rfl
def qeM:Nat→Tree:=fun i=>if i=6 then .quiet 0 (.quiet 1 (.quiet 2 (.quiet 3 (.quiet 4 (.quiet 5 (.quiet 6 (.quiet 7 (.quiet 8 .done))))))))else .done
def qgt:Nat→Nm:=fun i=>if i=4 then qhR else ⟨[],[],false⟩
def qgx:Nat→Option Jn:=fun _=>none
def qhl:Nat→Option Nm:=fun i=>if i=0 then some qj1 else none
def qgw:Nat→Option Nm:=fun _=>none
theorem p24:qm qeM (Try.f24.body.getD .skip)=true:=by kernel_rfl
def T24 (N:Nat):Tab:={tr:=qeM,lp:=qgt,ex:=qhl,rg:=qgw,jn:=qgx,fuel:=N}
theorem quy (N:Nat):(T24 N).pins=false:=rfl
theorem qFT (N:Nat):qp Try.prog (T24 N):=qv fun _=>rfl
theorem qsX (N:Nat) (i:Nat):(T24 N).tr i=qeM i:=rfl
theorem qrA (N:Nat) (i:Nat):(T24 N).lp i=qgt i:=rfl
theorem qr3 (N:Nat) (i:Nat):(T24 N).ex i=qhl i:=rfl
theorem qsD (N:Nat) (i:Nat):(T24 N).rg i=qgw i:=rfl
theorem qr2 (N:Nat) (i:Nat):(T24 N).jn i=qgx i:=rfl
theorem qvn (N:Nat):(T24 N).fuel=N:=rfl
noncomputable def qzd:Code:=cut [true,true,false,true,true,true] (Try.f24.body.getD .skip)
theorem qAb {N:Nat} {Q:X→St→Option (qa [i4])} {e:List LV} {h:List Blk}:qc tt Γ24 (T24 N) qzd Q ⟨e,h⟩=qc tt Γ24 (T24 N) (cut [true,true,false,true,true,true] (Try.f24.body.getD .skip)) Q ⟨e,h⟩:=rfl
theorem qHJ (N:Nat) (v2:List (Val (.int .i64))) (v3:List (Val (.int .i64))) {k0:Unit→Option (qa [i4])} {Q:X→St→Option (qa [i4])} {c:Code} (hc:c=qzd) (hret: ∀st,Q .ret st=qG tt true [i4] [.tmp 4] st) (h0:Q (.exit 0) ⟨[u,u,u,u,u,u,u,u,u,u,u,u,u,u,u,u,u,u,u,u,u,u,u,u,u,u],[]⟩=k0 ()): ∀(n:Nat) (v4:Int),qE (qc tt Γ24 (T24 N) c) false qhR Q n ⟨[.one (.sl 3 (.int .i64) v2 0),.one (.sl 3 (.int .i64) v3 0),u,u,u,.one (.int .i64 v4),u,u,u,u,u,u,u,u,u,u,u,u,u,u,u,u,u,u,u,u],[]⟩=qdP N v2 v3 k0 n v4:=by
 subst hc;intro n;induction n with
 | zero=>intros;rfl
 | succ n ih=>
   intro v4
   rw [qP,qAb,qdP];unfold Try.f24
   simp (maxSteps:=10000000) -implicitDefEqProofs [qsX,qeM,qrA,qgt,qr3,qhl,qsD,qgw,qr2,qgx,qvn,quy,qtR,qsL,qtF,qop,qnq,qpA,hret,h0,ih]
theorem qFG (N:Nat) (v0:List (Val (.int .i64))) (v1:List (Val (.int .i64))):qc tt Γ24 (T24 N) (Try.f24.body.getD .skip) (qn tt true [i4] [.tmp 4]) (qq [i32,i32] 26 (v0,v1,()))=m24 N v0 v1:=by
 unfold Try.f24
 simp (maxSteps:=10000000) -implicitDefEqProofs [qsX,qeM,qrA,qgt,qr3,qhl,qsD,qgw,qr2,qgx,qvn,quy,qtR,qsL,qtF,qop,qnq,qpA]
 rewrite [qHJ (k0:=(fun (_:Unit)=>some (true,()))) N _ _ ?_ ?_ ?_]
 ·rewrite [m24];first | rfl | simp (maxSteps:=10000000) -implicitDefEqProofs []
 ·rfl
 ·intro;simp only [qN,qO,qQ,qM]
 ·simp (maxSteps:=10000000) -implicitDefEqProofs [qsX,qeM,qrA,qgt,qr3,qhl,qsD,qgw,qr2,qgx,qvn,quy,qtR,qsL,qtF,qop,qnq,qpA]
def g24:G:={ps:=[i32,i32],rs:=[i4],dp:=true,pre:=fun x=>qfb x.1 x.2.1,fn:=fun x=>(qdE x.1 x.2.1,())}
theorem e24 (x y:List (Val (.int .i64))) (h:qfb x y): ∃N,m24 N x y=some (qdE x y,()):=⟨List.length x+1,by
 rw [m24,qF]
 rw [qdE,eqS]
 by_cases c:List.length x=List.length y
 ·rw [qh (by omega)]
  refine (qiw (f:=eqV (.int .i64)) (xs:=x) (ys:=y) (F:=fun n i=>qdP _ x y _ n i) (k:=fun _=>some (true,())) (r:=some (false,())) h.1 c (fun n i hi hi2=> ?_) (fun n i hi=> ?_) _ (Nat.lt_succ_self _)).trans qeK
  ·rw [qdP,qh (by omega),qd (by omega),qd (by omega),qB hi,qB hi2,qF]
   rfl
  ·rw [qdP,qg (by omega)]
 ·rw [qg (by omega),qeC _ _ c]⟩
theorem s24:Sound Try.prog 24 g24:=qu (tt:=tt) (Γ:=Γ24) hT qt hm (fn:=Try.f24) Try.func24 (c:=Try.f24.body.getD .skip) (by kernel_rfl) (by kernel_rfl) fun x hx=>by
 obtain ⟨N,h⟩:=e24 x.1 x.2.1 hx
 exact ⟨T24 N,p24,qr _,qFT N,(qFG N x.1 x.2.1).trans h⟩
def qhA (x y:Val qf):Bool:=eqV qf x y
def qeG (x _:Val qf):Prop:=Bd qf x
noncomputable def qkx (N:Nat) (v0:Val qf) (v1:Val qf):Option (qa [i4]):=chk (qfb (v0.1:List (Val (.int .i64))) (v1.1:List (Val (.int .i64)))) (bif (!((qdE (v0.1:List (Val (.int .i64))) (v1.1:List (Val (.int .i64)))):Bool))then (some (false,()))else (bif (!(decide ((v0.2.1:Int)=(v1.2.1:Int))))then (some (false,()))else (bif (!((v0.2.2:Bool)==(v1.2.2:Bool)))then (some (false,()))else (some (true,())))))
def qoK:Gam:=[(24,g24)]
theorem qAD:Gam.get qoK 24=some g24:=rfl
def qj0:Nat→Tree:=fun _=> .done
def qvr:Nat→Nm:=fun _=>⟨[],[],false⟩
def qsU:Nat→Option Jn:=fun _=>none
def qoe:Nat→Option Nm:=fun _=>none
def quR:Nat→Option Nm:=fun _=>none
theorem qBa:qm qj0 (Try.f133.body.getD .skip)=true:=by kernel_rfl
def qcv (N:Nat):Tab:={tr:=qj0,lp:=qvr,ex:=qoe,rg:=quR,jn:=qsU,fuel:=N}
theorem qBi (N:Nat):(qcv N).pins=false:=rfl
theorem qAc (N:Nat):qp Try.prog (qcv N):=qv fun _=>rfl
theorem qGS (N:Nat) (i:Nat):(qcv N).tr i=qj0 i:=rfl
theorem qG0 (N:Nat) (i:Nat):(qcv N).lp i=qvr i:=rfl
theorem qJG (N:Nat) (i:Nat):(qcv N).ex i=qoe i:=rfl
theorem qHI (N:Nat) (i:Nat):(qcv N).rg i=quR i:=rfl
theorem qFW (N:Nat) (i:Nat):(qcv N).jn i=qsU i:=rfl
theorem qCu (N:Nat):(qcv N).fuel=N:=rfl
theorem qCR (N:Nat) (v0:Val qf) (v1:Val qf):qc tt qoK (qcv N) (Try.f133.body.getD .skip) (qn tt true [i4] [.tmp 4]) (qq [qar,qar] 21 (v0,v1,()))=qkx N v0 v1:=by
 rw [qkx];unfold Try.f133
 simp (maxSteps:=10000000) -implicitDefEqProofs [qGS,qj0,qG0,qvr,qJG,qoe,qHI,quR,qFW,qsU,qCu,qBi,qAD,g24]
 try rfl
def qcI:G:={ps:=[qar,qar],rs:=[i4],dp:=true,pre:=fun x=>qeG x.1 x.2.1,fn:=fun x=>(qhA x.1 x.2.1,())}
theorem qB3 (x y:Val qf) (h:qeG x y): ∃N,qkx N x y=some (qhA x y,()):=⟨0,by
 obtain ⟨s0,s1,s2⟩:=h
 rw [qkx,qd (show qfb _ _ from s0)]
 obtain ⟨x0,x1,x2⟩:=x
 obtain ⟨y0,y1,y2⟩:=y
 change _=some ((eqV (.slice 3 (.int .i64)) x0 y0&&(eqV (.int .i64) x1 y1&&eqV .bool x2 y2)),())
 simp only [qF]
 show _=_
 generalize he0:eqV (.slice 3 (.int .i64)) x0 y0=e0
 have hd0:qdE x0 y0=e0:=he0
 generalize he1:eqV (.int .i64) x1 y1=e1
 have hd1:decide ((x1:Int)=y1)=e1:=he1
 generalize he2:eqV .bool x2 y2=e2
 have hd2:((x2:Bool)==y2)=e2:=he2
 simp only [hd0,hd1,hd2]
 cases e0<;>cases e1<;>cases e2<;>rfl⟩
theorem qxZ:Sound Try.prog 133 qcI:=qu (tt:=tt) (Γ:=qoK) hT (qk s24 qt) hm (fn:=Try.f133) Try.func133 (c:=Try.f133.body.getD .skip) (by kernel_rfl) (by kernel_rfl) fun x hx=>by
 obtain ⟨N,h⟩:=qB3 x.1 x.2.1 hx
 exact ⟨qcv N,qBa,qr _,qAc N,(qCR N x.1 x.2.1).trans h⟩
def qjx (x y:List (Val qf)):Bool:=eqV (.slice 106 qf) x y
def qjY (x _:List (Val qf)):Prop:=Bd (.slice 106 qf) x
noncomputable def qdz (N:Nat) (v2:List (Val qf)) (v3:List (Val qf)) (k0:Unit→Option (qa [i4])):Nat→Int→Option (qa [i4])
 | 0,_=>none
 | n+1,v4=>bif (decide (v4<(v2.length:Int)))then (chk (0≤v4∧v4<(v2.length:Int)) (chk (0≤v4∧v4<(v3.length:Int)) (chk (qeG (v2.getD v4.toNat (qb qf)) (v3.getD v4.toNat (qb qf))) (bif (!((qhA (v2.getD v4.toNat (qb qf)) (v3.getD v4.toNat (qb qf))):Bool))then (some (false,()))else (qdz N v2 v3 k0 n (IntKind.i64.wrap (v4+(1:Int))))))))else (k0 ())
noncomputable def m71 (N:Nat) (v0:List (Val qf)) (v1:List (Val qf)):Option (qa [i4]):=bif (!(decide ((v0.length:Int)=(v1.length:Int))))then (some (false,()))else (qdz N v0 v1 (fun (_:Unit)=>some (true,())) N (0:Int))
def Γ71:Gam:=[(133,qcI)]
theorem qrI:Gam.get Γ71 133=some qcI:=rfl
def qi0:Nm:=⟨[true,true,false,false,false,true],[],false⟩
theorem qt1:qi0.zero=false:=rfl
theorem qvc:qi0.fix=[]:=rfl
theorem qmV:qi0.keep=[true,true,false,false,false,true]:=rfl
def qma:Nm:=⟨[],[],false⟩
theorem qsb:qma.zero=false:=rfl
theorem qrv:qma.fix=[]:=rfl
theorem qwJ:qma.keep=[]:=rfl
def qfB:Nat→Tree:=fun i=>if i=6 then .quiet 0 (.quiet 1 (.quiet 2 (.quiet 3 (.quiet 4 (.quiet 5 (.quiet 6 (.quiet 7 (.alt 8 (.quiet 9 .done) .stop))))))))else .done
def qgJ:Nat→Nm:=fun i=>if i=4 then qi0 else ⟨[],[],false⟩
def qiC:Nat→Option Jn:=fun _=>none
def qgk:Nat→Option Nm:=fun i=>if i=0 then some qma else none
def qjH:Nat→Option Nm:=fun _=>none
theorem p71:qm qfB (Try.f71.body.getD .skip)=true:=by kernel_rfl
def T71 (N:Nat):Tab:={tr:=qfB,lp:=qgJ,ex:=qgk,rg:=qjH,jn:=qiC,fuel:=N}
theorem qnm (N:Nat):(T71 N).pins=false:=rfl
theorem qCh (N:Nat):qp Try.prog (T71 N):=qv fun _=>rfl
theorem qtd (N:Nat) (i:Nat):(T71 N).tr i=qfB i:=rfl
theorem qoR (N:Nat) (i:Nat):(T71 N).lp i=qgJ i:=rfl
theorem qsw (N:Nat) (i:Nat):(T71 N).ex i=qgk i:=rfl
theorem qrr (N:Nat) (i:Nat):(T71 N).rg i=qjH i:=rfl
theorem qsA (N:Nat) (i:Nat):(T71 N).jn i=qiC i:=rfl
theorem qs8 (N:Nat):(T71 N).fuel=N:=rfl
noncomputable def qzm:Code:=cut [true,true,false,true,true,true] (Try.f71.body.getD .skip)
theorem qGb {N:Nat} {Q:X→St→Option (qa [i4])} {e:List LV} {h:List Blk}:qc tt Γ71 (T71 N) qzm Q ⟨e,h⟩=qc tt Γ71 (T71 N) (cut [true,true,false,true,true,true] (Try.f71.body.getD .skip)) Q ⟨e,h⟩:=rfl
theorem qHf (N:Nat) (v2:List (Val qf)) (v3:List (Val qf)) {k0:Unit→Option (qa [i4])} {Q:X→St→Option (qa [i4])} {c:Code} (hc:c=qzm) (hret: ∀st,Q .ret st=qG tt true [i4] [.tmp 4] st) (h0:Q (.exit 0) ⟨[u,u,u,u,u,u,u,u,u,u,u,u,u,u,u,u,u,u,u,u,u,u,u,u,u,u,u],[]⟩=k0 ()): ∀(n:Nat) (v4:Int),qE (qc tt Γ71 (T71 N) c) false qi0 Q n ⟨[.one (.sl 106 qf v2 0),.one (.sl 106 qf v3 0),u,u,u,.one (.int .i64 v4),u,u,u,u,u,u,u,u,u,u,u,u,u,u,u,u,u,u,u,u,u],[]⟩=qdz N v2 v3 k0 n v4:=by
 subst hc;intro n;induction n with
 | zero=>intros;rfl
 | succ n ih=>
   intro v4
   rw [qP,qGb,qdz];unfold Try.f71
   simp (maxSteps:=10000000) -implicitDefEqProofs [qtd,qfB,qoR,qgJ,qsw,qgk,qrr,qjH,qsA,qiC,qs8,qnm,qvc,qmV,qt1,qrv,qwJ,qsb,qrI,qcI,hret,h0,ih]
theorem qAG (N:Nat) (v0:List (Val qf)) (v1:List (Val qf)):qc tt Γ71 (T71 N) (Try.f71.body.getD .skip) (qn tt true [i4] [.tmp 4]) (qq [i34,i34] 27 (v0,v1,()))=m71 N v0 v1:=by
 unfold Try.f71
 simp (maxSteps:=10000000) -implicitDefEqProofs [qtd,qfB,qoR,qgJ,qsw,qgk,qrr,qjH,qsA,qiC,qs8,qnm,qvc,qmV,qt1,qrv,qwJ,qsb,qrI,qcI]
 rewrite [qHf (k0:=(fun (_:Unit)=>some (true,()))) N _ _ ?_ ?_ ?_]
 ·rewrite [m71];first | rfl | simp (maxSteps:=10000000) -implicitDefEqProofs []
 ·rfl
 ·intro;simp only [qN,qO,qQ,qM]
 ·simp (maxSteps:=10000000) -implicitDefEqProofs [qtd,qfB,qoR,qgJ,qsw,qgk,qrr,qjH,qsA,qiC,qs8,qnm,qvc,qmV,qt1,qrv,qwJ,qsb,qrI,qcI]
def g71:G:={ps:=[i34,i34],rs:=[i4],dp:=true,pre:=fun x=>qjY x.1 x.2.1,fn:=fun x=>(qjx x.1 x.2.1,())}
theorem e71 (x y:List (Val qf)) (h:qjY x y): ∃N,m71 N x y=some (qjx x y,()):=⟨List.length x+1,by
 rw [m71,qF]
 rw [qjx,eqS]
 by_cases c:List.length x=List.length y
 ·rw [qh (by omega)]
  refine (qiw (f:=eqV qf) (xs:=x) (ys:=y) (F:=fun n i=>qdz _ x y _ n i) (k:=fun _=>some (true,())) (r:=some (false,())) h.1 c (fun n i hi hi2=> ?_) (fun n i hi=> ?_) _ (Nat.lt_succ_self _)).trans qeK
  ·rw [qdz,qh (by omega),qd (by omega),qd (by omega),qd (show qeG _ _ from by rw [qB hi];exact h.2 _ (List.getElem_mem hi)),qB hi,qB hi2,qF]
   rfl
  ·rw [qdz,qg (by omega)]
 ·rw [qg (by omega),qeC _ _ c]⟩
theorem s71:Sound Try.prog 71 g71:=qu (tt:=tt) (Γ:=Γ71) hT (qk qxZ qt) hm (fn:=Try.f71) Try.func71 (c:=Try.f71.body.getD .skip) (by kernel_rfl) (by kernel_rfl) fun x hx=>by
 obtain ⟨N,h⟩:=e71 x.1 x.2.1 hx
 exact ⟨T71 N,p71,qr _,qCh N,(qAG N x.1 x.2.1).trans h⟩
def qkz (x y:Val Y36):Bool:=eqV Y36 x y
def qkk (x _:Val Y36):Prop:=Bd Y36 x
noncomputable def m23 (N:Nat) (v0:Val Y36) (v1:Val Y36):Option (qa [i4]):=bif (!(decide ((v0.1:Int)=(v1.1:Int))))then (some (false,()))else (chk (qjY (v0.2:List (Val qf)) (v1.2:List (Val qf))) (bif (!((qjx (v0.2:List (Val qf)) (v1.2:List (Val qf))):Bool))then (some (false,()))else (some (true,()))))
def Γ23:Gam:=[(71,g71)]
theorem qEf:Gam.get Γ23 71=some g71:=rfl
def qj3:Nat→Tree:=fun _=> .done
def qny:Nat→Nm:=fun _=>⟨[],[],false⟩
def qmF:Nat→Option Jn:=fun _=>none
def qmZ:Nat→Option Nm:=fun _=>none
def qna:Nat→Option Nm:=fun _=>none
theorem p23:qm qj3 (Try.f23.body.getD .skip)=true:=by kernel_rfl
def T23 (N:Nat):Tab:={tr:=qj3,lp:=qny,ex:=qmZ,rg:=qna,jn:=qmF,fuel:=N}
theorem qIp (N:Nat):(T23 N).pins=false:=rfl
theorem qBG (N:Nat):qp Try.prog (T23 N):=qv fun _=>rfl
theorem qJz (N:Nat) (i:Nat):(T23 N).tr i=qj3 i:=rfl
theorem qHU (N:Nat) (i:Nat):(T23 N).lp i=qny i:=rfl
theorem qEh (N:Nat) (i:Nat):(T23 N).ex i=qmZ i:=rfl
theorem qAo (N:Nat) (i:Nat):(T23 N).rg i=qna i:=rfl
theorem qCC (N:Nat) (i:Nat):(T23 N).jn i=qmF i:=rfl
theorem qFY (N:Nat):(T23 N).fuel=N:=rfl
theorem qBH (N:Nat) (v0:Val Y36) (v1:Val Y36):qc tt Γ23 (T23 N) (Try.f23.body.getD .skip) (qn tt true [i4] [.tmp 4]) (qq [i36,i36] 16 (v0,v1,()))=m23 N v0 v1:=by
 rw [m23];unfold Try.f23
 simp (maxSteps:=10000000) -implicitDefEqProofs [qJz,qj3,qHU,qny,qEh,qmZ,qAo,qna,qCC,qmF,qFY,qIp,qEf,g71]
 try rfl
def g23:G:={ps:=[i36,i36],rs:=[i4],dp:=true,pre:=fun x=>qkk x.1 x.2.1,fn:=fun x=>(qkz x.1 x.2.1,())}
theorem e23 (x y:Val Y36) (h:qkk x y): ∃N,m23 N x y=some (qkz x y,()):=⟨0,by
 obtain ⟨s0,s1⟩:=h
 rw [m23,qd (show qjY _ _ from s1)]
 obtain ⟨x0,x1⟩:=x
 obtain ⟨y0,y1⟩:=y
 change _=some ((eqV (.int .i64) x0 y0&&eqV (.slice 106 qf) x1 y1),())
 simp only [qF]
 show _=_
 generalize he0:eqV (.int .i64) x0 y0=e0
 have hd0:decide ((x0:Int)=y0)=e0:=he0
 generalize he1:eqV (.slice 106 qf) x1 y1=e1
 have hd1:qjx x1 y1=e1:=he1
 simp only [hd0,hd1]
 cases e0<;>cases e1<;>rfl⟩
theorem s23:Sound Try.prog 23 g23:=qu (tt:=tt) (Γ:=Γ23) hT (qk s71 qt) hm (fn:=Try.f23) Try.func23 (c:=Try.f23.body.getD .skip) (by kernel_rfl) (by kernel_rfl) fun x hx=>by
 obtain ⟨N,h⟩:=e23 x.1 x.2.1 hx
 exact ⟨T23 N,p23,qr _,qBG N,(qBH N x.1 x.2.1).trans h⟩
def quL (x y:Val qi):Bool:=eqV qi x y
def qli (x _:Val qi):Prop:=Bd qi x
noncomputable def qlg (N:Nat) (v0:Val qi) (v1:Val qi):Option (qa [i4]):=bif (!(ByteArray.toList (v0.1:ByteArray)==ByteArray.toList (v1.1:ByteArray)))then (some (false,()))else (chk (qkk v0.2 v1.2) (bif (!((qkz v0.2 v1.2):Bool))then (some (false,()))else (some (true,()))))
def qmR:Gam:=[(23,g23)]
theorem qAC:Gam.get qmR 23=some g23:=rfl
def qlx:Nat→Tree:=fun _=> .done
def qtE:Nat→Nm:=fun _=>⟨[],[],false⟩
def quw:Nat→Option Jn:=fun _=>none
def qn3:Nat→Option Nm:=fun _=>none
def qoA:Nat→Option Nm:=fun _=>none
theorem qz2:qm qlx (Try.f137.body.getD .skip)=true:=by kernel_rfl
def qcE (N:Nat):Tab:={tr:=qlx,lp:=qtE,ex:=qn3,rg:=qoA,jn:=quw,fuel:=N}
theorem qCG (N:Nat):(qcE N).pins=false:=rfl
theorem qGx (N:Nat):qp Try.prog (qcE N):=qv fun _=>rfl
theorem qDb (N:Nat) (i:Nat):(qcE N).tr i=qlx i:=rfl
theorem qAy (N:Nat) (i:Nat):(qcE N).lp i=qtE i:=rfl
theorem qGD (N:Nat) (i:Nat):(qcE N).ex i=qn3 i:=rfl
theorem qGn (N:Nat) (i:Nat):(qcE N).rg i=qoA i:=rfl
theorem qCY (N:Nat) (i:Nat):(qcE N).jn i=quw i:=rfl
theorem qCb (N:Nat):(qcE N).fuel=N:=rfl
theorem qHq (N:Nat) (v0:Val qi) (v1:Val qi):qc tt qmR (qcE N) (Try.f137.body.getD .skip) (qn tt true [i4] [.tmp 4]) (qq [qcf,qcf] 16 (v0,v1,()))=qlg N v0 v1:=by
 rw [qlg];unfold Try.f137
 simp (maxSteps:=10000000) -implicitDefEqProofs [qDb,qlx,qAy,qtE,qGD,qn3,qGn,qoA,qCY,quw,qCb,qCG,qAC,g23]
 try rfl
def qfM:G:={ps:=[qcf,qcf],rs:=[i4],dp:=true,pre:=fun x=>qli x.1 x.2.1,fn:=fun x=>(quL x.1 x.2.1,())}
theorem qJp (x y:Val qi) (h:qli x y): ∃N,qlg N x y=some (quL x y,()):=⟨0,by
 obtain ⟨s0,s1⟩:=h
 rw [qlg,qd (show qkk _ _ from s1)]
 obtain ⟨x0,x1⟩:=x
 obtain ⟨y0,y1⟩:=y
 change _=some ((eqV .str x0 y0&&eqV Y36 x1 y1),())
 simp only [qF]
 show _=_
 generalize he0:eqV .str x0 y0=e0
 have hd0:(ByteArray.toList x0==ByteArray.toList y0)=e0:=he0
 generalize he1:eqV Y36 x1 y1=e1
 have hd1:qkz x1 y1=e1:=he1
 simp only [hd0,hd1]
 cases e0<;>cases e1<;>rfl⟩
theorem qCV:Sound Try.prog 137 qfM:=qu (tt:=tt) (Γ:=qmR) hT (qk s23 qt) hm (fn:=Try.f137) Try.func137 (c:=Try.f137.body.getD .skip) (by kernel_rfl) (by kernel_rfl) fun x hx=>by
 obtain ⟨N,h⟩:=qJp x.1 x.2.1 hx
 exact ⟨qcE N,qz2,qr _,qGx N,(qHq N x.1 x.2.1).trans h⟩
def qiI (x y:List (Val qi)):Bool:=eqV (.slice 116 qi) x y
def qjU (x _:List (Val qi)):Prop:=Bd (.slice 116 qi) x
noncomputable def qdS (N:Nat) (v2:List (Val qi)) (v3:List (Val qi)) (k0:Unit→Option (qa [i4])):Nat→Int→Option (qa [i4])
 | 0,_=>none
 | n+1,v4=>bif (decide (v4<(v2.length:Int)))then (chk (0≤v4∧v4<(v2.length:Int)) (chk (0≤v4∧v4<(v3.length:Int)) (chk (qli (v2.getD v4.toNat (qb qi)) (v3.getD v4.toNat (qb qi))) (bif (!((quL (v2.getD v4.toNat (qb qi)) (v3.getD v4.toNat (qb qi))):Bool))then (some (false,()))else (qdS N v2 v3 k0 n (IntKind.i64.wrap (v4+(1:Int))))))))else (k0 ())
noncomputable def m79 (N:Nat) (v0:List (Val qi)) (v1:List (Val qi)):Option (qa [i4]):=bif (!(decide ((v0.length:Int)=(v1.length:Int))))then (some (false,()))else (qdS N v0 v1 (fun (_:Unit)=>some (true,())) N (0:Int))
def Γ79:Gam:=[(137,qfM)]
theorem qrT:Gam.get Γ79 137=some qfM:=rfl
def qic:Nm:=⟨[true,true,false,false,false,true],[],false⟩
theorem qn5:qic.zero=false:=rfl
theorem qn4:qic.fix=[]:=rfl
theorem qvs:qic.keep=[true,true,false,false,false,true]:=rfl
def qln:Nm:=⟨[],[],false⟩
theorem qvl:qln.zero=false:=rfl
theorem qwc:qln.fix=[]:=rfl
theorem qsY:qln.keep=[]:=rfl
def qeI:Nat→Tree:=fun i=>if i=6 then .quiet 0 (.quiet 1 (.quiet 2 (.quiet 3 (.quiet 4 (.quiet 5 (.quiet 6 (.quiet 7 (.alt 8 (.quiet 9 .done) .stop))))))))else .done
def qgc:Nat→Nm:=fun i=>if i=4 then qic else ⟨[],[],false⟩
def qhB:Nat→Option Jn:=fun _=>none
def qh7:Nat→Option Nm:=fun i=>if i=0 then some qln else none
def qgf:Nat→Option Nm:=fun _=>none
theorem p79:qm qeI (Try.f79.body.getD .skip)=true:=by kernel_rfl
def T79 (N:Nat):Tab:={tr:=qeI,lp:=qgc,ex:=qh7,rg:=qgf,jn:=qhB,fuel:=N}
theorem qto (N:Nat):(T79 N).pins=false:=rfl
theorem qG7 (N:Nat):qp Try.prog (T79 N):=qv fun _=>rfl
theorem qo2 (N:Nat) (i:Nat):(T79 N).tr i=qeI i:=rfl
theorem qub (N:Nat) (i:Nat):(T79 N).lp i=qgc i:=rfl
theorem quO (N:Nat) (i:Nat):(T79 N).ex i=qh7 i:=rfl
theorem qp0 (N:Nat) (i:Nat):(T79 N).rg i=qgf i:=rfl
theorem qrK (N:Nat) (i:Nat):(T79 N).jn i=qhB i:=rfl
theorem qoZ (N:Nat):(T79 N).fuel=N:=rfl
noncomputable def qyK:Code:=cut [true,true,false,true,true,true] (Try.f79.body.getD .skip)
theorem qCg {N:Nat} {Q:X→St→Option (qa [i4])} {e:List LV} {h:List Blk}:qc tt Γ79 (T79 N) qyK Q ⟨e,h⟩=qc tt Γ79 (T79 N) (cut [true,true,false,true,true,true] (Try.f79.body.getD .skip)) Q ⟨e,h⟩:=rfl
theorem qFB (N:Nat) (v2:List (Val qi)) (v3:List (Val qi)) {k0:Unit→Option (qa [i4])} {Q:X→St→Option (qa [i4])} {c:Code} (hc:c=qyK) (hret: ∀st,Q .ret st=qG tt true [i4] [.tmp 4] st) (h0:Q (.exit 0) ⟨[u,u,u,u,u,u,u,u,u,u,u,u,u,u,u,u,u,u,u,u,u,u,u,u,u,u,u],[]⟩=k0 ()): ∀(n:Nat) (v4:Int),qE (qc tt Γ79 (T79 N) c) false qic Q n ⟨[.one (.sl 116 qi v2 0),.one (.sl 116 qi v3 0),u,u,u,.one (.int .i64 v4),u,u,u,u,u,u,u,u,u,u,u,u,u,u,u,u,u,u,u,u,u],[]⟩=qdS N v2 v3 k0 n v4:=by
 subst hc;intro n;induction n with
 | zero=>intros;rfl
 | succ n ih=>
   intro v4
   rw [qP,qCg,qdS];unfold Try.f79
   simp (maxSteps:=10000000) -implicitDefEqProofs [qo2,qeI,qub,qgc,quO,qh7,qp0,qgf,qrK,qhB,qoZ,qto,qn4,qvs,qn5,qwc,qsY,qvl,qrT,qfM,hret,h0,ih]
theorem qBs (N:Nat) (v0:List (Val qi)) (v1:List (Val qi)):qc tt Γ79 (T79 N) (Try.f79.body.getD .skip) (qn tt true [i4] [.tmp 4]) (qq [i51,i51] 27 (v0,v1,()))=m79 N v0 v1:=by
 unfold Try.f79
 simp (maxSteps:=10000000) -implicitDefEqProofs [qo2,qeI,qub,qgc,quO,qh7,qp0,qgf,qrK,qhB,qoZ,qto,qn4,qvs,qn5,qwc,qsY,qvl,qrT,qfM]
 rewrite [qFB (k0:=(fun (_:Unit)=>some (true,()))) N _ _ ?_ ?_ ?_]
 ·rewrite [m79];first | rfl | simp (maxSteps:=10000000) -implicitDefEqProofs []
 ·rfl
 ·intro;simp only [qN,qO,qQ,qM]
 ·simp (maxSteps:=10000000) -implicitDefEqProofs [qo2,qeI,qub,qgc,quO,qh7,qp0,qgf,qrK,qhB,qoZ,qto,qn4,qvs,qn5,qwc,qsY,qvl,qrT,qfM]
def g79:G:={ps:=[i51,i51],rs:=[i4],dp:=true,pre:=fun x=>qjU x.1 x.2.1,fn:=fun x=>(qiI x.1 x.2.1,())}
theorem e79 (x y:List (Val qi)) (h:qjU x y): ∃N,m79 N x y=some (qiI x y,()):=⟨List.length x+1,by
 rw [m79,qF]
 rw [qiI,eqS]
 by_cases c:List.length x=List.length y
 ·rw [qh (by omega)]
  refine (qiw (f:=eqV qi) (xs:=x) (ys:=y) (F:=fun n i=>qdS _ x y _ n i) (k:=fun _=>some (true,())) (r:=some (false,())) h.1 c (fun n i hi hi2=> ?_) (fun n i hi=> ?_) _ (Nat.lt_succ_self _)).trans qeK
  ·rw [qdS,qh (by omega),qd (by omega),qd (by omega),qd (show qli _ _ from by rw [qB hi];exact h.2 _ (List.getElem_mem hi)),qB hi,qB hi2,qF]
   rfl
  ·rw [qdS,qg (by omega)]
 ·rw [qg (by omega),qeC _ _ c]⟩
theorem s79:Sound Try.prog 79 g79:=qu (tt:=tt) (Γ:=Γ79) hT (qk qCV qt) hm (fn:=Try.f79) Try.func79 (c:=Try.f79.body.getD .skip) (by kernel_rfl) (by kernel_rfl) fun x hx=>by
 obtain ⟨N,h⟩:=e79 x.1 x.2.1 hx
 exact ⟨T79 N,p79,qr _,qG7 N,(qBs N x.1 x.2.1).trans h⟩
def qog (x y:Val Y53):Bool:=eqV Y53 x y
def qkI (x _:Val Y53):Prop:=Bd Y53 x
noncomputable def m32 (N:Nat) (v0:Val Y53) (v1:Val Y53):Option (qa [i4]):=bif (!(ByteArray.toList (v0.1:ByteArray)==ByteArray.toList (v1.1:ByteArray)))then (some (false,()))else (bif (!(decide ((v0.2.1:Int)=(v1.2.1:Int))))then (some (false,()))else (chk (qjU (v0.2.2:List (Val qi)) (v1.2.2:List (Val qi))) (bif (!((qiI (v0.2.2:List (Val qi)) (v1.2.2:List (Val qi))):Bool))then (some (false,()))else (some (true,())))))
def Γ32:Gam:=[(79,g79)]
theorem qJl:Gam.get Γ32 79=some g79:=rfl
def qlh:Nat→Tree:=fun _=> .done
def quq:Nat→Nm:=fun _=>⟨[],[],false⟩
def qrO:Nat→Option Jn:=fun _=>none
def qqu:Nat→Option Nm:=fun _=>none
def qqf:Nat→Option Nm:=fun _=>none
theorem p32:qm qlh (Try.f32.body.getD .skip)=true:=by kernel_rfl
def T32 (N:Nat):Tab:={tr:=qlh,lp:=quq,ex:=qqu,rg:=qqf,jn:=qrO,fuel:=N}
theorem qDI (N:Nat):(T32 N).pins=false:=rfl
theorem qCS (N:Nat):qp Try.prog (T32 N):=qv fun _=>rfl
theorem qBc (N:Nat) (i:Nat):(T32 N).tr i=qlh i:=rfl
theorem qJL (N:Nat) (i:Nat):(T32 N).lp i=quq i:=rfl
theorem qDh (N:Nat) (i:Nat):(T32 N).ex i=qqu i:=rfl
theorem qGk (N:Nat) (i:Nat):(T32 N).rg i=qqf i:=rfl
theorem qCW (N:Nat) (i:Nat):(T32 N).jn i=qrO i:=rfl
theorem qAR (N:Nat):(T32 N).fuel=N:=rfl
theorem qAY (N:Nat) (v0:Val Y53) (v1:Val Y53):qc tt Γ32 (T32 N) (Try.f32.body.getD .skip) (qn tt true [i4] [.tmp 4]) (qq [i53,i53] 21 (v0,v1,()))=m32 N v0 v1:=by
 rw [m32];unfold Try.f32
 simp (maxSteps:=10000000) -implicitDefEqProofs [qBc,qlh,qJL,quq,qDh,qqu,qGk,qqf,qCW,qrO,qAR,qDI,qJl,g79]
 try rfl
def g32:G:={ps:=[i53,i53],rs:=[i4],dp:=true,pre:=fun x=>qkI x.1 x.2.1,fn:=fun x=>(qog x.1 x.2.1,())}
theorem e32 (x y:Val Y53) (h:qkI x y): ∃N,m32 N x y=some (qog x y,()):=⟨0,by
 obtain ⟨s0,s1,s2⟩:=h
 rw [m32,qd (show qjU _ _ from s2)]
 obtain ⟨x0,x1,x2⟩:=x
 obtain ⟨y0,y1,y2⟩:=y
 change _=some ((eqV .str x0 y0&&(eqV (.int .i64) x1 y1&&eqV (.slice 116 qi) x2 y2)),())
 simp only [qF]
 show _=_
 generalize he0:eqV .str x0 y0=e0
 have hd0:(ByteArray.toList x0==ByteArray.toList y0)=e0:=he0
 generalize he1:eqV (.int .i64) x1 y1=e1
 have hd1:decide ((x1:Int)=y1)=e1:=he1
 generalize he2:eqV (.slice 116 qi) x2 y2=e2
 have hd2:qiI x2 y2=e2:=he2
 simp only [hd0,hd1,hd2]
 cases e0<;>cases e1<;>cases e2<;>rfl⟩
theorem s32:Sound Try.prog 32 g32:=qu (tt:=tt) (Γ:=Γ32) hT (qk s79 qt) hm (fn:=Try.f32) Try.func32 (c:=Try.f32.body.getD .skip) (by kernel_rfl) (by kernel_rfl) fun x hx=>by
 obtain ⟨N,h⟩:=e32 x.1 x.2.1 hx
 exact ⟨T32 N,p32,qr _,qCS N,(qAY N x.1 x.2.1).trans h⟩
def qgo (x y:List (Val Y53)):Bool:=eqV (.slice 53 Y53) x y
def qlt (x _:List (Val Y53)):Prop:=Bd (.slice 53 Y53) x
noncomputable def qed (N:Nat) (v2:List (Val Y53)) (v3:List (Val Y53)) (k0:Unit→Option (qa [i4])):Nat→Int→Option (qa [i4])
 | 0,_=>none
 | n+1,v4=>bif (decide (v4<(v2.length:Int)))then (chk (0≤v4∧v4<(v2.length:Int)) (chk (0≤v4∧v4<(v3.length:Int)) (chk (qkI (v2.getD v4.toNat (qb Y53)) (v3.getD v4.toNat (qb Y53))) (bif (!((qog (v2.getD v4.toNat (qb Y53)) (v3.getD v4.toNat (qb Y53))):Bool))then (some (false,()))else (qed N v2 v3 k0 n (IntKind.i64.wrap (v4+(1:Int))))))))else (k0 ())
noncomputable def m17 (N:Nat) (v0:List (Val Y53)) (v1:List (Val Y53)):Option (qa [i4]):=bif (!(decide ((v0.length:Int)=(v1.length:Int))))then (some (false,()))else (qed N v0 v1 (fun (_:Unit)=>some (true,())) N (0:Int))
def Γ17:Gam:=[(32,g32)]
theorem qsJ:Gam.get Γ17 32=some g32:=rfl
def qit:Nm:=⟨[true,true,false,false,false,true],[],false⟩
theorem qo6:qit.zero=false:=rfl
theorem quI:qit.fix=[]:=rfl
theorem qpO:qit.keep=[true,true,false,false,false,true]:=rfl
def qlv:Nm:=⟨[],[],false⟩
theorem qnC:qlv.zero=false:=rfl
theorem qp9:qlv.fix=[]:=rfl
theorem qnn:qlv.keep=[]:=rfl
def qfF:Nat→Tree:=fun i=>if i=6 then .quiet 0 (.quiet 1 (.quiet 2 (.quiet 3 (.quiet 4 (.quiet 5 (.quiet 6 (.quiet 7 (.alt 8 (.quiet 9 .done) .stop))))))))else .done
def qhI:Nat→Nm:=fun i=>if i=4 then qit else ⟨[],[],false⟩
def qgQ:Nat→Option Jn:=fun _=>none
def qh8:Nat→Option Nm:=fun i=>if i=0 then some qlv else none
def qgP:Nat→Option Nm:=fun _=>none
theorem p17:qm qfF (Try.f17.body.getD .skip)=true:=by kernel_rfl
def T17 (N:Nat):Tab:={tr:=qfF,lp:=qhI,ex:=qh8,rg:=qgP,jn:=qgQ,fuel:=N}
theorem qmz (N:Nat):(T17 N).pins=false:=rfl
theorem qAu (N:Nat):qp Try.prog (T17 N):=qv fun _=>rfl
theorem qwA (N:Nat) (i:Nat):(T17 N).tr i=qfF i:=rfl
theorem qqI (N:Nat) (i:Nat):(T17 N).lp i=qhI i:=rfl
theorem qwn (N:Nat) (i:Nat):(T17 N).ex i=qh8 i:=rfl
theorem qsS (N:Nat) (i:Nat):(T17 N).rg i=qgP i:=rfl
theorem qu7 (N:Nat) (i:Nat):(T17 N).jn i=qgQ i:=rfl
theorem qpW (N:Nat):(T17 N).fuel=N:=rfl
noncomputable def qw9:Code:=cut [true,true,false,true,true,true] (Try.f17.body.getD .skip)
theorem qEn {N:Nat} {Q:X→St→Option (qa [i4])} {e:List LV} {h:List Blk}:qc tt Γ17 (T17 N) qw9 Q ⟨e,h⟩=qc tt Γ17 (T17 N) (cut [true,true,false,true,true,true] (Try.f17.body.getD .skip)) Q ⟨e,h⟩:=rfl
theorem qDu (N:Nat) (v2:List (Val Y53)) (v3:List (Val Y53)) {k0:Unit→Option (qa [i4])} {Q:X→St→Option (qa [i4])} {c:Code} (hc:c=qw9) (hret: ∀st,Q .ret st=qG tt true [i4] [.tmp 4] st) (h0:Q (.exit 0) ⟨[u,u,u,u,u,u,u,u,u,u,u,u,u,u,u,u,u,u,u,u,u,u,u,u,u,u,u],[]⟩=k0 ()): ∀(n:Nat) (v4:Int),qE (qc tt Γ17 (T17 N) c) false qit Q n ⟨[.one (.sl 53 Y53 v2 0),.one (.sl 53 Y53 v3 0),u,u,u,.one (.int .i64 v4),u,u,u,u,u,u,u,u,u,u,u,u,u,u,u,u,u,u,u,u,u],[]⟩=qed N v2 v3 k0 n v4:=by
 subst hc;intro n;induction n with
 | zero=>intros;rfl
 | succ n ih=>
   intro v4
   rw [qP,qEn,qed];unfold Try.f17
   simp (maxSteps:=10000000) -implicitDefEqProofs [qwA,qfF,qqI,qhI,qwn,qh8,qsS,qgP,qu7,qgQ,qpW,qmz,quI,qpO,qo6,qp9,qnn,qnC,qsJ,g32,hret,h0,ih]
theorem qD4 (N:Nat) (v0:List (Val Y53)) (v1:List (Val Y53)):qc tt Γ17 (T17 N) (Try.f17.body.getD .skip) (qn tt true [i4] [.tmp 4]) (qq [i25,i25] 27 (v0,v1,()))=m17 N v0 v1:=by
 unfold Try.f17
 simp (maxSteps:=10000000) -implicitDefEqProofs [qwA,qfF,qqI,qhI,qwn,qh8,qsS,qgP,qu7,qgQ,qpW,qmz,quI,qpO,qo6,qp9,qnn,qnC,qsJ,g32]
 rewrite [qDu (k0:=(fun (_:Unit)=>some (true,()))) N _ _ ?_ ?_ ?_]
 ·rewrite [m17];first | rfl | simp (maxSteps:=10000000) -implicitDefEqProofs []
 ·rfl
 ·intro;simp only [qN,qO,qQ,qM]
 ·simp (maxSteps:=10000000) -implicitDefEqProofs [qwA,qfF,qqI,qhI,qwn,qh8,qsS,qgP,qu7,qgQ,qpW,qmz,quI,qpO,qo6,qp9,qnn,qnC,qsJ,g32]
def g17:G:={ps:=[i25,i25],rs:=[i4],dp:=true,pre:=fun x=>qlt x.1 x.2.1,fn:=fun x=>(qgo x.1 x.2.1,())}
theorem e17 (x y:List (Val Y53)) (h:qlt x y): ∃N,m17 N x y=some (qgo x y,()):=⟨List.length x+1,by
 rw [m17,qF]
 rw [qgo,eqS]
 by_cases c:List.length x=List.length y
 ·rw [qh (by omega)]
  refine (qiw (f:=eqV Y53) (xs:=x) (ys:=y) (F:=fun n i=>qed _ x y _ n i) (k:=fun _=>some (true,())) (r:=some (false,())) h.1 c (fun n i hi hi2=> ?_) (fun n i hi=> ?_) _ (Nat.lt_succ_self _)).trans qeK
  ·rw [qed,qh (by omega),qd (by omega),qd (by omega),qd (show qkI _ _ from by rw [qB hi];exact h.2 _ (List.getElem_mem hi)),qB hi,qB hi2,qF]
   rfl
  ·rw [qed,qg (by omega)]
 ·rw [qg (by omega),qeC _ _ c]⟩
theorem s17:Sound Try.prog 17 g17:=qu (tt:=tt) (Γ:=Γ17) hT (qk s32 qt) hm (fn:=Try.f17) Try.func17 (c:=Try.f17.body.getD .skip) (by kernel_rfl) (by kernel_rfl) fun x hx=>by
 obtain ⟨N,h⟩:=e17 x.1 x.2.1 hx
 exact ⟨T17 N,p17,qr _,qAu N,(qD4 N x.1 x.2.1).trans h⟩
end Go.T
