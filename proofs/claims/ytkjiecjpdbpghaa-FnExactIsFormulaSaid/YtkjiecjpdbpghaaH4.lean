/- Sizes, copies and equality of formulas. -/
import Derived.Test.YtkjiecjpdbpghaaA4
set_option linter.unusedSimpArgs false
set_option linter.unusedVariables false
namespace Go.T
open Go Go.Proofs
set_option maxHeartbeats 4000000
set_option maxRecDepth 100000
def qeo (x:Val qw) (n:Int):Int:=szV qw x n
def qks (x:Val qw) (n:Int):Prop:=qcd qw x n
noncomputable def m94 (N:Nat) (v0:Val qw) (v1:Int):Option (qa [i3]):=chk (qe5 v0.2.1 v1) (bif (decide (((qS v0.2.1 v1):Int)<(0:Int)))then (some ((-1:Int),()))else (bif (decide ((IntKind.i64.wrap (((qS v0.2.1 v1):Int) - ((v0.2.2.1:ByteArray).size:Int)))<(0:Int)))then (some ((-1:Int),()))else (bif (decide ((IntKind.i64.wrap ((IntKind.i64.wrap (((qS v0.2.1 v1):Int) - ((v0.2.2.1:ByteArray).size:Int))) - ((v0.2.2.2.1:ByteArray).size:Int)))<(0:Int)))then (some ((-1:Int),()))else (chk (qfa (v0.2.2.2.2.1:List (Val (.int .i64))) (IntKind.i64.wrap ((IntKind.i64.wrap (((qS v0.2.1 v1):Int) - ((v0.2.2.1:ByteArray).size:Int))) - ((v0.2.2.2.1:ByteArray).size:Int)))) (bif (decide (((qaK (v0.2.2.2.2.1:List (Val (.int .i64))) (IntKind.i64.wrap ((IntKind.i64.wrap (((qS v0.2.1 v1):Int) - ((v0.2.2.1:ByteArray).size:Int))) - ((v0.2.2.2.1:ByteArray).size:Int)))):Int)<(0:Int)))then (some ((-1:Int),()))else (some (((qaK (v0.2.2.2.2.1:List (Val (.int .i64))) (IntKind.i64.wrap ((IntKind.i64.wrap (((qS v0.2.1 v1):Int) - ((v0.2.2.1:ByteArray).size:Int))) - ((v0.2.2.2.1:ByteArray).size:Int)))):Int),())))))))
def Γ94:Gam:=[(101,qel),(126,qcH)]
theorem qCE:Gam.get Γ94 101=some qel:=rfl
theorem qAX:Gam.get Γ94 126=some qcH:=rfl
def qlu:Nat→Tree:=fun _=> .done
def qnd:Nat→Nm:=fun _=>⟨[],[],false⟩
def qoX:Nat→Option Jn:=fun _=>none
def qoU:Nat→Option Nm:=fun _=>none
def quZ:Nat→Option Nm:=fun _=>none
theorem p94:qm qlu (Try.f94.body.getD .skip)=true:=by kernel_rfl
def T94 (N:Nat):Tab:={tr:=qlu,lp:=qnd,ex:=qoU,rg:=quZ,jn:=qoX,fuel:=N}
theorem qCJ (N:Nat):(T94 N).pins=false:=rfl
theorem qCN (N:Nat):qp Try.prog (T94 N):=qv fun _=>rfl
theorem qJJ (N:Nat) (i:Nat):(T94 N).tr i=qlu i:=rfl
theorem qHz (N:Nat) (i:Nat):(T94 N).lp i=qnd i:=rfl
theorem qAP (N:Nat) (i:Nat):(T94 N).ex i=qoU i:=rfl
theorem qAO (N:Nat) (i:Nat):(T94 N).rg i=quZ i:=rfl
theorem qGP (N:Nat) (i:Nat):(T94 N).jn i=qoX i:=rfl
theorem qB1 (N:Nat):(T94 N).fuel=N:=rfl
theorem qEJ (N:Nat) (v0:Val qw) (v1:Int):qc tt Γ94 (T94 N) (Try.f94.body.getD .skip) (qn tt true [i3] [.tmp 4]) (qq [qdg,i3] 32 (v0,v1,()))=m94 N v0 v1:=by
 rw [m94];unfold Try.f94
 simp (maxSteps:=10000000) -implicitDefEqProofs [qJJ,qlu,qHz,qnd,qAP,qoU,qAO,quZ,qGP,qoX,qB1,qCJ,qCE,qAX,qel,qcH]
 try rfl
def g94:G:={ps:=[qdg,i3],rs:=[i3],dp:=true,pre:=fun x=>qks x.1 x.2.1,fn:=fun x=>(qeo x.1 x.2.1,())}
theorem e94 (x:Val qw) (n:Int) (h:qks x n): ∃N,m94 N x n=some (qeo x n,()):=⟨0,by
 obtain ⟨x0,x1,x2,x3,x4,x5,x6,x7⟩:=x
 obtain ⟨hs,h0,h1⟩:=h
 obtain ⟨s0,s1,s2,s3,s4,s5,s6,s7⟩:=hs
 rw [m94,qeo]
 dsimp only
 rw [qe4 h0]
 rw [qd (show qe5 x1 n from ⟨s1,h0,h1⟩)]
 by_cases c1:qS x1 n<0
 ·rw [qh c1,qn2 (show szV qx x1 n<0 from c1)]
 ·have h01:0≤qS x1 n:=by omega
  have h11:qS x1 n≤1048576:=Int.le_trans (qbN qx x1 n h0).1 h1
  rw [qg c1,qlH (show 0≤szV qx x1 n from h01)]
  change _=some (szV (.pair .str (.pair .str (.pair (.slice 3 (.int .i64)) (.pair (.int .i64) (.pair (.int .i64) (.int .i64)))))) _ (qS x1 n),())
  rw [qcO h01 h11 s2]
  by_cases c2:(qS x1 n) - (ByteArray.size x2:Int)<0
  ·rw [qh c2,qkU c2]
  ·rw [qg c2,qk9 (by omega)]
   have h02:0≤((qS x1 n) - (ByteArray.size x2:Int)):=by omega
   have h12:((qS x1 n) - (ByteArray.size x2:Int))≤1048576:=by omega
   rw [qcO h02 h12 s3]
   by_cases c3:((qS x1 n) - (ByteArray.size x2:Int)) - (ByteArray.size x3:Int)<0
   ·rw [qh c3,qkU c3]
   ·rw [qg c3,qk9 (by omega)]
    have h03:0≤(((qS x1 n) - (ByteArray.size x2:Int)) - (ByteArray.size x3:Int)):=by omega
    have h13:(((qS x1 n) - (ByteArray.size x2:Int)) - (ByteArray.size x3:Int))≤1048576:=by omega
    rw [qd (show qfa x4 (((qS x1 n) - (ByteArray.size x2:Int)) - (ByteArray.size x3:Int)) from ⟨s4,h03,h13⟩)]
    by_cases c4:qaK x4 (((qS x1 n) - (ByteArray.size x2:Int)) - (ByteArray.size x3:Int))<0
    ·rw [qh c4,qn2 (show szV (.slice 3 (.int .i64)) x4 (((qS x1 n) - (ByteArray.size x2:Int)) - (ByteArray.size x3:Int))<0 from c4)]
    ·have h04:0≤qaK x4 (((qS x1 n) - (ByteArray.size x2:Int)) - (ByteArray.size x3:Int)):=by omega
     have h14:qaK x4 (((qS x1 n) - (ByteArray.size x2:Int)) - (ByteArray.size x3:Int))≤1048576:=Int.le_trans (qbN (.slice 3 (.int .i64)) x4 (((qS x1 n) - (ByteArray.size x2:Int)) - (ByteArray.size x3:Int)) h03).1 h13
     rw [qg c4,qlH (show 0≤szV (.slice 3 (.int .i64)) x4 (((qS x1 n) - (ByteArray.size x2:Int)) - (ByteArray.size x3:Int)) from h04)]
     change _=some (szV (.pair (.int .i64) (.pair (.int .i64) (.int .i64))) _ (qaK x4 (((qS x1 n) - (ByteArray.size x2:Int)) - (ByteArray.size x3:Int))),())
     rw [qe4 h04]
     rw [qe4 h04]
     rfl⟩
theorem s94:Sound Try.prog 94 g94:=qu (tt:=tt) (Γ:=Γ94) hT (qk qwQ (qk qyN qt)) hm (fn:=Try.f94) Try.func94 (c:=Try.f94.body.getD .skip) (by kernel_rfl) (by kernel_rfl) fun x hx=>by
 obtain ⟨N,h⟩:=e94 x.1 x.2.1 hx
 exact ⟨T94 N,p94,qr _,qCN N,(qEJ N x.1 x.2.1).trans h⟩
def qga (x:List (Val qw)) (n:Int):Int:=szV (.slice 136 qw) x n
def qkE (x:List (Val qw)) (n:Int):Prop:=qcd (.slice 136 qw) x n
noncomputable def qdG (N:Nat) (v2:List (Val qw)) (k0:Int→Option (qa [i3])):Nat→Int→Int→Option (qa [i3])
 | 0,_,_=>none
 | n+1,v3,v4=>bif (decide (v4<(v2.length:Int)))then (chk (0≤v4∧v4<(v2.length:Int)) (chk (qks (v2.getD v4.toNat (qb qw)) v3) (bif (decide (((qeo (v2.getD v4.toNat (qb qw)) v3):Int)<(0:Int)))then (some ((-1:Int),()))else (qdG N v2 k0 n ((qeo (v2.getD v4.toNat (qb qw)) v3):Int) (IntKind.i64.wrap (v4+(1:Int)))))))else (k0 v3)
noncomputable def m45 (N:Nat) (v0:List (Val qw)) (v1:Int):Option (qa [i3]):=bif (decide ((IntKind.i64.wrap (v1 - (v0.length:Int)))<(0:Int)))then (some ((-1:Int),()))else (qdG N v0 (fun (v6:Int)=>some (v6,())) N (IntKind.i64.wrap (v1 - (v0.length:Int))) (0:Int))
def Γ45:Gam:=[(94,g94)]
theorem qtH:Gam.get Γ45 94=some g94:=rfl
def qhU:Nm:=⟨[true,true,false,false,false,true],[],false⟩
theorem qrh:qhU.zero=false:=rfl
theorem qtJ:qhU.fix=[]:=rfl
theorem qrE:qhU.keep=[true,true,false,false,false,true]:=rfl
def qlr:Nm:=⟨[false,true],[],false⟩
theorem qnA:qlr.zero=false:=rfl
theorem qqa:qlr.fix=[]:=rfl
theorem qow:qlr.keep=[false,true]:=rfl
def qfC:Nat→Tree:=fun _=> .done
def qf3:Nat→Nm:=fun i=>if i=5 then qhU else ⟨[],[],false⟩
def qhK:Nat→Option Jn:=fun _=>none
def qjp:Nat→Option Nm:=fun i=>if i=0 then some qlr else none
def qgM:Nat→Option Nm:=fun _=>none
theorem p45:qm qfC (Try.f45.body.getD .skip)=true:=by kernel_rfl
def T45 (N:Nat):Tab:={tr:=qfC,lp:=qf3,ex:=qjp,rg:=qgM,jn:=qhK,fuel:=N}
theorem qrJ (N:Nat):(T45 N).pins=false:=rfl
theorem qDz (N:Nat):qp Try.prog (T45 N):=qv fun _=>rfl
theorem qm9 (N:Nat) (i:Nat):(T45 N).tr i=qfC i:=rfl
theorem qwy (N:Nat) (i:Nat):(T45 N).lp i=qf3 i:=rfl
theorem qu1 (N:Nat) (i:Nat):(T45 N).ex i=qjp i:=rfl
theorem qo7 (N:Nat) (i:Nat):(T45 N).rg i=qgM i:=rfl
theorem qmY (N:Nat) (i:Nat):(T45 N).jn i=qhK i:=rfl
theorem qrk (N:Nat):(T45 N).fuel=N:=rfl
noncomputable def qyl:Code:=cut [true,true,true,false,true,true,true] (Try.f45.body.getD .skip)
theorem qJH {N:Nat} {Q:X→St→Option (qa [i3])} {e:List LV} {h:List Blk}:qc tt Γ45 (T45 N) qyl Q ⟨e,h⟩=qc tt Γ45 (T45 N) (cut [true,true,true,false,true,true,true] (Try.f45.body.getD .skip)) Q ⟨e,h⟩:=rfl
theorem qBn (N:Nat) (v2:List (Val qw)) {k0:Int→Option (qa [i3])} {Q:X→St→Option (qa [i3])} {c:Code} (hc:c=qyl) (hret: ∀st,Q .ret st=qG tt true [i3] [.tmp 4] st) (h0: ∀(v5:Int),Q (.exit 0) ⟨[u,.one (.int .i64 v5),u,u,u,u,u,u,u,u,u,u,u,u,u,u,u,u,u,u,u,u,u,u,u,u,u],[]⟩=k0 v5): ∀(n:Nat) (v3:Int) (v4:Int),qE (qc tt Γ45 (T45 N) c) false qhU Q n ⟨[.one (.sl 136 qw v2 0),.one (.int .i64 v3),u,u,u,.one (.int .i64 v4),u,u,u,u,u,u,u,u,u,u,u,u,u,u,u,u,u,u,u,u,u],[]⟩=qdG N v2 k0 n v3 v4:=by
 subst hc;intro n;induction n with
 | zero=>intros;rfl
 | succ n ih=>
   intro v3 v4
   rw [qP,qJH,qdG];unfold Try.f45
   simp (maxSteps:=10000000) -implicitDefEqProofs [qm9,qfC,qwy,qf3,qu1,qjp,qo7,qgM,qmY,qhK,qrk,qrJ,qtJ,qrE,qrh,qqa,qow,qnA,qtH,g94,hret,h0,ih]
theorem qC6 (N:Nat) (v0:List (Val qw)) (v1:Int):qc tt Γ45 (T45 N) (Try.f45.body.getD .skip) (qn tt true [i3] [.tmp 4]) (qq [i78,i3] 27 (v0,v1,()))=m45 N v0 v1:=by
 unfold Try.f45
 simp (maxSteps:=10000000) -implicitDefEqProofs [qm9,qfC,qwy,qf3,qu1,qjp,qo7,qgM,qmY,qhK,qrk,qrJ,qtJ,qrE,qrh,qqa,qow,qnA,qtH,g94]
 rewrite [qBn (k0:=(fun (v6:Int)=>some (v6,()))) N _ ?_ ?_ ?_]
 ·rewrite [m45];first | rfl | simp (maxSteps:=10000000) -implicitDefEqProofs []
 ·rfl
 ·intro;simp only [qN,qO,qQ,qM]
 ·intro v6;simp (maxSteps:=10000000) -implicitDefEqProofs [qm9,qfC,qwy,qf3,qu1,qjp,qo7,qgM,qmY,qhK,qrk,qrJ,qtJ,qrE,qrh,qqa,qow,qnA,qtH,g94]
def g45:G:={ps:=[i78,i3],rs:=[i3],dp:=true,pre:=fun x=>qkE x.1 x.2.1,fn:=fun x=>(qga x.1 x.2.1,())}
theorem e45 (x:List (Val qw)) (n:Int) (h:qkE x n): ∃N,m45 N x n=some (qga x n,()):=⟨List.length x+1,by
 obtain ⟨hs,h0,h1⟩:=h
 rw [m45,qcO h0 h1 hs.1]
 simp only [qga,qf7]
 by_cases c:n - (List.length x:Int)<0
 ·rw [qh c,if_pos c]
 ·rw [qg c,if_neg c]
  refine (qac (F:=fun n i s=>qdG _ x _ n s i) (step:=fun _ y (s:Int) K=>chk (qks y s) (bif decide (qeo y s<0)then some ((-1:Int),())else K (qeo y s))) (k:=fun s=>some (s,())) (by omega) (fun n i s hi=> ?_) (fun n i s hi=> ?_) _ _ (Nat.lt_succ_self _)).trans (qiZ (t:=qw) x 0 _ (by omega) (by omega) hs.2)
  ·rw [qdG,qh (by omega),qd (by omega),qB hi]
  ·rw [qdG,qg (by omega)]⟩
theorem s45:Sound Try.prog 45 g45:=qu (tt:=tt) (Γ:=Γ45) hT (qk s94 qt) hm (fn:=Try.f45) Try.func45 (c:=Try.f45.body.getD .skip) (by kernel_rfl) (by kernel_rfl) fun x hx=>by
 obtain ⟨N,h⟩:=e45 x.1 x.2.1 hx
 exact ⟨T45 N,p45,qr _,qDz N,(qC6 N x.1 x.2.1).trans h⟩
def qbW (x:Val qw):Val qe:=x
def qkn (x:Val qw):Prop:=Bd qw x
noncomputable def m96 (N:Nat) (v0:Val qw):Option (qa [qaJ]):=chk (qfv v0.2.1) (chk (qe2 (v0.2.2.2.2.1:List (Val (.int .i64)))) (some (((v0.1:Int),(((qc3 v0.2.1).1:List (Val (.int .i64))),(((qc3 v0.2.1).2).1:Int),(((qc3 v0.2.1).2).2:Bool)),(v0.2.2.1:ByteArray),(v0.2.2.2.1:ByteArray),((qkf (v0.2.2.2.2.1:List (Val (.int .i64)))):List (Val (.int .i64))),(v0.2.2.2.2.2.1:Int),(v0.2.2.2.2.2.2.1:Int),(v0.2.2.2.2.2.2.2:Int)),())))
def Γ96:Gam:=[(21,g21),(129,qcU)]
theorem qDC:Gam.get Γ96 21=some g21:=rfl
theorem qGF:Gam.get Γ96 129=some qcU:=rfl
def qlP:Nat→Tree:=fun _=> .done
def qtM:Nat→Nm:=fun _=>⟨[],[],false⟩
def qvA:Nat→Option Jn:=fun _=>none
def qms:Nat→Option Nm:=fun _=>none
def qtP:Nat→Option Nm:=fun _=>none
theorem p96:qm qlP (Try.f96.body.getD .skip)=true:=by kernel_rfl
def T96 (N:Nat):Tab:={tr:=qlP,lp:=qtM,ex:=qms,rg:=qtP,jn:=qvA,fuel:=N}
theorem qJU (N:Nat):(T96 N).pins=false:=rfl
theorem qH0 (N:Nat):qp Try.prog (T96 N):=qv fun _=>rfl
theorem qE5 (N:Nat) (i:Nat):(T96 N).tr i=qlP i:=rfl
theorem qEz (N:Nat) (i:Nat):(T96 N).lp i=qtM i:=rfl
theorem qJQ (N:Nat) (i:Nat):(T96 N).ex i=qms i:=rfl
theorem qEE (N:Nat) (i:Nat):(T96 N).rg i=qtP i:=rfl
theorem qCK (N:Nat) (i:Nat):(T96 N).jn i=qvA i:=rfl
theorem qFg (N:Nat):(T96 N).fuel=N:=rfl
theorem qIO (N:Nat) (v0:Val qw):qc tt Γ96 (T96 N) (Try.f96.body.getD .skip) (qn tt true [qaJ] [.cell 2 139]) (qq [qdg] 31 (v0,()))=m96 N v0:=by
 rw [m96];unfold Try.f96
 simp (maxSteps:=10000000) -implicitDefEqProofs [qE5,qlP,qEz,qtM,qJQ,qms,qEE,qtP,qCK,qvA,qFg,qJU,qDC,qGF,g21,qcU]
 try rfl
def g96:G:={ps:=[qdg],rs:=[qaJ],dp:=true,pre:=fun x=>qkn x.1,fn:=fun x=>(qbW x.1,())}
theorem e96 (x:Val qw) (h:qkn x): ∃N,m96 N x=some (qbW x,()):=⟨0,by
 obtain ⟨s0,s1,s2,s3,s4,s5,s6,s7⟩:=h
 rw [m96,qd (show qfv _ from s1),qd (show qe2 _ from s4)]
 rfl⟩
theorem s96:Sound Try.prog 96 g96:=qu (tt:=tt) (Γ:=Γ96) hT (qk s21 (qk qx8 qt)) hm (fn:=Try.f96) Try.func96 (c:=Try.f96.body.getD .skip) (by kernel_rfl) (by kernel_rfl) fun x hx=>by
 obtain ⟨N,h⟩:=e96 x.1 hx
 exact ⟨T96 N,p96,qr _,qH0 N,(qIO N x.1).trans h⟩
def qaF (x:List (Val qw)):List (Val qe):=x
def qfu (x:List (Val qw)):Prop:=Bd (.slice 136 qw) x
noncomputable def qd4 (N:Nat) (v1:List (Val qw)) (k0:(List (Val qe))→Option (qa [i81])):Nat→Int→(List (Val qe))→Option (qa [i81])
 | 0,_,_=>none
 | n+1,v2,v3=>bif (decide (v2<(v1.length:Int)))then (chk (0≤v2∧v2<(v1.length:Int)) (chk (qkn (v1.getD v2.toNat (qb qw))) (chk (0≤v2∧v2<(v3.length:Int)) (chk (v2.toNat<v3.length) (qd4 N v1 k0 n (IntKind.i64.wrap (v2+(1:Int))) (v3.set v2.toNat (((qbW (v1.getD v2.toNat (qb qw))).1:Int),(((((qbW (v1.getD v2.toNat (qb qw))).2).1).1:List (Val (.int .i64))),(((((qbW (v1.getD v2.toNat (qb qw))).2).1).2).1:Int),(((((qbW (v1.getD v2.toNat (qb qw))).2).1).2).2:Bool)),((((qbW (v1.getD v2.toNat (qb qw))).2).2).1:ByteArray),(((((qbW (v1.getD v2.toNat (qb qw))).2).2).2).1:ByteArray),((((((qbW (v1.getD v2.toNat (qb qw))).2).2).2).2).1:List (Val (.int .i64))),(((((((qbW (v1.getD v2.toNat (qb qw))).2).2).2).2).2).1:Int),((((((((qbW (v1.getD v2.toNat (qb qw))).2).2).2).2).2).2).1:Int),((((((((qbW (v1.getD v2.toNat (qb qw))).2).2).2).2).2).2).2:Int))))))))else (k0 v3)
noncomputable def m47 (N:Nat) (v0:List (Val qw)):Option (qa [i81]):=chk (0≤(v0.length:Int)∧(v0.length:Int)≤(v0.length:Int)∧(v0.length:Int)≤1048576) (qd4 N v0 (fun (v5:List (Val qe))=>some (v5,())) N (0:Int) (List.replicate (v0.length:Int).toNat (qb qe)))
def Γ47:Gam:=[(96,g96)]
theorem qmC:Gam.get Γ47 96=some g96:=rfl
def qjq:Nm:=⟨[true,false,false,true,true],[],false⟩
theorem qmX:qjq.zero=false:=rfl
theorem qrU:qjq.fix=[]:=rfl
theorem qpK:qjq.keep=[true,false,false,true,true]:=rfl
def qk6:Nm:=⟨[false,false,false,true],[],false⟩
theorem qtA:qk6.zero=false:=rfl
theorem qno:qk6.fix=[]:=rfl
theorem qqF:qk6.keep=[false,false,false,true]:=rfl
def qeH:Nat→Tree:=fun _=> .done
def qiA:Nat→Nm:=fun i=>if i=3 then qjq else ⟨[],[],false⟩
def qiO:Nat→Option Jn:=fun _=>none
def qf4:Nat→Option Nm:=fun i=>if i=0 then some qk6 else none
def qiF:Nat→Option Nm:=fun _=>none
theorem p47:qm qeH (Try.f47.body.getD .skip)=true:=by kernel_rfl
def T47 (N:Nat):Tab:={tr:=qeH,lp:=qiA,ex:=qf4,rg:=qiF,jn:=qiO,fuel:=N}
theorem qsW (N:Nat):(T47 N).pins=false:=rfl
theorem qGI (N:Nat):qp Try.prog (T47 N):=qv fun _=>rfl
theorem qs5 (N:Nat) (i:Nat):(T47 N).tr i=qeH i:=rfl
theorem qnR (N:Nat) (i:Nat):(T47 N).lp i=qiA i:=rfl
theorem qmp (N:Nat) (i:Nat):(T47 N).ex i=qf4 i:=rfl
theorem qp7 (N:Nat) (i:Nat):(T47 N).rg i=qiF i:=rfl
theorem qt5 (N:Nat) (i:Nat):(T47 N).jn i=qiO i:=rfl
theorem qoz (N:Nat):(T47 N).fuel=N:=rfl
noncomputable def qyp:Code:=cut [true,true,false,true,true,true] (Try.f47.body.getD .skip)
theorem qGC {N:Nat} {Q:X→St→Option (qa [i81])} {e:List LV} {h:List Blk}:qc tt Γ47 (T47 N) qyp Q ⟨e,h⟩=qc tt Γ47 (T47 N) (cut [true,true,false,true,true,true] (Try.f47.body.getD .skip)) Q ⟨e,h⟩:=rfl
theorem qBv (N:Nat) (v1:List (Val qw)) {k0:(List (Val qe))→Option (qa [i81])} {Q:X→St→Option (qa [i81])} {c:Code} (hc:c=qyp) (hret: ∀st,Q .ret st=qG tt true [i81] [.tmp 2] st) (h0: ∀(v4:List (Val qe)),Q (.exit 0) ⟨[u,u,u,.one (.own 0),u,u,u,u,u,u,u,u,u,u,u,u,u,u,u,u,u,u,u],[.row 139 qe v4 true true 0]⟩=k0 v4): ∀(n:Nat) (v2:Int) (v3:List (Val qe)),qE (qc tt Γ47 (T47 N) c) false qjq Q n ⟨[.one (.sl 136 qw v1 1),u,u,.one (.own 0),.one (.int .i64 v2),u,u,u,u,u,u,u,u,u,u,u,u,u,u,u,u,u,u],[.row 139 qe v3 true true 0]⟩=qd4 N v1 k0 n v2 v3:=by
 subst hc;intro n;induction n with
 | zero=>intros;rfl
 | succ n ih=>
   intro v2 v3
   rw [qP,qGC,qd4];unfold Try.f47
   simp (maxSteps:=10000000) -implicitDefEqProofs [qs5,qeH,qnR,qiA,qmp,qf4,qp7,qiF,qt5,qiO,qoz,qsW,qrU,qpK,qmX,qno,qqF,qtA,qmC,g96,hret,h0,ih]
theorem qEG (N:Nat) (v0:List (Val qw)):qc tt Γ47 (T47 N) (Try.f47.body.getD .skip) (qn tt true [i81] [.tmp 2]) (qq [i78] 23 (v0,()))=m47 N v0:=by
 unfold Try.f47
 simp (maxSteps:=10000000) -implicitDefEqProofs [qs5,qeH,qnR,qiA,qmp,qf4,qp7,qiF,qt5,qiO,qoz,qsW,qrU,qpK,qmX,qno,qqF,qtA,qmC,g96]
 rewrite [qBv (k0:=(fun (v5:List (Val qe))=>some (v5,()))) N _ ?_ ?_ ?_]
 ·rewrite [m47];first | rfl | simp (maxSteps:=10000000) -implicitDefEqProofs []
 ·rfl
 ·intro;simp only [qN,qO,qQ,qM]
 ·intro v5;simp (maxSteps:=10000000) -implicitDefEqProofs [qs5,qeH,qnR,qiA,qmp,qf4,qp7,qiF,qt5,qiO,qoz,qsW,qrU,qpK,qmX,qno,qqF,qtA,qmC,g96]
def g47:G:={ps:=[i78],rs:=[i81],dp:=true,pre:=fun x=>qfu x.1,fn:=fun x=>(qaF x.1,())}
theorem e47 (x:List (Val qw)) (h:qfu x): ∃N,m47 N x=some (qaF x,()):=⟨List.length x+1,by
 rw [m47,qd (qgY h.1),Int.toNat_natCast]
 refine qjn (F:=fun n i s=>qd4 _ x _ n i s) (k:=fun s=>some (s,())) (qb qe) h.1 (fun n i s hi hl=> ?_) (fun n i s hi=> ?_) _ (Nat.lt_succ_self _)
 ·rw [qd4,qh (by omega),qd (by omega),qd (show qkn _ from by rw [qB hi];exact h.2 _ (List.getElem_mem hi)),qB hi,qd (by omega),qd (by omega)]
  rfl
 ·rw [qd4,qg (by omega)]⟩
theorem s47:Sound Try.prog 47 g47:=qu (tt:=tt) (Γ:=Γ47) hT (qk s96 qt) hm (fn:=Try.f47) Try.func47 (c:=Try.f47.body.getD .skip) (by kernel_rfl) (by kernel_rfl) fun x hx=>by
 obtain ⟨N,h⟩:=e47 x.1 hx
 exact ⟨T47 N,p47,qr _,qGI N,(qEG N x.1).trans h⟩
def qsQ (x y:Val qe):Bool:=eqV qe x y
def qle (x _:Val qe):Prop:=Bd qe x
noncomputable def m99 (N:Nat) (v0:Val qe) (v1:Val qe):Option (qa [i4]):=bif (!(decide ((v0.1:Int)=(v1.1:Int))))then (some (false,()))else (chk (qeG v0.2.1 v1.2.1) (bif (!((qhA v0.2.1 v1.2.1):Bool))then (some (false,()))else (bif (!(ByteArray.toList (v0.2.2.1:ByteArray)==ByteArray.toList (v1.2.2.1:ByteArray)))then (some (false,()))else (bif (!(ByteArray.toList (v0.2.2.2.1:ByteArray)==ByteArray.toList (v1.2.2.2.1:ByteArray)))then (some (false,()))else (chk (qfb (v0.2.2.2.2.1:List (Val (.int .i64))) (v1.2.2.2.2.1:List (Val (.int .i64)))) (bif (!((qdE (v0.2.2.2.2.1:List (Val (.int .i64))) (v1.2.2.2.2.1:List (Val (.int .i64)))):Bool))then (some (false,()))else (bif (!(decide ((v0.2.2.2.2.2.1:Int)=(v1.2.2.2.2.2.1:Int))))then (some (false,()))else (bif (!(decide ((v0.2.2.2.2.2.2.1:Int)=(v1.2.2.2.2.2.2.1:Int))))then (some (false,()))else (bif (!(decide ((v0.2.2.2.2.2.2.2:Int)=(v1.2.2.2.2.2.2.2:Int))))then (some (false,()))else (some (true,())))))))))))
def Γ99:Gam:=[(24,g24),(133,qcI)]
theorem qBZ:Gam.get Γ99 24=some g24:=rfl
theorem qJm:Gam.get Γ99 133=some qcI:=rfl
def qmj:Nat→Tree:=fun _=> .done
def qoH:Nat→Nm:=fun _=>⟨[],[],false⟩
def qtK:Nat→Option Jn:=fun _=>none
def qmB:Nat→Option Nm:=fun _=>none
def qmH:Nat→Option Nm:=fun _=>none
theorem p99:qm qmj (Try.f99.body.getD .skip)=true:=by kernel_rfl
def T99 (N:Nat):Tab:={tr:=qmj,lp:=qoH,ex:=qmB,rg:=qmH,jn:=qtK,fuel:=N}
theorem qEA (N:Nat):(T99 N).pins=false:=rfl
theorem qCo (N:Nat):qp Try.prog (T99 N):=qv fun _=>rfl
theorem qAd (N:Nat) (i:Nat):(T99 N).tr i=qmj i:=rfl
theorem qAv (N:Nat) (i:Nat):(T99 N).lp i=qoH i:=rfl
theorem qBx (N:Nat) (i:Nat):(T99 N).ex i=qmB i:=rfl
theorem qFK (N:Nat) (i:Nat):(T99 N).rg i=qmH i:=rfl
theorem qFt (N:Nat) (i:Nat):(T99 N).jn i=qtK i:=rfl
theorem qGm (N:Nat):(T99 N).fuel=N:=rfl
theorem qBE (N:Nat) (v0:Val qe) (v1:Val qe):qc tt Γ99 (T99 N) (Try.f99.body.getD .skip) (qn tt true [i4] [.tmp 4]) (qq [qaJ,qaJ] 47 (v0,v1,()))=m99 N v0 v1:=by
 rw [m99];unfold Try.f99
 simp (maxSteps:=10000000) -implicitDefEqProofs [qAd,qmj,qAv,qoH,qBx,qmB,qFK,qmH,qFt,qtK,qGm,qEA,qBZ,qJm,g24,qcI]
 try rfl
def g99:G:={ps:=[qaJ,qaJ],rs:=[i4],dp:=true,pre:=fun x=>qle x.1 x.2.1,fn:=fun x=>(qsQ x.1 x.2.1,())}
theorem e99 (x y:Val qe) (h:qle x y): ∃N,m99 N x y=some (qsQ x y,()):=⟨0,by
 obtain ⟨s0,s1,s2,s3,s4,s5,s6,s7⟩:=h
 rw [m99,qd (show qeG _ _ from s1),qd (show qfb _ _ from s4)]
 obtain ⟨x0,x1,x2,x3,x4,x5,x6,x7⟩:=x
 obtain ⟨y0,y1,y2,y3,y4,y5,y6,y7⟩:=y
 change _=some ((eqV (.int .i64) x0 y0&&(eqV qf x1 y1&&(eqV .str x2 y2&&(eqV .str x3 y3&&(eqV (.slice 3 (.int .i64)) x4 y4&&(eqV (.int .i64) x5 y5&&(eqV (.int .i64) x6 y6&&eqV (.int .i64) x7 y7))))))),())
 simp only [qF]
 show _=_
 generalize he0:eqV (.int .i64) x0 y0=e0
 have hd0:decide ((x0:Int)=y0)=e0:=he0
 generalize he1:eqV qf x1 y1=e1
 have hd1:qhA x1 y1=e1:=he1
 generalize he2:eqV .str x2 y2=e2
 have hd2:(ByteArray.toList x2==ByteArray.toList y2)=e2:=he2
 generalize he3:eqV .str x3 y3=e3
 have hd3:(ByteArray.toList x3==ByteArray.toList y3)=e3:=he3
 generalize he4:eqV (.slice 3 (.int .i64)) x4 y4=e4
 have hd4:qdE x4 y4=e4:=he4
 generalize he5:eqV (.int .i64) x5 y5=e5
 have hd5:decide ((x5:Int)=y5)=e5:=he5
 generalize he6:eqV (.int .i64) x6 y6=e6
 have hd6:decide ((x6:Int)=y6)=e6:=he6
 generalize he7:eqV (.int .i64) x7 y7=e7
 have hd7:decide ((x7:Int)=y7)=e7:=he7
 simp only [hd0,hd1,hd2,hd3,hd4,hd5,hd6,hd7]
 cases e0<;>cases e1<;>cases e2<;>cases e3<;>cases e4<;>cases e5<;>cases e6<;>cases e7<;>rfl⟩
theorem s99:Sound Try.prog 99 g99:=qu (tt:=tt) (Γ:=Γ99) hT (qk s24 (qk qxZ qt)) hm (fn:=Try.f99) Try.func99 (c:=Try.f99.body.getD .skip) (by kernel_rfl) (by kernel_rfl) fun x hx=>by
 obtain ⟨N,h⟩:=e99 x.1 x.2.1 hx
 exact ⟨T99 N,p99,qr _,qCo N,(qBE N x.1 x.2.1).trans h⟩
def qhJ (x y:List (Val qe)):Bool:=eqV (.slice 139 qe) x y
def qkN (x _:List (Val qe)):Prop:=Bd (.slice 139 qe) x
noncomputable def qd0 (N:Nat) (v2:List (Val qe)) (v3:List (Val qe)) (k0:Unit→Option (qa [i4])):Nat→Int→Option (qa [i4])
 | 0,_=>none
 | n+1,v4=>bif (decide (v4<(v2.length:Int)))then (chk (0≤v4∧v4<(v2.length:Int)) (chk (0≤v4∧v4<(v3.length:Int)) (chk (qle (v2.getD v4.toNat (qb qe)) (v3.getD v4.toNat (qb qe))) (bif (!((qsQ (v2.getD v4.toNat (qb qe)) (v3.getD v4.toNat (qb qe))):Bool))then (some (false,()))else (qd0 N v2 v3 k0 n (IntKind.i64.wrap (v4+(1:Int))))))))else (k0 ())
noncomputable def m49 (N:Nat) (v0:List (Val qe)) (v1:List (Val qe)):Option (qa [i4]):=bif (!(decide ((v0.length:Int)=(v1.length:Int))))then (some (false,()))else (qd0 N v0 v1 (fun (_:Unit)=>some (true,())) N (0:Int))
def Γ49:Gam:=[(99,g99)]
theorem qpH:Gam.get Γ49 99=some g99:=rfl
def qhx:Nm:=⟨[true,true,false,false,false,true],[],false⟩
theorem qsu:qhx.zero=false:=rfl
theorem qvC:qhx.fix=[]:=rfl
theorem qqT:qhx.keep=[true,true,false,false,false,true]:=rfl
def qkt:Nm:=⟨[],[],false⟩
theorem qoI:qkt.zero=false:=rfl
theorem qsI:qkt.fix=[]:=rfl
theorem qp8:qkt.keep=[]:=rfl
def qeP:Nat→Tree:=fun i=>if i=6 then .quiet 0 (.quiet 1 (.quiet 2 (.quiet 3 (.quiet 4 (.quiet 5 (.quiet 6 (.quiet 7 (.alt 8 (.quiet 9 .done) .stop))))))))else .done
def qiB:Nat→Nm:=fun i=>if i=4 then qhx else ⟨[],[],false⟩
def qhL:Nat→Option Jn:=fun _=>none
def qjG:Nat→Option Nm:=fun i=>if i=0 then some qkt else none
def qg2:Nat→Option Nm:=fun _=>none
theorem p49:qm qeP (Try.f49.body.getD .skip)=true:=by kernel_rfl
def T49 (N:Nat):Tab:={tr:=qeP,lp:=qiB,ex:=qjG,rg:=qg2,jn:=qhL,fuel:=N}
theorem qvW (N:Nat):(T49 N).pins=false:=rfl
theorem qEB (N:Nat):qp Try.prog (T49 N):=qv fun _=>rfl
theorem qo4 (N:Nat) (i:Nat):(T49 N).tr i=qeP i:=rfl
theorem qm8 (N:Nat) (i:Nat):(T49 N).lp i=qiB i:=rfl
theorem qpQ (N:Nat) (i:Nat):(T49 N).ex i=qjG i:=rfl
theorem qnH (N:Nat) (i:Nat):(T49 N).rg i=qg2 i:=rfl
theorem qpp (N:Nat) (i:Nat):(T49 N).jn i=qhL i:=rfl
theorem qne (N:Nat):(T49 N).fuel=N:=rfl
noncomputable def qzQ:Code:=cut [true,true,false,true,true,true] (Try.f49.body.getD .skip)
theorem qD6 {N:Nat} {Q:X→St→Option (qa [i4])} {e:List LV} {h:List Blk}:qc tt Γ49 (T49 N) qzQ Q ⟨e,h⟩=qc tt Γ49 (T49 N) (cut [true,true,false,true,true,true] (Try.f49.body.getD .skip)) Q ⟨e,h⟩:=rfl
theorem qBS (N:Nat) (v2:List (Val qe)) (v3:List (Val qe)) {k0:Unit→Option (qa [i4])} {Q:X→St→Option (qa [i4])} {c:Code} (hc:c=qzQ) (hret: ∀st,Q .ret st=qG tt true [i4] [.tmp 4] st) (h0:Q (.exit 0) ⟨[u,u,u,u,u,u,u,u,u,u,u,u,u,u,u,u,u,u,u,u,u,u,u,u,u,u,u],[]⟩=k0 ()): ∀(n:Nat) (v4:Int),qE (qc tt Γ49 (T49 N) c) false qhx Q n ⟨[.one (.sl 139 qe v2 0),.one (.sl 139 qe v3 0),u,u,u,.one (.int .i64 v4),u,u,u,u,u,u,u,u,u,u,u,u,u,u,u,u,u,u,u,u,u],[]⟩=qd0 N v2 v3 k0 n v4:=by
 subst hc;intro n;induction n with
 | zero=>intros;rfl
 | succ n ih=>
   intro v4
   rw [qP,qD6,qd0];unfold Try.f49
   simp (maxSteps:=10000000) -implicitDefEqProofs [qo4,qeP,qm8,qiB,qpQ,qjG,qnH,qg2,qpp,qhL,qne,qvW,qvC,qqT,qsu,qsI,qp8,qoI,qpH,g99,hret,h0,ih]
theorem qJs (N:Nat) (v0:List (Val qe)) (v1:List (Val qe)):qc tt Γ49 (T49 N) (Try.f49.body.getD .skip) (qn tt true [i4] [.tmp 4]) (qq [i81,i81] 27 (v0,v1,()))=m49 N v0 v1:=by
 unfold Try.f49
 simp (maxSteps:=10000000) -implicitDefEqProofs [qo4,qeP,qm8,qiB,qpQ,qjG,qnH,qg2,qpp,qhL,qne,qvW,qvC,qqT,qsu,qsI,qp8,qoI,qpH,g99]
 rewrite [qBS (k0:=(fun (_:Unit)=>some (true,()))) N _ _ ?_ ?_ ?_]
 ·rewrite [m49];first | rfl | simp (maxSteps:=10000000) -implicitDefEqProofs []
 ·rfl
 ·intro;simp only [qN,qO,qQ,qM]
 ·simp (maxSteps:=10000000) -implicitDefEqProofs [qo4,qeP,qm8,qiB,qpQ,qjG,qnH,qg2,qpp,qhL,qne,qvW,qvC,qqT,qsu,qsI,qp8,qoI,qpH,g99]
def g49:G:={ps:=[i81,i81],rs:=[i4],dp:=true,pre:=fun x=>qkN x.1 x.2.1,fn:=fun x=>(qhJ x.1 x.2.1,())}
theorem e49 (x y:List (Val qe)) (h:qkN x y): ∃N,m49 N x y=some (qhJ x y,()):=⟨List.length x+1,by
 rw [m49,qF]
 rw [qhJ,eqS]
 by_cases c:List.length x=List.length y
 ·rw [qh (by omega)]
  refine (qiw (f:=eqV qe) (xs:=x) (ys:=y) (F:=fun n i=>qd0 _ x y _ n i) (k:=fun _=>some (true,())) (r:=some (false,())) h.1 c (fun n i hi hi2=> ?_) (fun n i hi=> ?_) _ (Nat.lt_succ_self _)).trans qeK
  ·rw [qd0,qh (by omega),qd (by omega),qd (by omega),qd (show qle _ _ from by rw [qB hi];exact h.2 _ (List.getElem_mem hi)),qB hi,qB hi2,qF]
   rfl
  ·rw [qd0,qg (by omega)]
 ·rw [qg (by omega),qeC _ _ c]⟩
theorem s49:Sound Try.prog 49 g49:=qu (tt:=tt) (Γ:=Γ49) hT (qk s99 qt) hm (fn:=Try.f49) Try.func49 (c:=Try.f49.body.getD .skip) (by kernel_rfl) (by kernel_rfl) fun x hx=>by
 obtain ⟨N,h⟩:=e49 x.1 x.2.1 hx
 exact ⟨T49 N,p49,qr _,qEB N,(qJs N x.1 x.2.1).trans h⟩
end Go.T
