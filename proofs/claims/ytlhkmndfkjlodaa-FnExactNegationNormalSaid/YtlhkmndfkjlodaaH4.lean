/- Sizes, copies and equality of formulas. -/
import Derived.Test.YtlhkmndfkjlodaaA4
set_option linter.unusedSimpArgs false
set_option linter.unusedVariables false
namespace Go.T
open Go Go.Proofs
set_option maxHeartbeats 4000000
set_option maxRecDepth 100000
def qhP (x:Val qC) (n:Int):Int:=szV qC x n
def qpX (x:Val qC) (n:Int):Prop:=qeI qC x n
noncomputable def m78 (N:Nat) (v0:Val qC) (v1:Int):Option (qc [i3]):=chk (qiG v0.2.1 v1) (bif (decide (((qak v0.2.1 v1):Int)<(0:Int)))then (some ((-1:Int),()))else (bif (decide ((IntKind.i64.wrap (((qak v0.2.1 v1):Int) - ((v0.2.2.1:ByteArray).size:Int)))<(0:Int)))then (some ((-1:Int),()))else (bif (decide ((IntKind.i64.wrap ((IntKind.i64.wrap (((qak v0.2.1 v1):Int) - ((v0.2.2.1:ByteArray).size:Int))) - ((v0.2.2.2.1:ByteArray).size:Int)))<(0:Int)))then (some ((-1:Int),()))else (chk (qiM (v0.2.2.2.2.1:List (Val (.int .i64))) (IntKind.i64.wrap ((IntKind.i64.wrap (((qak v0.2.1 v1):Int) - ((v0.2.2.1:ByteArray).size:Int))) - ((v0.2.2.2.1:ByteArray).size:Int)))) (bif (decide (((qcQ (v0.2.2.2.2.1:List (Val (.int .i64))) (IntKind.i64.wrap ((IntKind.i64.wrap (((qak v0.2.1 v1):Int) - ((v0.2.2.1:ByteArray).size:Int))) - ((v0.2.2.2.1:ByteArray).size:Int)))):Int)<(0:Int)))then (some ((-1:Int),()))else (some (((qcQ (v0.2.2.2.2.1:List (Val (.int .i64))) (IntKind.i64.wrap ((IntKind.i64.wrap (((qak v0.2.1 v1):Int) - ((v0.2.2.1:ByteArray).size:Int))) - ((v0.2.2.2.1:ByteArray).size:Int)))):Int),())))))))
def Γ78:Gam:=[(54,g54),(101,qfW)]
theorem qZm:Gam.get Γ78 54=some g54:=rfl
theorem qRG:Gam.get Γ78 101=some qfW:=rfl
def qqY:Nat→Tree:=fun _=> .done
def qEr:Nat→Nm:=fun _=>⟨[],[],false⟩
def qxX:Nat→Option Jn:=fun _=>none
def qDM:Nat→Option Nm:=fun _=>none
def qwm:Nat→Option Nm:=fun _=>none
theorem p78:qm qqY (Try.f78.body.getD .skip)=true:=by kernel_rfl
def T78 (N:Nat):Tab:={tr:=qqY,lp:=qEr,ex:=qDM,rg:=qwm,jn:=qxX,fuel:=N}
theorem qWk (N:Nat):(T78 N).pins=false:=rfl
theorem qRH (N:Nat):qn Try.prog (T78 N):=qt fun _=>rfl
theorem qVg (N:Nat) (i:Nat):(T78 N).tr i=qqY i:=rfl
theorem qT6 (N:Nat) (i:Nat):(T78 N).lp i=qEr i:=rfl
theorem qLk (N:Nat) (i:Nat):(T78 N).ex i=qDM i:=rfl
theorem qLd (N:Nat) (i:Nat):(T78 N).rg i=qwm i:=rfl
theorem qQT (N:Nat) (i:Nat):(T78 N).jn i=qxX i:=rfl
theorem qVi (N:Nat):(T78 N).fuel=N:=rfl
theorem qRI (N:Nat) (v0:Val qC) (v1:Int):qf tt Γ78 (T78 N) (Try.f78.body.getD .skip) (qo tt true [i3] [.tmp 4]) (qv [qgw,i3] 32 (v0,v1,()))=m78 N v0 v1:=by
 rw [m78];unfold Try.f78
 simp (maxSteps:=10000000) -implicitDefEqProofs [qVg,qqY,qT6,qEr,qLk,qDM,qLd,qwm,qQT,qxX,qVi,qWk,qZm,qRG,g54,qfW]
 try rfl
def g78:G:={ps:=[qgw,i3],rs:=[i3],dp:=true,pre:=fun x=>qpX x.1 x.2.1,fn:=fun x=>(qhP x.1 x.2.1,())}
theorem e78 (x:Val qC) (n:Int) (h:qpX x n): ∃N,m78 N x n=some (qhP x n,()):=⟨0,by
 obtain ⟨x0,x1,x2,x3,x4,x5,x6,x7⟩:=x
 obtain ⟨hs,h0,h1⟩:=h
 obtain ⟨s0,s1,s2,s3,s4,s5,s6,s7⟩:=hs
 rw [m78,qhP]
 dsimp only
 rw [qiF h0]
 rw [qd (show qiG x1 n from ⟨s1,h0,h1⟩)]
 by_cases c1:qak x1 n<0
 ·rw [qj c1,quZ (show szV qH x1 n<0 from c1)]
 ·have h01:0≤qak x1 n:=by omega
  have h11:qak x1 n≤1048576:=Int.le_trans (qcz qH x1 n h0).1 h1
  rw [qh c1,qrW (show 0≤szV qH x1 n from h01)]
  change _=some (szV (.pair .str (.pair .str (.pair (.slice 3 (.int .i64)) (.pair (.int .i64) (.pair (.int .i64) (.int .i64)))))) _ (qak x1 n),())
  rw [qfz h01 h11 s2]
  by_cases c2:(qak x1 n) - (ByteArray.size x2:Int)<0
  ·rw [qj c2,qqF c2]
  ·rw [qh c2,qqX (by omega)]
   have h02:0≤((qak x1 n) - (ByteArray.size x2:Int)):=by omega
   have h12:((qak x1 n) - (ByteArray.size x2:Int))≤1048576:=by omega
   rw [qfz h02 h12 s3]
   by_cases c3:((qak x1 n) - (ByteArray.size x2:Int)) - (ByteArray.size x3:Int)<0
   ·rw [qj c3,qqF c3]
   ·rw [qh c3,qqX (by omega)]
    have h03:0≤(((qak x1 n) - (ByteArray.size x2:Int)) - (ByteArray.size x3:Int)):=by omega
    have h13:(((qak x1 n) - (ByteArray.size x2:Int)) - (ByteArray.size x3:Int))≤1048576:=by omega
    rw [qd (show qiM x4 (((qak x1 n) - (ByteArray.size x2:Int)) - (ByteArray.size x3:Int)) from ⟨s4,h03,h13⟩)]
    by_cases c4:qcQ x4 (((qak x1 n) - (ByteArray.size x2:Int)) - (ByteArray.size x3:Int))<0
    ·rw [qj c4,quZ (show szV (.slice 3 (.int .i64)) x4 (((qak x1 n) - (ByteArray.size x2:Int)) - (ByteArray.size x3:Int))<0 from c4)]
    ·have h04:0≤qcQ x4 (((qak x1 n) - (ByteArray.size x2:Int)) - (ByteArray.size x3:Int)):=by omega
     have h14:qcQ x4 (((qak x1 n) - (ByteArray.size x2:Int)) - (ByteArray.size x3:Int))≤1048576:=Int.le_trans (qcz (.slice 3 (.int .i64)) x4 (((qak x1 n) - (ByteArray.size x2:Int)) - (ByteArray.size x3:Int)) h03).1 h13
     rw [qh c4,qrW (show 0≤szV (.slice 3 (.int .i64)) x4 (((qak x1 n) - (ByteArray.size x2:Int)) - (ByteArray.size x3:Int)) from h04)]
     change _=some (szV (.pair (.int .i64) (.pair (.int .i64) (.int .i64))) _ (qcQ x4 (((qak x1 n) - (ByteArray.size x2:Int)) - (ByteArray.size x3:Int))),())
     rw [qiF h04]
     rw [qiF h04]
     rfl⟩
theorem s78:Sound Try.prog 78 g78:=qz (tt:=tt) (Γ:=Γ78) hT (ql s54 (ql qG9 qp)) hm (fn:=Try.f78) Try.func78 (c:=Try.f78.body.getD .skip) (by kernel_rfl) (by kernel_rfl) fun x hx=>by
 obtain ⟨N,h⟩:=e78 x.1 x.2.1 hx
 exact ⟨T78 N,p78,qx _,qRH N,(qRI N x.1 x.2.1).trans h⟩
def qj7 (x:List (Val qC)) (n:Int):Int:=szV (.slice 115 qC) x n
def qqh (x:List (Val qC)) (n:Int):Prop:=qeI (.slice 115 qC) x n
noncomputable def qhs (N:Nat) (v2:List (Val qC)) (k0:Int→Option (qc [i3])):Nat→Int→Int→Option (qc [i3])
 | 0,_,_=>none
 | n+1,v3,v4=>bif (decide (v4<(v2.length:Int)))then (chk (0≤v4∧v4<(v2.length:Int)) (chk (qpX (v2.getD v4.toNat (qb qC)) v3) (bif (decide (((qhP (v2.getD v4.toNat (qb qC)) v3):Int)<(0:Int)))then (some ((-1:Int),()))else (qhs N v2 k0 n ((qhP (v2.getD v4.toNat (qb qC)) v3):Int) (IntKind.i64.wrap (v4+(1:Int)))))))else (k0 v3)
noncomputable def m24 (N:Nat) (v0:List (Val qC)) (v1:Int):Option (qc [i3]):=bif (decide ((IntKind.i64.wrap (v1 - (v0.length:Int)))<(0:Int)))then (some ((-1:Int),()))else (qhs N v0 (fun (v6:Int)=>some (v6,())) N (IntKind.i64.wrap (v1 - (v0.length:Int))) (0:Int))
def Γ24:Gam:=[(78,g78)]
theorem qx3:Gam.get Γ24 78=some g78:=rfl
def ql3:Nm:=⟨[true,true,false,false,false,true],[],false⟩
theorem qzZ:ql3.zero=false:=rfl
theorem qGt:ql3.fix=[]:=rfl
theorem qwu:ql3.keep=[true,true,false,false,false,true]:=rfl
def qpf:Nm:=⟨[false,true],[],false⟩
theorem qwF:qpf.zero=false:=rfl
theorem qvv:qpf.fix=[]:=rfl
theorem quc:qpf.keep=[false,true]:=rfl
def qij:Nat→Tree:=fun _=> .done
def qkF:Nat→Nm:=fun i=>if i=5 then ql3 else ⟨[],[],false⟩
def qkM:Nat→Option Jn:=fun _=>none
def qlH:Nat→Option Nm:=fun i=>if i=0 then some qpf else none
def qkL:Nat→Option Nm:=fun _=>none
theorem p24:qm qij (Try.f24.body.getD .skip)=true:=by kernel_rfl
def T24 (N:Nat):Tab:={tr:=qij,lp:=qkF,ex:=qlH,rg:=qkL,jn:=qkM,fuel:=N}
theorem qDW (N:Nat):(T24 N).pins=false:=rfl
theorem qTj (N:Nat):qn Try.prog (T24 N):=qt fun _=>rfl
theorem qBe (N:Nat) (i:Nat):(T24 N).tr i=qij i:=rfl
theorem qzx (N:Nat) (i:Nat):(T24 N).lp i=qkF i:=rfl
theorem qz8 (N:Nat) (i:Nat):(T24 N).ex i=qlH i:=rfl
theorem qAT (N:Nat) (i:Nat):(T24 N).rg i=qkL i:=rfl
theorem qz7 (N:Nat) (i:Nat):(T24 N).jn i=qkM i:=rfl
theorem qEX (N:Nat):(T24 N).fuel=N:=rfl
noncomputable def qHy:Code:=cut [true,true,true,false,true,true,true] (Try.f24.body.getD .skip)
theorem qY0 {N:Nat} {Q:X→St→Option (qc [i3])} {e:List LV} {h:List Blk}:qf tt Γ24 (T24 N) qHy Q ⟨e,h⟩=qf tt Γ24 (T24 N) (cut [true,true,true,false,true,true,true] (Try.f24.body.getD .skip)) Q ⟨e,h⟩:=rfl
theorem qUP (N:Nat) (v2:List (Val qC)) {k0:Int→Option (qc [i3])} {Q:X→St→Option (qc [i3])} {c:Code} (hc:c=qHy) (hret: ∀st,Q .ret st=qN tt true [i3] [.tmp 4] st) (h0: ∀(v5:Int),Q (.exit 0) ⟨[u,.one (.int .i64 v5),u,u,u,u,u,u,u,u,u,u,u,u,u,u,u,u,u,u,u,u,u,u,u,u,u],[]⟩=k0 v5): ∀(n:Nat) (v3:Int) (v4:Int),qI (qf tt Γ24 (T24 N) c) false ql3 Q n ⟨[.one (.sl 115 qC v2 0),.one (.int .i64 v3),u,u,u,.one (.int .i64 v4),u,u,u,u,u,u,u,u,u,u,u,u,u,u,u,u,u,u,u,u,u],[]⟩=qhs N v2 k0 n v3 v4:=by
 subst hc;intro n;induction n with
 | zero=>intros;rfl
 | succ n ih=>
   intro v3 v4
   rw [qS,qY0,qhs];unfold Try.f24
   simp (maxSteps:=10000000) -implicitDefEqProofs [qBe,qij,qzx,qkF,qz8,qlH,qAT,qkL,qz7,qkM,qEX,qDW,qGt,qwu,qzZ,qvv,quc,qwF,qx3,g78,hret,h0,ih]
theorem qSZ (N:Nat) (v0:List (Val qC)) (v1:Int):qf tt Γ24 (T24 N) (Try.f24.body.getD .skip) (qo tt true [i3] [.tmp 4]) (qv [i58,i3] 27 (v0,v1,()))=m24 N v0 v1:=by
 unfold Try.f24
 simp (maxSteps:=10000000) -implicitDefEqProofs [qBe,qij,qzx,qkF,qz8,qlH,qAT,qkL,qz7,qkM,qEX,qDW,qGt,qwu,qzZ,qvv,quc,qwF,qx3,g78]
 rewrite [qUP (k0:=(fun (v6:Int)=>some (v6,()))) N _ ?_ ?_ ?_]
 ·rewrite [m24];first | rfl | simp (maxSteps:=10000000) -implicitDefEqProofs []
 ·rfl
 ·intro;simp only [qQ,qR,qT,qr]
 ·intro v6;simp (maxSteps:=10000000) -implicitDefEqProofs [qBe,qij,qzx,qkF,qz8,qlH,qAT,qkL,qz7,qkM,qEX,qDW,qGt,qwu,qzZ,qvv,quc,qwF,qx3,g78]
def g24:G:={ps:=[i58,i3],rs:=[i3],dp:=true,pre:=fun x=>qqh x.1 x.2.1,fn:=fun x=>(qj7 x.1 x.2.1,())}
theorem e24 (x:List (Val qC)) (n:Int) (h:qqh x n): ∃N,m24 N x n=some (qj7 x n,()):=⟨List.length x+1,by
 obtain ⟨hs,h0,h1⟩:=h
 rw [m24,qfz h0 h1 hs.1]
 simp only [qj7,qj6]
 by_cases c:n - (List.length x:Int)<0
 ·rw [qj c,if_pos c]
 ·rw [qh c,if_neg c]
  refine (qbA (F:=fun n i s=>qhs _ x _ n s i) (step:=fun _ y (s:Int) K=>chk (qpX y s) (bif decide (qhP y s<0)then some ((-1:Int),())else K (qhP y s))) (k:=fun s=>some (s,())) (by omega) (fun n i s hi=> ?_) (fun n i s hi=> ?_) _ _ (Nat.lt_succ_self _)).trans (qnK (t:=qC) x 0 _ (by omega) (by omega) hs.2)
  ·rw [qhs,qj (by omega),qd (by omega),qE hi]
  ·rw [qhs,qh (by omega)]⟩
theorem s24:Sound Try.prog 24 g24:=qz (tt:=tt) (Γ:=Γ24) hT (ql s78 qp) hm (fn:=Try.f24) Try.func24 (c:=Try.f24.body.getD .skip) (by kernel_rfl) (by kernel_rfl) fun x hx=>by
 obtain ⟨N,h⟩:=e24 x.1 x.2.1 hx
 exact ⟨T24 N,p24,qx _,qTj N,(qSZ N x.1 x.2.1).trans h⟩
def qem (x:Val qC):Val qa:=x
def qpR (x:Val qC):Prop:=Bd qC x
noncomputable def m81 (N:Nat) (v0:Val qC):Option (qc [qca]):=chk (qjc v0.2.1) (chk (qiD (v0.2.2.2.2.1:List (Val (.int .i64)))) (some (((v0.1:Int),(((qf5 v0.2.1).1:List (Val (.int .i64))),(((qf5 v0.2.1).2).1:Int),(((qf5 v0.2.1).2).2:Bool)),(v0.2.2.1:ByteArray),(v0.2.2.2.1:ByteArray),((qpD (v0.2.2.2.2.1:List (Val (.int .i64)))):List (Val (.int .i64))),(v0.2.2.2.2.2.1:Int),(v0.2.2.2.2.2.2.1:Int),(v0.2.2.2.2.2.2.2:Int)),())))
def Γ81:Gam:=[(17,g17),(108,qfq)]
theorem qPc:Gam.get Γ81 17=some g17:=rfl
theorem qVo:Gam.get Γ81 108=some qfq:=rfl
def qrV:Nat→Tree:=fun _=> .done
def qAt:Nat→Nm:=fun _=>⟨[],[],false⟩
def qzB:Nat→Option Jn:=fun _=>none
def qGc:Nat→Option Nm:=fun _=>none
def qBO:Nat→Option Nm:=fun _=>none
theorem p81:qm qrV (Try.f81.body.getD .skip)=true:=by kernel_rfl
def T81 (N:Nat):Tab:={tr:=qrV,lp:=qAt,ex:=qGc,rg:=qBO,jn:=qzB,fuel:=N}
theorem qYo (N:Nat):(T81 N).pins=false:=rfl
theorem qNz (N:Nat):qn Try.prog (T81 N):=qt fun _=>rfl
theorem qP4 (N:Nat) (i:Nat):(T81 N).tr i=qrV i:=rfl
theorem qTr (N:Nat) (i:Nat):(T81 N).lp i=qAt i:=rfl
theorem qYd (N:Nat) (i:Nat):(T81 N).ex i=qGc i:=rfl
theorem qUB (N:Nat) (i:Nat):(T81 N).rg i=qBO i:=rfl
theorem qVb (N:Nat) (i:Nat):(T81 N).jn i=qzB i:=rfl
theorem qT4 (N:Nat):(T81 N).fuel=N:=rfl
theorem qO8 (N:Nat) (v0:Val qC):qf tt Γ81 (T81 N) (Try.f81.body.getD .skip) (qo tt true [qca] [.cell 2 120]) (qv [qgw] 31 (v0,()))=m81 N v0:=by
 rw [m81];unfold Try.f81
 simp (maxSteps:=10000000) -implicitDefEqProofs [qP4,qrV,qTr,qAt,qYd,qGc,qUB,qBO,qVb,qzB,qT4,qYo,qPc,qVo,g17,qfq]
 try rfl
def g81:G:={ps:=[qgw],rs:=[qca],dp:=true,pre:=fun x=>qpR x.1,fn:=fun x=>(qem x.1,())}
theorem e81 (x:Val qC) (h:qpR x): ∃N,m81 N x=some (qem x,()):=⟨0,by
 obtain ⟨s0,s1,s2,s3,s4,s5,s6,s7⟩:=h
 rw [m81,qd (show qjc _ from s1),qd (show qiD _ from s4)]
 rfl⟩
theorem s81:Sound Try.prog 81 g81:=qz (tt:=tt) (Γ:=Γ81) hT (ql s17 (ql qKp qp)) hm (fn:=Try.f81) Try.func81 (c:=Try.f81.body.getD .skip) (by kernel_rfl) (by kernel_rfl) fun x hx=>by
 obtain ⟨N,h⟩:=e81 x.1 hx
 exact ⟨T81 N,p81,qx _,qNz N,(qO8 N x.1).trans h⟩
def qO (x:List (Val qC)):List (Val qa):=x
def qhr (x:List (Val qC)):Prop:=Bd (.slice 115 qC) x
noncomputable def qhu (N:Nat) (v1:List (Val qC)) (k0:(List (Val qa))→Option (qc [i65])):Nat→Int→(List (Val qa))→Option (qc [i65])
 | 0,_,_=>none
 | n+1,v2,v3=>bif (decide (v2<(v1.length:Int)))then (chk (0≤v2∧v2<(v1.length:Int)) (chk (qpR (v1.getD v2.toNat (qb qC))) (chk (0≤v2∧v2<(v3.length:Int)) (chk (v2.toNat<v3.length) (qhu N v1 k0 n (IntKind.i64.wrap (v2+(1:Int))) (v3.set v2.toNat (((qem (v1.getD v2.toNat (qb qC))).1:Int),(((((qem (v1.getD v2.toNat (qb qC))).2).1).1:List (Val (.int .i64))),(((((qem (v1.getD v2.toNat (qb qC))).2).1).2).1:Int),(((((qem (v1.getD v2.toNat (qb qC))).2).1).2).2:Bool)),((((qem (v1.getD v2.toNat (qb qC))).2).2).1:ByteArray),(((((qem (v1.getD v2.toNat (qb qC))).2).2).2).1:ByteArray),((((((qem (v1.getD v2.toNat (qb qC))).2).2).2).2).1:List (Val (.int .i64))),(((((((qem (v1.getD v2.toNat (qb qC))).2).2).2).2).2).1:Int),((((((((qem (v1.getD v2.toNat (qb qC))).2).2).2).2).2).2).1:Int),((((((((qem (v1.getD v2.toNat (qb qC))).2).2).2).2).2).2).2:Int))))))))else (k0 v3)
noncomputable def m27 (N:Nat) (v0:List (Val qC)):Option (qc [i65]):=chk (0≤(v0.length:Int)∧(v0.length:Int)≤(v0.length:Int)∧(v0.length:Int)≤1048576) (qhu N v0 (fun (v5:List (Val qa))=>some (v5,())) N (0:Int) (List.replicate (v0.length:Int).toNat (qb qa)))
def Γ27:Gam:=[(81,g81)]
theorem qtJ:Gam.get Γ27 81=some g81:=rfl
def qk7:Nm:=⟨[true,false,false,true,true],[],false⟩
theorem qDX:qk7.zero=false:=rfl
theorem qvj:qk7.fix=[]:=rfl
theorem qCP:qk7.keep=[true,false,false,true,true]:=rfl
def qqo:Nm:=⟨[false,false,false,true],[],false⟩
theorem qDz:qqo.zero=false:=rfl
theorem qt6:qqo.fix=[]:=rfl
theorem qwH:qqo.keep=[false,false,false,true]:=rfl
def qjF:Nat→Tree:=fun _=> .done
def qk4:Nat→Nm:=fun i=>if i=3 then qk7 else ⟨[],[],false⟩
def qlB:Nat→Option Jn:=fun _=>none
def qkU:Nat→Option Nm:=fun i=>if i=0 then some qqo else none
def qlI:Nat→Option Nm:=fun _=>none
theorem p27:qm qjF (Try.f27.body.getD .skip)=true:=by kernel_rfl
def T27 (N:Nat):Tab:={tr:=qjF,lp:=qk4,ex:=qkU,rg:=qlI,jn:=qlB,fuel:=N}
theorem quk (N:Nat):(T27 N).pins=false:=rfl
theorem qX8 (N:Nat):qn Try.prog (T27 N):=qt fun _=>rfl
theorem qEo (N:Nat) (i:Nat):(T27 N).tr i=qjF i:=rfl
theorem qAW (N:Nat) (i:Nat):(T27 N).lp i=qk4 i:=rfl
theorem qvx (N:Nat) (i:Nat):(T27 N).ex i=qkU i:=rfl
theorem qAL (N:Nat) (i:Nat):(T27 N).rg i=qlI i:=rfl
theorem qDO (N:Nat) (i:Nat):(T27 N).jn i=qlB i:=rfl
theorem qw1 (N:Nat):(T27 N).fuel=N:=rfl
noncomputable def qH6:Code:=cut [true,true,false,true,true,true] (Try.f27.body.getD .skip)
theorem qYU {N:Nat} {Q:X→St→Option (qc [i65])} {e:List LV} {h:List Blk}:qf tt Γ27 (T27 N) qH6 Q ⟨e,h⟩=qf tt Γ27 (T27 N) (cut [true,true,false,true,true,true] (Try.f27.body.getD .skip)) Q ⟨e,h⟩:=rfl
theorem qRy (N:Nat) (v1:List (Val qC)) {k0:(List (Val qa))→Option (qc [i65])} {Q:X→St→Option (qc [i65])} {c:Code} (hc:c=qH6) (hret: ∀st,Q .ret st=qN tt true [i65] [.tmp 2] st) (h0: ∀(v4:List (Val qa)),Q (.exit 0) ⟨[u,u,u,.one (.own 0),u,u,u,u,u,u,u,u,u,u,u,u,u,u,u,u,u,u,u],[.row 120 qa v4 true true 0]⟩=k0 v4): ∀(n:Nat) (v2:Int) (v3:List (Val qa)),qI (qf tt Γ27 (T27 N) c) false qk7 Q n ⟨[.one (.sl 115 qC v1 1),u,u,.one (.own 0),.one (.int .i64 v2),u,u,u,u,u,u,u,u,u,u,u,u,u,u,u,u,u,u],[.row 120 qa v3 true true 0]⟩=qhu N v1 k0 n v2 v3:=by
 subst hc;intro n;induction n with
 | zero=>intros;rfl
 | succ n ih=>
   intro v2 v3
   rw [qS,qYU,qhu];unfold Try.f27
   simp (maxSteps:=10000000) -implicitDefEqProofs [qEo,qjF,qAW,qk4,qvx,qkU,qAL,qlI,qDO,qlB,qw1,quk,qvj,qCP,qDX,qt6,qwH,qDz,qtJ,g81,hret,h0,ih]
theorem qOb (N:Nat) (v0:List (Val qC)):qf tt Γ27 (T27 N) (Try.f27.body.getD .skip) (qo tt true [i65] [.tmp 2]) (qv [i58] 23 (v0,()))=m27 N v0:=by
 unfold Try.f27
 simp (maxSteps:=10000000) -implicitDefEqProofs [qEo,qjF,qAW,qk4,qvx,qkU,qAL,qlI,qDO,qlB,qw1,quk,qvj,qCP,qDX,qt6,qwH,qDz,qtJ,g81]
 rewrite [qRy (k0:=(fun (v5:List (Val qa))=>some (v5,()))) N _ ?_ ?_ ?_]
 ·rewrite [m27];first | rfl | simp (maxSteps:=10000000) -implicitDefEqProofs []
 ·rfl
 ·intro;simp only [qQ,qR,qT,qr]
 ·intro v5;simp (maxSteps:=10000000) -implicitDefEqProofs [qEo,qjF,qAW,qk4,qvx,qkU,qAL,qlI,qDO,qlB,qw1,quk,qvj,qCP,qDX,qt6,qwH,qDz,qtJ,g81]
def g27:G:={ps:=[i58],rs:=[i65],dp:=true,pre:=fun x=>qhr x.1,fn:=fun x=>(qO x.1,())}
theorem e27 (x:List (Val qC)) (h:qhr x): ∃N,m27 N x=some (qO x,()):=⟨List.length x+1,by
 rw [m27,qd (qiv h.1),Int.toNat_natCast]
 refine qjJ (F:=fun n i s=>qhu _ x _ n i s) (k:=fun s=>some (s,())) (qb qa) h.1 (fun n i s hi hl=> ?_) (fun n i s hi=> ?_) _ (Nat.lt_succ_self _)
 ·rw [qhu,qj (by omega),qd (by omega),qd (show qpR _ from by rw [qE hi];exact h.2 _ (List.getElem_mem hi)),qE hi,qd (by omega),qd (by omega)]
  rfl
 ·rw [qhu,qh (by omega)]⟩
theorem s27:Sound Try.prog 27 g27:=qz (tt:=tt) (Γ:=Γ27) hT (ql s81 qp) hm (fn:=Try.f27) Try.func27 (c:=Try.f27.body.getD .skip) (by kernel_rfl) (by kernel_rfl) fun x hx=>by
 obtain ⟨N,h⟩:=e27 x.1 hx
 exact ⟨T27 N,p27,qx _,qX8 N,(qOb N x.1).trans h⟩
def qA5 (x y:Val qa):Bool:=eqV qa x y
def qq9 (x _:Val qa):Prop:=Bd qa x
noncomputable def m85 (N:Nat) (v0:Val qa) (v1:Val qa):Option (qc [i4]):=bif (!(decide ((v0.1:Int)=(v1.1:Int))))then (some (false,()))else (chk (qif v0.2.1 v1.2.1) (bif (!((qlV v0.2.1 v1.2.1):Bool))then (some (false,()))else (bif (!(ByteArray.toList (v0.2.2.1:ByteArray)==ByteArray.toList (v1.2.2.1:ByteArray)))then (some (false,()))else (bif (!(ByteArray.toList (v0.2.2.2.1:ByteArray)==ByteArray.toList (v1.2.2.2.1:ByteArray)))then (some (false,()))else (chk (qiN (v0.2.2.2.2.1:List (Val (.int .i64))) (v1.2.2.2.2.1:List (Val (.int .i64)))) (bif (!((qgP (v0.2.2.2.2.1:List (Val (.int .i64))) (v1.2.2.2.2.1:List (Val (.int .i64)))):Bool))then (some (false,()))else (bif (!(decide ((v0.2.2.2.2.2.1:Int)=(v1.2.2.2.2.2.1:Int))))then (some (false,()))else (bif (!(decide ((v0.2.2.2.2.2.2.1:Int)=(v1.2.2.2.2.2.2.1:Int))))then (some (false,()))else (bif (!(decide ((v0.2.2.2.2.2.2.2:Int)=(v1.2.2.2.2.2.2.2:Int))))then (some (false,()))else (some (true,())))))))))))
def Γ85:Gam:=[(21,g21),(115,qfK)]
theorem qVj:Gam.get Γ85 21=some g21:=rfl
theorem qYG:Gam.get Γ85 115=some qfK:=rfl
def qqH:Nat→Tree:=fun _=> .done
def qAM:Nat→Nm:=fun _=>⟨[],[],false⟩
def qDa:Nat→Option Jn:=fun _=>none
def qEB:Nat→Option Nm:=fun _=>none
def qEz:Nat→Option Nm:=fun _=>none
theorem p85:qm qqH (Try.f85.body.getD .skip)=true:=by kernel_rfl
def T85 (N:Nat):Tab:={tr:=qqH,lp:=qAM,ex:=qEB,rg:=qEz,jn:=qDa,fuel:=N}
theorem qRp (N:Nat):(T85 N).pins=false:=rfl
theorem qT8 (N:Nat):qn Try.prog (T85 N):=qt fun _=>rfl
theorem qVk (N:Nat) (i:Nat):(T85 N).tr i=qqH i:=rfl
theorem qYA (N:Nat) (i:Nat):(T85 N).lp i=qAM i:=rfl
theorem qOx (N:Nat) (i:Nat):(T85 N).ex i=qEB i:=rfl
theorem qYx (N:Nat) (i:Nat):(T85 N).rg i=qEz i:=rfl
theorem qQX (N:Nat) (i:Nat):(T85 N).jn i=qDa i:=rfl
theorem qSp (N:Nat):(T85 N).fuel=N:=rfl
theorem qQY (N:Nat) (v0:Val qa) (v1:Val qa):qf tt Γ85 (T85 N) (Try.f85.body.getD .skip) (qo tt true [i4] [.tmp 4]) (qv [qca,qca] 47 (v0,v1,()))=m85 N v0 v1:=by
 rw [m85];unfold Try.f85
 simp (maxSteps:=10000000) -implicitDefEqProofs [qVk,qqH,qYA,qAM,qOx,qEB,qYx,qEz,qQX,qDa,qSp,qRp,qVj,qYG,g21,qfK]
 try rfl
def g85:G:={ps:=[qca,qca],rs:=[i4],dp:=true,pre:=fun x=>qq9 x.1 x.2.1,fn:=fun x=>(qA5 x.1 x.2.1,())}
theorem e85 (x y:Val qa) (h:qq9 x y): ∃N,m85 N x y=some (qA5 x y,()):=⟨0,by
 obtain ⟨s0,s1,s2,s3,s4,s5,s6,s7⟩:=h
 rw [m85,qd (show qif _ _ from s1),qd (show qiN _ _ from s4)]
 obtain ⟨x0,x1,x2,x3,x4,x5,x6,x7⟩:=x
 obtain ⟨y0,y1,y2,y3,y4,y5,y6,y7⟩:=y
 change _=some ((eqV (.int .i64) x0 y0&&(eqV Y83 x1 y1&&(eqV .str x2 y2&&(eqV .str x3 y3&&(eqV (.slice 3 (.int .i64)) x4 y4&&(eqV (.int .i64) x5 y5&&(eqV (.int .i64) x6 y6&&eqV (.int .i64) x7 y7))))))),())
 simp only [qL]
 show _=_
 generalize he0:eqV (.int .i64) x0 y0=e0
 have hd0:decide ((x0:Int)=y0)=e0:=he0
 generalize he1:eqV Y83 x1 y1=e1
 have hd1:qlV x1 y1=e1:=he1
 generalize he2:eqV .str x2 y2=e2
 have hd2:(ByteArray.toList x2==ByteArray.toList y2)=e2:=he2
 generalize he3:eqV .str x3 y3=e3
 have hd3:(ByteArray.toList x3==ByteArray.toList y3)=e3:=he3
 generalize he4:eqV (.slice 3 (.int .i64)) x4 y4=e4
 have hd4:qgP x4 y4=e4:=he4
 generalize he5:eqV (.int .i64) x5 y5=e5
 have hd5:decide ((x5:Int)=y5)=e5:=he5
 generalize he6:eqV (.int .i64) x6 y6=e6
 have hd6:decide ((x6:Int)=y6)=e6:=he6
 generalize he7:eqV (.int .i64) x7 y7=e7
 have hd7:decide ((x7:Int)=y7)=e7:=he7
 simp only [hd0,hd1,hd2,hd3,hd4,hd5,hd6,hd7]
 cases e0<;>cases e1<;>cases e2<;>cases e3<;>cases e4<;>cases e5<;>cases e6<;>cases e7<;>rfl⟩
theorem s85:Sound Try.prog 85 g85:=qz (tt:=tt) (Γ:=Γ85) hT (ql s21 (ql qKx qp)) hm (fn:=Try.f85) Try.func85 (c:=Try.f85.body.getD .skip) (by kernel_rfl) (by kernel_rfl) fun x hx=>by
 obtain ⟨N,h⟩:=e85 x.1 x.2.1 hx
 exact ⟨T85 N,p85,qx _,qT8 N,(qQY N x.1 x.2.1).trans h⟩
def qfH (x y:List (Val qa)):Bool:=eqV (.slice 120 qa) x y
def qga (x _:List (Val qa)):Prop:=Bd (.slice 120 qa) x
noncomputable def qgS (N:Nat) (v2:List (Val qa)) (v3:List (Val qa)) (k0:Unit→Option (qc [i4])):Nat→Int→Option (qc [i4])
 | 0,_=>none
 | n+1,v4=>bif (decide (v4<(v2.length:Int)))then (chk (0≤v4∧v4<(v2.length:Int)) (chk (0≤v4∧v4<(v3.length:Int)) (chk (qq9 (v2.getD v4.toNat (qb qa)) (v3.getD v4.toNat (qb qa))) (bif (!((qA5 (v2.getD v4.toNat (qb qa)) (v3.getD v4.toNat (qb qa))):Bool))then (some (false,()))else (qgS N v2 v3 k0 n (IntKind.i64.wrap (v4+(1:Int))))))))else (k0 ())
noncomputable def m30 (N:Nat) (v0:List (Val qa)) (v1:List (Val qa)):Option (qc [i4]):=bif (!(decide ((v0.length:Int)=(v1.length:Int))))then (some (false,()))else (qgS N v0 v1 (fun (_:Unit)=>some (true,())) N (0:Int))
def Γ30:Gam:=[(85,g85)]
theorem qyi:Gam.get Γ30 85=some g85:=rfl
def qop:Nm:=⟨[true,true,false,false,false,true],[],false⟩
theorem qCY:qop.zero=false:=rfl
theorem qs2:qop.fix=[]:=rfl
theorem qE3:qop.keep=[true,true,false,false,false,true]:=rfl
def qr2:Nm:=⟨[],[],false⟩
theorem qAv:qr2.zero=false:=rfl
theorem qFD:qr2.fix=[]:=rfl
theorem quh:qr2.keep=[]:=rfl
def qiW:Nat→Tree:=fun i=>if i=6 then .quiet 0 (.quiet 1 (.quiet 2 (.quiet 3 (.quiet 4 (.quiet 5 (.quiet 6 (.quiet 7 (.alt 8 (.quiet 9 .done) .stop))))))))else .done
def qor:Nat→Nm:=fun i=>if i=4 then qop else ⟨[],[],false⟩
def qlw:Nat→Option Jn:=fun _=>none
def qkw:Nat→Option Nm:=fun i=>if i=0 then some qr2 else none
def qmq:Nat→Option Nm:=fun _=>none
theorem p30:qm qiW (Try.f30.body.getD .skip)=true:=by kernel_rfl
def T30 (N:Nat):Tab:={tr:=qiW,lp:=qor,ex:=qkw,rg:=qmq,jn:=qlw,fuel:=N}
theorem qCq (N:Nat):(T30 N).pins=false:=rfl
theorem qTX (N:Nat):qn Try.prog (T30 N):=qt fun _=>rfl
theorem qEb (N:Nat) (i:Nat):(T30 N).tr i=qiW i:=rfl
theorem qzW (N:Nat) (i:Nat):(T30 N).lp i=qor i:=rfl
theorem qBc (N:Nat) (i:Nat):(T30 N).ex i=qkw i:=rfl
theorem qCC (N:Nat) (i:Nat):(T30 N).rg i=qmq i:=rfl
theorem qAN (N:Nat) (i:Nat):(T30 N).jn i=qlw i:=rfl
theorem qxK (N:Nat):(T30 N).fuel=N:=rfl
noncomputable def qJJ:Code:=cut [true,true,false,true,true,true] (Try.f30.body.getD .skip)
theorem qKY {N:Nat} {Q:X→St→Option (qc [i4])} {e:List LV} {h:List Blk}:qf tt Γ30 (T30 N) qJJ Q ⟨e,h⟩=qf tt Γ30 (T30 N) (cut [true,true,false,true,true,true] (Try.f30.body.getD .skip)) Q ⟨e,h⟩:=rfl
theorem qM1 (N:Nat) (v2:List (Val qa)) (v3:List (Val qa)) {k0:Unit→Option (qc [i4])} {Q:X→St→Option (qc [i4])} {c:Code} (hc:c=qJJ) (hret: ∀st,Q .ret st=qN tt true [i4] [.tmp 4] st) (h0:Q (.exit 0) ⟨[u,u,u,u,u,u,u,u,u,u,u,u,u,u,u,u,u,u,u,u,u,u,u,u,u,u,u],[]⟩=k0 ()): ∀(n:Nat) (v4:Int),qI (qf tt Γ30 (T30 N) c) false qop Q n ⟨[.one (.sl 120 qa v2 0),.one (.sl 120 qa v3 0),u,u,u,.one (.int .i64 v4),u,u,u,u,u,u,u,u,u,u,u,u,u,u,u,u,u,u,u,u,u],[]⟩=qgS N v2 v3 k0 n v4:=by
 subst hc;intro n;induction n with
 | zero=>intros;rfl
 | succ n ih=>
   intro v4
   rw [qS,qKY,qgS];unfold Try.f30
   simp (maxSteps:=10000000) -implicitDefEqProofs [qEb,qiW,qzW,qor,qBc,qkw,qCC,qmq,qAN,qlw,qxK,qCq,qs2,qE3,qCY,qFD,quh,qAv,qyi,g85,hret,h0,ih]
theorem qXl (N:Nat) (v0:List (Val qa)) (v1:List (Val qa)):qf tt Γ30 (T30 N) (Try.f30.body.getD .skip) (qo tt true [i4] [.tmp 4]) (qv [i65,i65] 27 (v0,v1,()))=m30 N v0 v1:=by
 unfold Try.f30
 simp (maxSteps:=10000000) -implicitDefEqProofs [qEb,qiW,qzW,qor,qBc,qkw,qCC,qmq,qAN,qlw,qxK,qCq,qs2,qE3,qCY,qFD,quh,qAv,qyi,g85]
 rewrite [qM1 (k0:=(fun (_:Unit)=>some (true,()))) N _ _ ?_ ?_ ?_]
 ·rewrite [m30];first | rfl | simp (maxSteps:=10000000) -implicitDefEqProofs []
 ·rfl
 ·intro;simp only [qQ,qR,qT,qr]
 ·simp (maxSteps:=10000000) -implicitDefEqProofs [qEb,qiW,qzW,qor,qBc,qkw,qCC,qmq,qAN,qlw,qxK,qCq,qs2,qE3,qCY,qFD,quh,qAv,qyi,g85]
def g30:G:={ps:=[i65,i65],rs:=[i4],dp:=true,pre:=fun x=>qga x.1 x.2.1,fn:=fun x=>(qfH x.1 x.2.1,())}
theorem e30 (x y:List (Val qa)) (h:qga x y): ∃N,m30 N x y=some (qfH x y,()):=⟨List.length x+1,by
 rw [m30,qL]
 rw [qfH,eqS]
 by_cases c:List.length x=List.length y
 ·rw [qj (by omega)]
  refine (qm6 (f:=eqV qa) (xs:=x) (ys:=y) (F:=fun n i=>qgS _ x y _ n i) (k:=fun _=>some (true,())) (r:=some (false,())) h.1 c (fun n i hi hi2=> ?_) (fun n i hi=> ?_) _ (Nat.lt_succ_self _)).trans qii
  ·rw [qgS,qj (by omega),qd (by omega),qd (by omega),qd (show qq9 _ _ from by rw [qE hi];exact h.2 _ (List.getElem_mem hi)),qE hi,qE hi2,qL]
   rfl
  ·rw [qgS,qh (by omega)]
 ·rw [qh (by omega),qib _ _ c]⟩
theorem s30:Sound Try.prog 30 g30:=qz (tt:=tt) (Γ:=Γ30) hT (ql s85 qp) hm (fn:=Try.f30) Try.func30 (c:=Try.f30.body.getD .skip) (by kernel_rfl) (by kernel_rfl) fun x hx=>by
 obtain ⟨N,h⟩:=e30 x.1 x.2.1 hx
 exact ⟨T30 N,p30,qx _,qTX N,(qXl N x.1 x.2.1).trans h⟩
end Go.T
