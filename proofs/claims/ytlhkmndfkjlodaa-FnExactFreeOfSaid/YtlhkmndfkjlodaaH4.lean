/- Sizes, copies and equality of formulas. -/
import Derived.Test.YtlhkmndfkjlodaaA4
set_option linter.unusedSimpArgs false
set_option linter.unusedVariables false
namespace Go.T
open Go Go.Proofs
set_option maxHeartbeats 4000000
set_option maxRecDepth 100000
def qiE (x:Val qB) (n:Int):Int:=szV qB x n
def qqp (x:Val qB) (n:Int):Prop:=qfc qB x n
noncomputable def m78 (N:Nat) (v0:Val qB) (v1:Int):Option (qc [i3]):=chk (qjv v0.2.1 v1) (bif (decide (((qab v0.2.1 v1):Int)<(0:Int)))then (some ((-1:Int),()))else (bif (decide ((IntKind.i64.wrap (((qab v0.2.1 v1):Int) - ((v0.2.2.1:ByteArray).size:Int)))<(0:Int)))then (some ((-1:Int),()))else (bif (decide ((IntKind.i64.wrap ((IntKind.i64.wrap (((qab v0.2.1 v1):Int) - ((v0.2.2.1:ByteArray).size:Int))) - ((v0.2.2.2.1:ByteArray).size:Int)))<(0:Int)))then (some ((-1:Int),()))else (chk (qjz (v0.2.2.2.2.1:List (Val (.int .i64))) (IntKind.i64.wrap ((IntKind.i64.wrap (((qab v0.2.1 v1):Int) - ((v0.2.2.1:ByteArray).size:Int))) - ((v0.2.2.2.1:ByteArray).size:Int)))) (bif (decide (((qcG (v0.2.2.2.2.1:List (Val (.int .i64))) (IntKind.i64.wrap ((IntKind.i64.wrap (((qab v0.2.1 v1):Int) - ((v0.2.2.1:ByteArray).size:Int))) - ((v0.2.2.2.1:ByteArray).size:Int)))):Int)<(0:Int)))then (some ((-1:Int),()))else (some (((qcG (v0.2.2.2.2.1:List (Val (.int .i64))) (IntKind.i64.wrap ((IntKind.i64.wrap (((qab v0.2.1 v1):Int) - ((v0.2.2.1:ByteArray).size:Int))) - ((v0.2.2.2.1:ByteArray).size:Int)))):Int),())))))))
def Γ78:Gam:=[(54,g54),(101,qgq)]
theorem qVU:Gam.get Γ78 54=some g54:=rfl
theorem qPl:Gam.get Γ78 101=some qgq:=rfl
def qrp:Nat→Tree:=fun _=> .done
def qDl:Nat→Nm:=fun _=>⟨[],[],false⟩
def qxL:Nat→Option Jn:=fun _=>none
def qCL:Nat→Option Nm:=fun _=>none
def qwh:Nat→Option Nm:=fun _=>none
theorem p78:qn qrp (Try.f78.body.getD .skip)=true:=by kernel_rfl
def T78 (N:Nat):Tab:={tr:=qrp,lp:=qDl,ex:=qCL,rg:=qwh,jn:=qxL,fuel:=N}
theorem qTh (N:Nat):(T78 N).pins=false:=rfl
theorem qPm (N:Nat):qp Try.prog (T78 N):=qw fun _=>rfl
theorem qSl (N:Nat) (i:Nat):(T78 N).tr i=qrp i:=rfl
theorem qRp (N:Nat) (i:Nat):(T78 N).lp i=qDl i:=rfl
theorem qJW (N:Nat) (i:Nat):(T78 N).ex i=qCL i:=rfl
theorem qJP (N:Nat) (i:Nat):(T78 N).rg i=qwh i:=rfl
theorem qOz (N:Nat) (i:Nat):(T78 N).jn i=qxL i:=rfl
theorem qSn (N:Nat):(T78 N).fuel=N:=rfl
theorem qPn (N:Nat) (v0:Val qB) (v1:Int):qe tt Γ78 (T78 N) (Try.f78.body.getD .skip) (qr tt true [i3] [.tmp 4]) (qv [qg5,i3] 32 (v0,v1,()))=m78 N v0 v1:=by
 rw [m78];unfold Try.f78
 simp (maxSteps:=10000000) -implicitDefEqProofs [qSl,qrp,qRp,qDl,qJW,qCL,qJP,qwh,qOz,qxL,qSn,qTh,qVU,qPl,g54,qgq]
 try rfl
def g78:G:={ps:=[qg5,i3],rs:=[i3],dp:=true,pre:=fun x=>qqp x.1 x.2.1,fn:=fun x=>(qiE x.1 x.2.1,())}
theorem e78 (x:Val qB) (n:Int) (h:qqp x n): ∃N,m78 N x n=some (qiE x n,()):=⟨0,by
 obtain ⟨x0,x1,x2,x3,x4,x5,x6,x7⟩:=x
 obtain ⟨hs,h0,h1⟩:=h
 obtain ⟨s0,s1,s2,s3,s4,s5,s6,s7⟩:=hs
 rw [m78,qiE]
 dsimp only
 rw [qju h0]
 rw [qd (show qjv x1 n from ⟨s1,h0,h1⟩)]
 by_cases c1:qab x1 n<0
 ·rw [qj c1,qu8 (show szV qH x1 n<0 from c1)]
 ·have h01:0≤qab x1 n:=by omega
  have h11:qab x1 n≤1048576:=Int.le_trans (qcp qH x1 n h0).1 h1
  rw [qh c1,qsf (show 0≤szV qH x1 n from h01)]
  change _=some (szV (.pair .str (.pair .str (.pair (.slice 3 (.int .i64)) (.pair (.int .i64) (.pair (.int .i64) (.int .i64)))))) _ (qab x1 n),())
  rw [qf7 h01 h11 s2]
  by_cases c2:(qab x1 n) - (ByteArray.size x2:Int)<0
  ·rw [qj c2,qq8 c2]
  ·rw [qh c2,qro (by omega)]
   have h02:0≤((qab x1 n) - (ByteArray.size x2:Int)):=by omega
   have h12:((qab x1 n) - (ByteArray.size x2:Int))≤1048576:=by omega
   rw [qf7 h02 h12 s3]
   by_cases c3:((qab x1 n) - (ByteArray.size x2:Int)) - (ByteArray.size x3:Int)<0
   ·rw [qj c3,qq8 c3]
   ·rw [qh c3,qro (by omega)]
    have h03:0≤(((qab x1 n) - (ByteArray.size x2:Int)) - (ByteArray.size x3:Int)):=by omega
    have h13:(((qab x1 n) - (ByteArray.size x2:Int)) - (ByteArray.size x3:Int))≤1048576:=by omega
    rw [qd (show qjz x4 (((qab x1 n) - (ByteArray.size x2:Int)) - (ByteArray.size x3:Int)) from ⟨s4,h03,h13⟩)]
    by_cases c4:qcG x4 (((qab x1 n) - (ByteArray.size x2:Int)) - (ByteArray.size x3:Int))<0
    ·rw [qj c4,qu8 (show szV (.slice 3 (.int .i64)) x4 (((qab x1 n) - (ByteArray.size x2:Int)) - (ByteArray.size x3:Int))<0 from c4)]
    ·have h04:0≤qcG x4 (((qab x1 n) - (ByteArray.size x2:Int)) - (ByteArray.size x3:Int)):=by omega
     have h14:qcG x4 (((qab x1 n) - (ByteArray.size x2:Int)) - (ByteArray.size x3:Int))≤1048576:=Int.le_trans (qcp (.slice 3 (.int .i64)) x4 (((qab x1 n) - (ByteArray.size x2:Int)) - (ByteArray.size x3:Int)) h03).1 h13
     rw [qh c4,qsf (show 0≤szV (.slice 3 (.int .i64)) x4 (((qab x1 n) - (ByteArray.size x2:Int)) - (ByteArray.size x3:Int)) from h04)]
     change _=some (szV (.pair (.int .i64) (.pair (.int .i64) (.int .i64))) _ (qcG x4 (((qab x1 n) - (ByteArray.size x2:Int)) - (ByteArray.size x3:Int))),())
     rw [qju h04]
     rw [qju h04]
     rfl⟩
theorem s78:Sound Try.prog 78 g78:=qz (tt:=tt) (Γ:=Γ78) hT (ql s54 (ql qFM qt)) hm (fn:=Try.f78) Try.func78 (c:=Try.f78.body.getD .skip) (by kernel_rfl) (by kernel_rfl) fun x hx=>by
 obtain ⟨N,h⟩:=e78 x.1 x.2.1 hx
 exact ⟨T78 N,p78,qy _,qPm N,(qPn N x.1 x.2.1).trans h⟩
def qkL (x:List (Val qB)) (n:Int):Int:=szV (.slice 115 qB) x n
def qqI (x:List (Val qB)) (n:Int):Prop:=qfc (.slice 115 qB) x n
noncomputable def qia (N:Nat) (v2:List (Val qB)) (k0:Int→Option (qc [i3])):Nat→Int→Int→Option (qc [i3])
 | 0,_,_=>none
 | n+1,v3,v4=>bif (decide (v4<(v2.length:Int)))then (chk (0≤v4∧v4<(v2.length:Int)) (chk (qqp (v2.getD v4.toNat (qa qB)) v3) (bif (decide (((qiE (v2.getD v4.toNat (qa qB)) v3):Int)<(0:Int)))then (some ((-1:Int),()))else (qia N v2 k0 n ((qiE (v2.getD v4.toNat (qa qB)) v3):Int) (IntKind.i64.wrap (v4+(1:Int)))))))else (k0 v3)
noncomputable def m24 (N:Nat) (v0:List (Val qB)) (v1:Int):Option (qc [i3]):=bif (decide ((IntKind.i64.wrap (v1 - (v0.length:Int)))<(0:Int)))then (some ((-1:Int),()))else (qia N v0 (fun (v6:Int)=>some (v6,())) N (IntKind.i64.wrap (v1 - (v0.length:Int))) (0:Int))
def Γ24:Gam:=[(78,g78)]
theorem qxR:Gam.get Γ24 78=some g78:=rfl
def qmC:Nm:=⟨[true,true,false,false,false,true],[],false⟩
theorem qzt:qmC.zero=false:=rfl
theorem qFa:qmC.fix=[]:=rfl
theorem qwp:qmC.keep=[true,true,false,false,false,true]:=rfl
def qpH:Nm:=⟨[false,true],[],false⟩
theorem qwz:qpH.zero=false:=rfl
theorem qvx:qpH.fix=[]:=rfl
theorem qul:qpH.keep=[false,true]:=rfl
def qi9:Nat→Tree:=fun _=> .done
def qlj:Nat→Nm:=fun i=>if i=5 then qmC else ⟨[],[],false⟩
def qlp:Nat→Option Jn:=fun _=>none
def qmk:Nat→Option Nm:=fun i=>if i=0 then some qpH else none
def qlo:Nat→Option Nm:=fun _=>none
theorem p24:qn qi9 (Try.f24.body.getD .skip)=true:=by kernel_rfl
def T24 (N:Nat):Tab:={tr:=qi9,lp:=qlj,ex:=qmk,rg:=qlo,jn:=qlp,fuel:=N}
theorem qCR (N:Nat):(T24 N).pins=false:=rfl
theorem qQH (N:Nat):qp Try.prog (T24 N):=qw fun _=>rfl
theorem qAB (N:Nat) (i:Nat):(T24 N).tr i=qi9 i:=rfl
theorem qy9 (N:Nat) (i:Nat):(T24 N).lp i=qlj i:=rfl
theorem qzB (N:Nat) (i:Nat):(T24 N).ex i=qmk i:=rfl
theorem qAh (N:Nat) (i:Nat):(T24 N).rg i=qlo i:=rfl
theorem qzA (N:Nat) (i:Nat):(T24 N).jn i=qlp i:=rfl
theorem qDL (N:Nat):(T24 N).fuel=N:=rfl
noncomputable def qF8:Code:=cut [true,true,true,false,true,true,true] (Try.f24.body.getD .skip)
theorem qVA {N:Nat} {Q:X→St→Option (qc [i3])} {e:List LV} {h:List Blk}:qe tt Γ24 (T24 N) qF8 Q ⟨e,h⟩=qe tt Γ24 (T24 N) (cut [true,true,true,false,true,true,true] (Try.f24.body.getD .skip)) Q ⟨e,h⟩:=rfl
theorem qRZ (N:Nat) (v2:List (Val qB)) {k0:Int→Option (qc [i3])} {Q:X→St→Option (qc [i3])} {c:Code} (hc:c=qF8) (hret: ∀st,Q .ret st=qI tt true [i3] [.tmp 4] st) (h0: ∀(v5:Int),Q (.exit 0) ⟨[u,.one (.int .i64 v5),u,u,u,u,u,u,u,u,u,u,u,u,u,u,u,u,u,u,u,u,u,u,u,u,u],[]⟩=k0 v5): ∀(n:Nat) (v3:Int) (v4:Int),qC (qe tt Γ24 (T24 N) c) false qmC Q n ⟨[.one (.sl 115 qB v2 0),.one (.int .i64 v3),u,u,u,.one (.int .i64 v4),u,u,u,u,u,u,u,u,u,u,u,u,u,u,u,u,u,u,u,u,u],[]⟩=qia N v2 k0 n v3 v4:=by
 subst hc;intro n;induction n with
 | zero=>intros;rfl
 | succ n ih=>
   intro v3 v4
   rw [qM,qVA,qia];unfold Try.f24
   simp (maxSteps:=10000000) -implicitDefEqProofs [qAB,qi9,qy9,qlj,qzB,qmk,qAh,qlo,qzA,qlp,qDL,qCR,qFa,qwp,qzt,qvx,qul,qwz,qxR,g78,hret,h0,ih]
theorem qQt (N:Nat) (v0:List (Val qB)) (v1:Int):qe tt Γ24 (T24 N) (Try.f24.body.getD .skip) (qr tt true [i3] [.tmp 4]) (qv [i58,i3] 27 (v0,v1,()))=m24 N v0 v1:=by
 unfold Try.f24
 simp (maxSteps:=10000000) -implicitDefEqProofs [qAB,qi9,qy9,qlj,qzB,qmk,qAh,qlo,qzA,qlp,qDL,qCR,qFa,qwp,qzt,qvx,qul,qwz,qxR,g78]
 rewrite [qRZ (k0:=(fun (v6:Int)=>some (v6,()))) N _ ?_ ?_ ?_]
 ·rewrite [m24];first | rfl | simp (maxSteps:=10000000) -implicitDefEqProofs []
 ·rfl
 ·intro;simp only [qK,qL,qN,qm]
 ·intro v6;simp (maxSteps:=10000000) -implicitDefEqProofs [qAB,qi9,qy9,qlj,qzB,qmk,qAh,qlo,qzA,qlp,qDL,qCR,qFa,qwp,qzt,qvx,qul,qwz,qxR,g78]
def g24:G:={ps:=[i58,i3],rs:=[i3],dp:=true,pre:=fun x=>qqI x.1 x.2.1,fn:=fun x=>(qkL x.1 x.2.1,())}
theorem e24 (x:List (Val qB)) (n:Int) (h:qqI x n): ∃N,m24 N x n=some (qkL x n,()):=⟨List.length x+1,by
 obtain ⟨hs,h0,h1⟩:=h
 rw [m24,qf7 h0 h1 hs.1]
 simp only [qkL,qkK]
 by_cases c:n - (List.length x:Int)<0
 ·rw [qj c,if_pos c]
 ·rw [qh c,if_neg c]
  refine (qam (F:=fun n i s=>qia _ x _ n s i) (step:=fun _ y (s:Int) K=>chk (qqp y s) (bif decide (qiE y s<0)then some ((-1:Int),())else K (qiE y s))) (k:=fun s=>some (s,())) (by omega) (fun n i s hi=> ?_) (fun n i s hi=> ?_) _ _ (Nat.lt_succ_self _)).trans (qoj (t:=qB) x 0 _ (by omega) (by omega) hs.2)
  ·rw [qia,qj (by omega),qd (by omega),qA hi]
  ·rw [qia,qh (by omega)]⟩
theorem s24:Sound Try.prog 24 g24:=qz (tt:=tt) (Γ:=Γ24) hT (ql s78 qt) hm (fn:=Try.f24) Try.func24 (c:=Try.f24.body.getD .skip) (by kernel_rfl) (by kernel_rfl) fun x hx=>by
 obtain ⟨N,h⟩:=e24 x.1 x.2.1 hx
 exact ⟨T24 N,p24,qy _,qQH N,(qQt N x.1 x.2.1).trans h⟩
def qeS (x:Val qB):Val qb:=x
def qqh (x:Val qB):Prop:=Bd qB x
noncomputable def m81 (N:Nat) (v0:Val qB):Option (qc [qcq]):=chk (qjS v0.2.1) (chk (qjs (v0.2.2.2.2.1:List (Val (.int .i64)))) (some (((v0.1:Int),(((qgA v0.2.1).1:List (Val (.int .i64))),(((qgA v0.2.1).2).1:Int),(((qgA v0.2.1).2).2:Bool)),(v0.2.2.1:ByteArray),(v0.2.2.2.1:ByteArray),((qp5 (v0.2.2.2.2.1:List (Val (.int .i64)))):List (Val (.int .i64))),(v0.2.2.2.2.2.1:Int),(v0.2.2.2.2.2.2.1:Int),(v0.2.2.2.2.2.2.2:Int)),())))
def Γ81:Gam:=[(17,g17),(108,qfZ)]
theorem qM9:Gam.get Γ81 17=some g17:=rfl
theorem qSr:Gam.get Γ81 108=some qfZ:=rfl
def qse:Nat→Tree:=fun _=> .done
def qzT:Nat→Nm:=fun _=>⟨[],[],false⟩
def qzc:Nat→Option Jn:=fun _=>none
def qEW:Nat→Option Nm:=fun _=>none
def qA4:Nat→Option Nm:=fun _=>none
theorem p81:qn qse (Try.f81.body.getD .skip)=true:=by kernel_rfl
def T81 (N:Nat):Tab:={tr:=qse,lp:=qzT,ex:=qEW,rg:=qA4,jn:=qzc,fuel:=N}
theorem qU5 (N:Nat):(T81 N).pins=false:=rfl
theorem qLI (N:Nat):qp Try.prog (T81 N):=qw fun _=>rfl
theorem qNS (N:Nat) (i:Nat):(T81 N).tr i=qse i:=rfl
theorem qQM (N:Nat) (i:Nat):(T81 N).lp i=qzT i:=rfl
theorem qUU (N:Nat) (i:Nat):(T81 N).ex i=qEW i:=rfl
theorem qRP (N:Nat) (i:Nat):(T81 N).rg i=qA4 i:=rfl
theorem qSg (N:Nat) (i:Nat):(T81 N).jn i=qzc i:=rfl
theorem qRm (N:Nat):(T81 N).fuel=N:=rfl
theorem qM5 (N:Nat) (v0:Val qB):qe tt Γ81 (T81 N) (Try.f81.body.getD .skip) (qr tt true [qcq] [.cell 2 120]) (qv [qg5] 31 (v0,()))=m81 N v0:=by
 rw [m81];unfold Try.f81
 simp (maxSteps:=10000000) -implicitDefEqProofs [qNS,qse,qQM,qzT,qUU,qEW,qRP,qA4,qSg,qzc,qRm,qU5,qM9,qSr,g17,qfZ]
 try rfl
def g81:G:={ps:=[qg5],rs:=[qcq],dp:=true,pre:=fun x=>qqh x.1,fn:=fun x=>(qeS x.1,())}
theorem e81 (x:Val qB) (h:qqh x): ∃N,m81 N x=some (qeS x,()):=⟨0,by
 obtain ⟨s0,s1,s2,s3,s4,s5,s6,s7⟩:=h
 rw [m81,qd (show qjS _ from s1),qd (show qjs _ from s4)]
 rfl⟩
theorem s81:Sound Try.prog 81 g81:=qz (tt:=tt) (Γ:=Γ81) hT (ql s17 (ql qI0 qt)) hm (fn:=Try.f81) Try.func81 (c:=Try.f81.body.getD .skip) (by kernel_rfl) (by kernel_rfl) fun x hx=>by
 obtain ⟨N,h⟩:=e81 x.1 hx
 exact ⟨T81 N,p81,qy _,qLI N,(qM5 N x.1).trans h⟩
def qP (x:List (Val qB)):List (Val qb):=x
def qh8 (x:List (Val qB)):Prop:=Bd (.slice 115 qB) x
noncomputable def qic (N:Nat) (v1:List (Val qB)) (k0:(List (Val qb))→Option (qc [i65])):Nat→Int→(List (Val qb))→Option (qc [i65])
 | 0,_,_=>none
 | n+1,v2,v3=>bif (decide (v2<(v1.length:Int)))then (chk (0≤v2∧v2<(v1.length:Int)) (chk (qqh (v1.getD v2.toNat (qa qB))) (chk (0≤v2∧v2<(v3.length:Int)) (chk (v2.toNat<v3.length) (qic N v1 k0 n (IntKind.i64.wrap (v2+(1:Int))) (v3.set v2.toNat (((qeS (v1.getD v2.toNat (qa qB))).1:Int),(((((qeS (v1.getD v2.toNat (qa qB))).2).1).1:List (Val (.int .i64))),(((((qeS (v1.getD v2.toNat (qa qB))).2).1).2).1:Int),(((((qeS (v1.getD v2.toNat (qa qB))).2).1).2).2:Bool)),((((qeS (v1.getD v2.toNat (qa qB))).2).2).1:ByteArray),(((((qeS (v1.getD v2.toNat (qa qB))).2).2).2).1:ByteArray),((((((qeS (v1.getD v2.toNat (qa qB))).2).2).2).2).1:List (Val (.int .i64))),(((((((qeS (v1.getD v2.toNat (qa qB))).2).2).2).2).2).1:Int),((((((((qeS (v1.getD v2.toNat (qa qB))).2).2).2).2).2).2).1:Int),((((((((qeS (v1.getD v2.toNat (qa qB))).2).2).2).2).2).2).2:Int))))))))else (k0 v3)
noncomputable def m27 (N:Nat) (v0:List (Val qB)):Option (qc [i65]):=chk (0≤(v0.length:Int)∧(v0.length:Int)≤(v0.length:Int)∧(v0.length:Int)≤1048576) (qic N v0 (fun (v5:List (Val qb))=>some (v5,())) N (0:Int) (List.replicate (v0.length:Int).toNat (qa qb)))
def Γ27:Gam:=[(81,g81)]
theorem qtX:Gam.get Γ27 81=some g81:=rfl
def qlJ:Nm:=⟨[true,false,false,true,true],[],false⟩
theorem qCS:qlJ.zero=false:=rfl
theorem qvl:qlJ.fix=[]:=rfl
theorem qBW:qlJ.keep=[true,false,false,true,true]:=rfl
def qqQ:Nm:=⟨[false,false,false,true],[],false⟩
theorem qCA:qqQ.zero=false:=rfl
theorem quh:qqQ.fix=[]:=rfl
theorem qwB:qqQ.keep=[false,false,false,true]:=rfl
def qkj:Nat→Tree:=fun _=> .done
def qlF:Nat→Nm:=fun i=>if i=3 then qlJ else ⟨[],[],false⟩
def qnA:Nat→Option Jn:=fun _=>none
def qlw:Nat→Option Nm:=fun i=>if i=0 then some qqQ else none
def qml:Nat→Option Nm:=fun _=>none
theorem p27:qn qkj (Try.f27.body.getD .skip)=true:=by kernel_rfl
def T27 (N:Nat):Tab:={tr:=qkj,lp:=qlF,ex:=qlw,rg:=qml,jn:=qnA,fuel:=N}
theorem quu (N:Nat):(T27 N).pins=false:=rfl
theorem qUP (N:Nat):qp Try.prog (T27 N):=qw fun _=>rfl
theorem qDi (N:Nat) (i:Nat):(T27 N).tr i=qkj i:=rfl
theorem qAk (N:Nat) (i:Nat):(T27 N).lp i=qlF i:=rfl
theorem qvy (N:Nat) (i:Nat):(T27 N).ex i=qlw i:=rfl
theorem qz9 (N:Nat) (i:Nat):(T27 N).rg i=qml i:=rfl
theorem qCN (N:Nat) (i:Nat):(T27 N).jn i=qnA i:=rfl
theorem qwS (N:Nat):(T27 N).fuel=N:=rfl
noncomputable def qGG:Code:=cut [true,true,false,true,true,true] (Try.f27.body.getD .skip)
theorem qVw {N:Nat} {Q:X→St→Option (qc [i65])} {e:List LV} {h:List Blk}:qe tt Γ27 (T27 N) qGG Q ⟨e,h⟩=qe tt Γ27 (T27 N) (cut [true,true,false,true,true,true] (Try.f27.body.getD .skip)) Q ⟨e,h⟩:=rfl
theorem qPb (N:Nat) (v1:List (Val qB)) {k0:(List (Val qb))→Option (qc [i65])} {Q:X→St→Option (qc [i65])} {c:Code} (hc:c=qGG) (hret: ∀st,Q .ret st=qI tt true [i65] [.tmp 2] st) (h0: ∀(v4:List (Val qb)),Q (.exit 0) ⟨[u,u,u,.one (.own 0),u,u,u,u,u,u,u,u,u,u,u,u,u,u,u,u,u,u,u],[.row 120 qb v4 true true 0]⟩=k0 v4): ∀(n:Nat) (v2:Int) (v3:List (Val qb)),qC (qe tt Γ27 (T27 N) c) false qlJ Q n ⟨[.one (.sl 115 qB v1 1),u,u,.one (.own 0),.one (.int .i64 v2),u,u,u,u,u,u,u,u,u,u,u,u,u,u,u,u,u,u],[.row 120 qb v3 true true 0]⟩=qic N v1 k0 n v2 v3:=by
 subst hc;intro n;induction n with
 | zero=>intros;rfl
 | succ n ih=>
   intro v2 v3
   rw [qM,qVw,qic];unfold Try.f27
   simp (maxSteps:=10000000) -implicitDefEqProofs [qDi,qkj,qAk,qlF,qvy,qlw,qz9,qml,qCN,qnA,qwS,quu,qvl,qBW,qCS,quh,qwB,qCA,qtX,g81,hret,h0,ih]
theorem qMe (N:Nat) (v0:List (Val qB)):qe tt Γ27 (T27 N) (Try.f27.body.getD .skip) (qr tt true [i65] [.tmp 2]) (qv [i58] 23 (v0,()))=m27 N v0:=by
 unfold Try.f27
 simp (maxSteps:=10000000) -implicitDefEqProofs [qDi,qkj,qAk,qlF,qvy,qlw,qz9,qml,qCN,qnA,qwS,quu,qvl,qBW,qCS,quh,qwB,qCA,qtX,g81]
 rewrite [qPb (k0:=(fun (v5:List (Val qb))=>some (v5,()))) N _ ?_ ?_ ?_]
 ·rewrite [m27];first | rfl | simp (maxSteps:=10000000) -implicitDefEqProofs []
 ·rfl
 ·intro;simp only [qK,qL,qN,qm]
 ·intro v5;simp (maxSteps:=10000000) -implicitDefEqProofs [qDi,qkj,qAk,qlF,qvy,qlw,qz9,qml,qCN,qnA,qwS,quu,qvl,qBW,qCS,quh,qwB,qCA,qtX,g81]
def g27:G:={ps:=[i58],rs:=[i65],dp:=true,pre:=fun x=>qh8 x.1,fn:=fun x=>(qP x.1,())}
theorem e27 (x:List (Val qB)) (h:qh8 x): ∃N,m27 N x=some (qP x,()):=⟨List.length x+1,by
 rw [m27,qd (qjk h.1),Int.toNat_natCast]
 refine qha (F:=fun n i s=>qic _ x _ n i s) (k:=fun s=>some (s,())) (qa qb) h.1 (fun n i s hi hl=> ?_) (fun n i s hi=> ?_) _ (Nat.lt_succ_self _)
 ·rw [qic,qj (by omega),qd (by omega),qd (show qqh _ from by rw [qA hi];exact h.2 _ (List.getElem_mem hi)),qA hi,qd (by omega),qd (by omega)]
  rfl
 ·rw [qic,qh (by omega)]⟩
theorem s27:Sound Try.prog 27 g27:=qz (tt:=tt) (Γ:=Γ27) hT (ql s81 qt) hm (fn:=Try.f27) Try.func27 (c:=Try.f27.body.getD .skip) (by kernel_rfl) (by kernel_rfl) fun x hx=>by
 obtain ⟨N,h⟩:=e27 x.1 hx
 exact ⟨T27 N,p27,qy _,qUP N,(qMe N x.1).trans h⟩
def qAs (x y:Val qb):Bool:=eqV qb x y
def qry (x _:Val qb):Prop:=Bd qb x
noncomputable def m85 (N:Nat) (v0:Val qb) (v1:Val qb):Option (qc [i4]):=bif (!(decide ((v0.1:Int)=(v1.1:Int))))then (some (false,()))else (chk (qi4 v0.2.1 v1.2.1) (bif (!((qmu v0.2.1 v1.2.1):Bool))then (some (false,()))else (bif (!(ByteArray.toList (v0.2.2.1:ByteArray)==ByteArray.toList (v1.2.2.1:ByteArray)))then (some (false,()))else (bif (!(ByteArray.toList (v0.2.2.2.1:ByteArray)==ByteArray.toList (v1.2.2.2.1:ByteArray)))then (some (false,()))else (chk (qfC (v0.2.2.2.2.1:List (Val (.int .i64))) (v1.2.2.2.2.1:List (Val (.int .i64)))) (bif (!((qe3 (v0.2.2.2.2.1:List (Val (.int .i64))) (v1.2.2.2.2.1:List (Val (.int .i64)))):Bool))then (some (false,()))else (bif (!(decide ((v0.2.2.2.2.2.1:Int)=(v1.2.2.2.2.2.1:Int))))then (some (false,()))else (bif (!(decide ((v0.2.2.2.2.2.2.1:Int)=(v1.2.2.2.2.2.2.1:Int))))then (some (false,()))else (bif (!(decide ((v0.2.2.2.2.2.2.2:Int)=(v1.2.2.2.2.2.2.2:Int))))then (some (false,()))else (some (true,())))))))))))
def Γ85:Gam:=[(21,g21),(115,qgh)]
theorem qSo:Gam.get Γ85 21=some g21:=rfl
theorem qVj:Gam.get Γ85 115=some qgh:=rfl
def qrb:Nat→Tree:=fun _=> .done
def qAa:Nat→Nm:=fun _=>⟨[],[],false⟩
def qCh:Nat→Option Jn:=fun _=>none
def qDt:Nat→Option Nm:=fun _=>none
def qDs:Nat→Option Nm:=fun _=>none
theorem p85:qn qrb (Try.f85.body.getD .skip)=true:=by kernel_rfl
def T85 (N:Nat):Tab:={tr:=qrb,lp:=qAa,ex:=qDt,rg:=qDs,jn:=qCh,fuel:=N}
theorem qO3 (N:Nat):(T85 N).pins=false:=rfl
theorem qRr (N:Nat):qp Try.prog (T85 N):=qw fun _=>rfl
theorem qSp (N:Nat) (i:Nat):(T85 N).tr i=qrb i:=rfl
theorem qVf (N:Nat) (i:Nat):(T85 N).lp i=qAa i:=rfl
theorem qMz (N:Nat) (i:Nat):(T85 N).ex i=qDt i:=rfl
theorem qVc (N:Nat) (i:Nat):(T85 N).rg i=qDs i:=rfl
theorem qOD (N:Nat) (i:Nat):(T85 N).jn i=qCh i:=rfl
theorem qPX (N:Nat):(T85 N).fuel=N:=rfl
theorem qOE (N:Nat) (v0:Val qb) (v1:Val qb):qe tt Γ85 (T85 N) (Try.f85.body.getD .skip) (qr tt true [i4] [.tmp 4]) (qv [qcq,qcq] 47 (v0,v1,()))=m85 N v0 v1:=by
 rw [m85];unfold Try.f85
 simp (maxSteps:=10000000) -implicitDefEqProofs [qSp,qrb,qVf,qAa,qMz,qDt,qVc,qDs,qOD,qCh,qPX,qO3,qSo,qVj,g21,qgh]
 try rfl
def g85:G:={ps:=[qcq,qcq],rs:=[i4],dp:=true,pre:=fun x=>qry x.1 x.2.1,fn:=fun x=>(qAs x.1 x.2.1,())}
theorem e85 (x y:Val qb) (h:qry x y): ∃N,m85 N x y=some (qAs x y,()):=⟨0,by
 obtain ⟨s0,s1,s2,s3,s4,s5,s6,s7⟩:=h
 rw [m85,qd (show qi4 _ _ from s1),qd (show qfC _ _ from s4)]
 obtain ⟨x0,x1,x2,x3,x4,x5,x6,x7⟩:=x
 obtain ⟨y0,y1,y2,y3,y4,y5,y6,y7⟩:=y
 change _=some ((eqV (.int .i64) x0 y0&&(eqV Y83 x1 y1&&(eqV .str x2 y2&&(eqV .str x3 y3&&(eqV (.slice 3 (.int .i64)) x4 y4&&(eqV (.int .i64) x5 y5&&(eqV (.int .i64) x6 y6&&eqV (.int .i64) x7 y7))))))),())
 simp only [qX]
 show _=_
 generalize he0:eqV (.int .i64) x0 y0=e0
 have hd0:decide ((x0:Int)=y0)=e0:=he0
 generalize he1:eqV Y83 x1 y1=e1
 have hd1:qmu x1 y1=e1:=he1
 generalize he2:eqV .str x2 y2=e2
 have hd2:(ByteArray.toList x2==ByteArray.toList y2)=e2:=he2
 generalize he3:eqV .str x3 y3=e3
 have hd3:(ByteArray.toList x3==ByteArray.toList y3)=e3:=he3
 generalize he4:eqV (.slice 3 (.int .i64)) x4 y4=e4
 have hd4:qe3 x4 y4=e4:=he4
 generalize he5:eqV (.int .i64) x5 y5=e5
 have hd5:decide ((x5:Int)=y5)=e5:=he5
 generalize he6:eqV (.int .i64) x6 y6=e6
 have hd6:decide ((x6:Int)=y6)=e6:=he6
 generalize he7:eqV (.int .i64) x7 y7=e7
 have hd7:decide ((x7:Int)=y7)=e7:=he7
 simp only [hd0,hd1,hd2,hd3,hd4,hd5,hd6,hd7]
 cases e0<;>cases e1<;>cases e2<;>cases e3<;>cases e4<;>cases e5<;>cases e6<;>cases e7<;>rfl⟩
theorem s85:Sound Try.prog 85 g85:=qz (tt:=tt) (Γ:=Γ85) hT (ql s21 (ql qJb qt)) hm (fn:=Try.f85) Try.func85 (c:=Try.f85.body.getD .skip) (by kernel_rfl) (by kernel_rfl) fun x hx=>by
 obtain ⟨N,h⟩:=e85 x.1 x.2.1 hx
 exact ⟨T85 N,p85,qy _,qRr N,(qOE N x.1 x.2.1).trans h⟩
def qmL (x y:List (Val qb)):Bool:=eqV (.slice 120 qb) x y
def qqY (x _:List (Val qb)):Prop:=Bd (.slice 120 qb) x
noncomputable def qhs (N:Nat) (v2:List (Val qb)) (v3:List (Val qb)) (k0:Unit→Option (qc [i4])):Nat→Int→Option (qc [i4])
 | 0,_=>none
 | n+1,v4=>bif (decide (v4<(v2.length:Int)))then (chk (0≤v4∧v4<(v2.length:Int)) (chk (0≤v4∧v4<(v3.length:Int)) (chk (qry (v2.getD v4.toNat (qa qb)) (v3.getD v4.toNat (qa qb))) (bif (!((qAs (v2.getD v4.toNat (qa qb)) (v3.getD v4.toNat (qa qb))):Bool))then (some (false,()))else (qhs N v2 v3 k0 n (IntKind.i64.wrap (v4+(1:Int))))))))else (k0 ())
noncomputable def m30 (N:Nat) (v0:List (Val qb)) (v1:List (Val qb)):Option (qc [i4]):=bif (!(decide ((v0.length:Int)=(v1.length:Int))))then (some (false,()))else (qhs N v0 v1 (fun (_:Unit)=>some (true,())) N (0:Int))
def Γ30:Gam:=[(85,g85)]
theorem qx2:Gam.get Γ30 85=some g85:=rfl
def qoW:Nm:=⟨[true,true,false,false,false,true],[],false⟩
theorem qB3:qoW.zero=false:=rfl
theorem qtg:qoW.fix=[]:=rfl
theorem qDQ:qoW.keep=[true,true,false,false,false,true]:=rfl
def qsn:Nm:=⟨[],[],false⟩
theorem qzV:qsn.zero=false:=rfl
theorem qEp:qsn.fix=[]:=rfl
theorem quq:qsn.keep=[]:=rfl
def qjG:Nat→Tree:=fun i=>if i=6 then .quiet 0 (.quiet 1 (.quiet 2 (.quiet 3 (.quiet 4 (.quiet 5 (.quiet 6 (.quiet 7 (.alt 8 (.quiet 9 .done) .stop))))))))else .done
def qoY:Nat→Nm:=fun i=>if i=4 then qoW else ⟨[],[],false⟩
def ql9:Nat→Option Jn:=fun _=>none
def qk7:Nat→Option Nm:=fun i=>if i=0 then some qsn else none
def qm0:Nat→Option Nm:=fun _=>none
theorem p30:qn qjG (Try.f30.body.getD .skip)=true:=by kernel_rfl
def T30 (N:Nat):Tab:={tr:=qjG,lp:=qoY,ex:=qk7,rg:=qm0,jn:=ql9,fuel:=N}
theorem qBB (N:Nat):(T30 N).pins=false:=rfl
theorem qRh (N:Nat):qp Try.prog (T30 N):=qw fun _=>rfl
theorem qC5 (N:Nat) (i:Nat):(T30 N).tr i=qjG i:=rfl
theorem qzr (N:Nat) (i:Nat):(T30 N).lp i=qoY i:=rfl
theorem qAz (N:Nat) (i:Nat):(T30 N).ex i=qk7 i:=rfl
theorem qBM (N:Nat) (i:Nat):(T30 N).rg i=qm0 i:=rfl
theorem qAb (N:Nat) (i:Nat):(T30 N).jn i=ql9 i:=rfl
theorem qxw (N:Nat):(T30 N).fuel=N:=rfl
noncomputable def qIg:Code:=cut [true,true,false,true,true,true] (Try.f30.body.getD .skip)
theorem qJC {N:Nat} {Q:X→St→Option (qc [i4])} {e:List LV} {h:List Blk}:qe tt Γ30 (T30 N) qIg Q ⟨e,h⟩=qe tt Γ30 (T30 N) (cut [true,true,false,true,true,true] (Try.f30.body.getD .skip)) Q ⟨e,h⟩:=rfl
theorem qLe (N:Nat) (v2:List (Val qb)) (v3:List (Val qb)) {k0:Unit→Option (qc [i4])} {Q:X→St→Option (qc [i4])} {c:Code} (hc:c=qIg) (hret: ∀st,Q .ret st=qI tt true [i4] [.tmp 4] st) (h0:Q (.exit 0) ⟨[u,u,u,u,u,u,u,u,u,u,u,u,u,u,u,u,u,u,u,u,u,u,u,u,u,u,u],[]⟩=k0 ()): ∀(n:Nat) (v4:Int),qC (qe tt Γ30 (T30 N) c) false qoW Q n ⟨[.one (.sl 120 qb v2 0),.one (.sl 120 qb v3 0),u,u,u,.one (.int .i64 v4),u,u,u,u,u,u,u,u,u,u,u,u,u,u,u,u,u,u,u,u,u],[]⟩=qhs N v2 v3 k0 n v4:=by
 subst hc;intro n;induction n with
 | zero=>intros;rfl
 | succ n ih=>
   intro v4
   rw [qM,qJC,qhs];unfold Try.f30
   simp (maxSteps:=10000000) -implicitDefEqProofs [qC5,qjG,qzr,qoY,qAz,qk7,qBM,qm0,qAb,ql9,qxw,qBB,qtg,qDQ,qB3,qEp,quq,qzV,qx2,g85,hret,h0,ih]
theorem qUa (N:Nat) (v0:List (Val qb)) (v1:List (Val qb)):qe tt Γ30 (T30 N) (Try.f30.body.getD .skip) (qr tt true [i4] [.tmp 4]) (qv [i65,i65] 27 (v0,v1,()))=m30 N v0 v1:=by
 unfold Try.f30
 simp (maxSteps:=10000000) -implicitDefEqProofs [qC5,qjG,qzr,qoY,qAz,qk7,qBM,qm0,qAb,ql9,qxw,qBB,qtg,qDQ,qB3,qEp,quq,qzV,qx2,g85]
 rewrite [qLe (k0:=(fun (_:Unit)=>some (true,()))) N _ _ ?_ ?_ ?_]
 ·rewrite [m30];first | rfl | simp (maxSteps:=10000000) -implicitDefEqProofs []
 ·rfl
 ·intro;simp only [qK,qL,qN,qm]
 ·simp (maxSteps:=10000000) -implicitDefEqProofs [qC5,qjG,qzr,qoY,qAz,qk7,qBM,qm0,qAb,ql9,qxw,qBB,qtg,qDQ,qB3,qEp,quq,qzV,qx2,g85]
def g30:G:={ps:=[i65,i65],rs:=[i4],dp:=true,pre:=fun x=>qqY x.1 x.2.1,fn:=fun x=>(qmL x.1 x.2.1,())}
theorem e30 (x y:List (Val qb)) (h:qqY x y): ∃N,m30 N x y=some (qmL x y,()):=⟨List.length x+1,by
 rw [m30,qX]
 rw [qmL,eqS]
 by_cases c:List.length x=List.length y
 ·rw [qj (by omega)]
  refine (qnF (f:=eqV qb) (xs:=x) (ys:=y) (F:=fun n i=>qhs _ x y _ n i) (k:=fun _=>some (true,())) (r:=some (false,())) h.1 c (fun n i hi hi2=> ?_) (fun n i hi=> ?_) _ (Nat.lt_succ_self _)).trans qi8
  ·rw [qhs,qj (by omega),qd (by omega),qd (by omega),qd (show qry _ _ from by rw [qA hi];exact h.2 _ (List.getElem_mem hi)),qA hi,qA hi2,qX]
   rfl
  ·rw [qhs,qh (by omega)]
 ·rw [qh (by omega),qi0 _ _ c]⟩
theorem s30:Sound Try.prog 30 g30:=qz (tt:=tt) (Γ:=Γ30) hT (ql s85 qt) hm (fn:=Try.f30) Try.func30 (c:=Try.f30.body.getD .skip) (by kernel_rfl) (by kernel_rfl) fun x hx=>by
 obtain ⟨N,h⟩:=e30 x.1 x.2.1 hx
 exact ⟨T30 N,p30,qy _,qRh N,(qUa N x.1 x.2.1).trans h⟩
end Go.T
