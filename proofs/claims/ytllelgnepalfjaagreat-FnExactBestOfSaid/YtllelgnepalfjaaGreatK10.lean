import Derived.Test.YtllelgnepalfjaaGreatK7
import Derived.Test.YtllelgnepalfjaaGreatE46
import Derived.Test.YtllelgnepalfjaaGreatA1
set_option linter.unusedSimpArgs false
set_option linter.unusedVariables false
namespace Go.T
noncomputable section
open Go Go.Proofs
set_option maxHeartbeats 4000000
set_option maxRecDepth 100000
def xq (c:Zj) (l:Zb):Prop:=fQ c l
def xr (c:Zj) (l:Zb):Prop:=fQ c l
def xt (c:Zj) (l:Zb) (b:Zk):Prop:=fQ c l/\qh (hiR b)=true
def xu (c:Zj) (l:Zb):Prop:=fQ c l
def h0 (c:Zj) (l:Zb):Prop:=b8 c/\l.length<=1048576
def xv (c:Zj) (l:Zb):Prop:=h0 c l
def g51:G:={ps:=[i35,i25],rs:=[i29,i4],dp:=true,pre:=fun x=>xq x.1 x.2.1,fn:=fun x=>((fq x.1 x.2.1).1,(fq x.1 x.2.1).2,())}
def jA (N:Nat) (e:Zb) (b:Ze) (d f:Int) (k0:(Ze)->ZO [i29,i4]):Nat->Int->(Ze)->ZO [i29,i4]
 | 0,_,_=>none
 | n+1,a,c=>bif (decide (a<d))then (chk (0<=a/\a<(b.length:Int)) (chk (bx ((b.getD a.toNat (qa Y68)).1:Zb) (0:Int) false) (bif (!((qx ((b.getD a.toNat (qa Y68)).1:Zb) (0:Int) false).2:Bool))then (some (([]:Zg),false,()))else (chk (c.length+([(qx ((b.getD a.toNat (qa Y68)).1:Zb) (0:Int) false).1]:Ze).length<=1048576) (jA N e b d f k0 n (IntKind.i64.wrap (a+(1:Int))) (c++([(qx ((b.getD a.toNat (qa Y68)).1:Zb) (0:Int) false).1]:Ze)))))))else (k0 c)
def m51 (N:Nat) (b:Zj) (a:Zb):ZO [i29,i4]:=jA N a (b.2:Ze) ((b.2:Ze).length:Int) (b.1:Int) (fun (c:Ze)=>chk (dV a ((1:Int),(1:Int)) false) (bif (!((qP a ((1:Int),(1:Int)) false).2:Bool))then (some (([]:Zg),false,()))else (chk (c.length+([(qP a ((1:Int),(1:Int)) false).1]:Ze).length<=1048576) (some (((q4 ((b.1:Int),(c++([(qP a ((1:Int),(1:Int)) false).1]:Ze)))).1:Zg),(decide (((q4 ((b.1:Int),(c++([(qP a ((1:Int),(1:Int)) false).1]:Ze)))).2:Int)=(0:Int))),()))))) N (0:Int) ([]:Ze)
def Γ51:Gam:=[(48,g48),(56,g56),(91,g91)]
theorem Tq:Gam.get Γ51 48=some g48/\Gam.get Γ51 56=some g56/\Gam.get Γ51 91=some g91:=⟨rfl,rfl,rfl⟩
def xw:List Bool:=[O,I,O,O,O,O,I,O,O,O,O,O,O,O,O,O,O,O,O,O,I,I,I]
def Hi:Nm:=⟨xw,[],false⟩
theorem Tr:NmS Hi xw [] false:=nmS
def Hj:List Bool:=[O,I,O,O,O,O,I]
def Ts:Nm:=⟨Hj,[],false⟩
theorem qU6:NmS Ts Hj [] false:=nmS
def Hk:Nat->Nm:=fun i=>if i=3 then Hi else ⟨[],[],false⟩
def Hl:Nat->Option Nm:=fun i=>if i=0 then some Ts else none
theorem p51:qi tr0 (Tryz.f51.body.getD .skip)=true:=by kernel_rfl
def T51 (N:Nat):Tab:={tr:=tr0,lp:=Hk,ex:=Hl,rg:=rg0,jn:=jn0,fuel:=N}
theorem qXE (N:Nat):qj Tryz.prog (T51 N):=qn fun _=>rfl
theorem Hm (N:Nat):qr (T51 N) tr0 Hk Hl rg0 jn0 N false:=qt
def Tt:Code:=cut [I,I,O,I,I,I] (Tryz.f51.body.getD .skip)
theorem q20 (N:Nat) (a:Zb) (f:Ze) (g d:Int) {k0:(Ze)->ZO [i29,i4]} {Q:ZQ [i29,i4]} {c:Code} (j:c=Tt) (k: ∀st,Q .ret st=qz tt true [i29,i4] [.tmp 4,.tmp 5] st) (i: ∀(h:Ze),Q (.exit 0) ⟨[u,.one (.sl 3 Zd a 2),u,u,u,u,.one (.ptr 0 0 0),u,u,u,u,u,u,u,u,u,u,u,u,u,u,u,u,u,u,u,u,u,u,u,u,u,u,u,u,u,u,u,u,u,u,u,u,u,u,u,u,u,u,u,u,u,u,u,u,u,u,u,u,u,u,u,u],[.box [.int .i64 d,.own 1],.row 68 Y68 h true true 0]⟩=k0 h): ∀(n:Nat) (b:Int) (e:Ze),qw (qd tt Γ51 (T51 N) c) false Hi Q n ⟨[u,.one (.sl 3 Zd a 2),u,u,u,u,.one (.ptr 0 0 0),u,u,u,u,u,u,u,u,u,u,u,u,u,.one (.sl 68 Y68 f 2),.one (.int .i64 g),.one (.int .i64 b),u,u,u,u,u,u,u,u,u,u,u,u,u,u,u,u,u,u,u,u,u,u,u,u,u,u,u,u,u,u,u,u,u,u,u,u,u,u,u,u],[.box [.int .i64 d,.own 1],.row 68 Y68 e true true 0]⟩=jA N a f g d k0 n b e:=by
 intro n;induction n with
 | zero=>intros;rfl
 | succ n l=>
   intro b e
   rw [qD,qE j,jA];unfold Tt Tryz.f51
   simp (maxSteps:=10000000) -implicitDefEqProofs [Hm,Hl,Tr,xw,qU6,Hj,Tq,g91,k,i,l]
theorem qS4 (N:Nat) (a:Zj) (b:Zb):qd tt Γ51 (T51 N) (Tryz.f51.body.getD .skip) (qk tt true [i29,i4] [.tmp 4,.tmp 5]) (qm [i35,i25] 63 (a,b,()))=m51 N a b:=by
 unfold Tryz.f51
 simp (maxSteps:=10000000) -implicitDefEqProofs [Hm,Hk,Tr,xw]
 rewrite [q20 N _ _ _ _ ?_ ?_ ?_]
 ·rewrite [m51];first | rfl | simp -implicitDefEqProofs []
 ·rfl
 ·intro;simp only [qA,qC,qJ]
 ·intro c;simp (maxSteps:=10000000) -implicitDefEqProofs [Hm,Tq,g48,g56]
def g50:G:={ps:=[i35,i25,i60],rs:=[i31],dp:=true,pre:=fun x=>xt x.1 x.2.1 x.2.2.1,fn:=fun x=>(gO x.1 x.2.1 x.2.2.1,())}
def m50 (N:Nat) (c:Zj) (b:Zb) (a:Zk):ZO [i31]:=chk (dV b a.2.2.2.2.1 (!(a.2.2.2.2.2.1:Bool))) (bif (!((qP b a.2.2.2.2.1 (!(a.2.2.2.2.2.1:Bool))).2:Bool))then (some (((3:Int),((0:Int),(0:Int)),false,([]:Zg),([]:Zg),([]:Zb)),()))else (chk (eM c ([(qP b a.2.2.2.2.1 (!(a.2.2.2.2.2.1:Bool))).1]:Ze)) (bif (!((cj (cy c ([(qP b a.2.2.2.2.1 (!(a.2.2.2.2.2.1:Bool))).1]:Ze))).2:Bool))then (some (((3:Int),((0:Int),(0:Int)),false,([]:Zg),([]:Zg),([]:Zb)),()))else (bif (!(a.2.2.2.2.2.1:Bool))then (chk (dV b a.2.2.2.2.1 false) (bif (!((qP b a.2.2.2.2.1 false).2:Bool))then (some (((3:Int),((0:Int),(0:Int)),false,([]:Zg),([]:Zg),([]:Zb)),()))else (chk (eM c ([(qP b a.2.2.2.2.1 false).1]:Ze)) (bif (!(decide (((q4 (cy c ([(qP b a.2.2.2.2.1 false).1]:Ze))).2:Int)=(0:Int))))then (some (((3:Int),((0:Int),(0:Int)),false,([]:Zg),([]:Zg),([]:Zb)),()))else (some (((0:Int),a.2.2.2.2.1,(!(a.2.2.2.2.2.1:Bool)),((q4 (cy c ([(qP b a.2.2.2.2.1 false).1]:Ze))).1:Zg),([]:Zg),((cj (cy c ([(qP b a.2.2.2.2.1 (!(a.2.2.2.2.2.1:Bool))).1]:Ze))).1:Zb)),()))))))else (some (((0:Int),a.2.2.2.2.1,(!(a.2.2.2.2.2.1:Bool)),([]:Zg),([]:Zg),((cj (cy c ([(qP b a.2.2.2.2.1 (!(a.2.2.2.2.2.1:Bool))).1]:Ze))).1:Zb)),()))))))
def Γ50:Gam:=[(48,g48),(49,g49),(56,g56),(57,g57)]
theorem qYB:Gam.get Γ50 48=some g48/\Gam.get Γ50 49=some g49/\Gam.get Γ50 56=some g56/\Gam.get Γ50 57=some g57:=⟨rfl,rfl,rfl,rfl⟩
theorem p50:qi tr0 (Tryz.f50.body.getD .skip)=true:=by kernel_rfl
def T50 (N:Nat):Tab:={tr:=tr0,lp:=lp0,ex:=ex0,rg:=rg0,jn:=jn0,fuel:=N}
theorem q1r (N:Nat):qj Tryz.prog (T50 N):=qn fun _=>rfl
theorem q2p (N:Nat):qr (T50 N) tr0 lp0 ex0 rg0 jn0 N false:=qt
theorem q10 (N:Nat) (a:Zj) (b:Zb) (c:Zk):qd tt Γ50 (T50 N) (Tryz.f50.body.getD .skip) (qk tt true [i31] [.cell 6 31]) (qm [i35,i25,i60] 72 (a,b,c,()))=m50 N a b c:=by
 rw [m50];unfold Tryz.f50
 simp (maxSteps:=10000000) -implicitDefEqProofs [q2p,qYB,g48,g49,g56,g57]
 try rfl
def g21:G:={ps:=[i35,i25],rs:=[i31],dp:=true,pre:=fun x=>xu x.1 x.2.1,fn:=fun x=>(cq x.1 x.2.1,())}
def m21 (N:Nat) (a:Zj) (b:Zb):ZO [i31]:=chk (hL a b) (bif (!((qX a b).2:Bool))then (some (((3:Int),((0:Int),(0:Int)),false,([]:Zg),([]:Zg),([]:Zb)),()))else (bif (decide (((q4 a).2:Int)=(2:Int)))then (some (((3:Int),((0:Int),(0:Int)),false,([]:Zg),([]:Zg),([]:Zb)),()))else (bif (decide (((q4 a).2:Int)=(1:Int)))then (bif (!((cj a).2:Bool))then (some (((3:Int),((0:Int),(0:Int)),false,([]:Zg),([]:Zg),([]:Zb)),()))else (some (((1:Int),((0:Int),(0:Int)),false,([]:Zg),([]:Zg),((cj a).1:Zb)),())))else (bif ((((((((qX a b).1).2).2).2).2).2).2:Bool)then (some (((3:Int),((0:Int),(0:Int)),false,([]:Zg),([]:Zg),([]:Zb)),()))else (bif ((((((qX a b).1).2).2).2).1:Bool)then (chk (xt a b ((qX a b).1)) (some ((gO a b ((qX a b).1)),())))else (chk (xq a b) (bif (!((fq a b).2:Bool))then (some (((3:Int),((0:Int),(0:Int)),false,([]:Zg),([]:Zg),([]:Zb)),()))else (some (((2:Int),((0:Int),(0:Int)),false,((q4 a).1:Zg),((fq a b).1:Zg),([]:Zb)),())))))))))
def Γ21:Gam:=[(47,g47),(48,g48),(49,g49),(50,g50),(51,g51)]
theorem qN8:Gam.get Γ21 47=some g47/\Gam.get Γ21 48=some g48/\Gam.get Γ21 49=some g49/\Gam.get Γ21 50=some g50/\Gam.get Γ21 51=some g51:=⟨rfl,rfl,rfl,rfl,rfl⟩
theorem p21:qi tr0 (Tryz.f21.body.getD .skip)=true:=by kernel_rfl
def T21 (N:Nat):Tab:={tr:=tr0,lp:=lp0,ex:=ex0,rg:=rg0,jn:=jn0,fuel:=N}
theorem qOZ (N:Nat):qj Tryz.prog (T21 N):=qn fun _=>rfl
theorem qWM (N:Nat):qr (T21 N) tr0 lp0 ex0 rg0 jn0 N false:=qt
theorem q3C (N:Nat) (a:Zj) (b:Zb):qd tt Γ21 (T21 N) (Tryz.f21.body.getD .skip) (qk tt true [i31] [.cell 4 31]) (qm [i35,i25] 64 (a,b,()))=m21 N a b:=by
 rw [m21];unfold Tryz.f21
 simp (maxSteps:=10000000) -implicitDefEqProofs [qWM,qN8,g47,g48,g49,g50,g51]
 try rfl
def g8:G:={ps:=[i35,i25],rs:=[i31],dp:=true,pre:=fun x=>h0 x.1 x.2.1,fn:=fun x=>(qV x.1 x.2.1,())}
def m8 (N:Nat) (a:Zj) (b:Zb):ZO [i31]:=chk (vT a b) (bif (!((dT a b):Bool))then (some (((3:Int),((0:Int),(0:Int)),false,([]:Zg),([]:Zg),([]:Zb)),()))else (chk (xu a b) (bif (!(decide (((cq a b).1:Int)=(3:Int))))then (chk (jl a b (cq a b)) (bif (!((dE a b (cq a b)):Bool))then (some (((3:Int),((0:Int),(0:Int)),false,([]:Zg),([]:Zg),([]:Zb)),()))else (some ((cq a b),()))))else (some ((cq a b),())))))
def Γ8:Gam:=[(20,g20),(21,g21),(22,g22)]
theorem qZR:Gam.get Γ8 20=some g20/\Gam.get Γ8 21=some g21/\Gam.get Γ8 22=some g22:=⟨rfl,rfl,rfl⟩
theorem p8:qi tr0 (Tryz.f8.body.getD .skip)=true:=by kernel_rfl
def T8 (N:Nat):Tab:={tr:=tr0,lp:=lp0,ex:=ex0,rg:=rg0,jn:=jn0,fuel:=N}
theorem tb8 (N:Nat):qj Tryz.prog (T8 N):=qn fun _=>rfl
theorem qXU (N:Nat):qr (T8 N) tr0 lp0 ex0 rg0 jn0 N false:=qt
theorem qPy (N:Nat) (a:Zj) (b:Zb):qd tt Γ8 (T8 N) (Tryz.f8.body.getD .skip) (qk tt true [i31] [.cell 4 31]) (qm [i35,i25] 28 (a,b,()))=m8 N a b:=by
 rw [m8];unfold Tryz.f8
 simp (maxSteps:=10000000) -implicitDefEqProofs [qXU,qZR,g20,g21,g22]
 try rfl
def g36:G:={ps:=[i35,i25],rs:=[i29,i3],dp:=true,pre:=fun x=>xr x.1 x.2.1,fn:=fun x=>((mX x.1 x.2.1).1,(mX x.1 x.2.1).2,())}
def jB (N:Nat) (d:Zb) (e:Int) (b:Ze) (f:Int) (k0:(Ze)->ZO [i29,i3]):Nat->Int->(Ze)->ZO [i29,i3]
 | 0,_,_=>none
 | n+1,a,c=>bif (decide (a<(b.length:Int)))then (chk (0<=a/\a<(b.length:Int)) (chk (bx ((b.getD a.toNat (qa Y68)).1:Zb) (0:Int) false) (chk (c.length+([(qx ((b.getD a.toNat (qa Y68)).1:Zb) (0:Int) false).1]:Ze).length<=1048576) (jB N d e b f k0 n (IntKind.i64.wrap (a+(1:Int))) (c++([(qx ((b.getD a.toNat (qa Y68)).1:Zb) (0:Int) false).1]:Ze))))))else (k0 c)
def m36 (N:Nat) (a:Zj) (b:Zb):ZO [i29,i3]:=jB N b (a.1:Int) (a.2:Ze) (a.1:Int) (fun (c:Ze)=>chk (gI b (cm (1:Int)) false) (bif (!((bZ b (cm (1:Int)) false).2:Bool))then (some (([]:Zg),(2:Int),()))else (bif (decide ((16:Int)<=(c.length:Int)))then (some (([]:Zg),(2:Int),()))else (chk (hQ ((a.1:Int),c) ((bZ b (cm (1:Int)) false).1)) (chk (iZ (c9 ((a.1:Int),c) ((bZ b (cm (1:Int)) false).1))) (some (((q4 (c9 ((a.1:Int),c) ((bZ b (cm (1:Int)) false).1))).1:Zg),((q4 (c9 ((a.1:Int),c) ((bZ b (cm (1:Int)) false).1))).2:Int),()))))))) N (0:Int) ([]:Ze)
def Γ36:Gam:=[(34,g34),(37,g37),(38,g38),(65,g65),(74,g74)]
theorem Tu:Gam.get Γ36 34=some g34/\Gam.get Γ36 37=some g37/\Gam.get Γ36 38=some g38/\Gam.get Γ36 65=some g65/\Gam.get Γ36 74=some g74:=⟨rfl,rfl,rfl,rfl,rfl⟩
def xx:List Bool:=[O,I,I,O,O,O,I,I]
def Hn:Nm:=⟨xx,[.box 6 1 68 Y68],false⟩
theorem Tv:NmS Hn xx [.box 6 1 68 Y68] false:=nmS
def Ho:List Bool:=[O,I,O,O,O,O,I]
def Tw:Nm:=⟨Ho,[],false⟩
theorem qSg:NmS Tw Ho [] false:=nmS
def Hp:Nat->Nm:=fun i=>if i=3 then Hn else ⟨[],[],false⟩
def Hq:Nat->Option Nm:=fun i=>if i=0 then some Tw else none
theorem p36:qi tr0 (Tryz.f36.body.getD .skip)=true:=by kernel_rfl
def T36 (N:Nat):Tab:={tr:=tr0,lp:=Hp,ex:=Hq,rg:=rg0,jn:=jn0,fuel:=N}
theorem qTO (N:Nat):qj Tryz.prog (T36 N):=qn fun _=>rfl
theorem Hr (N:Nat):qr (T36 N) tr0 Hp Hq rg0 jn0 N false:=qt
def Tx:Code:=cut [I,I,O,I,I,I] (Tryz.f36.body.getD .skip)
theorem qTm (N:Nat) (a:Zb) (f:Int) (g:Ze) (d:Int) {k0:(Ze)->ZO [i29,i3]} {Q:ZQ [i29,i3]} {c:Code} (j:c=Tx) (l: ∀st,Q .ret st=qz tt true [i29,i3] [.tmp 4,.tmp 5] st) (i: ∀(h:Ze),Q (.exit 0) ⟨[u,.one (.sl 3 Zd a 2),u,u,u,u,.one (.ptr 0 0 0),u,u,u,u,u,u,u,u,u,u,u,u,u,u,u,u,u,u,u,u,u,u,u,u,u,u,u,u,u,u,u,u,u,u,u,u,u,u,u,u,u,u,u,u,u,u,u,u,u,u,u,u,u,u,u,u,u],[.box [.int .i64 d,.own 1],.row 68 Y68 h true true 0]⟩=k0 h): ∀(n:Nat) (b:Int) (e:Ze),qw (qd tt Γ36 (T36 N) c) false Hn Q n ⟨[u,.one (.sl 3 Zd a 3),.one (.ptr 0 0 0),u,u,u,.one (.ptr 1 0 0),.one (.int .i64 b),u,u,u,u,u,u,u,u,u,u,u,u,u,u,u,u,u,u,u,u,u,u,u,u,u,u,u,u,u,u,u,u,u,u,u,u,u,u,u,u,u,u,u,u,u,u,u,u,u,u,u,u,u,u,u,u],[.box [.int .i64 f,.sl 68 Y68 g 3],.box [.int .i64 d,.own 2],.row 68 Y68 e true true 0]⟩=jB N a f g d k0 n b e:=by
 intro n;induction n with
 | zero=>intros;rfl
 | succ n k=>
   intro b e
   rw [qD,qE j,jB];unfold Tx Tryz.f36
   simp (maxSteps:=10000000) -implicitDefEqProofs [Hr,Hq,Tv,xx,qSg,Ho,Tu,g65,i,k]
theorem qNt (N:Nat) (a:Zj) (b:Zb):qd tt Γ36 (T36 N) (Tryz.f36.body.getD .skip) (qk tt true [i29,i3] [.tmp 4,.tmp 5]) (qm [i35,i25] 64 (a,b,()))=m36 N a b:=by
 unfold Tryz.f36
 simp (maxSteps:=10000000) -implicitDefEqProofs [Hr,Hp,Tv,xx]
 rewrite [qTm N _ _ _ _ ?_ ?_ ?_]
 ·rewrite [m36];first | rfl | simp -implicitDefEqProofs []
 ·rfl
 ·intro;simp only [qA,qC,qJ]
 ·intro c;simp (maxSteps:=10000000) -implicitDefEqProofs [Hr,Tu,g34,g37,g38,g74]
def g17:G:={ps:=[i35,i25],rs:=[i31],dp:=false,pre:=fun x=>xv x.1 x.2.1,fn:=fun x=>(eP x.1 x.2.1,())}
def m17 (N:Nat) (a:Zj) (b:Zb):ZO [i31]:=chk (b8 a) (bif (!((qI a):Bool))then (some (((3:Int),((0:Int),(0:Int)),false,([]:Zg),([]:Zg),([]:Zb)),()))else (chk (mK b (a.1:Int)) (bif (!((hK b (a.1:Int)):Bool))then (some (((3:Int),((0:Int),(0:Int)),false,([]:Zg),([]:Zg),([]:Zb)),()))else (bif (decide ((16:Int)<=((a.2:Ze).length:Int)))then (some (((3:Int),((0:Int),(0:Int)),false,([]:Zg),([]:Zg),([]:Zb)),()))else (chk (hL a b) (chk (iZ a) (bif (!((qX a b).2:Bool))then (some (((3:Int),((0:Int),(0:Int)),false,([]:Zg),([]:Zg),([]:Zb)),()))else (bif (decide (((q4 a).2:Int)=(2:Int)))then (some (((3:Int),((0:Int),(0:Int)),false,([]:Zg),([]:Zg),([]:Zb)),()))else (bif (decide (((q4 a).2:Int)=(1:Int)))then (chk (mW a) (bif (!((dA a).2:Bool))then (some (((3:Int),((0:Int),(0:Int)),false,([]:Zg),([]:Zg),([]:Zb)),()))else (some (((1:Int),((0:Int),(0:Int)),false,([]:Zg),([]:Zg),((dA a).1:Zb)),()))))else (bif (!((((((qX a b).1).2).2).2).1:Bool))then (chk (xr a b) (bif (!(decide (((mX a b).2:Int)=(0:Int))))then (some (((3:Int),((0:Int),(0:Int)),false,([]:Zg),([]:Zg),([]:Zb)),()))else (some (((2:Int),((0:Int),(0:Int)),false,((q4 a).1:Zg),((mX a b).1:Zg),([]:Zb)),()))))else (chk (gI b (((((((qX a b).1).2).2).2).2).1) (!((((((((qX a b).1).2).2).2).2).2).1:Bool))) (bif (!((bZ b (((((((qX a b).1).2).2).2).2).1) (!((((((((qX a b).1).2).2).2).2).2).1:Bool))).2:Bool))then (some (((3:Int),((0:Int),(0:Int)),false,([]:Zg),([]:Zg),([]:Zb)),()))else (chk (hQ a ((bZ b (((((((qX a b).1).2).2).2).2).1) (!((((((((qX a b).1).2).2).2).2).2).1:Bool))).1)) (chk (mW (c9 a ((bZ b (((((((qX a b).1).2).2).2).2).1) (!((((((((qX a b).1).2).2).2).2).2).1:Bool))).1))) (bif (!((dA (c9 a ((bZ b (((((((qX a b).1).2).2).2).2).1) (!((((((((qX a b).1).2).2).2).2).2).1:Bool))).1))).2:Bool))then (some (((3:Int),((0:Int),(0:Int)),false,([]:Zg),([]:Zg),([]:Zb)),()))else (bif ((((((((qX a b).1).2).2).2).2).2).1:Bool)then (some (((0:Int),((((((qX a b).1).2).2).2).2).1,false,([]:Zg),([]:Zg),((dA (c9 a ((bZ b (((((((qX a b).1).2).2).2).2).1) (!((((((((qX a b).1).2).2).2).2).2).1:Bool))).1))).1:Zb)),()))else (chk (gI b (((((((qX a b).1).2).2).2).2).1) false) (chk (hQ a ((bZ b (((((((qX a b).1).2).2).2).2).1) false).1)) (chk (iZ (c9 a ((bZ b (((((((qX a b).1).2).2).2).2).1) false).1))) (bif (!((bZ b (((((((qX a b).1).2).2).2).2).1) false).2:Bool))then (some (((3:Int),((0:Int),(0:Int)),false,([]:Zg),([]:Zg),([]:Zb)),()))else (bif (!(decide (((q4 (c9 a ((bZ b (((((((qX a b).1).2).2).2).2).1) false).1))).2:Int)=(0:Int))))then (some (((3:Int),((0:Int),(0:Int)),false,([]:Zg),([]:Zg),([]:Zb)),()))else (some (((0:Int),((((((qX a b).1).2).2).2).2).1,true,((q4 (c9 a ((bZ b (((((((qX a b).1).2).2).2).2).1) false).1))).1:Zg),([]:Zg),((dA (c9 a ((bZ b (((((((qX a b).1).2).2).2).2).1) (!((((((((qX a b).1).2).2).2).2).2).1:Bool))).1))).1:Zb)),())))))))))))))))))))))))
def Γ17:Gam:=[(31,g31),(32,g32),(33,g33),(34,g34),(35,g35),(36,g36),(37,g37),(38,g38)]
theorem qTk:Gam.get Γ17 31=some g31/\Gam.get Γ17 32=some g32/\Gam.get Γ17 33=some g33/\Gam.get Γ17 34=some g34/\Gam.get Γ17 35=some g35/\Gam.get Γ17 36=some g36/\Gam.get Γ17 37=some g37/\Gam.get Γ17 38=some g38:=⟨rfl,rfl,rfl,rfl,rfl,rfl,rfl,rfl⟩
theorem p17:qi tr0 (Tryz.f17.body.getD .skip)=true:=by kernel_rfl
def T17 (N:Nat):Tab:={tr:=tr0,lp:=lp0,ex:=ex0,rg:=rg0,jn:=jn0,fuel:=N}
theorem qVZ (N:Nat):qj Tryz.prog (T17 N):=qn fun _=>rfl
theorem qVb (N:Nat):qr (T17 N) tr0 lp0 ex0 rg0 jn0 N false:=qt
theorem qQH (N:Nat) (a:Zj) (b:Zb):qd tt Γ17 (T17 N) (Tryz.f17.body.getD .skip) (qk tt false [i31] [.cell 4 31]) (qm [i35,i25] 140 (a,b,()))=m17 N a b:=by
 rw [m17];unfold Tryz.f17
 simp (maxSteps:=10000000) -implicitDefEqProofs [qVb,qTk,g31,g32,g33,g34,g35,g36,g37,g38]
 try rfl
def g5:G:={ps:=[i35,i25],rs:=[i31],dp:=false,pre:=fun x=>h0 x.1 x.2.1,fn:=fun x=>(qV x.1 x.2.1,())}
def m5 (N:Nat) (a:Zj) (b:Zb):ZO [i31]:=chk (xv a b) (chk (jl a b (eP a b)) (bif (!((dE a b (eP a b)):Bool))then (some (((3:Int),((0:Int),(0:Int)),false,([]:Zg),([]:Zg),([]:Zb)),()))else (some ((eP a b),()))))
def Γ5:Gam:=[(17,g17),(18,g18)]
theorem qRd:Gam.get Γ5 17=some g17/\Gam.get Γ5 18=some g18:=⟨rfl,rfl⟩
theorem p5:qi tr0 (Tryz.f5.body.getD .skip)=true:=by kernel_rfl
def T5 (N:Nat):Tab:={tr:=tr0,lp:=lp0,ex:=ex0,rg:=rg0,jn:=jn0,fuel:=N}
theorem tb5 (N:Nat):qj Tryz.prog (T5 N):=qn fun _=>rfl
theorem qRx (N:Nat):qr (T5 N) tr0 lp0 ex0 rg0 jn0 N false:=qt
theorem qZ7 (N:Nat) (a:Zj) (b:Zb):qd tt Γ5 (T5 N) (Tryz.f5.body.getD .skip) (qk tt false [i31] [.cell 4 31]) (qm [i35,i25] 16 (a,b,()))=m5 N a b:=by
 rw [m5];unfold Tryz.f5
 simp (maxSteps:=10000000) -implicitDefEqProofs [qRx,qRd,g17,g18]
 try rfl
def k5 (x:Zb) (k:Int):Zb:=(mkT (.slice 3 Zd) x k).1
def eQ (x:Zb) (k:Int):Int:=(mkT (.slice 3 Zd) x k).2
def jC (x:Zb) (k:Int):Prop:=Bd (.slice 3 Zd) x/\k<=9223372036854775807
def h3:Gms:=⟨3,Zd,jC,k5,eQ⟩
def k7 (N:Nat) (k0:Int->(Zb)->Option ((Zb)×Int)):Nat->Int->Int->(Zb)->Option ((Zb)×Int)
 | 0,_,_,_=>none
 | n+1,c,a,b=>bif (decide (a<(b.length:Int)))then (chk (0<=a/\a<(b.length:Int)) (chk (a.toNat<b.length) (k7 N k0 n (IntKind.i64.wrap (c+(1:Int))) (IntKind.i64.wrap (a+(1:Int))) (b.set a.toNat c))))else (k0 c b)
def m13 (N:Nat) (a:Zb) (b:Int):Option ((Zb)×Int):=k7 N (fun (c:Int) (d:Zb)=>some (d,c)) N b (0:Int) a
def Γ13:Gam:=[]
def xy:List Bool:=[I,I,O,O,O,I]
def Hs:Nm:=⟨xy,[],false⟩
theorem Tz:NmS Hs xy [] false:=nmS
def Ht:List Bool:=[O,I]
def TA:Nm:=⟨Ht,[],false⟩
theorem q3f:NmS TA Ht [] false:=nmS
def pS:Sem:=hh [] []
def Hu:Nat->Nm:=fun i=>if i=2 then Hs else ⟨[],[],false⟩
def Hv:Nat->Option Nm:=fun i=>if i=0 then some TA else none
theorem p13:qi tr0 (Tryz.f13.body.getD .skip)=true:=by kernel_rfl
def T13 (N:Nat):Tab:={tr:=tr0,lp:=Hu,ex:=Hv,rg:=rg0,jn:=jn0,fuel:=N,pins:=true,sem:=pS}
theorem qXs (N:Nat):qj Tryz.prog (T13 N):=qn fun _=>rfl
theorem Hw (N:Nat):fC (T13 N) tr0 Hu Hv rg0 jn0 N true pS:=gf
def TB:Code:=cut [I,O,I,I,I] (Tryz.f13.body.getD .skip)
theorem qQ8 (N:Nat) {k0:Int->(Zb)->Option ((Zb)×Int)} {Q:X->St->Option ((Zb)×Int)} {c:Code} (h:c=TB) (j: ∀st,Q .ret st=fD tt (.slice 3 Zd) [.own 0] [.tmp 4] st) (g: ∀(e:Int) (f:Zb),Q (.exit 0) ⟨[u,.one (.int .i64 e),u,u,u,u,u,u,u,u,u,u,u,u,u,u,u,u,u],[.row 3 Zd f true true 0]⟩=k0 e f): ∀(n:Nat) (a b:Int) (d:Zb),qw (qd tt Γ13 (T13 N) c) true Hs Q n ⟨[.one (.own 0),.one (.int .i64 a),u,u,u,.one (.int .i64 b),u,u,u,u,u,u,u,u,u,u,u,u,u],[.row 3 Zd d true true 0]⟩=k7 N k0 n a b d:=by
 intro n;induction n with
 | zero=>intros;rfl
 | succ n i=>
   intro a b d
   rw [qD,qE h,k7];unfold TB Tryz.f13
   simp -implicitDefEqProofs [Hw,Hv,pS,Tz,xy,q3f,Ht,g,i]
theorem qWt (N:Nat) (a:Zb) (b:Int):qd tt Γ13 (T13 N) (Tryz.f13.body.getD .skip) (e2 (fD tt (.slice 3 Zd) (q9 0 (.slice 3 Zd) a).1 [.tmp 4])) (e1 i25 19 a b)=m13 N a b:=by
 unfold Tryz.f13
 simp -implicitDefEqProofs [Hw,Hu,pS,e1,Tz,xy]
 rewrite [qQ8 N ?_ ?_ ?_]
 ·rewrite [m13];first | rfl | simp -implicitDefEqProofs []
 ·rfl
 ·intro;simp only [qA,qC,iu]
 ·intro c d;simp -implicitDefEqProofs [Hw,pS,iu]
theorem e13 (x:Zb) (k:Int) (h:jC x k): ∃N,m13 N x k=some (k5 x k,eQ x k):=⟨x.length+1,by
 rw [m13]
 refine Kx (f:=mkE Zd) (F:=fun n i k s=>k7 _ _ n k i s) (kf:=fun k s=>some (s,k)) x h.1.1 (j0 _) (fun n i k s a _ b=> ?_) (fun n i k s b a=> ?_) _ k h.2 (Nat.lt_succ_self _)
 ·rw [k7,qg (by omega),qc (by omega),qc (by omega)]
  rfl
 ·rw [k7,qf (by omega)]⟩
theorem Hx:SoundMs Tryz.prog 13 h3:=Kv (tt:=tt) (Γ:=Γ13) hT ql hm (fn:=Tryz.f13) Tryz.func13 (c:=Tryz.f13.body.getD .skip) (by kernel_rfl) (by kernel_rfl) rfl fun x n a=>by
 obtain ⟨N,h⟩:=e13 x n a
 exact ⟨T13 N,rfl,p13,⟨ma mb me,qXs N⟩,(qWt N x n).trans h⟩
def xz (x:Ze) (k:Int):Ze:=(mkT (.slice 68 Y68) x k).1
def Hy (x:Ze) (k:Int):Int:=(mkT (.slice 68 Y68) x k).2
def xA (x:Ze) (k:Int):Prop:=Bd (.slice 68 Y68) x/\k<=9223372036854775807
def Hz:Gms:=⟨68,Y68,xA,xz,Hy⟩
def k9 (N:Nat) (e:List (Val (hd Y68))) (k0:Int->(List (Val H68))->(Ze)->Option (List (Val H68)×Ze×Int)):Nat->Int->Int->(List (Val H68))->(Ze)->Option (List (Val H68)×Ze×Int)
 | 0,_,_,_,_=>none
 | n+1,d,a,b,c=>bif (decide (a<(b.length:Int)))then (chk (0<=a/\a<(b.length:Int)) (chk (a.toNat<b.length) (chk (a.toNat<c.length/\a.toNat<e.length/\((e.getD a.toNat (qa (hd Y68)):Val H68).1:Value)=((b.getD a.toNat (qa H68)).1:Value)/\jC ((c.getD a.toNat (qa Y68)).1:Zb) d) (chk (0<=a/\a<(b.length:Int)) (chk (a.toNat<b.length) (chk ((3:Int)≠0) (chk (0<=a/\a<((b.set a.toNat (((b.getD a.toNat (qa H68)).1:Value),((eQ ((c.getD a.toNat (qa Y68)).1:Zb) d),(((b.getD a.toNat (qa H68)).2).2:Bool)))).length:Int)) (chk (a.toNat<(b.set a.toNat (((b.getD a.toNat (qa H68)).1:Value),((eQ ((c.getD a.toNat (qa Y68)).1:Zb) d),(((b.getD a.toNat (qa H68)).2).2:Bool)))).length) (k9 N e k0 n (IntKind.i64.wrap ((IntKind.i64.wrap ((eQ ((c.getD a.toNat (qa Y68)).1:Zb) d)+(1:Int)))+(1:Int))) (IntKind.i64.wrap (a+(1:Int))) ((b.set a.toNat (((b.getD a.toNat (qa H68)).1:Value),((eQ ((c.getD a.toNat (qa Y68)).1:Zb) d),(((b.getD a.toNat (qa H68)).2).2:Bool)))).set a.toNat ((((b.set a.toNat (((b.getD a.toNat (qa H68)).1:Value),((eQ ((c.getD a.toNat (qa Y68)).1:Zb) d),(((b.getD a.toNat (qa H68)).2).2:Bool)))).getD a.toNat (qa H68)).1:Value),(((((b.set a.toNat (((b.getD a.toNat (qa H68)).1:Value),((eQ ((c.getD a.toNat (qa Y68)).1:Zb) d),(((b.getD a.toNat (qa H68)).2).2:Bool)))).getD a.toNat (qa H68)).2).1:Int),(decide (((IntKind.i64.wrap ((eQ ((c.getD a.toNat (qa Y68)).1:Zb) d)+(1:Int))).tmod (3:Int))=(0:Int)))))) (c.set a.toNat ((k5 ((c.getD a.toNat (qa Y68)).1:Zb) d),(c.getD a.toNat (qa Y68)).2)))))))))))else (k0 d b c)
def m26 (N:Nat) (a:List (Val (hd Y68))) (b:Ze) (f:Int):Option (List (Val H68)×Ze×Int):=k9 N a (fun (c:Int) (d:List (Val H68)) (e:Ze)=>some (d,e,c)) N f (0:Int) a b
def Γ26:Gam:=[]
theorem qYm:Gam.get Γ26 13=none:=rfl
def xB:List Bool:=[I,I,O,O,O,I]
def HA:Nm:=⟨xB,[],false⟩
theorem TC:NmS HA xB [] false:=nmS
def HB:List Bool:=[O,I]
def TD:Nm:=⟨HB,[],false⟩
theorem qSN:NmS TD HB [] false:=nmS
def pT:Sem:=hh [] [(18,13,h3,0,13)]
def HC:Nat->Nm:=fun i=>if i=2 then HA else ⟨[],[],false⟩
def HD:Nat->Option Nm:=fun i=>if i=0 then some TD else none
theorem p26:qi tr0 (Tryz.f26.body.getD .skip)=true:=by kernel_rfl
def T26 (N:Nat):Tab:={tr:=tr0,lp:=HC,ex:=HD,rg:=rg0,jn:=jn0,fuel:=N,pins:=true,sem:=pT}
theorem q0S (N:Nat):qj Tryz.prog (T26 N):=qn fun _=>rfl
theorem HE (N:Nat):fC (T26 N) tr0 HC HD rg0 jn0 N true pT:=gf
def TE:Code:=cut [I,O,I,I,I] (Tryz.f26.body.getD .skip)
theorem qSR (N:Nat) (F:List Nat) (a:List (Val (hd Y68))) {k0:Int->(List (Val H68))->(Ze)->Option (List (Val H68)×Ze×Int)} {Q:X->St->Option (List (Val H68)×Ze×Int)} {c:Code} (k:c=TE) (m: ∀st,Q .ret st=l9 tt 68 Y68 H68 F a [.tmp 4] st) (j: ∀(h:Int) (i:List (Val H68)) (g:Ze),Q (.exit 0) ⟨[u,.one (.int .i64 h),u,u,u,u,u,u,u,u,u,u,u,u,u,u,u,u,u,u,u,u,u,u,u,u,u,u,u,u,u,u,u,u,u,u],[.row 68 H68 i true true 0,.nst F Y68 a g]⟩=k0 h i g): ∀(n:Nat) (b d:Int) (e:List (Val H68)) (f:Ze),qw (qd tt Γ26 (T26 N) c) true HA Q n ⟨[.one (.own 0),.one (.int .i64 b),u,u,u,.one (.int .i64 d),u,u,u,u,u,u,u,u,u,u,u,u,u,u,u,u,u,u,u,u,u,u,u,u,u,u,u,u,u,u],[.row 68 H68 e true true 0,.nst F Y68 a f]⟩=k9 N a k0 n b d e f:=by
 intro n;induction n with
 | zero=>intros;rfl
 | succ n l=>
   intro b d e f
   rw [qD,qE k,k9];unfold TE Tryz.f26
   simp -implicitDefEqProofs [HE,HD,pT,ir,h3,TC,xB,qSN,HB,qYm,j,l]
theorem qZm (N:Nat) (F:List Nat) (a:List (Val (hd Y68))) (b:Ze) (c:Int):qd tt Γ26 (T26 N) (Tryz.f26.body.getD .skip) (e2 (l9 tt 68 Y68 H68 F a [.tmp 4])) ⟨[.one (.own 0),.one (.int .i64 c),.tup [],.tup [],.tup [],.tup [],.tup [],.tup [],.tup [],.tup [],.tup [],.tup [],.tup [],.tup [],.tup [],.tup [],.tup [],.tup [],.tup [],.tup [],.tup [],.tup [],.tup [],.tup [],.tup [],.tup [],.tup [],.tup [],.tup [],.tup [],.tup [],.tup [],.tup [],.tup [],.tup [],.tup []],[.row 68 H68 a true true 0,.nst F Y68 a b]⟩=m26 N a b c:=by
 unfold Tryz.f26
 simp -implicitDefEqProofs [HE,HC,pT,h3,TC,xB]
 rewrite [qSR N _ _ ?_ ?_ ?_]
 ·rewrite [m26];first | rfl | simp -implicitDefEqProofs []
 ·rfl
 ·intro;simp only [qA,qC,iu]
 ·intro d e f;simp -implicitDefEqProofs [HE,pT,h3,iu]
theorem e26 (hs:List (Val (hd Y68))) (xs:Ze) (k:Int) (h:xA xs k) (c:xs.length=hs.length) (j:qZ Y68 xs hs=hs):
 ∃N vs,vs.map (bW Y68)=(xz xs k).map (bW Y68)/\m26 N hs xs k=some (qZ Y68 (xz xs k) hs,vs,Hy xs k):=by
 refine ⟨xs.length+1,?_⟩
 rw [m26]
 refine We (t:=Y68) (F:=fun n i k ys vs=>k9 _ hs _ n k i ys vs) (kf:=fun k ys vs=>some (ys,vs,k)) xs c j (by rw [<-c];exact h.1.1) (fun n i k fs vs e b m hk d q l ⟨o,g⟩=> ?_) (fun n i k ys vs c e=> ?_) _ k h.2 (Nat.lt_succ_self _)
 ·have p:(qZ Y68 fs hs).length=hs.length:=r1 d
  have a:vs[i].1=fs[i].1:=(Prod.mk.inj l).1
  refine ⟨(k5 vs[i].1 k,vs[i].2),?_,?_⟩
  ·show ((k5 vs[i].1 k,(0,false)):Zf)=(k5 fs[i].1 k,(0,false))
   rw [a]
  ·have f:jC vs[i].1 k:=⟨by rw [a,g];exact (h.1.2 _ (List.getElem_mem o)).1,hk⟩
   rw [k9,qg (by omega),qc (by omega),qc (by omega),Wf e b d,qB m,qB b,qc ⟨by omega,by omega,rfl,f⟩,qc (by omega),qc (by omega),qc (by decide),qc (by rw [List.length_set];omega),qc (by rw [List.length_set];omega),List.set_set,V7 (by omega),Int.toNat_natCast]
   rw [<-Wg b d]
   simp only [a]
   rfl
 ·rw [k9,qf (by omega)]
theorem qSk:SoundMs Tryz.prog 26 Hz:=Wc (tt:=tt) (Γ:=Γ26) hT ql hm (fn:=Tryz.f26) Tryz.func26 (c:=Tryz.f26.body.getD .skip) (by kernel_rfl) (by kernel_rfl) fun xs hs n F d a b=>by
 obtain ⟨N,vs,h1,h2⟩:=e26 hs xs n d a b
 exact ⟨T26 N,vs,rfl,p26,⟨ma mb (Wd Hx me),q0S N⟩,h1,(qZm N F hs xs n).trans h2⟩
def TF (x:Zj) (k:Int):Zj:=(mkT Y35 x k).1
def h4 (x:Zj) (k:Int):Int:=(mkT Y35 x k).2
def xC (x:Zj) (k:Int):Prop:=Bd Y35 x/\k<=9223372036854775807
def HF:Gm:=⟨i35,xC,TF,h4⟩
def m12 (N:Nat) (a:Zj) (b:Int):Option ((Zj)×Int):=chk (xA (a.2:Ze) b) (some (((a.1:Int),((xz (a.2:Ze) b):Ze)),(Hy (a.2:Ze) b)))
def Γ12:Gam:=[]
theorem qSQ:Gam.get Γ12 26=none:=rfl
def HG:Sem:=hh [(26,Hz.gm)] []
theorem p12:qi tr0 (Tryz.f12.body.getD .skip)=true:=by kernel_rfl
def T12 (N:Nat):Tab:={tr:=tr0,lp:=lp0,ex:=ex0,rg:=rg0,jn:=jn0,fuel:=N,pins:=true,sem:=HG}
theorem qWg (N:Nat):qj Tryz.prog (T12 N):=qn fun _=>rfl
theorem q0D (N:Nat):fC (T12 N) tr0 lp0 ex0 rg0 jn0 N true HG:=gf
theorem qWU (N:Nat) (a:Zj) (b:Int):qd tt Γ12 (T12 N) (Tryz.f12.body.getD .skip) (e2 (fD tt Y35 (q9 0 Y35 a).1 [.tmp 4])) (e1 i35 10 a b)=m12 N a b:=by
 rw [m12];unfold Tryz.f12
 simp -implicitDefEqProofs [q0D,HG,ir,Hz,iu,e1,qSQ]
 try rfl
theorem e12 (x:Zj) (k:Int) (h:xC x k): ∃N,m12 N x k=some (TF x k,h4 x k):=⟨0,by
 rw [m12,qc (show xA _ k from ⟨h.1.2,h.2⟩)]
 rfl⟩
theorem q29:SoundM Tryz.prog 12 HF:=yX (tt:=tt) (Γ:=Γ12) hT ql hm (fn:=Tryz.f12) Tryz.func12 (c:=Tryz.f12.body.getD .skip) (by kernel_rfl) (by kernel_rfl) fun x n a=>by
 obtain ⟨N,h⟩:=e12 x n a
 exact ⟨T12 N,rfl,p12,⟨ma (mc qSk.gm mb) me,qWg N⟩,(qWU N x n).trans h⟩
def pU (x:Zb) (k:Int):Int:=(mkT (.slice 3 Zd) x k).2
def xD (x:Zb) (k:Int):Prop:=y9 (.slice 3 Zd) x k
def la (N:Nat) (b:Zb) (k0:Int->ZO [i3]):Nat->Int->Int->ZO [i3]
 | 0,_,_=>none
 | n+1,c,a=>bif (decide (a<(b.length:Int)))then (chk (0<=a/\a<(b.length:Int)) (bif (!(decide (((b.getD a.toNat (qa Zd)):Int)=c)))then (some ((-1:Int),()))else (la N b k0 n (IntKind.i64.wrap (c+(1:Int))) (IntKind.i64.wrap (a+(1:Int))))))else (k0 c)
def m29 (N:Nat) (a:Zb) (b:Int):ZO [i3]:=la N a (fun (c:Int)=>some (c,())) N b (0:Int)
def Γ29:Gam:=[]
def xE:List Bool:=[I,I,O,O,O,I]
def HH:Nm:=⟨xE,[],false⟩
theorem TG:NmS HH xE [] false:=nmS
def HI:List Bool:=[O,I]
def TH:Nm:=⟨HI,[],false⟩
theorem qT2:NmS TH HI [] false:=nmS
def HJ:Nat->Nm:=fun i=>if i=2 then HH else ⟨[],[],false⟩
def HK:Nat->Option Nm:=fun i=>if i=0 then some TH else none
theorem p29:qi tr0 (Tryz.f29.body.getD .skip)=true:=by kernel_rfl
def T29 (N:Nat):Tab:={tr:=tr0,lp:=HJ,ex:=HK,rg:=rg0,jn:=jn0,fuel:=N}
theorem q1N (N:Nat):qj Tryz.prog (T29 N):=qn fun _=>rfl
theorem HL (N:Nat):qr (T29 N) tr0 HJ HK rg0 jn0 N false:=qt
def TJ:Code:=cut [I,O,I,I,I] (Tryz.f29.body.getD .skip)
theorem qX1 (N:Nat) (d:Zb) {k0:Int->ZO [i3]} {Q:ZQ [i3]} {c:Code} (g:c=TJ) (h: ∀st,Q .ret st=qz tt true [i3] [.tmp 4] st) (f: ∀(e:Int),Q (.exit 0) ⟨[u,.one (.int .i64 e),u,u,u,u,u,u,u,u,u,u,u,u,u,u,u,u,u,u,u],[]⟩=k0 e): ∀(n:Nat) (a b:Int),qw (qd tt Γ29 (T29 N) c) false HH Q n ⟨[.one (.sl 3 Zd d 0),.one (.int .i64 a),u,u,u,.one (.int .i64 b),u,u,u,u,u,u,u,u,u,u,u,u,u,u,u],[]⟩=la N d k0 n a b:=by
 intro n;induction n with
 | zero=>intros;rfl
 | succ n i=>
   intro a b
   rw [qD,qE g,la];unfold TJ Tryz.f29
   simp -implicitDefEqProofs [HL,HK,TG,xE,qT2,HI,h,f,i]
theorem qZ3 (N:Nat) (a:Zb) (b:Int):qd tt Γ29 (T29 N) (Tryz.f29.body.getD .skip) (qk tt true [i3] [.tmp 4]) (qm [i25,i3] 21 (a,b,()))=m29 N a b:=by
 unfold Tryz.f29
 simp -implicitDefEqProofs [HL,HJ,TG,xE]
 rewrite [qX1 N _ ?_ ?_ ?_]
 ·rewrite [m29];first | rfl | simp -implicitDefEqProofs []
 ·rfl
 ·intro;simp only [qA,qC,qJ]
 ·intro c;simp -implicitDefEqProofs [HL]
def g29:G:={ps:=[i25,i3],rs:=[i3],dp:=true,pre:=fun x=>xD x.1 x.2.1,fn:=fun x=>(pU x.1 x.2.1,())}
theorem e29 (x:Zb) (k:Int) (h:xD x k): ∃N,m29 N x k=some (pU x k,()):=⟨x.length+1,by
 obtain ⟨hm,c,b,e⟩:=h
 rw [m29]
 refine KA (t:= .int .i64) (F:=fun n i k=>la _ x _ n k i) (kf:=fun k=>some (k,())) x c.1 (fun n i k d a b c=> ?_) (fun n i k d=> ?_) _ k (Nat.lt_succ_self _) hm b e
 ·have a:k=x[i]:=a
  rw [la,qg (by omega),qc (by omega),qB d,b4,qg a.symm]
  rfl
 ·rw [la,qf (by omega)]⟩
theorem s29:Sound Tryz.prog 29 g29:=qo (tt:=tt) (Γ:=Γ29) hT ql hm (fn:=Tryz.f29) Tryz.func29 (c:=Tryz.f29.body.getD .skip) (by kernel_rfl) (by kernel_rfl) fun x a=>by
 obtain ⟨N,h⟩:=e29 x.1 x.2.1 a
 exact ⟨T29 N,p29,qp _,q1N N,(qZ3 N x.1 x.2.1).trans h⟩
def xF (x:Zg) (k:Int):Zg:=(mkT (.slice 28 Y28) x k).1
def eR (x:Zg) (k:Int):Int:=(mkT (.slice 28 Y28) x k).2
def mY (x:Zg) (k:Int):Prop:=Bd (.slice 28 Y28) x/\k<=9223372036854775807
def HM:Gms:=⟨28,Y28,mY,xF,eR⟩
def lb (N:Nat) (k0:Int->(Zg)->Option ((Zg)×Int)):Nat->Int->Int->(Zg)->Option ((Zg)×Int)
 | 0,_,_,_=>none
 | n+1,c,a,b=>bif (decide (a<(b.length:Int)))then (chk (0<=a/\a<(b.length:Int)) (chk (a.toNat<b.length) (chk (0<=a/\a<((b.set a.toNat (c,((b.getD a.toNat (qa Y28)).2:Int))).length:Int)) (chk (a.toNat<(b.set a.toNat (c,((b.getD a.toNat (qa Y28)).2:Int))).length) (lb N k0 n (IntKind.i64.wrap ((IntKind.i64.wrap (c+(1:Int)))+(1:Int))) (IntKind.i64.wrap (a+(1:Int))) ((b.set a.toNat (c,((b.getD a.toNat (qa Y28)).2:Int))).set a.toNat ((((b.set a.toNat (c,((b.getD a.toNat (qa Y28)).2:Int))).getD a.toNat (qa Y28)).1:Int),(IntKind.i64.wrap (c+(1:Int))))))))))else (k0 c b)
def m27 (N:Nat) (a:Zg) (b:Int):Option ((Zg)×Int):=lb N (fun (c:Int) (d:Zg)=>some (d,c)) N b (0:Int) a
def Γ27:Gam:=[]
def xG:List Bool:=[I,I,O,O,O,I]
def HO:Nm:=⟨xG,[],false⟩
theorem TK:NmS HO xG [] false:=nmS
def HP:List Bool:=[O,I]
def TL:Nm:=⟨HP,[],false⟩
theorem qWT:NmS TL HP [] false:=nmS
def pV:Sem:=hh [] []
def HQ:Nat->Nm:=fun i=>if i=2 then HO else ⟨[],[],false⟩
def HS:Nat->Option Nm:=fun i=>if i=0 then some TL else none
theorem p27:qi tr0 (Tryz.f27.body.getD .skip)=true:=by kernel_rfl
def T27 (N:Nat):Tab:={tr:=tr0,lp:=HQ,ex:=HS,rg:=rg0,jn:=jn0,fuel:=N,pins:=true,sem:=pV}
theorem q2Q (N:Nat):qj Tryz.prog (T27 N):=qn fun _=>rfl
theorem HT (N:Nat):fC (T27 N) tr0 HQ HS rg0 jn0 N true pV:=gf
def TM:Code:=cut [I,O,I,I,I] (Tryz.f27.body.getD .skip)
theorem q1p (N:Nat) {k0:Int->(Zg)->Option ((Zg)×Int)} {Q:X->St->Option ((Zg)×Int)} {c:Code} (h:c=TM) (j: ∀st,Q .ret st=fD tt (.slice 28 Y28) [.own 0] [.tmp 4] st) (g: ∀(e:Int) (f:Zg),Q (.exit 0) ⟨[u,.one (.int .i64 e),u,u,u,u,u,u,u,u,u,u,u,u,u,u,u,u,u,u,u,u,u,u,u,u,u],[.row 28 Y28 f true true 0]⟩=k0 e f): ∀(n:Nat) (a b:Int) (d:Zg),qw (qd tt Γ27 (T27 N) c) true HO Q n ⟨[.one (.own 0),.one (.int .i64 a),u,u,u,.one (.int .i64 b),u,u,u,u,u,u,u,u,u,u,u,u,u,u,u,u,u,u,u,u,u],[.row 28 Y28 d true true 0]⟩=lb N k0 n a b d:=by
 intro n;induction n with
 | zero=>intros;rfl
 | succ n i=>
   intro a b d
   rw [qD,qE h,lb];unfold TM Tryz.f27
   simp -implicitDefEqProofs [HT,HS,pV,TK,xG,qWT,HP,g,i]
theorem qO3 (N:Nat) (a:Zg) (b:Int):qd tt Γ27 (T27 N) (Tryz.f27.body.getD .skip) (e2 (fD tt (.slice 28 Y28) (q9 0 (.slice 28 Y28) a).1 [.tmp 4])) (e1 i29 27 a b)=m27 N a b:=by
 unfold Tryz.f27
 simp -implicitDefEqProofs [HT,HQ,pV,e1,TK,xG]
 rewrite [q1p N ?_ ?_ ?_]
 ·rewrite [m27];first | rfl | simp -implicitDefEqProofs []
 ·rfl
 ·intro;simp only [qA,qC,iu]
 ·intro c d;simp -implicitDefEqProofs [HT,pV,iu]
theorem e27 (x:Zg) (k:Int) (h:mY x k): ∃N,m27 N x k=some (xF x k,eR x k):=⟨x.length+1,by
 rw [m27]
 refine Kx (f:=mkE Y28) (F:=fun n i k s=>lb _ _ n k i s) (kf:=fun k s=>some (s,k)) x h.1.1 (j0 _) (fun n i k s a _ b=> ?_) (fun n i k s b a=> ?_) _ k h.2 (Nat.lt_succ_self _)
 ·have hle:x.length<=1048576:=h.1.1
  rw [lb,qg (by omega),qc (by omega),qc (by omega),qc (by rw [List.length_set];omega),qc (by rw [List.length_set];omega),Int.toNat_natCast,List.set_set]
  have e:(s.set i (k,((s.getD i (qa Y28)).2:Int))).getD i (qa Y28)=((k,((s.getD i (qa Y28)).2:Int)):Zh):=by
   simp [List.getD,a]
  rw [e]
  rfl
 ·rw [lb,qf (by omega)]⟩
theorem q3c:SoundMs Tryz.prog 27 HM:=Kv (tt:=tt) (Γ:=Γ27) hT ql hm (fn:=Tryz.f27) Tryz.func27 (c:=Tryz.f27.body.getD .skip) (by kernel_rfl) (by kernel_rfl) rfl fun x n a=>by
 obtain ⟨N,h⟩:=e27 x n a
 exact ⟨T27 N,rfl,p27,⟨ma mb me,q2Q N⟩,(qO3 N x n).trans h⟩
def cA (x:Zg) (k:Int):Int:=(mkT (.slice 28 Y28) x k).2
def mZ (x:Zg) (k:Int):Prop:=y9 (.slice 28 Y28) x k
def lf (N:Nat) (b:Zg) (k0:Int->ZO [i3]):Nat->Int->Int->ZO [i3]
 | 0,_,_=>none
 | n+1,c,a=>bif (decide (a<(b.length:Int)))then (chk (0<=a/\a<(b.length:Int)) (bif (!(decide (((b.getD a.toNat (qa Y28)).1:Int)=c)))then (some ((-1:Int),()))else (chk (0<=a/\a<(b.length:Int)) (bif (!(decide (((b.getD a.toNat (qa Y28)).2:Int)=(IntKind.i64.wrap (c+(1:Int))))))then (some ((-1:Int),()))else (lf N b k0 n (IntKind.i64.wrap ((IntKind.i64.wrap (c+(1:Int)))+(1:Int))) (IntKind.i64.wrap (a+(1:Int))))))))else (k0 c)
def m28 (N:Nat) (a:Zg) (b:Int):ZO [i3]:=lf N a (fun (c:Int)=>some (c,())) N b (0:Int)
def Γ28:Gam:=[]
def xH:List Bool:=[I,I,O,O,O,I]
def HU:Nm:=⟨xH,[],false⟩
theorem TN:NmS HU xH [] false:=nmS
def HV:List Bool:=[O,I]
def TO:Nm:=⟨HV,[],false⟩
theorem q2S:NmS TO HV [] false:=nmS
def HW:Nat->Nm:=fun i=>if i=2 then HU else ⟨[],[],false⟩
def HX:Nat->Option Nm:=fun i=>if i=0 then some TO else none
theorem p28:qi tr0 (Tryz.f28.body.getD .skip)=true:=by kernel_rfl
def T28 (N:Nat):Tab:={tr:=tr0,lp:=HW,ex:=HX,rg:=rg0,jn:=jn0,fuel:=N}
theorem qRt (N:Nat):qj Tryz.prog (T28 N):=qn fun _=>rfl
theorem HY (N:Nat):qr (T28 N) tr0 HW HX rg0 jn0 N false:=qt
def TP:Code:=cut [I,O,I,I,I] (Tryz.f28.body.getD .skip)
theorem q0U (N:Nat) (d:Zg) {k0:Int->ZO [i3]} {Q:ZQ [i3]} {c:Code} (g:c=TP) (h: ∀st,Q .ret st=qz tt true [i3] [.tmp 4] st) (f: ∀(e:Int),Q (.exit 0) ⟨[u,.one (.int .i64 e),u,u,u,u,u,u,u,u,u,u,u,u,u,u,u,u,u,u,u,u,u,u,u,u,u,u,u,u,u],[]⟩=k0 e): ∀(n:Nat) (a b:Int),qw (qd tt Γ28 (T28 N) c) false HU Q n ⟨[.one (.sl 28 Y28 d 0),.one (.int .i64 a),u,u,u,.one (.int .i64 b),u,u,u,u,u,u,u,u,u,u,u,u,u,u,u,u,u,u,u,u,u,u,u,u,u],[]⟩=lf N d k0 n a b:=by
 intro n;induction n with
 | zero=>intros;rfl
 | succ n i=>
   intro a b
   rw [qD,qE g,lf];unfold TP Tryz.f28
   simp -implicitDefEqProofs [HY,HX,TN,xH,q2S,HV,h,f,i]
theorem qY2 (N:Nat) (a:Zg) (b:Int):qd tt Γ28 (T28 N) (Tryz.f28.body.getD .skip) (qk tt true [i3] [.tmp 4]) (qm [i29,i3] 31 (a,b,()))=m28 N a b:=by
 unfold Tryz.f28
 simp -implicitDefEqProofs [HY,HW,TN,xH]
 rewrite [q0U N _ ?_ ?_ ?_]
 ·rewrite [m28];first | rfl | simp -implicitDefEqProofs []
 ·rfl
 ·intro;simp only [qA,qC,qJ]
 ·intro c;simp -implicitDefEqProofs [HY]
def g28:G:={ps:=[i29,i3],rs:=[i3],dp:=true,pre:=fun x=>mZ x.1 x.2.1,fn:=fun x=>(cA x.1 x.2.1,())}
theorem e28 (x:Zg) (k:Int) (h:mZ x k): ∃N,m28 N x k=some (cA x k,()):=⟨x.length+1,by
 obtain ⟨hm,a,b,e⟩:=h
 rw [m28]
 refine KA (t:=Y28) (F:=fun n i k=>lf _ x _ n k i) (kf:=fun k=>some (k,())) x a.1 (fun n i k c d b f=> ?_) (fun n i k c=> ?_) _ k (Nat.lt_succ_self _) hm b e
 ·have hle:x.length<=1048576:=a.1
  have h1:(k:Int)=x[i].1:=congrArg Prod.fst d
  have h2:IntKind.i64.wrap ((k:Int)+1)=x[i].2:=congrArg Prod.snd d
  rw [lf,qg (by omega),qc (by omega),qB c,b4,qg h1.symm,qc (by omega),b4,qg h2.symm]
  rfl
 ·have hle:x.length<=1048576:=a.1
  rw [lf,qf (by omega)]⟩
theorem s28:Sound Tryz.prog 28 g28:=qo (tt:=tt) (Γ:=Γ28) hT ql hm (fn:=Tryz.f28) Tryz.func28 (c:=Tryz.f28.body.getD .skip) (by kernel_rfl) (by kernel_rfl) fun x a=>by
 obtain ⟨N,h⟩:=e28 x.1 x.2.1 a
 exact ⟨T28 N,p28,qp _,qRt N,(qY2 N x.1 x.2.1).trans h⟩
def ca (x:Val Y31) (k:Int):Val Y31:=(mkT Y31 x k).1
def lg (x:Val Y31) (k:Int):Int:=(mkT Y31 x k).2
def xI (x:Val Y31) (k:Int):Prop:=Bd Y31 x/\k<=9223372036854775807
def HZ:Gm:=⟨i31,xI,ca,lg⟩
def m14 (N:Nat) (a:Val Y31) (b:Int):Option ((Val Y31)×Int):=chk (mY (a.2.2.2.1:Zg) b) (chk (mY (a.2.2.2.2.1:Zg) (eR (a.2.2.2.1:Zg) b)) (chk (jC (a.2.2.2.2.2:Zb) (eR (a.2.2.2.2.1:Zg) (eR (a.2.2.2.1:Zg) b))) (some (((a.1:Int),a.2.1,(a.2.2.1:Bool),((xF (a.2.2.2.1:Zg) b):Zg),((xF (a.2.2.2.2.1:Zg) (eR (a.2.2.2.1:Zg) b)):Zg),((k5 (a.2.2.2.2.2:Zb) (eR (a.2.2.2.2.1:Zg) (eR (a.2.2.2.1:Zg) b))):Zb)),(eQ (a.2.2.2.2.2:Zb) (eR (a.2.2.2.2.1:Zg) (eR (a.2.2.2.1:Zg) b)))))))
def Γ14:Gam:=[]
theorem qVt:Gam.get Γ14 13=none/\Gam.get Γ14 27=none:=⟨rfl,rfl⟩
def H0:Sem:=hh [(13,h3.gm),(27,HM.gm)] []
theorem p14:qi tr0 (Tryz.f14.body.getD .skip)=true:=by kernel_rfl
def T14 (N:Nat):Tab:={tr:=tr0,lp:=lp0,ex:=ex0,rg:=rg0,jn:=jn0,fuel:=N,pins:=true,sem:=H0}
theorem q03 (N:Nat):qj Tryz.prog (T14 N):=qn fun _=>rfl
theorem qYR (N:Nat):fC (T14 N) tr0 lp0 ex0 rg0 jn0 N true H0:=gf
theorem qRJ (N:Nat) (a:Val Y31) (b:Int):qd tt Γ14 (T14 N) (Tryz.f14.body.getD .skip) (e2 (fD tt Y31 (q9 0 Y31 a).1 [.tmp 4])) (e1 i31 18 a b)=m14 N a b:=by
 rw [m14];unfold Tryz.f14
 simp -implicitDefEqProofs [qYR,H0,ir,h3,HM,iu,e1,qVt]
 try rfl
theorem e14 (x:Val Y31) (k:Int) (h:xI x k): ∃N,m14 N x k=some (ca x k,lg x k):=⟨0,by
 obtain ⟨⟨_,_,_,a,b,c⟩,hk⟩:=h
 have k1:eR x.2.2.2.1 k<=9223372036854775807:=r0 _ _ _ hk
 have k2:eR x.2.2.2.2.1 (eR x.2.2.2.1 k)<=9223372036854775807:=r0 _ _ _ k1
 rw [m14,qc (show mY x.2.2.2.1 k from ⟨a,hk⟩),qc (show mY x.2.2.2.2.1 _ from ⟨b,k1⟩),qc (show jC x.2.2.2.2.2 _ from ⟨c,k2⟩)]
 rfl⟩
theorem qUA:SoundM Tryz.prog 14 HZ:=yX (tt:=tt) (Γ:=Γ14) hT ql hm (fn:=Tryz.f14) Tryz.func14 (c:=Tryz.f14.body.getD .skip) (by kernel_rfl) (by kernel_rfl) fun x n a=>by
 obtain ⟨N,h⟩:=e14 x n a
 exact ⟨T14 N,rfl,p14,⟨ma (mc Hx.gm (mc q3c.gm mb)) me,q03 N⟩,(qRJ N x n).trans h⟩
def lh (x:Val Y31) (k:Int):Int:=(mkT Y31 x k).2
def pW (x:Val Y31) (k:Int):Prop:=y9 Y31 x k
def m15 (N:Nat) (a:Val Y31) (b:Int):ZO [i3]:=chk (mZ (a.2.2.2.1:Zg) b) (bif (decide (((cA (a.2.2.2.1:Zg) b):Int)<(0:Int)))then (some ((-1:Int),()))else (chk (mZ (a.2.2.2.2.1:Zg) ((cA (a.2.2.2.1:Zg) b):Int)) (bif (decide (((cA (a.2.2.2.2.1:Zg) ((cA (a.2.2.2.1:Zg) b):Int)):Int)<(0:Int)))then (some ((-1:Int),()))else (chk (xD (a.2.2.2.2.2:Zb) ((cA (a.2.2.2.2.1:Zg) ((cA (a.2.2.2.1:Zg) b):Int)):Int)) (bif (decide (((pU (a.2.2.2.2.2:Zb) ((cA (a.2.2.2.2.1:Zg) ((cA (a.2.2.2.1:Zg) b):Int)):Int)):Int)<(0:Int)))then (some ((-1:Int),()))else (some (((pU (a.2.2.2.2.2:Zb) ((cA (a.2.2.2.2.1:Zg) ((cA (a.2.2.2.1:Zg) b):Int)):Int)):Int),())))))))
def Γ15:Gam:=[(28,g28),(29,g29)]
theorem qZw:Gam.get Γ15 28=some g28/\Gam.get Γ15 29=some g29:=⟨rfl,rfl⟩
theorem p15:qi tr0 (Tryz.f15.body.getD .skip)=true:=by kernel_rfl
def T15 (N:Nat):Tab:={tr:=tr0,lp:=lp0,ex:=ex0,rg:=rg0,jn:=jn0,fuel:=N}
theorem qXn (N:Nat):qj Tryz.prog (T15 N):=qn fun _=>rfl
theorem qUv (N:Nat):qr (T15 N) tr0 lp0 ex0 rg0 jn0 N false:=qt
theorem qSv (N:Nat) (a:Val Y31) (b:Int):qd tt Γ15 (T15 N) (Tryz.f15.body.getD .skip) (qk tt true [i3] [.tmp 4]) (qm [i31,i3] 24 (a,b,()))=m15 N a b:=by
 rw [m15];unfold Tryz.f15
 simp -implicitDefEqProofs [qUv,qZw,g28,g29]
 try rfl
def g15:G:={ps:=[i31,i3],rs:=[i3],dp:=true,pre:=fun x=>pW x.1 x.2.1,fn:=fun x=>(lh x.1 x.2.1,())}
theorem e15 (x:Val Y31) (k:Int) (h:pW x k): ∃N,m15 N x k=some (lh x k,()):=⟨0,by
 obtain ⟨hm,⟨_,_,_,b,c,d⟩,a,n⟩:=h
 have g:(mkT (.slice 28 Y28) x.2.2.2.1 k).1=x.2.2.2.1:=congrArg (fun z:Val Y31=>z.2.2.2.1) hm
 have i:(mkT (.slice 28 Y28) x.2.2.2.2.1 (mkT (.slice 28 Y28) x.2.2.2.1 k).2).1=x.2.2.2.2.1:=congrArg (fun z:Val Y31=>z.2.2.2.2.1) hm
 have j:(mkT (.slice 3 Zd) x.2.2.2.2.2 (mkT (.slice 28 Y28) x.2.2.2.2.1 (mkT (.slice 28 Y28) x.2.2.2.1 k).2).2).1=x.2.2.2.2.2:=congrArg (fun z:Val Y31=>z.2.2.2.2.2) hm
 have o:k+((0+(0+(0+(bJ (.slice 28 Y28) x.2.2.2.1+(bJ (.slice 28 Y28) x.2.2.2.2.1+bJ (.slice 3 Zd) x.2.2.2.2.2)))):Nat):Int)<=4611686018427387904:=by
  have:bJ Y31 x=0+((0+0)+(0+(bJ (.slice 28 Y28) x.2.2.2.1+(bJ (.slice 28 Y28) x.2.2.2.2.1+bJ (.slice 3 Zd) x.2.2.2.2.2)))):=rfl
  omega
 have l:cA x.2.2.2.1 k=k+bJ (.slice 28 Y28) x.2.2.2.1:=iv _ _ _ a (by omega)
 have e:mZ x.2.2.2.1 k:=⟨g,b,a,by omega⟩
 have m:cA x.2.2.2.2.1 (cA x.2.2.2.1 k)=cA x.2.2.2.1 k+bJ (.slice 28 Y28) x.2.2.2.2.1:=iv _ _ _ (by omega) (by omega)
 have f:mZ x.2.2.2.2.1 (cA x.2.2.2.1 k):=⟨i,c,by omega,by omega⟩
 have e3:pU x.2.2.2.2.2 (cA x.2.2.2.2.1 (cA x.2.2.2.1 k))=cA x.2.2.2.2.1 (cA x.2.2.2.1 k)+bJ (.slice 3 Zd) x.2.2.2.2.2:=iv _ _ _ (by omega) (by omega)
 have p3:xD x.2.2.2.2.2 (cA x.2.2.2.2.1 (cA x.2.2.2.1 k)):=⟨j,d,by omega,by omega⟩
 rw [m15,qc e,qf (by omega),qc f,qf (by omega),qc p3,qf (by omega)]
 rfl⟩
theorem s15:Sound Tryz.prog 15 g15:=qo (tt:=tt) (Γ:=Γ15) hT (qe s28 (qe s29 ql)) hm (fn:=Tryz.f15) Tryz.func15 (c:=Tryz.f15.body.getD .skip) (by kernel_rfl) (by kernel_rfl) fun x a=>by
 obtain ⟨N,h⟩:=e15 x.1 x.2.1 a
 exact ⟨T15 N,p15,qp _,qXn N,(qSv N x.1 x.2.1).trans h⟩
theorem qRN {d:Int} {a:Zf} (h:okD d a):okD d (db a):=by
 have b:=Ti h.1
 obtain ⟨g1,g2⟩:=BM b
 refine ⟨g1,?_⟩
 have e:List.length (α:=Int) (db a).1=List.length (α:=Int) a.1:=g2
 have h2:(List.length (α:=Int) a.1:Int)=d:=h.2
 show (List.length (α:=Int) (db a).1:Int)=d
 omega
theorem qZA {d:Int} {A:Ze} (h: ∀a∈A,okD d a): ∀a∈A.map db,okD d a:=fun x c=>by
 obtain ⟨a,b,rfl⟩:=List.mem_map.1 c
 exact qRN (h a b)
theorem H2 (l:Zb) (r:Zh) (s:Bool):qy (qP l r s).1=true:=by
 unfold qP qx ff
 generalize max 1 (gL (Int.natAbs r.1) (c8 l r.2))=g
 cases a:qy (List.map (α:=Int) (fun x=>x.tdiv (g:Int)) (c8 l r.2),(r.1:Int).tdiv (g:Int),s)with
 | true=>simpa only [cond_true] using a
 | false=>simp only [cond_false];decide
theorem qXc {d:Int} {A:Ze} {a:Zf} (h: ∀a∈A,okD d a) (e:A.length<=16) (b:qy a=true):eM ((d,A):Zj) [a]:=by
 refine ⟨Ox h (by omega),fun x c=> ?_,by show A.length+1<=1048576;omega⟩
 rw [List.mem_singleton.1 c]
 have:List.length (α:=Int) a.1<=4:=(ch b).1
 show List.length (α:=Int) a.1<=1048576
 omega
theorem t51 (N:Nat) (l:Zb) (A:Ze) (d:Int) (h:A.length<=16) (e: ∀a∈A,qy a=true) (K:Ze->ZO [i29,i4]) (n:Nat) (g:A.length<n):
 jA N l A A.length d K n 0 []=K (A.map db):=by
 refine (bp (xs:=A) (F:=fun n i s=>jA N l A A.length d K n i s) (step:=fun _ x (s:Ze) K=>chk (s.length+[db x].length<=1048576) (K (s++[db x]))) (k:=K) (by omega) (fun n i s b=> ?_) (fun n i s b=> ?_) n [] g).trans (iG (f:=db) A 0 [] (by simp only [List.length_nil];omega))
 ·have c:=e _ (List.getElem_mem b)
  rw [jA,qg (by omega),qc (by omega),qB b,qc (Th c),Ti c,Bool.not_true,cond_false]
  rfl
 ·rw [jA,qf (by omega)]
theorem t36 (N:Nat) (l:Zb) (A:Ze) (d e:Int) (j:A.length<=16) (c: ∀a∈A,qy a=true) (K:Ze->ZO [i29,i3]) (n:Nat) (h:A.length<n):
 jB N l d A e K n 0 []=K (A.map db):=by
 refine (bp (xs:=A) (F:=fun n i s=>jB N l d A e K n i s) (step:=fun _ x (s:Ze) K=>chk (s.length+[db x].length<=1048576) (K (s++[db x]))) (k:=K) (by omega) (fun n i s b=> ?_) (fun n i s b=> ?_) n [] h).trans (iG (f:=db) A 0 [] (by simp only [List.length_nil];omega))
 ·have g:=c _ (List.getElem_mem b)
  rw [jB,qg (by omega),qc (by omega),qB b,qc (Th g)]
  rfl
 ·rw [jB,qf (by omega)]
theorem e51 (c:Zj) (l:Zb) (h:xq c l): ∃N,m51 N c l=some ((fq c l).1,(fq c l).2,()):=⟨17,by
 have d:fQ c l:=h
 obtain ⟨i,_,e⟩:=xo d
 obtain ⟨hd,b,f⟩:=bB d.1
 have b:List.length (α:=Zf) c.2<=16:=b
 rw [m51,t51 _ _ _ _ b (fun a g=>(f a g).1) _ _ (by omega),qc (show dV l ((1:Int),(1:Int)) false from Tj (by omega) e),show (qP l ((1:Int),(1:Int)) false).2=true from Tk (by omega) e,Bool.not_true,cond_false]
 exact qc (by rw [List.length_map,List.length_singleton];omega)⟩
theorem s51:Sound Tryz.prog 51 g51:=qo (tt:=tt) (Γ:=Γ51) hT (qe s48 (qe s56 (qe s91 ql))) hm (fn:=Tryz.f51) Tryz.func51 (c:=Tryz.f51.body.getD .skip) (by kernel_rfl) (by kernel_rfl) fun x a=>by
 obtain ⟨N,h⟩:=e51 x.1 x.2.1 a
 exact ⟨T51 N,p51,qp _,qXE N,(qS4 N x.1 x.2.1).trans h⟩
theorem e36 (c:Zj) (l:Zb) (h:xr c l): ∃N,m36 N c l=some ((mX c l).1,(mX c l).2,()):=⟨17,by
 have f:fQ c l:=h
 obtain ⟨o,_,j⟩:=xo f
 obtain ⟨hd,b,g⟩:=bB f.1
 have i:=f.2.1
 obtain ⟨d,A⟩:=c
 change Int at d
 change List (Zf)at A
 have b:A.length<=16:=b
 have i:A.length<16:=i
 have k:bZ l (((cm (1:Int)).1:Int),((cm (1:Int)).2:Int)) false=qP l jz false:=Gk (Tj (by omega) j)
 have n: ∀a∈A.map db,okD d a:=qZA fun a e=>g a e
 have m:(A.map db).length<=16:=by rw [List.length_map];exact b
 rw [m36]
 dsimp only
 rw [t36 _ _ _ _ _ b (fun a e=>(g a e).1) _ _ (by omega),qc (show gI l _ false from by show l.length<=1048576;omega),k,Tk (by omega) j,Bool.not_true,cond_false,qf (by rw [List.length_map];omega)]
 refine (qc (show hQ ((d,A.map db):Zj) (qP l jz false).1 from qXc n m (H2 _ _ _))).trans ?_
 exact qc (show iZ (c9 ((d,A.map db):Zj) (qP l jz false).1) from by show (A.map db++[(qP l jz false).1]).length<=1048576;rw [List.length_append,List.length_singleton];omega)⟩
theorem s36:Sound Tryz.prog 36 g36:=qo (tt:=tt) (Γ:=Γ36) hT (qe s34 (qe s37 (qe s38 (qe s65 (qe s74 ql))))) hm (fn:=Tryz.f36) Tryz.func36 (c:=Tryz.f36.body.getD .skip) (by kernel_rfl) (by kernel_rfl) fun x a=>by
 obtain ⟨N,h⟩:=e36 x.1 x.2.1 a
 exact ⟨T36 N,p36,qp _,qTO N,(qNt N x.1 x.2.1).trans h⟩
theorem e50 (c:Zj) (l:Zb) (b:Zk) (h:xt c l b): ∃N,m50 N c l b=some (gO c l b,()):=⟨0,by
 obtain ⟨e,g⟩:=h
 obtain ⟨p,_,f⟩:=xo e
 have d: ∀s,dV l (hiR b) s:=fun s=>⟨by omega,f,g⟩
 have hw: ∀s,eM c [(qP l (hiR b) s).1]:=fun s=>wQ e.1 (H2 _ _ _)
 rw [m50,gO,qc (d _)]
 obtain ⟨i,j,k,m,a,o,n⟩:=b
 change Bool at o
 change (bif !(qP l a (!o)).2 then _ else _)=_
 dsimp only at d hw ⊢
 cases q:(qP l a (!o)).2 with
 | false=>rfl
 | true=>
   rw [Bool.not_true,cond_false,cond_true]
   refine (qc (hw (!o))).trans ?_
   change (bif !(cj (ovC c l a (!o))).2 then _ else _)=_
   cases t:(cj (ovC c l a (!o))).2 with
   | false=>rfl
   | true=>
     rw [Bool.not_true,cond_false,cond_true]
     cases o with
     | true=>rfl
     | false=>
       rw [Bool.not_false,cond_true,cond_true,qc (d false)]
       cases r:(qP l a false).2 with
       | false=>rfl
       | true=>
         rw [Bool.not_true,cond_false,cond_true]
         refine (qc (hw false)).trans ?_
         change (bif !(decide ((q4 (ovC c l a false)).2=0))then _ else _)=_
         cases decide ((q4 (ovC c l a false)).2=0)<;>rfl⟩
theorem s50:Sound Tryz.prog 50 g50:=qo (tt:=tt) (Γ:=Γ50) hT (qe s48 (qe s49 (qe s56 (qe s57 ql)))) hm (fn:=Tryz.f50) Tryz.func50 (c:=Tryz.f50.body.getD .skip) (by kernel_rfl) (by kernel_rfl) fun x a=>by
 obtain ⟨N,h⟩:=e50 x.1 x.2.1 x.2.2.1 a
 exact ⟨T50 N,p50,qp _,q1r N,(q10 N x.1 x.2.1 x.2.2.1).trans h⟩
theorem e21 (c:Zj) (l:Zb) (h:xu c l): ∃N,m21 N c l=some (cq c l,()):=⟨0,by
 have a:fQ c l:=h
 rw [m21,cq,qc (show hL c l from ⟨a.1,a.2.2.2,a.2.2.1⟩)]
 cases (qX c l).2 with
 | false=>rfl
 | true=>
   rw [Bool.not_true,cond_false,cond_true]
   cases decide ((q4 c).2=2)with
   | true=>rfl
   | false=>
     rw [cond_false,cond_false]
     cases decide ((q4 c).2=1)with
     | true=>
       rw [cond_true,cond_true]
       cases (cj c).2<;>rfl
     | false=>
       rw [cond_false,cond_false]
       cases ((qX c l).1.2.2.2.2.2.2:Bool)with
       | true=>rfl
       | false=>
         rw [cond_false,cond_false]
         cases b:((qX c l).1.2.2.2.1:Bool)with
         | true=>
           rw [cond_true,cond_true]
           have d:xt c l (qX c l).1:=⟨a,Tn b⟩
           try rw [<-b]
           exact qc d
         | false=>
           rw [cond_false,cond_false,qc (show xq c l from a)]
           cases (fq c l).2<;>rfl⟩
theorem s21:Sound Tryz.prog 21 g21:=qo (tt:=tt) (Γ:=Γ21) hT (qe s47 (qe s48 (qe s49 (qe s50 (qe s51 ql))))) hm (fn:=Tryz.f21) Tryz.func21 (c:=Tryz.f21.body.getD .skip) (by kernel_rfl) (by kernel_rfl) fun x a=>by
 obtain ⟨N,h⟩:=e21 x.1 x.2.1 a
 exact ⟨T21 N,p21,qp _,qOZ N,(q3C N x.1 x.2.1).trans h⟩
theorem e8 (c:Zj) (l:Zb) (h:h0 c l): ∃N,m8 N c l=some (qV c l,()):=⟨0,by
 rw [m8,qV,qc (show vT c l from h)]
 cases hw:dT c l with
 | false=>rfl
 | true=>
   rw [Bool.not_true,cond_false,cond_true,qc (show xu c l from Te.1 hw)]
   cases decide ((cq c l).1=(3:Int))with
   | true=>rfl
   | false=>
     rw [Bool.not_false,cond_true,cond_false]
     refine (qc (show jl c l (cq c l) from ⟨h.1,h.2,(xp c l).1⟩)).trans ?_
     change (bif !dE c l (cq c l)then _ else _)=_
     cases dE c l (cq c l)<;>rfl⟩
theorem s8:Sound Tryz.prog 8 g8:=qo (tt:=tt) (Γ:=Γ8) hT (qe s20 (qe s21 (qe s22 ql))) hm (fn:=Tryz.f8) Tryz.func8 (c:=Tryz.f8.body.getD .skip) (by kernel_rfl) (by kernel_rfl) fun x a=>by
 obtain ⟨N,h⟩:=e8 x.1 x.2.1 a
 exact ⟨T8 N,p8,qp _,tb8 N,(qPy N x.1 x.2.1).trans h⟩
theorem qOu {l:Zb} (h: ∀x∈l,qq x=true):bY l=List.map (α:=Int) (fun n=> -n) l:=List.map_congr_left fun x a=>by
 have:=cH (h x a)
 rw [bn (n:=0 - (x:Int)) (by omega) (by omega),Int.zero_sub]
theorem TQ {c:Zj} {l:Zb} (h:qI c=true):dT c l=(hK l c.1&& !decide ((16:Int)<=(List.length (α:=Zf) c.2:Int))):=by
 unfold dT
 rw [h,EF h,Bool.true_and]
 by_cases a:(16:Int)<=(List.length (α:=Zf) c.2:Int)
 ·rw [decide_eq_true a,decide_eq_false (show ¬(List.length (α:=Zf) c.2:Int)<16 by omega)]
  cases (decide ((c.1:Int)<4)&&dr c l)<;>rfl
 ·rw [decide_eq_false a,decide_eq_true (show (List.length (α:=Zf) c.2:Int)<16 by omega)]
  cases (decide ((c.1:Int)<4)&&dr c l)<;>rfl
theorem e17 (c:Zj) (l:Zb) (h:xv c l): ∃N,m17 N c l=some (eP c l,()):=⟨0,by
 obtain ⟨g,i⟩:=h
 rw [m17,eP,qc g]
 cases h1:qI c with
 | false=>unfold dT;rw [h1];rfl
 | true=>
   rw [Bool.not_true,cond_false,qc (show mK l c.1 from i),TQ h1]
   cases h2:hK l c.1 with
   | false=>rfl
   | true=>
     rw [Bool.not_true,cond_false,Bool.true_and]
     cases t:decide ((16:Int)<=(List.length (α:=Zf) c.2:Int))with
     | true=>rfl
     | false=>
       have d:fQ c l:=Te.1 (by rw [TQ h1,h2,t];rfl)
       obtain ⟨D,v,n⟩:=xo d
       have hw: ∀r s,hQ c (qP l r s).1:=fun r s=>wQ d.1 (H2 _ _ _)
       have q: ∀r s,b8 (c9 c (qP l r s).1):=fun r s=>(Gl (m:=[]) d.1 (by decide)).1
       rw [Bool.not_false,cond_false,cond_true,qc (show hL c l from ⟨d.1,d.2.2.2,d.2.2.1⟩),qc (show iZ c from g),cq]
       cases x:(qX c l).2 with
       | false=>rfl
       | true=>
         rw [Bool.not_true,cond_false,cond_true]
         have H:=(Tm c).2
         by_cases f:(q4 c).2=2
         ·rw [qg f,qg f];rfl
         rw [qf f,qf f]
         by_cases e:(q4 c).2=1
         ·rw [qg e,qg e,qc (show mW c from g),<-CQ]
          cases (cj c).2<;>rfl
         rw [qf e,qf e]
         have w0:(q4 c).2=0:=by omega
         have u:=qU8 (p:=(q4 c).1) d.1 v (qOu n) x (by rw [<-w0])
         rw [u,cond_false]
         cases w:((qX c l).1.2.2.2.1:Bool)with
         | false=>
           rw [Bool.not_false,cond_true,cond_false,qc (show xr c l from d)]
           show (bif !(fq c l).2 then _ else _)=_
           cases (fq c l).2<;>rfl
         | true=>
           have j: ∀s,dV l (hiR (qX c l).1) s:=fun s=>⟨by omega,n,Tn w⟩
           rw [Bool.not_true,cond_false,cond_true]
           generalize (qX c l).1=b at j ⊢
           obtain ⟨y,z,A,B,a,o,C⟩:=b
           change Bool at o
           change ∀s,dV l a s at j
           have k: ∀s,bZ l (((a.1:Int),(a.2:Int)):Zh) s=qP l a s:=fun s=>Gk (j s)
           rw [qc (show gI l _ _ from i),k,gO]
           cases E:(qP l a (!o)).2 with
           | false=>rfl
           | true=>
             rw [Bool.not_true,cond_false,cond_true]
             refine (qc (hw a (!o))).trans ?_
             refine (qc (show mW (c9 c (qP l a (!o)).1) from q a (!o))).trans ?_
             change (bif !(dA (ovC c l a (!o))).2 then _ else bif o then some (((0:Int),a,false,[],[],(dA (ovC c l a (!o))).1),())else _)=_
             rw [<-CQ]
             cases G:(cj (ovC c l a (!o))).2 with
             | false=>rfl
             | true=>
               rw [Bool.not_true,cond_false,cond_true]
               cases o with
               | true=>rfl
               | false=>
                 rw [cond_false,Bool.not_false,cond_true,qc (show gI l _ _ from i),k]
                 refine (qc (hw a false)).trans ?_
                 refine (qc (show iZ (c9 c (qP l a false).1) from q a false)).trans ?_
                 cases F:(qP l a false).2 with
                 | false=>rfl
                 | true=>
                   rw [Bool.not_true,cond_false,cond_true]
                   change (bif !(decide ((q4 (ovC c l a false)).2=0))then _ else some (((0:Int),a,true,(q4 (ovC c l a false)).1,[],(dA (ovC c l a true)).1),()))=_
                   rw [<-CQ]
                   cases decide ((q4 (ovC c l a false)).2=0)<;>rfl⟩
theorem s17:Sound Tryz.prog 17 g17:=qo (tt:=tt) (Γ:=Γ17) hT (qe s31 (qe s32 (qe s33 (qe s34 (qe s35 (qe s36 (qe s37 (qe s38 ql)))))))) hm (fn:=Tryz.f17) Tryz.func17 (c:=Tryz.f17.body.getD .skip) (by kernel_rfl) (by kernel_rfl) fun x a=>by
 obtain ⟨N,h⟩:=e17 x.1 x.2.1 a
 exact ⟨T17 N,p17,qp _,qVZ N,(qQH N x.1 x.2.1).trans h⟩
theorem qSu (c:Zj) (l:Zb):Bd Y31 (eP c l):=by
 unfold eP
 cases dT c l with
 | true=>exact (xp c l).1
 | false=>exact ft
theorem e5 (c:Zj) (l:Zb) (h:h0 c l): ∃N,m5 N c l=some (qV c l,()):=⟨0,by
 rw [m5,qc (show xv c l from h),qc (show jl c l (eP c l) from ⟨h.1,h.2,qSu c l⟩),<-qYC]
 cases dE c l (eP c l)<;>rfl⟩
theorem s5:Sound Tryz.prog 5 g5:=qo (tt:=tt) (Γ:=Γ5) hT (qe s17 (qe s18 ql)) hm (fn:=Tryz.f5) Tryz.func5 (c:=Tryz.f5.body.getD .skip) (by kernel_rfl) (by kernel_rfl) fun x a=>by
 obtain ⟨N,h⟩:=e5 x.1 x.2.1 a
 exact ⟨T5 N,p5,qp _,tb5 N,(qZ7 N x.1 x.2.1).trans h⟩
end
end Go.T
