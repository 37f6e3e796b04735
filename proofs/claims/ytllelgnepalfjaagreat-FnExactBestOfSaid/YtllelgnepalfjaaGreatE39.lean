import Derived.Test.YtllelgnepalfjaaGreatK1
import Derived.Test.YtllelgnepalfjaaGreatB18
import Derived.Test.YtllelgnepalfjaaGreatT13
import Derived.Test.YtllelgnepalfjaaGreatE38
import Derived.Test.YtllelgnepalfjaaGreatE32
import Derived.Test.YtllelgnepalfjaaGreatE22
set_option linter.unusedSimpArgs false
set_option linter.unusedVariables false
namespace Go.T
noncomputable section
open Go Go.Proofs
set_option maxHeartbeats 4000000
set_option maxRecDepth 100000
abbrev Opt:=Val Y31
def bK (l:Zb) (p:Zg):Zh:=gH l p ((0:Int),(1:Int))
def cY (l:Zb) (p:Zg):Prop:=p.length=l.length/\l.length<=1048576
def er (c:Zj) (p:Zg):Bool:=(inV c p).1&&(inV c p).2
def mP (c:Zj) (p:Zg):Prop:=fO c p
def kS (s:Zh):Bool:=qh s&& !decide ((0:Int)<s.1)
def pC (s:Zh):Bool:=qh s&&decide ((0:Int)<s.1)
def mQ (c:Zj) (l:Zb) (p:Zg):Bool:=cu p c.1&&List.all (α:=Zf) c.2 (fun a=>kS (bK a.1 p))&&pC (bK l p)
def wE (c:Zj) (l:Zb) (p:Zg):Prop:=qI c=true/\(l.length:Int)=(c.1:Int)/\p.length<=1048576
def c8 (l:List Int) (d:Int):Zb:=l.map fun n=> -n*d
def qP (l:Zb) (r:Zh) (s:Bool):Zf×Bool:=qx (c8 l r.2) r.1 s
def dV (l:Zb) (r:Zh) (_:Bool):Prop:=l.length<=4/\(∀n∈l,qq n=true)/\qh r=true
def bZ (l:Zb) (r:Zh) (s:Bool):Zf×Bool:=fo (List.map (α:=Int) (fun n=>IntKind.i64.wrap (IntKind.i64.wrap (0 - n)*(r.2:Int))) l) r.1 s
def gI (l:Zb) (_:Zh) (_:Bool):Prop:=l.length<=1048576
def dE (c:Zj) (l:Zb) (o:Opt):Bool:=
 bif qI c&&(decide ((c.1:Int)<4)&&dr c l)then
    (bif decide ((o.1:Int)=1)then bP c o.2.2.2.2.2 else
    bif decide ((o.1:Int)=2)then er c o.2.2.2.1&&mQ c l o.2.2.2.2.1 else
    bif decide ((o.1:Int)=0)then (bif qh o.2.1&&(qP l o.2.1 o.2.2.1).2&&bP (cy c [(qP l o.2.1 o.2.2.1).1]) o.2.2.2.2.2 then (bif o.2.2.1 then er c o.2.2.2.1&&(decide ((bK l o.2.2.2.1).1=(o.2.1.1:Int))&&decide ((bK l o.2.2.2.1).2=(o.2.1.2:Int)))else decide ((List.length (α:=Zh) o.2.2.2.1:Int)=0))else false)else false)
 else false
def jl (c:Zj) (l:Zb) (o:Opt):Prop:=b8 c/\l.length<=1048576/\Bd Y31 o
def c9 (c:Zj) (a:Zf):Zj:=cy c [a]
def hQ (c:Zj) (a:Zf):Prop:=eM c [a]
def g58:G:={ps:=[i25,i29],rs:=[i28],dp:=true,pre:=fun x=>cY x.1 x.2.1,fn:=fun x=>(bK x.1 x.2.1,())}
def kT (N:Nat) (b:Zg) (c:Zb) (f g h:Int) (k0:Int->Int->ZO [i28]):Nat->Int->Int->Int->ZO [i28]
 | 0,_,_,_=>none
 | n+1,a,d,e=>bif (decide (a<f))then (chk (0<=a/\a<(c.length:Int)) (chk (0<=a/\a<(b.length:Int)) (kT N b c f g h k0 n (IntKind.i64.wrap (a+(1:Int))) ((bF (d,e) (cp (((c.getD a.toNat (qa Zd)):Int),(1:Int)) (b.getD a.toNat (qa Y28)))).1:Int) ((bF (d,e) (cp (((c.getD a.toNat (qa Zd)):Int),(1:Int)) (b.getD a.toNat (qa Y28)))).2:Int))))else (k0 d e)
def m58 (N:Nat) (a:Zb) (b:Zg):ZO [i28]:=kT N b a (a.length:Int) (0 0:Int) (fun (c d:Int)=>some ((c,d),())) N (0 0 1:Int)
def Γ58:Gam:=[(96,g96),(97,g97)]
theorem qOl:Gam.get Γ58 96=some g96/\Gam.get Γ58 97=some g97:=⟨rfl,rfl⟩
def wF:List Bool:=[O,I,O,O,I,I,O,O,O,I,I,I]
def Fx:Nm:=⟨wF,[],false⟩
theorem Rl:NmS Fx wF [] false:=nmS
def Fy:List Bool:=[O,O,O,O,I,I]
def Rm:Nm:=⟨Fy,[],false⟩
theorem qTf:NmS Rm Fy [] false:=nmS
def Fz:List Bool:=[O,I,O,O,I,I,O,O,O,I,I,I]
def Rn:Nm:=⟨Fz,[],false⟩
theorem q2c:NmS Rn Fz [] false:=nmS
def wG:Nat->Tree:=fun i=>if i=5 then .quiet 1 (.quiet 2 (.quiet 3 (.quiet 4 (.quiet 5 (.quiet 6 (.alt 0 (.alt 7 (.alt 8 (.alt 9 .done .stop) .stop) .stop) (.alt 7 (.quiet 0 (.alt 8 (.alt 9 .done .stop) .stop)) .stop)))))))else .done
def FA:Nat->Nm:=fun i=>if i=3 then Fx else ⟨[],[],false⟩
def FB:Nat->Option Nm:=fun i=>if i=0 then some Rm else none
def pD:Nat->Option Nm:=fun i=>if i=5 then some Rn else none
theorem p58:qi wG (Tryz.f58.body.getD .skip)=true:=by kernel_rfl
def T58 (N:Nat):Tab:={tr:=wG,lp:=FA,ex:=FB,rg:=pD,jn:=jn0,fuel:=N}
theorem qSH (N:Nat):qj Tryz.prog (T58 N):=qn fun _=>rfl
theorem FC (N:Nat):qr (T58 N) wG FA FB pD jn0 N false:=qt
def Ro:Code:=cut [I,I,O,I,I,I] (Tryz.f58.body.getD .skip)
theorem qTT (N:Nat) (i:Zg) (j:Zb) (k b d:Int) {k0:Int->Int->ZO [i28]} {Q:ZQ [i28]} {c:Code} (m:c=Ro) (p: ∀st,Q .ret st=qz tt true [i28] [.cell 4 28] st) (l: ∀(g h:Int),Q (.exit 0) ⟨[u,u,u,u,.one (.ptr 0 0 0),.one (.ptr 1 0 0),u,u,u,u,u,u,u,u,u,u,u,u,u,u,u,u,u,u,u,u,u],[.box [.int .i64 b,.int .i64 d],.box [.int .i64 g,.int .i64 h]]⟩=k0 g h): ∀(n:Nat) (a e f:Int),qw (qd tt Γ58 (T58 N) c) false Fx Q n ⟨[u,.one (.sl 28 Y28 i 2),u,u,.one (.ptr 0 0 0),.one (.ptr 1 0 0),u,u,u,.one (.sl 3 Zd j 2),.one (.int .i64 k),.one (.int .i64 a),u,u,u,u,u,u,u,u,u,u,u,u,u,u,u],[.box [.int .i64 b,.int .i64 d],.box [.int .i64 e,.int .i64 f]]⟩=kT N i j k b d k0 n a e f:=by
 intro n;induction n with
 | zero=>intros;rfl
 | succ n o=>
   intro a e f
   rw [qD,qE m,kT];unfold Ro Tryz.f58
   simp -implicitDefEqProofs [FC,wG,FB,pD,Rl,wF,qTf,Fy,q2c,Fz,qOl,g96,g97,l,o]
theorem qXz (N:Nat) (a:Zb) (b:Zg):qd tt Γ58 (T58 N) (Tryz.f58.body.getD .skip) (qk tt true [i28] [.cell 4 28]) (qm [i25,i29] 27 (a,b,()))=m58 N a b:=by
 unfold Tryz.f58
 simp -implicitDefEqProofs [FC,FA,pD,Rl,wF]
 rewrite [qTT N _ _ _ _ _ ?_ ?_ ?_]
 ·rewrite [m58];first | rfl | simp -implicitDefEqProofs []
 ·rfl
 ·intro;simp only [qA,qC,qJ]
 ·intro c d;simp -implicitDefEqProofs [FC,pD]
def g53:G:={ps:=[i35,i29],rs:=[i4],dp:=true,pre:=fun x=>mP x.1 x.2.1,fn:=fun x=>(er x.1 x.2.1,())}
def m53 (N:Nat) (a:Zj) (b:Zg):ZO [i4]:=chk (fO a b) (bif ((inV a b).1:Bool)then (some (((inV a b).2:Bool),()))else (some (false,())))
def Γ53:Gam:=[(92,g92)]
theorem qSW:Gam.get Γ53 92=some g92:=rfl
theorem p53:qi tr0 (Tryz.f53.body.getD .skip)=true:=by kernel_rfl
def T53 (N:Nat):Tab:={tr:=tr0,lp:=lp0,ex:=ex0,rg:=rg0,jn:=jn0,fuel:=N}
theorem qSb (N:Nat):qj Tryz.prog (T53 N):=qn fun _=>rfl
theorem qSm (N:Nat):qr (T53 N) tr0 lp0 ex0 rg0 jn0 N false:=qt
theorem qN1 (N:Nat) (a:Zj) (b:Zg):qd tt Γ53 (T53 N) (Tryz.f53.body.getD .skip) (qk tt true [i4] [.tmp 4]) (qm [i35,i29] 17 (a,b,()))=m53 N a b:=by
 rw [m53];unfold Tryz.f53
 simp -implicitDefEqProofs [qSm,qSW,g92]
 try rfl
def g54:G:={ps:=[i35,i25,i29],rs:=[i4],dp:=true,pre:=fun x=>wE x.1 x.2.1 x.2.2.1,fn:=fun x=>(mQ x.1 x.2.1 x.2.2.1,())}
def kU (N:Nat) (e:Zb) (c:Zg) (b:Ze) (d:Int) (k0:Unit->ZO [i4]):Nat->Int->ZO [i4]
 | 0,_=>none
 | n+1,a=>bif (decide (a<d))then (chk (0<=a/\a<(b.length:Int)) (chk (cY ((b.getD a.toNat (qa Y68)).1:Zb) c) (bif (!((qh (bK ((b.getD a.toNat (qa Y68)).1:Zb) c)):Bool))then (some (false,()))else (bif (decide ((0:Int)<((bK ((b.getD a.toNat (qa Y68)).1:Zb) c).1:Int)))then (some (false,()))else (kU N e c b d k0 n (IntKind.i64.wrap (a+(1:Int))))))))else (k0 ())
def m54 (N:Nat) (b:Zj) (c:Zb) (a:Zg):ZO [i4]:=chk (dD a (b.1:Int)) (bif (!((cu a (b.1:Int)):Bool))then (some (false,()))else (kU N c a (b.2:Ze) ((b.2:Ze).length:Int) (fun (_:Unit)=>chk (cY c a) (bif ((qh (bK c a)):Bool)then (some ((decide ((0:Int)<((bK c a).1:Int))),()))else (some (false,())))) N (0:Int)))
def Γ54:Gam:=[(55,g55),(58,g58),(93,g93)]
theorem FD:Gam.get Γ54 55=some g55/\Gam.get Γ54 58=some g58/\Gam.get Γ54 93=some g93:=⟨rfl,rfl,rfl⟩
def wH:List Bool:=[O,I,I,O,O,O,O,O,O,O,O,O,O,O,O,O,O,I,I,I]
def FE:Nm:=⟨wH,[],false⟩
theorem Rp:NmS FE wH [] false:=nmS
def FF:List Bool:=[O,I,I]
def Rq:Nm:=⟨FF,[],false⟩
theorem qNm:NmS Rq FF [] false:=nmS
def FG:Nat->Nm:=fun i=>if i=4 then FE else ⟨[],[],false⟩
def FH:Nat->Option Nm:=fun i=>if i=0 then some Rq else none
theorem p54:qi tr0 (Tryz.f54.body.getD .skip)=true:=by kernel_rfl
def T54 (N:Nat):Tab:={tr:=tr0,lp:=FG,ex:=FH,rg:=rg0,jn:=jn0,fuel:=N}
theorem q0B (N:Nat):qj Tryz.prog (T54 N):=qn fun _=>rfl
theorem FI (N:Nat):qr (T54 N) tr0 FG FH rg0 jn0 N false:=qt
def Rr:Code:=cut [I,I,O,I,I,I] (Tryz.f54.body.getD .skip)
theorem qQO (N:Nat) (a:Zb) (b:Zg) (e:Ze) (f:Int) {k0:Unit->ZO [i4]} {Q:ZQ [i4]} {c:Code} (h:c=Rr) (i: ∀st,Q .ret st=qz tt true [i4] [.tmp 6] st) (g:Q (.exit 0) ⟨[u,.one (.sl 3 Zd a 0),.one (.sl 28 Y28 b 0),u,u,u,u,u,u,u,u,u,u,u,u,u,u,u,u,u,u,u,u,u,u,u,u,u,u,u,u,u,u,u,u,u,u,u,u,u,u,u,u,u,u,u],[]⟩=k0 ()): ∀(n:Nat) (d:Int),qw (qd tt Γ54 (T54 N) c) false FE Q n ⟨[u,.one (.sl 3 Zd a 0),.one (.sl 28 Y28 b 0),u,u,u,u,u,u,u,u,u,u,u,u,u,u,.one (.sl 68 Y68 e 0),.one (.int .i64 f),.one (.int .i64 d),u,u,u,u,u,u,u,u,u,u,u,u,u,u,u,u,u,u,u,u,u,u,u,u,u,u],[]⟩=kU N a b e f k0 n d:=by
 intro n;induction n with
 | zero=>intros;rfl
 | succ n j=>
   intro d
   rw [qD,qE h,kU];unfold Rr Tryz.f54
   simp -implicitDefEqProofs [FI,FH,Rp,wH,qNm,FF,FD,g55,g58,i,g,j]
theorem q3v (N:Nat) (c:Zj) (a:Zb) (b:Zg):qd tt Γ54 (T54 N) (Tryz.f54.body.getD .skip) (qk tt true [i4] [.tmp 6]) (qm [i35,i25,i29] 46 (c,a,b,()))=m54 N c a b:=by
 unfold Tryz.f54
 simp -implicitDefEqProofs [FI,FG,Rp,wH,FD,g93]
 rewrite [qQO (k0:=(fun (_:Unit)=>chk (cY a b) (bif ((qh (bK a b)):Bool)then (some ((decide ((0:Int)<((bK a b).1:Int))),()))else (some (false,()))))) N _ _ _ _ ?_ ?_ ?_]
 ·rewrite [m54];first | rfl | simp -implicitDefEqProofs []
 ·rfl
 ·intro;simp only [qA,qC,qJ]
 ·simp -implicitDefEqProofs [FI,FD,g55,g58]
def g56:G:={ps:=[i25,i28,i4],rs:=[i68,i4],dp:=true,pre:=fun x=>dV x.1 x.2.1 x.2.2.1,fn:=fun x=>((qP x.1 x.2.1 x.2.2.1).1,(qP x.1 x.2.1 x.2.2.1).2,())}
def kV (N:Nat) (g:Bool) (c:Zb) (d h e i:Int) (f:Bool) (k0:(Zb)->ZO [i68,i4]):Nat->Int->(Zb)->ZO [i68,i4]
 | 0,_,_=>none
 | n+1,a,b=>bif (decide (a<d))then (chk (0<=a/\a<(c.length:Int)) (chk (0<=a/\a<(b.length:Int)) (chk (a.toNat<b.length) (kV N g c d h e i f k0 n (IntKind.i64.wrap (a+(1:Int))) (b.set a.toNat (IntKind.i64.wrap ((IntKind.i64.wrap (0 - ((c.getD a.toNat (qa Zd)):Int)))*e)))))))else (k0 b)
def m56 (N:Nat) (a:Zb) (b:Zh) (c:Bool):ZO [i68,i4]:=chk (0<=(a.length:Int)/\(a.length:Int)<=(a.length:Int)/\(a.length:Int)<=1048576) (kV N c a (a.length:Int) (b.1:Int) (b.2:Int) (0:Int) false (fun (d:Zb)=>chk (bx d (b.1:Int) c) (some ((qx d (b.1:Int) c).1,((qx d (b.1:Int) c).2:Bool),()))) N (0:Int) (List.replicate (a.length:Int).toNat (qa Zd)))
def Γ56:Gam:=[(91,g91)]
theorem qWI:Gam.get Γ56 91=some g91:=rfl
def wI:List Bool:=[O,O,I,O,I,O,I,O,I,O,O,O,O,O,I,I,I]
def FJ:Nm:=⟨wI,[],false⟩
theorem Rs:NmS FJ wI [] false:=nmS
def FK:List Bool:=[O,O,I,O,I,O,I,O,I]
def Rt:Nm:=⟨FK,[],false⟩
theorem qRu:NmS Rt FK [] false:=nmS
def FL:Nat->Nm:=fun i=>if i=3 then FJ else ⟨[],[],false⟩
def FM:Nat->Option Nm:=fun i=>if i=0 then some Rt else none
theorem p56:qi tr0 (Tryz.f56.body.getD .skip)=true:=by kernel_rfl
def T56 (N:Nat):Tab:={tr:=tr0,lp:=FL,ex:=FM,rg:=rg0,jn:=jn0,fuel:=N}
theorem qNb (N:Nat):qj Tryz.prog (T56 N):=qn fun _=>rfl
theorem FN (N:Nat):qr (T56 N) tr0 FL FM rg0 jn0 N false:=qt
def Ru:Code:=cut [I,I,O,I,I,I] (Tryz.f56.body.getD .skip)
theorem qNy (N:Nat) (d:Bool) (j:Zb) (k f g h:Int) (a:Bool) {k0:(Zb)->ZO [i68,i4]} {Q:ZQ [i68,i4]} {c:Code} (m:c=Ru) (p: ∀st,Q .ret st=qz tt true [i68,i4] [.cell 6 68,.tmp 7] st) (l: ∀(i:Zb),Q (.exit 0) ⟨[u,u,.one (.bool d),u,.one (.ptr 0 0 0),u,.one (.ptr 1 0 0),u,.one (.own 2),u,u,u,u,u,u,u,u,u,u,u,u,u,u,u,u,u,u,u,u,u,u,u,u,u,u,u,u],[.box [.int .i64 f,.int .i64 g],.box [.nils,.int .i64 h,.bool a],.row 3 Zd i true true 0]⟩=k0 i): ∀(n:Nat) (e:Int) (b:Zb),qw (qd tt Γ56 (T56 N) c) false FJ Q n ⟨[u,u,.one (.bool d),u,.one (.ptr 0 0 0),u,.one (.ptr 1 0 0),u,.one (.own 2),u,u,u,u,u,.one (.sl 3 Zd j 3),.one (.int .i64 k),.one (.int .i64 e),u,u,u,u,u,u,u,u,u,u,u,u,u,u,u,u,u,u,u,u],[.box [.int .i64 f,.int .i64 g],.box [.nils,.int .i64 h,.bool a],.row 3 Zd b true true 0]⟩=kV N d j k f g h a k0 n e b:=by
 intro n;induction n with
 | zero=>intros;rfl
 | succ n o=>
   intro e b
   rw [qD,qE m,kV];unfold Ru Tryz.f56
   simp -implicitDefEqProofs [FN,FM,Rs,wI,qRu,FK,l,o]
theorem qVX (N:Nat) (d:Zb) (a:Zh) (b:Bool):qd tt Γ56 (T56 N) (Tryz.f56.body.getD .skip) (qk tt true [i68,i4] [.cell 6 68,.tmp 7]) (qm [i25,i28,i4] 37 (d,a,b,()))=m56 N d a b:=by
 unfold Tryz.f56
 simp -implicitDefEqProofs [FN,FL,Rs,wI]
 rewrite [qNy (k0:=(fun (c:Zb)=>chk (bx c (a.1:Int) b) (some ((qx c (a.1:Int) b).1,((qx c (a.1:Int) b).2:Bool),())))) N _ _ _ _ _ _ _ ?_ ?_ ?_]
 ·rewrite [m56];first | rfl | simp -implicitDefEqProofs []
 ·rfl
 ·intro;simp only [qA,qC,qJ]
 ·intro c;simp -implicitDefEqProofs [FN,qWI,g91]
def g22:G:={ps:=[i35,i25,i31],rs:=[i4],dp:=true,pre:=fun x=>jl x.1 x.2.1 x.2.2.1,fn:=fun x=>(dE x.1 x.2.1 x.2.2.1,())}
def m22 (N:Nat) (b:Zj) (c:Zb) (a:Val Y31):ZO [i4]:=bif (!((qI b):Bool))then (some (false,()))else (bif (decide ((3:Int)<(b.1:Int)))then (some (false,()))else (chk (mJ b c) (bif (!((dr b c):Bool))then (some (false,()))else (bif (decide ((a.1:Int)=(1:Int)))then (chk (dR b (a.2.2.2.2.2:Zb)) (some (((bP b (a.2.2.2.2.2:Zb)):Bool),())))else (bif (decide ((a.1:Int)=(2:Int)))then (chk (mP b (a.2.2.2.1:Zg)) (bif ((er b (a.2.2.2.1:Zg)):Bool)then (chk (wE b c (a.2.2.2.2.1:Zg)) (some (((mQ b c (a.2.2.2.2.1:Zg)):Bool),())))else (some (false,()))))else (bif (decide ((a.1:Int)=(0:Int)))then (bif (!((qh a.2.1):Bool))then (some (false,()))else (chk (dV c a.2.1 (a.2.2.1:Bool)) (bif (!((qP c a.2.1 (a.2.2.1:Bool)).2:Bool))then (some (false,()))else (chk (eM b ([(qP c a.2.1 (a.2.2.1:Bool)).1]:Ze)) (chk (dR (cy b ([(qP c a.2.1 (a.2.2.1:Bool)).1]:Ze)) (a.2.2.2.2.2:Zb)) (bif (!((bP (cy b ([(qP c a.2.1 (a.2.2.1:Bool)).1]:Ze)) (a.2.2.2.2.2:Zb)):Bool))then (some (false,()))else (bif (!(a.2.2.1:Bool))then (some ((decide (((a.2.2.2.1:Zg).length:Int)=(0:Int))),()))else (chk (mP b (a.2.2.2.1:Zg)) (bif ((er b (a.2.2.2.1:Zg)):Bool)then (chk (cY c (a.2.2.2.1:Zg)) (some ((decide (((bK c (a.2.2.2.1:Zg)).1:Int)=(a.2.1.1:Int))&&decide (((bK c (a.2.2.2.1:Zg)).2:Int)=(a.2.1.2:Int))),())))else (some (false,())))))))))))else (some (false,()))))))))
def Γ22:Gam:=[(45,g45),(46,g46),(52,g52),(53,g53),(54,g54),(55,g55),(56,g56),(57,g57),(58,g58)]
theorem q3j:Gam.get Γ22 45=some g45/\Gam.get Γ22 46=some g46/\Gam.get Γ22 52=some g52/\Gam.get Γ22 53=some g53/\Gam.get Γ22 54=some g54/\Gam.get Γ22 55=some g55/\Gam.get Γ22 56=some g56/\Gam.get Γ22 57=some g57/\Gam.get Γ22 58=some g58:=⟨rfl,rfl,rfl,rfl,rfl,rfl,rfl,rfl,rfl⟩
def FO:List Bool:=[O,I,O,I,O,I,O,O,O,O,O,O,O,O,O,O,O,O,O,O,O,O,O,O,O,O,O,O,O,O,O,O,O,O,O,O,O,O,O,O,O,O,O,O,O,O,O,O,O,O,O,O,O,O,O,O,O,O,O,O,O,O,O,O,O,O,O,O,O,O,I]
def Rv:Nm:=⟨FO,[],false⟩
theorem qZB:NmS Rv FO [] false:=nmS
def FP:List Bool:=[O,O,O,O,O,O,I]
def Rw:Nm:=⟨FP,[],false⟩
theorem q2K:NmS Rw FP [] false:=nmS
def wJ:Nat->Tree:=fun i=>if i=12 then .quiet 0 (.quiet 1 (.quiet 2 (.quiet 4 (.alt 3 (.alt 5 (.alt 6 (.quiet 7 (.quiet 8 (.alt 9 (.quiet 10 (.quiet 11 .done)) .stop))) (.alt 7 (.alt 6 (.quiet 8 (.alt 9 (.quiet 10 (.quiet 11 .done)) .stop)) (.alt 8 (.alt 6 (.alt 9 (.quiet 10 (.quiet 11 .done)) .stop) .stop) .stop)) .stop)) (.alt 7 (.alt 5 (.alt 6 (.quiet 8 (.alt 9 (.quiet 10 (.quiet 11 .done)) .stop)) (.alt 8 (.alt 6 (.alt 9 (.quiet 10 (.quiet 11 .done)) .stop) .stop) .stop)) (.alt 8 (.alt 5 (.alt 6 (.alt 9 (.quiet 10 (.quiet 11 .done)) .stop) .stop) .stop) .stop)) .stop)) (.alt 5 (.quiet 3 (.alt 6 (.quiet 7 (.quiet 8 (.alt 9 (.quiet 10 (.quiet 11 .done)) .stop))) (.alt 7 (.alt 6 (.quiet 8 (.alt 9 (.quiet 10 (.quiet 11 .done)) .stop)) (.alt 8 (.alt 6 (.alt 9 (.quiet 10 (.quiet 11 .done)) .stop) .stop) .stop)) .stop))) (.alt 7 (.alt 3 (.alt 5 (.alt 6 (.quiet 8 (.alt 9 (.quiet 10 (.quiet 11 .done)) .stop)) (.alt 8 (.alt 6 (.alt 9 (.quiet 10 (.quiet 11 .done)) .stop) .stop) .stop)) (.alt 8 (.alt 5 (.alt 6 (.alt 9 (.quiet 10 (.quiet 11 .done)) .stop) .stop) .stop) .stop)) (.alt 5 (.quiet 3 (.alt 6 (.quiet 8 (.alt 9 (.quiet 10 (.quiet 11 .done)) .stop)) (.alt 8 (.alt 6 (.alt 9 (.quiet 10 (.quiet 11 .done)) .stop) .stop) .stop))) (.alt 8 (.alt 3 (.alt 5 (.alt 6 (.alt 9 (.quiet 10 (.quiet 11 .done)) .stop) .stop) .stop) (.alt 5 (.quiet 3 (.alt 6 (.alt 9 (.quiet 10 (.quiet 11 .done)) .stop) .stop)) .stop)) .stop))) .stop))))))else if i=16 then .quiet 0 (.quiet 1 (.quiet 2 (.alt 3 (.quiet 4 (.quiet 5 (.quiet 6 (.quiet 7 (.alt 8 (.quiet 9 (.quiet 10 (.quiet 11 (.quiet 12 (.quiet 13 .done))))) (.alt 9 (.alt 8 (.quiet 10 (.quiet 11 (.quiet 12 (.quiet 13 .done)))) (.alt 10 (.alt 8 (.quiet 11 (.quiet 12 (.quiet 13 .done))) .stop) .stop)) .stop)))))) .stop)))else .done
def FQ:Nat->Option Nm:=fun i=>if i=12 then some Rv else if i=16 then some Rw else none
theorem p22:qi wJ (Tryz.f22.body.getD .skip)=true:=by kernel_rfl
def T22 (N:Nat):Tab:={tr:=wJ,lp:=lp0,ex:=ex0,rg:=FQ,jn:=jn0,fuel:=N}
theorem q2f (N:Nat):qj Tryz.prog (T22 N):=qn fun _=>rfl
theorem qQE (N:Nat):qr (T22 N) wJ lp0 ex0 FQ jn0 N false:=qt
theorem qYf (N:Nat) (a:Zj) (b:Zb) (c:Val Y31):qd tt Γ22 (T22 N) (Tryz.f22.body.getD .skip) (qk tt true [i4] [.tmp 6]) (qm [i35,i25,i31] 91 (a,b,c,()))=m22 N a b c:=by
 rw [m22];unfold Tryz.f22
 simp (maxSteps:=10000000) -implicitDefEqProofs [qQE,wJ,FQ,qZB,FO,q2K,FP,q3j,g45,g46,g52,g53,g54,g55,g56,g57,g58]
 try rfl
def g42:G:={ps:=[i25,i29],rs:=[i28],dp:=true,pre:=fun x=>cY x.1 x.2.1,fn:=fun x=>(bK x.1 x.2.1,())}
def kW (N:Nat) (b:Zb) (c:Zg) (f g:Int) (k0:Int->Int->ZO [i28]):Nat->Int->Int->Int->ZO [i28]
 | 0,_,_,_=>none
 | n+1,a,d,e=>bif (decide (a<(b.length:Int)))then (bif (decide (a<(c.length:Int)))then (chk (0<=a/\a<(b.length:Int)) (chk (0<=a/\a<(c.length:Int)) (kW N b c f g k0 n (IntKind.i64.wrap (a+(1:Int))) ((bF (d,e) (cp (cm ((b.getD a.toNat (qa Zd)):Int)) (c.getD a.toNat (qa Y28)))).1:Int) ((bF (d,e) (cp (cm ((b.getD a.toNat (qa Zd)):Int)) (c.getD a.toNat (qa Y28)))).2:Int))))else (k0 d e))else (k0 d e)
def m42 (N:Nat) (a:Zb) (b:Zg):ZO [i28]:=kW N a b (0 0:Int) (fun (c d:Int)=>some ((c,d),())) N (0:Int) ((cm (0:Int)).1:Int) ((cm (0:Int)).2:Int)
def Γ42:Gam:=[(74,g74),(77,g77),(78,g78)]
theorem Rx:Gam.get Γ42 74=some g74/\Gam.get Γ42 77=some g77/\Gam.get Γ42 78=some g78:=⟨rfl,rfl,rfl⟩
def wK:List Bool:=[I,I,O,O,I,I,I]
def FR:Nm:=⟨wK,[],false⟩
theorem Ry:NmS FR wK [] false:=nmS
def FT:List Bool:=[O,O,O,O,I,I]
def Rz:Nm:=⟨FT,[],false⟩
theorem qTv:NmS Rz FT [] false:=nmS
def FU:List Bool:=[I,I,O,O,I,I,I]
def RA:Nm:=⟨FU,[],false⟩
theorem qNN:NmS RA FU [] false:=nmS
def wL:Nat->Tree:=fun i=>if i=5 then .quiet 1 (.quiet 2 (.quiet 3 (.quiet 4 (.first 6 (.first 7 (.alt 0 (.alt 5 (.quiet 8 (.quiet 9 (.alt 10 (.alt 11 (.alt 12 .done .stop) .stop) .stop))) (.alt 8 (.alt 5 (.quiet 9 (.alt 10 (.alt 11 (.alt 12 .done .stop) .stop) .stop)) (.alt 9 (.alt 5 (.alt 10 (.alt 11 (.alt 12 .done .stop) .stop) .stop) .stop) .stop)) .stop)) (.alt 5 (.quiet 8 (.quiet 9 (.alt 0 (.alt 10 (.alt 11 (.alt 12 .done .stop) .stop) .stop) (.alt 10 (.quiet 0 (.alt 11 (.alt 12 .done .stop) .stop)) .stop)))) (.alt 8 (.alt 0 (.alt 5 (.quiet 9 (.alt 10 (.alt 11 (.alt 12 .done .stop) .stop) .stop)) (.alt 9 (.alt 5 (.alt 10 (.alt 11 (.alt 12 .done .stop) .stop) .stop) .stop) .stop)) (.alt 5 (.quiet 9 (.alt 0 (.alt 10 (.alt 11 (.alt 12 .done .stop) .stop) .stop) (.alt 10 (.quiet 0 (.alt 11 (.alt 12 .done .stop) .stop)) .stop))) (.alt 9 (.alt 0 (.alt 5 (.alt 10 (.alt 11 (.alt 12 .done .stop) .stop) .stop) .stop) (.alt 5 (.alt 0 (.alt 10 (.alt 11 (.alt 12 .done .stop) .stop) .stop) (.alt 10 (.quiet 0 (.alt 11 (.alt 12 .done .stop) .stop)) .stop)) .stop)) .stop))) .stop))))))))else .done
def FV:Nat->Nm:=fun i=>if i=3 then FR else ⟨[],[],false⟩
def FW:Nat->Option Nm:=fun i=>if i=0 then some Rz else none
def pE:Nat->Option Nm:=fun i=>if i=5 then some RA else none
theorem p42:qi wL (Tryz.f42.body.getD .skip)=true:=by kernel_rfl
def T42 (N:Nat):Tab:={tr:=wL,lp:=FV,ex:=FW,rg:=pE,jn:=jn0,fuel:=N}
theorem qYN (N:Nat):qj Tryz.prog (T42 N):=qn fun _=>rfl
theorem FX (N:Nat):qr (T42 N) wL FV FW pE jn0 N false:=qt
def RB:Code:=cut [I,I,O,I,I,I] (Tryz.f42.body.getD .skip)
theorem qNU (N:Nat) (h:Zb) (i:Zg) (b d:Int) {k0:Int->Int->ZO [i28]} {Q:ZQ [i28]} {c:Code} (l:c=RB) (o: ∀st,Q .ret st=qz tt true [i28] [.cell 4 28] st) (k: ∀(j g:Int),Q (.exit 0) ⟨[u,u,u,u,.one (.ptr 0 0 0),.one (.ptr 1 0 0),u,u,u,u,u,u,u,u,u,u,u,u,u,u,u,u,u,u,u,u,u,u,u,u,u,u,u],[.box [.int .i64 b,.int .i64 d],.box [.int .i64 j,.int .i64 g]]⟩=k0 j g): ∀(n:Nat) (a e f:Int),qw (qd tt Γ42 (T42 N) c) false FR Q n ⟨[.one (.sl 3 Zd h 2),.one (.sl 28 Y28 i 2),u,u,.one (.ptr 0 0 0),.one (.ptr 1 0 0),.one (.int .i64 a),u,u,u,u,u,u,u,u,u,u,u,u,u,u,u,u,u,u,u,u,u,u,u,u,u,u],[.box [.int .i64 b,.int .i64 d],.box [.int .i64 e,.int .i64 f]]⟩=kW N h i b d k0 n a e f:=by
 intro n;induction n with
 | zero=>intros;rfl
 | succ n m=>
   intro a e f
   rw [qD,qE l,kW];unfold RB Tryz.f42
   simp -implicitDefEqProofs [FX,wL,FW,pE,Ry,wK,qTv,FT,qNN,FU,Rx,g74,g77,g78,k,m]
theorem q0E (N:Nat) (a:Zb) (b:Zg):qd tt Γ42 (T42 N) (Tryz.f42.body.getD .skip) (qk tt true [i28] [.cell 4 28]) (qm [i25,i29] 33 (a,b,()))=m42 N a b:=by
 unfold Tryz.f42
 simp -implicitDefEqProofs [FX,FV,pE,Ry,wK,Rx,g74]
 rewrite [qNU N _ _ _ _ ?_ ?_ ?_]
 ·rewrite [m42];first | rfl | simp -implicitDefEqProofs []
 ·rfl
 ·intro;simp only [qA,qC,qJ]
 ·intro c d;simp -implicitDefEqProofs [FX,pE]
def g37:G:={ps:=[i25,i28,i4],rs:=[i68,i4],dp:=true,pre:=fun x=>gI x.1 x.2.1 x.2.2.1,fn:=fun x=>((bZ x.1 x.2.1 x.2.2.1).1,(bZ x.1 x.2.1 x.2.2.1).2,())}
def kX (N:Nat) (b:Zb) (e:Bool) (f d g:Int) (h:Bool) (k0:(Zb)->ZO [i68,i4]):Nat->Int->(Zb)->ZO [i68,i4]
 | 0,_,_=>none
 | n+1,a,c=>bif (decide (a<(b.length:Int)))then (chk (0<=a/\a<(b.length:Int)) (chk (c.length+([(IntKind.i64.wrap ((IntKind.i64.wrap (0 - ((b.getD a.toNat (qa Zd)):Int)))*d))]:Zb).length<=1048576) (kX N b e f d g h k0 n (IntKind.i64.wrap (a+(1:Int))) (c++([(IntKind.i64.wrap ((IntKind.i64.wrap (0 - ((b.getD a.toNat (qa Zd)):Int)))*d))]:Zb)))))else (k0 c)
def m37 (N:Nat) (d:Zb) (a:Zh) (b:Bool):ZO [i68,i4]:=kX N d b (a.1:Int) (a.2:Int) (0:Int) false (fun (c:Zb)=>chk (mM c (a.1:Int) b) (some ((fo c (a.1:Int) b).1,((fo c (a.1:Int) b).2:Bool),()))) N (0:Int) ([]:Zb)
def Γ37:Gam:=[(65,wg)]
theorem qOo:Gam.get Γ37 65=some wg:=rfl
def wM:List Bool:=[I,O,I,O,I,O,I,O,I,I]
def FY:Nm:=⟨wM,[],true⟩
theorem RC:NmS FY wM [] true:=nmS
def FZ:List Bool:=[O,O,I,O,I,O,I,O,I]
def RD:Nm:=⟨FZ,[],true⟩
theorem qV5:NmS RD FZ [] true:=nmS
def wN:Nat->Tree:=fun i=>if i=5 then .quiet 1 (.quiet 2 (.quiet 3 (.quiet 4 (.quiet 5 (.quiet 6 (.quiet 7 (.quiet 8 (.first 0 (.alt 9 (.alt 10 (.quiet 11 .done) .stop) .stop)))))))))else .done
def F0:Nat->Nm:=fun i=>if i=3 then FY else ⟨[],[],false⟩
def F1:Nat->Option Nm:=fun i=>if i=0 then some RD else none
theorem p37:qi wN (Tryz.f37.body.getD .skip)=true:=by kernel_rfl
def T37 (N:Nat):Tab:={tr:=wN,lp:=F0,ex:=F1,rg:=rg0,jn:=jn0,fuel:=N}
theorem qZO (N:Nat):qj Tryz.prog (T37 N):=qn fun _=>rfl
theorem F3 (N:Nat):qr (T37 N) wN F0 F1 rg0 jn0 N false:=qt
def RE:Code:=cut [I,I,O,I,I,I] (Tryz.f37.body.getD .skip)
theorem q22 (N:Nat) (j:Zb) (b:Bool) (e f g:Int) (h:Bool) {k0:(Zb)->ZO [i68,i4]} {Q:ZQ [i68,i4]} {c:Code} (l:c=RE) (o: ∀st,Q .ret st=qz tt true [i68,i4] [.cell 6 68,.tmp 7] st) (k: ∀(i:Zb),Q (.exit 0) ⟨[u,u,.one (.bool b),u,.one (.ptr 0 0 0),u,.one (.ptr 1 0 0),u,.one (.own 2),u,u,u,u,u,u,u,u,u,u,u,u,u,u,u,u,u,u,u,u,u,u,u,u,u,u,u,u,u,u,u],[.box [.int .i64 e,.int .i64 f],.box [.nils,.int .i64 g,.bool h],.row 3 Zd i true true 0]⟩=k0 i): ∀(n:Nat) (d:Int) (a:Zb),qw (qd tt Γ37 (T37 N) c) false FY Q n ⟨[.one (.sl 3 Zd j 0),u,.one (.bool b),u,.one (.ptr 0 0 0),u,.one (.ptr 1 0 0),u,.one (.own 2),.one (.int .i64 d),u,u,u,u,u,u,u,u,u,u,u,u,u,u,u,u,u,u,u,u,u,u,u,u,u,u,u,u,u,u],[.box [.int .i64 e,.int .i64 f],.box [.nils,.int .i64 g,.bool h],.row 3 Zd a true true 0]⟩=kX N j b e f g h k0 n d a:=by
 intro n;induction n with
 | zero=>intros;rfl
 | succ n m=>
   intro d a
   rw [qD,qE l,kX];unfold RE Tryz.f37
   simp -implicitDefEqProofs [F3,wN,F1,RC,wM,qV5,FZ,k,m]
theorem qU0 (N:Nat) (a:Zb) (b:Zh) (c:Bool):qd tt Γ37 (T37 N) (Tryz.f37.body.getD .skip) (qk tt true [i68,i4] [.cell 6 68,.tmp 7]) (qm [i25,i28,i4] 40 (a,b,c,()))=m37 N a b c:=by
 unfold Tryz.f37
 simp -implicitDefEqProofs [F3,F0,RC,wM]
 rewrite [q22 N _ _ _ _ _ _ ?_ ?_ ?_]
 ·rewrite [m37];first | rfl | simp -implicitDefEqProofs []
 ·rfl
 ·intro;simp only [qA,qC,qJ]
 ·intro d;simp -implicitDefEqProofs [F3,qOo,wg]
def g38:G:={ps:=[i35,i68],rs:=[i35],dp:=false,pre:=fun x=>hQ x.1 x.2.1,fn:=fun x=>(c9 x.1 x.2.1,())}
def m38 (N:Nat) (a:Zj) (b:Zf):ZO [i35]:=chk (fM a) (chk (((cpC a).2:Ze).length+([b]:Ze).length<=1048576) (some (((a.1:Int),(((cpC a).2:Ze)++([b]:Ze))),())))
def Γ38:Gam:=[(75,g75)]
theorem qQB:Gam.get Γ38 75=some g75:=rfl
def F4:List Bool:=[O,O,O,O,I]
def RF:Nm:=⟨F4,[],false⟩
theorem qNq:NmS RF F4 [] false:=nmS
def F5:Sem:=sn tt [(35,1,33)] (dI)
def wO:Nat->Tree:=fun i=>if i=1 then .sem [4] (.keep 2 (.alt 0 (.alt 1 (.alt 3 (.alt 4 (.quiet 5 (.alt 6 (.alt 7 (.quiet 8 (.alt 9 .done .stop)) .stop) .stop)) (.alt 5 (.alt 4 (.alt 6 (.alt 7 (.quiet 8 (.alt 9 .done .stop)) .stop) .stop) (.alt 6 (.alt 4 (.alt 7 (.quiet 8 (.alt 9 .done .stop)) .stop) .stop) .stop)) .stop)) (.alt 5 (.alt 3 (.alt 4 (.alt 6 (.alt 7 (.quiet 8 (.alt 9 .done .stop)) .stop) .stop) (.alt 6 (.alt 4 (.alt 7 (.quiet 8 (.alt 9 .done .stop)) .stop) .stop) .stop)) (.alt 6 (.alt 3 (.alt 4 (.alt 7 (.quiet 8 (.alt 9 .done .stop)) .stop) .stop) .stop) .stop)) .stop)) (.alt 3 (.alt 1 (.alt 4 (.quiet 5 (.alt 6 (.alt 7 (.quiet 8 (.alt 9 .done .stop)) .stop) .stop)) (.alt 5 (.alt 4 (.alt 6 (.alt 7 (.quiet 8 (.alt 9 .done .stop)) .stop) .stop) (.alt 6 (.alt 4 (.alt 7 (.quiet 8 (.alt 9 .done .stop)) .stop) .stop) .stop)) .stop)) (.alt 4 (.quiet 5 (.keep 1 (.alt 6 (.alt 7 (.quiet 8 (.alt 9 .done .stop)) .stop) .stop))) (.alt 5 (.alt 1 (.alt 4 (.alt 6 (.alt 7 (.quiet 8 (.alt 9 .done .stop)) .stop) .stop) (.alt 6 (.alt 4 (.alt 7 (.quiet 8 (.alt 9 .done .stop)) .stop) .stop) .stop)) (.alt 4 (.keep 1 (.alt 6 (.alt 7 (.quiet 8 (.alt 9 .done .stop)) .stop) .stop)) (.alt 6 (.alt 1 (.alt 4 (.alt 7 (.quiet 8 (.alt 9 .done .stop)) .stop) .stop) (.alt 4 (.keep 1 (.alt 7 (.quiet 8 (.alt 9 .done .stop)) .stop)) .stop)) .stop))) .stop))) (.alt 5 (.alt 1 (.alt 3 (.alt 4 (.alt 6 (.alt 7 (.quiet 8 (.alt 9 .done .stop)) .stop) .stop) (.alt 6 (.alt 4 (.alt 7 (.quiet 8 (.alt 9 .done .stop)) .stop) .stop) .stop)) (.alt 6 (.alt 3 (.alt 4 (.alt 7 (.quiet 8 (.alt 9 .done .stop)) .stop) .stop) .stop) .stop)) (.alt 3 (.alt 1 (.alt 4 (.alt 6 (.alt 7 (.quiet 8 (.alt 9 .done .stop)) .stop) .stop) (.alt 6 (.alt 4 (.alt 7 (.quiet 8 (.alt 9 .done .stop)) .stop) .stop) .stop)) (.alt 4 (.keep 1 (.alt 6 (.alt 7 (.quiet 8 (.alt 9 .done .stop)) .stop) .stop)) (.alt 6 (.alt 1 (.alt 4 (.alt 7 (.quiet 8 (.alt 9 .done .stop)) .stop) .stop) (.alt 4 (.keep 1 (.alt 7 (.quiet 8 (.alt 9 .done .stop)) .stop)) .stop)) .stop))) (.alt 6 (.alt 1 (.alt 3 (.alt 4 (.alt 7 (.quiet 8 (.alt 9 .done .stop)) .stop) .stop) .stop) (.alt 3 (.alt 1 (.alt 4 (.alt 7 (.quiet 8 (.alt 9 .done .stop)) .stop) .stop) (.alt 4 (.keep 1 (.alt 7 (.quiet 8 (.alt 9 .done .stop)) .stop)) .stop)) .stop)) .stop))) .stop))) (.alt 3 (.alt 0 (.alt 1 (.alt 4 (.quiet 5 (.alt 6 (.alt 7 (.quiet 8 (.alt 9 .done .stop)) .stop) .stop)) (.alt 5 (.alt 4 (.alt 6 (.alt 7 (.quiet 8 (.alt 9 .done .stop)) .stop) .stop) (.alt 6 (.alt 4 (.alt 7 (.quiet 8 (.alt 9 .done .stop)) .stop) .stop) .stop)) .stop)) (.alt 4 (.quiet 5 (.keep 1 (.alt 6 (.alt 7 (.quiet 8 (.alt 9 .done .stop)) .stop) .stop))) (.alt 5 (.alt 1 (.alt 4 (.alt 6 (.alt 7 (.quiet 8 (.alt 9 .done .stop)) .stop) .stop) (.alt 6 (.alt 4 (.alt 7 (.quiet 8 (.alt 9 .done .stop)) .stop) .stop) .stop)) (.alt 4 (.keep 1 (.alt 6 (.alt 7 (.quiet 8 (.alt 9 .done .stop)) .stop) .stop)) (.alt 6 (.alt 1 (.alt 4 (.alt 7 (.quiet 8 (.alt 9 .done .stop)) .stop) .stop) (.alt 4 (.keep 1 (.alt 7 (.quiet 8 (.alt 9 .done .stop)) .stop)) .stop)) .stop))) .stop))) (.alt 4 (.quiet 5 (.keep 0 (.keep 1 (.alt 6 (.alt 7 (.quiet 8 (.alt 9 .done .stop)) .stop) .stop)))) (.alt 5 (.alt 0 (.alt 1 (.alt 4 (.alt 6 (.alt 7 (.quiet 8 (.alt 9 .done .stop)) .stop) .stop) (.alt 6 (.alt 4 (.alt 7 (.quiet 8 (.alt 9 .done .stop)) .stop) .stop) .stop)) (.alt 4 (.keep 1 (.alt 6 (.alt 7 (.quiet 8 (.alt 9 .done .stop)) .stop) .stop)) (.alt 6 (.alt 1 (.alt 4 (.alt 7 (.quiet 8 (.alt 9 .done .stop)) .stop) .stop) (.alt 4 (.keep 1 (.alt 7 (.quiet 8 (.alt 9 .done .stop)) .stop)) .stop)) .stop))) (.alt 4 (.keep 0 (.keep 1 (.alt 6 (.alt 7 (.quiet 8 (.alt 9 .done .stop)) .stop) .stop))) (.alt 6 (.alt 0 (.alt 1 (.alt 4 (.alt 7 (.quiet 8 (.alt 9 .done .stop)) .stop) .stop) (.alt 4 (.keep 1 (.alt 7 (.quiet 8 (.alt 9 .done .stop)) .stop)) .stop)) (.alt 4 (.keep 0 (.keep 1 (.alt 7 (.quiet 8 (.alt 9 .done .stop)) .stop))) .stop)) .stop))) .stop))) (.alt 5 (.alt 0 (.alt 1 (.alt 3 (.alt 4 (.alt 6 (.alt 7 (.quiet 8 (.alt 9 .done .stop)) .stop) .stop) (.alt 6 (.alt 4 (.alt 7 (.quiet 8 (.alt 9 .done .stop)) .stop) .stop) .stop)) (.alt 6 (.alt 3 (.alt 4 (.alt 7 (.quiet 8 (.alt 9 .done .stop)) .stop) .stop) .stop) .stop)) (.alt 3 (.alt 1 (.alt 4 (.alt 6 (.alt 7 (.quiet 8 (.alt 9 .done .stop)) .stop) .stop) (.alt 6 (.alt 4 (.alt 7 (.quiet 8 (.alt 9 .done .stop)) .stop) .stop) .stop)) (.alt 4 (.keep 1 (.alt 6 (.alt 7 (.quiet 8 (.alt 9 .done .stop)) .stop) .stop)) (.alt 6 (.alt 1 (.alt 4 (.alt 7 (.quiet 8 (.alt 9 .done .stop)) .stop) .stop) (.alt 4 (.keep 1 (.alt 7 (.quiet 8 (.alt 9 .done .stop)) .stop)) .stop)) .stop))) (.alt 6 (.alt 1 (.alt 3 (.alt 4 (.alt 7 (.quiet 8 (.alt 9 .done .stop)) .stop) .stop) .stop) (.alt 3 (.alt 1 (.alt 4 (.alt 7 (.quiet 8 (.alt 9 .done .stop)) .stop) .stop) (.alt 4 (.keep 1 (.alt 7 (.quiet 8 (.alt 9 .done .stop)) .stop)) .stop)) .stop)) .stop))) (.alt 3 (.alt 0 (.alt 1 (.alt 4 (.alt 6 (.alt 7 (.quiet 8 (.alt 9 .done .stop)) .stop) .stop) (.alt 6 (.alt 4 (.alt 7 (.quiet 8 (.alt 9 .done .stop)) .stop) .stop) .stop)) (.alt 4 (.keep 1 (.alt 6 (.alt 7 (.quiet 8 (.alt 9 .done .stop)) .stop) .stop)) (.alt 6 (.alt 1 (.alt 4 (.alt 7 (.quiet 8 (.alt 9 .done .stop)) .stop) .stop) (.alt 4 (.keep 1 (.alt 7 (.quiet 8 (.alt 9 .done .stop)) .stop)) .stop)) .stop))) (.alt 4 (.keep 0 (.keep 1 (.alt 6 (.alt 7 (.quiet 8 (.alt 9 .done .stop)) .stop) .stop))) (.alt 6 (.alt 0 (.alt 1 (.alt 4 (.alt 7 (.quiet 8 (.alt 9 .done .stop)) .stop) .stop) (.alt 4 (.keep 1 (.alt 7 (.quiet 8 (.alt 9 .done .stop)) .stop)) .stop)) (.alt 4 (.keep 0 (.keep 1 (.alt 7 (.quiet 8 (.alt 9 .done .stop)) .stop))) .stop)) .stop))) (.alt 6 (.alt 0 (.alt 1 (.alt 3 (.alt 4 (.alt 7 (.quiet 8 (.alt 9 .done .stop)) .stop) .stop) .stop) (.alt 3 (.alt 1 (.alt 4 (.alt 7 (.quiet 8 (.alt 9 .done .stop)) .stop) .stop) (.alt 4 (.keep 1 (.alt 7 (.quiet 8 (.alt 9 .done .stop)) .stop)) .stop)) .stop)) (.alt 3 (.alt 0 (.alt 1 (.alt 4 (.alt 7 (.quiet 8 (.alt 9 .done .stop)) .stop) .stop) (.alt 4 (.keep 1 (.alt 7 (.quiet 8 (.alt 9 .done .stop)) .stop)) .stop)) (.alt 4 (.keep 0 (.keep 1 (.alt 7 (.quiet 8 (.alt 9 .done .stop)) .stop))) .stop)) .stop)) .stop))) .stop))))else .done
def F6:Nat->Option Nm:=fun i=>if i=1 then some RF else none
theorem p38:qi wO (Tryz.f38.body.getD .skip)=true:=by kernel_rfl
def T38 (N:Nat):Tab:={tr:=wO,lp:=lp0,ex:=ex0,rg:=F6,jn:=jn0,fuel:=N,sem:=F5}
theorem qYM (N:Nat):qj Tryz.prog (T38 N):=qn fun _=>rfl
theorem qTt (N:Nat):fC (T38 N) wO lp0 ex0 F6 jn0 N false F5:=gf
theorem qOE (N:Nat) (a:Zj) (b:Zf):qd tt Γ38 (T38 N) (Tryz.f38.body.getD .skip) (qk tt false [i35] [.cell 4 35]) (qm [i35,i68] 14 (a,b,()))=m38 N a b:=by
 rw [m38];unfold Tryz.f38
 simp -implicitDefEqProofs [qTt,wO,F6,F5,ir,qNq,F4,qQB,g75]
 try rfl
def g18:G:={ps:=[i35,i25,i31],rs:=[i4],dp:=true,pre:=fun x=>jl x.1 x.2.1 x.2.2.1,fn:=fun x=>(dE x.1 x.2.1 x.2.2.1,())}
def kY (N:Nat) (g:Zb) (h:Int) (b:Ze) (i j k:Int) (d:Bool) (e c:Zg) (f:Zb) (k1:Unit->ZO [i4]):Nat->Int->ZO [i4]
 | 0,_=>none
 | n+1,a=>bif (decide (a<(b.length:Int)))then (chk (0<=a/\a<(b.length:Int)) (chk (cY ((b.getD a.toNat (qa Y68)).1:Zb) c) (bif (!((qh (bK ((b.getD a.toNat (qa Y68)).1:Zb) c)):Bool))then (some (false,()))else (bif (decide ((0:Int)<((bK ((b.getD a.toNat (qa Y68)).1:Zb) c).1:Int)))then (some (false,()))else (kY N g h b i j k d e c f k1 n (IntKind.i64.wrap (a+(1:Int))))))))else (k1 ())
def m18 (N:Nat) (b:Zj) (c:Zb) (a:Val Y31):ZO [i4]:=chk (b8 b) (bif (!((qI b):Bool))then (some (false,()))else (chk (mK c (b.1:Int)) (bif (!((hK c (b.1:Int)):Bool))then (some (false,()))else (bif (decide ((a.1:Int)=(1:Int)))then (chk (dR b (a.2.2.2.2.2:Zb)) (some (((bP b (a.2.2.2.2.2:Zb)):Bool),())))else (bif (decide ((a.1:Int)=(2:Int)))then (chk (fO b (a.2.2.2.1:Zg)) (bif (!((inV b (a.2.2.2.1:Zg)).2:Bool))then (some (false,()))else (bif (!((inV b (a.2.2.2.1:Zg)).1:Bool))then (some (false,()))else (chk (dD (a.2.2.2.2.1:Zg) (b.1:Int)) (bif (!((cu (a.2.2.2.2.1:Zg) (b.1:Int)):Bool))then (some (false,()))else (kY N c (b.1:Int) (b.2:Ze) (a.1:Int) (a.2.1.1:Int) (a.2.1.2:Int) (a.2.2.1:Bool) (a.2.2.2.1:Zg) (a.2.2.2.2.1:Zg) (a.2.2.2.2.2:Zb) (fun (_:Unit)=>chk (cY c (a.2.2.2.2.1:Zg)) (bif ((qh (bK c (a.2.2.2.2.1:Zg))):Bool)then (some ((decide ((0:Int)<((bK c (a.2.2.2.2.1:Zg)).1:Int))),()))else (some (false,())))) N (0:Int)))))))else (bif (decide ((a.1:Int)=(0:Int)))then (chk (gI c a.2.1 (a.2.2.1:Bool)) (bif (!((bZ c a.2.1 (a.2.2.1:Bool)).2:Bool))then (some (false,()))else (bif (!((qh a.2.1):Bool))then (some (false,()))else (chk (hQ b ((bZ c a.2.1 (a.2.2.1:Bool)).1)) (chk (dR (c9 b ((bZ c a.2.1 (a.2.2.1:Bool)).1)) (a.2.2.2.2.2:Zb)) (bif (!((bP (c9 b ((bZ c a.2.1 (a.2.2.1:Bool)).1)) (a.2.2.2.2.2:Zb)):Bool))then (some (false,()))else (chk (fO b (a.2.2.2.1:Zg)) (bif (!(a.2.2.1:Bool))then (bif (decide (((a.2.2.2.1:Zg).length:Int)=(0:Int)))then (some (true,()))else (bif (a.2.2.1:Bool)then (bif ((inV b (a.2.2.2.1:Zg)).2:Bool)then (bif ((inV b (a.2.2.2.1:Zg)).1:Bool)then (chk (cY c (a.2.2.2.1:Zg)) (some ((decide (((bK c (a.2.2.2.1:Zg)).1:Int)=(a.2.1.1:Int))&&decide (((bK c (a.2.2.2.1:Zg)).2:Int)=(a.2.1.2:Int))),())))else (some (false,())))else (some (false,())))else (some (false,()))))else (bif (a.2.2.1:Bool)then (bif ((inV b (a.2.2.2.1:Zg)).2:Bool)then (bif ((inV b (a.2.2.2.1:Zg)).1:Bool)then (chk (cY c (a.2.2.2.1:Zg)) (some ((decide (((bK c (a.2.2.2.1:Zg)).1:Int)=(a.2.1.1:Int))&&decide (((bK c (a.2.2.2.1:Zg)).2:Int)=(a.2.1.2:Int))),())))else (some (false,())))else (some (false,())))else (some (false,())))))))))))else (some (false,()))))))))
def Γ18:Gam:=[(31,g31),(32,g32),(37,g37),(38,g38),(39,g39),(40,g40),(41,g41),(42,g42),(43,g43)]
theorem F7:Gam.get Γ18 31=some g31/\Gam.get Γ18 32=some g32/\Gam.get Γ18 37=some g37/\Gam.get Γ18 38=some g38/\Gam.get Γ18 39=some g39/\Gam.get Γ18 40=some g40/\Gam.get Γ18 41=some g41/\Gam.get Γ18 42=some g42/\Gam.get Γ18 43=some g43:=⟨rfl,rfl,rfl,rfl,rfl,rfl,rfl,rfl,rfl⟩
def wP:List Bool:=[O,I,O,I,O,I,O,O,O,I]
def F8:Nm:=⟨wP,[],false⟩
theorem RG:NmS F8 wP [] false:=nmS
def F9:List Bool:=[O,I,O,O,O,I]
def RH:Nm:=⟨F9,[],false⟩
theorem qTr:NmS RH F9 [] false:=nmS
def Ga:List Bool:=[O,I,O,I,O,I,O,O,O,I,I]
def RI:Nm:=⟨Ga,[],false⟩
theorem q09:NmS RI Ga [] false:=nmS
def Gd:List Bool:=[O,I,O,I,O,I,O,O,O,O,O,O,O,O,O,O,O,O,O,O,O,O,O,O,O,O,O,O,O,O,O,O,O,O,O,O,O,O,O,O,O,O,O,O,O,O,O,O,O,O,O,O,O,O,O,O,O,O,O,O,O,O,O,O,O,O,O,O,O,O,O,O,O,O,O,O,O,O,O,O,O,O,O,O,O,O,O,O,O,O,O,O,O,O,O,O,O,O,O,O,O,O,O,O,O,O,O,O,O,O,O,O,O,O,O,O,O,O,O,I]
def RJ:Nm:=⟨Gd,[],false⟩
theorem q1A:NmS RJ Gd [] false:=nmS
def Ge:List Bool:=[O,O,O,O,O,O,I]
def RK:Nm:=⟨Ge,[],false⟩
theorem qVQ:NmS RK Ge [] false:=nmS
def pF:Nat->Tree:=fun i=>if i=13 then .first 2 (.grow 0 (.grow 1 (.grow 3 (.grow 4 (.grow 5 (.grow 6 (.grow 7 (.alt 8 (.alt 9 (.alt 10 .done .stop) .stop) (.alt 9 (.alt 8 (.alt 10 .done .stop) .stop) .stop)))))))))else if i=20 then .quiet 0 (.quiet 1 (.quiet 2 (.quiet 3 (.quiet 4 (.alt 5 (.quiet 6 (.quiet 7 (.quiet 8 (.quiet 9 (.quiet 10 (.alt 11 (.quiet 12 (.quiet 13 (.alt 14 (.quiet 15 (.quiet 16 .done)) .stop))) (.alt 12 (.alt 11 (.quiet 13 (.alt 14 (.quiet 15 (.quiet 16 .done)) .stop)) (.alt 13 (.alt 11 (.alt 14 (.quiet 15 (.quiet 16 .done)) .stop) .stop) .stop)) .stop))))))) .stop)))))else if i=23 then .quiet 0 (.quiet 1 (.quiet 2 (.quiet 3 (.quiet 4 (.quiet 5 (.quiet 6 (.quiet 7 (.quiet 8 (.quiet 9 (.quiet 10 (.quiet 11 (.quiet 12 (.quiet 13 (.quiet 14 (.quiet 15 (.quiet 16 (.quiet 17 (.quiet 18 (.quiet 19 (.quiet 20 (.quiet 21 (.alt 22 (.quiet 23 (.quiet 24 (.quiet 25 (.quiet 26 (.quiet 27 (.quiet 28 .done)))))) (.alt 23 (.alt 22 (.quiet 24 (.quiet 25 (.quiet 26 (.quiet 27 (.quiet 28 .done))))) (.alt 24 (.alt 22 (.quiet 25 (.quiet 26 (.quiet 27 (.quiet 28 .done)))) .stop) .stop)) .stop)))))))))))))))))))))))else .done
def Gf:Nat->Nm:=fun i=>if i=11 then F8 else ⟨[],[],false⟩
def Gg:Nat->Option Nm:=fun i=>if i=1 then some RH else none
def pG:Nat->Option Nm:=fun i=>if i=13 then some RI else if i=20 then some RJ else if i=23 then some RK else none
theorem p18:qi pF (Tryz.f18.body.getD .skip)=true:=by kernel_rfl
def T18 (N:Nat):Tab:={tr:=pF,lp:=Gf,ex:=Gg,rg:=pG,jn:=jn0,fuel:=N}
theorem qOp (N:Nat):qj Tryz.prog (T18 N):=qn fun _=>rfl
theorem Gi (N:Nat):qr (T18 N) pF Gf Gg pG jn0 N false:=qt
def RL:Code:=cut [I,I,O,I,I,I,I,I,O,I,I,O,I,I,I] (Tryz.f18.body.getD .skip)
theorem q3u (N:Nat) (f:Zb) (k:Int) (l:Ze) (h i j:Int) (a:Bool) (b d:Zg) (e:Zb) {k1:Unit->ZO [i4]} {Q:ZQ [i4]} {c:Code} (m:c=RL) (o: ∀st,Q .ret st=qz tt true [i4] [.tmp 6] st) (h1:Q (.exit 1) ⟨[u,.one (.sl 3 Zd f 1),u,u,u,.one (.ptr 0 0 0),u,u,u,u,u,u,u,u,u,u,u,u,u,u,u,u,u,u,u,u,u,u,u,u,u,u,u,u,u,u,u,u,u,u,u,u,u,u,u,u,u,u,u,u,u,u,u,u,u,u,u,u,u,u,u,u,u,u,u,u,u,u,u,u,u,u,u,u,u,u,u,u,u,u,u,u,u,u,u,u,u,u,u,u,u,u,u,u,u,u,u,u,u,u,u,u,u,u,u,u,u,u,u,u,u,u,u,u,u,u,u,u,u,u,u,u,u,u,u,u,u,u,u,u,u,u,u,u,u,u,u,u,u,u,u,u,u,u,u,u,u,u,u,u,u,u,u,u,u],[.box [.int .i64 h,.int .i64 i,.int .i64 j,.bool a,.sl 28 Y28 b 1,.sl 28 Y28 d 1,.sl 3 Zd e 1]]⟩=k1 ()): ∀(n:Nat) (g:Int),qw (qd tt Γ18 (T18 N) c) false F8 Q n ⟨[u,.one (.sl 3 Zd f 2),u,.one (.ptr 0 0 0),u,.one (.ptr 1 0 0),u,u,u,.one (.int .i64 g),u,u,u,u,u,u,u,u,u,u,u,u,u,u,u,u,u,u,u,u,u,u,u,u,u,u,u,u,u,u,u,u,u,u,u,u,u,u,u,u,u,u,u,u,u,u,u,u,u,u,u,u,u,u,u,u,u,u,u,u,u,u,u,u,u,u,u,u,u,u,u,u,u,u,u,u,u,u,u,u,u,u,u,u,u,u,u,u,u,u,u,u,u,u,u,u,u,u,u,u,u,u,u,u,u,u,u,u,u,u,u,u,u,u,u,u,u,u,u,u,u,u,u,u,u,u,u,u,u,u,u,u,u,u,u,u,u,u,u,u,u,u,u,u,u],[.box [.int .i64 k,.sl 68 Y68 l 2],.box [.int .i64 h,.int .i64 i,.int .i64 j,.bool a,.sl 28 Y28 b 2,.sl 28 Y28 d 2,.sl 3 Zd e 2]]⟩=kY N f k l h i j a b d e k1 n g:=by
 intro n;induction n with
 | zero=>intros;rfl
 | succ n p=>
   intro g
   rw [qD,qE m,kY];unfold RL Tryz.f18
   simp (maxSteps:=10000000) -implicitDefEqProofs [Gi,pF,Gg,pG,RG,wP,qTr,F9,q09,Ga,F7,g42,g43,o,h1,p]
theorem qWa (N:Nat) (c:Zj) (a:Zb) (b:Val Y31):qd tt Γ18 (T18 N) (Tryz.f18.body.getD .skip) (qk tt true [i4] [.tmp 6]) (qm [i35,i25,i31] 155 (c,a,b,()))=m18 N c a b:=by
 unfold Tryz.f18
 simp (maxSteps:=10000000) -implicitDefEqProofs [Gi,pF,Gf,pG,RG,wP,q1A,Gd,qVQ,Ge,F7,g31,g32,g37,g38,g39,g40,g41,g42,g43]
 rewrite [q3u (k1:=(fun (_:Unit)=>chk (cY a (b.2.2.2.2.1:Zg)) (bif ((qh (bK a (b.2.2.2.2.1:Zg))):Bool)then (some ((decide ((0:Int)<((bK a (b.2.2.2.2.1:Zg)).1:Int))),()))else (some (false,()))))) N _ _ _ _ _ _ _ _ _ _ ?_ ?_ ?_]
 ·rewrite [m18];first | rfl | simp -implicitDefEqProofs []
 ·rfl
 ·intro;simp only [qA,qC,qJ]
 ·simp (maxSteps:=10000000) -implicitDefEqProofs [Gi,pG,F7,g42,g43]
theorem e58 (l:Zb) (p:Zg) (h:cY l p): ∃N,m58 N l p=some (bK l p,()):=⟨l.length+1,by
 obtain ⟨h,c⟩:=h
 rw [m58,bK,<-wD]
 exact wC (F:=fun n i (s:Zh)=>kT (l.length+1) p l (l.length:Int) 0 0 (fun a b=>some ((a,b),())) n i s.1 s.2) (f:=stV) (k:=fun s=>some (s,())) h c (fun n i s h1 h2=>by
  obtain ⟨s1,s2⟩:=s
  dsimp only
  rw [kT,qg (by omega),qc (by omega),qc (by omega),qB h1,qB h2,stV]) (fun n i s d=>by
  rw [kT,qf (by omega)]) _ (Nat.lt_succ_self _) ((0:Int),(1:Int))⟩
theorem e42 (l:Zb) (p:Zg) (h:cY l p): ∃N,m42 N l p=some (bK l p,()):=⟨l.length+1,by
 obtain ⟨h,c⟩:=h
 rw [m42,bK,<-wD]
 exact wC (F:=fun n i (s:Zh)=>kW (l.length+1) l p 0 0 (fun a b=>some ((a,b),())) n i s.1 s.2) (f:=stV) (k:=fun s=>some (s,())) h c (fun n i s h1 h2=>by
  obtain ⟨s1,s2⟩:=s
  dsimp only
  rw [kW,qg (by omega),qg (by omega),qc (by omega),qc (by omega),qB h1,qB h2,stV,cm]) (fun n i s d=>by
  rw [kW,qf (by omega)]) _ (Nat.lt_succ_self _) ((0:Int),(1:Int))⟩
theorem s58:Sound Tryz.prog 58 g58:=qo (tt:=tt) (Γ:=Γ58) hT (qe s96 (qe s97 ql)) hm (fn:=Tryz.f58) Tryz.func58 (c:=Tryz.f58.body.getD .skip) (by kernel_rfl) (by kernel_rfl) fun x a=>by
 obtain ⟨N,h⟩:=e58 x.1 x.2.1 a
 exact ⟨T58 N,p58,qp _,qSH N,(qXz N x.1 x.2.1).trans h⟩
theorem s42:Sound Tryz.prog 42 g42:=qo (tt:=tt) (Γ:=Γ42) hT (qe s74 (qe s77 (qe s78 ql))) hm (fn:=Tryz.f42) Tryz.func42 (c:=Tryz.f42.body.getD .skip) (by kernel_rfl) (by kernel_rfl) fun x a=>by
 obtain ⟨N,h⟩:=e42 x.1 x.2.1 a
 exact ⟨T42 N,p42,qp _,qYN N,(q0E N x.1 x.2.1).trans h⟩
theorem e53 (c:Zj) (p:Zg) (h:mP c p): ∃N,m53 N c p=some (er c p,()):=⟨0,by
 rw [m53,qc (show fO c p from h),er]
 cases (inV c p).1<;>rfl⟩
theorem s53:Sound Tryz.prog 53 g53:=qo (tt:=tt) (Γ:=Γ53) hT (qe s92 ql) hm (fn:=Tryz.f53) Tryz.func53 (c:=Tryz.f53.body.getD .skip) (by kernel_rfl) (by kernel_rfl) fun x a=>by
 obtain ⟨N,h⟩:=e53 x.1 x.2.1 a
 exact ⟨T53 N,p53,qp _,qSb N,(qN1 N x.1 x.2.1).trans h⟩
theorem RM {ρ:Type} (s:Zh) (x y:ρ):(bif !qh s then x else bif decide ((0:Int)<s.1)then x else y)=bif kS s then y else x:=by
 unfold kS
 cases qh s<;>cases decide ((0:Int)<s.1)<;>rfl
theorem RO (s:Zh):(bif qh s then some (decide ((0:Int)<s.1),())else some (false,()):Option (Bool×Unit))=some (pC s,()):=by
 unfold pC
 cases qh s<;>rfl
theorem e54 (c:Zj) (l:Zb) (p:Zg) (h:wE c l p): ∃N,m54 N c l p=some (mQ c l p,()):=⟨List.length (α:=Zf) c.2+1,by
 obtain ⟨h1,h2,e⟩:=h
 rw [m54,qc (show dD p _ from e),mQ]
 cases j:cu p c.1 with
 | false=>rfl
 | true=>
   have m:=(pB j).1
   obtain ⟨hd,g,f⟩:=bB h1
   rw [Bool.not_true,cond_false,Bool.true_and]
   refine (bp (xs:=(c.2:Ze)) (F:=fun n i (_:Unit)=>kU _ l p c.2 _ _ n i) (step:=fun _ x _ K=>bif kS (bK x.1 p)then K ()else some (false,())) (k:=fun _=>some (pC (bK l p),())) (Nat.le_trans g (by decide)) (fun n i b d=> ?_) (fun n i b d=> ?_) _ () (Nat.lt_succ_self _)).trans ((dK _ 0).trans ?_)
   ·have o:=(f _ (List.getElem_mem d)).2
    rw [kU,qg (by omega),qc (by omega),qB d,qc (show cY _ p from ⟨by omega,by omega⟩)]
    exact RM (bK _ p) _ _
   ·rw [kU,qf (by omega),qc (show cY l p from ⟨by omega,by omega⟩)]
    exact RO (bK l p)
   ·cases List.all (α:=Zf) c.2 (fun a=>kS (bK a.1 p))<;>rfl⟩
theorem s54:Sound Tryz.prog 54 g54:=qo (tt:=tt) (Γ:=Γ54) hT (qe s55 (qe s58 (qe s93 ql))) hm (fn:=Tryz.f54) Tryz.func54 (c:=Tryz.f54.body.getD .skip) (by kernel_rfl) (by kernel_rfl) fun x a=>by
 obtain ⟨N,h⟩:=e54 x.1 x.2.1 x.2.2.1 a
 exact ⟨T54 N,p54,qp _,q0B N,(q3v N x.1 x.2.1 x.2.2.1).trans h⟩
theorem Gj {n d:Int} (a:qq n=true) (hd:0<=d/\d<=400000000):IntKind.i64.wrap (IntKind.i64.wrap (0 - n)*d)= -n*d/\inI (-n*d):=by
 unfold qq at a
 simp only [decide_eq_true_eq]at a
 have h1: -n*d<=400000000*400000000:=by
  rcases Int.le_total 0 n with h | h
  ·have:=Int.mul_nonneg h hd.1;rw [Int.neg_mul];omega
  ·have:=Int.mul_le_mul (show -n<=400000000 by omega) hd.2 hd.1 (by omega);omega
 have h2: -(400000000*400000000)<= -n*d:=by
  rcases Int.le_total 0 n with h | h
  ·have:=Int.mul_le_mul (show n<=400000000 by omega) hd.2 hd.1 (by omega);rw [Int.neg_mul];omega
  ·have:=Int.mul_nonneg (show 0<= -n by omega) hd.1;omega
 rw [bn (n:=0 - n) (by omega) (by omega),Int.zero_sub]
 exact ⟨bn (by omega) (by omega),by unfold inI;omega⟩
theorem RP {l:Zb} {r:Zh} {s:Bool} (h:dV l r s):bx (c8 l r.2) r.1 s:=by
 obtain ⟨h1,h2,b⟩:=h
 have a:=ER b
 have e: @LE.le Int _ (-400000000) r.1/\ @LE.le Int _ r.1 400000000:=a.2
 refine ⟨by simp only [c8,List.length_map];omega,by unfold inI;omega,fun x d=> ?_⟩
 obtain ⟨n,c,rfl⟩:=List.mem_map.1 (show x∈List.map (α:=Int) (fun n=> -n*(r.2:Int)) l from d)
 exact (Gj (h2 n c) a.1).2
theorem Gk {l:Zb} {r:Zh} {s:Bool} (h:dV l r s):bZ l r s=qP l r s:=by
 have hm:List.map (α:=Int) (fun n=>IntKind.i64.wrap (IntKind.i64.wrap (0 - n)*(r.2:Int))) l=c8 l r.2:=List.map_congr_left fun n a=>(Gj (h.2.1 n a) (ER h.2.2).1).1
 rw [bZ,qP,hm,q3s (RP h)]
theorem e56 (l:Zb) (r:Zh) (s:Bool) (h:dV l r s): ∃N,m56 N l r s=some ((qP l r s).1,(qP l r s).2,()):=⟨l.length+1,by
 have hm:=RP h
 obtain ⟨h1,h2,d⟩:=h
 have e:=ER d
 rw [m56,qc (jZ (by omega)),qP]
 have:=jY (xs:=c8 l r.2) (F:=fun n i c=>kV (l.length+1) s l (l.length:Int) (r.1:Int) (r.2:Int) 0 false (fun (b:Zb)=>chk (bx b (r.1:Int) s) (some ((qx b (r.1:Int) s).1,(qx b (r.1:Int) s).2,()))) n i c) (k:=fun (b:Zb)=>chk (bx b (r.1:Int) s) (some ((qx b (r.1:Int) s).1,(qx b (r.1:Int) s).2,()))) (qa Zd) (by simp only [c8,List.length_map];omega) (fun n i c a hs=> ?_) (fun n i c a=> ?_) (l.length+1) (by simp only [c8,List.length_map];omega)
 ·rw [qc hm]at this
  rw [show (c8 l r.2).length=l.length by simp only [c8,List.length_map]]at this
  exact this
 ·have a:i<l.length:=by simpa only [c8,List.length_map] using a
  have hs:c.length=l.length:=by simpa only [c8,List.length_map] using hs
  rw [kV,qg (by omega),qc (by omega),qc (by omega),qc (by omega),qB a,(Gj (h2 _ (List.getElem_mem a)) e.1).1]
  simp only [c8,List.getElem_map,Int.toNat_natCast]
 ·have a:l.length<=i:=by simpa only [c8,List.length_map] using a
  rw [kV,qf (by omega)]⟩
theorem s56:Sound Tryz.prog 56 g56:=qo (tt:=tt) (Γ:=Γ56) hT (qe s91 ql) hm (fn:=Tryz.f56) Tryz.func56 (c:=Tryz.f56.body.getD .skip) (by kernel_rfl) (by kernel_rfl) fun x a=>by
 obtain ⟨N,h⟩:=e56 x.1 x.2.1 x.2.2.1 a
 exact ⟨T56 N,p56,qp _,qNb N,(qVX N x.1 x.2.1 x.2.2.1).trans h⟩
theorem e37 (l:Zb) (r:Zh) (s:Bool) (h:gI l r s): ∃N,m37 N l r s=some ((bZ l r s).1,(bZ l r s).2,()):=⟨l.length+1,by
 have h:l.length<=1048576:=h
 rw [m37,bZ]
 refine (bp (F:=fun n i a=>kX (l.length+1) l s (r.1:Int) (r.2:Int) 0 false _ n i a) (step:=fun _ x (s:Zb) K=>chk (s.length+[IntKind.i64.wrap (IntKind.i64.wrap (0 - (x:Int))*(r.2:Int))].length<=1048576) (K (s++[IntKind.i64.wrap (IntKind.i64.wrap (0 - (x:Int))*(r.2:Int))]))) (k:=fun v=>chk (mM v (r.1:Int) s) (some ((fo v (r.1:Int) s).1,(fo v (r.1:Int) s).2,()))) h (fun n i a b=> ?_) (fun n i a b=> ?_) _ [] (Nat.lt_succ_self _)).trans ((iG (f:=fun (x:Int)=>IntKind.i64.wrap (IntKind.i64.wrap (0 - x)*(r.2:Int))) l 0 [] (by simpa using h)).trans ?_)
 ·rw [kX,qg (by omega),qc (by omega),qB b]
 ·rw [kX,qf (by omega)]
 ·rw [List.nil_append]
  exact qc (show mM _ _ _ from by unfold mM;rw [List.length_map];exact h)⟩
theorem s37:Sound Tryz.prog 37 g37:=qo (tt:=tt) (Γ:=Γ37) hT (qe qRf ql) hm (fn:=Tryz.f37) Tryz.func37 (c:=Tryz.f37.body.getD .skip) (by kernel_rfl) (by kernel_rfl) fun x a=>by
 obtain ⟨N,h⟩:=e37 x.1 x.2.1 x.2.2.1 a
 exact ⟨T37 N,p37,qp _,qZO N,(qU0 N x.1 x.2.1 x.2.2.1).trans h⟩
theorem e38 (c:Zj) (a:Zf) (h:hQ c a): ∃N,m38 N c a=some (c9 c a,()):=⟨0,by
 obtain ⟨h1,h2,b⟩:=h
 rw [m38,qc h1]
 exact qc b⟩
theorem s38:Sound Tryz.prog 38 g38:=qo (tt:=tt) (Γ:=Γ38) hT (qe s75 ql) hm (fn:=Tryz.f38) Tryz.func38 (c:=Tryz.f38.body.getD .skip) (by kernel_rfl) (by kernel_rfl) fun x a=>by
 obtain ⟨N,h⟩:=e38 x.1 x.2.1 a
 exact ⟨T38 N,p38,W6 hT (show n0 _ [(35,1,33)]=true by kernel_rfl) (qp _),qYM N,(qOE N x.1 x.2.1).trans h⟩
theorem RQ {l:Zb} {r:Zh} {s:Bool} (h:(qP l r s).2=true):qy (qP l r s).1=true:=by
 unfold qP qx ff at h ⊢
 generalize max 1 (gL (Int.natAbs r.1) (c8 l r.2))=g at*
 cases a:qy (List.map (α:=Int) (fun x=>x.tdiv (g:Int)) (c8 l r.2),(r.1:Int).tdiv (g:Int),s)with
 | true=>rw [a]at h;simpa only [cond_true] using a
 | false=>rw [a]at h;exact absurd h (by simp)
theorem wQ {c:Zj} {a:Zf} (b:qI c=true) (d:qy a=true):eM c [a]:=by
 refine ⟨OX b,fun x e=> ?_,?_⟩
 ·rw [List.mem_singleton.1 e]
  have:List.length (α:=Int) a.1<=4:=(ch d).1
  show List.length (α:=Int) a.1<=1048576
  omega
 ·have:List.length (α:=Zf) c.2<=16:=(bB b).2.1
  show List.length (α:=Zf) c.2+1<=1048576
  omega
theorem Gl {c:Zj} {a:Zf} {m:Zb} (b:qI c=true) (hm:m.length<=1048576):dR (cy c [a]) m:=by
 refine ⟨?_,hm⟩
 have:List.length (α:=Zf) c.2<=16:=(bB b).2.1
 show List.length (α:=Zf) (c.2++[a])<=1048576
 rw [List.length_append]
 show List.length (α:=Zf) c.2+1<=1048576
 omega
theorem RR {c:Zj} {p:Zg} (h:(inV c p).2=true):(p.length:Int)=c.1:=by
 unfold inV at h
 cases a:qI c&&cu p c.1 with
 | false=>rw [a]at h;exact absurd h (by simp)
 | true=>rw [Bool.and_eq_true]at a;exact (pB a.2).1
theorem qR5 {c:Zj} {p:Zg} (h:er c p=true):(p.length:Int)=c.1:=by
 unfold er at h
 rw [Bool.and_eq_true]at h
 exact RR h.2
theorem e22 (c:Zj) (l:Zb) (o:Opt) (h:jl c l o): ∃N,m22 N c l o=some (dE c l o,()):=⟨0,by
 obtain ⟨a,f,i⟩:=h
 obtain ⟨_,_,_,d,j,e⟩:=i
 rw [m22,dE]
 cases h1:qI c with
 | false=>rfl
 | true=>
   rw [Bool.not_true,cond_false,Bool.true_and]
   by_cases h2: @LT.lt Int _ c.1 4
   case neg=>rw [qg (show (3:Int)<(c.1:Int) from by omega),decide_eq_false (show ¬(c.1:Int)<4 from h2)];rfl
   rw [qf (show ¬(3:Int)<(c.1:Int) from by omega),qc (show mJ c l from f),decide_eq_true (show (c.1:Int)<4 from h2),Bool.true_and]
   cases b:dr c l with
   | false=>rfl
   | true=>
     rw [Bool.not_true,cond_false,cond_true]
     have hlen:=(hM b).1
     by_cases k1:(o.1:Int)=1
     ·rw [qg k1,qg k1,qc (show dR c o.2.2.2.2.2 from ⟨a,e.1⟩)]
     rw [qf k1,qf k1]
     by_cases k2:(o.1:Int)=2
     ·rw [qg k2,qg k2,qc (show mP c o.2.2.2.1 from ⟨a,d.1⟩)]
      cases er c o.2.2.2.1 with
      | false=>rfl
      | true=>rw [cond_true,qc (show wE c l o.2.2.2.2.1 from ⟨h1,hlen,j.1⟩),Bool.true_and]
     rw [qf k2,qf k2]
     by_cases k0:(o.1:Int)=0
     case neg=>rw [qf k0,qf k0]
     rw [qg k0,qg k0]
     cases n:qh o.2.1 with
     | false=>rfl
     | true=>
       have m:dV l o.2.1 o.2.2.1:=⟨by omega,(hM b).2,n⟩
       rw [Bool.not_true,cond_false,qc m,Bool.true_and]
       cases g:(qP l o.2.1 o.2.2.1).2 with
       | false=>rfl
       | true=>
         rw [Bool.not_true,cond_false,Bool.true_and]
         refine (qc (show eM c [(qP l o.2.1 o.2.2.1).1] from wQ h1 (RQ g))).trans ?_
         refine (qc (show dR (cy c [(qP l o.2.1 o.2.2.1).1]) o.2.2.2.2.2 from Gl h1 e.1)).trans ?_
         change (bif !bP (cy c [(qP l o.2.1 o.2.2.1).1]) o.2.2.2.2.2 then _ else _)=_
         cases bP (cy c [(qP l o.2.1 o.2.2.1).1]) o.2.2.2.2.2 with
         | false=>rfl
         | true=>
           rw [Bool.not_true,cond_false,cond_true]
           cases o.2.2.1 with
           | false=>rfl
           | true=>
             rw [Bool.not_true,cond_false,cond_true,qc (show mP c o.2.2.2.1 from ⟨a,d.1⟩)]
             cases k:er c o.2.2.2.1 with
             | false=>rfl
             | true=>
               have:=qR5 k
               rw [cond_true,Bool.true_and]
               exact qc (show cY l o.2.2.2.1 from ⟨by omega,f⟩)⟩
theorem s22:Sound Tryz.prog 22 g22:=qo (tt:=tt) (Γ:=Γ22) hT (qe s45 (qe s46 (qe s52 (qe s53 (qe s54 (qe s55 (qe s56 (qe s57 (qe s58 ql))))))))) hm (fn:=Tryz.f22) Tryz.func22 (c:=Tryz.f22.body.getD .skip) (by kernel_rfl) (by kernel_rfl) fun x a=>by
 obtain ⟨N,h⟩:=e22 x.1 x.2.1 x.2.2.1 a
 exact ⟨T22 N,p22,qp _,q2f N,(qYf N x.1 x.2.1 x.2.2.1).trans h⟩
theorem e18 (c:Zj) (l:Zb) (o:Opt) (h:jl c l o): ∃N,m18 N c l o=some (dE c l o,()):=⟨List.length (α:=Zf) c.2+1,by
 obtain ⟨f,j,r⟩:=h
 obtain ⟨_,_,_,p,s,q⟩:=r
 rw [m18,qc f,dE]
 cases h1:qI c with
 | false=>rfl
 | true=>
   rw [Bool.not_true,cond_false,Bool.true_and,qc (show mK l c.1 from j),<-EF h1]
   cases d:hK l c.1 with
   | false=>rfl
   | true=>
     have d:=d.symm.trans (EF h1)
     have d:decide ((c.1:Int)<4)=true/\dr c l=true:=by rw [<-Bool.and_eq_true];exact d.symm
     have h2: @LT.lt Int _ c.1 4:=of_decide_eq_true d.1
     have d:=d.2
     have hlen:=(hM d).1
     rw [Bool.not_true,cond_false,cond_true]
     by_cases k1:(o.1:Int)=1
     ·rw [qg k1,qg k1,qc (show dR c o.2.2.2.2.2 from ⟨f,q.1⟩)]
     rw [qf k1,qf k1]
     by_cases k2:(o.1:Int)=2
     ·rw [qg k2,qg k2,qc (show fO c o.2.2.2.1 from ⟨f,p.1⟩)]
      unfold er
      cases e:(inV c o.2.2.2.1).2 with
      | false=>cases (inV c o.2.2.2.1).1<;>rfl
      | true=>
        cases v:(inV c o.2.2.2.1).1 with
        | false=>rfl
        | true=>
          rw [Bool.not_true,cond_false,cond_false,qc (show dD o.2.2.2.2.1 c.1 from s.1),mQ,Bool.true_and]
          cases m:cu o.2.2.2.2.1 c.1 with
          | false=>rfl
          | true=>
            have w:=(pB m).1
            obtain ⟨hd,t,g⟩:=bB h1
            rw [Bool.not_true,cond_false,Bool.true_and,Bool.true_and]
            refine (bp (xs:=(c.2:Ze)) (F:=fun n i (_:Unit)=>kY _ l _ c.2 _ _ _ _ _ o.2.2.2.2.1 _ _ n i) (step:=fun _ x _ K=>bif kS (bK x.1 o.2.2.2.2.1)then K ()else some (false,())) (k:=fun _=>some (pC (bK l o.2.2.2.2.1),())) (Nat.le_trans t (by decide)) (fun n i b e=> ?_) (fun n i b e=> ?_) _ () (Nat.lt_succ_self _)).trans ((dK _ 0).trans ?_)
            ·have y:=(g _ (List.getElem_mem e)).2
             rw [kY,qg (by omega),qc (by omega),qB e,qc (show cY _ o.2.2.2.2.1 from ⟨by omega,by omega⟩)]
             exact RM (bK _ o.2.2.2.2.1) _ _
            ·rw [kY,qf (by omega),qc (show cY l o.2.2.2.2.1 from ⟨by omega,by omega⟩)]
             exact RO (bK l o.2.2.2.2.1)
            ·cases List.all (α:=Zf) c.2 (fun a=>kS (bK a.1 o.2.2.2.2.1))<;>rfl
     rw [qf k2,qf k2]
     by_cases k0:(o.1:Int)=0
     case neg=>rw [qf k0,qf k0]
     rw [qg k0,qg k0,qc (show gI l o.2.1 o.2.2.1 from j)]
     cases u:qh o.2.1 with
     | false=>cases (bZ l o.2.1 o.2.2.1).2<;>rfl
     | true=>
       have m:dV l o.2.1 o.2.2.1:=⟨by omega,(hM d).2,u⟩
       rw [Gk m,Bool.true_and]
       cases g:(qP l o.2.1 o.2.2.1).2 with
       | false=>rfl
       | true=>
         rw [Bool.not_true,cond_false,cond_false,Bool.true_and]
         refine (qc (show hQ c (qP l o.2.1 o.2.2.1).1 from wQ h1 (RQ g))).trans ?_
         refine (qc (show dR (cy c [(qP l o.2.1 o.2.2.1).1]) o.2.2.2.2.2 from Gl h1 q.1)).trans ?_
         change (bif !bP (cy c [(qP l o.2.1 o.2.2.1).1]) o.2.2.2.2.2 then _ else _)=_
         cases bP (cy c [(qP l o.2.1 o.2.2.1).1]) o.2.2.2.2.2 with
         | false=>rfl
         | true=>
           rw [Bool.not_true,cond_false,cond_true,qc (show fO c o.2.2.2.1 from ⟨f,p.1⟩)]
           cases o.2.2.1 with
           | false=>cases decide ((List.length (α:=Zh) o.2.2.2.1:Int)=0)<;>rfl
           | true=>
             rw [Bool.not_true,cond_false,cond_true,cond_true]
             cases e:(inV c o.2.2.2.1).2 with
             | false=>unfold er;rw [e];cases (inV c o.2.2.2.1).1<;>rfl
             | true=>
               have:=RR e
               rw [qc (show cY l o.2.2.2.1 from ⟨by omega,j⟩),er,e]
               cases (inV c o.2.2.2.1).1<;>rfl⟩
theorem s18:Sound Tryz.prog 18 g18:=qo (tt:=tt) (Γ:=Γ18) hT (qe s31 (qe s32 (qe s37 (qe s38 (qe s39 (qe s40 (qe s41 (qe s42 (qe s43 ql))))))))) hm (fn:=Tryz.f18) Tryz.func18 (c:=Tryz.f18.body.getD .skip) (by kernel_rfl) (by kernel_rfl) fun x a=>by
 obtain ⟨N,h⟩:=e18 x.1 x.2.1 x.2.2.1 a
 exact ⟨T18 N,p18,qp _,qOp N,(qWa N x.1 x.2.1 x.2.2.1).trans h⟩
theorem qPk {c:(Zj)} {v:Int}:c6 (b9 c v).1:=by
 unfold b9
 cases g:qI c with
 | false=>exact gD
 | true=>
   cases decide (0<=v/\v<(c.1:Int))with
   | false=>exact gD
   | true=>
     simp only [Bool.and_self,cond_true]
     obtain ⟨k,d⟩:=iS g
     cases hm:cO v (c.1:Int).toNat (qS c.1 c.2)with
     | none=>exact gD
     | some y=>
       have j:=(mv _ d hm).1
       obtain ⟨_,_,i⟩:=bB j
       show c6 (bX y v)
       unfold bX
       have b:c6 gB:=⟨⟨.inr rfl,fun h=>by simp [gB]at h⟩,.inr rfl,fun h=>by simp [gB]at h⟩
       cases List.any (α:=(Zf)) y.2 bU with
       | true=>exact b
       | false=>
         simp only [cond_false]
         have f:c6 (qO y v):=oO gD fun a e=>(i a e).1
         unfold oM
         cases (qO y v).1&&(qO y v).2.2.2.1&&(bD (qO y v).2.2.2.2.1 (qO y v).2.1||(decide ((qO y v).2.2.2.2.1=(qO y v).2.1)&&((qO y v).2.2.1||(qO y v).2.2.2.2.2.1)))with
         | true=>exact b
         | false=>exact f
theorem wR: ∀(xs:List Int) (P:List Rat) (n:Int) (t:Rat),xs.length=P.length->q7 (xs++[n]) (P++[t])=q7 xs P+((n:Int):Rat)*t
 | [],[],n,t,_=>by simp [q7];grind
 | x::xs,y::P,n,t,h=>by
   have a:=wR xs P n t (by simpa using h)
   simp only [List.cons_append,q7,a];grind
 | [],_::_,_,_,h=>by simp at h
 | _::_,[],_,_,h=>by simp at h
theorem RS: ∀(xs:List Int) (P:List Rat),q7 (xs.map fun n=> -n) P= -q7 xs P
 | [],P=>by simp [q7]
 | x::xs,[]=>by simp [q7]
 | x::xs,y::P=>by
   simp only [List.map_cons,q7,RS xs P,Rat.intCast_neg];grind
theorem qPs {c:(Zj)} {l:Zb} {P:List Rat} (k:qI c=true) (r:(l.length:Int)=(c.1:Int)) (j:bY l=List.map (α:=Int) (fun n=> -n) l) (p:(P.length:Int)=(c.1:Int)) (h:cS c P):cS (kI c l) (P++[q7 l P]):=by
 obtain ⟨_,_,o⟩:=bB k
 intro a d
 have d:a∈List.map (dS 1) (c.2:Ze)++[upA l,dnA l]:=d
 have f:((0:Int):Rat)=0:=rfl
 rcases List.mem_append.1 d with d | d
 ·obtain ⟨b,i,rfl⟩:=List.mem_map.1 d
  have q:(List.length (α:=Int) b.1:Int)=(c.1:Int):=(o b i).2
  have:=h b i
  have e:evA (atm (dS 1 b)) (P++[q7 l P])=evA (atm b) P:=by
   show q7 ((b.1:List Int)++[(0:Int)]) (P++[q7 l P])+((b.2.1:Int):Rat)=q7 b.1 P+((b.2.1:Int):Rat)
   rw [wR _ _ _ _ (show List.length (α:=Int) b.1=P.length by omega),f]
   grind
  unfold bQ at this ⊢
  rw [e]
  exact this
 ·have d:a=upA l∨a=dnA l:=by simpa using d
  right
  rcases d with rfl | rfl
  ·refine ⟨rfl,?_⟩
   show q7 (l++[(-1:Int)]) (P++[q7 l P])+((0:Int):Rat)=0
   rw [wR _ _ _ _ (by omega),f,Rat.intCast_neg]
   have g:((1:Int):Rat)=1:=rfl
   rw [g]
   grind
  ·refine ⟨rfl,?_⟩
   show q7 (bY l++[(1:Int)]) (P++[q7 l P])+((0:Int):Rat)=0
   have m:(bY l).length=P.length:=by rw [j,List.length_map];omega
   rw [wR _ _ _ _ m,f,j,RS]
   have g:((1:Int):Rat)=1:=rfl
   rw [g]
   grind
theorem qU8 {c:(Zj)} {l:Zb} {p:Zg} (b:qI c=true) (e:(l.length:Int)=(c.1:Int)) (f:bY l=List.map (α:=Int) (fun n=> -n) l) (h:(qX c l).2=true) (hw:q4 c=(p,0)):((qX c l).1.2.2.2.2.2.2:Bool)=false:=by
 obtain ⟨P,a,d⟩:=qSA hw
 have:=qPs b e f a d
 unfold qX at h ⊢
 obtain ⟨_,_,s,_⟩:=qZk h
 cases he:((b9 (kI c l) c.1).1.2.2.2.2.2.2:Bool)with
 | false=>rfl
 | true=>
   refine absurd this (s he _ ?_)
   show ((P++[q7 l P]).length:Int)=(c.1:Int)+1
   simp;omega
end
end Go.T
