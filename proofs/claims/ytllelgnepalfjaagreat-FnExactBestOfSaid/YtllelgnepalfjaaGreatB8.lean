import Derived.Test.YtllelgnepalfjaaGreatB4
set_option linter.unusedSimpArgs false
set_option linter.unusedVariables false
namespace Go.T
noncomputable section
open Go Go.Proofs
set_option maxHeartbeats 4000000
set_option maxRecDepth 100000
def ej (a:Zf):Bool:= !bo a
def mn (a:Zf):Prop:=okA a
def gn (a:Zf):Bool:=decide ((a.2.1:Int)<0)||(decide ((a.2.1:Int)=0)&& !a.2.2)
def gLv (a:Zf):Int:=(gL 0 (atm a).1:Nat)
def gp (a:Zf):Prop:=okA a
def mo (a b:Zf):Bool:=decide (cf (atm b) (atm a)<=0)
def tz (a b:Zf):Prop:=okA a/\okA b/\way (atm b) (atm a)=0
def iL (l:Ze) (a:Zf):Ze:=cg l a
def kd (l:Ze) (a:Zf):Prop:=l.length<=1048575/\okA a/\ ∀b∈l,okA b/\List.length (α:=Int) b.1=List.length (α:=Int) a.1
theorem Zn (c:Int) (h s:Bool):(!h&&(decide (0<c)||(decide (c=0)&&s)))=(!h&& !(decide (c<0)||(decide (c=0)&& !s))):=by
 by_cases h1:c<0
 ·have h2: ¬(0:Int)<c:=by omega
  have a: ¬c=0:=by omega
  simp [h1,h2,a]
 ·by_cases h2:c=0
  ·simp [h2]
  ·have a:(0:Int)<c:=by omega
   simp [h1,h2,a]
theorem Zo (p q:Int) (s t:Bool):decide ((if sgI (p - q)=0 then (if t=s then 0 else if t then 1 else -1)else sgI (p - q))<=(0:Int))=(decide (p<q)||(decide (q=p)&&(s|| !t))):=by
 unfold sgI
 by_cases c1:p<q
 ·have c2:p - q<0:=by omega
  simp [c1,c2]
 ·by_cases c2:q=p
  ·subst c2
   cases s<;>cases t<;>simp
  ·have a: ¬p - q<0:=by omega
   have b:0<p - q:=by omega
   rw [if_neg a,if_pos b,if_neg (by omega)]
   simp [c1,c2]
theorem AP (a:Zf):bU a=(ej a&& !gn a):=Zn a.2.1 (bo a) a.2.2
def ke:G:={ps:=[i68],rs:=[i4],dp:=true,pre:=fun x=>mn x.1,fn:=fun x=>(ej x.1,())}
def iM (N:Nat) (b:Zb) (c:Int) (d:Bool) (k0:Unit->ZO [i4]):Nat->Int->ZO [i4]
 | 0,_=>none
 | n+1,a=>bif (decide (a<(b.length:Int)))then (chk (0<=a/\a<(b.length:Int)) (bif (!(decide (((b.getD a.toNat (qa Zd)):Int)=(0:Int))))then (some (false,()))else (iM N b c d k0 n (IntKind.i64.wrap (a+(1:Int))))))else (k0 ())
def tA (N:Nat) (a:Zf):ZO [i4]:=iM N (a.1:Zb) (a.2.1:Int) (a.2.2:Bool) (fun (_:Unit)=>some (true,())) N (0:Int)
def AQ:Gam:=[]
def tB:List Bool:=[O,I,O,I]
def AR:Nm:=⟨tB,[],false⟩
theorem Mm:NmS AR tB [] false:=nmS
def AS:List Bool:=[]
def Mn:Nm:=⟨AS,[],false⟩
theorem Zp:NmS Mn AS [] false:=nmS
def AT:Nat->Nm:=fun i=>if i=2 then AR else ⟨[],[],false⟩
def AU:Nat->Option Nm:=fun i=>if i=0 then some Mn else none
theorem Zq:qi tr0 (Tryz.f100.body.getD .skip)=true:=by kernel_rfl
def om (N:Nat):Tab:={tr:=tr0,lp:=AT,ex:=AU,rg:=rg0,jn:=jn0,fuel:=N}
theorem Zr (N:Nat):qj Tryz.prog (om N):=qn fun _=>rfl
theorem AV (N:Nat):qr (om N) tr0 AT AU rg0 jn0 N false:=qt
def Mo:Code:=cut [I,O,I,I,I] (Tryz.f100.body.getD .skip)
theorem Zs (N:Nat) (b:Zb) (d:Int) (e:Bool) {k0:Unit->ZO [i4]} {Q:ZQ [i4]} {c:Code} (g:c=Mo) (h: ∀st,Q .ret st=qz tt true [i4] [.tmp 2] st) (f:Q (.exit 0) ⟨[u,u,u,u,u,u,u,u,u,u,u,u,u,u,u,u,u],[]⟩=k0 ()): ∀(n:Nat) (a:Int),qw (qd tt AQ (om N) c) false AR Q n ⟨[u,.one (.ptr 0 0 0),u,.one (.int .i64 a),u,u,u,u,u,u,u,u,u,u,u,u,u],[.box [.sl 3 Zd b 1,.int .i64 d,.bool e]]⟩=iM N b d e k0 n a:=by
 intro n;induction n with
 | zero=>intros;rfl
 | succ n i=>
   intro a
   rw [qD,qE g,iM];unfold Mo Tryz.f100
   simp -implicitDefEqProofs [AV,AU,Mm,tB,Zp,AS,h,f,i]
theorem Zt (N:Nat) (a:Zf):qd tt AQ (om N) (Tryz.f100.body.getD .skip) (qk tt true [i4] [.tmp 2]) (qm [i68] 17 (a,()))=tA N a:=by
 unfold Tryz.f100
 simp -implicitDefEqProofs [AV,AT,Mm,tB]
 rewrite [Zs N _ _ _ ?_ ?_ ?_]
 ·rewrite [tA];first | rfl | simp -implicitDefEqProofs []
 ·rfl
 ·intro;simp only [qA,qC,qJ]
 ·simp -implicitDefEqProofs [AV]
def tC (N:Nat) (a:Zf):ZO [i4]:=bif (decide ((a.2.1:Int)<(0:Int)))then (some (true,()))else (bif (decide ((a.2.1:Int)=(0:Int)))then (some ((!(a.2.2:Bool)),()))else (some (false,())))
def Mq:Gam:=[]
theorem Zu:qi tr0 (Tryz.f101.body.getD .skip)=true:=by kernel_rfl
def tD (N:Nat):Tab:={tr:=tr0,lp:=lp0,ex:=ex0,rg:=rg0,jn:=jn0,fuel:=N}
theorem Zv (N:Nat):qj Tryz.prog (tD N):=qn fun _=>rfl
theorem Zw (N:Nat):qr (tD N) tr0 lp0 ex0 rg0 jn0 N false:=qt
theorem Zx (N:Nat) (a:Zf):qd tt Mq (tD N) (Tryz.f101.body.getD .skip) (qk tt true [i4] [.tmp 2]) (qm [i68] 16 (a,()))=tC N a:=by
 rw [tC];unfold Tryz.f101
 simp -implicitDefEqProofs [Zw]
 try rfl
theorem Zy (N:Nat) (xs:Zb) (c:Int) (b:Bool) (K:Unit->ZO [i4]) (d:xs.length<=1048576) (n:Nat) (e:xs.length<n):iM N xs c b K n 0=bif List.all (α:=Int) xs (fun x=>decide (x=0))then K ()else some (false,()):=
 (bp (F:=fun n i (_:Unit)=>iM N xs c b K n i) (step:=fun _ x _ K=>bif decide (x=0)then K ()else some (false,())) (k:=K) d (fun n i s a=>by rw [iM,qg (by omega),qc (by omega),qB a,b4]) (fun n i s a=>by rw [iM,qf (by omega)]) n () e).trans (dK xs 0)
theorem Zz (a:Zf) (h:mn a): ∃N,tA N a=some (ej a,()):=⟨List.length (α:=Zc) a.1+1,by
 have b:=(ch h).1
 rw [tA,Zy _ _ _ _ _ (by omega) _ (Nat.lt_succ_self _)]
 have e:ej a=List.all (α:=Int) a.1 (fun x=>decide (x=0)):=by
  unfold ej bo
  rw [Bool.eq_iff_iff]
  simp only [Bool.not_eq_true',decide_eq_false_iff_not,List.all_eq_true,decide_eq_true_eq,Decidable.not_not,ne_eq]
  exact mg
 rw [e]
 cases List.all (α:=Int) a.1 (fun x=>decide (x=0))<;>rfl⟩
theorem Mr:Sound Tryz.prog 100 ke:=qo (tt:=tt) (Γ:=AQ) hT ql hm (fn:=Tryz.f100) Tryz.func100 (c:=Tryz.f100.body.getD .skip) (by kernel_rfl) (by kernel_rfl) fun x a=>by
 obtain ⟨N,h⟩:=Zz x.1 a
 exact ⟨om N,Zq,qp _,Zr N,(Zt N x.1).trans h⟩
def kg:G:={ps:=[i68],rs:=[i4],dp:=true,pre:=fun _=>True,fn:=fun x=>(gn x.1,())}
theorem ZA (a:Zf): ∃N,tC N a=some (gn a,()):=⟨0,by
 rw [tC,gn]
 by_cases h1:(a.2.1:Int)<0<;>by_cases h2:(a.2.1:Int)=0<;>simp [h1,h2]⟩
theorem Mt:Sound Tryz.prog 101 kg:=qo (tt:=tt) (Γ:=Mq) hT ql hm (fn:=Tryz.f101) Tryz.func101 (c:=Tryz.f101.body.getD .skip) (by kernel_rfl) (by kernel_rfl) fun x a=>by
 obtain ⟨N,h⟩:=ZA x.1
 exact ⟨tD N,Zu,qp _,Zv N,(Zx N x.1).trans h⟩
def kh:G:={ps:=[i68],rs:=[i3],dp:=true,pre:=fun x=>gp x.1,fn:=fun x=>(gLv x.1,())}
def tE (N:Nat) (a:Zf):ZO [i3]:=chk (fb (a.1:Zb) (0:Int)) (some (((b6 (a.1:Zb) (0:Int)):Int),()))
def AW:Gam:=[(98,g98)]
theorem ZB:Gam.get AW 98=some g98:=rfl
theorem ZC:qi tr0 (Tryz.f133.body.getD .skip)=true:=by kernel_rfl
def tF (N:Nat):Tab:={tr:=tr0,lp:=lp0,ex:=ex0,rg:=rg0,jn:=jn0,fuel:=N}
theorem ZD (N:Nat):qj Tryz.prog (tF N):=qn fun _=>rfl
theorem ZE (N:Nat):qr (tF N) tr0 lp0 ex0 rg0 jn0 N false:=qt
theorem ZF (N:Nat) (a:Zf):qd tt AW (tF N) (Tryz.f133.body.getD .skip) (qk tt true [i3] [.tmp 2]) (qm [i68] 6 (a,()))=tE N a:=by
 rw [tE];unfold Tryz.f133
 simp -implicitDefEqProofs [ZE,ZB,g98]
 try rfl
theorem ZG (a:Zf) (h:gp a): ∃N,tE N a=some (gLv a,()):=⟨0,by
 rw [tE,qc (show fb a.1 0 from ⟨(sW h).1,by unfold inI;omega,(sW h).2⟩)];rfl⟩
theorem Mu:Sound Tryz.prog 133 kh:=qo (tt:=tt) (Γ:=AW) hT (qe s98 ql) hm (fn:=Tryz.f133) Tryz.func133 (c:=Tryz.f133.body.getD .skip) (by kernel_rfl) (by kernel_rfl) fun x a=>by
 obtain ⟨N,h⟩:=ZG x.1 a
 exact ⟨tF N,ZC,qp _,ZD N,(ZF N x.1).trans h⟩
theorem tG (a:Zf):max (1:Int) (gLv a)=gSv a:=by unfold gLv gSv gS;omega
def ki (N:Nat) (d e:Int) (b:Zb) (g:Int) (h:Bool) (c:Zb) (i:Int) (f:Bool) (k0:Unit->ZO [i3]):Nat->Int->ZO [i3]
 | 0,_=>none
 | n+1,a=>bif (decide (a<(b.length:Int)))then (bif (decide (a<(c.length:Int)))then (chk (0<=a/\a<(b.length:Int)) (chk (d≠0) (chk (0<=a/\a<(c.length:Int)) (chk (e≠0) (bif (!(decide ((IntKind.i64.wrap (((b.getD a.toNat (qa Zd)):Int).tdiv d))=(IntKind.i64.wrap (((c.getD a.toNat (qa Zd)):Int).tdiv e)))))then (bif (decide ((IntKind.i64.wrap (((b.getD a.toNat (qa Zd)):Int).tdiv d))<(IntKind.i64.wrap (((c.getD a.toNat (qa Zd)):Int).tdiv e))))then (some ((-1:Int),()))else (some ((1:Int),())))else (ki N d e b g h c i f k0 n (IntKind.i64.wrap (a+(1:Int)))))))))else (k0 ()))else (k0 ())
def tH (N:Nat) (a b:Zf):ZO [i3]:=chk (gp a) (chk (gp b) (ki N (max (1:Int) ((gLv a):Int)) (max (1:Int) ((gLv b):Int)) (a.1:Zb) (a.2.1:Int) (a.2.2:Bool) (b.1:Zb) (b.2.1:Int) (b.2.2:Bool) (fun (_:Unit)=>some ((0:Int),())) N (0:Int)))
def tI:Gam:=[(133,kh)]
theorem ZH:Gam.get tI 133=some kh:=rfl
def tJ:List Bool:=[O,O,I,I,O,I,I,I]
def AX:Nm:=⟨tJ,[],false⟩
theorem Mv:NmS AX tJ [] false:=nmS
def AY:List Bool:=[]
def Mw:Nm:=⟨AY,[],false⟩
theorem ZI:NmS Mw AY [] false:=nmS
def AZ:Nat->Nm:=fun i=>if i=4 then AX else ⟨[],[],false⟩
def A0:Nat->Option Nm:=fun i=>if i=0 then some Mw else none
theorem ZJ:qi tr0 (Tryz.f120.body.getD .skip)=true:=by kernel_rfl
def oo (N:Nat):Tab:={tr:=tr0,lp:=AZ,ex:=A0,rg:=rg0,jn:=jn0,fuel:=N}
theorem ZK (N:Nat):qj Tryz.prog (oo N):=qn fun _=>rfl
theorem A1 (N:Nat):qr (oo N) tr0 AZ A0 rg0 jn0 N false:=qt
def Mx:Code:=cut [I,I,I,O,I,I,I] (Tryz.f120.body.getD .skip)
theorem ZL (N:Nat) (d e:Int) (f:Zb) (g:Int) (h:Bool) (i:Zb) (j:Int) (b:Bool) {k0:Unit->ZO [i3]} {Q:ZQ [i3]} {c:Code} (l:c=Mx) (m: ∀st,Q .ret st=qz tt true [i3] [.tmp 4] st) (k:Q (.exit 0) ⟨[u,u,u,u,u,u,u,u,u,u,u,u,u,u,u,u,u,u,u,u,u,u,u,u,u,u,u,u,u,u,u,u,u,u,u,u,u,u,u,u,u,u,u,u,u,u,u,u,u,u],[]⟩=k0 ()): ∀(n:Nat) (a:Int),qw (qd tt tI (oo N) c) false AX Q n ⟨[u,u,.one (.ptr 0 0 0),.one (.ptr 1 0 0),u,.one (.int .i64 d),.one (.int .i64 e),.one (.int .i64 a),u,u,u,u,u,u,u,u,u,u,u,u,u,u,u,u,u,u,u,u,u,u,u,u,u,u,u,u,u,u,u,u,u,u,u,u,u,u,u,u,u,u],[.box [.sl 3 Zd f 2,.int .i64 g,.bool h],.box [.sl 3 Zd i 2,.int .i64 j,.bool b]]⟩=ki N d e f g h i j b k0 n a:=by
 intro n;induction n with
 | zero=>intros;rfl
 | succ n o=>
   intro a
   rw [qD,qE l,ki];unfold Mx Tryz.f120
   simp -implicitDefEqProofs [A1,A0,Mv,tJ,ZI,AY,m,k,o]
theorem ZM (N:Nat) (a b:Zf):qd tt tI (oo N) (Tryz.f120.body.getD .skip) (qk tt true [i3] [.tmp 4]) (qm [i68,i68] 50 (a,b,()))=tH N a b:=by
 unfold Tryz.f120
 simp -implicitDefEqProofs [A1,AZ,Mv,tJ,ZH,kh]
 rewrite [ZL (k0:=(fun (_:Unit)=>some ((0:Int),()))) N _ _ _ _ _ _ _ _ ?_ ?_ ?_]
 ·rewrite [tH];first | rfl | simp -implicitDefEqProofs []
 ·rfl
 ·intro;simp only [qA,qC,qJ]
 ·simp -implicitDefEqProofs [A1]
def tK (N:Nat) (a b:Zf):ZO [i4]:=chk (gp b) (chk (gp a) (bif (decide ((IntKind.i64.wrap ((b.2.1:Int)*(max (1:Int) ((gLv a):Int))))<(IntKind.i64.wrap ((a.2.1:Int)*(max (1:Int) ((gLv b):Int))))))then (some (true,()))else (bif (decide ((IntKind.i64.wrap ((a.2.1:Int)*(max (1:Int) ((gLv b):Int))))=(IntKind.i64.wrap ((b.2.1:Int)*(max (1:Int) ((gLv a):Int))))))then (bif (a.2.2:Bool)then (some (true,()))else (some ((!(b.2.2:Bool)),())))else (some (false,())))))
def A2:Gam:=[(133,kh)]
theorem ZN:Gam.get A2 133=some kh:=rfl
def A3:List Bool:=[O,O,I,I,O,I]
def My:Nm:=⟨A3,[],false⟩
theorem ZP:NmS My A3 [] false:=nmS
def A4:List Bool:=[O,O,I,I,O,I,I]
def Mz:Nm:=⟨A4,[],false⟩
theorem ZR:NmS Mz A4 [] false:=nmS
def tL:Nat->Tree:=fun i=>if i=1 then .quiet 2 (.alt 0 (.alt 1 (.alt 3 (.alt 4 (.quiet 5 (.quiet 6 .done)) .stop) .stop) (.alt 3 (.alt 1 (.alt 4 (.quiet 5 (.quiet 6 .done)) .stop) (.alt 4 (.quiet 1 (.quiet 5 (.quiet 6 .done))) .stop)) .stop)) (.alt 3 (.alt 0 (.alt 1 (.alt 4 (.quiet 5 (.quiet 6 .done)) .stop) (.alt 4 (.quiet 1 (.quiet 5 (.quiet 6 .done))) .stop)) (.alt 4 (.quiet 0 (.quiet 1 (.quiet 5 (.quiet 6 .done)))) .stop)) .stop))else if i=2 then .quiet 2 (.alt 0 (.alt 1 (.alt 3 (.alt 4 (.quiet 5 (.quiet 6 .done)) .stop) .stop) (.alt 3 (.alt 1 (.alt 4 (.quiet 5 (.quiet 6 .done)) .stop) (.alt 4 (.quiet 1 (.quiet 5 (.quiet 6 .done))) .stop)) .stop)) (.alt 3 (.alt 0 (.alt 1 (.alt 4 (.quiet 5 (.quiet 6 .done)) .stop) (.alt 4 (.quiet 1 (.quiet 5 (.quiet 6 .done))) .stop)) (.alt 4 (.quiet 0 (.quiet 1 (.quiet 5 (.quiet 6 .done)))) .stop)) .stop))else .done
def A5:Nat->Option Nm:=fun i=>if i=1 then some My else if i=2 then some Mz else none
theorem ZS:qi tL (Tryz.f121.body.getD .skip)=true:=by kernel_rfl
def tM (N:Nat):Tab:={tr:=tL,lp:=lp0,ex:=ex0,rg:=A5,jn:=jn0,fuel:=N}
theorem ZT (N:Nat):qj Tryz.prog (tM N):=qn fun _=>rfl
theorem ZU (N:Nat):qr (tM N) tL lp0 ex0 A5 jn0 N false:=qt
theorem ZV (N:Nat) (a b:Zf):qd tt A2 (tM N) (Tryz.f121.body.getD .skip) (qk tt true [i4] [.tmp 4]) (qm [i68,i68] 36 (a,b,()))=tK N a b:=by
 rw [tK];unfold Tryz.f121
 simp -implicitDefEqProofs [ZU,tL,A5,ZP,A3,ZR,A4,ZN,kh]
 try rfl
def m99 (N:Nat) (a:Zf):ZO [i68]:=chk (([]:Zb).length+(a.1:Zb).length<=1048576) (some (((([]:Zb)++(a.1:Zb)),(a.2.1:Int),(a.2.2:Bool)),()))
def Γ99:Gam:=[]
def tN:Nat->Tree:=fun i=>if i=1 then .keep 1 (.keep 2 (.keep 4 (.keep 5 (.keep 6 (.keep 7 (.alt 0 (.alt 3 (.quiet 8 (.alt 9 .done .stop)) .stop) .stop))))))else .done
theorem p99:qi tN (Tryz.f99.body.getD .skip)=true:=by kernel_rfl
def T99 (N:Nat):Tab:={tr:=tN,lp:=lp0,ex:=ex0,rg:=rg0,jn:=jn0,fuel:=N}
theorem ZW (N:Nat):qj Tryz.prog (T99 N):=qn fun _=>rfl
theorem ZX (N:Nat):qr (T99 N) tN lp0 ex0 rg0 jn0 N false:=qt
theorem ZY (N:Nat) (a:Zf):qd tt Γ99 (T99 N) (Tryz.f99.body.getD .skip) (qk tt true [i68] [.cell 2 68]) (qm [i68] 12 (a,()))=m99 N a:=by
 rw [m99];unfold Tryz.f99
 simp -implicitDefEqProofs [ZX,tN]
 try rfl
def tO (N:Nat) (a:Int):ZO [i35]:=chk (0<=a/\a<=a/\a<=1048576) (some ((a,([((List.replicate a.toNat (qa Zd)),(1:Int),false)]:Ze)),()))
def MA:Gam:=[]
theorem ZZ:qi tr0 (Tryz.f102.body.getD .skip)=true:=by kernel_rfl
def tP (N:Nat):Tab:={tr:=tr0,lp:=lp0,ex:=ex0,rg:=rg0,jn:=jn0,fuel:=N}
theorem Z0 (N:Nat):qj Tryz.prog (tP N):=qn fun _=>rfl
theorem Z1 (N:Nat):qr (tP N) tr0 lp0 ex0 rg0 jn0 N false:=qt
theorem Z2 (N:Nat) (a:Int):qd tt MA (tP N) (Tryz.f102.body.getD .skip) (qk tt true [i35] [.cell 2 35]) (qm [i3] 9 (a,()))=tO N a:=by
 rw [tO];unfold Tryz.f102
 simp -implicitDefEqProofs [Z1]
 try rfl
def oq:G:={ps:=[i68,i68],rs:=[i3],dp:=true,pre:=fun x=>fF x.1 x.2.1,fn:=fun x=>(cN x.1 x.2.1,())}
theorem MB (N g h:Nat) (e:(g:Int)≠0) (f:(h:Int)≠0) (xs ys:Zb) (r:xs.length=ys.length) (d:xs.length<=1048576) (j: ∀x∈xs,inI x) (l: ∀x∈ys,inI x) (c b:Int) (s m:Bool): ∀(k i:Nat),xs.length - i=k-> ∀n,k<n->
 ki N g h xs c s ys b m (fun _=>some ((0:Int),())) n i=some (cB ((List.drop (α:=Int) i xs).map fun x=>x.tdiv (g:Int)) ((List.drop (α:=Int) i ys).map fun x=>x.tdiv (h:Int)),())
 | 0,i,o,n+1,_=>by
   rw [ki,qf (by omega),List.drop_eq_nil_of_le (by omega),List.drop_eq_nil_of_le (by omega)]
   rfl
 | k+1,i,o,n+1,t=>by
   have h1:i<xs.length:=by omega
   have h2:i<ys.length:=by omega
   rw [ki,qg (by omega),qg (by omega),qc (by omega),qc e,qc (by omega),qc f,qB h1,qB h2,di (j _ (List.getElem_mem h1)),di (l _ (List.getElem_mem h2)),b3 h1 d]
   rw [List.drop_eq_getElem_cons h1,List.drop_eq_getElem_cons h2,List.map_cons,List.map_cons,cB]
   generalize u:Int.tdiv xs[i] (g:Int)=p
   generalize v:Int.tdiv ys[i] (h:Int)=q
   by_cases a:p<q
   ·have: ¬p=q:=by omega
    simp [a,this]
   ·by_cases a2:q<p
    ·have: ¬p=q:=by omega
     simp [a,a2,this]
    ·have:p=q:=by omega
     rw [if_neg a,if_neg a2,b4,qg this]
     exact MB N g h e f xs ys r d j l c b s m k (i+1) (by omega) n (by omega)
theorem Z3 (a b:Zf) (h:fF a b): ∃N,tH N a b=some (cN a b,()):=⟨List.length (α:=Zc) a.1+1,by
 obtain ⟨c,d,e⟩:=h
 rw [tH,qc (show gp a from c),qc (show gp b from d),tG,tG]
 have:=MB (List.length (α:=Zc) a.1+1) (gS (atm a)) (gS (atm b)) (by have:=eh (atm a);omega) (by have:=eh (atm b);omega) a.1 b.1 e (by have:=(ch c).1;omega) (od c) (od d) a.2.1 b.2.1 a.2.2 b.2.2 _ 0 rfl _ (Nat.lt_succ_self _)
 simp only [List.drop_zero]at this
 exact this⟩
theorem Z4:Sound Tryz.prog 120 oq:=qo (tt:=tt) (Γ:=tI) hT (qe Mu ql) hm (fn:=Tryz.f120) Tryz.func120 (c:=Tryz.f120.body.getD .skip) (by kernel_rfl) (by kernel_rfl) fun x a=>by
 obtain ⟨N,h⟩:=Z3 x.1 x.2.1 a
 exact ⟨oo N,ZJ,qp _,ZK N,(ZM N x.1 x.2.1).trans h⟩
def tQ:G:={ps:=[i68,i68],rs:=[i4],dp:=true,pre:=fun x=>tz x.1 x.2.1,fn:=fun x=>(mo x.1 x.2.1,())}
theorem Z5 (a b:Zf) (h:tz a b): ∃N,tK N a b=some (mo a b,()):=⟨0,by
 obtain ⟨c,d,hw⟩:=h
 have h1:=fg c
 have h2:=fg d
 have g1:=sX c
 have g2:=sX d
 have g:=eh (atm a)
 have i:=eh (atm b)
 rw [tK,qc (show gp b from d),qc (show gp a from c),tG,tG,iI h1 ⟨by unfold gSv;omega,g2⟩,iI h2 ⟨by unfold gSv;omega,g1⟩]
 have e:mo a b=(decide ((b.2.1:Int)*gSv a<a.2.1*gSv b)||(decide ((a.2.1:Int)*gSv b=b.2.1*gSv a)&&(a.2.2|| !b.2.2))):=by
  unfold mo cf
  rw [if_pos hw]
  have f:eC (atm b) (atm a)=sgI (b.2.1*gSv a - a.2.1*gSv b):=rfl
  rw [f]
  exact Zo _ _ _ _
 rw [e]
 by_cases c1:(b.2.1:Int)*gSv a<a.2.1*gSv b
 ·simp [c1]
 ·by_cases c2:(a.2.1:Int)*gSv b=b.2.1*gSv a
  ·rw [qf c1,qg c2,decide_eq_false c1,decide_eq_true c2,Bool.false_or,Bool.true_and]
   cases a.2.2<;>rfl
  ·simp [c1,c2]⟩
theorem Z6:Sound Tryz.prog 121 tQ:=qo (tt:=tt) (Γ:=A2) hT (qe Mu ql) hm (fn:=Tryz.f121) Tryz.func121 (c:=Tryz.f121.body.getD .skip) (by kernel_rfl) (by kernel_rfl) fun x a=>by
 obtain ⟨N,h⟩:=Z5 x.1 x.2.1 a
 exact ⟨tM N,ZS,qp _,ZT N,(ZV N x.1 x.2.1).trans h⟩
def g99:G:={ps:=[i68],rs:=[i68],dp:=true,pre:=fun x=>cx x.1,fn:=fun x=>(idA x.1,())}
def tR:G:={ps:=[i3],rs:=[i35],dp:=true,pre:=fun x=>hl x.1,fn:=fun x=>(eF x.1,())}
theorem e99 (a:Zf) (h:cx a): ∃N,m99 N a=some (idA a,()):=⟨0,by
 rw [m99,qc (by have h:List.length (α:=Zc) a.1<=1048576:=h;simpa using h)];rfl⟩
theorem Z7 (d:Int) (h:hl d): ∃N,tO N d=some (eF d,()):=⟨0,by
 rw [tO,qc ⟨h.1,Int.le_refl _,h.2⟩];rfl⟩
theorem s99:Sound Tryz.prog 99 g99:=qo (tt:=tt) (Γ:=Γ99) hT ql hm (fn:=Tryz.f99) Tryz.func99 (c:=Tryz.f99.body.getD .skip) (by kernel_rfl) (by kernel_rfl) fun x a=>by
 obtain ⟨N,h⟩:=e99 x.1 a
 exact ⟨T99 N,p99,qp _,ZW N,(ZY N x.1).trans h⟩
theorem Z8:Sound Tryz.prog 102 tR:=qo (tt:=tt) (Γ:=MA) hT ql hm (fn:=Tryz.f102) Tryz.func102 (c:=Tryz.f102.body.getD .skip) (by kernel_rfl) (by kernel_rfl) fun x a=>by
 obtain ⟨N,h⟩:=Z7 x.1 a
 exact ⟨tP N,ZZ,qp _,Z0 N,(Z2 N x.1).trans h⟩
def kj (N:Nat) (b:Ze) (c:Zb) (d:Int) (e:Bool) (k0:Int->ZO [i33]):Nat->Int->ZO [i33]
 | 0,_=>none
 | n+1,a=>bif (decide (a<(b.length:Int)))then (chk (0<=a/\a<(b.length:Int)) (chk (fF (b.getD a.toNat (qa Y68)) (c,d,e)) (bif (decide (((cN (b.getD a.toNat (qa Y68)) (c,d,e)):Int)<(0:Int)))then (kj N b c d e k0 n (IntKind.i64.wrap (a+(1:Int))))else (k0 a))))else (k0 a)
def tS (N:Nat) (a:Ze) (c:Zf):ZO [i33]:=kj N a (c.1:Zb) (c.2.1:Int) (c.2.2:Bool) (fun (b:Int)=>bif (decide (b<(a.length:Int)))then (chk (0<=b/\b<(a.length:Int)) (chk (fF (a.getD b.toNat (qa Y68)) c) (bif (decide (((cN (a.getD b.toNat (qa Y68)) c):Int)=(0:Int)))then (chk (0<=b/\b<(a.length:Int)) (chk (tz (a.getD b.toNat (qa Y68)) c) (bif ((mo (a.getD b.toNat (qa Y68)) c):Bool)then (some (a,()))else (chk (([]:Ze).length+a.length<=1048576) (chk (0<=b/\b<((([]:Ze)++a).length:Int)) (chk (b.toNat<(([]:Ze)++a).length) (some (((([]:Ze)++a).set b.toNat c),()))))))))else (chk (0<=(0:Int)/\(0:Int)<=b/\b<=(a.length:Int)) (chk (0<=b/\b<=(a.length:Int)/\(a.length:Int)<=(a.length:Int)) (chk (([]:Ze).length+((a.take b.toNat).drop (0:Int).toNat).length<=1048576) (chk ((([]:Ze)++((a.take b.toNat).drop (0:Int).toNat)).length+([c]:Ze).length<=1048576) (chk (((([]:Ze)++((a.take b.toNat).drop (0:Int).toNat))++([c]:Ze)).length+((a.take (a.length:Int).toNat).drop b.toNat).length<=1048576) (some ((((([]:Ze)++((a.take b.toNat).drop (0:Int).toNat))++([c]:Ze))++((a.take (a.length:Int).toNat).drop b.toNat)),()))))))))))else (chk (0<=(0:Int)/\(0:Int)<=b/\b<=(a.length:Int)) (chk (0<=b/\b<=(a.length:Int)/\(a.length:Int)<=(a.length:Int)) (chk (([]:Ze).length+((a.take b.toNat).drop (0:Int).toNat).length<=1048576) (chk ((([]:Ze)++((a.take b.toNat).drop (0:Int).toNat)).length+([c]:Ze).length<=1048576) (chk (((([]:Ze)++((a.take b.toNat).drop (0:Int).toNat))++([c]:Ze)).length+((a.take (a.length:Int).toNat).drop b.toNat).length<=1048576) (some ((((([]:Ze)++((a.take b.toNat).drop (0:Int).toNat))++([c]:Ze))++((a.take (a.length:Int).toNat).drop b.toNat)),())))))))) N (0:Int)
def ot:Gam:=[(120,oq),(121,tQ)]
theorem MC:Gam.get ot 120=some oq/\Gam.get ot 121=some tQ:=⟨rfl,rfl⟩
def tT:List Bool:=[I,O,O,I,O,I]
def A6:Nm:=⟨tT,[],false⟩
theorem MD:NmS A6 tT [] false:=nmS
def A7:List Bool:=[I,O,O,I,O,I]
def ME:Nm:=⟨A7,[],false⟩
theorem Z9:NmS ME A7 [] false:=nmS
def A8:List Bool:=[O,O,O,O,I]
def MF:Nm:=⟨A8,[],false⟩
theorem q2Z:NmS MF A8 [] false:=nmS
def ou:Nat->Tree:=fun i=>if i=2 then .quiet 0 (.quiet 1 (.quiet 2 (.quiet 3 (.quiet 4 (.quiet 5 (.quiet 6 (.quiet 7 (.quiet 8 (.quiet 9 (.alt 10 (.quiet 11 (.quiet 12 .done)) .stop))))))))))else if i=4 then .quiet 0 (.quiet 1 (.quiet 2 (.quiet 3 (.quiet 4 (.quiet 5 (.quiet 6 (.quiet 7 (.quiet 8 (.quiet 9 (.alt 10 (.quiet 11 (.quiet 12 .done)) .stop))))))))))else if i=5 then .quiet 0 (.quiet 1 (.quiet 2 (.quiet 3 (.quiet 4 (.alt 5 .done .stop)))))else if i=10 then .first 1 (.first 2 (.first 8 (.first 9 (.pure 3 (.pure 10 (.alt 0 (.alt 4 (.quiet 5 (.alt 6 (.alt 7 (.alt 11 (.quiet 12 .done) .stop) .stop) .stop)) (.alt 5 (.alt 4 (.alt 6 (.alt 7 (.alt 11 (.quiet 12 .done) .stop) .stop) .stop) (.alt 6 (.alt 4 (.alt 7 (.alt 11 (.quiet 12 .done) .stop) .stop) .stop) .stop)) .stop)) (.alt 5 (.alt 0 (.alt 4 (.alt 6 (.alt 7 (.alt 11 (.quiet 12 .done) .stop) .stop) .stop) (.alt 6 (.alt 4 (.alt 7 (.alt 11 (.quiet 12 .done) .stop) .stop) .stop) .stop)) (.alt 6 (.alt 0 (.alt 4 (.alt 7 (.alt 11 (.quiet 12 .done) .stop) .stop) .stop) .stop) .stop)) .stop)))))))else .done
def A9:Nat->Nm:=fun i=>if i=2 then A6 else ⟨[],[],false⟩
def Ba:Nat->Option Nm:=fun i=>if i=0 then some ME else none
def ov:Nat->Option Nm:=fun i=>if i=10 then some MF else none
theorem qVg:qi ou (Tryz.f103.body.getD .skip)=true:=by kernel_rfl
def ow (N:Nat):Tab:={tr:=ou,lp:=A9,ex:=Ba,rg:=ov,jn:=jn0,fuel:=N}
theorem q0K (N:Nat):qj Tryz.prog (ow N):=qn fun _=>rfl
theorem Bb (N:Nat):qr (ow N) ou A9 Ba ov jn0 N false:=qt
def MG:Code:=cut [I,I,O,I,I] (Tryz.f103.body.getD .skip)
theorem qOk (N:Nat) (a:Ze) (d:Zb) (e:Int) (f:Bool) {k0:Int->ZO [i33]} {Q:ZQ [i33]} {c:Code} (i:c=MG) (k: ∀st,Q .ret st=qz tt false [i33] [.tmp 4] st) (h: ∀(g:Int),Q (.exit 0) ⟨[.one (.sl 68 Y68 a 1),u,u,.one (.ptr 0 0 0),u,.one (.int .i64 g),u,u,u,u,u,u,u,u,u,u,u,u,u,u,u,u,u,u,u,u,u,u,u,u,u,u,u,u,u,u,u,u,u,u,u,u,u,u,u,u,u,u,u,u,u,u,u,u,u,u,u,u,u,u,u,u],[.box [.sl 3 Zd d 1,.int .i64 e,.bool f]]⟩=k0 g): ∀(n:Nat) (b:Int),qw (qd tt ot (ow N) c) false A6 Q n ⟨[.one (.sl 68 Y68 a 1),u,u,.one (.ptr 0 0 0),u,.one (.int .i64 b),u,u,u,u,u,u,u,u,u,u,u,u,u,u,u,u,u,u,u,u,u,u,u,u,u,u,u,u,u,u,u,u,u,u,u,u,u,u,u,u,u,u,u,u,u,u,u,u,u,u,u,u,u,u,u,u],[.box [.sl 3 Zd d 1,.int .i64 e,.bool f]]⟩=kj N a d e f k0 n b:=by
 intro n;induction n with
 | zero=>intros;rfl
 | succ n j=>
   intro b
   rw [qD,qE i,kj];unfold MG Tryz.f103
   simp -implicitDefEqProofs [Bb,ou,Ba,ov,MD,tT,Z9,A7,MC,oq,h,j]
theorem qPS (N:Nat) (a:Ze) (b:Zf):qd tt ot (ow N) (Tryz.f103.body.getD .skip) (qk tt false [i33] [.tmp 4]) (qm [i33,i68] 62 (a,b,()))=tS N a b:=by
 unfold Tryz.f103
 simp -implicitDefEqProofs [Bb,A9,ov,MD,tT]
 rewrite [qOk N _ _ _ _ ?_ ?_ ?_]
 ·rewrite [tS];first | rfl | simp -implicitDefEqProofs []
 ·rfl
 ·intro;simp only [qA,qC,qJ]
 ·intro c;simp -implicitDefEqProofs [Bb,ou,ov,q2Z,A8,MC,oq,tQ]
def tU:G:={ps:=[i33,i68],rs:=[i33],dp:=false,pre:=fun x=>kd x.1 x.2.1,fn:=fun x=>(iL x.1 x.2.1,())}
def cG (l:Ze) (a:Zf):Nat:=(l.takeWhile fun b=>decide (cN b a<0)).length
theorem qWF (l:Ze) (a:Zf):cG l a<=l.length:=(List.takeWhile_sublist _).length_le
theorem MH: ∀(l:Ze) (a:Zf),cg l a=if h:cG l a<l.length then (if cN l[cG l a] a=0 then (if cf (atm a) (atm l[cG l a])<=0 then l else l.set (cG l a) a)else l.take (cG l a)++[a]++l.drop (cG l a))else l.take (cG l a)++[a]++l.drop (cG l a)
 | [],a=>rfl
 | b::r,a=>by
   have d:=MH r a
   by_cases h1:cN b a<0
   ·have e:cG (b::r) a=cG r a+1:=by simp [cG,List.takeWhile,h1]
    have c:way b a<0:=h1
    simp only [cg,c,if_true,e,List.length_cons,Nat.add_lt_add_iff_right,List.getElem_cons_succ,List.set_cons_succ,List.take_succ_cons,List.drop_succ_cons,List.cons_append]
    rw [d]
    split
    ·split
     ·split<;>rfl
     ·rfl
    ·rfl
   ·have e:cG (b::r) a=0:=by simp [cG,List.takeWhile,h1]
    have c: ¬way b a<0:=h1
    simp only [cg,c,if_false,e,List.length_cons,Nat.zero_lt_succ,dif_pos,List.getElem_cons_zero,List.set_cons_zero,List.take_zero,List.drop_zero,List.nil_append]
    by_cases h2:way b a=0
    ·rw [if_pos h2,if_pos (show cN b a=0 from h2)]
    ·rw [if_neg h2,if_neg (show ¬cN b a=0 from h2)];rfl
theorem MI (N:Nat) (l:Ze) (a:Zf) (h:kd l a) (K:Int->ZO [i33]): ∀(k i:Nat),l.length - i=k->i<=l.length-> ∀n,k<n->
 kj N l a.1 a.2.1 a.2.2 K n i=K ((i+cG (l.drop i) a:Nat):Int)
 | 0,i,f,hle,n+1,_=>by
   rw [kj,qf (by omega),List.drop_eq_nil_of_le (by omega)]
   rfl
 | k+1,i,f,hle,n+1,j=>by
   have h1:i<l.length:=by omega
   obtain ⟨g,b,c⟩:=h
   have d:=c _ (List.getElem_mem h1)
   rw [kj,qg (by omega),qc (by omega),qB h1,qc (show fF _ _ from ⟨d.1,b,d.2⟩),b3 h1 (by omega)]
   rw [cL h1]
   by_cases h2:cN l[i] a<0
   ·have e:cG (l[i]::l.drop (i+1)) a=cG (l.drop (i+1)) a+1:=by simp [cG,List.takeWhile,h2]
    rw [qg (show cN l[i] (a.1,a.2.1,a.2.2)<0 from h2),e,MI N l a ⟨g,b,c⟩ K k (i+1) (by omega) (by omega) n (by omega)]
    congr 2;omega
   ·have e:cG (l[i]::l.drop (i+1)) a=0:=by simp [cG,List.takeWhile,h2]
    rw [qf (show ¬cN l[i] (a.1,a.2.1,a.2.2)<0 from h2),e]
    rfl
theorem q1e (l:Ze) (a:Zf) (h:kd l a): ∃N,tS N l a=some (iL l a,()):=⟨l.length+1,by
 have t:=MI (l.length+1) l a h
 rw [tS]
 refine (t _ _ 0 rfl (by omega) _ (Nat.lt_succ_self _)).trans ?_
 obtain ⟨k,e,g⟩:=h
 rw [List.drop_zero,Nat.zero_add]
 have hle:=qWF l a
 rw [iL,MH]
 generalize cG l a=j at hle ⊢
 have last:chk (0<=(0:Int)/\(0:Int)<=(j:Int)/\(j:Int)<=(l.length:Int)) (chk (0<=(j:Int)/\(j:Int)<=(l.length:Int)/\(l.length:Int)<=(l.length:Int)) (chk (([]:Ze).length+((l.take (j:Int).toNat).drop (0:Int).toNat).length<=1048576) (chk ((([]:Ze)++((l.take (j:Int).toNat).drop (0:Int).toNat)).length+([a]:Ze).length<=1048576) (chk (((([]:Ze)++((l.take (j:Int).toNat).drop (0:Int).toNat))++([a]:Ze)).length+((l.take (l.length:Int).toNat).drop (j:Int).toNat).length<=1048576)
  (some (((([]:Ze)++((l.take (j:Int).toNat).drop (0:Int).toNat))++([a]:Ze))++((l.take (l.length:Int).toNat).drop (j:Int).toNat),()))))))
  =(some (l.take j++[a]++l.drop j,()):ZO [i33]):=by
  have c:(j:Int).toNat=j:=rfl
  have f:(l.length:Int).toNat=l.length:=rfl
  have e3:(0:Int).toNat=0:=rfl
  rw [c,f,e3,List.drop_zero,List.take_length,List.nil_append]
  rw [qc (by omega),qc (by omega),qc (by simp;omega),qc (by simp;omega),qc (by simp;omega)]
 by_cases b:j<l.length
 ·have d:=g _ (List.getElem_mem b)
  have c:(j:Int).toNat=j:=rfl
  rw [dif_pos b,qg (by omega),qc (by omega),qB b,qc (show fF _ _ from ⟨d.1,e,d.2⟩)]
  by_cases hw:cN l[j] a=0
  ·have i:way (atm a) (atm l[j])=0:=by have:=cR.anti (atm a) (atm l[j]);have hw:way (atm l[j]) (atm a)=0:=hw;omega
   rw [qg hw,if_pos hw,qc (by omega),qc (show tz _ _ from ⟨d.1,e,i⟩)]
   unfold mo
   by_cases hs:cf (atm a) (atm l[j])<=0
   ·rw [qg hs,if_pos hs]
   ·rw [qf hs,if_neg hs,List.nil_append,qc (by simp;omega),qc (by omega),qc (by omega),c]
  ·rw [qf hw,if_neg hw]
   exact last
 ·rw [dif_neg b,qf (by omega)]
  exact last⟩
theorem qQU:Sound Tryz.prog 103 tU:=qo (tt:=tt) (Γ:=ot) hT (qe Z4 (qe Z6 ql)) hm (fn:=Tryz.f103) Tryz.func103 (c:=Tryz.f103.body.getD .skip) (by kernel_rfl) (by kernel_rfl) fun x a=>by
 obtain ⟨N,h⟩:=q1e x.1 x.2.1 a
 exact ⟨ow N,qVg,qp _,q0K N,(qPS N x.1 x.2.1).trans h⟩
def ho (N:Nat) (c:Int) (b:Ze) (e f:Int) (k0:(Ze)->ZO [i35]):Nat->Int->(Ze)->ZO [i35]
 | 0,_,_=>none
 | n+1,a,d=>bif (decide (a<(b.length:Int)))then (chk (0<=a/\a<(b.length:Int)) (chk (mn (b.getD a.toNat (qa Y68))) (bif ((ej (b.getD a.toNat (qa Y68))):Bool)then (chk (0<=a/\a<(b.length:Int)) (bif (!((gn (b.getD a.toNat (qa Y68))):Bool))then (chk (hl c) (some ((eF c),())))else (ho N c b e f k0 n (IntKind.i64.wrap (a+(1:Int))) d)))else (chk (0<=a/\a<(b.length:Int)) (chk (cx (b.getD a.toNat (qa Y68))) (chk (kd d (idA (b.getD a.toNat (qa Y68)))) (ho N c b e f k0 n (IntKind.i64.wrap (a+(1:Int))) ((iL d (idA (b.getD a.toNat (qa Y68)))):Ze))))))))else (k0 d)
def m68 (N:Nat) (a:Int) (b:Ze):ZO [i35]:=ho N a b (0:Int) a (fun (c:Ze)=>some ((a,c),())) N (0:Int) ([]:Ze)
def Γ68:Gam:=[(99,g99),(100,ke),(101,kg),(102,tR),(103,tU)]
theorem q1z:Gam.get Γ68 99=some g99/\Gam.get Γ68 100=some ke/\Gam.get Γ68 101=some kg/\Gam.get Γ68 102=some tR/\Gam.get Γ68 103=some tU:=⟨rfl,rfl,rfl,rfl,rfl⟩
def tV:List Bool:=[I,I,O,O,I,I,I]
def Bc:Nm:=⟨tV,[.nsb 5 1 68 Y68],false⟩
theorem MJ:NmS Bc tV [.nsb 5 1 68 Y68] false:=nmS
def Be:List Bool:=[O,O,O,O,I,I]
def MK:Nm:=⟨Be,[],false⟩
theorem qWd:NmS MK Be [] false:=nmS
def Bf:List Bool:=[I,I,O,O,I,I,I]
def ML:Nm:=⟨Bf,[],false⟩
theorem qVT:NmS ML Bf [] false:=nmS
def tW:Nat->Tree:=fun i=>if i=8 then .quiet 2 (.quiet 3 (.quiet 4 (.quiet 5 (.alt 0 (.alt 1 (.alt 6 (.alt 7 (.quiet 8 (.alt 9 .done .stop)) .stop) .stop) (.alt 6 (.quiet 1 (.alt 7 (.quiet 8 (.alt 9 .done .stop)) .stop)) .stop)) (.alt 6 (.quiet 0 (.quiet 1 (.alt 7 (.quiet 8 (.alt 9 .done .stop)) .stop))) .stop)))))else .done
def Bg:Nat->Nm:=fun i=>if i=3 then Bc else ⟨[],[],false⟩
def Bh:Nat->Option Nm:=fun i=>if i=0 then some MK else none
def ox:Nat->Option Nm:=fun i=>if i=8 then some ML else none
theorem p68:qi tW (Tryz.f68.body.getD .skip)=true:=by kernel_rfl
def T68 (N:Nat):Tab:={tr:=tW,lp:=Bg,ex:=Bh,rg:=ox,jn:=jn0,fuel:=N}
theorem qXu (N:Nat):qj Tryz.prog (T68 N):=qn fun _=>rfl
theorem Bi (N:Nat):qr (T68 N) tW Bg Bh ox jn0 N false:=qt
def MM:Code:=cut [I,I,O,I,I,I] (Tryz.f68.body.getD .skip)
theorem qXY (N:Nat) (f:Int) (g:Ze) (b d:Int) {k0:(Ze)->ZO [i35]} {Q:ZQ [i35]} {c:Code} (j:c=MM) (k: ∀st,Q .ret st=qz tt false [i35] [.cell 4 35] st) (i: ∀(h:Ze),Q (.exit 0) ⟨[u,u,u,u,.one (.ptr 0 0 0),.one (.ptr 1 0 0),u,u,u,u,u,u,u,u,u,u,u,u,u,u,u,u,u,u,u,u,u,u,u,u,u,u,u,u,u,u,u,u],[.box [.int .i64 b,.nils],.box [.int .i64 d,.sl 68 Y68 h 2]]⟩=k0 h): ∀(n:Nat) (a:Int) (e:Ze),qw (qd tt Γ68 (T68 N) c) false Bc Q n ⟨[.one (.int .i64 f),.one (.sl 68 Y68 g 2),u,u,.one (.ptr 0 0 0),.one (.ptr 1 0 0),.one (.int .i64 a),u,u,u,u,u,u,u,u,u,u,u,u,u,u,u,u,u,u,u,u,u,u,u,u,u,u,u,u,u,u,u],[.box [.int .i64 b,.nils],.box [.int .i64 d,.sl 68 Y68 e 2]]⟩=ho N f g b d k0 n a e:=by
 intro n;induction n with
 | zero=>intros;rfl
 | succ n l=>
   intro a e
   rw [qD,qE j,ho];unfold MM Tryz.f68
   simp -implicitDefEqProofs [Bi,tW,Bh,ox,MJ,tV,qWd,Be,qVT,Bf,q1z,g99,ke,kg,tR,tU,k,i,l]
theorem qUl (N:Nat) (a:Int) (b:Ze):qd tt Γ68 (T68 N) (Tryz.f68.body.getD .skip) (qk tt false [i35] [.cell 4 35]) (qm [i3,i33] 38 (a,b,()))=m68 N a b:=by
 unfold Tryz.f68
 simp -implicitDefEqProofs [Bi,Bg,ox,MJ,tV]
 rewrite [qXY N _ _ _ _ ?_ ?_ ?_]
 ·rewrite [m68];first | rfl | simp -implicitDefEqProofs []
 ·rfl
 ·intro;simp only [qA,qC,qJ]
 ·intro c;simp -implicitDefEqProofs [Bi,ox]
def g68:G:={ps:=[i3,i33],rs:=[i35],dp:=false,pre:=fun x=>dy x.1 x.2.1,fn:=fun x=>(qS x.1 x.2.1,())}
theorem Bj: ∀(l:List Atm) (a:Atm),(cg l a).length<=l.length+1
 | [],_=>by simp [cg]
 | b::r,a=>by
   have:=Bj r a
   simp only [cg]
   split
   ·simp;omega
   ·split
    ·split<;>simp
    ·simp
theorem Bk {ρ:Type} {d:Int} {r:Option ρ} {k:Ze->Option ρ}: ∀(xs:Ze) (i:Nat) (s:Ze),s.length+xs.length<=1048576->(∀b∈s,okA b/\(List.length (α:=Int) b.1:Int)=d)->(∀b∈xs,okA b/\(List.length (α:=Int) b.1:Int)=d)->
 q5 (fun _ (x:Zf) (s:Ze) K=>bif ej x then (bif !gn x then r else K s)else chk (kd s x) (K (iL s x))) i xs s k=bif xs.any bU then r else k ((xs.filter bo).foldl cg s)
 | [],_,s,_,_,_=>by rw [q5];simp
 | x::xs,i,s,h,hs,e=>by
   simp only [List.length_cons]at h
   have f:=e x (by simp)
   rw [q5,List.any_cons,AP]
   cases g:ej x with
   | true=>
     have c:bo x=false:=by simpa [ej] using g
     cases l:gn x with
     | false=>simp
     | true=>
       simp only [cond_true,Bool.not_true,cond_false,Bool.and_false,Bool.false_or]
       rw [Bk xs (i+1) s (by omega) hs fun b a=>e b (by simp [a])]
       simp [c]
   | false=>
     have c:bo x=true:=by simpa [ej] using g
     simp only [cond_false,Bool.false_and,Bool.false_or]
     rw [qc (show kd s x from ⟨by omega,f.1,fun b a=>⟨(hs b a).1,by have:=(hs b a).2;have:=f.2;omega⟩⟩)]
     have j:(iL s x).length<=s.length+1:=Bj s x
     rw [Bk xs (i+1) (iL s x) (by omega) (fun b a=> ?_) fun b a=>e b (by simp [a])]
     ·simp only [List.filter_cons,c,if_true,List.foldl_cons]
      rfl
     ·rcases nX a with rfl | a
      ·exact f
      ·exact hs b a
theorem t68 (N:Nat) (d:Int) (l:Ze) (K:Ze->ZO [i35]) (h:okL d l) (n:Nat) (e:l.length<n) (s:Ze):ho N d l 0 d K n 0 s=q5 (fun _ (x:Zf) (s:Ze) K=>bif ej x then (bif !gn x then some (eF d,())else K s)else chk (kd s x) (K (iL s x))) 0 l s K:=
 bp (xs:=l) (F:=fun n i s=>ho N d l 0 d K n i s) h.2.1 (fun n i s a=>by
  obtain ⟨b,hlen⟩:=h.2.2 _ (List.getElem_mem a)
  have f:=(ch b).1
  have c:=h.1
  rw [ho,qg (by omega),qc (by omega),qB a,qc (show mn _ from b),qc (by omega),qc (show hl d from ⟨c.1,by omega⟩),qc (by omega),qc (show cx _ from by unfold cx;omega)]
  rfl) (fun n i s a=>by rw [ho,qf (by omega)]) n s e
theorem e68 (d:Int) (l:Ze) (h:dy d l): ∃N,m68 N d l=some (qS d l,()):=⟨l.length+1,by
 rw [m68,t68 _ _ _ _ h _ (Nat.lt_succ_self _)]
 refine (Bk (d:=d) l 0 [] (by simpa using h.2.1) (by simp) h.2.2).trans ?_
 rw [qS]
 cases l.any bU<;>rfl⟩
theorem s68:Sound Tryz.prog 68 g68:=qo (tt:=tt) (Γ:=Γ68) hT (qe s99 (qe Mr (qe Mt (qe Z8 (qe qQU ql))))) hm (fn:=Tryz.f68) Tryz.func68 (c:=Tryz.f68.body.getD .skip) (by kernel_rfl) (by kernel_rfl) fun x a=>by
 obtain ⟨N,h⟩:=e68 x.1 x.2.1 a
 exact ⟨T68 N,p68,qp _,qXu N,(qUl N x.1 x.2.1).trans h⟩
def dk (d:Int) (l:Ze):Zj×Bool:=bif decide ((16:Int)<(List.length (α:=Zf) (qS d l).2:Int))then (((0:Int),[]),false)else (qS d l,true)
def oy (d:Int) (l:Ze):Prop:=okL d l
def tX:G:={ps:=[i3,i33],rs:=[i35,i4],dp:=true,pre:=fun x=>oy x.1 x.2.1,fn:=fun x=>((dk x.1 x.2.1).1,(dk x.1 x.2.1).2,())}
def tY (N:Nat) (a:Int) (b:Ze):ZO [i35,i4]:=chk (dy a b) (bif (decide ((16:Int)<(((qS a b).2:Ze).length:Int)))then (some (((0:Int),([]:Ze)),false,()))else (some ((qS a b),true,())))
def Bl:Gam:=[(112,gl)]
theorem qWz:Gam.get Bl 112=some gl:=rfl
theorem qQ7:qi tr0 (Tryz.f130.body.getD .skip)=true:=by kernel_rfl
def tZ (N:Nat):Tab:={tr:=tr0,lp:=lp0,ex:=ex0,rg:=rg0,jn:=jn0,fuel:=N}
theorem qOt (N:Nat):qj Tryz.prog (tZ N):=qn fun _=>rfl
theorem qOO (N:Nat):qr (tZ N) tr0 lp0 ex0 rg0 jn0 N false:=qt
theorem qPb (N:Nat) (a:Int) (b:Ze):qd tt Bl (tZ N) (Tryz.f130.body.getD .skip) (qk tt true [i35,i4] [.cell 4 35,.tmp 5]) (qm [i3,i33] 16 (a,b,()))=tY N a b:=by
 rw [tY];unfold Tryz.f130
 simp -implicitDefEqProofs [qOO,qWz,gl]
 try rfl
theorem qRo (d:Int) (l:Ze) (h:oy d l): ∃N,tY N d l=some ((dk d l).1,(dk d l).2,()):=⟨0,by
 rw [tY,qc (show dy d l from h)]
 unfold dk
 cases decide ((16:Int)<(List.length (α:=Zf) (qS d l).2:Int))<;>rfl⟩
theorem qOI:Sound Tryz.prog 130 tX:=qo (tt:=tt) (Γ:=Bl) hT (qe AO ql) hm (fn:=Tryz.f130) Tryz.func130 (c:=Tryz.f130.body.getD .skip) (by kernel_rfl) (by kernel_rfl) fun x a=>by
 obtain ⟨N,h⟩:=qRo x.1 x.2.1 a
 exact ⟨tZ N,qQ7,qp _,qOt N,(qPb N x.1 x.2.1).trans h⟩
theorem hp {x:Int} (h:inI x):IntKind.i64.wrap (0 - x)= -x:=by
 unfold inI at h
 rw [bn (by omega) (by omega)];omega
def qu (p q:Int) (xs ys:List Int):List Int:=(List.zip xs ys).map fun z=>p*z.1+q*z.2
def bt (a:Zf) (p:Int) (b:Zf) (q:Int):Zf×Bool:=
 bif qy a&&qy b&&decide (List.length (α:=Int) a.1=List.length (α:=Int) b.1)&&inR p 0 400000000&&inR q 0 400000000 then qx (qu p q a.1 b.1) (p*a.2.1+q*b.2.1) ((a.2.2&&decide (0<p))||(b.2.2&&decide (0<q)))else (([],((0:Int),false)),false)
def ua (a:Zf) (_:Int) (b:Zf) (_:Int):Prop:=cx a/\cx b
def ub:G:={ps:=[i68,i3,i68,i3],rs:=[i68,i4],dp:=true,pre:=fun _=>True,fn:=fun x=>((bt x.1 x.2.1 x.2.2.1 x.2.2.2.1).1,(bt x.1 x.2.1 x.2.2.1 x.2.2.2.1).2,())}
def uc:G:={ps:=[i68,i3,i68,i3],rs:=[i68,i4],dp:=true,pre:=fun x=>ua x.1 x.2.1 x.2.2.1 x.2.2.2.1,fn:=fun x=>((bt x.1 x.2.1 x.2.2.1 x.2.2.2.1).1,(bt x.1 x.2.1 x.2.2.1 x.2.2.2.1).2,())}
def iN (N:Nat) (e f g:Int) (d:Zb) (m:Int) (h:Bool) (c:Zb) (i:Int) (j:Bool) (k:Int) (l:Bool) (k0:(Zb)->ZO [i68,i4]):Nat->Int->(Zb)->ZO [i68,i4]
 | 0,_,_=>none
 | n+1,a,b=>bif (decide (a<g))then (chk (0<=a/\a<(d.length:Int)) (chk (0<=a/\a<(c.length:Int)) (chk (0<=a/\a<(b.length:Int)) (chk (a.toNat<b.length) (iN N e f g d m h c i j k l k0 n (IntKind.i64.wrap (a+(1:Int))) (b.set a.toNat (IntKind.i64.wrap ((IntKind.i64.wrap (e*((d.getD a.toNat (qa Zd)):Int)))+(IntKind.i64.wrap (f*((c.getD a.toNat (qa Zd)):Int)))))))))))else (k0 b)
def ud (N:Nat) (a:Zf) (d:Int) (c:Zf) (b:Int):ZO [i68,i4]:=bif (!((qy a):Bool))then (some ((([]:Zb),(0:Int),false),false,()))else (bif (!((qy c):Bool))then (some ((([]:Zb),(0:Int),false),false,()))else (bif (!(decide (((a.1:Zb).length:Int)=((c.1:Zb).length:Int))))then (some ((([]:Zb),(0:Int),false),false,()))else (bif (decide (d<(0:Int)))then (some ((([]:Zb),(0:Int),false),false,()))else (bif (decide ((400000000:Int)<d))then (some ((([]:Zb),(0:Int),false),false,()))else (bif (decide (b<(0:Int)))then (some ((([]:Zb),(0:Int),false),false,()))else (bif (decide ((400000000:Int)<b))then (some ((([]:Zb),(0:Int),false),false,()))else (chk (0<=((a.1:Zb).length:Int)/\((a.1:Zb).length:Int)<=((a.1:Zb).length:Int)/\((a.1:Zb).length:Int)<=1048576) (iN N d b ((List.replicate ((a.1:Zb).length:Int).toNat (qa Zd)).length:Int) (a.1:Zb) (a.2.1:Int) (a.2.2:Bool) (c.1:Zb) (c.2.1:Int) (c.2.2:Bool) (0:Int) false (fun (e:Zb)=>bif (a.2.2:Bool)then (bif (!(decide (d=(0:Int))))then (chk (bx e (IntKind.i64.wrap ((IntKind.i64.wrap (d*(a.2.1:Int)))+(IntKind.i64.wrap (b*(c.2.1:Int))))) true) (some ((qx e (IntKind.i64.wrap ((IntKind.i64.wrap (d*(a.2.1:Int)))+(IntKind.i64.wrap (b*(c.2.1:Int))))) true).1,((qx e (IntKind.i64.wrap ((IntKind.i64.wrap (d*(a.2.1:Int)))+(IntKind.i64.wrap (b*(c.2.1:Int))))) true).2:Bool),())))else (bif (c.2.2:Bool)then (chk (bx e (IntKind.i64.wrap ((IntKind.i64.wrap (d*(a.2.1:Int)))+(IntKind.i64.wrap (b*(c.2.1:Int))))) (!(decide (b=(0:Int))))) (some ((qx e (IntKind.i64.wrap ((IntKind.i64.wrap (d*(a.2.1:Int)))+(IntKind.i64.wrap (b*(c.2.1:Int))))) (!(decide (b=(0:Int))))).1,((qx e (IntKind.i64.wrap ((IntKind.i64.wrap (d*(a.2.1:Int)))+(IntKind.i64.wrap (b*(c.2.1:Int))))) (!(decide (b=(0:Int))))).2:Bool),())))else (chk (bx e (IntKind.i64.wrap ((IntKind.i64.wrap (d*(a.2.1:Int)))+(IntKind.i64.wrap (b*(c.2.1:Int))))) false) (some ((qx e (IntKind.i64.wrap ((IntKind.i64.wrap (d*(a.2.1:Int)))+(IntKind.i64.wrap (b*(c.2.1:Int))))) false).1,((qx e (IntKind.i64.wrap ((IntKind.i64.wrap (d*(a.2.1:Int)))+(IntKind.i64.wrap (b*(c.2.1:Int))))) false).2:Bool),())))))else (bif (c.2.2:Bool)then (chk (bx e (IntKind.i64.wrap ((IntKind.i64.wrap (d*(a.2.1:Int)))+(IntKind.i64.wrap (b*(c.2.1:Int))))) (!(decide (b=(0:Int))))) (some ((qx e (IntKind.i64.wrap ((IntKind.i64.wrap (d*(a.2.1:Int)))+(IntKind.i64.wrap (b*(c.2.1:Int))))) (!(decide (b=(0:Int))))).1,((qx e (IntKind.i64.wrap ((IntKind.i64.wrap (d*(a.2.1:Int)))+(IntKind.i64.wrap (b*(c.2.1:Int))))) (!(decide (b=(0:Int))))).2:Bool),())))else (chk (bx e (IntKind.i64.wrap ((IntKind.i64.wrap (d*(a.2.1:Int)))+(IntKind.i64.wrap (b*(c.2.1:Int))))) false) (some ((qx e (IntKind.i64.wrap ((IntKind.i64.wrap (d*(a.2.1:Int)))+(IntKind.i64.wrap (b*(c.2.1:Int))))) false).1,((qx e (IntKind.i64.wrap ((IntKind.i64.wrap (d*(a.2.1:Int)))+(IntKind.i64.wrap (b*(c.2.1:Int))))) false).2:Bool),()))))) N (0:Int) (List.replicate ((a.1:Zb).length:Int).toNat (qa Zd))))))))))
def oz:Gam:=[(80,g80),(91,g91)]
theorem MN:Gam.get oz 80=some g80/\Gam.get oz 91=some g91:=⟨rfl,rfl⟩
def ue:List Bool:=[O,I,O,I,I,O,I,O,I,O,I,O,O,O,O,O,O,O,O,O,O,O,O,O,O,O,O,O,O,O,O,O,O,O,O,O,O,O,O,O,O,O,O,O,O,O,O,O,O,O,I,I]
def Bm:Nm:=⟨ue,[],false⟩
theorem MO:NmS Bm ue [] false:=nmS
def Bn:List Bool:=[O,I,O,I,I,O,I,O,I,O,I]
def MP:Nm:=⟨Bn,[],false⟩
theorem qWp:NmS MP Bn [] false:=nmS
def uf:Nat->Tree:=fun i=>if i=9 then .quiet 0 (.quiet 1 (.quiet 2 (.quiet 3 (.quiet 4 (.quiet 5 (.quiet 6 (.quiet 7 (.quiet 8 (.quiet 9 (.quiet 10 (.quiet 11 (.quiet 12 (.quiet 13 (.quiet 14 (.quiet 15 (.quiet 16 (.quiet 17 (.alt 18 .done .stop))))))))))))))))))else .done
def Bo:Nat->Nm:=fun i=>if i=7 then Bm else ⟨[],[],false⟩
def Bp:Nat->Option Nm:=fun i=>if i=0 then some MP else none
theorem qR0:qi uf (Tryz.f129.body.getD .skip)=true:=by kernel_rfl
def oA (N:Nat):Tab:={tr:=uf,lp:=Bo,ex:=Bp,rg:=rg0,jn:=jn0,fuel:=N}
theorem qRD (N:Nat):qj Tryz.prog (oA N):=qn fun _=>rfl
theorem Bq (N:Nat):qr (oA N) uf Bo Bp rg0 jn0 N false:=qt
def MQ:Code:=cut [I,I,I,I,O,I,I,I] (Tryz.f129.body.getD .skip)
theorem qXf (N:Nat) (i j p:Int) (l:Zb) (m:Int) (a:Bool) (b:Zb) (d:Int) (e:Bool) (f:Int) (g:Bool) {k0:(Zb)->ZO [i68,i4]} {Q:ZQ [i68,i4]} {c:Code} (r:c=MQ) (t: ∀st,Q .ret st=qz tt true [i68,i4] [.cell 8 68,.tmp 9] st) (q: ∀(o:Zb),Q (.exit 0) ⟨[u,.one (.int .i64 i),u,.one (.int .i64 j),.one (.ptr 0 0 0),u,.one (.ptr 1 0 0),u,.one (.ptr 2 0 0),u,.one (.own 3),u,u,u,u,u,u,u,u,u,u,u,u,u,u,u,u,u,u,u,u,u,u,u,u,u,u,u,u,u,u,u,u,u,u,u,u,u,u,u,u,u,u,u,u,u,u,u,u,u,u,u,u,u,u,u,u,u,u,u,u,u,u,u,u,u,u,u,u,u,u,u,u,u,u,u,u,u,u,u,u,u,u,u,u,u,u,u,u,u],[.box [.sl 3 Zd l 4,.int .i64 m,.bool a],.box [.sl 3 Zd b 4,.int .i64 d,.bool e],.box [.nils,.int .i64 f,.bool g],.row 3 Zd o true true 0]⟩=k0 o): ∀(n:Nat) (k:Int) (h:Zb),qw (qd tt oz (oA N) c) false Bm Q n ⟨[u,.one (.int .i64 i),u,.one (.int .i64 j),.one (.ptr 0 0 0),u,.one (.ptr 1 0 0),u,.one (.ptr 2 0 0),u,.one (.own 3),u,u,u,u,u,u,u,u,u,u,u,u,u,u,u,u,u,u,u,u,u,u,u,u,u,u,u,u,u,u,u,u,u,u,u,u,u,u,u,.one (.int .i64 p),.one (.int .i64 k),u,u,u,u,u,u,u,u,u,u,u,u,u,u,u,u,u,u,u,u,u,u,u,u,u,u,u,u,u,u,u,u,u,u,u,u,u,u,u,u,u,u,u,u,u,u,u,u],[.box [.sl 3 Zd l 4,.int .i64 m,.bool a],.box [.sl 3 Zd b 4,.int .i64 d,.bool e],.box [.nils,.int .i64 f,.bool g],.row 3 Zd h true true 0]⟩=iN N i j p l m a b d e f g k0 n k h:=by
 intro n;induction n with
 | zero=>intros;rfl
 | succ n s=>
   intro k h
   rw [qD,qE r,iN];unfold MQ Tryz.f129
   simp -implicitDefEqProofs [Bq,uf,Bp,MO,ue,qWp,Bn,q,s]
theorem qXR (N:Nat) (c:Zf) (d:Int) (b:Zf) (a:Int):qd tt oz (oA N) (Tryz.f129.body.getD .skip) (qk tt true [i68,i4] [.cell 8 68,.tmp 9]) (qm [i68,i3,i68,i3] 100 (c,d,b,a,()))=ud N c d b a:=by
 unfold Tryz.f129
 simp (maxSteps:=10000000) -implicitDefEqProofs [Bq,Bo,MO,ue,MN,g80]
 rewrite [qXf (k0:=(fun (e:Zb)=>bif (c.2.2:Bool)then (bif (!(decide (d=(0:Int))))then (chk (bx e (IntKind.i64.wrap ((IntKind.i64.wrap (d*(c.2.1:Int)))+(IntKind.i64.wrap (a*(b.2.1:Int))))) true) (some ((qx e (IntKind.i64.wrap ((IntKind.i64.wrap (d*(c.2.1:Int)))+(IntKind.i64.wrap (a*(b.2.1:Int))))) true).1,((qx e (IntKind.i64.wrap ((IntKind.i64.wrap (d*(c.2.1:Int)))+(IntKind.i64.wrap (a*(b.2.1:Int))))) true).2:Bool),())))else (bif (b.2.2:Bool)then (chk (bx e (IntKind.i64.wrap ((IntKind.i64.wrap (d*(c.2.1:Int)))+(IntKind.i64.wrap (a*(b.2.1:Int))))) (!(decide (a=(0:Int))))) (some ((qx e (IntKind.i64.wrap ((IntKind.i64.wrap (d*(c.2.1:Int)))+(IntKind.i64.wrap (a*(b.2.1:Int))))) (!(decide (a=(0:Int))))).1,((qx e (IntKind.i64.wrap ((IntKind.i64.wrap (d*(c.2.1:Int)))+(IntKind.i64.wrap (a*(b.2.1:Int))))) (!(decide (a=(0:Int))))).2:Bool),())))else (chk (bx e (IntKind.i64.wrap ((IntKind.i64.wrap (d*(c.2.1:Int)))+(IntKind.i64.wrap (a*(b.2.1:Int))))) false) (some ((qx e (IntKind.i64.wrap ((IntKind.i64.wrap (d*(c.2.1:Int)))+(IntKind.i64.wrap (a*(b.2.1:Int))))) false).1,((qx e (IntKind.i64.wrap ((IntKind.i64.wrap (d*(c.2.1:Int)))+(IntKind.i64.wrap (a*(b.2.1:Int))))) false).2:Bool),())))))else (bif (b.2.2:Bool)then (chk (bx e (IntKind.i64.wrap ((IntKind.i64.wrap (d*(c.2.1:Int)))+(IntKind.i64.wrap (a*(b.2.1:Int))))) (!(decide (a=(0:Int))))) (some ((qx e (IntKind.i64.wrap ((IntKind.i64.wrap (d*(c.2.1:Int)))+(IntKind.i64.wrap (a*(b.2.1:Int))))) (!(decide (a=(0:Int))))).1,((qx e (IntKind.i64.wrap ((IntKind.i64.wrap (d*(c.2.1:Int)))+(IntKind.i64.wrap (a*(b.2.1:Int))))) (!(decide (a=(0:Int))))).2:Bool),())))else (chk (bx e (IntKind.i64.wrap ((IntKind.i64.wrap (d*(c.2.1:Int)))+(IntKind.i64.wrap (a*(b.2.1:Int))))) false) (some ((qx e (IntKind.i64.wrap ((IntKind.i64.wrap (d*(c.2.1:Int)))+(IntKind.i64.wrap (a*(b.2.1:Int))))) false).1,((qx e (IntKind.i64.wrap ((IntKind.i64.wrap (d*(c.2.1:Int)))+(IntKind.i64.wrap (a*(b.2.1:Int))))) false).2:Bool),())))))) N _ _ _ _ _ _ _ _ _ _ _ ?_ ?_ ?_]
 ·rewrite [ud];first | rfl | simp -implicitDefEqProofs []
 ·rfl
 ·intro;simp only [qA,qC,qJ]
 ·intro e;simp (maxSteps:=10000000) -implicitDefEqProofs [Bq,MN,g91]
def iO (N:Nat) (e f:Int) (b:Zb) (k:Int) (l:Bool) (c:Zb) (g:Int) (h:Bool) (i:Int) (j:Bool) (k0:(Zb)->ZO [i68,i4]):Nat->Int->(Zb)->ZO [i68,i4]
 | 0,_,_=>none
 | n+1,a,d=>bif (decide (a<(b.length:Int)))then (chk (0<=a/\a<(b.length:Int)) (chk (0<=a/\a<(c.length:Int)) (chk (d.length+([(IntKind.i64.wrap ((IntKind.i64.wrap (e*((b.getD a.toNat (qa Zd)):Int)))+(IntKind.i64.wrap (f*((c.getD a.toNat (qa Zd)):Int)))))]:Zb).length<=1048576) (iO N e f b k l c g h i j k0 n (IntKind.i64.wrap (a+(1:Int))) (d++([(IntKind.i64.wrap ((IntKind.i64.wrap (e*((b.getD a.toNat (qa Zd)):Int)))+(IntKind.i64.wrap (f*((c.getD a.toNat (qa Zd)):Int)))))]:Zb))))))else (k0 d)
def ug (N:Nat) (c:Zf) (d:Int) (b:Zf) (a:Int):ZO [i68,i4]:=bif (!((qy c):Bool))then (some ((([]:Zb),(0:Int),false),false,()))else (bif (!((qy b):Bool))then (some ((([]:Zb),(0:Int),false),false,()))else (bif (!(decide (((c.1:Zb).length:Int)=((b.1:Zb).length:Int))))then (some ((([]:Zb),(0:Int),false),false,()))else (bif (!((inR d (0 400000000:Int)):Bool))then (some ((([]:Zb),(0:Int),false),false,()))else (bif (!((inR a (0 400000000:Int)):Bool))then (some ((([]:Zb),(0:Int),false),false,()))else (iO N d a (c.1:Zb) (c.2.1:Int) (c.2.2:Bool) (b.1:Zb) (b.2.1:Int) (b.2.2:Bool) (0:Int) false (fun (e:Zb)=>bif (c.2.2:Bool)then (bif (decide ((0:Int)<d))then (chk (bx e (IntKind.i64.wrap ((IntKind.i64.wrap (d*(c.2.1:Int)))+(IntKind.i64.wrap (a*(b.2.1:Int))))) true) (some ((qx e (IntKind.i64.wrap ((IntKind.i64.wrap (d*(c.2.1:Int)))+(IntKind.i64.wrap (a*(b.2.1:Int))))) true).1,((qx e (IntKind.i64.wrap ((IntKind.i64.wrap (d*(c.2.1:Int)))+(IntKind.i64.wrap (a*(b.2.1:Int))))) true).2:Bool),())))else (bif (b.2.2:Bool)then (chk (bx e (IntKind.i64.wrap ((IntKind.i64.wrap (d*(c.2.1:Int)))+(IntKind.i64.wrap (a*(b.2.1:Int))))) (decide ((0:Int)<a))) (some ((qx e (IntKind.i64.wrap ((IntKind.i64.wrap (d*(c.2.1:Int)))+(IntKind.i64.wrap (a*(b.2.1:Int))))) (decide ((0:Int)<a))).1,((qx e (IntKind.i64.wrap ((IntKind.i64.wrap (d*(c.2.1:Int)))+(IntKind.i64.wrap (a*(b.2.1:Int))))) (decide ((0:Int)<a))).2:Bool),())))else (chk (bx e (IntKind.i64.wrap ((IntKind.i64.wrap (d*(c.2.1:Int)))+(IntKind.i64.wrap (a*(b.2.1:Int))))) false) (some ((qx e (IntKind.i64.wrap ((IntKind.i64.wrap (d*(c.2.1:Int)))+(IntKind.i64.wrap (a*(b.2.1:Int))))) false).1,((qx e (IntKind.i64.wrap ((IntKind.i64.wrap (d*(c.2.1:Int)))+(IntKind.i64.wrap (a*(b.2.1:Int))))) false).2:Bool),())))))else (bif (b.2.2:Bool)then (chk (bx e (IntKind.i64.wrap ((IntKind.i64.wrap (d*(c.2.1:Int)))+(IntKind.i64.wrap (a*(b.2.1:Int))))) (decide ((0:Int)<a))) (some ((qx e (IntKind.i64.wrap ((IntKind.i64.wrap (d*(c.2.1:Int)))+(IntKind.i64.wrap (a*(b.2.1:Int))))) (decide ((0:Int)<a))).1,((qx e (IntKind.i64.wrap ((IntKind.i64.wrap (d*(c.2.1:Int)))+(IntKind.i64.wrap (a*(b.2.1:Int))))) (decide ((0:Int)<a))).2:Bool),())))else (chk (bx e (IntKind.i64.wrap ((IntKind.i64.wrap (d*(c.2.1:Int)))+(IntKind.i64.wrap (a*(b.2.1:Int))))) false) (some ((qx e (IntKind.i64.wrap ((IntKind.i64.wrap (d*(c.2.1:Int)))+(IntKind.i64.wrap (a*(b.2.1:Int))))) false).1,((qx e (IntKind.i64.wrap ((IntKind.i64.wrap (d*(c.2.1:Int)))+(IntKind.i64.wrap (a*(b.2.1:Int))))) false).2:Bool),()))))) N (0:Int) ([]:Zb))))))
def mq:Gam:=[(61,g61),(62,g62),(65,g65)]
theorem MR:Gam.get mq 61=some g61/\Gam.get mq 62=some g62/\Gam.get mq 65=some g65:=⟨rfl,rfl,rfl⟩
def uh:List Bool:=[O,I,O,I,I,O,I,O,I,O,I,I]
def Br:Nm:=⟨uh,[],false⟩
theorem MS:NmS Br uh [] false:=nmS
def Bs:List Bool:=[O,I,O,I,I,O,I,O,I,O,I]
def MT:Nm:=⟨Bs,[],false⟩
theorem q05:NmS MT Bs [] false:=nmS
def ui:Nat->Tree:=fun i=>if i=7 then .quiet 1 (.quiet 2 (.quiet 3 (.quiet 4 (.quiet 5 (.quiet 6 (.quiet 7 (.quiet 8 (.quiet 9 (.quiet 10 (.quiet 11 (.quiet 12 (.quiet 13 (.quiet 14 (.quiet 15 (.first 0 (.alt 16 (.alt 17 (.quiet 18 .done) .stop) .stop))))))))))))))))else .done
def Bt:Nat->Nm:=fun i=>if i=5 then Br else ⟨[],[],false⟩
def Bu:Nat->Option Nm:=fun i=>if i=0 then some MT else none
theorem q1D:qi ui (Tryz.f104.body.getD .skip)=true:=by kernel_rfl
def oB (N:Nat):Tab:={tr:=ui,lp:=Bt,ex:=Bu,rg:=rg0,jn:=jn0,fuel:=N}
theorem qTw (N:Nat):qj Tryz.prog (oB N):=qn fun _=>rfl
theorem Bv (N:Nat):qr (oB N) ui Bt Bu rg0 jn0 N false:=qt
def MU:Code:=cut [I,I,I,O,I,I,I] (Tryz.f104.body.getD .skip)
theorem q3m (N:Nat) (h i:Int) (k:Zb) (l:Int) (m:Bool) (a:Zb) (b:Int) (d:Bool) (e:Int) (f:Bool) {k0:(Zb)->ZO [i68,i4]} {Q:ZQ [i68,i4]} {c:Code} (q:c=MU) (s: ∀st,Q .ret st=qz tt true [i68,i4] [.cell 8 68,.tmp 9] st) (p: ∀(o:Zb),Q (.exit 0) ⟨[u,.one (.int .i64 h),u,.one (.int .i64 i),.one (.ptr 0 0 0),u,.one (.ptr 1 0 0),u,.one (.ptr 2 0 0),u,.one (.own 3),u,u,u,u,u,u,u,u,u,u,u,u,u,u,u,u,u,u,u,u,u,u,u,u,u,u,u,u,u,u,u,u,u,u,u,u,u,u,u,u,u,u,u,u,u,u,u,u,u,u,u,u,u,u,u,u,u,u,u,u,u,u,u,u,u,u,u,u,u,u,u,u,u,u,u,u,u,u,u,u,u,u,u,u,u,u,u],[.box [.sl 3 Zd k 4,.int .i64 l,.bool m],.box [.sl 3 Zd a 4,.int .i64 b,.bool d],.box [.nils,.int .i64 e,.bool f],.row 3 Zd o true true 0]⟩=k0 o): ∀(n:Nat) (j:Int) (g:Zb),qw (qd tt mq (oB N) c) false Br Q n ⟨[u,.one (.int .i64 h),u,.one (.int .i64 i),.one (.ptr 0 0 0),u,.one (.ptr 1 0 0),u,.one (.ptr 2 0 0),u,.one (.own 3),.one (.int .i64 j),u,u,u,u,u,u,u,u,u,u,u,u,u,u,u,u,u,u,u,u,u,u,u,u,u,u,u,u,u,u,u,u,u,u,u,u,u,u,u,u,u,u,u,u,u,u,u,u,u,u,u,u,u,u,u,u,u,u,u,u,u,u,u,u,u,u,u,u,u,u,u,u,u,u,u,u,u,u,u,u,u,u,u,u,u,u],[.box [.sl 3 Zd k 4,.int .i64 l,.bool m],.box [.sl 3 Zd a 4,.int .i64 b,.bool d],.box [.nils,.int .i64 e,.bool f],.row 3 Zd g true true 0]⟩=iO N h i k l m a b d e f k0 n j g:=by
 intro n;induction n with
 | zero=>intros;rfl
 | succ n r=>
   intro j g
   rw [qD,qE q,iO];unfold MU Tryz.f104
   simp -implicitDefEqProofs [Bv,ui,Bu,MS,uh,q05,Bs,p,r]
theorem q25 (N:Nat) (c:Zf) (d:Int) (b:Zf) (a:Int):qd tt mq (oB N) (Tryz.f104.body.getD .skip) (qk tt true [i68,i4] [.cell 8 68,.tmp 9]) (qm [i68,i3,i68,i3] 98 (c,d,b,a,()))=ug N c d b a:=by
 unfold Tryz.f104
 simp (maxSteps:=10000000) -implicitDefEqProofs [Bv,Bt,MS,uh,MR,g61,g62]
 rewrite [q3m (k0:=(fun (e:Zb)=>bif (c.2.2:Bool)then (bif (decide ((0:Int)<d))then (chk (bx e (IntKind.i64.wrap ((IntKind.i64.wrap (d*(c.2.1:Int)))+(IntKind.i64.wrap (a*(b.2.1:Int))))) true) (some ((qx e (IntKind.i64.wrap ((IntKind.i64.wrap (d*(c.2.1:Int)))+(IntKind.i64.wrap (a*(b.2.1:Int))))) true).1,((qx e (IntKind.i64.wrap ((IntKind.i64.wrap (d*(c.2.1:Int)))+(IntKind.i64.wrap (a*(b.2.1:Int))))) true).2:Bool),())))else (bif (b.2.2:Bool)then (chk (bx e (IntKind.i64.wrap ((IntKind.i64.wrap (d*(c.2.1:Int)))+(IntKind.i64.wrap (a*(b.2.1:Int))))) (decide ((0:Int)<a))) (some ((qx e (IntKind.i64.wrap ((IntKind.i64.wrap (d*(c.2.1:Int)))+(IntKind.i64.wrap (a*(b.2.1:Int))))) (decide ((0:Int)<a))).1,((qx e (IntKind.i64.wrap ((IntKind.i64.wrap (d*(c.2.1:Int)))+(IntKind.i64.wrap (a*(b.2.1:Int))))) (decide ((0:Int)<a))).2:Bool),())))else (chk (bx e (IntKind.i64.wrap ((IntKind.i64.wrap (d*(c.2.1:Int)))+(IntKind.i64.wrap (a*(b.2.1:Int))))) false) (some ((qx e (IntKind.i64.wrap ((IntKind.i64.wrap (d*(c.2.1:Int)))+(IntKind.i64.wrap (a*(b.2.1:Int))))) false).1,((qx e (IntKind.i64.wrap ((IntKind.i64.wrap (d*(c.2.1:Int)))+(IntKind.i64.wrap (a*(b.2.1:Int))))) false).2:Bool),())))))else (bif (b.2.2:Bool)then (chk (bx e (IntKind.i64.wrap ((IntKind.i64.wrap (d*(c.2.1:Int)))+(IntKind.i64.wrap (a*(b.2.1:Int))))) (decide ((0:Int)<a))) (some ((qx e (IntKind.i64.wrap ((IntKind.i64.wrap (d*(c.2.1:Int)))+(IntKind.i64.wrap (a*(b.2.1:Int))))) (decide ((0:Int)<a))).1,((qx e (IntKind.i64.wrap ((IntKind.i64.wrap (d*(c.2.1:Int)))+(IntKind.i64.wrap (a*(b.2.1:Int))))) (decide ((0:Int)<a))).2:Bool),())))else (chk (bx e (IntKind.i64.wrap ((IntKind.i64.wrap (d*(c.2.1:Int)))+(IntKind.i64.wrap (a*(b.2.1:Int))))) false) (some ((qx e (IntKind.i64.wrap ((IntKind.i64.wrap (d*(c.2.1:Int)))+(IntKind.i64.wrap (a*(b.2.1:Int))))) false).1,((qx e (IntKind.i64.wrap ((IntKind.i64.wrap (d*(c.2.1:Int)))+(IntKind.i64.wrap (a*(b.2.1:Int))))) false).2:Bool),())))))) N _ _ _ _ _ _ _ _ _ _ ?_ ?_ ?_]
 ·rewrite [ug];first | rfl | simp -implicitDefEqProofs []
 ·rfl
 ·intro;simp only [qA,qC,qJ]
 ·intro e;simp (maxSteps:=10000000) -implicitDefEqProofs [Bv,MR,g65]
theorem iP {p q x y:Int} (a:0<=p/\p<=400000000) (b:0<=q/\q<=400000000) (c: -400000000<=x/\x<=400000000) (d: -400000000<=y/\y<=400000000):
 IntKind.i64.wrap (IntKind.i64.wrap (p*x)+IntKind.i64.wrap (q*y))=p*x+q*y/\inI (p*x+q*y):=by
 have h1:(p*x).natAbs<=400000000*400000000:=by rw [Int.natAbs_mul];exact Nat.mul_le_mul (by omega) (by omega)
 have h2:(q*y).natAbs<=400000000*400000000:=by rw [Int.natAbs_mul];exact Nat.mul_le_mul (by omega) (by omega)
 generalize p*x=u at*
 generalize q*y=v at*
 rw [bn (n:=u) (by omega) (by omega),bn (n:=v) (by omega) (by omega),bn (by omega) (by omega)]
 exact ⟨rfl,by unfold inI;omega⟩
theorem uj {p q:Int} (a:0<=p/\p<=400000000) (b:0<=q/\q<=400000000) {xs ys:List Int} (c: ∀x∈xs, -400000000<=x/\x<=400000000) (d: ∀x∈ys, -400000000<=x/\x<=400000000): ∀z∈qu p q xs ys,inI z:=by
 intro z e
 obtain ⟨⟨x,y⟩,hm,rfl⟩:=List.mem_map.1 e
 obtain ⟨h1,h2⟩:=List.of_mem_zip hm
 exact (iP a b (c x h1) (d y h2)).2
theorem dz {p q:Int} {xs ys:List Int} (h:xs.length=ys.length):(qu p q xs ys).length=xs.length:=by simp [qu,h]
theorem qNM (N:Nat) (p q:Int) (m:0<=p/\p<=400000000) (o:0<=q/\q<=400000000) (xs ys:Zb) (c:Int) (s:Bool) (f:Int) (h:Bool) (d:Int) (e:Bool) (K:Zb->ZO [i68,i4]) (j:xs.length<=1048576) (t:xs.length=ys.length)
 (r: ∀x∈(xs:List Int), -400000000<=x/\x<=400000000) (u: ∀x∈(ys:List Int), -400000000<=x/\x<=400000000) (n:Nat) (l:xs.length<n):
 iN N p q xs.length xs c s ys f h d e K n 0 (List.replicate xs.length (qa Zd))=K (qu p q xs ys):=by
 have hm:=dz (p:=p) (q:=q) t
 have:=jY (xs:=(qu p q xs ys:Zb)) (F:=fun n i v=>iN N p q xs.length xs c s ys f h d e K n i v) (k:=K) (qa Zd) (by rw [hm];exact j) (fun n i v a b=> ?_) (fun n i v a=> ?_) n (by rw [hm];exact l)
 ·rw [hm]at this;exact this
 ·have a:i<xs.length:=by rw [hm]at a;exact a
  have b:v.length=xs.length:=by rw [hm]at b;exact b
  have g:i<ys.length:=by omega
  rw [iN,qg (by omega),qc (by omega),qc (by omega),qc (by omega),qc (by simp;omega),qB a,qB g,(iP m o (r _ (List.getElem_mem a)) (u _ (List.getElem_mem g))).1]
  have e:(qu p q xs ys)[i]=p*xs[i]+q*ys[i]:=by simp [qu]
  simp only [e,Int.toNat_natCast]
 ·have a:xs.length<=i:=by rw [hm]at a;exact a
  rw [iN,qf (by omega)]
theorem qSw (N:Nat) (p q:Int) (l:0<=p/\p<=400000000) (m:0<=q/\q<=400000000) (xs ys:Zb) (c:Int) (s:Bool) (a:Int) (h:Bool) (d:Int) (e:Bool) (K:Zb->ZO [i68,i4]) (u:xs.length<=1048576) (r:xs.length=ys.length)
 (o: ∀x∈(xs:List Int), -400000000<=x/\x<=400000000) (t: ∀x∈(ys:List Int), -400000000<=x/\x<=400000000) (n:Nat) (w:xs.length<n):
 iO N p q xs c s ys a h d e K n 0 []=K (qu p q xs ys):=by
 have y:(List.zip (α:=Int) (β:=Int) xs ys).length=xs.length:=by simp [r]
 refine (bp (xs:=List.zip (α:=Int) (β:=Int) xs ys) (F:=fun n i v=>iO N p q xs c s ys a h d e K n i v) (step:=fun _ z (v:Zb) K=>chk (v.length+[p*z.1+q*z.2].length<=1048576) (K (v++[p*z.1+q*z.2]))) (k:=K) (by omega) (fun n i v j=> ?_) (fun n i v j=> ?_) n _ (by omega)).trans ((iG (f:=fun (z:Int×Int)=>p*z.1+q*z.2) (k:=K) (List.zip (α:=Int) (β:=Int) xs ys) 0 [] (by simp;omega)).trans ?_)
 ·have b:i<xs.length:=by omega
  have g:i<ys.length:=by omega
  rw [iO,qg (by omega),qc (by omega),qc (by omega),qB b,qB g,(iP l m (o _ (List.getElem_mem b)) (t _ (List.getElem_mem g))).1]
  simp only [List.getElem_zip]
 ·rw [iO,qf (by omega)]
 ·rw [List.nil_append];rfl
theorem gq {x a b:Int} (h:a<=x/\x<=b):inR x a b=true:=decide_eq_true h
theorem gu {x a b:Int} (h: ¬(a<=x/\x<=b)):inR x a b=false:=decide_eq_false h
theorem fH {a:Zf} (h:qy a=true): ∀x∈(a.1:List Int), @LE.le Int _ (-400000000) x/\ @LE.le Int _ x 400000000:=(ch h).2.2
theorem MV {p q:Int} (e:0<=p/\p<=400000000) (f:0<=q/\q<=400000000) {a b:Zf} (c:qy a=true) (d:qy b=true) (g:List.length (α:=Int) a.1=List.length (α:=Int) b.1) (s:Bool):
 IntKind.i64.wrap (IntKind.i64.wrap (p*(a.2.1:Int))+IntKind.i64.wrap (q*(b.2.1:Int)))=p*a.2.1+q*b.2.1/\bx (qu p q a.1 b.1) (p*a.2.1+q*b.2.1) s:=by
 obtain ⟨h1,h2⟩:=iP e f (fg c) (fg d)
 have h:=(ch c).1
 have hm:=dz (p:=p) (q:=q) g
 exact ⟨h1,⟨by have:(qu p q a.1 b.1).length<=1048576:=by omega
               exact this,h2,uj e f (fH c) (fH d)⟩⟩
theorem q2E (a:Zf) (p:Int) (b:Zf) (q:Int): ∃N,ud N a p b q=some ((bt a p b q).1,(bt a p b q).2,()):=⟨List.length (α:=Int) a.1+1,by
 rw [ud]
 unfold bt
 cases g:qy a with
 | false=>rfl
 | true=>
 cases i:qy b with
 | false=>rfl
 | true=>
 by_cases c:List.length (α:=Int) a.1=List.length (α:=Int) b.1
 ·have d:((List.length (α:=Zc) a.1:Int)=(List.length (α:=Zc) b.1:Int)):=congrArg Int.ofNat c
  by_cases e:0<=p/\p<=400000000
  ·by_cases f:0<=q/\q<=400000000
   ·rw [gq e,gq f,decide_eq_true c,decide_eq_true d,qf (show ¬p<0 by omega),qf (show ¬400000000<p by omega),qf (show ¬q<0 by omega),qf (show ¬400000000<q by omega)]
    simp only [Bool.not_true,cond_false,cond_true,Bool.and_self]
    have n:=(ch g).1
    rw [qc (jZ (by omega)),Int.toNat_natCast,List.length_replicate,qNM _ p q e f a.1 b.1 _ _ _ _ _ _ _ (by omega) c (fH g) (fH i) _ (Nat.lt_succ_self _)]
    have hw:=fun s=>MV e f g i c s
    rw [(hw true).1,qc (hw true).2,qc (hw false).2,qc (hw _).2]
    have l:(!decide (p=0))=decide (0<p):=by by_cases h:p=0<;>simp [h]<;>omega
    have m:(!decide (q=0))=decide (0<q):=by by_cases h:q=0<;>simp [h]<;>omega
    try rw [l]
    try rw [m]
    cases a.2.2<;>cases b.2.2<;>cases decide (0<p)<;>cases decide (0<q)<;>rfl
   ·rw [gu f,decide_eq_true d,qf (show ¬p<0 by omega),qf (show ¬400000000<p by omega)]
    simp only [Bool.not_true,cond_false,Bool.and_false]
    by_cases k:q<0
    ·rw [qg k]
    ·rw [qf k,qg (show 400000000<q by omega)]
  ·rw [gu e,decide_eq_true d]
   simp only [Bool.not_true,cond_false,Bool.and_false,Bool.false_and]
   by_cases j:p<0
   ·rw [qg j]
   ·rw [qf j,qg (show 400000000<p by omega)]
 ·have d: ¬((List.length (α:=Zc) a.1:Int)=(List.length (α:=Zc) b.1:Int)):=fun h=>c (Int.ofNat.inj h)
  rw [decide_eq_false c,decide_eq_false d]
  rfl⟩
theorem qZb:Sound Tryz.prog 129 ub:=qo (tt:=tt) (Γ:=oz) hT (qe s80 (qe s91 ql)) hm (fn:=Tryz.f129) Tryz.func129 (c:=Tryz.f129.body.getD .skip) (by kernel_rfl) (by kernel_rfl) fun x a=>by
 obtain ⟨N,h⟩:=q2E x.1 x.2.1 x.2.2.1 x.2.2.2.1
 exact ⟨oA N,qR0,qp _,qRD N,(qXR N x.1 x.2.1 x.2.2.1 x.2.2.2.1).trans h⟩
theorem qSx (a:Zf) (p:Int) (b:Zf) (q:Int) (h:ua a p b q): ∃N,ug N a p b q=some ((bt a p b q).1,(bt a p b q).2,()):=⟨List.length (α:=Int) a.1+1,by
 rw [ug]
 unfold bt
 cases g:qy a with
 | false=>rfl
 | true=>
 cases i:qy b with
 | false=>rfl
 | true=>
 by_cases c:List.length (α:=Int) a.1=List.length (α:=Int) b.1
 ·have d:((List.length (α:=Zc) a.1:Int)=(List.length (α:=Zc) b.1:Int)):=congrArg Int.ofNat c
  by_cases e:0<=p/\p<=400000000
  ·by_cases f:0<=q/\q<=400000000
   ·rw [gq e,gq f,decide_eq_true c,decide_eq_true d]
    simp only [Bool.not_true,cond_false,cond_true,Bool.and_self]
    have j:=(ch g).1
    rw [qSw _ p q e f a.1 b.1 _ _ _ _ _ _ _ (by omega) c (fH g) (fH i) _ (Nat.lt_succ_self _)]
    have hw:=fun s=>MV e f g i c s
    rw [(hw true).1,qc (hw true).2,qc (hw false).2,qc (hw _).2]
    cases a.2.2<;>cases b.2.2<;>cases decide (0<p)<;>cases decide (0<q)<;>rfl
   ·rw [gu f,gq e,decide_eq_true d]
    simp only [Bool.not_true,Bool.not_false,cond_false,cond_true,Bool.and_false]
  ·rw [gu e,decide_eq_true d]
   simp only [Bool.not_true,Bool.not_false,cond_false,cond_true,Bool.and_false,Bool.false_and]
 ·have d: ¬((List.length (α:=Zc) a.1:Int)=(List.length (α:=Zc) b.1:Int)):=fun h=>c (Int.ofNat.inj h)
  rw [decide_eq_false c,decide_eq_false d]
  rfl⟩
theorem q01:Sound Tryz.prog 104 uc:=qo (tt:=tt) (Γ:=mq) hT (qe s61 (qe s62 (qe s65 ql))) hm (fn:=Tryz.f104) Tryz.func104 (c:=Tryz.f104.body.getD .skip) (by kernel_rfl) (by kernel_rfl) fun x a=>by
 obtain ⟨N,h⟩:=qSx x.1 x.2.1 x.2.2.1 x.2.2.2.1 a
 exact ⟨oB N,q1D,qp _,qTw N,(q25 N x.1 x.2.1 x.2.2.1 x.2.2.2.1).trans h⟩
end
end Go.T
