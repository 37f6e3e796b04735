import Derived.Test.YtllelgnepalfjaaGreatE22
set_option linter.unusedSimpArgs false
set_option linter.unusedVariables false
namespace Go.T
noncomputable section
open Go Go.Proofs
set_option maxHeartbeats 4000000
set_option maxRecDepth 100000
def g97:G:={ps:=[i28,i28],rs:=[i28],dp:=true,pre:=fun _=>True,fn:=fun x=>(cp x.1 x.2.1,())}
def g78:G:={ps:=[i28,i28],rs:=[i28],dp:=true,pre:=fun _=>True,fn:=fun x=>(cp x.1 x.2.1,())}
def m97 (N:Nat) (a b:Zh):ZO [i28]:=bif (!((qh a):Bool))then (some (((0:Int),(0:Int)),()))else (bif (!((qh b):Bool))then (some (((0:Int),(0:Int)),()))else (chk (dn (IntKind.i64.wrap ((a.1:Int)*(b.1:Int))) (IntKind.i64.wrap ((a.2:Int)*(b.2:Int)))) (some ((qT (IntKind.i64.wrap ((a.1:Int)*(b.1:Int))) (IntKind.i64.wrap ((a.2:Int)*(b.2:Int)))),()))))
def Γ97:Gam:=[(55,g55),(117,gA)]
theorem qZq:Gam.get Γ97 55=some g55/\Gam.get Γ97 117=some gA:=⟨rfl,rfl⟩
theorem p97:qi tr0 (Tryz.f97.body.getD .skip)=true:=by kernel_rfl
def T97 (N:Nat):Tab:={tr:=tr0,lp:=lp0,ex:=ex0,rg:=rg0,jn:=jn0,fuel:=N}
theorem qY1 (N:Nat):qj Tryz.prog (T97 N):=qn fun _=>rfl
theorem qS3 (N:Nat):qr (T97 N) tr0 lp0 ex0 rg0 jn0 N false:=qt
theorem qW9 (N:Nat) (a b:Zh):qd tt Γ97 (T97 N) (Tryz.f97.body.getD .skip) (qk tt true [i28] [.cell 4 28]) (qm [i28,i28] 25 (a,b,()))=m97 N a b:=by
 rw [m97];unfold Tryz.f97
 simp -implicitDefEqProofs [qS3,qZq,g55,gA]
 try rfl
def m78 (N:Nat) (a b:Zh):ZO [i28]:=bif (!((qh a):Bool))then (some (((0:Int),(0:Int)),()))else (bif (!((qh b):Bool))then (some (((0:Int),(0:Int)),()))else (chk (dn (IntKind.i64.wrap ((a.1:Int)*(b.1:Int))) (IntKind.i64.wrap ((a.2:Int)*(b.2:Int)))) (some ((qT (IntKind.i64.wrap ((a.1:Int)*(b.1:Int))) (IntKind.i64.wrap ((a.2:Int)*(b.2:Int)))),()))))
def Γ78:Gam:=[(43,g43),(108,gz)]
theorem qZx:Gam.get Γ78 43=some g43/\Gam.get Γ78 108=some gz:=⟨rfl,rfl⟩
theorem p78:qi tr0 (Tryz.f78.body.getD .skip)=true:=by kernel_rfl
def T78 (N:Nat):Tab:={tr:=tr0,lp:=lp0,ex:=ex0,rg:=rg0,jn:=jn0,fuel:=N}
theorem qZg (N:Nat):qj Tryz.prog (T78 N):=qn fun _=>rfl
theorem qTN (N:Nat):qr (T78 N) tr0 lp0 ex0 rg0 jn0 N false:=qt
theorem qZi (N:Nat) (a b:Zh):qd tt Γ78 (T78 N) (Tryz.f78.body.getD .skip) (qk tt true [i28] [.cell 4 28]) (qm [i28,i28] 25 (a,b,()))=m78 N a b:=by
 rw [m78];unfold Tryz.f78
 simp -implicitDefEqProofs [qTN,qZx,g43,gz]
 try rfl
theorem OY {a b:Zh} (c:qh a=true) (d:qh b=true):IntKind.i64.wrap ((a.1:Int)*(b.1:Int))=(a.1:Int)*b.1/\IntKind.i64.wrap ((a.2:Int)*(b.2:Int))=(a.2:Int)*b.2/\dn ((a.1:Int)*b.1) ((a.2:Int)*b.2):=by
 have m1:=hy (cI c).1 (cI d).1
 have m3:=hy (fj c) (fj d)
 rw [hz (cI c).1 (cI d).1,hz (fj c) (fj d)]
 unfold dn inI
 generalize (a.1:Int)*b.1=x at*
 generalize (a.2:Int)*b.2=z at*
 exact ⟨rfl,rfl,⟨by omega,by omega⟩,⟨by omega,by omega⟩⟩
theorem e97 (a b:Zh): ∃N,m97 N a b=some (cp a b,()):=⟨0,by
 rw [m97]
 unfold cp
 cases e:qh a with
 | false=>rfl
 | true=>
   cases f:qh b with
   | false=>rfl
   | true=>
     simp only [Bool.not_true,cond_false,Bool.and_self,cond_true]
     obtain ⟨c,d,g⟩:=OY e f
     rw [c,d]
     exact qc g⟩
theorem s97:Sound Tryz.prog 97 g97:=qo (tt:=tt) (Γ:=Γ97) hT (qe s55 (qe B5 ql)) hm (fn:=Tryz.f97) Tryz.func97 (c:=Tryz.f97.body.getD .skip) (by kernel_rfl) (by kernel_rfl) fun x a=>by
 obtain ⟨N,h⟩:=e97 x.1 x.2.1
 exact ⟨T97 N,p97,qp _,qY1 N,(qW9 N x.1 x.2.1).trans h⟩
theorem e78 (a b:Zh): ∃N,m78 N a b=some (cp a b,()):=⟨0,by
 rw [m78]
 unfold cp
 cases e:qh a with
 | false=>rfl
 | true=>
   cases f:qh b with
   | false=>rfl
   | true=>
     simp only [Bool.not_true,cond_false,Bool.and_self,cond_true]
     obtain ⟨c,d,g⟩:=OY e f
     rw [c,d]
     exact qc g⟩
theorem s78:Sound Tryz.prog 78 g78:=qo (tt:=tt) (Γ:=Γ78) hT (qe s43 (qe B7 ql)) hm (fn:=Tryz.f78) Tryz.func78 (c:=Tryz.f78.body.getD .skip) (by kernel_rfl) (by kernel_rfl) fun x a=>by
 obtain ⟨N,h⟩:=e78 x.1 x.2.1
 exact ⟨T78 N,p78,qp _,qZg N,(qZi N x.1 x.2.1).trans h⟩
def g87:G:={ps:=[i60],rs:=[i28],dp:=true,pre:=fun _=>True,fn:=fun x=>(bG x.1,())}
def g71:G:={ps:=[i60],rs:=[i28],dp:=true,pre:=fun _=>True,fn:=fun x=>(bG x.1,())}
def m87 (N:Nat) (a:Zk):ZO [i28]:=bif (a.1:Bool)then (bif (a.2.2.2.1:Bool)then (some ((cp (bF a.2.1 a.2.2.2.2.1) ((1:Int),(2:Int))),()))else (bif (a.1:Bool)then (some ((bF a.2.1 ((1:Int),(1:Int))),()))else (bif (a.2.2.2.1:Bool)then (some ((oT a.2.2.2.2.1 ((1:Int),(1:Int))),()))else (some (((0:Int),(1:Int)),())))))else (bif (a.1:Bool)then (some ((bF a.2.1 ((1:Int),(1:Int))),()))else (bif (a.2.2.2.1:Bool)then (some ((oT a.2.2.2.2.1 ((1:Int),(1:Int))),()))else (some (((0:Int),(1:Int)),()))))
def Γ87:Gam:=[(96,g96),(97,g97),(116,vj)]
theorem qNw:Gam.get Γ87 96=some g96/\Gam.get Γ87 97=some g97/\Gam.get Γ87 116=some vj:=⟨rfl,rfl,rfl⟩
theorem p87:qi tr0 (Tryz.f87.body.getD .skip)=true:=by kernel_rfl
def T87 (N:Nat):Tab:={tr:=tr0,lp:=lp0,ex:=ex0,rg:=rg0,jn:=jn0,fuel:=N}
theorem qQ9 (N:Nat):qj Tryz.prog (T87 N):=qn fun _=>rfl
theorem qR9 (N:Nat):qr (T87 N) tr0 lp0 ex0 rg0 jn0 N false:=qt
theorem qW7 (N:Nat) (a:Zk):qd tt Γ87 (T87 N) (Tryz.f87.body.getD .skip) (qk tt true [i28] [.cell 2 28]) (qm [i60] 34 (a,()))=m87 N a:=by
 rw [m87];unfold Tryz.f87
 simp -implicitDefEqProofs [qR9,qNw,g96,g97,vj]
 try rfl
def m71 (N:Nat) (a:Zk):ZO [i28]:=bif (a.1:Bool)then (bif (a.2.2.2.1:Bool)then (some ((cp (bF a.2.1 a.2.2.2.2.1) ((1:Int),(2:Int))),()))else (bif (a.1:Bool)then (some ((bF a.2.1 (cm (1:Int))),()))else (bif (a.2.2.2.1:Bool)then (some ((bF a.2.2.2.2.1 (cm (-1:Int))),()))else (some ((cm (0:Int)),())))))else (bif (a.1:Bool)then (some ((bF a.2.1 (cm (1:Int))),()))else (bif (a.2.2.2.1:Bool)then (some ((bF a.2.2.2.2.1 (cm (-1:Int))),()))else (some ((cm (0:Int)),()))))
def Γ71:Gam:=[(74,g74),(77,g77),(78,g78)]
theorem q1J:Gam.get Γ71 74=some g74/\Gam.get Γ71 77=some g77/\Gam.get Γ71 78=some g78:=⟨rfl,rfl,rfl⟩
def Du:List Bool:=[O,O,I]
def OZ:Nm:=⟨Du,[],false⟩
theorem qVG:NmS OZ Du [] false:=nmS
def Dv:List Bool:=[O,O,I]
def O0:Nm:=⟨Dv,[],false⟩
theorem qYb:NmS O0 Dv [] false:=nmS
def vx:Nat->Tree:=fun i=>if i=4 then .alt 0 (.alt 1 (.alt 2 (.alt 3 (.alt 4 .done .stop) .stop) .stop) (.alt 2 (.quiet 1 (.alt 3 (.alt 4 .done .stop) .stop)) .stop)) (.alt 2 (.quiet 0 (.quiet 1 (.alt 3 (.alt 4 .done .stop) .stop))) .stop)else if i=6 then .alt 0 (.alt 1 (.alt 2 (.alt 3 (.alt 4 .done .stop) .stop) .stop) (.alt 2 (.quiet 1 (.alt 3 (.alt 4 .done .stop) .stop)) .stop)) (.alt 2 (.quiet 0 (.quiet 1 (.alt 3 (.alt 4 .done .stop) .stop))) .stop)else .done
def Dw:Nat->Option Nm:=fun i=>if i=4 then some OZ else if i=6 then some O0 else none
theorem p71:qi vx (Tryz.f71.body.getD .skip)=true:=by kernel_rfl
def T71 (N:Nat):Tab:={tr:=vx,lp:=lp0,ex:=ex0,rg:=Dw,jn:=jn0,fuel:=N}
theorem qPa (N:Nat):qj Tryz.prog (T71 N):=qn fun _=>rfl
theorem qOG (N:Nat):qr (T71 N) vx lp0 ex0 Dw jn0 N false:=qt
theorem qV7 (N:Nat) (a:Zk):qd tt Γ71 (T71 N) (Tryz.f71.body.getD .skip) (qk tt true [i28] [.cell 2 28]) (qm [i60] 32 (a,()))=m71 N a:=by
 rw [m71];unfold Tryz.f71
 simp -implicitDefEqProofs [qOG,vx,Dw,qVG,Du,qYb,Dv,q1J,g74,g77,g78]
 try rfl
theorem q3y (r:Zh):oT r ((1:Int),(1:Int))=bF r ((-1:Int),(1:Int)):=rfl
theorem e87 (b:Zk): ∃N,m87 N b=some (bG b,()):=⟨0,by
 rw [m87,q3y]
 unfold bG
 cases b.1<;>cases b.2.2.2.1<;>rfl⟩
theorem s87:Sound Tryz.prog 87 g87:=qo (tt:=tt) (Γ:=Γ87) hT (qe s96 (qe s97 (qe qVK ql))) hm (fn:=Tryz.f87) Tryz.func87 (c:=Tryz.f87.body.getD .skip) (by kernel_rfl) (by kernel_rfl) fun x a=>by
 obtain ⟨N,h⟩:=e87 x.1
 exact ⟨T87 N,p87,qp _,qQ9 N,(qW7 N x.1).trans h⟩
theorem e71 (b:Zk): ∃N,m71 N b=some (bG b,()):=⟨0,by
 rw [m71]
 unfold bG
 cases b.1<;>cases b.2.2.2.1<;>rfl⟩
theorem s71:Sound Tryz.prog 71 g71:=qo (tt:=tt) (Γ:=Γ71) hT (qe s74 (qe s77 (qe s78 ql))) hm (fn:=Tryz.f71) Tryz.func71 (c:=Tryz.f71.body.getD .skip) (by kernel_rfl) (by kernel_rfl) fun x a=>by
 obtain ⟨N,h⟩:=e71 x.1
 exact ⟨T71 N,p71,qp _,qPa N,(qV7 N x.1).trans h⟩
def iZ (c:Zj):Prop:=b8 c
def g48:G:={ps:=[i35],rs:=[i29,i3],dp:=true,pre:=fun _=>True,fn:=fun x=>((q4 x.1).1,(q4 x.1).2,())}
def ky (N:Nat) (g c h i f j:Int) (k:Ze) (l:Zi) (m:Zg) (o d e:Int) (k4:(Ze)->ZO [i29,i3]):Nat->Int->(Ze)->ZO [i29,i3]
 | 0,_,_=>none
 | n+1,a,b=>bif (decide (a<f))then (chk (0<=a/\a<(b.length:Int)) (chk (a.toNat<b.length) (bif (!((bL (b.getD a.toNat (qa Y68)) c (d,e)).2:Bool))then (some (([]:Zg),(2:Int),()))else (chk (0<=a/\a<(b.length:Int)) (chk (a.toNat<b.length) (ky N g c h i f j k l m o d e k4 n (IntKind.i64.wrap (a+(1:Int))) (b.set a.toNat ((bL (b.getD a.toNat (qa Y68)) c (d,e)).1))))))))else (k4 b)
def hD (N:Nat) (e c f:Int) (g:Ze) (h:Zi) (b:Zg) (i:Int) (k2:(Ze)->ZO [i29,i3]):Nat->Int->(Ze)->ZO [i29,i3]
 | 0,_,_=>none
 | n+1,a,d=>bif (decide (a<c))then (chk (0<=a/\a<(b.length:Int)) (chk (a.toNat<b.length) (ky N e a c a (d.length:Int) f g h b i ((b.getD a.toNat (qa Y28)).1:Int) ((b.getD a.toNat (qa Y28)).2:Int) (fun (j:Ze)=>hD N e c f g h b i k2 n (IntKind.i64.wrap (a+(1:Int))) j) N (0:Int) d)))else (k2 d)
def hE (N:Nat) (e:Int) (f:Ze) (b:Zi) (k0:(Zg)->ZO [i29,i3]):Nat->Int->(Zg)->ZO [i29,i3]
 | 0,_,_=>none
 | n+1,a,c=>bif (decide (a<e))then (chk (0<=(IntKind.i64.wrap (a+(1:Int)))/\(IntKind.i64.wrap (a+(1:Int)))<(b.length:Int)) (chk ((IntKind.i64.wrap (a+(1:Int))).toNat<b.length) (chk (fM (b.getD ((IntKind.i64.wrap (a+(1:Int))).toNat) (qa Y35))) (hD N a (c.length:Int) e f b c ((cpC (b.getD ((IntKind.i64.wrap (a+(1:Int))).toNat) (qa Y35))).1:Int) (fun (d:Ze)=>chk (hC (((cpC (b.getD ((IntKind.i64.wrap (a+(1:Int))).toNat) (qa Y35))).1:Int),d) a) (bif (!((qh (bG (qO (((cpC (b.getD ((IntKind.i64.wrap (a+(1:Int))).toNat) (qa Y35))).1:Int),d) a))):Bool))then (some (([]:Zg),(2:Int),()))else (chk (c.length+([(bG (qO (((cpC (b.getD ((IntKind.i64.wrap (a+(1:Int))).toNat) (qa Y35))).1:Int),d) a))]:Zg).length<=1048576) (hE N e f b k0 n (IntKind.i64.wrap (a+(1:Int))) (c++([(bG (qO (((cpC (b.getD ((IntKind.i64.wrap (a+(1:Int))).toNat) (qa Y35))).1:Int),d) a))]:Zg)))))) N (0:Int) ((cpC (b.getD ((IntKind.i64.wrap (a+(1:Int))).toNat) (qa Y35))).2:Ze)))))else (k0 c)
def m48 (N:Nat) (a:Zj):ZO [i29,i3]:=bif (!((fL a).2:Bool))then (some (([]:Zg),(2:Int),()))else (chk (0<=(0:Int)/\(0:Int)<(((fL a).1:Zi).length:Int)) (chk ((0:Int).toNat<((fL a).1:Zi).length) (bif (decide ((0:Int)<(((((fL a).1:Zi).getD ((0:Int).toNat) (qa Y35)).2:Ze).length:Int)))then (some (([]:Zg),(1:Int),()))else (hE N (a.1:Int) (a.2:Ze) ((fL a).1:Zi) (fun (b:Zg)=>some (b,(0:Int),())) N (0:Int) ([]:Zg)))))
def Γ48:Gam:=[(55,g55),(84,g84),(85,g85),(86,g86),(87,g87),(88,g88)]
theorem vy:Gam.get Γ48 55=some g55/\Gam.get Γ48 84=some g84/\Gam.get Γ48 85=some g85/\Gam.get Γ48 86=some g86/\Gam.get Γ48 87=some g87/\Gam.get Γ48 88=some g88:=⟨rfl,rfl,rfl,rfl,rfl,rfl⟩
def vz:List Bool:=[O,I,O,O,I,O,I,I,I,I,I,O,O,O,O,O,O,O,O,O,O,O,O,O,O,O,O,O,O,O,O,O,O,O,O,O,O,O,O,O,O,O,I,I,I,O,O,O,O,O,I,I,I]
def Dx:Nm:=⟨vz,[],false⟩
theorem O1:NmS Dx vz [] false:=nmS
def vA:List Bool:=[O,I,O,O,I,O,I,I,I,O,O,O,O,O,O,O,O,O,O,O,O,O,O,O,O,O,O,O,O,O,O,O,O,O,O,O,O,O,O,O,O,O,I,I,I]
def Dy:Nm:=⟨vA,[],false⟩
theorem O2:NmS Dy vA [] false:=nmS
def vB:List Bool:=[O,I,O,O,I,O,I,I]
def Dz:Nm:=⟨vB,[],false⟩
theorem O3:NmS Dz vB [] false:=nmS
def DA:List Bool:=[O,O,O,O,O,O,I]
def O4:Nm:=⟨DA,[],false⟩
theorem qYL:NmS O4 DA [] false:=nmS
def DB:List Bool:=[O,I,O,O,I,O,I,I,I]
def O5:Nm:=⟨DB,[],false⟩
theorem qX0:NmS O5 DB [] false:=nmS
def DC:List Bool:=[O,I,O,O,I,O,I,I,I,O,O,O,O,O,O,O,O,O,O,O,O,O,O,O,O,O,O,O,O,O,O,O,O,O,O,O,O,O,O,O,O,O,I,I,I]
def O6:Nm:=⟨DC,[],false⟩
theorem qYD:NmS O6 DC [] false:=nmS
def o4:Nat->Nm:=fun i=>if i=15 then Dx else if i=12 then Dy else if i=8 then Dz else ⟨[],[],false⟩
def o5:Nat->Option Nm:=fun i=>if i=0 then some O4 else if i=2 then some O5 else if i=4 then some O6 else none
theorem p48:qi tr0 (Tryz.f48.body.getD .skip)=true:=by kernel_rfl
def T48 (N:Nat):Tab:={tr:=tr0,lp:=o4,ex:=o5,rg:=rg0,jn:=jn0,fuel:=N}
theorem qN9 (N:Nat):qj Tryz.prog (T48 N):=qn fun _=>rfl
theorem kz (N:Nat):qr (T48 N) tr0 o4 o5 rg0 jn0 N false:=qt
def O7:Code:=cut [I,I,I,I,I,O,I,I,I,I,O,I,I,O,I,I,I,I,I,O,I,I,I,I,I] (Tryz.f48.body.getD .skip)
theorem qTC (N:Nat) (a l b d m f:Int) (g:Ze) (h:Zi) (i:Zg) (j o p:Int) {k4:(Ze)->ZO [i29,i3]} {Q:ZQ [i29,i3]} {c:Code} (s:c=O7) (t: ∀st,Q .ret st=qz tt true [i29,i3] [.tmp 2,.tmp 3] st) (r: ∀(q:Ze),Q (.exit 4) ⟨[u,.one (.ptr 0 0 0),u,u,.one (.own 1),u,.one (.own 2),.one (.int .i64 a),.one (.ptr 3 0 0),u,u,u,u,u,u,u,u,u,u,u,u,u,u,u,u,u,u,u,u,u,u,u,u,u,u,u,u,u,u,u,u,u,.one (.own 2),.one (.int .i64 b),.one (.int .i64 d),u,u,u,u,u,u,u,u,u,u,u,u,u,u,u,u,u,u,u,u,u,u,u,u,u,u,u,u,u,u,u,u,u,u,u,u,u,u,u,u],[.box [.int .i64 f,.sl 68 Y68 g 5],.row 35 Y35 h true true 0,.row 28 Y28 i true true 0,.box [.int .i64 j,.own 4],.row 68 Y68 q true true 0]⟩=k4 q): ∀(n:Nat) (e:Int) (k:Ze),qw (qd tt Γ48 (T48 N) c) false Dx Q n ⟨[u,.one (.ptr 0 0 0),u,u,.one (.own 1),u,.one (.own 2),.one (.int .i64 a),.one (.ptr 3 0 0),.one (.int .i64 l),.one (.ptr 4 0 0),u,u,u,u,u,u,u,u,u,u,u,u,u,u,u,u,u,u,u,u,u,u,u,u,u,u,u,u,u,u,u,.one (.own 2),.one (.int .i64 b),.one (.int .i64 d),u,u,u,u,u,.one (.own 5),.one (.int .i64 m),.one (.int .i64 e),u,u,u,u,u,u,u,u,u,u,u,u,u,u,u,u,u,u,u,u,u,u,u,u,u,u,u,u,u,u,u,u],[.box [.int .i64 f,.sl 68 Y68 g 6],.row 35 Y35 h true true 0,.row 28 Y28 i true true 0,.box [.int .i64 j,.own 5],.box [.int .i64 o,.int .i64 p],.row 68 Y68 k true true 0]⟩=ky N a l b d m f g h i j o p k4 n e k:=by
 intro n;induction n with
 | zero=>intros;rfl
 | succ n v=>
   intro e k
   rw [qD,qE s,ky];unfold O7 Tryz.f48
   simp -implicitDefEqProofs [kz,o5,O1,vz,qYD,DC,vy,g86,t,r,v]
def O8:Code:=cut [I,I,I,I,I,O,I,I,I,I,O,I,I,O,I,I,I] (Tryz.f48.body.getD .skip)
theorem qTq (N:Nat) (a i d:Int) (e:Ze) (f:Zi) (g:Zg) (h:Int) {k2:(Ze)->ZO [i29,i3]} {Q:ZQ [i29,i3]} {c:Code} (o:c=O8) (p: ∀st,Q .ret st=qz tt true [i29,i3] [.tmp 2,.tmp 3] st) (h2: ∀(m:Ze),Q (.exit 2) ⟨[u,.one (.ptr 0 0 0),u,u,.one (.own 1),u,.one (.own 2),.one (.int .i64 a),.one (.ptr 3 0 0),u,u,u,u,u,u,u,u,u,u,u,u,u,u,u,u,u,u,u,u,u,u,u,u,u,u,u,u,u,u,u,u,u,u,u,u,u,u,u,u,u,u,u,u,u,u,u,u,u,u,u,u,u,u,u,u,u,u,u,u,u,u,u,u,u,u,u,u,u,u,u,u,u,u,u,u],[.box [.int .i64 d,.sl 68 Y68 e 5],.row 35 Y35 f true true 0,.row 28 Y28 g true true 0,.box [.int .i64 h,.own 4],.row 68 Y68 m true true 0]⟩=k2 m): ∀(n:Nat) (b:Int) (j:Ze),qw (qd tt Γ48 (T48 N) c) false Dy Q n ⟨[u,.one (.ptr 0 0 0),u,u,.one (.own 1),u,.one (.own 2),.one (.int .i64 a),.one (.ptr 3 0 0),u,u,u,u,u,u,u,u,u,u,u,u,u,u,u,u,u,u,u,u,u,u,u,u,u,u,u,u,u,u,u,u,u,.one (.own 2),.one (.int .i64 i),.one (.int .i64 b),u,u,u,u,u,u,u,u,u,u,u,u,u,u,u,u,u,u,u,u,u,u,u,u,u,u,u,u,u,u,u,u,u,u,u,u,u,u,u,u],[.box [.int .i64 d,.sl 68 Y68 e 5],.row 35 Y35 f true true 0,.row 28 Y28 g true true 0,.box [.int .i64 h,.own 4],.row 68 Y68 j true true 0]⟩=hD N a i d e f g h k2 n b j:=by
 intro n;induction n with
 | zero=>intros;rfl
 | succ n k=>
   intro b j
   rw [qD,qE o];unfold O8 Tryz.f48
   simp -implicitDefEqProofs [kz,o4,o5,O1,vz,qX0,DB,h2]
   rewrite [qTC (k4:=(fun (l:Ze)=>hD N a i d e f g h k2 n (IntKind.i64.wrap (b+(1:Int))) l)) N _ _ _ _ _ _ _ _ _ _ _ _ ?_ ?_ ?_]
   ·rewrite [hD];first | rfl | simp -implicitDefEqProofs [k]
   ·rfl
   ·intro;simp only [qA,qC,p]
   ·intro l;simp -implicitDefEqProofs [kz,O2,vA,k]
def O9:Code:=cut [I,I,I,I,I,O,I,I,I] (Tryz.f48.body.getD .skip)
theorem qSS (N:Nat) (f:Int) (g:Ze) (b:Zi) {k0:(Zg)->ZO [i29,i3]} {Q:ZQ [i29,i3]} {c:Code} (l:c=O9) (h: ∀st,Q .ret st=qz tt true [i29,i3] [.tmp 2,.tmp 3] st) (k: ∀(j:Zg),Q (.exit 0) ⟨[u,u,u,u,u,u,.one (.own 0),u,u,u,u,u,u,u,u,u,u,u,u,u,u,u,u,u,u,u,u,u,u,u,u,u,u,u,u,u,u,u,u,u,u,u,u,u,u,u,u,u,u,u,u,u,u,u,u,u,u,u,u,u,u,u,u,u,u,u,u,u,u,u,u,u,u,u,u,u,u,u,u,u,u,u,u,u,u],[.row 28 Y28 j true true 0]⟩=k0 j): ∀(n:Nat) (a:Int) (d:Zg),qw (qd tt Γ48 (T48 N) c) false Dz Q n ⟨[u,.one (.ptr 0 0 0),u,u,.one (.own 1),u,.one (.own 2),.one (.int .i64 a),u,u,u,u,u,u,u,u,u,u,u,u,u,u,u,u,u,u,u,u,u,u,u,u,u,u,u,u,u,u,u,u,u,u,u,u,u,u,u,u,u,u,u,u,u,u,u,u,u,u,u,u,u,u,u,u,u,u,u,u,u,u,u,u,u,u,u,u,u,u,u,u,u,u,u,u,u],[.box [.int .i64 f,.sl 68 Y68 g 3],.row 35 Y35 b true true 0,.row 28 Y28 d true true 0]⟩=hE N f g b k0 n a d:=by
 intro n;induction n with
 | zero=>intros;rfl
 | succ n i=>
   intro a d
   rw [qD,qE l];unfold O9 Tryz.f48
   simp -implicitDefEqProofs [kz,o4,o5,O2,vA,qYL,DA,vy,g85,k]
   rewrite [qTq (k2:=(fun (e:Ze)=>chk (hC (((cpC (b.getD ((IntKind.i64.wrap (a+(1:Int))).toNat) (qa Y35))).1:Int),e) a) (bif (!((qh (bG (qO (((cpC (b.getD ((IntKind.i64.wrap (a+(1:Int))).toNat) (qa Y35))).1:Int),e) a))):Bool))then (some (([]:Zg),(2:Int),()))else (chk (d.length+([(bG (qO (((cpC (b.getD ((IntKind.i64.wrap (a+(1:Int))).toNat) (qa Y35))).1:Int),e) a))]:Zg).length<=1048576) (hE N f g b k0 n (IntKind.i64.wrap (a+(1:Int))) (d++([(bG (qO (((cpC (b.getD ((IntKind.i64.wrap (a+(1:Int))).toNat) (qa Y35))).1:Int),e) a))]:Zg))))))) N _ _ _ _ _ _ _ ?_ ?_ ?_]
   ·rewrite [hE];first | rfl | simp -implicitDefEqProofs [i]
   ·rfl
   ·intro;simp only [qA,qC,h]
   ·intro e;simp -implicitDefEqProofs [kz,O3,vB,vy,g55,g87,g88,h,i]
theorem qZt (N:Nat) (a:Zj):qd tt Γ48 (T48 N) (Tryz.f48.body.getD .skip) (qk tt true [i29,i3] [.tmp 2,.tmp 3]) (qm [i35] 85 (a,()))=m48 N a:=by
 unfold Tryz.f48
 simp -implicitDefEqProofs [kz,o4,O3,vB,vy,g84]
 rewrite [qSS (k0:=(fun (b:Zg)=>some (b,(0:Int),()))) N _ _ _ ?_ ?_ ?_]
 ·rewrite [m48];first | rfl | simp -implicitDefEqProofs []
 ·rfl
 ·intro;simp only [qA,qC,qJ]
 ·intro b;simp -implicitDefEqProofs [kz]
abbrev hF:ZO [i29,i3]:=some (([]:Zg),(2:Int),())
theorem fm {α:Type} (pre:List α) (a:α) (l:List α) (d:α):(pre++a::l).getD pre.length d=a:=by simp [List.getD]
theorem mG {α:Type} (pre:List α) (a b:α) (l:List α):(pre++a::l).set pre.length b=pre++b::l:=by simp
theorem Pa (N:Nat) (c d e f:Int) (g:Ze) (i:Zi) (j:Zg) (k:Int) (w:Nat) (r:Zh) (K:Ze->ZO [i29,i3]) (m:Nat) (hm:m<=1048576): ∀(ys pre:Ze),pre.length+ys.length=m-> ∀n,ys.length<n->
 ky N c w d e m f g i j k r.1 r.2 K n pre.length (pre++ys)=match ep w r ys with
  | some l=>K (pre++l)
  | none=>hF
 | [],pre,h,n+1,_=>by
   simp only [List.length_nil]at h
   rw [ky,qf (by omega)]
   rfl
 | a::ys,pre,h,n+1,q=>by
   have t:(pre++a::ys).length=m:=by rw [List.length_append];exact h
   have h1:pre.length<m:=by simp only [List.length_cons]at h;omega
   have p:(((r.1:Int),(r.2:Int)):Zh)=r:=rfl
   rw [ky,qg (by omega),qc (by omega),qc (by omega),Int.toNat_natCast,fm,p,ep]
   cases s:(bL a w r).2 with
   | false=>rfl
   | true=>
     simp only [Bool.not_true,cond_false,cond_true]
     rw [qc (by omega),qc (by omega),mG,b3 h1 (by omega)]
     have b:=Pa N c d e f g i j k w r K m hm ys (pre++[(bL a w r).1]) (by simp only [List.length_append,List.length_cons,List.length_nil]at h ⊢;omega) n (by simp only [List.length_cons]at q;omega)
     have o:(((pre++[(bL a w r).1]).length:Nat):Int)=((pre.length+1:Nat):Int):=by simp
     rw [o,List.append_assoc]at b
     refine (show _=_ from b).trans ?_
     cases ep w r ys with
     | none=>rfl
     | some l=>simp
theorem Pb {w:Nat} {r:Zh}: ∀{l l':Ze},ep w r l=some l'->l'.length=l.length
 | [],l',h=>by simp only [ep,Option.some.injEq]at h;subst h;rfl
 | a::l,l',h=>by
   rw [ep]at h
   cases b:(bL a w r).2 with
   | false=>rw [b]at h;simp at h
   | true=>
     rw [b]at h
     cases hw:ep w r l with
     | none=>rw [hw]at h;simp at h
     | some c=>
       rw [hw]at h
       simp only [cond_true,Option.some.injEq]at h
       subst h
       simp [Pb hw]
theorem Pc (N:Nat) (a b:Int) (c:Ze) (d:Zi) (p:Zg) (e:Int) (K:Ze->ZO [i29,i3]) (j:p.length<=1048576) (m:Nat) (hm:m<N/\m<=1048576): ∀(k i:Nat),i+k=p.length-> ∀n,k<n-> ∀l:Ze,l.length=m->
 hD N a p.length b c d p e K n i l=match mF i (p.drop i) l with
  | some l'=>K l'
  | none=>hF
 | 0,i,h,n+1,_,l,_=>by
   rw [hD,qf (by omega),List.drop_eq_nil_of_le (by omega)]
   rfl
 | k+1,i,h,n+1,q,l,f=>by
   have h1:i<p.length:=by omega
   rw [hD,qg (by omega),qc (by omega),qc (by rw [Int.toNat_natCast];exact h1),qB h1,f]
   have t:=Pa N a p.length i b c d p e i p[i] (fun o=>hD N a p.length b c d p e K n (IntKind.i64.wrap ((i:Int)+(1:Int))) o) m hm.2 l [] (by simpa using f) N (by omega)
   simp only [List.nil_append,List.length_nil]at t
   refine (show _=_ from t).trans ?_
   rw [cL h1,mF]
   cases g:ep i p[i] l with
   | none=>rfl
   | some l'=>
     simp only
     rw [b3 h1 (by omega)]
     exact Pc N a b c d p e K j m hm k (i+1) (by omega) n (by omega) l' ((Pb g).trans f)
theorem Pd {d v:Int} {c:Zj} {p:Zg} {l:Ze} (i:okN d c) (g:0<=v/\v<d) (h:cW p c.2=some l):hC ((d,l):Zj) v:=by
 obtain ⟨c1,_,b⟩:=i
 obtain ⟨g1,g2,f⟩:=bB c1
 obtain ⟨f1,f2,_,_⟩:=Dj (d:=d) c.2 (fun a e=>⟨(f a e).1,(f a e).2.trans b⟩) h
 exact ⟨Nj (by show 0<=d/\d<=4;rw [<-b];exact g1) (by show l.length<=16;omega) f2,g.1,g.2⟩
theorem Pe (N:Nat) (o:20<=N) (d:Nat) (hd:d<=4) (e:Ze) (L:Zi) (m:L.length=d+1) (h: ∀i (C:i<L.length),okN d L[i]) (K:Zg->ZO [i29,i3]): ∀(k v:Nat),v+k=d-> ∀n,k<n-> ∀p:Zg,p.length=v->
 hE N d e L K n v p=match dQ (L.drop (v+1)) v p with
  | some z=>K z
  | none=>hF
 | 0,v,y,n+1,_,p,_=>by
   rw [hE,qf (by omega),List.drop_eq_nil_of_le (by omega)]
   rfl
 | k+1,v,y,n+1,D,p,x=>by
   have h1:v<d:=by omega
   have h2:v+1<L.length:=by omega
   obtain ⟨c1,c2,c⟩:=h (v+1) h2
   obtain ⟨g1,g2,w⟩:=bB c1
   have A: ∀b:Zk,(((b.1:Bool),((b.2.1.1:Int),(b.2.1.2:Int)),(b.2.2.1:Bool),(b.2.2.2.1:Bool),((b.2.2.2.2.1.1:Int),(b.2.2.2.2.1.2:Int)),(b.2.2.2.2.2.1:Bool),(b.2.2.2.2.2.2:Bool)):Zk)=b:=fun _=>rfl
   have B: ∀r:Zh,(((r.1:Int),(r.2:Int)):Zh)=r:=fun _=>rfl
   have s:fM L[v+1]:=⟨trivial,by show List.length (α:=Zf) L[v+1].2<=1048576;omega,fun a q=>⟨⟨by show List.length (α:=Int) a.1<=1048576;have j:(List.length (α:=Int) a.1:Int)=(L[v+1].1:Int):=(w a q).2;rw [c]at j;omega,fun _ _=>trivial⟩,trivial,trivial⟩⟩
   rw [hE,qg (by omega),b3 (n:=d) h1 (by omega),qc (by omega),qc (by rw [Int.toNat_natCast];exact h2),qB h2,qc s]
   have g:((cpC L[v+1]).1:Int)=(d:Int):=c
   rw [g]
   have t:=Pc N v d e L p d (fun f=>chk (hC (((d:Int)),f) v) (bif (!(qh (bG (qO (((d:Int)),f) v)):Bool))then hF else (chk (p.length+([bG (qO (((d:Int)),f) v)]:Zg).length<=1048576) (hE N d e L K n ((v+1:Nat):Int) (p++([bG (qO (((d:Int)),f) v)]:Zg)))))) (by omega) (List.length (α:=Zf) L[v+1].2) ⟨by omega,by omega⟩ p.length 0 (by omega) N (by omega) L[v+1].2 rfl
   refine (show _=_ from t).trans ?_
   rw [List.drop_zero,OR,<-OO,cL h2,dQ,c]
   cases u:cW p L[v+1].2 with
   | none=>rfl
   | some l=>
     simp only
     rw [qc (Pd ⟨c1,c2,c⟩ ⟨by omega,by omega⟩ u)]
     cases E:qh (bG (qO ((d:Int),l) v))with
     | false=>rfl
     | true=>
       simp only [Bool.not_true,cond_false,cond_true]
       rw [qc (by rw [List.length_singleton];omega)]
       exact Pe N o d hd e L m h K k (v+1) (by omega) n (by omega) _ (by simp [x])
theorem DD {c:Zj} {L:Zi} (a:qI c=true) (h:cV (c.1:Int).toNat (qS c.1 c.2)=some L):L.length=(c.1:Int).toNat+1/\(∀i (d:i<L.length),okN c.1 L[i]/\ ∀w,(i:Int)<=w->w<(c.1:Int)->en w L[i])/\ ∀i (d:i+1<L.length),(qW L[i+1] i).2=true/\L[i]=(qW L[i+1] i).1:=by
 obtain ⟨hd,_,_⟩:=bB a
 obtain ⟨_,b⟩:=iS a
 have hw: ∀w:Int,(((c.1:Int).toNat:Nat):Int)<=w->w<(c.1:Int)->en w (qS c.1 c.2):=fun w w0 e=>by
  rw [Int.toNat_of_nonneg hd.1]at w0
  exact absurd (Int.lt_of_lt_of_le e w0) (Int.lt_irrefl _)
 obtain ⟨g1,g2,g3,_⟩:=Dk (c.1:Int).toNat b (Int.le_of_eq (Int.toNat_of_nonneg hd.1)) hw h
 exact ⟨g1,g2,g3⟩
theorem e48 (c:Zj): ∃N,m48 N c=some ((q4 c).1,(q4 c).2,()):=⟨20,by
 rw [m48]
 unfold q4 fL
 cases b:qI c with
 | false=>rfl
 | true=>
 simp only [cond_true]
 cases f:cV (c.1:Int).toNat (qS c.1 c.2)with
 | none=>rfl
 | some L=>
   obtain ⟨g1,g2,_⟩:=DD b f
   obtain ⟨hd,_,_⟩:=bB b
   simp only [Bool.not_true,cond_false]
   rw [qc (by omega),qc (show (0:Int).toNat<L.length by show 0<L.length;omega)]
   unfold o0
   show (bif decide ((0:Int)<(List.length (α:=Zf) (L.getD 0 (qa Y35)).2:Int))then _ else _)=_
   have d:L.getD 0 (qa Y35)=L.getD 0 ((0:Int),[]):=rfl
   rw [d]
   cases decide ((0:Int)<(List.length (α:=Zf) (L.getD 0 ((0:Int),[])).2:Int))with
   | true=>rfl
   | false=>
     simp only [cond_false]
     have a:(((c.1:Int).toNat:Nat):Int)=(c.1:Int):=Int.toNat_of_nonneg hd.1
     have e:(c.1:Int).toNat<=4:=by have:=hd.2;have:(((c.1:Int).toNat:Nat):Int)<=4:=by rw [a];exact this
                                   omega
     have t:=Pe 20 (by omega) (c.1:Int).toNat e c.2 L g1 (fun i g=>by rw [a];exact (g2 i g).1) (fun h=>some (h,(0:Int),())) (c.1:Int).toNat 0 (by omega) 20 (by omega) [] rfl
     rw [a]at t
     refine (show _=_ from t).trans ?_
     cases dQ (L.drop 1) 0 []with
     | none=>rfl
     | some p=>rfl⟩
theorem s48:Sound Tryz.prog 48 g48:=qo (tt:=tt) (Γ:=Γ48) hT (qe s55 (qe s84 (qe s85 (qe s86 (qe s87 (qe s88 ql)))))) hm (fn:=Tryz.f48) Tryz.func48 (c:=Tryz.f48.body.getD .skip) (by kernel_rfl) (by kernel_rfl) fun x a=>by
 obtain ⟨N,h⟩:=e48 x.1
 exact ⟨T48 N,p48,qp _,qN9 N,(qZt N x.1).trans h⟩
def g34:G:={ps:=[i35],rs:=[i29,i3],dp:=true,pre:=fun x=>iZ x.1,fn:=fun x=>((q4 x.1).1,(q4 x.1).2,())}
def kA (N:Nat) (c:Int) (d:Ze) (k0:(Zi)->ZO [i29,i3]):Nat->Int->(Zi)->ZO [i29,i3]
 | 0,_,_=>none
 | n+1,b,a=>bif (decide ((0:Int)<=b))then (chk (0<=(IntKind.i64.wrap ((a.length:Int) - (1:Int)))/\(IntKind.i64.wrap ((a.length:Int) - (1:Int)))<(a.length:Int)) (chk ((IntKind.i64.wrap ((a.length:Int) - (1:Int))).toNat<a.length) (chk (mr (a.getD ((IntKind.i64.wrap ((a.length:Int) - (1:Int))).toNat) (qa Y35)) b) (bif (!((qW (a.getD ((IntKind.i64.wrap ((a.length:Int) - (1:Int))).toNat) (qa Y35)) b).2:Bool))then (some (([]:Zg),(2:Int),()))else (chk (a.length+([(qW (a.getD ((IntKind.i64.wrap ((a.length:Int) - (1:Int))).toNat) (qa Y35)) b).1]:Zi).length<=1048576) (kA N c d k0 n (IntKind.i64.wrap (b - (1:Int))) (a++([(qW (a.getD ((IntKind.i64.wrap ((a.length:Int) - (1:Int))).toNat) (qa Y35)) b).1]:Zi))))))))else (k0 a)
def kB (N:Nat) (f k l:Int) (m:Ze) (o:Zi) (b:Zg) (g:Int) (h:Ze) (i:Int) (j:Ze) (k6:(Zb)->Int->Bool->ZO [i29,i3]):Nat->Int->(Zb)->Int->Bool->ZO [i29,i3]
 | 0,_,_,_,_=>none
 | n+1,a,c,d,e=>bif (decide (a<f))then (chk (0<=a/\a<(b.length:Int)) (chk (a.toNat<b.length) (chk (vr (c,d,e) a (b.getD a.toNat (qa Y28))) (bif (!((bL (c,d,e) a (b.getD a.toNat (qa Y28))).2:Bool))then (some (([]:Zg),(2:Int),()))else (kB N f k l m o b g h i j k6 n (IntKind.i64.wrap (a+(1:Int))) (((bL (c,d,e) a (b.getD a.toNat (qa Y28))).1).1:Zb) ((((bL (c,d,e) a (b.getD a.toNat (qa Y28))).1).2).1:Int) ((((bL (c,d,e) a (b.getD a.toNat (qa Y28))).1).2).2:Bool))))))else (k6 c d e)
def hG (N:Nat) (g h:Int) (i:Ze) (j:Zi) (k:Zg) (l:Int) (b:Ze) (m:Int) (k4:(Ze)->ZO [i29,i3]):Nat->Int->(Ze)->ZO [i29,i3]
 | 0,_,_=>none
 | n+1,a,c=>bif (decide (a<(b.length:Int)))then (chk (0<=a/\a<(b.length:Int)) (kB N g a h i j k l b m c (fun (d:Zb) (e:Int) (f:Bool)=>chk (c.length+([(d,e,f)]:Ze).length<=1048576) (hG N g h i j k l b m k4 n (IntKind.i64.wrap (a+(1:Int))) (c++([(d,e,f)]:Ze)))) N (0:Int) ((b.getD a.toNat (qa Y68)).1:Zb) (((b.getD a.toNat (qa Y68)).2).1:Int) (((b.getD a.toNat (qa Y68)).2).2:Bool)))else (k4 c)
def gG (N:Nat) (a:Int) (f:Ze) (c:Zi) (k2:(Zg)->ZO [i29,i3]):Nat->Int->(Zg)->ZO [i29,i3]
 | 0,_,_=>none
 | n+1,b,d=>bif (decide (b<a))then (chk (0<=(IntKind.i64.wrap ((IntKind.i64.wrap (a - (1:Int))) - b))/\(IntKind.i64.wrap ((IntKind.i64.wrap (a - (1:Int))) - b))<(c.length:Int)) (chk ((IntKind.i64.wrap ((IntKind.i64.wrap (a - (1:Int))) - b)).toNat<c.length) (hG N b a f c d ((c.getD ((IntKind.i64.wrap ((IntKind.i64.wrap (a - (1:Int))) - b)).toNat) (qa Y35)).1:Int) ((c.getD ((IntKind.i64.wrap ((IntKind.i64.wrap (a - (1:Int))) - b)).toNat) (qa Y35)).2:Ze) a (fun (e:Ze)=>chk (gC (a,e) b) (bif (!((qh (bG (bX (a,e) b))):Bool))then (some (([]:Zg),(2:Int),()))else (chk (d.length+([(bG (bX (a,e) b))]:Zg).length<=1048576) (gG N a f c k2 n (IntKind.i64.wrap (b+(1:Int))) (d++([(bG (bX (a,e) b))]:Zg)))))) N (0:Int) ([]:Ze))))else (k2 d)
def m34 (N:Nat) (a:Zj):ZO [i29,i3]:=chk (b8 a) (bif (!((qI a):Bool))then (some (([]:Zg),(2:Int),()))else (chk (dy (a.1:Int) (a.2:Ze)) (kA N (a.1:Int) (a.2:Ze) (fun (b:Zi)=>chk (0<=(a.1:Int)/\(a.1:Int)<(b.length:Int)) (chk ((a.1:Int).toNat<b.length) (bif (decide ((0:Int)<(((b.getD ((a.1:Int).toNat) (qa Y35)).2:Ze).length:Int)))then (some (([]:Zg),(1:Int),()))else (gG N (a.1:Int) (a.2:Ze) b (fun (c:Zg)=>some (c,(0:Int),())) N (0:Int) ([]:Zg))))) N (IntKind.i64.wrap ((a.1:Int) - (1:Int))) ([(qS (a.1:Int) (a.2:Ze))]:Zi))))
def Γ34:Gam:=[(31,g31),(43,g43),(68,g68),(69,g69),(70,g70),(71,g71),(72,g72)]
theorem vC:Gam.get Γ34 31=some g31/\Gam.get Γ34 43=some g43/\Gam.get Γ34 68=some g68/\Gam.get Γ34 69=some g69/\Gam.get Γ34 70=some g70/\Gam.get Γ34 71=some g71/\Gam.get Γ34 72=some g72:=⟨rfl,rfl,rfl,rfl,rfl,rfl,rfl⟩
def vD:List Bool:=[O,I,O,O,I,I]
def DE:Nm:=⟨vD,[],false⟩
theorem Pf:NmS DE vD [] false:=nmS
def vE:List Bool:=[O,I,O,O,I,O,O,O,I,I,I,I,I,I,I]
def DF:Nm:=⟨vE,[.frb 13 0 3 Zd,.shb 13 0 3 Zd],false⟩
theorem Pg:NmS DF vE [.frb 13 0 3 Zd,.shb 13 0 3 Zd] false:=nmS
def vF:List Bool:=[O,I,O,O,I,O,O,O,I,I,I,I,I]
def DG:Nm:=⟨vF,[.box 11 1 68 Y68,.unb 11 1 68 Y68],false⟩
theorem Ph:NmS DG vF [.box 11 1 68 Y68,.unb 11 1 68 Y68] false:=nmS
def vG:List Bool:=[O,I,O,O,I,O,O,O,I,I]
def DH:Nm:=⟨vG,[],false⟩
theorem Pj:NmS DH vG [] false:=nmS
def DI:List Bool:=[O,I,O,O,I]
def Pk:Nm:=⟨DI,[],false⟩
theorem qN7:NmS Pk DI [] false:=nmS
def DJ:List Bool:=[O,O,O,O,O,O,O,O,I]
def Pl:Nm:=⟨DJ,[],false⟩
theorem qSX:NmS Pl DJ [] false:=nmS
def DK:List Bool:=[O,I,O,O,I,O,O,O,I,I,O,I]
def Pm:Nm:=⟨DK,[],false⟩
theorem qYU:NmS Pm DK [] false:=nmS
def DL:List Bool:=[O,I,O,O,I,O,O,O,I,I,I,I,I,I]
def Pn:Nm:=⟨DL,[],false⟩
theorem qQe:NmS Pn DL [] false:=nmS
def DM:List Bool:=[O,I,O,O,I,O,O,O,I,I,I,I,I,I,I,I,I]
def Po:Nm:=⟨DM,[],false⟩
theorem qXX:NmS Po DM [] false:=nmS
def vH:Nat->Tree:=fun i=>if i=26 then .first 1 (.first 2 (.first 3 (.grow 0 (.grow 4 (.grow 5 (.alt 6 (.first 7 (.first 8 (.first 9 (.alt 10 (.alt 11 (.quiet 12 .done) .stop) .stop)))) (.alt 10 (.alt 6 (.quiet 7 (.quiet 8 (.first 9 (.alt 11 (.quiet 12 .done) .stop)))) .stop) .stop)))))))else .done
def mH:Nat->Nm:=fun i=>if i=5 then DE else if i=24 then DF else if i=20 then DG else if i=15 then DH else ⟨[],[],false⟩
def mI:Nat->Option Nm:=fun i=>if i=0 then some Pk else if i=2 then some Pl else if i=4 then some Pm else if i=6 then some Pn else none
def fN:Nat->Option Nm:=fun i=>if i=26 then some Po else none
theorem p34:qi vH (Tryz.f34.body.getD .skip)=true:=by kernel_rfl
def T34 (N:Nat):Tab:={tr:=vH,lp:=mH,ex:=mI,rg:=fN,jn:=jn0,fuel:=N}
theorem qQW (N:Nat):qj Tryz.prog (T34 N):=qn fun _=>rfl
theorem hI (N:Nat):qr (T34 N) vH mH mI fN jn0 N false:=qt
def Pp:Code:=cut [I,I,I,O,I,I,I] (Tryz.f34.body.getD .skip)
theorem qPI (N:Nat) (b:Int) (d:Ze) {k0:(Zi)->ZO [i29,i3]} {Q:ZQ [i29,i3]} {c:Code} (h:c=Pp) (i: ∀st,Q .ret st=qz tt true [i29,i3] [.tmp 2,.tmp 3] st) (g: ∀(f:Zi),Q (.exit 0) ⟨[u,.one (.ptr 0 0 0),u,u,.one (.own 1),u,u,u,u,u,u,u,u,u,u,u,u,u,u,u,u,u,u,u,u,u,u,u,u,u,u,u,u,u,u,u,u,u,u,u,u,u,u,u,u,u,u,u,u,u,u,u,u,u,u,u,u,u,u,u,u,u,u,u,u,u,u,u,u,u,u,u,u,u,u,u,u,u,u,u,u,u,u,u,u,u,u,u,u,u,u,u,u,u,u,u,u,u,u,u,u,u,u,u,u,u,u,u,u,u,u,u,u,u,u,u,u,u,u,u,u,u,u,u,u,u,u,u,u,u],[.box [.int .i64 b,.sl 68 Y68 d 2],.row 35 Y35 f false true 2]⟩=k0 f): ∀(n:Nat) (a:Int) (e:Zi),qw (qd tt Γ34 (T34 N) c) false DE Q n ⟨[u,.one (.ptr 0 0 0),u,u,.one (.own 1),.one (.int .i64 a),u,u,u,u,u,u,u,u,u,u,u,u,u,u,u,u,u,u,u,u,u,u,u,u,u,u,u,u,u,u,u,u,u,u,u,u,u,u,u,u,u,u,u,u,u,u,u,u,u,u,u,u,u,u,u,u,u,u,u,u,u,u,u,u,u,u,u,u,u,u,u,u,u,u,u,u,u,u,u,u,u,u,u,u,u,u,u,u,u,u,u,u,u,u,u,u,u,u,u,u,u,u,u,u,u,u,u,u,u,u,u,u,u,u,u,u,u,u,u,u,u,u,u,u],[.box [.int .i64 b,.sl 68 Y68 d 2],.row 35 Y35 e false true 2]⟩=kA N b d k0 n a e:=by
 intro n;induction n with
 | zero=>intros;rfl
 | succ n j=>
   intro a e
   rw [qD,qE h,kA];unfold Pp Tryz.f34
   simp -implicitDefEqProofs [hI,mI,fN,Pf,vD,qN7,DI,vC,g69,i,g,j]
def Pq:Code:=cut [I,I,I,I,I,I,O,I,I,I,I,O,I,I,I,O,I,I,I,I,O,I,I,O,I,I,I] (Tryz.f34.body.getD .skip)
theorem qTs (N:Nat) (j k m:Int) (o:Ze) (p:Zi) (a:Zg) (b:Int) (d:Ze) (e:Int) (i:Ze) {k6:(Zb)->Int->Bool->ZO [i29,i3]} {Q:ZQ [i29,i3]} {c:Code} (v:c=Pq) (w: ∀st,Q .ret st=qz tt true [i29,i3] [.tmp 2,.tmp 3] st) (t: ∀(q:Zb) (r:Int) (s:Bool),Q (.exit 6) ⟨[u,.one (.ptr 0 0 0),u,u,.one (.own 1),u,u,u,.one (.own 2),.one (.int .i64 j),.one (.ptr 3 0 0),.one (.ptr 4 0 0),.one (.int .i64 k),.one (.ptr 5 0 0),u,u,u,u,u,u,u,u,u,u,u,u,u,u,u,u,u,u,u,u,u,u,u,u,u,u,u,u,u,u,u,u,u,u,u,u,u,u,u,u,u,u,u,u,u,u,u,u,u,u,u,u,u,u,u,u,u,u,u,u,u,u,u,u,u,u,u,u,u,u,u,u,u,u,u,u,u,u,u,u,u,u,u,u,u,u,u,u,u,u,u,u,u,u,u,u,u,u,u,u,u,u,u,u,u,u,u,u,u,u,u,u,u,u,u,u],[.box [.int .i64 m,.sl 68 Y68 o 7],.row 35 Y35 p false true 7,.row 28 Y28 a true true 0,.box [.int .i64 b,.sl 68 Y68 d 7],.box [.int .i64 e,.own 6],.box [.sl 3 Zd q 7,.int .i64 r,.bool s],.row 68 Y68 i false true 7]⟩=k6 q r s): ∀(n:Nat) (l:Int) (f:Zb) (g:Int) (h:Bool),qw (qd tt Γ34 (T34 N) c) false DF Q n ⟨[u,.one (.ptr 0 0 0),u,u,.one (.own 1),u,u,u,.one (.own 2),.one (.int .i64 j),.one (.ptr 3 0 0),.one (.ptr 4 0 0),.one (.int .i64 k),.one (.ptr 5 0 0),.one (.int .i64 l),u,u,u,u,u,u,u,u,u,u,u,u,u,u,u,u,u,u,u,u,u,u,u,u,u,u,u,u,u,u,u,u,u,u,u,u,u,u,u,u,u,u,u,u,u,u,u,u,u,u,u,u,u,u,u,u,u,u,u,u,u,u,u,u,u,u,u,u,u,u,u,u,u,u,u,u,u,u,u,u,u,u,u,u,u,u,u,u,u,u,u,u,u,u,u,u,u,u,u,u,u,u,u,u,u,u,u,u,u,u,u,u,u,u,u],[.box [.int .i64 m,.sl 68 Y68 o 7],.row 35 Y35 p false true 7,.row 28 Y28 a true true 0,.box [.int .i64 b,.sl 68 Y68 d 7],.box [.int .i64 e,.own 6],.box [.sl 3 Zd f 7,.int .i64 g,.bool h],.row 68 Y68 i false true 7]⟩=kB N j k m o p a b d e i k6 n l f g h:=by
 intro n;induction n with
 | zero=>intros;rfl
 | succ n x=>
   intro l f g h
   rw [qD,qE v,kB];unfold Pq Tryz.f34
   simp -implicitDefEqProofs [hI,vH,mI,fN,Pg,vE,qQe,DL,qXX,DM,vC,g70,w,t,x]
def Pr:Code:=cut [I,I,I,I,I,I,O,I,I,I,I,O,I,I,I,O,I,I,I] (Tryz.f34.body.getD .skip)
theorem qXb (N:Nat) (b e:Int) (f:Ze) (g:Zi) (h:Zg) (m:Int) (o:Ze) (i:Int) {k4:(Ze)->ZO [i29,i3]} {Q:ZQ [i29,i3]} {c:Code} (s:c=Pr) (t: ∀st,Q .ret st=qz tt true [i29,i3] [.tmp 2,.tmp 3] st) (r: ∀(q:Ze),Q (.exit 4) ⟨[u,.one (.ptr 0 0 0),u,u,.one (.own 1),u,u,u,.one (.own 2),.one (.int .i64 b),u,.one (.ptr 3 0 0),u,u,u,u,u,u,u,u,u,u,u,u,u,u,u,u,u,u,u,u,u,u,u,u,u,u,u,u,u,u,u,u,u,u,u,u,u,u,u,u,u,u,u,u,u,u,u,u,u,u,u,u,u,u,u,u,u,u,u,u,u,u,u,u,u,u,u,u,u,u,u,u,u,u,u,u,u,u,u,u,u,u,u,u,u,u,u,u,u,u,u,u,u,u,u,u,u,u,u,u,u,u,u,u,u,u,u,u,u,u,u,u,u,u,u,u,u,u],[.box [.int .i64 e,.sl 68 Y68 f 5],.row 35 Y35 g false true 5,.row 28 Y28 h true true 0,.box [.int .i64 i,.own 4],.row 68 Y68 q false true 5]⟩=k4 q): ∀(n:Nat) (d:Int) (a:Ze),qw (qd tt Γ34 (T34 N) c) false DG Q n ⟨[u,.one (.ptr 0 0 0),u,u,.one (.own 1),u,u,u,.one (.own 2),.one (.int .i64 b),.one (.ptr 3 0 0),.one (.ptr 4 0 0),.one (.int .i64 d),u,u,u,u,u,u,u,u,u,u,u,u,u,u,u,u,u,u,u,u,u,u,u,u,u,u,u,u,u,u,u,u,u,u,u,u,u,u,u,u,u,u,u,u,u,u,u,u,u,u,u,u,u,u,u,u,u,u,u,u,u,u,u,u,u,u,u,u,u,u,u,u,u,u,u,u,u,u,u,u,u,u,u,u,u,u,u,u,u,u,u,u,u,u,u,u,u,u,u,u,u,u,u,u,u,u,u,u,u,u,u,u,u,u,u,u,u],[.box [.int .i64 e,.sl 68 Y68 f 6],.row 35 Y35 g false true 6,.row 28 Y28 h true true 0,.box [.int .i64 m,.sl 68 Y68 o 6],.box [.int .i64 i,.own 5],.row 68 Y68 a false true 6]⟩=hG N b e f g h m o i k4 n d a:=by
 intro n;induction n with
 | zero=>intros;rfl
 | succ n p=>
   intro d a
   rw [qD,qE s];unfold Pr Tryz.f34
   simp -implicitDefEqProofs [hI,mH,mI,fN,Pg,vE,qYU,DK,r]
   rewrite [qTs (k6:=(fun (j:Zb) (k:Int) (l:Bool)=>chk (a.length+([(j,k,l)]:Ze).length<=1048576) (hG N b e f g h m o i k4 n (IntKind.i64.wrap (d+(1:Int))) (a++([(j,k,l)]:Ze))))) N _ _ _ _ _ _ _ _ _ _ ?_ ?_ ?_]
   ·rewrite [hG];first | rfl | simp -implicitDefEqProofs [p]
   ·rfl
   ·intro;simp only [qA,qC,t]
   ·intro j k l;simp -implicitDefEqProofs [hI,fN,Ph,vF,p]
def Ps:Code:=cut [I,I,I,I,I,I,O,I,I,I] (Tryz.f34.body.getD .skip)
theorem qZG (N:Nat) (b:Int) (g:Ze) (f:Zi) {k2:(Zg)->ZO [i29,i3]} {Q:ZQ [i29,i3]} {c:Code} (k:c=Ps) (h: ∀st,Q .ret st=qz tt true [i29,i3] [.tmp 2,.tmp 3] st) (h2: ∀(j:Zg),Q (.exit 2) ⟨[u,u,u,u,u,u,u,u,.one (.own 0),u,u,u,u,u,u,u,u,u,u,u,u,u,u,u,u,u,u,u,u,u,u,u,u,u,u,u,u,u,u,u,u,u,u,u,u,u,u,u,u,u,u,u,u,u,u,u,u,u,u,u,u,u,u,u,u,u,u,u,u,u,u,u,u,u,u,u,u,u,u,u,u,u,u,u,u,u,u,u,u,u,u,u,u,u,u,u,u,u,u,u,u,u,u,u,u,u,u,u,u,u,u,u,u,u,u,u,u,u,u,u,u,u,u,u,u,u,u,u,u,u],[.row 28 Y28 j true true 0]⟩=k2 j): ∀(n:Nat) (a:Int) (d:Zg),qw (qd tt Γ34 (T34 N) c) false DH Q n ⟨[u,.one (.ptr 0 0 0),u,u,.one (.own 1),u,u,u,.one (.own 2),.one (.int .i64 a),u,u,u,u,u,u,u,u,u,u,u,u,u,u,u,u,u,u,u,u,u,u,u,u,u,u,u,u,u,u,u,u,u,u,u,u,u,u,u,u,u,u,u,u,u,u,u,u,u,u,u,u,u,u,u,u,u,u,u,u,u,u,u,u,u,u,u,u,u,u,u,u,u,u,u,u,u,u,u,u,u,u,u,u,u,u,u,u,u,u,u,u,u,u,u,u,u,u,u,u,u,u,u,u,u,u,u,u,u,u,u,u,u,u,u,u,u,u,u,u],[.box [.int .i64 b,.sl 68 Y68 g 3],.row 35 Y35 f false true 3,.row 28 Y28 d true true 0]⟩=gG N b g f k2 n a d:=by
 intro n;induction n with
 | zero=>intros;rfl
 | succ n i=>
   intro a d
   rw [qD,qE k];unfold Ps Tryz.f34
   simp -implicitDefEqProofs [hI,mH,mI,fN,Ph,vF,qSX,DJ,h2]
   rewrite [qXb (k4:=(fun (e:Ze)=>chk (gC (b,e) a) (bif (!((qh (bG (bX (b,e) a))):Bool))then (some (([]:Zg),(2:Int),()))else (chk (d.length+([(bG (bX (b,e) a))]:Zg).length<=1048576) (gG N b g f k2 n (IntKind.i64.wrap (a+(1:Int))) (d++([(bG (bX (b,e) a))]:Zg))))))) N _ _ _ _ _ _ _ _ ?_ ?_ ?_]
   ·rewrite [gG];first | rfl | simp -implicitDefEqProofs [i]
   ·rfl
   ·intro;simp only [qA,qC,h]
   ·intro e;simp -implicitDefEqProofs [hI,fN,Pj,vG,vC,g43,g71,g72,h,i]
theorem qNK (N:Nat) (a:Zj):qd tt Γ34 (T34 N) (Tryz.f34.body.getD .skip) (qk tt true [i29,i3] [.tmp 2,.tmp 3]) (qm [i35] 130 (a,()))=m34 N a:=by
 unfold Tryz.f34
 simp -implicitDefEqProofs [hI,mH,fN,Pf,vD,vC,g31,g68]
 rewrite [qPI (k0:=(fun (b:Zi)=>chk (0<=(a.1:Int)/\(a.1:Int)<(b.length:Int)) (chk ((a.1:Int).toNat<b.length) (bif (decide ((0:Int)<(((b.getD ((a.1:Int).toNat) (qa Y35)).2:Ze).length:Int)))then (some (([]:Zg),(1:Int),()))else (gG N (a.1:Int) (a.2:Ze) b (fun (c:Zg)=>some (c,(0:Int),())) N (0:Int) ([]:Zg)))))) N _ _ ?_ ?_ ?_]
 ·rewrite [m34];first | rfl | simp -implicitDefEqProofs []
 ·rfl
 ·intro;simp only [qA,qC,qJ]
 ·intro b;simp -implicitDefEqProofs [hI,mH,fN,Pj,vG]
  rewrite [qZG (k2:=(fun (c:Zg)=>some (c,(0:Int),()))) N _ _ _ ?_ ?_ ?_]
  ·first | rfl | simp -implicitDefEqProofs []
  ·rfl
  ·intro;simp only [qA,qC,qJ]
  ·intro c;simp -implicitDefEqProofs [hI,fN]
theorem Pt (N d:Nat) (hd:d<=4) (c:Ze) (K:Zi->ZO [i29,i3]): ∀(k:Nat) (x:Zj) (pre:Zi),okN d x->k<=d->pre.length+k<=100-> ∀n,k<n->
 kA N d c K n ((k:Int) - 1) (pre++[x])=match cV k x with
  | some L=>K (pre++L.reverse)
  | none=>hF
 | 0,x,pre,_,_,_,n+1,_=>by
   rw [kA,qf (by omega)]
   rfl
 | k+1,x,pre,j,hk,p,n+1,o=>by
   have e:((k+1:Nat):Int) - 1=(k:Int):=by omega
   have f:IntKind.i64.wrap ((k:Int) - 1)=(k:Int) - 1:=bn (by omega) (by omega)
   have h:(pre++[x]).length=pre.length+1:=by simp
   have e3:IntKind.i64.wrap ((((pre++[x]).length:Nat):Int) - 1)=(pre.length:Int):=by rw [h];exact (bn (by omega) (by omega)).trans (by omega)
   obtain ⟨h1,h2,a⟩:=j
   have i:0<=(k:Int)/\(k:Int)<(x.1:Int):=⟨by omega,by rw [a];omega⟩
   have g: ∀dv:Zj,(pre++[x]).getD pre.length dv=x:=fun dv=>fm pre x [] dv
   rw [e,kA,qg (by omega),e3,f,qc (by omega),qc (by omega),Int.toNat_natCast,g,qc (show mr x k from ⟨h1,i⟩),cV]
   cases hm:(qW x k).2 with
   | false=>rfl
   | true=>
     have b:=kp h1 hm
     rw [a]at b
     simp only [Bool.not_true,cond_false,cond_true]
     rw [qc (by rw [List.length_singleton];omega)]
     have m:=Pt N d hd c K k (qW x k).1 (pre++[x]) b (by omega) (by omega) n (by omega)
     refine (show _=_ from m).trans ?_
     cases cV k (qW x k).1 with
     | none=>rfl
     | some l=>simp
theorem Pu (N:Nat) (d:Int) (hd:d<=4) (j l:Int) (m:Ze) (o:Zi) (p:Zg) (t:p.length<=100) (e:Int) (f:Ze) (g:Int) (h:Ze) (K:Zb->Int->Bool->ZO [i29,i3]): ∀(k i:Nat),i+k=p.length-> ∀n,k<n-> ∀a:Zf,okD d a->
 kB N p.length j l m o p e f g h K n i a.1 a.2.1 a.2.2=match eo i (p.drop i) a with
  | some b=>K b.1 b.2.1 b.2.2
  | none=>hF
 | 0,i,s,n+1,_,a,_=>by
   rw [kB,qf (by omega),List.drop_eq_nil_of_le (by omega)]
   rfl
 | k+1,i,s,n+1,v,a,c=>by
   have h1:i<p.length:=by omega
   have q:(((a.1:Zb),(a.2.1:Int),(a.2.2:Bool)):Zf)=a:=rfl
   have u:vr a i p[i]:=by show List.length (α:=Int) a.1<=1048576;have:(List.length (α:=Int) a.1:Int)=d:=c.2;omega
   rw [kB,qg (by omega),qc (by omega),qc (by rw [Int.toNat_natCast];exact h1),qB h1,q,qc u,cL h1,eo,b3 h1 (by omega)]
   cases r:(bL a i p[i]).2 with
   | false=>rfl
   | true=>exact Pu N d hd j l m o p t e f g h K k (i+1) (by omega) n (by omega) _ (OK c r)
theorem Pv (N:Nat) (q:20<=N) (d:Int) (hd:d<=4) (b:Int) (c:Ze) (e:Zi) (p:Zg) (v:p.length<=4) (f:Int) (l:Ze) (u:l.length<=16) (h: ∀a∈l,okD d a) (g:Int) (K:Ze->ZO [i29,i3]): ∀(k i:Nat),i+k=l.length-> ∀n,k<n-> ∀s:Ze,s.length=i->
 hG N p.length b c e p f l g K n i s=match cW p (l.drop i)with
  | some l'=>K (s++l')
  | none=>hF
 | 0,i,r,n+1,_,s,_=>by
   rw [hG,qf (by omega),List.drop_eq_nil_of_le (by omega),cW]
   simp
 | k+1,i,r,n+1,x,s,hs=>by
   have h1:i<l.length:=by omega
   rw [hG,qg (by omega),qc (by omega),qB h1]
   have t:=Pu N d hd i b c e p (by omega) f l g s (fun j m o=>chk (s.length+([(j,m,o)]:Ze).length<=1048576) (hG N p.length b c e p f l g K n (IntKind.i64.wrap ((i:Int)+(1:Int))) (s++([(j,m,o)]:Ze)))) p.length 0 (by omega) N (by omega) l[i] (h _ (List.getElem_mem h1))
   refine (show _=_ from t).trans ?_
   rw [List.drop_zero,cL h1,cW]
   cases w:eo 0 p l[i]with
   | none=>rfl
   | some a=>
     simp only
     rw [qc (by rw [List.length_singleton];omega),b3 h1 (by omega)]
     refine (Pv N q d hd b c e p v f l u h g K k (i+1) (by omega) n (by omega) (s++[a]) (by simp [hs])).trans ?_
     cases cW p (l.drop (i+1))with
     | none=>rfl
     | some l'=>simp
theorem Pw {L:Zi} {d v:Nat} (a:L.length=d+1) (b:v<=d) (dv:Zj):L.reverse.getD (d - v) dv=L[v]:=by
 have h1:d - v<L.reverse.length:=by rw [List.length_reverse];omega
 rw [List.getD_eq_getElem?_getD,List.getElem?_eq_getElem h1,Option.getD_some,List.getElem_reverse]
 congr 1
 omega
theorem Px (N:Nat) (g:20<=N) (d:Nat) (hd:d<=4) (c:Ze) (L:Zi) (f:L.length=d+1) (h: ∀i (w:i<L.length),okN d L[i]) (K:Zg->ZO [i29,i3]): ∀(k v:Nat),v+k=d-> ∀n,k<n-> ∀p:Zg,p.length=v->
 gG N d c L.reverse K n v p=match o1 (L.drop (v+1)) v p with
  | some u=>K u
  | none=>hF
 | 0,v,s,n+1,_,p,_=>by
   rw [gG,qf (by omega),List.drop_eq_nil_of_le (by omega)]
   rfl
 | k+1,v,s,n+1,y,p,o=>by
   have h1:v<d:=by omega
   have h2:v+1<L.length:=by omega
   have x:L.reverse.length=d+1:=by rw [List.length_reverse];exact f
   obtain ⟨c1,c2,e⟩:=h (v+1) h2
   obtain ⟨g1,g2,m⟩:=bB c1
   have q:IntKind.i64.wrap (IntKind.i64.wrap ((d:Int) - 1) - (v:Int))=((d - (v+1):Nat):Int):=by
    rw [bn (n:=(d:Int) - 1) (by omega) (by omega)]
    exact (bn (by omega) (by omega)).trans (by omega)
   rw [gG,qg (by omega),q,qc (by omega),qc (by rw [Int.toNat_natCast];omega),Int.toNat_natCast,Pw f (show v+1<=d by omega)]
   have t:=Pv N g d (by omega) d c L.reverse p (by omega) L[v+1].1 L[v+1].2 g2 (fun a j=>⟨(m a j).1,(m a j).2.trans e⟩) d (fun b=>chk (gC (((d:Int)),b) v) (bif (!(qh (bG (bX (((d:Int)),b) v)):Bool))then hF else (chk (p.length+([bG (bX (((d:Int)),b) v)]:Zg).length<=1048576) (gG N d c L.reverse K n (IntKind.i64.wrap ((v:Int)+1)) (p++([bG (bX (((d:Int)),b) v)]:Zg)))))) (List.length (α:=Zf) L[v+1].2) 0 (by omega) N (by omega) [] rfl
   rw [o]at t ⊢
   refine (show _=_ from t).trans ?_
   rw [List.drop_zero,cL h2,o1,e]
   cases r:cW p L[v+1].2 with
   | none=>rfl
   | some l=>
     simp only [List.nil_append]
     rw [qc (show gC ((d:Int),l) v from Pd ⟨c1,c2,e⟩ ⟨by omega,by omega⟩ r)]
     cases z:qh (bG (bX ((d:Int),l) v))with
     | false=>rfl
     | true=>
       simp only [Bool.not_true,cond_false,cond_true]
       rw [qc (by rw [List.length_singleton];omega),b3 (n:=d) h1 (by omega)]
       exact Px N g d hd c L f h K k (v+1) (by omega) n (by omega) _ (by simp [o])
theorem e34 (c:Zj) (h:iZ c): ∃N,m34 N c=some ((q4 c).1,(q4 c).2,()):=⟨20,by
 rw [m34,qc (show b8 c from h)]
 unfold q4
 cases f:qI c with
 | false=>rfl
 | true=>
 obtain ⟨hd,_,_⟩:=bB f
 obtain ⟨q,r⟩:=iS f
 have b:(((c.1:Int).toNat:Nat):Int)=(c.1:Int):=Int.toNat_of_nonneg hd.1
 have g:(c.1:Int).toNat<=4:=by have:=hd.2;have:(((c.1:Int).toNat:Nat):Int)<=4:=by rw [b];exact this
                               omega
 have m:IntKind.i64.wrap ((c.1:Int) - 1)=(c.1:Int) - 1:=bn (Int.le_sub_right_of_add_le (Int.le_trans (by decide) hd.1)) (Int.le_trans (Int.sub_le_self _ (by decide)) (Int.le_trans hd.2 (by decide)))
 simp only [Bool.not_true,cond_false,cond_true]
 rw [qc (show dy c.1 c.2 from q),m]
 have t:=fun K=>Pt 20 (c.1:Int).toNat g c.2 K (c.1:Int).toNat (qS c.1 c.2) [] (by rw [b];exact r) (Nat.le_refl _) (by simp;omega) 20 (by omega)
 simp only [b]at t
 refine (show _=_ from t _).trans ?_
 cases n:cV (c.1:Int).toNat (qS c.1 c.2)with
 | none=>rfl
 | some L=>
   obtain ⟨g1,g2,g3⟩:=DD f n
   have w:L.reverse.length=(c.1:Int).toNat+1:=by rw [List.length_reverse];exact g1
   have j:0<L.length:=by omega
   simp only [List.nil_append]
   rw [qc ⟨hd.1,by rw [w];show (c.1:Int)<(((c.1:Int).toNat+1:Nat):Int);exact Int.lt_of_lt_of_le (Int.lt_add_one_of_le (Int.le_of_eq b.symm)) (Int.le_of_eq (by simp))⟩,qc (by omega)]
   have l: ∀dv:Zj,L.reverse.getD (c.1:Int).toNat dv=L[0]:=fun dv=>by
    have:=Pw (v:=0) g1 (Nat.zero_le _) dv
    rw [Nat.sub_zero]at this
    exact this
   simp only [l]
   unfold o0
   have e5:L.getD 0 ((0:Int),[])=L[0]:=by simp [List.getD,j]
   rw [e5]
   by_cases e:(0:Int)<(List.length (α:=Zf) L[0].2:Int)
   ·rw [qg e,qg e]
   ·rw [qf e,qf e]
    have u:mE (c.1:Int) [] L[0]:=fun P _ _ a k=>by
        have:L[0].2=[]:=List.length_eq_zero_iff.1 (by omega)
        rw [this]at k
        simp at k
    have o:((L.length:Nat):Int)=(c.1:Int)+1:=by rw [g1];show (((c.1:Int).toNat:Nat):Int)+1=_;rw [b]
    obtain ⟨k1,_⟩:=Dl (d:=(c.1:Int)) o g2 g3 (c.1:Int).toNat 0 [] (by rw [Nat.zero_add];exact b) rfl (by simp) j u
    have t:=fun K=>Px 20 (by omega) (c.1:Int).toNat g c.2 L g1 (fun i s=>by rw [b];exact (g2 i s).1) K (c.1:Int).toNat 0 (by omega) 20 (by omega) [] rfl
    simp only [b]at t
    refine (show _=_ from t _).trans ?_
    rw [k1]
    cases dQ (L.drop (0+1)) 0 []with
    | none=>rfl
    | some p=>rfl⟩
theorem s34:Sound Tryz.prog 34 g34:=qo (tt:=tt) (Γ:=Γ34) hT (qe s31 (qe s43 (qe s68 (qe s69 (qe s70 (qe s71 (qe s72 ql))))))) hm (fn:=Tryz.f34) Tryz.func34 (c:=Tryz.f34.body.getD .skip) (by kernel_rfl) (by kernel_rfl) fun x a=>by
 obtain ⟨N,h⟩:=e34 x.1 a
 exact ⟨T34 N,p34,qp _,qQW N,(qNK N x.1).trans h⟩
end
end Go.T
