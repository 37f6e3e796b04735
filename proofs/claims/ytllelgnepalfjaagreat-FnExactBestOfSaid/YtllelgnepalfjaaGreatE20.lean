import Derived.Test.YtllelgnepalfjaaGreatB10n
import Derived.Test.YtllelgnepalfjaaGreatT13
import Derived.Test.YtllelgnepalfjaaGreatB8
set_option linter.unusedSimpArgs false
set_option linter.unusedVariables false
namespace Go.T
noncomputable section
open Go Go.Proofs
set_option maxHeartbeats 4000000
set_option maxRecDepth 100000
abbrev noR:Zh:=((0:Int),(0:Int))
def bF (a b:Zh):Zh:=bif qh a&&qh b then qT ((a.1:Int)*b.2+(b.1:Int)*a.2) ((a.2:Int)*b.2)else noR
def g96:G:={ps:=[i28,i28],rs:=[i28],dp:=true,pre:=fun _=>True,fn:=fun x=>(bF x.1 x.2.1,())}
def g77:G:={ps:=[i28,i28],rs:=[i28],dp:=true,pre:=fun _=>True,fn:=fun x=>(bF x.1 x.2.1,())}
def m96 (N:Nat) (a b:Zh):ZO [i28]:=bif (!((qh a):Bool))then (some (((0:Int),(0:Int)),()))else (bif (!((qh b):Bool))then (some (((0:Int),(0:Int)),()))else (chk (dn (IntKind.i64.wrap ((IntKind.i64.wrap ((a.1:Int)*(b.2:Int)))+(IntKind.i64.wrap ((b.1:Int)*(a.2:Int))))) (IntKind.i64.wrap ((a.2:Int)*(b.2:Int)))) (some ((qT (IntKind.i64.wrap ((IntKind.i64.wrap ((a.1:Int)*(b.2:Int)))+(IntKind.i64.wrap ((b.1:Int)*(a.2:Int))))) (IntKind.i64.wrap ((a.2:Int)*(b.2:Int)))),()))))
def Γ96:Gam:=[(55,g55),(117,gA)]
theorem qYI:Gam.get Γ96 55=some g55/\Gam.get Γ96 117=some gA:=⟨rfl,rfl⟩
theorem p96:qi tr0 (Tryz.f96.body.getD .skip)=true:=by kernel_rfl
def T96 (N:Nat):Tab:={tr:=tr0,lp:=lp0,ex:=ex0,rg:=rg0,jn:=jn0,fuel:=N}
theorem qTD (N:Nat):qj Tryz.prog (T96 N):=qn fun _=>rfl
theorem qV9 (N:Nat):qr (T96 N) tr0 lp0 ex0 rg0 jn0 N false:=qt
theorem q2s (N:Nat) (a b:Zh):qd tt Γ96 (T96 N) (Tryz.f96.body.getD .skip) (qk tt true [i28] [.cell 4 28]) (qm [i28,i28] 31 (a,b,()))=m96 N a b:=by
 rw [m96];unfold Tryz.f96
 simp -implicitDefEqProofs [qV9,qYI,g55,gA]
 try rfl
def m77 (N:Nat) (a b:Zh):ZO [i28]:=bif (!((qh a):Bool))then (some (((0:Int),(0:Int)),()))else (bif (!((qh b):Bool))then (some (((0:Int),(0:Int)),()))else (chk (dn (IntKind.i64.wrap ((IntKind.i64.wrap ((a.1:Int)*(b.2:Int)))+(IntKind.i64.wrap ((b.1:Int)*(a.2:Int))))) (IntKind.i64.wrap ((a.2:Int)*(b.2:Int)))) (some ((qT (IntKind.i64.wrap ((IntKind.i64.wrap ((a.1:Int)*(b.2:Int)))+(IntKind.i64.wrap ((b.1:Int)*(a.2:Int))))) (IntKind.i64.wrap ((a.2:Int)*(b.2:Int)))),()))))
def Γ77:Gam:=[(43,g43),(108,gz)]
theorem qQV:Gam.get Γ77 43=some g43/\Gam.get Γ77 108=some gz:=⟨rfl,rfl⟩
theorem p77:qi tr0 (Tryz.f77.body.getD .skip)=true:=by kernel_rfl
def T77 (N:Nat):Tab:={tr:=tr0,lp:=lp0,ex:=ex0,rg:=rg0,jn:=jn0,fuel:=N}
theorem qSf (N:Nat):qj Tryz.prog (T77 N):=qn fun _=>rfl
theorem q2a (N:Nat):qr (T77 N) tr0 lp0 ex0 rg0 jn0 N false:=qt
theorem qTc (N:Nat) (a b:Zh):qd tt Γ77 (T77 N) (Tryz.f77.body.getD .skip) (qk tt true [i28] [.cell 4 28]) (qm [i28,i28] 31 (a,b,()))=m77 N a b:=by
 rw [m77];unfold Tryz.f77
 simp -implicitDefEqProofs [q2a,qQV,g43,gz]
 try rfl
def oS (a:Zh):Zh:=bif qh a then (-(a.1:Int),(a.2:Int))else noR
def vg:G:={ps:=[i28],rs:=[i28],dp:=true,pre:=fun _=>True,fn:=fun x=>(oS x.1,())}
def vh (N:Nat) (a:Zh):ZO [i28]:=bif (!((qh a):Bool))then (some (((0:Int),(0:Int)),()))else (some (((IntKind.i64.wrap (0 - (a.1:Int))),(a.2:Int)),()))
def CR:Gam:=[(55,g55)]
theorem qVD:Gam.get CR 55=some g55:=rfl
theorem qVM:qi tr0 (Tryz.f131.body.getD .skip)=true:=by kernel_rfl
def vi (N:Nat):Tab:={tr:=tr0,lp:=lp0,ex:=ex0,rg:=rg0,jn:=jn0,fuel:=N}
theorem qUF (N:Nat):qj Tryz.prog (vi N):=qn fun _=>rfl
theorem qU5 (N:Nat):qr (vi N) tr0 lp0 ex0 rg0 jn0 N false:=qt
theorem qSe (N:Nat) (a:Zh):qd tt CR (vi N) (Tryz.f131.body.getD .skip) (qk tt true [i28] [.cell 2 28]) (qm [i28] 13 (a,()))=vh N a:=by
 rw [vh];unfold Tryz.f131
 simp -implicitDefEqProofs [qU5,qVD,g55]
 try rfl
def oT (a b:Zh):Zh:=bF a (oS b)
def vj:G:={ps:=[i28,i28],rs:=[i28],dp:=true,pre:=fun _=>True,fn:=fun x=>(oT x.1 x.2.1,())}
def CS (N:Nat) (a b:Zh):ZO [i28]:=some ((bF a (oS b)),())
def vk:Gam:=[(96,g96),(131,vg)]
theorem qPn:Gam.get vk 96=some g96/\Gam.get vk 131=some vg:=⟨rfl,rfl⟩
def CT:List Bool:=[O,O,O,O,I]
def Oh:Nm:=⟨CT,[],false⟩
theorem qZ9:NmS Oh CT [] false:=nmS
def vl:Nat->Tree:=fun i=>if i=1 then .quiet 1 (.alt 0 (.alt 2 (.alt 3 (.alt 4 .done .stop) .stop) .stop) (.alt 2 (.quiet 0 (.alt 3 (.alt 4 .done .stop) .stop)) .stop))else .done
def CU:Nat->Option Nm:=fun i=>if i=1 then some Oh else none
theorem qTA:qi vl (Tryz.f116.body.getD .skip)=true:=by kernel_rfl
def vm (N:Nat):Tab:={tr:=vl,lp:=lp0,ex:=ex0,rg:=CU,jn:=jn0,fuel:=N}
theorem qWQ (N:Nat):qj Tryz.prog (vm N):=qn fun _=>rfl
theorem q0z (N:Nat):qr (vm N) vl lp0 ex0 CU jn0 N false:=qt
theorem qZ0 (N:Nat) (a b:Zh):qd tt vk (vm N) (Tryz.f116.body.getD .skip) (qk tt true [i28] [.cell 4 28]) (qm [i28,i28] 9 (a,b,()))=CS N a b:=by
 rw [CS];unfold Tryz.f116
 simp -implicitDefEqProofs [q0z,vl,CU,qZ9,CT,qPn,g96,vg]
 try rfl
def cm (n:Int):Zh:=(n,(1:Int))
def g74:G:={ps:=[i3],rs:=[i28],dp:=true,pre:=fun _=>True,fn:=fun x=>(cm x.1,())}
def m74 (N:Nat) (a:Int):ZO [i28]:=some ((a,(1:Int)),())
def Γ74:Gam:=[]
theorem p74:qi tr0 (Tryz.f74.body.getD .skip)=true:=by kernel_rfl
def T74 (N:Nat):Tab:={tr:=tr0,lp:=lp0,ex:=ex0,rg:=rg0,jn:=jn0,fuel:=N}
theorem qRU (N:Nat):qj Tryz.prog (T74 N):=qn fun _=>rfl
theorem qTn (N:Nat):qr (T74 N) tr0 lp0 ex0 rg0 jn0 N false:=qt
theorem qOQ (N:Nat) (a:Int):qd tt Γ74 (T74 N) (Tryz.f74.body.getD .skip) (qk tt true [i28] [.cell 2 28]) (qm [i3] 5 (a,()))=m74 N a:=by
 rw [m74];unfold Tryz.f74
 simp -implicitDefEqProofs [qTn]
 try rfl
theorem fj {r:Zh} (h:qh r=true): -400000000<=(r.2:Int)/\ @LE.le Int _ r.2 400000000:=⟨Int.le_trans (by decide) (cI h).2.1,(cI h).2.2⟩
theorem Oi {a b:Zh} (c:qh a=true) (d:qh b=true):IntKind.i64.wrap (IntKind.i64.wrap ((a.1:Int)*(b.2:Int))+IntKind.i64.wrap ((b.1:Int)*(a.2:Int)))=(a.1:Int)*b.2+(b.1:Int)*a.2/\IntKind.i64.wrap ((a.2:Int)*(b.2:Int))=(a.2:Int)*b.2/\dn ((a.1:Int)*b.2+(b.1:Int)*a.2) ((a.2:Int)*b.2):=by
 have m1:=hy (cI c).1 (fj d)
 have m2:=hy (cI d).1 (fj c)
 have m3:=hy (fj c) (fj d)
 rw [hz (cI c).1 (fj d),hz (cI d).1 (fj c),hz (fj c) (fj d)]
 unfold dn inI
 generalize (a.1:Int)*b.2=x at*
 generalize (b.1:Int)*a.2=y at*
 generalize (a.2:Int)*b.2=z at*
 exact ⟨bn (by omega) (by omega),rfl,⟨by omega,by omega⟩,⟨by omega,by omega⟩⟩
theorem qNl {x:Int} (h: -400000000<=x/\x<=400000000):IntKind.i64.wrap (0 - x)= -x:=by
 rw [Int.zero_sub]
 exact bn (by omega) (by omega)
theorem qOy {a:Zh} (b:qh a=true):IntKind.i64.wrap (0 - (a.1:Int))= -(a.1:Int):=by
 have h:=(cI b).1
 exact qNl h
theorem e96 (a b:Zh): ∃N,m96 N a b=some (bF a b,()):=⟨0,by
 rw [m96]
 unfold bF
 cases e:qh a with
 | false=>rfl
 | true=>
   cases f:qh b with
   | false=>rfl
   | true=>
     simp only [Bool.not_true,cond_false,Bool.and_self,cond_true]
     obtain ⟨c,d,g⟩:=Oi e f
     rw [c,d]
     exact qc g⟩
theorem s96:Sound Tryz.prog 96 g96:=qo (tt:=tt) (Γ:=Γ96) hT (qe s55 (qe B5 ql)) hm (fn:=Tryz.f96) Tryz.func96 (c:=Tryz.f96.body.getD .skip) (by kernel_rfl) (by kernel_rfl) fun x a=>by
 obtain ⟨N,h⟩:=e96 x.1 x.2.1
 exact ⟨T96 N,p96,qp _,qTD N,(q2s N x.1 x.2.1).trans h⟩
theorem e77 (a b:Zh): ∃N,m77 N a b=some (bF a b,()):=⟨0,by
 rw [m77]
 unfold bF
 cases e:qh a with
 | false=>rfl
 | true=>
   cases f:qh b with
   | false=>rfl
   | true=>
     simp only [Bool.not_true,cond_false,Bool.and_self,cond_true]
     obtain ⟨c,d,g⟩:=Oi e f
     rw [c,d]
     exact qc g⟩
theorem s77:Sound Tryz.prog 77 g77:=qo (tt:=tt) (Γ:=Γ77) hT (qe s43 (qe B7 ql)) hm (fn:=Tryz.f77) Tryz.func77 (c:=Tryz.f77.body.getD .skip) (by kernel_rfl) (by kernel_rfl) fun x a=>by
 obtain ⟨N,h⟩:=e77 x.1 x.2.1
 exact ⟨T77 N,p77,qp _,qSf N,(qTc N x.1 x.2.1).trans h⟩
theorem q1W (a:Zh): ∃N,vh N a=some (oS a,()):=⟨0,by
 rw [vh]
 unfold oS
 cases b:qh a with
 | false=>rfl
 | true=>
   simp only [Bool.not_true,cond_false,cond_true]
   rw [qOy b]⟩
theorem qVk:Sound Tryz.prog 131 vg:=qo (tt:=tt) (Γ:=CR) hT (qe s55 ql) hm (fn:=Tryz.f131) Tryz.func131 (c:=Tryz.f131.body.getD .skip) (by kernel_rfl) (by kernel_rfl) fun x a=>by
 obtain ⟨N,h⟩:=q1W x.1
 exact ⟨vi N,qVM,qp _,qUF N,(qSe N x.1).trans h⟩
theorem qNc (a b:Zh): ∃N,CS N a b=some (oT a b,()):=⟨0,rfl⟩
theorem qVK:Sound Tryz.prog 116 vj:=qo (tt:=tt) (Γ:=vk) hT (qe s96 (qe qVk ql)) hm (fn:=Tryz.f116) Tryz.func116 (c:=Tryz.f116.body.getD .skip) (by kernel_rfl) (by kernel_rfl) fun x a=>by
 obtain ⟨N,h⟩:=qNc x.1 x.2.1
 exact ⟨vm N,qTA,qp _,qWQ N,(qZ0 N x.1 x.2.1).trans h⟩
theorem e74 (n:Int): ∃N,m74 N n=some (cm n,()):=⟨0,rfl⟩
theorem s74:Sound Tryz.prog 74 g74:=qo (tt:=tt) (Γ:=Γ74) hT ql hm (fn:=Tryz.f74) Tryz.func74 (c:=Tryz.f74.body.getD .skip) (by kernel_rfl) (by kernel_rfl) fun x a=>by
 obtain ⟨N,h⟩:=e74 x.1
 exact ⟨T74 N,p74,qp _,qRU N,(qOQ N x.1).trans h⟩
def cV:Nat->Zj->Option (Zi)
 | 0,x=>some [x]
 | k+1,x=>bif (qW x k).2 then (match cV k (qW x k).1 with
   | some l=>some (l++[x])
   | none=>none)else none
def fL (c:Zj):Zi×Bool:=bif qI c then (match cV (c.1:Int).toNat (qS c.1 c.2)with
 | some l=>(l,true)
 | none=>([],false))else ([],false)
def g84:G:={ps:=[i35],rs:=[i92,i4],dp:=true,pre:=fun _=>True,fn:=fun x=>((fL x.1).1,(fL x.1).2,())}
def ku (N:Nat) (k0:(Zi)->ZO [i92,i4]):Nat->Int->(Zi)->ZO [i92,i4]
 | 0,_,_=>none
 | n+1,a,b=>bif (decide ((0:Int)<=a))then (chk (0<=(IntKind.i64.wrap (a+(1:Int)))/\(IntKind.i64.wrap (a+(1:Int)))<(b.length:Int)) (chk ((IntKind.i64.wrap (a+(1:Int))).toNat<b.length) (bif (!((ek (b.getD ((IntKind.i64.wrap (a+(1:Int))).toNat) (qa Y35)) a).2:Bool))then (some (([]:Zi),false,()))else (chk (0<=a/\a<(b.length:Int)) (chk (a.toNat<b.length) (ku N k0 n (IntKind.i64.wrap (a - (1:Int))) (b.set a.toNat ((ek (b.getD ((IntKind.i64.wrap (a+(1:Int))).toNat) (qa Y35)) a).1))))))))else (k0 b)
def m84 (N:Nat) (a:Zj):ZO [i92,i4]:=bif (!((qI a):Bool))then (some (([]:Zi),false,()))else (chk (0<=(IntKind.i64.wrap ((a.1:Int)+(1:Int)))/\(IntKind.i64.wrap ((a.1:Int)+(1:Int)))<=(IntKind.i64.wrap ((a.1:Int)+(1:Int)))/\(IntKind.i64.wrap ((a.1:Int)+(1:Int)))<=1048576) (chk (dy (a.1:Int) (a.2:Ze)) (chk (0<=(a.1:Int)/\(a.1:Int)<((List.replicate (IntKind.i64.wrap ((a.1:Int)+(1:Int))).toNat (qa Y35)).length:Int)) (chk ((a.1:Int).toNat<(List.replicate (IntKind.i64.wrap ((a.1:Int)+(1:Int))).toNat (qa Y35)).length) (ku N (fun (b:Zi)=>some (b,true,())) N (IntKind.i64.wrap ((a.1:Int) - (1:Int))) ((List.replicate (IntKind.i64.wrap ((a.1:Int)+(1:Int))).toNat (qa Y35)).set ((a.1:Int).toNat) (qS (a.1:Int) (a.2:Ze))))))))
def Γ84:Gam:=[(45,g45),(112,gl),(113,kk)]
theorem Oj:Gam.get Γ84 45=some g45/\Gam.get Γ84 112=some gl/\Gam.get Γ84 113=some kk:=⟨rfl,rfl,rfl⟩
def vn:List Bool:=[O,O,O,O,I,I]
def CV:Nm:=⟨vn,[],false⟩
theorem Ol:NmS CV vn [] false:=nmS
def CW:List Bool:=[O,O,O,O,I]
def Om:Nm:=⟨CW,[],false⟩
theorem qNV:NmS Om CW [] false:=nmS
def CX:List Bool:=[O,I,O,O,I]
def On:Nm:=⟨CX,[],false⟩
theorem qQN:NmS On CX [] false:=nmS
def vo:Nat->Tree:=fun i=>if i=4 then .quiet 3 (.quiet 4 (.quiet 5 (.quiet 6 (.first 0 (.alt 1 (.alt 2 (.alt 7 (.quiet 8 (.alt 9 .done .stop)) .stop) (.alt 7 (.quiet 2 (.quiet 8 (.alt 9 .done .stop))) .stop)) (.alt 7 (.quiet 1 (.quiet 2 (.quiet 8 (.alt 9 .done .stop)))) .stop))))))else .done
def CY:Nat->Nm:=fun i=>if i=6 then CV else ⟨[],[],false⟩
def CZ:Nat->Option Nm:=fun i=>if i=0 then some Om else none
def oU:Nat->Option Nm:=fun i=>if i=4 then some On else none
theorem p84:qi vo (Tryz.f84.body.getD .skip)=true:=by kernel_rfl
def T84 (N:Nat):Tab:={tr:=vo,lp:=CY,ex:=CZ,rg:=oU,jn:=jn0,fuel:=N}
theorem qQM (N:Nat):qj Tryz.prog (T84 N):=qn fun _=>rfl
theorem C0 (N:Nat):qr (T84 N) vo CY CZ oU jn0 N false:=qt
def Oo:Code:=cut [I,I,I,I,O,I,I,I] (Tryz.f84.body.getD .skip)
theorem qV0 (N:Nat) {k0:(Zi)->ZO [i92,i4]} {Q:ZQ [i92,i4]} {c:Code} (f:c=Oo) (g: ∀st,Q .ret st=qz tt true [i92,i4] [.tmp 2,.tmp 3] st) (e: ∀(d:Zi),Q (.exit 0) ⟨[u,u,u,u,.one (.own 0),u,u,u,u,u,u,u,u,u,u,u,u,u,u,u,u,u,u,u,u,u,u,u,u,u,u,u,u,u,u,u,u,u,u,u,u,u,u,u,u,u,u,u],[.row 35 Y35 d true true 0]⟩=k0 d): ∀(n:Nat) (a:Int) (b:Zi),qw (qd tt Γ84 (T84 N) c) false CV Q n ⟨[u,u,u,u,.one (.own 0),.one (.int .i64 a),u,u,u,u,u,u,u,u,u,u,u,u,u,u,u,u,u,u,u,u,u,u,u,u,u,u,u,u,u,u,u,u,u,u,u,u,u,u,u,u,u,u],[.row 35 Y35 b true true 0]⟩=ku N k0 n a b:=by
 intro n;induction n with
 | zero=>intros;rfl
 | succ n h=>
   intro a b
   rw [qD,qE f,ku];unfold Oo Tryz.f84
   simp -implicitDefEqProofs [C0,CZ,oU,Ol,vn,qNV,CW,Oj,kk,g,e,h]
theorem qWq (N:Nat) (a:Zj):qd tt Γ84 (T84 N) (Tryz.f84.body.getD .skip) (qk tt true [i92,i4] [.tmp 2,.tmp 3]) (qm [i35] 48 (a,()))=m84 N a:=by
 unfold Tryz.f84
 simp -implicitDefEqProofs [C0,vo,CY,oU,Ol,vn,qQN,CX,Oj,g45,gl]
 rewrite [qV0 (k0:=(fun (b:Zi)=>some (b,true,()))) N ?_ ?_ ?_]
 ·rewrite [m84];first | rfl | simp -implicitDefEqProofs []
 ·rfl
 ·intro;simp only [qA,qC,qJ]
 ·intro b;simp -implicitDefEqProofs [C0,oU]
abbrev dC:Zj:=qa Y35
theorem q2V {α:Type} (k:Nat) (d x:α) (t:List α):(List.replicate k d++x::t).getD k d=x:=by
 simp [List.getD]
theorem Oq {α:Type} (k:Nat) (d x:α) (t:List α):(List.replicate (k+1) d++t).set k x=List.replicate k d++x::t:=by
 rw [List.replicate_succ',List.append_assoc,List.set_append_right _ _ (by simp)]
 simp
theorem qXD {d:Int} {x:Zj} {k:Nat} (c:okN d x) (hk:(k:Int)<d):ek x k=qW x k:=by
 obtain ⟨h1,h2,a⟩:=c
 have b:0<=(k:Int)/\(k:Int)<(x.1:Int):=⟨by omega,by rw [a];omega⟩
 unfold ek;rw [h1,decide_eq_true b];rfl
theorem q3b {d:Int} {x:Zj} {k:Nat} (a:okN d x) (hm:(qW x k).2=true):okN d (qW x k).1:=by
 have:=kp a.1 hm
 rw [a.2.2]at this
 exact this
abbrev qXi:ZO [i92,i4]:=some (([]:Zi),false,())
theorem t84 (N:Nat) (d:Int) (hd:0<=d/\d<=4) (K:Zi->ZO [i92,i4]): ∀(k:Nat) (x:Zj) (t:Zi),okN d x->(k:Int)<=d-> ∀n,k<n->
 ku N K n ((k:Int) - 1) (List.replicate k dC++x::t)=match cV k x with
  | some l=>K (l++t)
  | none=>qXi
 | 0,x,t,_,_,n+1,_=>by
   rw [ku,qf (by omega)]
   rfl
 | k+1,x,t,a,hk,n+1,h=>by
   have e:((k+1:Nat):Int) - 1=(k:Int):=by omega
   have b:IntKind.i64.wrap ((k:Int)+1)=((k+1:Nat):Int):=by rw [bn (by omega) (by omega)];omega
   have c:IntKind.i64.wrap ((k:Int) - 1)=(k:Int) - 1:=bn (by omega) (by omega)
   have g:(List.replicate (k+1) dC++x::t).length=k+1+(t.length+1):=by simp;omega
   have g1:(List.replicate (k+1) dC++x::t).getD (((k+1:Nat):Int)).toNat (qa Y35)=x:=q2V (k+1) dC x t
   rw [e,ku,qg (by omega),b,c,qc (by omega),qc (by omega),g1,qXD a (by omega),cV]
   cases hm:(qW x k).2 with
   | false=>rfl
   | true=>
     have f:=q3b a hm
     simp only [Bool.not_true,cond_false,cond_true]
     rw [qc (by omega),qc (by omega)]
     have ex:(((((qW x k).1).1:Int),(((qW x k).1).2:Ze)):Zj)=(qW x k).1:=rfl
     have es:(List.replicate (k+1) dC++x::t).set (k:Int).toNat (qW x k).1=List.replicate k dC++(qW x k).1::x::t:=Oq k dC _ _
     try rw [ex]
     rw [es,t84 N d hd K k (qW x k).1 (x::t) f (by omega) n (by omega)]
     cases cV k (qW x k).1 with
     | none=>rfl
     | some l=>simp
theorem e84 (c:Zj): ∃N,m84 N c=some ((fL c).1,(fL c).2,()):=⟨6,by
 rw [m84]
 unfold fL
 cases b:qI c with
 | false=>rfl
 | true=>
 obtain ⟨hd,j,k⟩:=bB b
 obtain ⟨i,a⟩:=iS b
 obtain ⟨d,xs⟩:=c
 change Int at d
 change List (Zf)at xs
 change 0<=d/\d<=4 at hd
 change okN d _ at a
 have e:IntKind.i64.wrap (d+1)=d+1:=bn (by omega) (by omega)
 have f:IntKind.i64.wrap (d - 1)=d - 1:=bn (by omega) (by omega)
 have h:((d.toNat:Nat):Int)=d:=Int.toNat_of_nonneg hd.1
 have g:(d+1).toNat=d.toNat+1:=by omega
 simp only [Bool.not_true,cond_false,cond_true]
 rw [e,f,qc (by omega),qc (show dy d xs from i),g,qc (show 0<=d/\d<(((List.replicate (d.toNat+1) dC).length:Nat):Int) from by rw [List.length_replicate];omega),qc (show d.toNat<(List.replicate (d.toNat+1) dC).length from by rw [List.length_replicate];omega)]
 have ex:((((qS d xs).1:Int),((qS d xs).2:Ze)):Zj)=qS d xs:=rfl
 have es:(List.replicate (d.toNat+1) (qa Y35)).set d.toNat (qS d xs)=List.replicate d.toNat dC++[qS d xs]:=by
  have:=Oq d.toNat dC (qS d xs) []
  rw [List.append_nil]at this
  exact this
 have t:=fun K=>t84 6 d hd K d.toNat (qS d xs) [] a (by omega) 6 (by omega)
 simp only [h]at t
 try rw [ex]
 rw [es]
 refine (t _).trans ?_
 cases cV d.toNat (qS d xs)with
 | none=>rfl
 | some l=>simp⟩
theorem s84:Sound Tryz.prog 84 g84:=qo (tt:=tt) (Γ:=Γ84) hT (qe s45 (qe AO (qe Nh ql))) hm (fn:=Tryz.f84) Tryz.func84 (c:=Tryz.f84.body.getD .skip) (by kernel_rfl) (by kernel_rfl) fun x a=>by
 obtain ⟨N,h⟩:=e84 x.1
 exact ⟨T84 N,p84,qp _,qQM N,(qWq N x.1).trans h⟩
theorem qYe {α:Type} {b:Bool} {x x' y a:α} (h:x=x') (h':y=a):cond b x y=cond b x' a:=by rw [h,h']
def cpC (c:Zj):Zj:=c
def fM (c:Zj):Prop:=Bd Y35 c
def g75:G:={ps:=[i35],rs:=[i35],dp:=true,pre:=fun x=>fM x.1,fn:=fun x=>(cpC x.1,())}
def kv (N:Nat) (d:Int) (b:Ze) (e f:Int) (k0:(Ze)->ZO [i35]):Nat->Int->(Ze)->ZO [i35]
 | 0,_,_=>none
 | n+1,a,c=>bif (decide (a<(b.length:Int)))then (chk (0<=a/\a<(b.length:Int)) (chk (cx (b.getD a.toNat (qa Y68))) (chk (c.length+([(idA (b.getD a.toNat (qa Y68)))]:Ze).length<=1048576) (kv N d b e f k0 n (IntKind.i64.wrap (a+(1:Int))) (c++([(idA (b.getD a.toNat (qa Y68)))]:Ze))))))else (k0 c)
def m75 (N:Nat) (a:Zj):ZO [i35]:=kv N (a.1:Int) (a.2:Ze) (0:Int) (a.1:Int) (fun (b:Ze)=>some (((a.1:Int),b),())) N (0:Int) ([]:Ze)
def Γ75:Gam:=[(99,g99)]
theorem q0n:Gam.get Γ75 99=some g99:=rfl
def vp:List Bool:=[O,I,I,I,I]
def C1:Nm:=⟨vp,[.box 3 1 68 Y68],false⟩
theorem Ot:NmS C1 vp [.box 3 1 68 Y68] false:=nmS
def C2:List Bool:=[O,O,I,I]
def Ou:Nm:=⟨C2,[],false⟩
theorem qYr:NmS Ou C2 [] false:=nmS
def C3:List Bool:=[O,I,I,I,I]
def Ov:Nm:=⟨C3,[],false⟩
theorem qST:NmS Ov C3 [] false:=nmS
def vq:Nat->Tree:=fun i=>if i=5 then .quiet 2 (.quiet 3 (.quiet 4 (.quiet 5 (.quiet 6 (.alt 0 (.alt 1 (.alt 7 (.alt 8 (.alt 9 (.quiet 10 (.alt 11 .done .stop)) .stop) .stop) .stop) (.alt 7 (.alt 1 (.alt 8 (.alt 9 (.quiet 10 (.alt 11 .done .stop)) .stop) .stop) (.alt 8 (.quiet 1 (.alt 9 (.quiet 10 (.alt 11 .done .stop)) .stop)) .stop)) .stop)) (.alt 7 (.alt 0 (.alt 1 (.alt 8 (.alt 9 (.quiet 10 (.alt 11 .done .stop)) .stop) .stop) (.alt 8 (.quiet 1 (.alt 9 (.quiet 10 (.alt 11 .done .stop)) .stop)) .stop)) (.alt 8 (.quiet 0 (.quiet 1 (.alt 9 (.quiet 10 (.alt 11 .done .stop)) .stop))) .stop)) .stop))))))else .done
def C4:Nat->Nm:=fun i=>if i=3 then C1 else ⟨[],[],false⟩
def C5:Nat->Option Nm:=fun i=>if i=0 then some Ou else none
def oV:Nat->Option Nm:=fun i=>if i=5 then some Ov else none
theorem p75:qi vq (Tryz.f75.body.getD .skip)=true:=by kernel_rfl
def T75 (N:Nat):Tab:={tr:=vq,lp:=C4,ex:=C5,rg:=oV,jn:=jn0,fuel:=N}
theorem qRK (N:Nat):qj Tryz.prog (T75 N):=qn fun _=>rfl
theorem C6 (N:Nat):qr (T75 N) vq C4 C5 oV jn0 N false:=qt
def Ow:Code:=cut [I,I,O,I,I,I] (Tryz.f75.body.getD .skip)
theorem qNf (N:Nat) (f:Int) (g:Ze) (b d:Int) {k0:(Ze)->ZO [i35]} {Q:ZQ [i35]} {c:Code} (j:c=Ow) (l: ∀st,Q .ret st=qz tt true [i35] [.cell 2 35] st) (i: ∀(h:Ze),Q (.exit 0) ⟨[u,u,.one (.ptr 0 0 0),.one (.ptr 1 0 0),u,u,u,u,u,u,u,u,u,u,u,u,u,u,u,u,u,u,u,u,u,u,u],[.box [.int .i64 b,.nils],.box [.int .i64 d,.own 2],.row 68 Y68 h true true 0]⟩=k0 h): ∀(n:Nat) (a:Int) (e:Ze),qw (qd tt Γ75 (T75 N) c) false C1 Q n ⟨[u,.one (.ptr 0 0 0),.one (.ptr 1 0 0),.one (.ptr 2 0 0),.one (.int .i64 a),u,u,u,u,u,u,u,u,u,u,u,u,u,u,u,u,u,u,u,u,u,u],[.box [.int .i64 f,.sl 68 Y68 g 4],.box [.int .i64 b,.nils],.box [.int .i64 d,.own 3],.row 68 Y68 e true true 0]⟩=kv N f g b d k0 n a e:=by
 intro n;induction n with
 | zero=>intros;rfl
 | succ n k=>
   intro a e
   rw [qD,qE j,kv];unfold Ow Tryz.f75
   simp -implicitDefEqProofs [C6,vq,C5,oV,Ot,vp,qYr,C2,qST,C3,q0n,g99,i,k]
theorem q1P (N:Nat) (a:Zj):qd tt Γ75 (T75 N) (Tryz.f75.body.getD .skip) (qk tt true [i35] [.cell 2 35]) (qm [i35] 27 (a,()))=m75 N a:=by
 unfold Tryz.f75
 simp -implicitDefEqProofs [C6,C4,oV,Ot,vp]
 rewrite [qNf N _ _ _ _ ?_ ?_ ?_]
 ·rewrite [m75];first | rfl | simp -implicitDefEqProofs []
 ·rfl
 ·intro;simp only [qA,qC,qJ]
 ·intro b;simp -implicitDefEqProofs [C6,oV]
theorem e75 (c:Zj) (h:fM c): ∃N,m75 N c=some (cpC c,()):=⟨List.length (α:=Zf) c.2+1,by
 obtain ⟨d,xs⟩:=c
 change Int at d
 change List (Zf)at xs
 obtain ⟨-,h1,h2⟩:=h
 replace h1:xs.length<=1048576:=h1
 rw [m75,cpC]
 refine (bp (F:=fun n i s=>kv _ d xs 0 d _ n i s) (step:=fun _ x s K=>chk (s.length+[x].length<=1048576) (K (s++[x]))) (k:=fun s=>some ((d,s),())) h1 (fun n i s a=> ?_) (fun n i s a=> ?_) _ [] (Nat.lt_succ_self _)).trans ?_
 ·rw [kv,qg (by omega),qc (by omega),qB a,qc (show cx _ from (h2 _ (List.getElem_mem a)).1.1)]
  rfl
 ·rw [kv,qf (by omega)]
 ·exact (mf (f:=fun x=>x) xs 0 [] (by simpa using h1)).trans (by simp)⟩
theorem s75:Sound Tryz.prog 75 g75:=qo (tt:=tt) (Γ:=Γ75) hT (qe s99 ql) hm (fn:=Tryz.f75) Tryz.func75 (c:=Tryz.f75.body.getD .skip) (by kernel_rfl) (by kernel_rfl) fun x a=>by
 obtain ⟨N,h⟩:=e75 x.1 a
 exact ⟨T75 N,p75,qp _,qRK N,(q1P N x.1).trans h⟩
theorem Ox {d:Int} {l:Ze} (h: ∀a∈l,okD d a) (c:l.length<=1048576):Bd Y35 ((d,l):Zj):=
 ⟨trivial,c,fun a b=>⟨⟨by have:=(ch (h a b).1).1;show List.length (α:=Int) a.1<=1048576;omega,fun _ _=>trivial⟩,trivial,trivial⟩⟩
abbrev qNJ:Zf×Bool:=(([],((0:Int),false)),false)
def c7 (co:Zb) (v:Nat) (e:Int):Zb:=(List.map (α:=Int) (fun x=>x*e) co).set v (0:Int)
def bL (a:Zf) (v:Int) (r:Zh):Zf×Bool:=bif qy a&&qh r&&decide (0<=v/\v<(List.length (α:=Int) a.1:Int))then qx (c7 a.1 v.toNat r.2) ((a.2.1:Int)*r.2+(List.getD (α:=Int) a.1 v.toNat 0)*r.1) a.2.2 else qNJ
def vr (a:Zf) (_:Int) (_:Zh):Prop:=cx a
def g86:G:={ps:=[i68,i3,i28],rs:=[i68,i4],dp:=true,pre:=fun _=>True,fn:=fun x=>((bL x.1 x.2.1 x.2.2.1).1,(bL x.1 x.2.1 x.2.2.1).2,())}
def iX (N:Nat) (h e:Int) (c:Zb) (i:Int) (j:Bool) (k d f:Int) (g:Bool) (k0:(Zb)->ZO [i68,i4]):Nat->Int->(Zb)->ZO [i68,i4]
 | 0,_,_=>none
 | n+1,a,b=>bif (decide (a<e))then (chk (0<=a/\a<(c.length:Int)) (chk (0<=a/\a<(b.length:Int)) (chk (a.toNat<b.length) (iX N h e c i j k d f g k0 n (IntKind.i64.wrap (a+(1:Int))) (b.set a.toNat (IntKind.i64.wrap (((c.getD a.toNat (qa Zd)):Int)*d)))))))else (k0 b)
def m86 (N:Nat) (a:Zf) (b:Int) (c:Zh):ZO [i68,i4]:=bif (!((qy a):Bool))then (some ((([]:Zb),(0:Int),false),false,()))else (bif (!((qh c):Bool))then (some ((([]:Zb),(0:Int),false),false,()))else (bif (decide (b<(0:Int)))then (some ((([]:Zb),(0:Int),false),false,()))else (bif (decide (((a.1:Zb).length:Int)<=b))then (some ((([]:Zb),(0:Int),false),false,()))else (chk (0<=((a.1:Zb).length:Int)/\((a.1:Zb).length:Int)<=((a.1:Zb).length:Int)/\((a.1:Zb).length:Int)<=1048576) (iX N b ((List.replicate ((a.1:Zb).length:Int).toNat (qa Zd)).length:Int) (a.1:Zb) (a.2.1:Int) (a.2.2:Bool) (c.1:Int) (c.2:Int) (0:Int) false (fun (d:Zb)=>chk (0<=b/\b<(d.length:Int)) (chk (b.toNat<d.length) (chk (0<=b/\b<((a.1:Zb).length:Int)) (chk (bx (d.set b.toNat (0:Int)) (IntKind.i64.wrap ((IntKind.i64.wrap ((a.2.1:Int)*(c.2:Int)))+(IntKind.i64.wrap ((((a.1:Zb).getD b.toNat (qa Zd)):Int)*(c.1:Int))))) (a.2.2:Bool)) (some ((qx (d.set b.toNat (0:Int)) (IntKind.i64.wrap ((IntKind.i64.wrap ((a.2.1:Int)*(c.2:Int)))+(IntKind.i64.wrap ((((a.1:Zb).getD b.toNat (qa Zd)):Int)*(c.1:Int))))) (a.2.2:Bool)).1,((qx (d.set b.toNat (0:Int)) (IntKind.i64.wrap ((IntKind.i64.wrap ((a.2.1:Int)*(c.2:Int)))+(IntKind.i64.wrap ((((a.1:Zb).getD b.toNat (qa Zd)):Int)*(c.1:Int))))) (a.2.2:Bool)).2:Bool),())))))) N (0:Int) (List.replicate ((a.1:Zb).length:Int).toNat (qa Zd)))))))
def Γ86:Gam:=[(55,g55),(80,g80),(91,g91)]
theorem Oy:Gam.get Γ86 55=some g55/\Gam.get Γ86 80=some g80/\Gam.get Γ86 91=some g91:=⟨rfl,rfl,rfl⟩
def vt:List Bool:=[O,I,O,I,O,I,I,O,I,O,O,O,O,O,O,O,O,O,O,O,O,O,O,O,O,O,O,O,O,O,O,O,O,O,O,I,I]
def C7:Nm:=⟨vt,[],false⟩
theorem Oz:NmS C7 vt [] false:=nmS
def C8:List Bool:=[O,I,O,I,O,I,I,O,I]
def OA:Nm:=⟨C8,[],false⟩
theorem qTz:NmS OA C8 [] false:=nmS
def oW:Nat->Tree:=fun i=>if i=7 then .quiet 0 (.quiet 1 (.quiet 2 (.quiet 3 (.quiet 4 (.quiet 5 (.quiet 6 (.quiet 7 (.quiet 8 (.quiet 9 (.quiet 10 (.alt 11 .done .stop)))))))))))else if i=10 then .quiet 0 (.quiet 1 (.quiet 2 (.quiet 3 (.quiet 4 (.quiet 5 (.quiet 6 (.quiet 7 (.quiet 8 (.quiet 9 (.quiet 10 (.quiet 11 (.quiet 12 (.quiet 13 (.quiet 14 (.quiet 15 (.quiet 16 (.alt 17 (.quiet 18 (.quiet 19 (.alt 20 (.quiet 21 .done) .stop))) .stop)))))))))))))))))else .done
def C9:Nat->Nm:=fun i=>if i=5 then C7 else ⟨[],[],false⟩
def Da:Nat->Option Nm:=fun i=>if i=0 then some OA else none
theorem p86:qi oW (Tryz.f86.body.getD .skip)=true:=by kernel_rfl
def T86 (N:Nat):Tab:={tr:=oW,lp:=C9,ex:=Da,rg:=rg0,jn:=jn0,fuel:=N}
theorem qTH (N:Nat):qj Tryz.prog (T86 N):=qn fun _=>rfl
theorem Db (N:Nat):qr (T86 N) oW C9 Da rg0 jn0 N false:=qt
def OB:Code:=cut [I,I,I,O,I,I,I] (Tryz.f86.body.getD .skip)
theorem q16 (N:Nat) (f m:Int) (h:Zb) (i:Int) (j:Bool) (k a b:Int) (d:Bool) {k0:(Zb)->ZO [i68,i4]} {Q:ZQ [i68,i4]} {c:Code} (p:c=OB) (r: ∀st,Q .ret st=qz tt true [i68,i4] [.cell 6 68,.tmp 7] st) (o: ∀(l:Zb),Q (.exit 0) ⟨[u,.one (.int .i64 f),u,.one (.ptr 0 0 0),u,.one (.ptr 1 0 0),.one (.ptr 2 0 0),u,.one (.own 3),u,u,u,u,u,u,u,u,u,u,u,u,u,u,u,u,u,u,u,u,u,u,u,u,u,u,u,u,u,u,u,u,u,u,u,u,u,u,u,u,u,u,u,u,u,u,u,u,u,u,u,u,u,u,u,u,u,u,u,u,u,u,u,u,u],[.box [.sl 3 Zd h 4,.int .i64 i,.bool j],.box [.int .i64 k,.int .i64 a],.box [.nils,.int .i64 b,.bool d],.row 3 Zd l true true 0]⟩=k0 l): ∀(n:Nat) (g:Int) (e:Zb),qw (qd tt Γ86 (T86 N) c) false C7 Q n ⟨[u,.one (.int .i64 f),u,.one (.ptr 0 0 0),u,.one (.ptr 1 0 0),.one (.ptr 2 0 0),u,.one (.own 3),u,u,u,u,u,u,u,u,u,u,u,u,u,u,u,u,u,u,u,u,u,u,u,u,u,u,.one (.int .i64 m),.one (.int .i64 g),u,u,u,u,u,u,u,u,u,u,u,u,u,u,u,u,u,u,u,u,u,u,u,u,u,u,u,u,u,u,u,u,u,u,u,u,u],[.box [.sl 3 Zd h 4,.int .i64 i,.bool j],.box [.int .i64 k,.int .i64 a],.box [.nils,.int .i64 b,.bool d],.row 3 Zd e true true 0]⟩=iX N f m h i j k a b d k0 n g e:=by
 intro n;induction n with
 | zero=>intros;rfl
 | succ n q=>
   intro g e
   rw [qD,qE p,iX];unfold OB Tryz.f86
   simp -implicitDefEqProofs [Db,oW,Da,Oz,vt,qTz,C8,o,q]
theorem qRc (N:Nat) (b:Zf) (a:Int) (c:Zh):qd tt Γ86 (T86 N) (Tryz.f86.body.getD .skip) (qk tt true [i68,i4] [.cell 6 68,.tmp 7]) (qm [i68,i3,i28] 74 (b,a,c,()))=m86 N b a c:=by
 unfold Tryz.f86
 simp -implicitDefEqProofs [Db,C9,Oz,vt,Oy,g55,g80]
 rewrite [q16 (k0:=(fun (d:Zb)=>chk (0<=a/\a<(d.length:Int)) (chk (a.toNat<d.length) (chk (0<=a/\a<((b.1:Zb).length:Int)) (chk (bx (d.set a.toNat (0:Int)) (IntKind.i64.wrap ((IntKind.i64.wrap ((b.2.1:Int)*(c.2:Int)))+(IntKind.i64.wrap ((((b.1:Zb).getD a.toNat (qa Zd)):Int)*(c.1:Int))))) (b.2.2:Bool)) (some ((qx (d.set a.toNat (0:Int)) (IntKind.i64.wrap ((IntKind.i64.wrap ((b.2.1:Int)*(c.2:Int)))+(IntKind.i64.wrap ((((b.1:Zb).getD a.toNat (qa Zd)):Int)*(c.1:Int))))) (b.2.2:Bool)).1,((qx (d.set a.toNat (0:Int)) (IntKind.i64.wrap ((IntKind.i64.wrap ((b.2.1:Int)*(c.2:Int)))+(IntKind.i64.wrap ((((b.1:Zb).getD a.toNat (qa Zd)):Int)*(c.1:Int))))) (b.2.2:Bool)).2:Bool),()))))))) N _ _ _ _ _ _ _ _ _ ?_ ?_ ?_]
 ·rewrite [m86];first | rfl | simp -implicitDefEqProofs []
 ·rfl
 ·intro;simp only [qA,qC,qJ]
 ·intro d;simp -implicitDefEqProofs [Db,oW,Oy,g91]
def g70:G:={ps:=[i68,i3,i28],rs:=[i68,i4],dp:=true,pre:=fun x=>vr x.1 x.2.1 x.2.2.1,fn:=fun x=>((bL x.1 x.2.1 x.2.2.1).1,(bL x.1 x.2.1 x.2.2.1).2,())}
def iY (N:Nat) (e:Int) (b:Zb) (h:Int) (i:Bool) (j d f:Int) (g:Bool) (k0:(Zb)->ZO [i68,i4]):Nat->Int->(Zb)->ZO [i68,i4]
 | 0,_,_=>none
 | n+1,a,c=>bif (decide (a<(b.length:Int)))then (bif (decide (a=e))then (chk (c.length+([(0:Int)]:Zb).length<=1048576) (iY N e b h i j d f g k0 n (IntKind.i64.wrap (a+(1:Int))) (c++([(0:Int)]:Zb))))else (chk (0<=a/\a<(b.length:Int)) (chk (c.length+([(IntKind.i64.wrap (((b.getD a.toNat (qa Zd)):Int)*d))]:Zb).length<=1048576) (iY N e b h i j d f g k0 n (IntKind.i64.wrap (a+(1:Int))) (c++([(IntKind.i64.wrap (((b.getD a.toNat (qa Zd)):Int)*d))]:Zb))))))else (k0 c)
def m70 (N:Nat) (a:Zf) (c:Int) (b:Zh):ZO [i68,i4]:=bif (!((qy a):Bool))then (some ((([]:Zb),(0:Int),false),false,()))else (bif (!((qh b):Bool))then (some ((([]:Zb),(0:Int),false),false,()))else (bif (!((inR c (0:Int) (IntKind.i64.wrap (((a.1:Zb).length:Int) - (1:Int)))):Bool))then (some ((([]:Zb),(0:Int),false),false,()))else (iY N c (a.1:Zb) (a.2.1:Int) (a.2.2:Bool) (b.1:Int) (b.2:Int) (0:Int) false (fun (d:Zb)=>chk (0<=c/\c<((a.1:Zb).length:Int)) (chk (bx d (IntKind.i64.wrap ((IntKind.i64.wrap ((a.2.1:Int)*(b.2:Int)))+(IntKind.i64.wrap ((((a.1:Zb).getD c.toNat (qa Zd)):Int)*(b.1:Int))))) (a.2.2:Bool)) (some ((qx d (IntKind.i64.wrap ((IntKind.i64.wrap ((a.2.1:Int)*(b.2:Int)))+(IntKind.i64.wrap ((((a.1:Zb).getD c.toNat (qa Zd)):Int)*(b.1:Int))))) (a.2.2:Bool)).1,((qx d (IntKind.i64.wrap ((IntKind.i64.wrap ((a.2.1:Int)*(b.2:Int)))+(IntKind.i64.wrap ((((a.1:Zb).getD c.toNat (qa Zd)):Int)*(b.1:Int))))) (a.2.2:Bool)).2:Bool),())))) N (0:Int) ([]:Zb))))
def Γ70:Gam:=[(43,g43),(61,g61),(62,g62),(65,g65)]
theorem OC:Gam.get Γ70 43=some g43/\Gam.get Γ70 61=some g61/\Gam.get Γ70 62=some g62/\Gam.get Γ70 65=some g65:=⟨rfl,rfl,rfl,rfl⟩
def vu:List Bool:=[O,I,O,I,O,I,I,O,I,I]
def Dc:Nm:=⟨vu,[],false⟩
theorem OD:NmS Dc vu [] false:=nmS
def Dd:List Bool:=[O,I,O,I,O,I,I,O,I]
def OE:Nm:=⟨Dd,[],false⟩
theorem qPG:NmS OE Dd [] false:=nmS
def De:List Bool:=[O,O,O,O,O,O,I,O,O,O,I,I]
def OF:Nm:=⟨De,[],false⟩
theorem qQQ:NmS OF De [] false:=nmS
def oX:Nat->Tree:=fun i=>if i=9 then .quiet 1 (.quiet 2 (.quiet 3 (.quiet 4 (.quiet 5 (.quiet 6 (.quiet 7 (.quiet 8 (.first 0 (.alt 9 (.alt 10 (.quiet 11 .done) .stop) .stop)))))))))else if i=10 then .first 0 (.first 8 (.grow 1 (.grow 2 (.grow 3 (.grow 4 (.first 5 (.grow 6 (.grow 7 (.grow 9 (.grow 10 (.grow 11 (.grow 12 (.first 13 (.first 14 (.grow 15 (.grow 16 (.alt 17 (.first 18 (.first 19 (.first 20 (.alt 21 (.alt 22 (.quiet 23 .done) .stop) .stop)))) (.alt 21 (.alt 17 (.quiet 18 (.quiet 19 (.first 20 (.alt 22 (.quiet 23 .done) .stop)))) .stop) .stop))))))))))))))))))else .done
def Df:Nat->Nm:=fun i=>if i=5 then Dc else ⟨[],[],false⟩
def Dg:Nat->Option Nm:=fun i=>if i=0 then some OE else none
def oY:Nat->Option Nm:=fun i=>if i=10 then some OF else none
theorem p70:qi oX (Tryz.f70.body.getD .skip)=true:=by kernel_rfl
def T70 (N:Nat):Tab:={tr:=oX,lp:=Df,ex:=Dg,rg:=oY,jn:=jn0,fuel:=N}
theorem q0r (N:Nat):qj Tryz.prog (T70 N):=qn fun _=>rfl
theorem Dh (N:Nat):qr (T70 N) oX Df Dg oY jn0 N false:=qt
def OG:Code:=cut [I,I,I,O,I,I,I] (Tryz.f70.body.getD .skip)
theorem q0X (N:Nat) (e:Int) (g:Zb) (h:Int) (i:Bool) (j k a:Int) (b:Bool) {k0:(Zb)->ZO [i68,i4]} {Q:ZQ [i68,i4]} {c:Code} (o:c=OG) (q: ∀st,Q .ret st=qz tt true [i68,i4] [.cell 6 68,.tmp 7] st) (m: ∀(l:Zb),Q (.exit 0) ⟨[u,.one (.int .i64 e),u,.one (.ptr 0 0 0),u,.one (.ptr 1 0 0),.one (.ptr 2 0 0),u,.one (.own 3),u,u,u,u,u,u,u,u,u,u,u,u,u,u,u,u,u,u,u,u,u,u,u,u,u,u,u,u,u,u,u,u,u,u,u,u,u,u,u,u,u,u,u,u,u,u,u,u,u,u,u,u,u,u,u,u,u,u,u,u,u,u,u,u,u,u,u,u,u],[.box [.sl 3 Zd g 4,.int .i64 h,.bool i],.box [.int .i64 j,.int .i64 k],.box [.nils,.int .i64 a,.bool b],.row 3 Zd l true true 0]⟩=k0 l): ∀(n:Nat) (f:Int) (d:Zb),qw (qd tt Γ70 (T70 N) c) false Dc Q n ⟨[u,.one (.int .i64 e),u,.one (.ptr 0 0 0),u,.one (.ptr 1 0 0),.one (.ptr 2 0 0),u,.one (.own 3),.one (.int .i64 f),u,u,u,u,u,u,u,u,u,u,u,u,u,u,u,u,u,u,u,u,u,u,u,u,u,u,u,u,u,u,u,u,u,u,u,u,u,u,u,u,u,u,u,u,u,u,u,u,u,u,u,u,u,u,u,u,u,u,u,u,u,u,u,u,u,u,u,u],[.box [.sl 3 Zd g 4,.int .i64 h,.bool i],.box [.int .i64 j,.int .i64 k],.box [.nils,.int .i64 a,.bool b],.row 3 Zd d true true 0]⟩=iY N e g h i j k a b k0 n f d:=by
 intro n;induction n with
 | zero=>intros;rfl
 | succ n p=>
   intro f d
   rw [qD,qE o,iY];unfold OG Tryz.f70
   simp -implicitDefEqProofs [Dh,oX,Dg,oY,OD,vu,qPG,Dd,m,p]
theorem q0d (N:Nat) (a:Zf) (c:Int) (b:Zh):qd tt Γ70 (T70 N) (Tryz.f70.body.getD .skip) (qk tt true [i68,i4] [.cell 6 68,.tmp 7]) (qm [i68,i3,i28] 78 (a,c,b,()))=m70 N a c b:=by
 unfold Tryz.f70
 simp -implicitDefEqProofs [Dh,Df,oY,OD,vu,OC,g43,g61,g62]
 rewrite [q0X (k0:=(fun (d:Zb)=>chk (0<=c/\c<((a.1:Zb).length:Int)) (chk (bx d (IntKind.i64.wrap ((IntKind.i64.wrap ((a.2.1:Int)*(b.2:Int)))+(IntKind.i64.wrap ((((a.1:Zb).getD c.toNat (qa Zd)):Int)*(b.1:Int))))) (a.2.2:Bool)) (some ((qx d (IntKind.i64.wrap ((IntKind.i64.wrap ((a.2.1:Int)*(b.2:Int)))+(IntKind.i64.wrap ((((a.1:Zb).getD c.toNat (qa Zd)):Int)*(b.1:Int))))) (a.2.2:Bool)).1,((qx d (IntKind.i64.wrap ((IntKind.i64.wrap ((a.2.1:Int)*(b.2:Int)))+(IntKind.i64.wrap ((((a.1:Zb).getD c.toNat (qa Zd)):Int)*(b.1:Int))))) (a.2.2:Bool)).2:Bool),()))))) N _ _ _ _ _ _ _ _ ?_ ?_ ?_]
 ·rewrite [m70];first | rfl | simp -implicitDefEqProofs []
 ·rfl
 ·intro;simp only [qA,qC,qJ]
 ·intro d;simp -implicitDefEqProofs [Dh,oX,oY,qQQ,De,OC,g65]
theorem OH {a:Zf} (h:qy a=true): -400000000<=(a.2.1:Int)/\ @LE.le Int _ a.2.1 400000000:=by
 unfold qy at h
 simp only [Bool.and_eq_true]at h
 obtain ⟨⟨⟨_,h2⟩,_⟩,_⟩:=h
 exact of_decide_eq_true h2
theorem oZ (co:Zb) (v:Nat) (e:Int):(c7 co v e).length=co.length:=by
 unfold c7;rw [List.length_set,List.length_map]
theorem OI {co:Zb} {e:Int} (v:Nat) (a: ∀x∈co, -400000000<=(x:Int)/\ @LE.le Int _ x 400000000) (he: -400000000<=e/\e<=400000000): ∀x∈c7 co v e,inI x:=by
 intro x h
 rcases List.mem_or_eq_of_mem_set h with h | h
 ·obtain ⟨y,b,rfl⟩:=List.mem_map.1 h
  have:=hy (a y b) he
  show inI ((y:Int)*e)
  unfold inI
  generalize (y:Int)*e=z at*
  omega
 ·subst h;exact ⟨by decide,by decide⟩
theorem t86 (N:Nat) (f:Int) (co:Zb) (g:Int) (h:Bool) (j e c:Int) (d:Bool) (K:Zb->ZO [i68,i4]) (l:co.length<=1048576) (o: ∀x∈co, -400000000<=(x:Int)/\ @LE.le Int _ x 400000000) (he: -400000000<=e/\e<=400000000) (n:Nat) (m:co.length<n):
 iX N f co.length co g h j e c d K n 0 (List.replicate co.length (qa Zd))=K (List.map (α:=Int) (fun x=>x*e) co):=by
 have:=jY (xs:=List.map (α:=Int) (fun x=>x*e) co) (F:=fun n i b=>iX N f co.length co g h j e c d K n i b) (k:=K) (qa Zd) (by simpa using l) (fun n i b a hs=> ?_) (fun n i b a=> ?_) n (by simpa using m)
 ·simpa using this
 ·have a:i<co.length:=by simpa using a
  have hs:b.length=co.length:=by simpa using hs
  rw [iX,qg (by omega),qc (by omega),qc (by omega),qc (by simp;omega),qB a,hz (o _ (List.getElem_mem a)) he]
  simp
 ·have a:co.length<=i:=by simpa using a
  rw [iX,qf (by omega)]
theorem t70 (N:Nat) (v:Int) (co:Zb) (f:Int) (g:Bool) (h e c:Int) (d:Bool) (K:Zb->ZO [i68,i4]) (m:0<=v) (l:co.length<=1000) (b: ∀x∈co, -400000000<=(x:Int)/\ @LE.le Int _ x 400000000) (he: -400000000<=e/\e<=400000000): ∀(k i:Nat),i+k=co.length-> ∀n,k<n-> ∀(s:Zb),s.length=i->
 iY N v co f g h e c d K n (i:Int) s=K (s++(c7 co v.toNat e).drop i)
 | 0,i,o,n+1,_,s,_=>by
   rw [iY,qf (by omega),List.drop_eq_nil_of_le (by rw [oZ];omega),List.append_nil]
 | k+1,i,o,n+1,p,s,hs=>by
   have h1:i<co.length:=by omega
   have h2:i<(c7 co v.toNat e).length:=by rw [oZ];exact h1
   rw [iY,qg (by omega),b3 h1 (by omega),cL h2]
   by_cases j:(i:Int)=v
   ·have a:(c7 co v.toNat e)[i]=(0:Int):=by
     have:v.toNat=i:=by omega
     simp only [c7,this,List.getElem_set_self]
    rw [qg j,qc (by simp only [List.length_singleton];omega),a]
    refine (t70 N v co f g h e c d K m l b he k (i+1) (by omega) n (by omega) (s++[(0:Int)]) (by rw [List.length_append,hs];rfl)).trans ?_
    rw [List.append_assoc];rfl
   ·have a:(c7 co v.toNat e)[i]=(co[i]:Int)*e:=by
     have:v.toNat≠i:=by omega
     simp only [c7,List.getElem_set_ne this,List.getElem_map]
    rw [qf j,qc (by omega),qc (by simp only [List.length_singleton];omega),a,qB h1,hz (b _ (List.getElem_mem h1)) he]
    refine (t70 N v co f g h e c d K m l b he k (i+1) (by omega) n (by omega) (s++[(co[i]:Int)*e]) (by rw [List.length_append,hs];rfl)).trans ?_
    rw [List.append_assoc];rfl
theorem OJ {a:Zf} {v:Int} {r:Zh} (b:qy a=true) (i:qh r=true) (k:0<=v/\v<(List.length (α:=Int) a.1:Int)):
 IntKind.i64.wrap (IntKind.i64.wrap ((a.2.1:Int)*(r.2:Int))+IntKind.i64.wrap (((List.getD (α:=Zc) a.1 v.toNat (qa Zd)):Int)*(r.1:Int)))=(a.2.1:Int)*r.2+(List.getD (α:=Int) a.1 v.toNat 0)*r.1/\inI ((a.2.1:Int)*r.2+(List.getD (α:=Int) a.1 v.toNat 0)*r.1):=by
 obtain ⟨d,e⟩:=cI i
 have j:=(ch b).2.2
 have c: -400000000<=List.getD (α:=Int) a.1 v.toNat 0/\List.getD (α:=Int) a.1 v.toNat 0<=400000000:=by
  have h1:v.toNat<List.length (α:=Int) a.1:=by omega
  rw [nS h1]
  exact j _ (List.getElem_mem h1)
 have f: -400000000<=(r.2:Int)/\ @LE.le Int _ r.2 400000000:=⟨Int.le_trans (by decide) e.1,e.2⟩
 have m1:=hy (OH b) f
 have m2:=hy c d
 have g:=hz (OH b) f
 have h:=hz c d
 change IntKind.i64.wrap (IntKind.i64.wrap ((a.2.1:Int)*(r.2:Int))+IntKind.i64.wrap (List.getD (α:=Int) a.1 v.toNat 0*r.1))=_/\_
 rw [g,h]
 generalize (a.2.1:Int)*r.2=p at*
 generalize List.getD (α:=Int) a.1 v.toNat 0*r.1=q at*
 exact ⟨bn (by omega) (by omega),by unfold inI;omega⟩
theorem e86 (a:Zf) (v:Int) (r:Zh): ∃N,m86 N a v r=some ((bL a v r).1,(bL a v r).2,()):=⟨List.length (α:=Int) a.1+1,by
 rw [m86]
 unfold bL
 cases c:qy a with
 | false=>rfl
 | true=>
   cases e:qh r with
   | false=>rfl
   | true=>
     simp only [Bool.not_true,cond_false,Bool.and_self,Bool.true_and]
     by_cases h1:v<0
     ·rw [qg h1,decide_eq_false (by omega)];rfl
     ·rw [qf h1]
      by_cases h2:(List.length (α:=Int) a.1:Int)<=v
      ·rw [qg h2,decide_eq_false (by omega)];rfl
      ·have b:0<=v/\v<(List.length (α:=Int) a.1:Int):=by omega
       obtain ⟨k,_,f⟩:=ch c
       obtain ⟨l,g⟩:=cI e
       have h: -400000000<=(r.2:Int)/\ @LE.le Int _ r.2 400000000:=⟨Int.le_trans (by decide) g.1,g.2⟩
       obtain ⟨i,j⟩:=OJ c e b
       rw [qf h2,decide_eq_true b,qc (jZ (by omega)),Int.toNat_natCast,List.length_replicate]
       refine (t86 _ v a.1 a.2.1 a.2.2 r.1 r.2 0 false _ (by omega) f h _ (Nat.lt_succ_self _)).trans ?_
       have d:(List.map (α:=Int) (fun x=>x*(r.2:Int)) a.1).length=List.length (α:=Int) a.1:=List.length_map ..
       rw [i,qc (by rw [d];exact b),qc (by rw [d];omega),qc b]
       exact qc (show bx (c7 a.1 v.toNat r.2) _ _ from ⟨by rw [oZ];omega,j,OI v.toNat f h⟩)⟩
theorem s86:Sound Tryz.prog 86 g86:=qo (tt:=tt) (Γ:=Γ86) hT (qe s55 (qe s80 (qe s91 ql))) hm (fn:=Tryz.f86) Tryz.func86 (c:=Tryz.f86.body.getD .skip) (by kernel_rfl) (by kernel_rfl) fun x a=>by
 obtain ⟨N,h⟩:=e86 x.1 x.2.1 x.2.2.1
 exact ⟨T86 N,p86,qp _,qTH N,(qRc N x.1 x.2.1 x.2.2.1).trans h⟩
theorem e70 (a:Zf) (v:Int) (r:Zh) (_:vr a v r): ∃N,m70 N a v r=some ((bL a v r).1,(bL a v r).2,()):=⟨List.length (α:=Int) a.1+1,by
 rw [m70]
 unfold bL
 cases c:qy a with
 | false=>rfl
 | true=>
   cases d:qh r with
   | false=>rfl
   | true=>
     simp only [Bool.not_true,cond_false,Bool.and_self,Bool.true_and]
     obtain ⟨k,_,e⟩:=ch c
     have i:IntKind.i64.wrap ((List.length (α:=Int) a.1:Int) - 1)=(List.length (α:=Int) a.1:Int) - 1:=bn (by omega) (by omega)
     rw [i]
     by_cases b:0<=v/\v<(List.length (α:=Int) a.1:Int)
     ·obtain ⟨l,f⟩:=cI d
      have g: -400000000<=(r.2:Int)/\ @LE.le Int _ r.2 400000000:=⟨Int.le_trans (by decide) f.1,f.2⟩
      obtain ⟨h,j⟩:=OJ c d b
      rw [gq ⟨b.1,by omega⟩,decide_eq_true b]
      simp only [Bool.not_true,cond_false,cond_true]
      refine (t70 _ v a.1 a.2.1 a.2.2 r.1 r.2 0 false _ b.1 (by omega) e g (List.length (α:=Int) a.1) 0 (by omega) _ (Nat.lt_succ_self _) [] rfl).trans ?_
      rw [List.nil_append,List.drop_zero,h,qc b]
      exact qc (show bx (c7 a.1 v.toNat r.2) _ _ from ⟨by rw [oZ];omega,j,OI v.toNat e g⟩)
     ·rw [gu (by omega),decide_eq_false b];rfl⟩
theorem s70:Sound Tryz.prog 70 g70:=qo (tt:=tt) (Γ:=Γ70) hT (qe s43 (qe s61 (qe s62 (qe s65 ql)))) hm (fn:=Tryz.f70) Tryz.func70 (c:=Tryz.f70.body.getD .skip) (by kernel_rfl) (by kernel_rfl) fun x a=>by
 obtain ⟨N,h⟩:=e70 x.1 x.2.1 x.2.2.1 a
 exact ⟨T70 N,p70,qp _,q0r N,(q0d N x.1 x.2.1 x.2.2.1).trans h⟩
theorem OK {d v:Int} {a:Zf} {r:Zh} (h:okD d a) (h2:(bL a v r).2=true):okD d (bL a v r).1:=by
 unfold bL at h2 ⊢
 cases b:(qy a&&qh r&&decide (0<=v/\v<(List.length (α:=Int) a.1:Int)))with
 | false=>rw [b]at h2;exact absurd h2 (by simp)
 | true=>
   rw [b]at h2
   obtain ⟨g1,g2⟩:=BM h2
   refine ⟨g1,?_⟩
   have c:(List.length (α:=Int) a.1:Int)=d:=h.2
   have e:(c7 a.1 v.toNat r.2).length=List.length (α:=Int) a.1:=oZ _ _ _
   show (List.length (α:=Int) (qx (c7 a.1 v.toNat r.2) _ _).1.1:Int)=d
   rw [g2]
   have f:List.length (α:=Int) (c7 a.1 v.toNat r.2)=List.length (α:=Int) a.1:=e
   rw [f];exact c
end
end Go.T
