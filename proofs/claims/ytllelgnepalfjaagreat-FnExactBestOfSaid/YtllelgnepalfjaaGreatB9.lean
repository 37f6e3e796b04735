import Derived.Test.YtllelgnepalfjaaGreatB8
set_option linter.unusedSimpArgs false
set_option linter.unusedVariables false
namespace Go.T
noncomputable section
open Go Go.Proofs
set_option maxHeartbeats 4000000
set_option maxRecDepth 100000
def cfV (v:Int) (a:Zf):Int:=List.getD (α:=Int) a.1 v.toNat 0
def dm (v:Int) (a:Zf):Ze->Ze->Option (Ze)
 | [],s=>some s
 | b::r,s=>bif decide (cfV v b<0)then (bif (bt a (-cfV v b) b (cfV v a)).2 then dm v a r (s++[(bt a (-cfV v b) b (cfV v a)).1])else none)else dm v a r s
def c5 (v:Int) (l:Ze):Ze->Ze->Option (Ze)
 | [],s=>some s
 | a::r,s=>bif decide (0<cfV v a)then (match dm v a l s with
   | some b=>c5 v l r b
   | none=>none)else c5 v l r s
def qW (c:Zj) (v:Int):Zj×Bool:=match c5 v c.2 c.2 (List.filter (α:=Zf) (fun a=>decide (cfV v a=0)) c.2)with
 | some l=>dk c.1 l
 | none=>(((0:Int),[]),false)
def mr (c:Zj) (v:Int):Prop:=qI c=true/\0<=v/\v<(c.1:Int)
def ek (c:Zj) (v:Int):Zj×Bool:=bif qI c&&decide (0<=v/\v<(c.1:Int))then qW c v else (((0:Int),[]),false)
def kk:G:={ps:=[i35,i3],rs:=[i35,i4],dp:=true,pre:=fun _=>True,fn:=fun x=>((ek x.1 x.2.1).1,(ek x.1 x.2.1).2,())}
def g69:G:={ps:=[i35,i3],rs:=[i35,i4],dp:=false,pre:=fun x=>mr x.1 x.2.1,fn:=fun x=>((qW x.1 x.2.1).1,(qW x.1 x.2.1).2,())}
def hq (N:Nat) (c:Int) (b:Ze) (e f:Int) (g:Ze) (h:Int) (k0:(Ze)->ZO [i35,i4]):Nat->Int->(Ze)->ZO [i35,i4]
 | 0,_,_=>none
 | n+1,a,d=>bif (decide (a<e))then (chk (0<=a/\a<(b.length:Int)) (chk (0<=c/\c<(((b.getD a.toNat (qa Y68)).1:Zb).length:Int)) (bif (decide (((((b.getD a.toNat (qa Y68)).1:Zb).getD c.toNat (qa Zd)):Int)=(0:Int)))then (chk (d.length+([(b.getD a.toNat (qa Y68))]:Ze).length<=1048576) (hq N c b e f g h k0 n (IntKind.i64.wrap (a+(1:Int))) (d++([(b.getD a.toNat (qa Y68))]:Ze))))else (hq N c b e f g h k0 n (IntKind.i64.wrap (a+(1:Int))) d))))else (k0 d)
def hr (N:Nat) (a:Int) (i:Ze) (j k:Int) (c:Ze) (h l:Int) (m:Ze) (o:Int) (d:Zb) (e:Int) (f:Bool) (k4:(Ze)->ZO [i35,i4]):Nat->Int->(Ze)->ZO [i35,i4]
 | 0,_,_=>none
 | n+1,b,g=>bif (decide (b<h))then (chk (0<=b/\b<(c.length:Int)) (chk (0<=a/\a<(((c.getD b.toNat (qa Y68)).1:Zb).length:Int)) (bif (decide ((0:Int)<=((((c.getD b.toNat (qa Y68)).1:Zb).getD a.toNat (qa Zd)):Int)))then (hr N a i j k c h l m o d e f k4 n (IntKind.i64.wrap (b+(1:Int))) g)else (chk (0<=a/\a<(((c.getD b.toNat (qa Y68)).1:Zb).length:Int)) (chk (0<=a/\a<(d.length:Int)) (bif (!((bt (d,e,f) (IntKind.i64.wrap (0 - ((((c.getD b.toNat (qa Y68)).1:Zb).getD a.toNat (qa Zd)):Int))) (c.getD b.toNat (qa Y68)) ((d.getD a.toNat (qa Zd)):Int)).2:Bool))then (some (((0:Int),([]:Ze)),false,()))else (chk (g.length+([(bt (d,e,f) (IntKind.i64.wrap (0 - ((((c.getD b.toNat (qa Y68)).1:Zb).getD a.toNat (qa Zd)):Int))) (c.getD b.toNat (qa Y68)) ((d.getD a.toNat (qa Zd)):Int)).1]:Ze).length<=1048576) (hr N a i j k c h l m o d e f k4 n (IntKind.i64.wrap (b+(1:Int))) (g++([(bt (d,e,f) (IntKind.i64.wrap (0 - ((((c.getD b.toNat (qa Y68)).1:Zb).getD a.toNat (qa Zd)):Int))) (c.getD b.toNat (qa Y68)) ((d.getD a.toNat (qa Zd)):Int)).1]:Ze))))))))))else (k4 g)
def gv (N:Nat) (c:Int) (b:Ze) (e f:Int) (d:Ze) (g:Int) (k2:(Ze)->ZO [i35,i4]):Nat->Int->(Ze)->ZO [i35,i4]
 | 0,_,_=>none
 | n+1,a,h=>bif (decide (a<e))then (chk (0<=a/\a<(b.length:Int)) (chk (0<=c/\c<(((b.getD a.toNat (qa Y68)).1:Zb).length:Int)) (bif (decide (((((b.getD a.toNat (qa Y68)).1:Zb).getD c.toNat (qa Zd)):Int)<=(0:Int)))then (gv N c b e f d g k2 n (IntKind.i64.wrap (a+(1:Int))) h)else (hr N c b e a d (d.length:Int) f d g ((b.getD a.toNat (qa Y68)).1:Zb) (((b.getD a.toNat (qa Y68)).2).1:Int) (((b.getD a.toNat (qa Y68)).2).2:Bool) (fun (i:Ze)=>gv N c b e f d g k2 n (IntKind.i64.wrap (a+(1:Int))) i) N (0:Int) h))))else (k2 h)
def uk (N:Nat) (a:Zj) (b:Int):ZO [i35,i4]:=bif (!((qI a):Bool))then (some (((0:Int),([]:Ze)),false,()))else (bif (decide (b<(0:Int)))then (some (((0:Int),([]:Ze)),false,()))else (bif (decide ((a.1:Int)<=b))then (some (((0:Int),([]:Ze)),false,()))else (hq N b (a.2:Ze) ((a.2:Ze).length:Int) (a.1:Int) (a.2:Ze) (0:Int) (fun (d:Ze)=>gv N b (a.2:Ze) ((a.2:Ze).length:Int) (a.1:Int) (a.2:Ze) (0:Int) (fun (c:Ze)=>chk (oy (a.1:Int) c) (some ((dk (a.1:Int) c).1,((dk (a.1:Int) c).2:Bool),()))) N (0:Int) d) N (0:Int) ([]:Ze))))
def iQ:Gam:=[(45,g45),(129,ub),(130,tX)]
theorem Bw:Gam.get iQ 45=some g45/\Gam.get iQ 129=some ub/\Gam.get iQ 130=some tX:=⟨rfl,rfl,rfl⟩
def um:List Bool:=[O,I,I,O,I,O,I,O,O,O,O,O,O,O,O,O,O,O,O,O,O,O,O,O,O,O,O,O,O,O,O,I,I,I]
def Bx:Nm:=⟨um,[.und 6 0 68 Y68],false⟩
theorem MW:NmS Bx um [.und 6 0 68 Y68] false:=nmS
def uo:List Bool:=[O,I,I,O,I,O,I,O,O,O,I,O,O,O,O,O,O,O,O,O,O,O,O,O,O,O,O,O,O,O,O,O,O,O,O,O,O,O,O,O,O,O,O,O,O,O,O,O,O,I,I,I,O,O,O,O,O,O,O,O,O,O,I,I,I]
def By:Nm:=⟨uo,[],false⟩
theorem MX:NmS By uo [] false:=nmS
def oC:List Bool:=[O,I,I,O,I,O,I,O,O,O,O,O,O,O,O,O,O,O,O,O,O,O,O,O,O,O,O,O,O,O,O,O,O,O,O,O,O,O,O,O,O,O,O,O,O,O,O,O,O,I,I,I]
def Bz:Nm:=⟨oC,[],false⟩
theorem BA:NmS Bz oC [] false:=nmS
def BB:List Bool:=[O,I,I,O,I,O,I]
def MY:Nm:=⟨BB,[],false⟩
theorem qRl:NmS MY BB [] false:=nmS
def BC:List Bool:=[O,O,I,O,I,O,I]
def MZ:Nm:=⟨BC,[],false⟩
theorem qPm:NmS MZ BC [] false:=nmS
def BD:List Bool:=[O,I,I,O,I,O,I,O,O,O,O,O,O,O,O,O,O,O,O,O,O,O,O,O,O,O,O,O,O,O,O,O,O,O,O,O,O,O,O,O,O,O,O,O,O,O,O,O,O,I,I,I]
def M0:Nm:=⟨BD,[],false⟩
theorem q06:NmS M0 BD [] false:=nmS
def BE:List Bool:=[O,I,I,O,I,O,I,O,O,O,I,O,O,I,I,O,O,O,O,O,O,O,O,O,O,O,O,O,O,O,O,O,O,O,O,O,O,O,O,O,O,O,O,O,O,O,O,O,O,I,I,I,O,O,O,O,O,O,O,O,O,O,I,I,I]
def M1:Nm:=⟨BE,[],false⟩
theorem qXd:NmS M1 BE [] false:=nmS
def uq:Nat->Tree:=fun i=>if i=18 then .first 3 (.first 10 (.grow 0 (.grow 1 (.grow 2 (.grow 4 (.grow 5 (.first 6 (.grow 7 (.grow 8 (.grow 9 (.grow 11 (.grow 12 (.alt 13 (.first 14 (.first 15 (.first 16 (.alt 17 (.alt 18 (.quiet 19 .done) .stop) .stop)))) (.alt 17 (.alt 13 (.quiet 14 (.quiet 15 (.first 16 (.alt 18 (.quiet 19 .done) .stop)))) .stop) .stop))))))))))))))else .done
def oD:Nat->Nm:=fun i=>if i=5 then Bx else if i=15 then By else if i=11 then Bz else ⟨[],[],false⟩
def oE:Nat->Option Nm:=fun i=>if i=0 then some MY else if i=2 then some MZ else if i=4 then some M0 else none
def ht:Nat->Option Nm:=fun i=>if i=18 then some M1 else none
theorem qUx:qi uq (Tryz.f113.body.getD .skip)=true:=by kernel_rfl
def kl (N:Nat):Tab:={tr:=uq,lp:=oD,ex:=oE,rg:=ht,jn:=jn0,fuel:=N}
theorem qWb (N:Nat):qj Tryz.prog (kl N):=qn fun _=>rfl
theorem km (N:Nat):qr (kl N) uq oD oE ht jn0 N false:=qt
def M2:Code:=cut [I,I,I,O,I,I,I] (Tryz.f113.body.getD .skip)
theorem qWY (N:Nat) (a:Int) (i:Ze) (j d:Int) (e:Ze) (f:Int) {k0:(Ze)->ZO [i35,i4]} {Q:ZQ [i35,i4]} {c:Code} (l:c=M2) (o: ∀st,Q .ret st=qz tt true [i35,i4] [.cell 4 35,.tmp 5] st) (k: ∀(h:Ze),Q (.exit 0) ⟨[u,.one (.int .i64 a),.one (.ptr 0 0 0),u,.one (.ptr 1 0 0),u,.one (.own 2),u,u,u,u,u,u,u,u,u,u,u,u,u,u,u,u,u,u,u,u,u,u,u,u,u,u,u,u,u,u,u,u,u,u,u,u,u,u,u,u,u,u,u,u,u,u,u,u,u,u,u,u,u,u,u,u,u,u,u,u,u,u,u,u,u,u,u,u,u,u,u,u,u,u,u,u,u,u,u,u,u,u,u,u,u,u,u,u,u,u,u,u,u,u,u,u,u,u,u],[.box [.int .i64 d,.sl 68 Y68 e 3],.box [.int .i64 f,.nils],.row 68 Y68 h false true 3]⟩=k0 h): ∀(n:Nat) (b:Int) (g:Ze),qw (qd tt iQ (kl N) c) false Bx Q n ⟨[u,.one (.int .i64 a),.one (.ptr 0 0 0),u,.one (.ptr 1 0 0),u,.one (.own 2),u,u,u,u,u,u,u,u,u,u,u,u,u,u,u,u,u,u,u,u,u,u,u,u,.one (.sl 68 Y68 i 3),.one (.int .i64 j),.one (.int .i64 b),u,u,u,u,u,u,u,u,u,u,u,u,u,u,u,u,u,u,u,u,u,u,u,u,u,u,u,u,u,u,u,u,u,u,u,u,u,u,u,u,u,u,u,u,u,u,u,u,u,u,u,u,u,u,u,u,u,u,u,u,u,u,u,u,u,u,u,u,u,u,u,u],[.box [.int .i64 d,.sl 68 Y68 e 3],.box [.int .i64 f,.nils],.row 68 Y68 g false true 3]⟩=hq N a i j d e f k0 n b g:=by
 intro n;induction n with
 | zero=>intros;rfl
 | succ n m=>
   intro b g
   rw [qD,qE l,hq];unfold M2 Tryz.f113
   simp -implicitDefEqProofs [km,oE,ht,MW,um,qRl,BB,k,m]
def M3:Code:=cut [I,I,I,I,O,I,I,I,I,I,O,I,I,I,I,I,I] (Tryz.f113.body.getD .skip)
theorem qM6 (N:Nat) (a:Int) (b:Ze) (d e:Int) (k:Ze) (l g:Int) (h:Ze) (i:Int) (m:Zb) (o:Int) (p:Bool) {k4:(Ze)->ZO [i35,i4]} {Q:ZQ [i35,i4]} {c:Code} (s:c=M3) (t: ∀st,Q .ret st=qz tt true [i35,i4] [.cell 4 35,.tmp 5] st) (r: ∀(q:Ze),Q (.exit 4) ⟨[u,.one (.int .i64 a),.one (.ptr 0 0 0),u,.one (.ptr 1 0 0),u,.one (.own 2),u,u,u,u,u,u,u,u,u,u,u,u,u,u,u,u,u,u,u,u,u,u,u,u,u,u,u,u,u,u,u,u,u,u,u,u,u,u,u,u,u,u,.one (.sl 68 Y68 b 3),.one (.int .i64 d),.one (.int .i64 e),u,u,u,u,u,u,u,u,u,u,u,u,u,u,u,u,u,u,u,u,u,u,u,u,u,u,u,u,u,u,u,u,u,u,u,u,u,u,u,u,u,u,u,u,u,u,u,u,u,u,u,u,u,u],[.box [.int .i64 g,.sl 68 Y68 h 3],.box [.int .i64 i,.nils],.row 68 Y68 q false true 3]⟩=k4 q): ∀(n:Nat) (f:Int) (j:Ze),qw (qd tt iQ (kl N) c) false By Q n ⟨[u,.one (.int .i64 a),.one (.ptr 0 0 0),u,.one (.ptr 1 0 0),u,.one (.own 2),u,u,u,.one (.ptr 3 0 0),u,u,u,u,u,u,u,u,u,u,u,u,u,u,u,u,u,u,u,u,u,u,u,u,u,u,u,u,u,u,u,u,u,u,u,u,u,u,.one (.sl 68 Y68 b 4),.one (.int .i64 d),.one (.int .i64 e),u,u,u,u,u,u,u,u,u,u,.one (.sl 68 Y68 k 4),.one (.int .i64 l),.one (.int .i64 f),u,u,u,u,u,u,u,u,u,u,u,u,u,u,u,u,u,u,u,u,u,u,u,u,u,u,u,u,u,u,u,u,u,u,u,u,u,u,u,u,u],[.box [.int .i64 g,.sl 68 Y68 h 4],.box [.int .i64 i,.nils],.row 68 Y68 j false true 4,.box [.sl 3 Zd m 4,.int .i64 o,.bool p]]⟩=hr N a b d e k l g h i m o p k4 n f j:=by
 intro n;induction n with
 | zero=>intros;rfl
 | succ n v=>
   intro f j
   rw [qD,qE s,hr];unfold M3 Tryz.f113
   simp -implicitDefEqProofs [km,uq,oE,ht,MX,uo,q06,BD,qXd,BE,Bw,ub,t,r,v]
def M4:Code:=cut [I,I,I,I,O,I,I,I] (Tryz.f113.body.getD .skip)
theorem qRQ (N:Nat) (g:Int) (h:Ze) (i b:Int) (d:Ze) (e:Int) {k2:(Ze)->ZO [i35,i4]} {Q:ZQ [i35,i4]} {c:Code} (m:c=M4) (o: ∀st,Q .ret st=qz tt true [i35,i4] [.cell 4 35,.tmp 5] st) (h2: ∀(l:Ze),Q (.exit 2) ⟨[u,u,.one (.ptr 0 0 0),u,.one (.ptr 1 0 0),u,.one (.own 2),u,u,u,u,u,u,u,u,u,u,u,u,u,u,u,u,u,u,u,u,u,u,u,u,u,u,u,u,u,u,u,u,u,u,u,u,u,u,u,u,u,u,u,u,u,u,u,u,u,u,u,u,u,u,u,u,u,u,u,u,u,u,u,u,u,u,u,u,u,u,u,u,u,u,u,u,u,u,u,u,u,u,u,u,u,u,u,u,u,u,u,u,u,u,u,u,u,u,u],[.box [.int .i64 b,.sl 68 Y68 d 3],.box [.int .i64 e,.nils],.row 68 Y68 l false true 3]⟩=k2 l): ∀(n:Nat) (a:Int) (j:Ze),qw (qd tt iQ (kl N) c) false Bz Q n ⟨[u,.one (.int .i64 g),.one (.ptr 0 0 0),u,.one (.ptr 1 0 0),u,.one (.own 2),u,u,u,u,u,u,u,u,u,u,u,u,u,u,u,u,u,u,u,u,u,u,u,u,u,u,u,u,u,u,u,u,u,u,u,u,u,u,u,u,u,u,.one (.sl 68 Y68 h 3),.one (.int .i64 i),.one (.int .i64 a),u,u,u,u,u,u,u,u,u,u,u,u,u,u,u,u,u,u,u,u,u,u,u,u,u,u,u,u,u,u,u,u,u,u,u,u,u,u,u,u,u,u,u,u,u,u,u,u,u,u,u,u,u,u],[.box [.int .i64 b,.sl 68 Y68 d 3],.box [.int .i64 e,.nils],.row 68 Y68 j false true 3]⟩=gv N g h i b d e k2 n a j:=by
 intro n;induction n with
 | zero=>intros;rfl
 | succ n f=>
   intro a j
   rw [qD,qE m];unfold M4 Tryz.f113
   simp -implicitDefEqProofs [km,oD,oE,ht,MX,uo,BA,oC,qPm,BC,h2,f]
   rewrite [qM6 (k4:=(fun (k:Ze)=>gv N g h i b d e k2 n (IntKind.i64.wrap (a+(1:Int))) k)) N _ _ _ _ _ _ _ _ _ _ _ _ ?_ ?_ ?_]
   ·rewrite [gv];first | rfl | simp -implicitDefEqProofs [f]
   ·rfl
   ·intro;simp only [qA,qC,o]
   ·intro k;simp -implicitDefEqProofs [km,ht,BA,oC,f]
theorem qT1 (N:Nat) (a:Zj) (c:Int):qd tt iQ (kl N) (Tryz.f113.body.getD .skip) (qk tt true [i35,i4] [.cell 4 35,.tmp 5]) (qm [i35,i3] 106 (a,c,()))=uk N a c:=by
 unfold Tryz.f113
 simp -implicitDefEqProofs [km,oD,ht,MW,um,Bw,g45]
 rewrite [qWY (k0:=(fun (d:Ze)=>gv N c (a.2:Ze) ((a.2:Ze).length:Int) (a.1:Int) (a.2:Ze) (0:Int) (fun (b:Ze)=>chk (oy (a.1:Int) b) (some ((dk (a.1:Int) b).1,((dk (a.1:Int) b).2:Bool),()))) N (0:Int) d)) N _ _ _ _ _ _ ?_ ?_ ?_]
 ·rewrite [uk];first | rfl | simp -implicitDefEqProofs []
 ·rfl
 ·intro;simp only [qA,qC,qJ]
 ·intro d;simp -implicitDefEqProofs [km,oD,ht,BA,oC]
  rewrite [qRQ N _ _ _ _ _ _ ?_ ?_ ?_]
  ·first | rfl | simp -implicitDefEqProofs []
  ·rfl
  ·intro;simp only [qA,qC,qJ]
  ·intro b;simp -implicitDefEqProofs [km,ht,Bw,tX]
def hv (N:Nat) (c e:Int) (b:Ze) (f:Int) (k0:(Ze)->ZO [i35,i4]):Nat->Int->(Ze)->ZO [i35,i4]
 | 0,_,_=>none
 | n+1,a,d=>bif (decide (a<(b.length:Int)))then (chk (0<=a/\a<(b.length:Int)) (chk (0<=c/\c<(((b.getD a.toNat (qa Y68)).1:Zb).length:Int)) (bif (decide (((((b.getD a.toNat (qa Y68)).1:Zb).getD c.toNat (qa Zd)):Int)=(0:Int)))then (chk (0<=a/\a<(b.length:Int)) (chk (d.length+([(b.getD a.toNat (qa Y68))]:Ze).length<=1048576) (hv N c e b f k0 n (IntKind.i64.wrap (a+(1:Int))) (d++([(b.getD a.toNat (qa Y68))]:Ze)))))else (hv N c e b f k0 n (IntKind.i64.wrap (a+(1:Int))) d))))else (k0 d)
def gw (N:Nat) (c d f:Int) (a:Ze) (g:Int) (k4:(Ze)->ZO [i35,i4]):Nat->Int->(Ze)->ZO [i35,i4]
 | 0,_,_=>none
 | n+1,b,e=>bif (decide (b<(a.length:Int)))then (chk (0<=d/\d<(a.length:Int)) (chk (0<=c/\c<(((a.getD d.toNat (qa Y68)).1:Zb).length:Int)) (chk (0<=b/\b<(a.length:Int)) (chk (0<=c/\c<(((a.getD b.toNat (qa Y68)).1:Zb).length:Int)) (bif (decide (((((a.getD d.toNat (qa Y68)).1:Zb).getD c.toNat (qa Zd)):Int)<=(0:Int)))then (gw N c d f a g k4 n (IntKind.i64.wrap (b+(1:Int))) e)else (bif (decide ((0:Int)<=((((a.getD b.toNat (qa Y68)).1:Zb).getD c.toNat (qa Zd)):Int)))then (gw N c d f a g k4 n (IntKind.i64.wrap (b+(1:Int))) e)else (chk (0<=d/\d<(a.length:Int)) (chk (0<=b/\b<(a.length:Int)) (chk (ua (a.getD d.toNat (qa Y68)) (IntKind.i64.wrap (0 - ((((a.getD b.toNat (qa Y68)).1:Zb).getD c.toNat (qa Zd)):Int))) (a.getD b.toNat (qa Y68)) ((((a.getD d.toNat (qa Y68)).1:Zb).getD c.toNat (qa Zd)):Int)) (bif (!((bt (a.getD d.toNat (qa Y68)) (IntKind.i64.wrap (0 - ((((a.getD b.toNat (qa Y68)).1:Zb).getD c.toNat (qa Zd)):Int))) (a.getD b.toNat (qa Y68)) ((((a.getD d.toNat (qa Y68)).1:Zb).getD c.toNat (qa Zd)):Int)).2:Bool))then (some (((0:Int),([]:Ze)),false,()))else (chk (e.length+([(bt (a.getD d.toNat (qa Y68)) (IntKind.i64.wrap (0 - ((((a.getD b.toNat (qa Y68)).1:Zb).getD c.toNat (qa Zd)):Int))) (a.getD b.toNat (qa Y68)) ((((a.getD d.toNat (qa Y68)).1:Zb).getD c.toNat (qa Zd)):Int)).1]:Ze).length<=1048576) (gw N c d f a g k4 n (IntKind.i64.wrap (b+(1:Int))) (e++([(bt (a.getD d.toNat (qa Y68)) (IntKind.i64.wrap (0 - ((((a.getD b.toNat (qa Y68)).1:Zb).getD c.toNat (qa Zd)):Int))) (a.getD b.toNat (qa Y68)) ((((a.getD d.toNat (qa Y68)).1:Zb).getD c.toNat (qa Zd)):Int)).1]:Ze))))))))))))))else (k4 e)
def iR (N:Nat) (c d:Int) (b:Ze) (e:Int) (k2:(Ze)->ZO [i35,i4]):Nat->Int->(Ze)->ZO [i35,i4]
 | 0,_,_=>none
 | n+1,a,f=>bif (decide (a<(b.length:Int)))then (gw N c a d b e (fun (g:Ze)=>iR N c d b e k2 n (IntKind.i64.wrap (a+(1:Int))) g) N (0:Int) f)else (k2 f)
def m69 (N:Nat) (a:Zj) (c:Int):ZO [i35,i4]:=hv N c (a.1:Int) (a.2:Ze) (0:Int) (fun (d:Ze)=>iR N c (a.1:Int) (a.2:Ze) (0:Int) (fun (b:Ze)=>chk (dy (a.1:Int) b) (bif (decide ((16:Int)<(((qS (a.1:Int) b).2:Ze).length:Int)))then (some (((0:Int),([]:Ze)),false,()))else (some ((qS (a.1:Int) b),true,())))) N (0:Int) d) N (0:Int) ([]:Ze)
def Γ69:Gam:=[(68,g68),(104,uc)]
theorem M5:Gam.get Γ69 68=some g68/\Gam.get Γ69 104=some uc:=⟨rfl,rfl⟩
def ur:List Bool:=[O,I,I,O,I,O,I,I]
def BF:Nm:=⟨ur,[.und 6 0 68 Y68],false⟩
theorem M6:NmS BF ur [.und 6 0 68 Y68] false:=nmS
def uu:List Bool:=[O,I,I,O,I,O,I,O,I,I]
def BG:Nm:=⟨uu,[],false⟩
theorem M7:NmS BG uu [] false:=nmS
def uv:List Bool:=[O,I,I,O,I,O,I,O,I]
def BH:Nm:=⟨uv,[],false⟩
theorem M8:NmS BH uv [] false:=nmS
def BI:List Bool:=[O,I,I,O,I,O,I]
def M9:Nm:=⟨BI,[],false⟩
theorem q2q:NmS M9 BI [] false:=nmS
def BJ:List Bool:=[O,O,I,O,I,O,I]
def Na:Nm:=⟨BJ,[],false⟩
theorem qTK:NmS Na BJ [] false:=nmS
def BK:List Bool:=[O,I,I,O,I,O,I,O,I]
def Nb:Nm:=⟨BK,[],false⟩
theorem q0H:NmS Nb BK [] false:=nmS
def BL:List Bool:=[O,I,I,O,I,O,I,O,I,I,O,O,I,I]
def Nc:Nm:=⟨BL,[],false⟩
theorem q2T:NmS Nc BL [] false:=nmS
def uw:Nat->Tree:=fun i=>if i=16 then .first 2 (.first 5 (.first 6 (.first 9 (.first 12 (.grow 0 (.grow 1 (.grow 3 (.grow 4 (.grow 7 (.grow 8 (.grow 10 (.grow 11 (.alt 13 (.first 14 (.first 15 (.first 16 (.alt 17 (.alt 18 (.quiet 19 .done) .stop) .stop)))) (.alt 17 (.alt 13 (.quiet 14 (.quiet 15 (.first 16 (.alt 18 (.quiet 19 .done) .stop)))) .stop) .stop))))))))))))))else .done
def oF:Nat->Nm:=fun i=>if i=3 then BF else if i=11 then BG else if i=8 then BH else ⟨[],[],false⟩
def oG:Nat->Option Nm:=fun i=>if i=0 then some M9 else if i=2 then some Na else if i=4 then some Nb else none
def hx:Nat->Option Nm:=fun i=>if i=16 then some Nc else none
theorem p69:qi uw (Tryz.f69.body.getD .skip)=true:=by kernel_rfl
def T69 (N:Nat):Tab:={tr:=uw,lp:=oF,ex:=oG,rg:=hx,jn:=jn0,fuel:=N}
theorem q3z (N:Nat):qj Tryz.prog (T69 N):=qn fun _=>rfl
theorem kn (N:Nat):qr (T69 N) uw oF oG hx jn0 N false:=qt
def Nd:Code:=cut [I,I,O,I,I,I] (Tryz.f69.body.getD .skip)
theorem qYO (N:Nat) (a d:Int) (e:Ze) (f:Int) {k0:(Ze)->ZO [i35,i4]} {Q:ZQ [i35,i4]} {c:Code} (j:c=Nd) (l: ∀st,Q .ret st=qz tt false [i35,i4] [.cell 4 35,.tmp 5] st) (i: ∀(h:Ze),Q (.exit 0) ⟨[u,.one (.int .i64 a),.one (.ptr 0 0 0),u,.one (.ptr 1 0 0),u,.one (.own 2),u,u,u,u,u,u,u,u,u,u,u,u,u,u,u,u,u,u,u,u,u,u,u,u,u,u,u,u,u,u,u,u,u,u,u,u,u,u,u,u,u,u,u,u,u,u,u,u,u,u,u,u,u,u,u,u,u,u,u,u,u,u,u,u,u,u,u,u,u,u,u,u,u,u,u,u,u,u,u,u,u,u,u,u,u,u,u,u,u,u,u,u,u,u,u,u,u,u,u,u,u,u,u,u,u,u],[.box [.int .i64 d,.sl 68 Y68 e 3],.box [.int .i64 f,.nils],.row 68 Y68 h false true 3]⟩=k0 h): ∀(n:Nat) (b:Int) (g:Ze),qw (qd tt Γ69 (T69 N) c) false BF Q n ⟨[u,.one (.int .i64 a),.one (.ptr 0 0 0),u,.one (.ptr 1 0 0),u,.one (.own 2),.one (.int .i64 b),u,u,u,u,u,u,u,u,u,u,u,u,u,u,u,u,u,u,u,u,u,u,u,u,u,u,u,u,u,u,u,u,u,u,u,u,u,u,u,u,u,u,u,u,u,u,u,u,u,u,u,u,u,u,u,u,u,u,u,u,u,u,u,u,u,u,u,u,u,u,u,u,u,u,u,u,u,u,u,u,u,u,u,u,u,u,u,u,u,u,u,u,u,u,u,u,u,u,u,u,u,u,u,u,u],[.box [.int .i64 d,.sl 68 Y68 e 3],.box [.int .i64 f,.nils],.row 68 Y68 g false true 3]⟩=hv N a d e f k0 n b g:=by
 intro n;induction n with
 | zero=>intros;rfl
 | succ n k=>
   intro b g
   rw [qD,qE j,hv];unfold Nd Tryz.f69
   simp -implicitDefEqProofs [kn,oG,hx,M6,ur,q2q,BI,i,k]
def Nf:Code:=cut [I,I,I,O,I,I,I,I,O,I,I,I,I] (Tryz.f69.body.getD .skip)
theorem qXr (N:Nat) (a b e:Int) (f:Ze) (g:Int) {k4:(Ze)->ZO [i35,i4]} {Q:ZQ [i35,i4]} {c:Code} (k:c=Nf) (l: ∀st,Q .ret st=qz tt false [i35,i4] [.cell 4 35,.tmp 5] st) (j: ∀(i:Ze),Q (.exit 4) ⟨[u,.one (.int .i64 a),.one (.ptr 0 0 0),u,.one (.ptr 1 0 0),u,.one (.own 2),u,.one (.int .i64 b),u,u,u,u,u,u,u,u,u,u,u,u,u,u,u,u,u,u,u,u,u,u,u,u,u,u,u,u,u,u,u,u,u,u,u,u,u,u,u,u,u,u,u,u,u,u,u,u,u,u,u,u,u,u,u,u,u,u,u,u,u,u,u,u,u,u,u,u,u,u,u,u,u,u,u,u,u,u,u,u,u,u,u,u,u,u,u,u,u,u,u,u,u,u,u,u,u,u,u,u,u,u,u,u],[.box [.int .i64 e,.sl 68 Y68 f 3],.box [.int .i64 g,.nils],.row 68 Y68 i false true 3]⟩=k4 i): ∀(n:Nat) (d:Int) (h:Ze),qw (qd tt Γ69 (T69 N) c) false BG Q n ⟨[u,.one (.int .i64 a),.one (.ptr 0 0 0),u,.one (.ptr 1 0 0),u,.one (.own 2),u,.one (.int .i64 b),.one (.int .i64 d),u,u,u,u,u,u,u,u,u,u,u,u,u,u,u,u,u,u,u,u,u,u,u,u,u,u,u,u,u,u,u,u,u,u,u,u,u,u,u,u,u,u,u,u,u,u,u,u,u,u,u,u,u,u,u,u,u,u,u,u,u,u,u,u,u,u,u,u,u,u,u,u,u,u,u,u,u,u,u,u,u,u,u,u,u,u,u,u,u,u,u,u,u,u,u,u,u,u,u,u,u,u,u],[.box [.int .i64 e,.sl 68 Y68 f 3],.box [.int .i64 g,.nils],.row 68 Y68 h false true 3]⟩=gw N a b e f g k4 n d h:=by
 intro n;induction n with
 | zero=>intros;rfl
 | succ n m=>
   intro d h
   rw [qD,qE k,gw];unfold Nf Tryz.f69
   simp -implicitDefEqProofs [kn,uw,oG,hx,M7,uu,q0H,BK,q2T,BL,M5,uc,l,j,m]
def Ng:Code:=cut [I,I,I,O,I,I,I] (Tryz.f69.body.getD .skip)
theorem qXg (N:Nat) (f b:Int) (d:Ze) (e:Int) {k2:(Ze)->ZO [i35,i4]} {Q:ZQ [i35,i4]} {c:Code} (k:c=Ng) (l: ∀st,Q .ret st=qz tt false [i35,i4] [.cell 4 35,.tmp 5] st) (h2: ∀(j:Ze),Q (.exit 2) ⟨[u,u,.one (.ptr 0 0 0),u,.one (.ptr 1 0 0),u,.one (.own 2),u,u,u,u,u,u,u,u,u,u,u,u,u,u,u,u,u,u,u,u,u,u,u,u,u,u,u,u,u,u,u,u,u,u,u,u,u,u,u,u,u,u,u,u,u,u,u,u,u,u,u,u,u,u,u,u,u,u,u,u,u,u,u,u,u,u,u,u,u,u,u,u,u,u,u,u,u,u,u,u,u,u,u,u,u,u,u,u,u,u,u,u,u,u,u,u,u,u,u,u,u,u,u,u,u,u],[.box [.int .i64 b,.sl 68 Y68 d 3],.box [.int .i64 e,.nils],.row 68 Y68 j false true 3]⟩=k2 j): ∀(n:Nat) (a:Int) (g:Ze),qw (qd tt Γ69 (T69 N) c) false BH Q n ⟨[u,.one (.int .i64 f),.one (.ptr 0 0 0),u,.one (.ptr 1 0 0),u,.one (.own 2),u,.one (.int .i64 a),u,u,u,u,u,u,u,u,u,u,u,u,u,u,u,u,u,u,u,u,u,u,u,u,u,u,u,u,u,u,u,u,u,u,u,u,u,u,u,u,u,u,u,u,u,u,u,u,u,u,u,u,u,u,u,u,u,u,u,u,u,u,u,u,u,u,u,u,u,u,u,u,u,u,u,u,u,u,u,u,u,u,u,u,u,u,u,u,u,u,u,u,u,u,u,u,u,u,u,u,u,u,u,u],[.box [.int .i64 b,.sl 68 Y68 d 3],.box [.int .i64 e,.nils],.row 68 Y68 g false true 3]⟩=iR N f b d e k2 n a g:=by
 intro n;induction n with
 | zero=>intros;rfl
 | succ n h=>
   intro a g
   rw [qD,qE k];unfold Ng Tryz.f69
   simp -implicitDefEqProofs [kn,oF,oG,hx,M7,uu,qTK,BJ,h2]
   rewrite [qXr (k4:=(fun (i:Ze)=>iR N f b d e k2 n (IntKind.i64.wrap (a+(1:Int))) i)) N _ _ _ _ _ ?_ ?_ ?_]
   ·rewrite [iR];first | rfl | simp -implicitDefEqProofs [h]
   ·rfl
   ·intro;simp only [qA,qC,l]
   ·intro i;simp -implicitDefEqProofs [kn,hx,M8,uv,h]
theorem qPY (N:Nat) (a:Zj) (b:Int):qd tt Γ69 (T69 N) (Tryz.f69.body.getD .skip) (qk tt false [i35,i4] [.cell 4 35,.tmp 5]) (qm [i35,i3] 113 (a,b,()))=m69 N a b:=by
 unfold Tryz.f69
 simp -implicitDefEqProofs [kn,oF,hx,M6,ur]
 rewrite [qYO N _ _ _ _ ?_ ?_ ?_]
 ·rewrite [m69];first | rfl | simp -implicitDefEqProofs []
 ·rfl
 ·intro;simp only [qA,qC,qJ]
 ·intro d;simp -implicitDefEqProofs [kn,oF,hx,M8,uv]
  rewrite [qXg N _ _ _ _ ?_ ?_ ?_]
  ·first | rfl | simp -implicitDefEqProofs []
  ·rfl
  ·intro;simp only [qA,qC,qJ]
  ·intro c;simp -implicitDefEqProofs [kn,hx,M5,g68]
def okD (d:Int) (a:Zf):Prop:=okA a/\(List.length (α:=Int) a.1:Int)=d
abbrev mu:ZO [i35,i4]:=some (((0:Int),([]:Ze)),false,())
theorem ko (v:Int) (a:Zf):List.getD (α:=Zc) a.1 v.toNat (qa Zd)=cfV v a:=rfl
theorem oH {v:Int} {a:Zf} (h:okA a): -400000000<=cfV v a/\cfV v a<=400000000:=by
 unfold cfV
 by_cases b:v.toNat<List.length (α:=Int) a.1
 ·rw [List.getD_eq_getElem?_getD,List.getElem?_eq_getElem b]
  exact fH h _ (List.getElem_mem b)
 ·rw [List.getD_eq_getElem?_getD,List.getElem?_eq_none (by omega)]
  exact ⟨by decide,by decide⟩
theorem BM {co:List Int} {k:Int} {s:Bool} (h:(qx co k s).2=true):okA (qx co k s).1/\List.length (α:=Int) (qx co k s).1.1=co.length:=by
 unfold qx ff at*
 generalize max 1 (gL k.natAbs co)=g at*
 cases a:qy (List.map (α:=Int) (fun x=>x.tdiv (g:Int)) co,k.tdiv (g:Int),s)with
 | true=>exact ⟨a,by simp⟩
 | false=>rw [a]at h;simp at h
theorem qP0 {d p q:Int} {a b:Zf} (f:okD d a) (g:okD d b) (h:(bt a p b q).2=true):okD d (bt a p b q).1:=by
 unfold bt at*
 cases c:(qy a&&qy b&&decide (List.length (α:=Int) a.1=List.length (α:=Int) b.1)&&inR p 0 400000000&&inR q 0 400000000)with
 | false=>rw [c]at h;simp at h
 | true=>
   rw [c]at h
   obtain ⟨h1,h2⟩:=BM h
   simp only [Bool.and_eq_true,decide_eq_true_eq]at c
   refine ⟨h1,?_⟩
   have:=f.2
   have e:=dz (p:=p) (q:=q) c.1.1.2
   show (List.length (α:=Int) (qx (qu p q a.1 b.1) _ _).1.1:Int)=d
   rw [h2,e];exact this
theorem oI {v d:Int} {a:Zf} (g:okD d a): ∀{xs s f:Ze},(∀b∈xs,okD d b)->(∀b∈s,okD d b)->dm v a xs s=some f->(∀b∈f,okD d b)/\f.length<=s.length+xs.length
 | [],s,f,_,hs,h=>by simp only [dm,Option.some.injEq]at h;subst h;exact ⟨hs,by simp⟩
 | b::r,s,f,i,hs,h=>by
   simp only [dm]at h
   cases j:decide (cfV v b<0)with
   | false=>
     rw [j]at h
     obtain ⟨h1,h2⟩:=oI g (fun c e=>i c (by simp [e])) hs h
     exact ⟨h1,by simp;omega⟩
   | true=>
     rw [j]at h
     cases hm:(bt a (-cfV v b) b (cfV v a)).2 with
     | false=>rw [hm]at h;simp at h
     | true=>
       rw [hm]at h
       simp only [cond_true]at h
       obtain ⟨h1,h2⟩:=oI g (fun c e=>i c (by simp [e])) (fun c e=>by
        rcases List.mem_append.1 e with e | e
        ·exact hs c e
        ·simp only [List.mem_singleton]at e;subst e;exact qP0 g (i b (by simp)) hm) h
       exact ⟨h1,by simp at h2 ⊢;omega⟩
theorem BN {v d:Int} {l:Ze} (g: ∀b∈l,okD d b): ∀{xs s e:Ze},(∀b∈xs,okD d b)->(∀b∈s,okD d b)->c5 v l xs s=some e->(∀b∈e,okD d b)/\e.length<=s.length+xs.length*l.length
 | [],s,e,_,hs,h=>by simp only [c5,Option.some.injEq]at h;subst h;exact ⟨hs,by simp⟩
 | a::r,s,e,i,hs,h=>by
   simp only [c5]at h
   cases j:decide (0<cfV v a)with
   | false=>
     rw [j]at h
     obtain ⟨h1,h2⟩:=BN g (fun c f=>i c (by simp [f])) hs h
     exact ⟨h1,by simp [Nat.add_mul];omega⟩
   | true=>
     rw [j]at h
     simp only [cond_true]at h
     cases hm:dm v a l s with
     | none=>rw [hm]at h;simp at h
     | some s1=>
       rw [hm]at h
       obtain ⟨g1,g2⟩:=oI (i a (by simp)) g hs hm
       obtain ⟨h1,h2⟩:=BN g (fun c f=>i c (by simp [f])) g1 h
       exact ⟨h1,by simp [Nat.add_mul];omega⟩
theorem ux {ρ:Type} {v:Int} {k:Ze->Option ρ}: ∀(xs:Ze) (i:Nat) (s:Ze),s.length+xs.length<=1048576->
 q5 (fun _ (x:Zf) (s:Ze) K=>bif decide (cfV v x=0)then chk (s.length+[x].length<=1048576) (K (s++[x]))else K s) i xs s k=k (s++xs.filter fun a=>decide (cfV v a=0))
 | [],_,s,_=>by rw [q5];simp
 | x::xs,i,s,h=>by
   simp only [List.length_cons]at h
   rw [q5,List.filter_cons]
   cases b:decide (cfV v x=0)with
   | true=>simp only [cond_true];rw [qc (by simp;omega),ux xs _ _ (by simp;omega)];simp
   | false=>simp only [cond_false];rw [ux xs _ _ (by omega)];simp
theorem uy {ρ:Type} {v:Int} {a:Zf} {r:Option ρ} {k:Ze->Option ρ}: ∀(xs:Ze) (i:Nat) (s:Ze),s.length+xs.length<=1048576->
 q5 (fun _ (b:Zf) (s:Ze) K=>bif decide (0<=cfV v b)then K s else bif !(bt a (-cfV v b) b (cfV v a)).2 then r else chk (s.length+[(bt a (-cfV v b) b (cfV v a)).1].length<=1048576) (K (s++[(bt a (-cfV v b) b (cfV v a)).1]))) i xs s k=match dm v a xs s with
  | some d=>k d
  | none=>r
 | [],_,s,_=>by rw [q5];rfl
 | b::xs,i,s,h=>by
   simp only [List.length_cons]at h
   rw [q5,dm]
   by_cases c:cfV v b<0
   ·rw [qf (show ¬0<=cfV v b by omega),qg c]
    cases hm:(bt a (-cfV v b) b (cfV v a)).2 with
    | false=>rfl
    | true=>
      simp only [Bool.not_true,cond_false,cond_true]
      rw [qc (by simp;omega)]
      exact uy xs _ _ (by simp;omega)
   ·rw [qg (show 0<=cfV v b by omega),qf c]
    exact uy xs _ _ (by omega)
theorem qTa (N:Nat) (d v:Int) (l:Ze) (f:0<=v/\v<d) (e:l.length<=1048576) (h: ∀b∈l,okD d b) (K:Ze->ZO [i35,i4]) (n:Nat) (g:l.length<n):
 hq N v l l.length d l 0 K n 0 []=K (l.filter fun a=>decide (cfV v a=0)):=
 (bp (xs:=l) (F:=fun n i s=>hq N v l l.length d l 0 K n i s) (step:=fun _ (x:Zf) (s:Ze) K=>bif decide (cfV v x=0)then chk (s.length+[x].length<=1048576) (K (s++[x]))else K s) (k:=K) e (fun n i s c=>by
   have hd:=(h _ (List.getElem_mem c)).2
   rw [hq,qg (by omega),qc (by omega),qB c,qc ⟨f.1,by rw [show (List.length (α:=Zc) l[i].1:Int)=d from hd];exact f.2⟩]
   try rfl) (fun n i s c=>by rw [hq,qf (by omega)]) n [] g).trans (ux l 0 [] (by simpa using e))
theorem q2C (N:Nat) (d v:Int) (l:Ze) (c:0<=v/\v<d) (o:l.length<=1048576) (h: ∀b∈l,okD d b) (a:Zf) (j:okD d a) (i0:Int) (K:Ze->ZO [i35,i4]) (n:Nat) (p:l.length<n) (s:Ze) (hs:s.length+l.length<=1048576):
 hr N v l l.length i0 l l.length d l 0 a.1 a.2.1 a.2.2 K n 0 s=match dm v a l s with
  | some q=>K q
  | none=>mu:=
 (bp (xs:=l) (F:=fun n i s=>hr N v l l.length i0 l l.length d l 0 a.1 a.2.1 a.2.2 K n i s) (step:=fun _ (b:Zf) (s:Ze) K=>bif decide (0<=cfV v b)then K s else bif !(bt a (-cfV v b) b (cfV v a)).2 then mu else chk (s.length+[(bt a (-cfV v b) b (cfV v a)).1].length<=1048576) (K (s++[(bt a (-cfV v b) b (cfV v a)).1]))) (k:=K) o (fun n i s e=>by
   have f:=h _ (List.getElem_mem e)
   have g:=f.2
   have m:=j.2
   have r:=oH (v:=v) f.1
   rw [hr,qg (by omega),qc (by omega),qB e,qc ⟨c.1,by rw [show (List.length (α:=Zc) l[i].1:Int)=d from g];exact c.2⟩,qc ⟨c.1,by rw [show (List.length (α:=Zc) l[i].1:Int)=d from g];exact c.2⟩,qc ⟨c.1,by rw [show (List.length (α:=Zc) a.1:Int)=d from m];exact c.2⟩,ko,ko,hp (by unfold inI;omega)]
   try rfl) (fun n i s e=>by rw [hr,qf (by omega)]) n s p).trans (uy l 0 s hs)
theorem BO (N:Nat) (d v:Int) (l:Ze) (a:0<=v/\v<d) (g:l.length<=16) (h: ∀b∈l,okD d b) (c:l.length<N) (K:Ze->ZO [i35,i4]): ∀(k i:Nat),l.length - i=k-> ∀n,k<n-> ∀s:Ze,s.length+k*l.length<=1000->(∀b∈s,okD d b)->
 gv N v l l.length d l 0 K n i s=match c5 v l (l.drop i) s with
  | some p=>K p
  | none=>mu
 | 0,i,o,n+1,_,s,_,_=>by
   rw [gv,qf (by omega),List.drop_eq_nil_of_le (by omega)]
   rfl
 | k+1,i,o,n+1,q,s,hs,j=>by
   have h1:i<l.length:=by omega
   have e:=h _ (List.getElem_mem h1)
   have m:=e.2
   have hk:s.length+(k*l.length+l.length)<=1000:=by rw [Nat.add_mul,Nat.one_mul]at hs;exact hs
   rw [gv,qg (by omega),qc (by omega),qB h1,qc ⟨a.1,by rw [show (List.length (α:=Zc) l[i].1:Int)=d from m];exact a.2⟩,ko,b3 h1 (by omega),cL h1,c5]
   by_cases f:0<cfV v l[i]
   ·rw [qf (show ¬cfV v l[i]<=0 by omega),qg f,q2C N d v l a (by omega) h l[i] e _ _ N c s (by omega)]
    cases hm:dm v l[i] l s with
    | none=>rfl
    | some s1=>
      obtain ⟨g1,g2⟩:=oI e h j hm
      exact BO N d v l a g h c K k (i+1) (by omega) n (by omega) s1 (by omega) g1
   ·rw [qg (show cfV v l[i]<=0 by omega),qf f]
    exact BO N d v l a g h c K k (i+1) (by omega) n (by omega) s (by omega) j
theorem BP {d v:Int} {l s:Ze} (hd:0<=d/\d<=4) (c:l.length<=16) (h: ∀b∈l,okD d b) (hm:c5 v l l (l.filter fun a=>decide (cfV v a=0))=some s):okL d s:=by
 have f:=List.length_filter_le (fun a:Zf=>decide (cfV v a=0)) l
 obtain ⟨g1,g2⟩:=BN h h (fun b e=>h b (List.mem_filter.1 e).1) hm
 have:l.length*l.length<=16*16:=Nat.mul_le_mul c c
 exact ⟨hd,by omega,g1⟩
theorem q2j (c:Zj) (v:Int): ∃N,uk N c v=some ((ek c v).1,(ek c v).2,()):=⟨List.length (α:=Zf) c.2+1,by
 rw [uk]
 unfold ek
 cases l:qI c with
 | false=>rfl
 | true=>
 obtain ⟨hd,d,e⟩:=bB l
 simp only [Bool.not_true,cond_false,Bool.true_and]
 by_cases h1:v<0
 ·rw [qg h1,decide_eq_false (by omega)];rfl
 rw [qf h1]
 by_cases h2:(c.1:Int)<=v
 ·rw [qg h2,decide_eq_false (fun h=>absurd h.2 (Int.not_lt.2 h2))];rfl
 have f:0<=v/\v<(c.1:Int):=⟨by omega,Int.not_le.1 h2⟩
 rw [qf h2,decide_eq_true f]
 have g:=List.length_filter_le (fun a:Zf=>decide (cfV v a=0)) c.2
 have n:List.length (α:=Zf) c.2*List.length (α:=Zf) c.2<=16*16:=Nat.mul_le_mul d d
 rw [qTa _ c.1 v c.2 f (by omega) e _ _ (Nat.lt_succ_self _)]
 have i: ∀b∈List.filter (α:=Zf) (fun a=>decide (cfV v a=0)) c.2,okD c.1 b:=fun b k=>e b (List.mem_filter.1 k).1
 unfold qW
 generalize j:List.filter (α:=Zf) (fun a=>decide (cfV v a=0)) c.2=S at g i ⊢
 refine (BO _ c.1 v c.2 f d e (Nat.lt_succ_self _) _ (List.length (α:=Zf) c.2) 0 rfl _ (Nat.lt_succ_self _) S (by have m:S.length<=List.length (α:=Zf) c.2:=g;omega) i).trans ?_
 rw [List.drop_zero]
 simp only [cond_true]
 cases hm:c5 v c.2 c.2 S with
 | none=>rfl
 | some s=>
   dsimp only
   rw [qc (show oy c.1 s from BP hd d e (j▸hm))]⟩
theorem Nh:Sound Tryz.prog 113 kk:=qo (tt:=tt) (Γ:=iQ) hT (qe s45 (qe qZb (qe qOI ql))) hm (fn:=Tryz.f113) Tryz.func113 (c:=Tryz.f113.body.getD .skip) (by kernel_rfl) (by kernel_rfl) fun x a=>by
 obtain ⟨N,h⟩:=q2j x.1 x.2.1
 exact ⟨kl N,qUx,qp _,qWb N,(qT1 N x.1 x.2.1).trans h⟩
theorem Ni {ρ α σ:Type} {k:σ->Option ρ}: ∀(xs:List α) (i:Nat) (s:σ),q5 (fun _ (_:α) (s:σ) (K:σ->Option ρ)=>K s) i xs s k=k s
 | [],_,_=>rfl
 | _::xs,i,s=>by rw [q5];exact Ni xs _ s
theorem qZE (N:Nat) (d v:Int) (l:Ze) (f:0<=v/\v<d) (e:l.length<=1048576) (h: ∀b∈l,okD d b) (K:Ze->ZO [i35,i4]) (n:Nat) (g:l.length<n):
 hv N v d l 0 K n 0 []=K (l.filter fun a=>decide (cfV v a=0)):=
 (bp (xs:=l) (F:=fun n i s=>hv N v d l 0 K n i s) (step:=fun _ (x:Zf) (s:Ze) K=>bif decide (cfV v x=0)then chk (s.length+[x].length<=1048576) (K (s++[x]))else K s) (k:=K) e (fun n i s c=>by
   have hd:=(h _ (List.getElem_mem c)).2
   rw [hv,qg (by omega),qc (by omega),qB c,qc ⟨f.1,by rw [show (List.length (α:=Zc) l[i].1:Int)=d from hd];exact f.2⟩,qc (by omega)]
   try rfl) (fun n i s c=>by rw [hv,qf (by omega)]) n [] g).trans (ux l 0 [] (by simpa using e))
theorem qWc (N:Nat) (d v:Int) (l:Ze) (a:0<=v/\v<d) (p:l.length<=1048576) (h: ∀b∈l,okD d b) (i0:Nat) (f:i0<l.length) (K:Ze->ZO [i35,i4]) (n:Nat) (q:l.length<n) (s:Ze) (hs:s.length+l.length<=1048576):
 gw N v i0 d l 0 K n 0 s=bif decide (0<cfV v l[i0])then (match dm v l[i0] l s with
  | some w=>K w
  | none=>mu)else K s:=by
 refine (bp (xs:=l) (F:=fun n i s=>gw N v i0 d l 0 K n i s) (step:=fun _ (b:Zf) (s:Ze) K=>bif decide (cfV v l[i0]<=0)then K s else bif decide (0<=cfV v b)then K s else bif !(bt l[i0] (-cfV v b) b (cfV v l[i0])).2 then mu else chk (s.length+[(bt l[i0] (-cfV v b) b (cfV v l[i0])).1].length<=1048576) (K (s++[(bt l[i0] (-cfV v b) b (cfV v l[i0])).1]))) (k:=K) p (fun n i s e=> ?_) (fun n i s e=>by rw [gw,qf (by omega)]) n s q).trans ?_
 ·have g:=h _ (List.getElem_mem f)
  have c:=h _ (List.getElem_mem e)
  have o:=c.2
  have m:=g.2
  have x:=oH (v:=v) c.1
  have t:cx l[i0]:=by have:=(ch g.1).1;show List.length (α:=Zc) l[i0].1<=1048576;exact Nat.le_trans this (by decide)
  have u:cx l[i]:=by have:=(ch c.1).1;show List.length (α:=Zc) l[i].1<=1048576;exact Nat.le_trans this (by decide)
  rw [gw,qg (by omega),qB f,qB e]
  have r:IntKind.i64.wrap (0 - cfV v l[i])= -cfV v l[i]:=hp (by unfold inI;omega)
  rw [ko v l[i0],ko v l[i],r,qc (by omega),qc ⟨a.1,by rw [show (List.length (α:=Zc) l[i0].1:Int)=d from m];exact a.2⟩,qc (by omega),qc ⟨a.1,by rw [show (List.length (α:=Zc) l[i].1:Int)=d from o];exact a.2⟩,qc (by omega),qc (by omega),qc (show ua l[i0] _ l[i] _ from ⟨t,u⟩)]
  try rfl
 ·by_cases j:0<cfV v l[i0]
  ·rw [qg j,decide_eq_false (show ¬cfV v l[i0]<=0 by omega)]
   exact uy l 0 s hs
  ·rw [qf j,decide_eq_true (show cfV v l[i0]<=0 by omega)]
   exact Ni l 0 s
theorem BQ (N:Nat) (d v:Int) (l:Ze) (e:0<=v/\v<d) (f:l.length<=16) (h: ∀b∈l,okD d b) (c:l.length<N) (K:Ze->ZO [i35,i4]): ∀(k i:Nat),l.length - i=k-> ∀n,k<n-> ∀s:Ze,s.length+k*l.length<=1000->(∀b∈s,okD d b)->
 iR N v d l 0 K n i s=match c5 v l (l.drop i) s with
  | some o=>K o
  | none=>mu
 | 0,i,m,n+1,_,s,_,_=>by
   rw [iR,qf (by omega),List.drop_eq_nil_of_le (by omega)]
   rfl
 | k+1,i,m,n+1,p,s,hs,g=>by
   have h1:i<l.length:=by omega
   have j:=h _ (List.getElem_mem h1)
   have hk:s.length+(k*l.length+l.length)<=1000:=by rw [Nat.add_mul,Nat.one_mul]at hs;exact hs
   rw [iR,qg (by omega),b3 h1 (by omega),cL h1,c5,qWc N d v l e (by omega) h i h1 _ N c s (by omega)]
   by_cases a:0<cfV v l[i]
   ·rw [qg a,qg a]
    cases hm:dm v l[i] l s with
    | none=>rfl
    | some s1=>
      obtain ⟨g1,g2⟩:=oI j h g hm
      exact BQ N d v l e f h c K k (i+1) (by omega) n (by omega) s1 (by omega) g1
   ·rw [qf a,qf a]
    exact BQ N d v l e f h c K k (i+1) (by omega) n (by omega) s (by omega) g
theorem e69 (c:Zj) (v:Int) (h:mr c v): ∃N,m69 N c v=some ((qW c v).1,(qW c v).2,()):=⟨List.length (α:=Zf) c.2+1,by
 obtain ⟨l,i⟩:=h
 rw [m69]
 obtain ⟨hd,d,e⟩:=bB l
 have f:=List.length_filter_le (fun a:Zf=>decide (cfV v a=0)) c.2
 have n:List.length (α:=Zf) c.2*List.length (α:=Zf) c.2<=16*16:=Nat.mul_le_mul d d
 rw [qZE _ c.1 v c.2 i (by omega) e _ _ (Nat.lt_succ_self _)]
 have g: ∀b∈List.filter (α:=Zf) (fun a=>decide (cfV v a=0)) c.2,okD c.1 b:=fun b k=>e b (List.mem_filter.1 k).1
 unfold qW
 generalize j:List.filter (α:=Zf) (fun a=>decide (cfV v a=0)) c.2=S at f g ⊢
 refine (BQ _ c.1 v c.2 i d e (Nat.lt_succ_self _) _ (List.length (α:=Zf) c.2) 0 rfl _ (Nat.lt_succ_self _) S (by have m:S.length<=List.length (α:=Zf) c.2:=f;omega) g).trans ?_
 rw [List.drop_zero]
 cases hm:c5 v c.2 c.2 S with
 | none=>rfl
 | some s=>
   dsimp only
   rw [qc (show dy c.1 s from BP hd d e (j▸hm))]
   unfold dk
   cases decide ((16:Int)<(List.length (α:=Zf) (qS c.1 s).2:Int))<;>rfl⟩
theorem s69:Sound Tryz.prog 69 g69:=qo (tt:=tt) (Γ:=Γ69) hT (qe s68 (qe q01 ql)) hm (fn:=Tryz.f69) Tryz.func69 (c:=Tryz.f69.body.getD .skip) (by kernel_rfl) (by kernel_rfl) fun x a=>by
 obtain ⟨N,h⟩:=e69 x.1 x.2.1 a
 exact ⟨T69 N,p69,qp _,q3z N,(qPY N x.1 x.2.1).trans h⟩
end
end Go.T
