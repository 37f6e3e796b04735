import Derived.Test.YtllelgnepalfjaaGreatK10
set_option linter.unusedSimpArgs false
set_option linter.unusedVariables false
namespace Go.T
noncomputable section
open Go Go.Proofs
set_option maxHeartbeats 4000000
set_option maxRecDepth 100000
def h5 (x:Zb) (n:Int):Int:=szV (.slice 3 Zd) x n
def xJ (x:Zb) (n:Int):Prop:=nO (.slice 3 Zd) x n
def m60 (N:Nat) (a:Zb) (b:Int):ZO [i3]:=bif (decide ((IntKind.i64.wrap (b - (a.length:Int)))<(0:Int)))then (some ((-1:Int),()))else (some ((IntKind.i64.wrap (b - (a.length:Int))),()))
def Γ60:Gam:=[]
theorem p60:qi tr0 (Tryz.f60.body.getD .skip)=true:=by kernel_rfl
def T60 (N:Nat):Tab:={tr:=tr0,lp:=lp0,ex:=ex0,rg:=rg0,jn:=jn0,fuel:=N}
theorem qUG (N:Nat):qj Tryz.prog (T60 N):=qn fun _=>rfl
theorem qTB (N:Nat):qr (T60 N) tr0 lp0 ex0 rg0 jn0 N false:=qt
theorem qZe (N:Nat) (a:Zb) (b:Int):qd tt Γ60 (T60 N) (Tryz.f60.body.getD .skip) (qk tt true [i3] [.tmp 4]) (qm [i25,i3] 12 (a,b,()))=m60 N a b:=by
 rw [m60];unfold Tryz.f60
 simp -implicitDefEqProofs [qTB]
 try rfl
def g60:G:={ps:=[i25,i3],rs:=[i3],dp:=true,pre:=fun x=>xJ x.1 x.2.1,fn:=fun x=>(h5 x.1 x.2.1,())}
theorem e60 (x:Zb) (n:Int) (h:xJ x n): ∃N,m60 N x n=some (h5 x n,()):=⟨0,by
 obtain ⟨hs,a,h1⟩:=h
 rw [m60,Kl a h1 hs.1]
 simp only [h5,JX]
 by_cases c:n - (List.length x:Int)<0
 ·rw [qg c,if_pos c]
 ·rw [qf c,if_neg c,VP (fun _ _=>rfl) _ _ (by omega)]⟩
theorem s60:Sound Tryz.prog 60 g60:=qo (tt:=tt) (Γ:=Γ60) hT ql hm (fn:=Tryz.f60) Tryz.func60 (c:=Tryz.f60.body.getD .skip) (by kernel_rfl) (by kernel_rfl) fun x a=>by
 obtain ⟨N,h⟩:=e60 x.1 x.2.1 a
 exact ⟨T60 N,p60,qp _,qUG N,(qZe N x.1 x.2.1).trans h⟩
def lj (x:Val Y56) (n:Int):Int:=szV Y56 x n
def xK (x:Val Y56) (n:Int):Prop:=nO Y56 x n
def m30 (N:Nat) (a:Val Y56) (b:Int):ZO [i3]:=chk (xJ (a.1:Zb) b) (bif (decide (((h5 (a.1:Zb) b):Int)<(0:Int)))then (some ((-1:Int),()))else (some (((h5 (a.1:Zb) b):Int),())))
def Γ30:Gam:=[(60,g60)]
theorem qUa:Gam.get Γ30 60=some g60:=rfl
theorem p30:qi tr0 (Tryz.f30.body.getD .skip)=true:=by kernel_rfl
def T30 (N:Nat):Tab:={tr:=tr0,lp:=lp0,ex:=ex0,rg:=rg0,jn:=jn0,fuel:=N}
theorem q0y (N:Nat):qj Tryz.prog (T30 N):=qn fun _=>rfl
theorem q1F (N:Nat):qr (T30 N) tr0 lp0 ex0 rg0 jn0 N false:=qt
theorem qUh (N:Nat) (a:Val Y56) (b:Int):qd tt Γ30 (T30 N) (Tryz.f30.body.getD .skip) (qk tt true [i3] [.tmp 4]) (qm [i56,i3] 12 (a,b,()))=m30 N a b:=by
 rw [m30];unfold Tryz.f30
 simp -implicitDefEqProofs [q1F,qUa,g60]
 try rfl
def g30:G:={ps:=[i56,i3],rs:=[i3],dp:=true,pre:=fun x=>xK x.1 x.2.1,fn:=fun x=>(lj x.1 x.2.1,())}
theorem e30 (x:Val Y56) (n:Int) (h:xK x n): ∃N,m30 N x n=some (lj x n,()):=⟨0,by
 obtain ⟨a,g,i⟩:=x
 obtain ⟨hs,c,h1⟩:=h
 obtain ⟨e,s1,s2⟩:=hs
 rw [m30,lj]
 dsimp only
 rw [qc (show xJ a n from ⟨e,c,h1⟩)]
 by_cases b:h5 a n<0
 ·rw [qg b,V5 (show szV (.slice 3 Zd) a n<0 from b)]
 ·have d:0<=h5 a n:=by omega
  have f:h5 a n<=1048576:=Int.le_trans (eY (.slice 3 Zd) a n c).1 h1
  rw [qf b,V6 (show 0<=szV (.slice 3 Zd) a n from d)]
  change _=some (szV (.pair Zd .bool) _ (h5 a n),())
  rw [Kk d]
  rfl⟩
theorem s30:Sound Tryz.prog 30 g30:=qo (tt:=tt) (Γ:=Γ30) hT (qe s60 ql) hm (fn:=Tryz.f30) Tryz.func30 (c:=Tryz.f30.body.getD .skip) (by kernel_rfl) (by kernel_rfl) fun x a=>by
 obtain ⟨N,h⟩:=e30 x.1 x.2.1 a
 exact ⟨T30 N,p30,qp _,q0y N,(qUh N x.1 x.2.1).trans h⟩
def na (x:Zl) (n:Int):Int:=szV (.slice 56 Y56) x n
def xL (x:Zl) (n:Int):Prop:=nO (.slice 56 Y56) x n
def ll (N:Nat) (b:Zl) (k0:Int->ZO [i3]):Nat->Int->Int->ZO [i3]
 | 0,_,_=>none
 | n+1,c,a=>bif (decide (a<(b.length:Int)))then (chk (0<=a/\a<(b.length:Int)) (chk (xK (b.getD a.toNat (qa Y56)) c) (bif (decide (((lj (b.getD a.toNat (qa Y56)) c):Int)<(0:Int)))then (some ((-1:Int),()))else (ll N b k0 n ((lj (b.getD a.toNat (qa Y56)) c):Int) (IntKind.i64.wrap (a+(1:Int)))))))else (k0 c)
def m16 (N:Nat) (a:Zl) (b:Int):ZO [i3]:=bif (decide ((IntKind.i64.wrap (b - (a.length:Int)))<(0:Int)))then (some ((-1:Int),()))else (ll N a (fun (c:Int)=>some (c,())) N (IntKind.i64.wrap (b - (a.length:Int))) (0:Int))
def Γ16:Gam:=[(30,g30)]
theorem qOf:Gam.get Γ16 30=some g30:=rfl
def xM:List Bool:=[I,I,O,O,O,I]
def H3:Nm:=⟨xM,[],false⟩
theorem TR:NmS H3 xM [] false:=nmS
def H4:List Bool:=[O,I]
def TS:Nm:=⟨H4,[],false⟩
theorem qQt:NmS TS H4 [] false:=nmS
def H5:Nat->Nm:=fun i=>if i=5 then H3 else ⟨[],[],false⟩
def H6:Nat->Option Nm:=fun i=>if i=0 then some TS else none
theorem p16:qi tr0 (Tryz.f16.body.getD .skip)=true:=by kernel_rfl
def T16 (N:Nat):Tab:={tr:=tr0,lp:=H5,ex:=H6,rg:=rg0,jn:=jn0,fuel:=N}
theorem qYs (N:Nat):qj Tryz.prog (T16 N):=qn fun _=>rfl
theorem H7 (N:Nat):qr (T16 N) tr0 H5 H6 rg0 jn0 N false:=qt
def TU:Code:=cut [I,I,I,O,I,I,I] (Tryz.f16.body.getD .skip)
theorem qNr (N:Nat) (d:Zl) {k0:Int->ZO [i3]} {Q:ZQ [i3]} {c:Code} (g:c=TU) (h: ∀st,Q .ret st=qz tt true [i3] [.tmp 4] st) (f: ∀(e:Int),Q (.exit 0) ⟨[u,.one (.int .i64 e),u,u,u,u,u,u,u,u,u,u,u,u,u,u,u,u,u,u,u,u,u,u,u,u,u],[]⟩=k0 e): ∀(n:Nat) (a b:Int),qw (qd tt Γ16 (T16 N) c) false H3 Q n ⟨[.one (.sl 56 Y56 d 0),.one (.int .i64 a),u,u,u,.one (.int .i64 b),u,u,u,u,u,u,u,u,u,u,u,u,u,u,u,u,u,u,u,u,u],[]⟩=ll N d k0 n a b:=by
 intro n;induction n with
 | zero=>intros;rfl
 | succ n i=>
   intro a b
   rw [qD,qE g,ll];unfold TU Tryz.f16
   simp -implicitDefEqProofs [H7,H6,TR,xM,qQt,H4,qOf,g30,h,f,i]
theorem qX9 (N:Nat) (a:Zl) (b:Int):qd tt Γ16 (T16 N) (Tryz.f16.body.getD .skip) (qk tt true [i3] [.tmp 4]) (qm [i22,i3] 27 (a,b,()))=m16 N a b:=by
 unfold Tryz.f16
 simp -implicitDefEqProofs [H7,H5,TR,xM]
 rewrite [qNr (k0:=(fun (c:Int)=>some (c,()))) N _ ?_ ?_ ?_]
 ·rewrite [m16];first | rfl | simp -implicitDefEqProofs []
 ·rfl
 ·intro;simp only [qA,qC,qJ]
 ·intro c;simp -implicitDefEqProofs [H7]
def g16:G:={ps:=[i22,i3],rs:=[i3],dp:=true,pre:=fun x=>xL x.1 x.2.1,fn:=fun x=>(na x.1 x.2.1,())}
theorem e16 (x:Zl) (n:Int) (h:xL x n): ∃N,m16 N x n=some (na x n,()):=⟨List.length x+1,by
 obtain ⟨hs,b,h1⟩:=h
 rw [m16,Kl b h1 hs.1]
 simp only [na,JX]
 by_cases c:n - (List.length x:Int)<0
 ·rw [qg c,if_pos c]
 ·rw [qf c,if_neg c]
  refine (bp (F:=fun n i s=>ll _ x _ n s i) (step:=fun _ y (s:Int) K=>chk (xK y s) (bif decide (lj y s<0)then some ((-1:Int),())else K (lj y s))) (k:=fun s=>some (s,())) (by omega) (fun n i s a=> ?_) (fun n i s a=> ?_) _ _ (Nat.lt_succ_self _)).trans (Kh (t:=Y56) x 0 _ (by omega) (by omega) hs.2)
  ·rw [ll,qg (by omega),qc (by omega),qB a]
  ·rw [ll,qf (by omega)]⟩
theorem s16:Sound Tryz.prog 16 g16:=qo (tt:=tt) (Γ:=Γ16) hT (qe s30 ql) hm (fn:=Tryz.f16) Tryz.func16 (c:=Tryz.f16.body.getD .skip) (by kernel_rfl) (by kernel_rfl) fun x a=>by
 obtain ⟨N,h⟩:=e16 x.1 x.2.1 a
 exact ⟨T16 N,p16,qp _,qYs N,(qX9 N x.1 x.2.1).trans h⟩
def pX (x:Val Y24) (n:Int):Int:=szV Y24 x n
def xN (x:Val Y24) (n:Int):Prop:=nO Y24 x n
def m4 (N:Nat) (a:Val Y24) (b:Int):ZO [i3]:=chk (xL (a.2:Zl) b) (bif (decide (((na (a.2:Zl) b):Int)<(0:Int)))then (some ((-1:Int),()))else (some (((na (a.2:Zl) b):Int),())))
def Γ4:Gam:=[(16,g16)]
theorem qRZ:Gam.get Γ4 16=some g16:=rfl
theorem p4:qi tr0 (Tryz.f4.body.getD .skip)=true:=by kernel_rfl
def T4 (N:Nat):Tab:={tr:=tr0,lp:=lp0,ex:=ex0,rg:=rg0,jn:=jn0,fuel:=N}
theorem tb4 (N:Nat):qj Tryz.prog (T4 N):=qn fun _=>rfl
theorem qZH (N:Nat):qr (T4 N) tr0 lp0 ex0 rg0 jn0 N false:=qt
theorem qS0 (N:Nat) (a:Val Y24) (b:Int):qd tt Γ4 (T4 N) (Tryz.f4.body.getD .skip) (qk tt true [i3] [.tmp 4]) (qm [i24,i3] 12 (a,b,()))=m4 N a b:=by
 rw [m4];unfold Tryz.f4
 simp -implicitDefEqProofs [qZH,qRZ,g16]
 try rfl
def g4:G:={ps:=[i24,i3],rs:=[i3],dp:=true,pre:=fun x=>xN x.1 x.2.1,fn:=fun x=>(pX x.1 x.2.1,())}
theorem e4 (x:Val Y24) (n:Int) (h:xN x n): ∃N,m4 N x n=some (pX x n,()):=⟨0,by
 obtain ⟨d,b⟩:=x
 obtain ⟨hs,a,h1⟩:=h
 obtain ⟨c,s1⟩:=hs
 rw [m4,pX]
 dsimp only
 rw [Kk a]
 rw [qc (show xL b n from ⟨s1,a,h1⟩)]
 by_cases c1:na b n<0
 ·rw [qg c1]
  exact congrArg (fun z=>some (z,())) ((eY (.slice 56 Y56) b n a).2 c1).symm
 ·rw [qf c1]
  rfl⟩
theorem s4:Sound Tryz.prog 4 g4:=qo (tt:=tt) (Γ:=Γ4) hT (qe s16 ql) hm (fn:=Tryz.f4) Tryz.func4 (c:=Tryz.f4.body.getD .skip) (by kernel_rfl) (by kernel_rfl) fun x a=>by
 obtain ⟨N,h⟩:=e4 x.1 x.2.1 a
 exact ⟨T4 N,p4,qp _,tb4 N,(qS0 N x.1 x.2.1).trans h⟩
def qN (x:Zb):Zb:=x
def h6 (x:Zb):Prop:=Bd (.slice 3 Zd) x
def ln (N:Nat) (b:Zb) (k0:(Zb)->ZO [i25]):Nat->Int->(Zb)->ZO [i25]
 | 0,_,_=>none
 | n+1,a,c=>bif (decide (a<(b.length:Int)))then (chk (0<=a/\a<(b.length:Int)) (chk (0<=a/\a<(c.length:Int)) (chk (a.toNat<c.length) (ln N b k0 n (IntKind.i64.wrap (a+(1:Int))) (c.set a.toNat ((b.getD a.toNat (qa Zd)):Int))))))else (k0 c)
def m7 (N:Nat) (a:Zb):ZO [i25]:=chk (0<=(a.length:Int)/\(a.length:Int)<=(a.length:Int)/\(a.length:Int)<=1048576) (ln N a (fun (b:Zb)=>some (b,())) N (0:Int) (List.replicate (a.length:Int).toNat (qa Zd)))
def Γ7:Gam:=[]
def xO:List Bool:=[I,O,O,I,I]
def H8:Nm:=⟨xO,[],false⟩
theorem TV:NmS H8 xO [] false:=nmS
def H9:List Bool:=[O,O,O,I]
def TW:Nm:=⟨H9,[],false⟩
theorem qUE:NmS TW H9 [] false:=nmS
def lp7:Nat->Nm:=fun i=>if i=3 then H8 else ⟨[],[],false⟩
def ex7:Nat->Option Nm:=fun i=>if i=0 then some TW else none
theorem p7:qi tr0 (Tryz.f7.body.getD .skip)=true:=by kernel_rfl
def T7 (N:Nat):Tab:={tr:=tr0,lp:=lp7,ex:=ex7,rg:=rg0,jn:=jn0,fuel:=N}
theorem tb7 (N:Nat):qj Tryz.prog (T7 N):=qn fun _=>rfl
theorem Ia (N:Nat):qr (T7 N) tr0 lp7 ex7 rg0 jn0 N false:=qt
def TX:Code:=cut [I,I,O,I,I,I] (Tryz.f7.body.getD .skip)
theorem qPZ (N:Nat) (d:Zb) {k0:(Zb)->ZO [i25]} {Q:ZQ [i25]} {c:Code} (g:c=TX) (i: ∀st,Q .ret st=qz tt true [i25] [.tmp 2] st) (f: ∀(e:Zb),Q (.exit 0) ⟨[u,u,u,.one (.own 0),u,u,u,u,u,u,u,u,u,u,u,u,u,u,u,u,u,u],[.row 3 Zd e true true 0]⟩=k0 e): ∀(n:Nat) (a:Int) (b:Zb),qw (qd tt Γ7 (T7 N) c) false H8 Q n ⟨[.one (.sl 3 Zd d 1),u,u,.one (.own 0),.one (.int .i64 a),u,u,u,u,u,u,u,u,u,u,u,u,u,u,u,u,u],[.row 3 Zd b true true 0]⟩=ln N d k0 n a b:=by
 intro n;induction n with
 | zero=>intros;rfl
 | succ n h=>
   intro a b
   rw [qD,qE g,ln];unfold TX Tryz.f7
   simp -implicitDefEqProofs [Ia,ex7,TV,xO,qUE,H9,f,h]
theorem qO7 (N:Nat) (a:Zb):qd tt Γ7 (T7 N) (Tryz.f7.body.getD .skip) (qk tt true [i25] [.tmp 2]) (qm [i25] 22 (a,()))=m7 N a:=by
 unfold Tryz.f7
 simp -implicitDefEqProofs [Ia,lp7,TV,xO]
 rewrite [qPZ (k0:=(fun (b:Zb)=>some (b,()))) N _ ?_ ?_ ?_]
 ·rewrite [m7];first | rfl | simp -implicitDefEqProofs []
 ·rfl
 ·intro;simp only [qA,qC,qJ]
 ·intro b;simp -implicitDefEqProofs [Ia]
def g7:G:={ps:=[i25],rs:=[i25],dp:=true,pre:=fun x=>h6 x.1,fn:=fun x=>(qN x.1,())}
theorem e7 (x:Zb) (h:h6 x): ∃N,m7 N x=some (qN x,()):=⟨List.length x+1,by
 rw [m7,qc (jZ h.1),Int.toNat_natCast]
 refine jY (F:=fun n i s=>ln _ x _ n i s) (k:=fun s=>some (s,())) (qa Zd) h.1 (fun n i s a b=> ?_) (fun n i s a=> ?_) _ (Nat.lt_succ_self _)
 ·rw [ln,qg (by omega),qc (by omega),qB a,qc (by omega),qc (by omega)]
  rfl
 ·rw [ln,qf (by omega)]⟩
theorem s7:Sound Tryz.prog 7 g7:=qo (tt:=tt) (Γ:=Γ7) hT ql hm (fn:=Tryz.f7) Tryz.func7 (c:=Tryz.f7.body.getD .skip) (by kernel_rfl) (by kernel_rfl) fun x a=>by
 obtain ⟨N,h⟩:=e7 x.1 a
 exact ⟨T7 N,p7,qp _,tb7 N,(qO7 N x.1).trans h⟩
def Ib (x:Val Y56):Zf:=x
def xP (x:Val Y56):Prop:=Bd Y56 x
def m44 (N:Nat) (a:Val Y56):ZO [i68]:=chk (h6 (a.1:Zb)) (some ((((qN (a.1:Zb)):Zb),(a.2.1:Int),(a.2.2:Bool)),()))
def Γ44:Gam:=[(7,g7)]
theorem qQm:Gam.get Γ44 7=some g7:=rfl
theorem p44:qi tr0 (Tryz.f44.body.getD .skip)=true:=by kernel_rfl
def T44 (N:Nat):Tab:={tr:=tr0,lp:=lp0,ex:=ex0,rg:=rg0,jn:=jn0,fuel:=N}
theorem qU9 (N:Nat):qj Tryz.prog (T44 N):=qn fun _=>rfl
theorem qOP (N:Nat):qr (T44 N) tr0 lp0 ex0 rg0 jn0 N false:=qt
theorem q1I (N:Nat) (a:Val Y56):qd tt Γ44 (T44 N) (Tryz.f44.body.getD .skip) (qk tt true [i68] [.cell 2 68]) (qm [i56] 15 (a,()))=m44 N a:=by
 rw [m44];unfold Tryz.f44
 simp -implicitDefEqProofs [qOP,qQm,g7]
 try rfl
def g44:G:={ps:=[i56],rs:=[i68],dp:=true,pre:=fun x=>xP x.1,fn:=fun x=>(Ib x.1,())}
theorem e44 (x:Val Y56) (h:xP x): ∃N,m44 N x=some (Ib x,()):=⟨0,by
 obtain ⟨a,s1,s2⟩:=h
 rw [m44,qc (show h6 _ from a)]
 rfl⟩
theorem s44:Sound Tryz.prog 44 g44:=qo (tt:=tt) (Γ:=Γ44) hT (qe s7 ql) hm (fn:=Tryz.f44) Tryz.func44 (c:=Tryz.f44.body.getD .skip) (by kernel_rfl) (by kernel_rfl) fun x a=>by
 obtain ⟨N,h⟩:=e44 x.1 a
 exact ⟨T44 N,p44,qp _,qU9 N,(q1I N x.1).trans h⟩
def Ic (x:Zl):Ze:=x
def xQ (x:Zl):Prop:=Bd (.slice 56 Y56) x
def lq (N:Nat) (b:Zl) (k0:(Ze)->ZO [i33]):Nat->Int->(Ze)->ZO [i33]
 | 0,_,_=>none
 | n+1,a,c=>bif (decide (a<(b.length:Int)))then (chk (0<=a/\a<(b.length:Int)) (chk (xP (b.getD a.toNat (qa Y56))) (chk (0<=a/\a<(c.length:Int)) (chk (a.toNat<c.length) (lq N b k0 n (IntKind.i64.wrap (a+(1:Int))) (c.set a.toNat (Ib (b.getD a.toNat (qa Y56)))))))))else (k0 c)
def m19 (N:Nat) (a:Zl):ZO [i33]:=chk (0<=(a.length:Int)/\(a.length:Int)<=(a.length:Int)/\(a.length:Int)<=1048576) (lq N a (fun (b:Ze)=>some (b,())) N (0:Int) (List.replicate (a.length:Int).toNat (qa Y68)))
def Γ19:Gam:=[(44,g44)]
theorem qTl:Gam.get Γ19 44=some g44:=rfl
def xR:List Bool:=[I,O,O,I,I]
def Ie:Nm:=⟨xR,[],false⟩
theorem TY:NmS Ie xR [] false:=nmS
def If:List Bool:=[O,O,O,I]
def TZ:Nm:=⟨If,[],false⟩
theorem qW8:NmS TZ If [] false:=nmS
def Ig:Nat->Nm:=fun i=>if i=3 then Ie else ⟨[],[],false⟩
def Ih:Nat->Option Nm:=fun i=>if i=0 then some TZ else none
theorem p19:qi tr0 (Tryz.f19.body.getD .skip)=true:=by kernel_rfl
def T19 (N:Nat):Tab:={tr:=tr0,lp:=Ig,ex:=Ih,rg:=rg0,jn:=jn0,fuel:=N}
theorem qPw (N:Nat):qj Tryz.prog (T19 N):=qn fun _=>rfl
theorem Ii (N:Nat):qr (T19 N) tr0 Ig Ih rg0 jn0 N false:=qt
def T0:Code:=cut [I,I,O,I,I,I] (Tryz.f19.body.getD .skip)
theorem q3x (N:Nat) (d:Zl) {k0:(Ze)->ZO [i33]} {Q:ZQ [i33]} {c:Code} (g:c=T0) (i: ∀st,Q .ret st=qz tt true [i33] [.tmp 2] st) (f: ∀(e:Ze),Q (.exit 0) ⟨[u,u,u,.one (.own 0),u,u,u,u,u,u,u,u,u,u,u,u,u,u,u,u,u,u,u],[.row 68 Y68 e true true 0]⟩=k0 e): ∀(n:Nat) (a:Int) (b:Ze),qw (qd tt Γ19 (T19 N) c) false Ie Q n ⟨[.one (.sl 56 Y56 d 1),u,u,.one (.own 0),.one (.int .i64 a),u,u,u,u,u,u,u,u,u,u,u,u,u,u,u,u,u,u],[.row 68 Y68 b true true 0]⟩=lq N d k0 n a b:=by
 intro n;induction n with
 | zero=>intros;rfl
 | succ n h=>
   intro a b
   rw [qD,qE g,lq];unfold T0 Tryz.f19
   simp -implicitDefEqProofs [Ii,Ih,TY,xR,qW8,If,qTl,g44,f,h]
theorem qQR (N:Nat) (a:Zl):qd tt Γ19 (T19 N) (Tryz.f19.body.getD .skip) (qk tt true [i33] [.tmp 2]) (qm [i22] 23 (a,()))=m19 N a:=by
 unfold Tryz.f19
 simp -implicitDefEqProofs [Ii,Ig,TY,xR]
 rewrite [q3x (k0:=(fun (b:Ze)=>some (b,()))) N _ ?_ ?_ ?_]
 ·rewrite [m19];first | rfl | simp -implicitDefEqProofs []
 ·rfl
 ·intro;simp only [qA,qC,qJ]
 ·intro b;simp -implicitDefEqProofs [Ii]
def g19:G:={ps:=[i22],rs:=[i33],dp:=true,pre:=fun x=>xQ x.1,fn:=fun x=>(Ic x.1,())}
theorem e19 (x:Zl) (h:xQ x): ∃N,m19 N x=some (Ic x,()):=⟨List.length x+1,by
 rw [m19,qc (jZ h.1),Int.toNat_natCast]
 refine jY (F:=fun n i s=>lq _ x _ n i s) (k:=fun s=>some (s,())) (qa Y68) h.1 (fun n i s a b=> ?_) (fun n i s a=> ?_) _ (Nat.lt_succ_self _)
 ·rw [lq,qg (by omega),qc (by omega),qc (show xP _ from by rw [qB a];exact h.2 _ (List.getElem_mem a)),qB a,qc (by omega),qc (by omega)]
  rfl
 ·rw [lq,qf (by omega)]⟩
theorem s19:Sound Tryz.prog 19 g19:=qo (tt:=tt) (Γ:=Γ19) hT (qe s44 ql) hm (fn:=Tryz.f19) Tryz.func19 (c:=Tryz.f19.body.getD .skip) (by kernel_rfl) (by kernel_rfl) fun x a=>by
 obtain ⟨N,h⟩:=e19 x.1 a
 exact ⟨T19 N,p19,qp _,qPw N,(qQR N x.1).trans h⟩
def qK (x:Val Y24):Zj:=x
def lr (x:Val Y24):Prop:=Bd Y24 x
def m6 (N:Nat) (a:Val Y24):ZO [i35]:=chk (xQ (a.2:Zl)) (some (((a.1:Int),((Ic (a.2:Zl)):Ze)),()))
def Γ6:Gam:=[(19,g19)]
theorem qUQ:Gam.get Γ6 19=some g19:=rfl
theorem p6:qi tr0 (Tryz.f6.body.getD .skip)=true:=by kernel_rfl
def T6 (N:Nat):Tab:={tr:=tr0,lp:=lp0,ex:=ex0,rg:=rg0,jn:=jn0,fuel:=N}
theorem tb6 (N:Nat):qj Tryz.prog (T6 N):=qn fun _=>rfl
theorem q2r (N:Nat):qr (T6 N) tr0 lp0 ex0 rg0 jn0 N false:=qt
theorem qRH (N:Nat) (a:Val Y24):qd tt Γ6 (T6 N) (Tryz.f6.body.getD .skip) (qk tt true [i35] [.cell 2 35]) (qm [i24] 12 (a,()))=m6 N a:=by
 rw [m6];unfold Tryz.f6
 simp -implicitDefEqProofs [q2r,qUQ,g19]
 try rfl
def g6:G:={ps:=[i24],rs:=[i35],dp:=true,pre:=fun x=>lr x.1,fn:=fun x=>(qK x.1,())}
theorem e6 (x:Val Y24) (h:lr x): ∃N,m6 N x=some (qK x,()):=⟨0,by
 obtain ⟨a,s1⟩:=h
 rw [m6,qc (show xQ _ from s1)]
 rfl⟩
theorem s6:Sound Tryz.prog 6 g6:=qo (tt:=tt) (Γ:=Γ6) hT (qe s19 ql) hm (fn:=Tryz.f6) Tryz.func6 (c:=Tryz.f6.body.getD .skip) (by kernel_rfl) (by kernel_rfl) fun x a=>by
 obtain ⟨N,h⟩:=e6 x.1 a
 exact ⟨T6 N,p6,qp _,tb6 N,(qRH N x.1).trans h⟩
def h7 (x y:Zb):Bool:=eqV (.slice 3 Zd) x y
def jD (x _:Zb):Prop:=Bd (.slice 3 Zd) x
def lu (N:Nat) (b c:Zb) (k0:Unit->ZO [i4]):Nat->Int->ZO [i4]
 | 0,_=>none
 | n+1,a=>bif (decide (a<(b.length:Int)))then (chk (0<=a/\a<(b.length:Int)) (chk (0<=a/\a<(c.length:Int)) (bif (!(decide (((b.getD a.toNat (qa Zd)):Int)=((c.getD a.toNat (qa Zd)):Int))))then (some (false,()))else (lu N b c k0 n (IntKind.i64.wrap (a+(1:Int)))))))else (k0 ())
def m11 (N:Nat) (a b:Zb):ZO [i4]:=bif (!(decide ((a.length:Int)=(b.length:Int))))then (some (false,()))else (lu N a b (fun (_:Unit)=>some (true,())) N (0:Int))
def Γ11:Gam:=[]
def xS:List Bool:=[I,I,O,O,O,I]
def Ij:Nm:=⟨xS,[],false⟩
theorem T1:NmS Ij xS [] false:=nmS
def Ik:List Bool:=[]
def T2:Nm:=⟨Ik,[],false⟩
theorem qOT:NmS T2 Ik [] false:=nmS
def xT:Nat->Tree:=fun i=>if i=6 then .quiet 0 (.quiet 1 (.quiet 2 (.quiet 3 (.quiet 4 (.quiet 5 (.quiet 6 (.quiet 7 (.quiet 8 .done))))))))else .done
def Il:Nat->Nm:=fun i=>if i=4 then Ij else ⟨[],[],false⟩
def Im:Nat->Option Nm:=fun i=>if i=0 then some T2 else none
theorem p11:qi xT (Tryz.f11.body.getD .skip)=true:=by kernel_rfl
def T11 (N:Nat):Tab:={tr:=xT,lp:=Il,ex:=Im,rg:=rg0,jn:=jn0,fuel:=N}
theorem qOW (N:Nat):qj Tryz.prog (T11 N):=qn fun _=>rfl
theorem Io (N:Nat):qr (T11 N) xT Il Im rg0 jn0 N false:=qt
def Ua:Code:=cut [I,I,O,I,I,I] (Tryz.f11.body.getD .skip)
theorem qWR (N:Nat) (b d:Zb) {k0:Unit->ZO [i4]} {Q:ZQ [i4]} {c:Code} (f:c=Ua) (g: ∀st,Q .ret st=qz tt true [i4] [.tmp 4] st) (e:Q (.exit 0) ⟨[u,u,u,u,u,u,u,u,u,u,u,u,u,u,u,u,u,u,u,u,u,u,u,u,u,u],[]⟩=k0 ()): ∀(n:Nat) (a:Int),qw (qd tt Γ11 (T11 N) c) false Ij Q n ⟨[.one (.sl 3 Zd b 0),.one (.sl 3 Zd d 0),u,u,u,.one (.int .i64 a),u,u,u,u,u,u,u,u,u,u,u,u,u,u,u,u,u,u,u,u],[]⟩=lu N b d k0 n a:=by
 intro n;induction n with
 | zero=>intros;rfl
 | succ n h=>
   intro a
   rw [qD,qE f,lu];unfold Ua Tryz.f11
   simp -implicitDefEqProofs [Io,xT,Im,T1,xS,qOT,Ik,g,e,h]
theorem qTx (N:Nat) (a b:Zb):qd tt Γ11 (T11 N) (Tryz.f11.body.getD .skip) (qk tt true [i4] [.tmp 4]) (qm [i25,i25] 26 (a,b,()))=m11 N a b:=by
 unfold Tryz.f11
 simp -implicitDefEqProofs [Io,Il,T1,xS]
 rewrite [qWR (k0:=(fun (_:Unit)=>some (true,()))) N _ _ ?_ ?_ ?_]
 ·rewrite [m11];first | rfl | simp -implicitDefEqProofs []
 ·rfl
 ·intro;simp only [qA,qC,qJ]
 ·simp -implicitDefEqProofs [Io]
def g11:G:={ps:=[i25,i25],rs:=[i4],dp:=true,pre:=fun x=>jD x.1 x.2.1,fn:=fun x=>(h7 x.1 x.2.1,())}
theorem e11 (x y:Zb) (h:jD x y): ∃N,m11 N x y=some (h7 x y,()):=⟨List.length x+1,by
 rw [m11,b4]
 rw [h7,eqS]
 by_cases c:List.length x=List.length y
 ·rw [qg (by omega)]
  refine (yQ (f:=eqV Zd) (xs:=x) (ys:=y) (F:=fun n i=>lu _ x y _ n i) (k:=fun _=>some (true,())) (r:=some (false,())) h.1 c (fun n i a b=> ?_) (fun n i a=> ?_) _ (Nat.lt_succ_self _)).trans yR
  ·rw [lu,qg (by omega),qc (by omega),qc (by omega),qB a,qB b,b4]
   rfl
  ·rw [lu,qf (by omega)]
 ·rw [qf (by omega),rQ _ _ c]⟩
theorem s11:Sound Tryz.prog 11 g11:=qo (tt:=tt) (Γ:=Γ11) hT ql hm (fn:=Tryz.f11) Tryz.func11 (c:=Tryz.f11.body.getD .skip) (by kernel_rfl) (by kernel_rfl) fun x a=>by
 obtain ⟨N,h⟩:=e11 x.1 x.2.1 a
 exact ⟨T11 N,p11,qp _,qOW N,(qTx N x.1 x.2.1).trans h⟩
def Ip (x y:Zf):Bool:=eqV Y68 x y
def xU (x _:Zf):Prop:=Bd Y68 x
def m59 (N:Nat) (a b:Zf):ZO [i4]:=chk (jD (a.1:Zb) (b.1:Zb)) (bif (!((h7 (a.1:Zb) (b.1:Zb)):Bool))then (some (false,()))else (bif (!(decide ((a.2.1:Int)=(b.2.1:Int))))then (some (false,()))else (bif (!((a.2.2:Bool)==(b.2.2:Bool)))then (some (false,()))else (some (true,())))))
def Γ59:Gam:=[(11,g11)]
theorem q1y:Gam.get Γ59 11=some g11:=rfl
theorem p59:qi tr0 (Tryz.f59.body.getD .skip)=true:=by kernel_rfl
def T59 (N:Nat):Tab:={tr:=tr0,lp:=lp0,ex:=ex0,rg:=rg0,jn:=jn0,fuel:=N}
theorem qV2 (N:Nat):qj Tryz.prog (T59 N):=qn fun _=>rfl
theorem qSG (N:Nat):qr (T59 N) tr0 lp0 ex0 rg0 jn0 N false:=qt
theorem qYi (N:Nat) (a b:Zf):qd tt Γ59 (T59 N) (Tryz.f59.body.getD .skip) (qk tt true [i4] [.tmp 4]) (qm [i68,i68] 21 (a,b,()))=m59 N a b:=by
 rw [m59];unfold Tryz.f59
 simp -implicitDefEqProofs [qSG,q1y,g11]
 try rfl
def g59:G:={ps:=[i68,i68],rs:=[i4],dp:=true,pre:=fun x=>xU x.1 x.2.1,fn:=fun x=>(Ip x.1 x.2.1,())}
theorem e59 (x y:Zf) (h:xU x y): ∃N,m59 N x y=some (Ip x y,()):=⟨0,by
 obtain ⟨q,s1,s2⟩:=h
 rw [m59,qc (show jD _ _ from q)]
 obtain ⟨a,b,c⟩:=x
 obtain ⟨d,e,f⟩:=y
 change _=some ((eqV (.slice 3 Zd) a d&&(eqV Zd b e&&eqV .bool c f)),())
 simp only [b4]
 show _=_
 generalize n:eqV (.slice 3 Zd) a d=g
 have k:h7 a d=g:=n
 generalize o:eqV Zd b e=i
 have l:decide ((b:Int)=e)=i:=o
 generalize p:eqV .bool c f=j
 have m:((c:Bool)==f)=j:=p
 simp only [k,l,m]
 cases g<;>cases i<;>cases j<;>rfl⟩
theorem s59:Sound Tryz.prog 59 g59:=qo (tt:=tt) (Γ:=Γ59) hT (qe s11 ql) hm (fn:=Tryz.f59) Tryz.func59 (c:=Tryz.f59.body.getD .skip) (by kernel_rfl) (by kernel_rfl) fun x a=>by
 obtain ⟨N,h⟩:=e59 x.1 x.2.1 a
 exact ⟨T59 N,p59,qp _,qV2 N,(qYi N x.1 x.2.1).trans h⟩
def pY (x y:Ze):Bool:=eqV (.slice 68 Y68) x y
def xV (x _:Ze):Prop:=Bd (.slice 68 Y68) x
def lx (N:Nat) (b c:Ze) (k0:Unit->ZO [i4]):Nat->Int->ZO [i4]
 | 0,_=>none
 | n+1,a=>bif (decide (a<(b.length:Int)))then (chk (0<=a/\a<(b.length:Int)) (chk (0<=a/\a<(c.length:Int)) (chk (xU (b.getD a.toNat (qa Y68)) (c.getD a.toNat (qa Y68))) (bif (!((Ip (b.getD a.toNat (qa Y68)) (c.getD a.toNat (qa Y68))):Bool))then (some (false,()))else (lx N b c k0 n (IntKind.i64.wrap (a+(1:Int))))))))else (k0 ())
def m25 (N:Nat) (a b:Ze):ZO [i4]:=bif (!(decide ((a.length:Int)=(b.length:Int))))then (some (false,()))else (lx N a b (fun (_:Unit)=>some (true,())) N (0:Int))
def Γ25:Gam:=[(59,g59)]
theorem qUJ:Gam.get Γ25 59=some g59:=rfl
def xW:List Bool:=[I,I,O,O,O,I]
def Iq:Nm:=⟨xW,[],false⟩
theorem Ub:NmS Iq xW [] false:=nmS
def Ir:List Bool:=[]
def Uc:Nm:=⟨Ir,[],false⟩
theorem qRT:NmS Uc Ir [] false:=nmS
def xX:Nat->Tree:=fun i=>if i=6 then .quiet 0 (.quiet 1 (.quiet 2 (.quiet 3 (.quiet 4 (.quiet 5 (.quiet 6 (.quiet 7 (.alt 8 (.quiet 9 .done) .stop))))))))else .done
def Is:Nat->Nm:=fun i=>if i=4 then Iq else ⟨[],[],false⟩
def It:Nat->Option Nm:=fun i=>if i=0 then some Uc else none
theorem p25:qi xX (Tryz.f25.body.getD .skip)=true:=by kernel_rfl
def T25 (N:Nat):Tab:={tr:=xX,lp:=Is,ex:=It,rg:=rg0,jn:=jn0,fuel:=N}
theorem q0h (N:Nat):qj Tryz.prog (T25 N):=qn fun _=>rfl
theorem Iu (N:Nat):qr (T25 N) xX Is It rg0 jn0 N false:=qt
def Ud:Code:=cut [I,I,O,I,I,I] (Tryz.f25.body.getD .skip)
theorem q0f (N:Nat) (b d:Ze) {k0:Unit->ZO [i4]} {Q:ZQ [i4]} {c:Code} (f:c=Ud) (g: ∀st,Q .ret st=qz tt true [i4] [.tmp 4] st) (e:Q (.exit 0) ⟨[u,u,u,u,u,u,u,u,u,u,u,u,u,u,u,u,u,u,u,u,u,u,u,u,u,u,u],[]⟩=k0 ()): ∀(n:Nat) (a:Int),qw (qd tt Γ25 (T25 N) c) false Iq Q n ⟨[.one (.sl 68 Y68 b 0),.one (.sl 68 Y68 d 0),u,u,u,.one (.int .i64 a),u,u,u,u,u,u,u,u,u,u,u,u,u,u,u,u,u,u,u,u,u],[]⟩=lx N b d k0 n a:=by
 intro n;induction n with
 | zero=>intros;rfl
 | succ n h=>
   intro a
   rw [qD,qE f,lx];unfold Ud Tryz.f25
   simp -implicitDefEqProofs [Iu,xX,It,Ub,xW,qRT,Ir,qUJ,g59,g,e,h]
theorem qZf (N:Nat) (a b:Ze):qd tt Γ25 (T25 N) (Tryz.f25.body.getD .skip) (qk tt true [i4] [.tmp 4]) (qm [i33,i33] 27 (a,b,()))=m25 N a b:=by
 unfold Tryz.f25
 simp -implicitDefEqProofs [Iu,Is,Ub,xW]
 rewrite [q0f (k0:=(fun (_:Unit)=>some (true,()))) N _ _ ?_ ?_ ?_]
 ·rewrite [m25];first | rfl | simp -implicitDefEqProofs []
 ·rfl
 ·intro;simp only [qA,qC,qJ]
 ·simp -implicitDefEqProofs [Iu]
def g25:G:={ps:=[i33,i33],rs:=[i4],dp:=true,pre:=fun x=>xV x.1 x.2.1,fn:=fun x=>(pY x.1 x.2.1,())}
theorem e25 (x y:Ze) (h:xV x y): ∃N,m25 N x y=some (pY x y,()):=⟨List.length x+1,by
 rw [m25,b4]
 rw [pY,eqS]
 by_cases c:List.length x=List.length y
 ·rw [qg (by omega)]
  refine (yQ (f:=eqV Y68) (xs:=x) (ys:=y) (F:=fun n i=>lx _ x y _ n i) (k:=fun _=>some (true,())) (r:=some (false,())) h.1 c (fun n i a b=> ?_) (fun n i a=> ?_) _ (Nat.lt_succ_self _)).trans yR
  ·rw [lx,qg (by omega),qc (by omega),qc (by omega),qc (show xU _ _ from by rw [qB a];exact h.2 _ (List.getElem_mem a)),qB a,qB b,b4]
   rfl
  ·rw [lx,qf (by omega)]
 ·rw [qf (by omega),rQ _ _ c]⟩
theorem s25:Sound Tryz.prog 25 g25:=qo (tt:=tt) (Γ:=Γ25) hT (qe s59 ql) hm (fn:=Tryz.f25) Tryz.func25 (c:=Tryz.f25.body.getD .skip) (by kernel_rfl) (by kernel_rfl) fun x a=>by
 obtain ⟨N,h⟩:=e25 x.1 x.2.1 a
 exact ⟨T25 N,p25,qp _,q0h N,(qZf N x.1 x.2.1).trans h⟩
def xY (x y:Zj):Bool:=eqV Y35 x y
def xZ (x _:Zj):Prop:=Bd Y35 x
def m10 (N:Nat) (a b:Zj):ZO [i4]:=bif (!(decide ((a.1:Int)=(b.1:Int))))then (some (false,()))else (chk (xV (a.2:Ze) (b.2:Ze)) (bif (!((pY (a.2:Ze) (b.2:Ze)):Bool))then (some (false,()))else (some (true,()))))
def Γ10:Gam:=[(25,g25)]
theorem qNz:Gam.get Γ10 25=some g25:=rfl
theorem p10:qi tr0 (Tryz.f10.body.getD .skip)=true:=by kernel_rfl
def T10 (N:Nat):Tab:={tr:=tr0,lp:=lp0,ex:=ex0,rg:=rg0,jn:=jn0,fuel:=N}
theorem qQD (N:Nat):qj Tryz.prog (T10 N):=qn fun _=>rfl
theorem q2R (N:Nat):qr (T10 N) tr0 lp0 ex0 rg0 jn0 N false:=qt
theorem q3w (N:Nat) (a b:Zj):qd tt Γ10 (T10 N) (Tryz.f10.body.getD .skip) (qk tt true [i4] [.tmp 4]) (qm [i35,i35] 16 (a,b,()))=m10 N a b:=by
 rw [m10];unfold Tryz.f10
 simp -implicitDefEqProofs [q2R,qNz,g25]
 try rfl
def g10:G:={ps:=[i35,i35],rs:=[i4],dp:=true,pre:=fun x=>xZ x.1 x.2.1,fn:=fun x=>(xY x.1 x.2.1,())}
theorem e10 (x y:Zj) (h:xZ x y): ∃N,m10 N x y=some (xY x y,()):=⟨0,by
 obtain ⟨l,s1⟩:=h
 rw [m10,qc (show xV _ _ from s1)]
 obtain ⟨a,b⟩:=x
 obtain ⟨c,d⟩:=y
 change _=some ((eqV Zd a c&&eqV (.slice 68 Y68) b d),())
 simp only [b4]
 show _=_
 generalize j:eqV Zd a c=e
 have g:decide ((a:Int)=c)=e:=j
 generalize k:eqV (.slice 68 Y68) b d=f
 have i:pY b d=f:=k
 simp only [g,i]
 cases e<;>cases f<;>rfl⟩
theorem s10:Sound Tryz.prog 10 g10:=qo (tt:=tt) (Γ:=Γ10) hT (qe s25 ql) hm (fn:=Tryz.f10) Tryz.func10 (c:=Tryz.f10.body.getD .skip) (by kernel_rfl) (by kernel_rfl) fun x a=>by
 obtain ⟨N,h⟩:=e10 x.1 x.2.1 a
 exact ⟨T10 N,p10,qp _,qQD N,(q3w N x.1 x.2.1).trans h⟩
def pZ (x y:Zh):Bool:=eqV Y28 x y
def nb (x _:Zh):Prop:=Bd Y28 x
def m23 (N:Nat) (a b:Zh):ZO [i4]:=bif (!(decide ((a.1:Int)=(b.1:Int))))then (some (false,()))else (bif (!(decide ((a.2:Int)=(b.2:Int))))then (some (false,()))else (some (true,())))
def Γ23:Gam:=[]
theorem p23:qi tr0 (Tryz.f23.body.getD .skip)=true:=by kernel_rfl
def T23 (N:Nat):Tab:={tr:=tr0,lp:=lp0,ex:=ex0,rg:=rg0,jn:=jn0,fuel:=N}
theorem qOB (N:Nat):qj Tryz.prog (T23 N):=qn fun _=>rfl
theorem q1Q (N:Nat):qr (T23 N) tr0 lp0 ex0 rg0 jn0 N false:=qt
theorem qOC (N:Nat) (a b:Zh):qd tt Γ23 (T23 N) (Tryz.f23.body.getD .skip) (qk tt true [i4] [.tmp 4]) (qm [i28,i28] 15 (a,b,()))=m23 N a b:=by
 rw [m23];unfold Tryz.f23
 simp -implicitDefEqProofs [q1Q]
 try rfl
def g23:G:={ps:=[i28,i28],rs:=[i4],dp:=true,pre:=fun x=>nb x.1 x.2.1,fn:=fun x=>(pZ x.1 x.2.1,())}
theorem e23 (x y:Zh) (h:nb x y): ∃N,m23 N x y=some (pZ x y,()):=⟨0,by
 obtain ⟨l,s1⟩:=h
 rw [m23]
 obtain ⟨a,b⟩:=x
 obtain ⟨c,d⟩:=y
 change _=some ((eqV Zd a c&&eqV Zd b d),())
 simp only [b4]
 show _=_
 generalize j:eqV Zd a c=e
 have g:decide ((a:Int)=c)=e:=j
 generalize k:eqV Zd b d=f
 have i:decide ((b:Int)=d)=f:=k
 simp only [g,i]
 cases e<;>cases f<;>rfl⟩
theorem s23:Sound Tryz.prog 23 g23:=qo (tt:=tt) (Γ:=Γ23) hT ql hm (fn:=Tryz.f23) Tryz.func23 (c:=Tryz.f23.body.getD .skip) (by kernel_rfl) (by kernel_rfl) fun x a=>by
 obtain ⟨N,h⟩:=e23 x.1 x.2.1 a
 exact ⟨T23 N,p23,qp _,qOB N,(qOC N x.1 x.2.1).trans h⟩
def ly (x y:Zg):Bool:=eqV (.slice 28 Y28) x y
def nc (x _:Zg):Prop:=Bd (.slice 28 Y28) x
def lz (N:Nat) (b c:Zg) (k0:Unit->ZO [i4]):Nat->Int->ZO [i4]
 | 0,_=>none
 | n+1,a=>bif (decide (a<(b.length:Int)))then (chk (0<=a/\a<(b.length:Int)) (chk (0<=a/\a<(c.length:Int)) (chk (nb (b.getD a.toNat (qa Y28)) (c.getD a.toNat (qa Y28))) (bif (!((pZ (b.getD a.toNat (qa Y28)) (c.getD a.toNat (qa Y28))):Bool))then (some (false,()))else (lz N b c k0 n (IntKind.i64.wrap (a+(1:Int))))))))else (k0 ())
def m24 (N:Nat) (a b:Zg):ZO [i4]:=bif (!(decide ((a.length:Int)=(b.length:Int))))then (some (false,()))else (lz N a b (fun (_:Unit)=>some (true,())) N (0:Int))
def Γ24:Gam:=[(23,g23)]
theorem q0A:Gam.get Γ24 23=some g23:=rfl
def x0:List Bool:=[I,I,O,O,O,I]
def Iv:Nm:=⟨x0,[],false⟩
theorem Ue:NmS Iv x0 [] false:=nmS
def Iw:List Bool:=[]
def Uf:Nm:=⟨Iw,[],false⟩
theorem qOA:NmS Uf Iw [] false:=nmS
def x1:Nat->Tree:=fun i=>if i=6 then .quiet 0 (.quiet 1 (.quiet 2 (.quiet 3 (.quiet 4 (.quiet 5 (.quiet 6 (.quiet 7 (.alt 8 (.quiet 9 .done) .stop))))))))else .done
def Ix:Nat->Nm:=fun i=>if i=4 then Iv else ⟨[],[],false⟩
def Iy:Nat->Option Nm:=fun i=>if i=0 then some Uf else none
theorem p24:qi x1 (Tryz.f24.body.getD .skip)=true:=by kernel_rfl
def T24 (N:Nat):Tab:={tr:=x1,lp:=Ix,ex:=Iy,rg:=rg0,jn:=jn0,fuel:=N}
theorem qSc (N:Nat):qj Tryz.prog (T24 N):=qn fun _=>rfl
theorem Iz (N:Nat):qr (T24 N) x1 Ix Iy rg0 jn0 N false:=qt
def Ug:Code:=cut [I,I,O,I,I,I] (Tryz.f24.body.getD .skip)
theorem qTu (N:Nat) (b d:Zg) {k0:Unit->ZO [i4]} {Q:ZQ [i4]} {c:Code} (f:c=Ug) (g: ∀st,Q .ret st=qz tt true [i4] [.tmp 4] st) (e:Q (.exit 0) ⟨[u,u,u,u,u,u,u,u,u,u,u,u,u,u,u,u,u,u,u,u,u,u,u,u,u,u,u],[]⟩=k0 ()): ∀(n:Nat) (a:Int),qw (qd tt Γ24 (T24 N) c) false Iv Q n ⟨[.one (.sl 28 Y28 b 0),.one (.sl 28 Y28 d 0),u,u,u,.one (.int .i64 a),u,u,u,u,u,u,u,u,u,u,u,u,u,u,u,u,u,u,u,u,u],[]⟩=lz N b d k0 n a:=by
 intro n;induction n with
 | zero=>intros;rfl
 | succ n h=>
   intro a
   rw [qD,qE f,lz];unfold Ug Tryz.f24
   simp -implicitDefEqProofs [Iz,x1,Iy,Ue,x0,qOA,Iw,q0A,g23,g,e,h]
theorem qZ5 (N:Nat) (a b:Zg):qd tt Γ24 (T24 N) (Tryz.f24.body.getD .skip) (qk tt true [i4] [.tmp 4]) (qm [i29,i29] 27 (a,b,()))=m24 N a b:=by
 unfold Tryz.f24
 simp -implicitDefEqProofs [Iz,Ix,Ue,x0]
 rewrite [qTu (k0:=(fun (_:Unit)=>some (true,()))) N _ _ ?_ ?_ ?_]
 ·rewrite [m24];first | rfl | simp -implicitDefEqProofs []
 ·rfl
 ·intro;simp only [qA,qC,qJ]
 ·simp -implicitDefEqProofs [Iz]
def g24:G:={ps:=[i29,i29],rs:=[i4],dp:=true,pre:=fun x=>nc x.1 x.2.1,fn:=fun x=>(ly x.1 x.2.1,())}
theorem e24 (x y:Zg) (h:nc x y): ∃N,m24 N x y=some (ly x y,()):=⟨List.length x+1,by
 rw [m24,b4]
 rw [ly,eqS]
 by_cases c:List.length x=List.length y
 ·rw [qg (by omega)]
  refine (yQ (f:=eqV Y28) (xs:=x) (ys:=y) (F:=fun n i=>lz _ x y _ n i) (k:=fun _=>some (true,())) (r:=some (false,())) h.1 c (fun n i a b=> ?_) (fun n i a=> ?_) _ (Nat.lt_succ_self _)).trans yR
  ·rw [lz,qg (by omega),qc (by omega),qc (by omega),qc (show nb _ _ from by rw [qB a];exact h.2 _ (List.getElem_mem a)),qB a,qB b,b4]
   rfl
  ·rw [lz,qf (by omega)]
 ·rw [qf (by omega),rQ _ _ c]⟩
theorem s24:Sound Tryz.prog 24 g24:=qo (tt:=tt) (Γ:=Γ24) hT (qe s23 ql) hm (fn:=Tryz.f24) Tryz.func24 (c:=Tryz.f24.body.getD .skip) (by kernel_rfl) (by kernel_rfl) fun x a=>by
 obtain ⟨N,h⟩:=e24 x.1 x.2.1 a
 exact ⟨T24 N,p24,qp _,qSc N,(qZ5 N x.1 x.2.1).trans h⟩
def nf (x y:Val Y31):Bool:=eqV Y31 x y
def ng (x _:Val Y31):Prop:=Bd Y31 x
def m9 (N:Nat) (a b:Val Y31):ZO [i4]:=bif (!(decide ((a.1:Int)=(b.1:Int))))then (some (false,()))else (chk (nb a.2.1 b.2.1) (bif (!((pZ a.2.1 b.2.1):Bool))then (some (false,()))else (bif (!((a.2.2.1:Bool)==(b.2.2.1:Bool)))then (some (false,()))else (chk (nc (a.2.2.2.1:Zg) (b.2.2.2.1:Zg)) (bif (!((ly (a.2.2.2.1:Zg) (b.2.2.2.1:Zg)):Bool))then (some (false,()))else (chk (nc (a.2.2.2.2.1:Zg) (b.2.2.2.2.1:Zg)) (bif (!((ly (a.2.2.2.2.1:Zg) (b.2.2.2.2.1:Zg)):Bool))then (some (false,()))else (chk (jD (a.2.2.2.2.2:Zb) (b.2.2.2.2.2:Zb)) (bif (!((h7 (a.2.2.2.2.2:Zb) (b.2.2.2.2.2:Zb)):Bool))then (some (false,()))else (some (true,())))))))))))
def Γ9:Gam:=[(11,g11),(23,g23),(24,g24)]
theorem qXW:Gam.get Γ9 11=some g11/\Gam.get Γ9 23=some g23/\Gam.get Γ9 24=some g24:=⟨rfl,rfl,rfl⟩
theorem p9:qi tr0 (Tryz.f9.body.getD .skip)=true:=by kernel_rfl
def T9 (N:Nat):Tab:={tr:=tr0,lp:=lp0,ex:=ex0,rg:=rg0,jn:=jn0,fuel:=N}
theorem tb9 (N:Nat):qj Tryz.prog (T9 N):=qn fun _=>rfl
theorem qQX (N:Nat):qr (T9 N) tr0 lp0 ex0 rg0 jn0 N false:=qt
theorem q0Q (N:Nat) (a b:Val Y31):qd tt Γ9 (T9 N) (Tryz.f9.body.getD .skip) (qk tt true [i4] [.tmp 4]) (qm [i31,i31] 39 (a,b,()))=m9 N a b:=by
 rw [m9];unfold Tryz.f9
 simp -implicitDefEqProofs [qQX,qXW,g11,g23,g24]
 try rfl
def g9:G:={ps:=[i31,i31],rs:=[i4],dp:=true,pre:=fun x=>ng x.1 x.2.1,fn:=fun x=>(nf x.1 x.2.1,())}
theorem e9 (x y:Val Y31) (h:ng x y): ∃N,m9 N x y=some (nf x y,()):=⟨0,by
 obtain ⟨E,s1,s2,s3,s4,s5⟩:=h
 rw [m9,qc (show nb _ _ from s1),qc (show nc _ _ from s3),qc (show nc _ _ from s4),qc (show jD _ _ from s5)]
 obtain ⟨a,b,c,d,e,f⟩:=x
 obtain ⟨g,i,j,k,l,m⟩:=y
 change _=some ((eqV Zd a g&&(eqV Y28 b i&&(eqV .bool c j&&(eqV (.slice 28 Y28) d k&&(eqV (.slice 28 Y28) e l&&eqV (.slice 3 Zd) f m))))),())
 simp only [b4]
 show _=_
 generalize w:eqV Zd a g=n
 have q:decide ((a:Int)=g)=n:=w
 generalize z:eqV Y28 b i=o
 have r:pZ b i=o:=z
 generalize A:eqV .bool c j=p
 have s:((c:Bool)==j)=p:=A
 generalize B:eqV (.slice 28 Y28) d k=e3
 have t:ly d k=e3:=B
 generalize C:eqV (.slice 28 Y28) e l=e4
 have u:ly e l=e4:=C
 generalize D:eqV (.slice 3 Zd) f m=e5
 have v:h7 f m=e5:=D
 simp only [q,r,s,t,u,v]
 cases n<;>cases o<;>cases p<;>cases e3<;>cases e4<;>cases e5<;>rfl⟩
theorem s9:Sound Tryz.prog 9 g9:=qo (tt:=tt) (Γ:=Γ9) hT (qe s11 (qe s23 (qe s24 ql))) hm (fn:=Tryz.f9) Tryz.func9 (c:=Tryz.f9.body.getD .skip) (by kernel_rfl) (by kernel_rfl) fun x a=>by
 obtain ⟨N,h⟩:=e9 x.1 x.2.1 a
 exact ⟨T9 N,p9,qp _,tb9 N,(q0Q N x.1 x.2.1).trans h⟩
def m3 (N:Nat) (a:Val Y24) (b:Zb):ZO [i4]:=bif (decide ((1048576:Int)<(b.length:Int)))then (some (true,()))else (chk (xN a (1048576:Int)) (bif (decide (((pX a (1048576:Int)):Int)<(0:Int)))then (some (true,()))else (chk (lr a) (chk (h6 b) (chk (h0 (qK a) ((qN b):Zb)) (chk (lr a) (chk (h6 b) (chk (h0 (qK a) ((qN b):Zb)) (chk (ng (qV (qK a) ((qN b):Zb)) (qV (qK a) ((qN b):Zb))) (bif (!((nf (qV (qK a) ((qN b):Zb)) (qV (qK a) ((qN b):Zb))):Bool))then (some (false,()))else (chk (lr a) (chk (xZ (qK a) (qK a)) (bif (!((xY (qK a) (qK a)):Bool))then (some (false,()))else (chk (h6 b) (chk (jD ((qN b):Zb) ((qN b):Zb)) (bif (!((h7 ((qN b):Zb) ((qN b):Zb)):Bool))then (some (false,()))else (chk (xC (qK a) (1:Int)) (chk (jC ((qN b):Zb) (h4 (qK a) (1:Int))) (bif (decide ((eQ ((qN b):Zb) (h4 (qK a) (1:Int)))<(0:Int)))then (some (false,()))else (chk (ng (qV (qK a) ((qN b):Zb)) (qV (qK a) ((qN b):Zb))) (bif (!((nf (qV (qK a) ((qN b):Zb)) (qV (qK a) ((qN b):Zb))):Bool))then (some (false,()))else (chk (xI (qV (qK a) ((qN b):Zb)) (1:Int)) (chk (pW (((qV (qK a) ((qN b):Zb)).1:Int),((qV (qK a) ((qN b):Zb)).2).1,((((qV (qK a) ((qN b):Zb)).2).2).1:Bool),(((((ca (qV (qK a) ((qN b):Zb)) (1:Int)).2).2).2).1:Zg),((((((ca (qV (qK a) ((qN b):Zb)) (1:Int)).2).2).2).2).1:Zg),((((((ca (qV (qK a) ((qN b):Zb)) (1:Int)).2).2).2).2).2:Zb)) (1:Int)) (bif (decide (((lh (((qV (qK a) ((qN b):Zb)).1:Int),((qV (qK a) ((qN b):Zb)).2).1,((((qV (qK a) ((qN b):Zb)).2).2).1:Bool),(((((ca (qV (qK a) ((qN b):Zb)) (1:Int)).2).2).2).1:Zg),((((((ca (qV (qK a) ((qN b):Zb)) (1:Int)).2).2).2).2).1:Zg),((((((ca (qV (qK a) ((qN b):Zb)) (1:Int)).2).2).2).2).2:Zb)) (1:Int)):Int)<(0:Int)))then (some (false,()))else (bif (!(decide (((lh (((qV (qK a) ((qN b):Zb)).1:Int),((qV (qK a) ((qN b):Zb)).2).1,((((qV (qK a) ((qN b):Zb)).2).2).1:Bool),(((((ca (qV (qK a) ((qN b):Zb)) (1:Int)).2).2).2).1:Zg),((((((ca (qV (qK a) ((qN b):Zb)) (1:Int)).2).2).2).2).1:Zg),((((((ca (qV (qK a) ((qN b):Zb)) (1:Int)).2).2).2).2).2:Zb)) (1:Int)):Int)=(lg (qV (qK a) ((qN b):Zb)) (1:Int)))))then (some (false,()))else (chk (lr a) (chk (h6 b) (chk (h0 (qK a) ((qN b):Zb)) (chk (ng (qV (qK a) ((qN b):Zb)) (qV (qK a) ((qN b):Zb))) (bif (!((nf (qV (qK a) ((qN b):Zb)) (qV (qK a) ((qN b):Zb))):Bool))then (some (false,()))else (chk (pW (((qV (qK a) ((qN b):Zb)).1:Int),((qV (qK a) ((qN b):Zb)).2).1,((((qV (qK a) ((qN b):Zb)).2).2).1:Bool),(((((ca (qV (qK a) ((qN b):Zb)) (1:Int)).2).2).2).1:Zg),((((((ca (qV (qK a) ((qN b):Zb)) (1:Int)).2).2).2).2).1:Zg),((((((ca (qV (qK a) ((qN b):Zb)) (1:Int)).2).2).2).2).2:Zb)) (1:Int)) (bif (decide (((lh (((qV (qK a) ((qN b):Zb)).1:Int),((qV (qK a) ((qN b):Zb)).2).1,((((qV (qK a) ((qN b):Zb)).2).2).1:Bool),(((((ca (qV (qK a) ((qN b):Zb)) (1:Int)).2).2).2).1:Zg),((((((ca (qV (qK a) ((qN b):Zb)) (1:Int)).2).2).2).2).1:Zg),((((((ca (qV (qK a) ((qN b):Zb)) (1:Int)).2).2).2).2).2:Zb)) (1:Int)):Int)<(0:Int)))then (some (false,()))else (bif (!(decide (((lh (((qV (qK a) ((qN b):Zb)).1:Int),((qV (qK a) ((qN b):Zb)).2).1,((((qV (qK a) ((qN b):Zb)).2).2).1:Bool),(((((ca (qV (qK a) ((qN b):Zb)) (1:Int)).2).2).2).1:Zg),((((((ca (qV (qK a) ((qN b):Zb)) (1:Int)).2).2).2).2).1:Zg),((((((ca (qV (qK a) ((qN b):Zb)) (1:Int)).2).2).2).2).2:Zb)) (1:Int)):Int)=(lg (qV (qK a) ((qN b):Zb)) (1:Int)))))then (some (false,()))else (some (true,())))))))))))))))))))))))))))))))))))
def Γ3:Gam:=[(4,g4),(5,g5),(6,g6),(7,g7),(8,g8),(9,g9),(10,g10),(11,g11),(15,g15)]
theorem q3o:Gam.get Γ3 4=some g4/\Gam.get Γ3 5=some g5/\Gam.get Γ3 6=some g6/\Gam.get Γ3 7=some g7/\Gam.get Γ3 8=some g8/\Gam.get Γ3 9=some g9/\Gam.get Γ3 10=some g10/\Gam.get Γ3 11=some g11/\Gam.get Γ3 15=some g15/\Gam.get Γ3 12=none/\Gam.get Γ3 13=none/\Gam.get Γ3 14=none:=⟨rfl,rfl,rfl,rfl,rfl,rfl,rfl,rfl,rfl,rfl,rfl,rfl⟩
def IA:Sem:=hh [(12,HF),(13,h3.gm),(14,HZ)] []
def tr3:Nat->Tree:=fun i=>if i=13 then .quiet 1 (.alt 0 (.alt 2 (.alt 3 (.quiet 4 .done) .stop) .stop) (.alt 2 (.quiet 0 (.alt 3 (.quiet 4 .done) .stop)) .stop))else .done
theorem p3:qi tr3 (Tryz.f3.body.getD .skip)=true:=by kernel_rfl
def T3 (N:Nat):Tab:={tr:=tr3,lp:=lp0,ex:=ex0,rg:=rg0,jn:=jn0,fuel:=N,sem:=IA}
theorem tb3 (N:Nat):qj Tryz.prog (T3 N):=qn fun _=>rfl
theorem qN6 (N:Nat):fC (T3 N) tr3 lp0 ex0 rg0 jn0 N false IA:=gf
theorem qPi (N:Nat) (a:Val Y24) (b:Zb):qd tt Γ3 (T3 N) (Tryz.f3.body.getD .skip) (qk tt true [i4] [.tmp 4]) (qm [i24,i25] 90 (a,b,()))=m3 N a b:=by
 rw [m3];unfold Tryz.f3
 simp (maxSteps:=10000000) -implicitDefEqProofs [qN6,tr3,IA,ir,HF,h3,HZ,q3o,g4,g5,g6,g7,g8,g9,g10,g11,g15]
 try rfl
def Uh (_:Val Y24) (_:Zb):Bool:=true
def Ui (a:Val Y24) (b:Zb):Prop:=Sms [i24,i25] (a,b,())
def g3:G:={ps:=[i24,i25],rs:=[i4],dp:=true,pre:=fun x=>Ui x.1 x.2.1,fn:=fun x=>(Uh x.1 x.2.1,())}
theorem qPU {o:Opt} (h:Bd Y31 o):bJ Y31 o<=6291456:=by
 obtain ⟨_,_,_,a,b,d⟩:=h
 have e:o.2.2.2.1.length<=1048576:=a.1
 have g:o.2.2.2.2.1.length<=1048576:=b.1
 have i:o.2.2.2.2.2.length<=1048576:=d.1
 have s4:=nV (f:=bN Y28) (c:=2) o.2.2.2.1 fun _ _=>Nat.le_refl _
 have s5:=nV (f:=bN Y28) (c:=2) o.2.2.2.2.1 fun _ _=>Nat.le_refl _
 have s6:=nV (f:=bN Zd) (c:=1) o.2.2.2.2.2 fun _ _=>Nat.le_refl _
 show 0+((0+0)+(0+(ct (bN Y28) o.2.2.2.1+(ct (bN Y28) o.2.2.2.2.1+ct (bN Zd) o.2.2.2.2.2))))<=6291456
 omega
theorem e3 (x:Val Y24) (l:Zb) (h:Ui x l): ∃N,m3 N x l=some (Uh x l,()):=⟨0,by
 rw [m3]
 by_cases g:(1048576:Int)<(l.length:Int)
 ·rw [qg g];rfl
 rw [qf g,qc (show xN x 1048576 from ⟨h.1,by omega,by omega⟩)]
 by_cases c:pX x 1048576<0
 ·rw [qg c];rfl
 rw [qf c]
 have e:0<=szV Y24 x 1048576:=by have: ¬szV Y24 x 1048576<0:=c;omega
 have hle:szV Y24 x 1048576<=1048576:=(eY Y24 x 1048576 (by omega)).1
 have b:Bd Y24 x:=rP Y24 x 1048576 (by omega) (by omega) e
 have A:=zb Y35 x 1048576 rfl (by omega) e
 have B:(bJ Y35 x:Int)<=67108864:=by have:0<=szV Y35 x 1048576:=e;omega
 have i:l.length<=1048576:=by omega
 have d:Bd (.slice 3 Zd) l:=⟨i,fun _ _=>trivial⟩
 have y:bJ (.slice 3 Zd) l<=1048576:=by
  have:=nV (f:=bN Zd) (c:=1) l fun _ _=>Nat.le_refl _
  show ct (bN Zd) l<=1048576
  omega
 have C:h4 (qK x) 1=1+bJ Y35 x:=iv Y35 x 1 (by omega) (by omega)
 have D:eQ (qN l) (h4 (qK x) 1)=h4 (qK x) 1+bJ (.slice 3 Zd) l:=iv (.slice 3 Zd) l _ (by omega) (by omega)
 have k:((((qK x).1:Int),((qK x).2:Ze)):Zj)=qK x:=rfl
 try rw [k]
 have p:h0 (qK x) (qN l):=⟨b.2.1,i⟩
 have a:=q1u (qK x) (qN l)
 generalize qV (qK x) (qN l)=o at a ⊢
 have z:=qPU a
 have w:lg o 1=1+bJ Y31 o:=iv Y31 o 1 (by omega) (by omega)
 have j:(((o.1:Int),(o.2).1,((o.2.2).1:Bool),((((ca o 1).2).2.2).1:Zg),((((ca o 1).2.2).2.2).1:Zg),((((ca o 1).2.2).2.2).2:Zb)):Opt)=ca o 1:=rfl
 have q:lh (ca o 1) 1=lg o 1:=congrArg Prod.snd (r3 Y31 o 1)
 have n:pW (ca o 1) 1:=⟨congrArg Prod.fst (r3 Y31 o 1),y8 _ _ _ a,by omega,by
  have:bJ Y31 (ca o 1)=bJ Y31 o:=y6 _ _ _
  omega⟩
 have t:nf o o=true:=l3 _ _
 have rx:xY (qK x) (qK x)=true:=l3 _ _
 have rl:h7 (qN l) (qN l)=true:=l3 _ _
 have m:ng o o:=a
 have ex:xZ (qK x) (qK x):=b
 have el:jD (qN l) (qN l):=d
 have v:lr x:=b
 have u:h6 l:=d
 have m1:xC (qK x) 1:=⟨b,by omega⟩
 have m2:jC (qN l) (h4 (qK x) 1):=⟨d,by omega⟩
 have m3:xI o 1:=⟨a,by omega⟩
 have r: ¬eQ (qN l) (h4 (qK x) 1)<0:=by omega
 have s: ¬lg o 1<0:=by omega
 simp only [j,q,qc v,qc u,qc p,qc m,qc ex,qc el,qc m1,qc m2,qc m3,qc n,t,rx,rl,decide_eq_false r,decide_eq_false s,Bool.not_true,cond_false,decide_true]
 rfl⟩
theorem s3:Sound Tryz.prog 3 g3:=qo (tt:=tt) (Γ:=Γ3) hT (qe s4 (qe s5 (qe s6 (qe s7 (qe s8 (qe s9 (qe s10 (qe s11 (qe s15 ql))))))))) hm (fn:=Tryz.f3) Tryz.func3 (c:=Tryz.f3.body.getD .skip) (by kernel_rfl) (by kernel_rfl) fun x a=>by
 obtain ⟨N,h⟩:=e3 x.1 x.2.1 a
 exact ⟨T3 N,p3,ma (mc q29 (mc Hx.gm (mc qUA mb))) me,tb3 N,(qPi N x.1 x.2.1).trans h⟩
end
end Go.T
