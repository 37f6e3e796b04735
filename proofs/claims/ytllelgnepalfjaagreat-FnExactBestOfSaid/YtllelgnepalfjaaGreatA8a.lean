import Derived.Test.YtllelgnepalfjaaGreatA1
set_option linter.unusedSimpArgs false
set_option linter.unusedVariables false
namespace Go.T
noncomputable section
open Go Go.Proofs
set_option maxHeartbeats 1000000
set_option maxRecDepth 100000
def inI (n:Int):Prop:= -9223372036854775807<=n/\n<=9223372036854775807
def bw (n:Int):Int:=(n.natAbs:Int)
def cM (n:Int):Prop:=inI n
def qR (a b:Int):Int:=(Nat.gcd a.natAbs b.natAbs:Nat)
def dg (a b:Int):Prop:=inI a/\inI b
def b6 (xs:Zb) (k:Int):Int:=(gL k.natAbs xs:Nat)
def fb (xs:Zb) (k:Int):Prop:=xs.length<=1048576/\inI k/\ ∀x∈xs,inI x
def b7 (xs:Zb):Int:=(gL 0 xs:Nat)
def eE (xs:Zb):Prop:=xs.length<=1048576/\ ∀x∈xs,inI x
def qq (n:Int):Bool:=decide (-400000000<=n/\n<=400000000)
def inR (x a b:Int):Bool:=decide (a<=x/\x<=b)
def su:G:={ps:=[i3],rs:=[i3],dp:=true,pre:=fun x=>cM x.1,fn:=fun x=>(bw x.1,())}
def sv (N:Nat) (a:Int):ZO [i3]:=bif (decide (a<(0:Int)))then (some ((IntKind.i64.wrap (0 - a)),()))else (some (a,()))
def Lc:Gam:=[]
theorem W7:qi tr0 (Tryz.f123.body.getD .skip)=true:=by kernel_rfl
def sw (N:Nat):Tab:={tr:=tr0,lp:=lp0,ex:=ex0,rg:=rg0,jn:=jn0,fuel:=N}
theorem W8 (N:Nat):qj Tryz.prog (sw N):=qn fun _=>rfl
theorem W9 (N:Nat):qr (sw N) tr0 lp0 ex0 rg0 jn0 N false:=qt
theorem Xa (N:Nat) (a:Int):qd tt Lc (sw N) (Tryz.f123.body.getD .skip) (qk tt true [i3] [.tmp 2]) (qm [i3] 8 (a,()))=sv N a:=by
 rw [sv];unfold Tryz.f123
 simp -implicitDefEqProofs [W9]
 try rfl
theorem Xb (n:Int) (h:inI n): ∃N,sv N n=some (bw n,()):=⟨0,by
 unfold inI at h
 simp only [sv,bw]
 by_cases a:n<0
 ·have e:IntKind.i64.wrap (0 - n)=(n.natAbs:Int):=by rw [bn (by omega) (by omega)];omega
  simp only [a,decide_true,cond_true,e]
 ·have e:(n.natAbs:Int)=n:=by omega
  simp [a,e]⟩
theorem Xc:Sound Tryz.prog 123 su:=qo (tt:=tt) (Γ:=Lc) hT ql hm (fn:=Tryz.f123) Tryz.func123 (c:=Tryz.f123.body.getD .skip) (by kernel_rfl) (by kernel_rfl) fun x a=>by
 obtain ⟨N,h⟩:=Xb x.1 a
 exact ⟨sw N,W7,qp _,W8 N,(Xa N x.1).trans h⟩
def mh (N:Nat) (k0:Int->ZO [i3]):Nat->Int->Int->ZO [i3]
 | 0,_,_=>none
 | n+1,b,a=>bif (!(decide (a=(0:Int))))then (chk (a≠0) (mh N k0 n a (b.tmod a)))else (k0 b)
def sy (N:Nat) (a b:Int):ZO [i3]:=chk (cM a) (chk (cM b) (mh N (fun (c:Int)=>some (c,())) N ((bw a):Int) ((bw b):Int)))
def sA:Gam:=[(123,su)]
theorem Xd:Gam.get sA 123=some su:=rfl
def sB:List Bool:=[I,I]
def zA:Nm:=⟨sB,[],false⟩
theorem Ld:NmS zA sB [] false:=nmS
def zB:List Bool:=[true]
def Lf:Nm:=⟨zB,[],false⟩
theorem Xe:NmS Lf zB [] false:=nmS
def sC:Nat->Tree:=fun i=>if i=3 then .quiet 0 (.quiet 1 (.quiet 2 (.quiet 3 (.quiet 4 (.quiet 5 .done)))))else .done
def zC:Nat->Nm:=fun i=>if i=2 then zA else ⟨[],[],false⟩
def zD:Nat->Option Nm:=fun i=>if i=0 then some Lf else none
theorem Xf:qi sC (Tryz.f110.body.getD .skip)=true:=by kernel_rfl
def n1 (N:Nat):Tab:={tr:=sC,lp:=zC,ex:=zD,rg:=rg0,jn:=jn0,fuel:=N}
theorem Xg (N:Nat):qj Tryz.prog (n1 N):=qn fun _=>rfl
theorem zE (N:Nat):qr (n1 N) sC zC zD rg0 jn0 N false:=qt
def Lg:Code:=cut [I,I,O,I,I] (Tryz.f110.body.getD .skip)
theorem Xh (N:Nat) {k0:Int->ZO [i3]} {Q:ZQ [i3]} {c:Code} (f:c=Lg) (h: ∀st,Q .ret st=qz tt true [i3] [.tmp 4] st) (e: ∀(d:Int),Q (.exit 0) ⟨[.one (.int .i64 d),u,u,u,u,u,u,u,u,u,u,u,u,u,u,u],[]⟩=k0 d): ∀(n:Nat) (a b:Int),qw (qd tt sA (n1 N) c) false zA Q n ⟨[.one (.int .i64 a),.one (.int .i64 b),u,u,u,u,u,u,u,u,u,u,u,u,u,u],[]⟩=mh N k0 n a b:=by
 intro n;induction n with
 | zero=>intros;rfl
 | succ n g=>
   intro a b
   rw [qD,qE f,mh];unfold Lg Tryz.f110
   simp -implicitDefEqProofs [zE,sC,zD,Ld,sB,Xe,zB,e,g]
theorem Xi (N:Nat) (a b:Int):qd tt sA (n1 N) (Tryz.f110.body.getD .skip) (qk tt true [i3] [.tmp 4]) (qm [i3,i3] 16 (a,b,()))=sy N a b:=by
 unfold Tryz.f110
 simp -implicitDefEqProofs [zE,zC,Ld,sB,Xd,su]
 rewrite [Xh (k0:=(fun (c:Int)=>some (c,()))) N ?_ ?_ ?_]
 ·rewrite [sy];first | rfl | simp -implicitDefEqProofs []
 ·rfl
 ·intro;simp only [qA,qC,qJ]
 ·intro c;simp -implicitDefEqProofs [zE]
theorem Lh (N:Nat) (k:Int->ZO [i3]): ∀(n a b:Nat),b<n->mh N k n (a b:Int)=k (Nat.gcd a b:Nat)
 | 0,_,_,h=>by omega
 | n+1,a,b,h=>by
   rw [mh]
   by_cases c:b=0
   ·subst c;simp
   ·have d: ¬((b:Int)=0):=by omega
    have e:a % b<b:=Nat.mod_lt _ (by omega)
    have hm:((a:Int).tmod (b:Int))=((a % b:Nat):Int):=by rw [Int.tmod_eq_emod_of_nonneg (by omega)];rfl
    simp only [d,decide_false,Bool.not_false,cond_true,ne_eq,not_false_eq_true,Ke]
    rw [hm,Lh N k n b (a % b) (by omega)]
    congr 2
    rw [Nat.gcd_comm b,<-Nat.gcd_rec,Nat.gcd_comm]
def dw:G:={ps:=[i3,i3],rs:=[i3],dp:=true,pre:=fun x=>dg x.1 x.2.1,fn:=fun x=>(qR x.1 x.2.1,())}
theorem Xj (a b:Int) (h:dg a b): ∃N,sy N a b=some (qR a b,()):=⟨b.natAbs+1,by
 rw [sy,qc (show cM a from h.1),qc (show cM b from h.2)]
 simp only [bw]
 rw [Lh _ _ _ _ _ (Nat.lt_succ_self _)]
 rfl⟩
theorem n2:Sound Tryz.prog 110 dw:=qo (tt:=tt) (Γ:=sA) hT (qe Xc ql) hm (fn:=Tryz.f110) Tryz.func110 (c:=Tryz.f110.body.getD .skip) (by kernel_rfl) (by kernel_rfl) fun x a=>by
 obtain ⟨N,h⟩:=Xj x.1 x.2.1 a
 exact ⟨n1 N,Xf,qp _,Xg N,(Xi N x.1 x.2.1).trans h⟩
theorem Li {g:Nat} {x:Int} (a:(g:Int)<=9223372036854775807) (b:inI x):dg (g:Int) x/\((Nat.gcd g x.natAbs:Nat):Int)<=9223372036854775807:=by
 refine ⟨⟨⟨by omega,a⟩,b⟩,?_⟩
 unfold inI at b
 by_cases c:x.natAbs=0
 ·rw [c];simpa using a
 ·have:=Nat.gcd_le_right (m:=g) (n:=x.natAbs) (by omega)
  omega
theorem Lj {ρ:Type}: ∀(xs:List Int) (i g:Nat) (k:Int->Option ρ),(g:Int)<=9223372036854775807->(∀x∈xs,inI x)->q5 (fun _ x s K=>chk (dg s x) (K (qR s x))) i xs (g:Int) k=k (gL g xs:Nat)
 | [],_,_,_,_,_=>rfl
 | x::xs,i,g,k,b,a=>by
   obtain ⟨h1,h2⟩:=Li b (a x (by simp))
   rw [q5,qc h1]
   exact Lj xs (i+1) _ k h2 fun y c=>a y (by simp [c])
def j4 (N:Nat) (b:Zb) (d:Int) (k0:Int->ZO [i3]):Nat->Int->Int->ZO [i3]
 | 0,_,_=>none
 | n+1,c,a=>bif (decide (a<d))then (chk (0<=a/\a<(b.length:Int)) (chk (dg c ((b.getD a.toNat (qa Zd)):Int)) (j4 N b d k0 n ((qR c ((b.getD a.toNat (qa Zd)):Int)):Int) (IntKind.i64.wrap (a+(1:Int))))))else (k0 c)
def sD (N:Nat) (a:Zb):ZO [i3]:=j4 N a (a.length:Int) (fun (b:Int)=>some (b,())) N (0 0:Int)
def sE:Gam:=[(110,dw)]
theorem Xk:Gam.get sE 110=some dw:=rfl
def sF:List Bool:=[O,O,O,I,O,O,I,I,I]
def zF:Nm:=⟨sF,[],false⟩
theorem Lk:NmS zF sF [] false:=nmS
def zG:List Bool:=[O,O,O,I]
def Ll:Nm:=⟨zG,[],false⟩
theorem Xl:NmS Ll zG [] false:=nmS
def zH:Nat->Nm:=fun i=>if i=3 then zF else ⟨[],[],false⟩
def zI:Nat->Option Nm:=fun i=>if i=0 then some Ll else none
theorem Xm:qi tr0 (Tryz.f111.body.getD .skip)=true:=by kernel_rfl
def n3 (N:Nat):Tab:={tr:=tr0,lp:=zH,ex:=zI,rg:=rg0,jn:=jn0,fuel:=N}
theorem Xn (N:Nat):qj Tryz.prog (n3 N):=qn fun _=>rfl
theorem zJ (N:Nat):qr (n3 N) tr0 zH zI rg0 jn0 N false:=qt
def Lm:Code:=cut [I,I,O,I,I,I] (Tryz.f111.body.getD .skip)
theorem Xo (N:Nat) (d:Zb) (e:Int) {k0:Int->ZO [i3]} {Q:ZQ [i3]} {c:Code} (h:c=Lm) (j: ∀st,Q .ret st=qz tt true [i3] [.tmp 2] st) (g: ∀(f:Int),Q (.exit 0) ⟨[u,u,u,.one (.int .i64 f),u,u,u,u,u,u,u,u,u,u,u,u,u],[]⟩=k0 f): ∀(n:Nat) (a b:Int),qw (qd tt sE (n3 N) c) false zF Q n ⟨[u,u,u,.one (.int .i64 a),u,u,.one (.sl 3 Zd d 0),.one (.int .i64 e),.one (.int .i64 b),u,u,u,u,u,u,u,u],[]⟩=j4 N d e k0 n a b:=by
 intro n;induction n with
 | zero=>intros;rfl
 | succ n i=>
   intro a b
   rw [qD,qE h,j4];unfold Lm Tryz.f111
   simp -implicitDefEqProofs [zJ,zI,Lk,sF,Xl,zG,Xk,dw,g,i]
theorem Xp (N:Nat) (a:Zb):qd tt sE (n3 N) (Tryz.f111.body.getD .skip) (qk tt true [i3] [.tmp 2]) (qm [i25] 17 (a,()))=sD N a:=by
 unfold Tryz.f111
 simp -implicitDefEqProofs [zJ,zH,Lk,sF]
 rewrite [Xo N _ _ ?_ ?_ ?_]
 ·rewrite [sD];first | rfl | simp -implicitDefEqProofs []
 ·rfl
 ·intro;simp only [qA,qC,qJ]
 ·intro b;simp -implicitDefEqProofs [zJ]
def dx:G:={ps:=[i25],rs:=[i3],dp:=true,pre:=fun x=>eE x.1,fn:=fun x=>(b7 x.1,())}
theorem Xq (xs:Zb) (h:eE xs): ∃N,sD N xs=some (b7 xs,()):=⟨xs.length+1,by
 rw [sD]
 rw [bp (F:=fun n i s=>j4 _ xs xs.length _ n s i) (step:=fun _ x s K=>chk (dg s x) (K (qR s x))) (k:=fun s=>some (s,())) h.1 ?_ ?_ _ _ (Nat.lt_succ_self _)]
 ·exact Lj xs 0 0 _ (by omega) h.2
 ·intro n i s a
  rw [j4,qg (by omega),qc (by omega),qB a]
 ·intro n i s a
  rw [j4,qf (by omega)]⟩
theorem n5:Sound Tryz.prog 111 dx:=qo (tt:=tt) (Γ:=sE) hT (qe n2 ql) hm (fn:=Tryz.f111) Tryz.func111 (c:=Tryz.f111.body.getD .skip) (by kernel_rfl) (by kernel_rfl) fun x a=>by
 obtain ⟨N,h⟩:=Xq x.1 a
 exact ⟨n3 N,Xm,qp _,Xn N,(Xp N x.1).trans h⟩
def fc:G:={ps:=[i3],rs:=[i3],dp:=true,pre:=fun x=>cM x.1,fn:=fun x=>(bw x.1,())}
def iA (N:Nat) (a:Int):ZO [i3]:=some ((max a (IntKind.i64.wrap (0 - a))),())
def Ln:Gam:=[]
theorem Xr:qi tr0 (Tryz.f109.body.getD .skip)=true:=by kernel_rfl
def sG (N:Nat):Tab:={tr:=tr0,lp:=lp0,ex:=ex0,rg:=rg0,jn:=jn0,fuel:=N}
theorem Xs (N:Nat):qj Tryz.prog (sG N):=qn fun _=>rfl
theorem Xt (N:Nat):qr (sG N) tr0 lp0 ex0 rg0 jn0 N false:=qt
theorem Xu (N:Nat) (a:Int):qd tt Ln (sG N) (Tryz.f109.body.getD .skip) (qk tt true [i3] [.tmp 2]) (qm [i3] 7 (a,()))=iA N a:=by
 rw [iA];unfold Tryz.f109
 simp -implicitDefEqProofs [Xt]
 try rfl
theorem Xv (n:Int) (h:inI n): ∃N,iA N n=some (bw n,()):=⟨0,by
 unfold inI at h
 rw [iA,bn (by omega) (by omega)]
 have e:max n (0 - n)=bw n:=by unfold bw;omega
 rw [e]⟩
theorem zK:Sound Tryz.prog 109 fc:=qo (tt:=tt) (Γ:=Ln) hT ql hm (fn:=Tryz.f109) Tryz.func109 (c:=Tryz.f109.body.getD .skip) (by kernel_rfl) (by kernel_rfl) fun x a=>by
 obtain ⟨N,h⟩:=Xv x.1 a
 exact ⟨sG N,Xr,qp _,Xs N,(Xu N x.1).trans h⟩
def m62 (N:Nat) (a b c:Int):ZO [i4]:=bif (decide (b<=a))then (some ((decide (a<=c)),()))else (some (false,()))
def Γ62:Gam:=[]
theorem p62:qi tr0 (Tryz.f62.body.getD .skip)=true:=by kernel_rfl
def T62 (N:Nat):Tab:={tr:=tr0,lp:=lp0,ex:=ex0,rg:=rg0,jn:=jn0,fuel:=N}
theorem Xw (N:Nat):qj Tryz.prog (T62 N):=qn fun _=>rfl
theorem Xx (N:Nat):qr (T62 N) tr0 lp0 ex0 rg0 jn0 N false:=qt
theorem Xy (N:Nat) (a b c:Int):qd tt Γ62 (T62 N) (Tryz.f62.body.getD .skip) (qk tt true [i4] [.tmp 6]) (qm [i3,i3,i3] 15 (a,b,c,()))=m62 N a b c:=by
 rw [m62];unfold Tryz.f62
 simp -implicitDefEqProofs [Xx]
 try rfl
def g62:G:={ps:=[i3,i3,i3],rs:=[i4],dp:=true,pre:=fun _=>True,fn:=fun x=>(inR x.1 x.2.1 x.2.2.1,())}
theorem e62 (x a b:Int): ∃N,m62 N x a b=some (inR x a b,()):=⟨0,by
 simp only [m62,inR]
 by_cases h1:a<=x<;>by_cases h2:x<=b<;>simp [h1,h2]⟩
theorem s62:Sound Tryz.prog 62 g62:=qo (tt:=tt) (Γ:=Γ62) hT ql hm (fn:=Tryz.f62) Tryz.func62 (c:=Tryz.f62.body.getD .skip) (by kernel_rfl) (by kernel_rfl) fun x a=>by
 obtain ⟨N,h⟩:=e62 x.1 x.2.1 x.2.2.1
 exact ⟨T62 N,p62,qp _,Xw N,(Xy N x.1 x.2.1 x.2.2.1).trans h⟩
def m63 (N:Nat) (a:Int):ZO [i4]:=some (((inR a (-400000000:Int) (400000000:Int)):Bool),())
def Γ63:Gam:=[(62,g62)]
theorem Xz:Gam.get Γ63 62=some g62:=rfl
theorem p63:qi tr0 (Tryz.f63.body.getD .skip)=true:=by kernel_rfl
def T63 (N:Nat):Tab:={tr:=tr0,lp:=lp0,ex:=ex0,rg:=rg0,jn:=jn0,fuel:=N}
theorem XA (N:Nat):qj Tryz.prog (T63 N):=qn fun _=>rfl
theorem XB (N:Nat):qr (T63 N) tr0 lp0 ex0 rg0 jn0 N false:=qt
theorem XC (N:Nat) (a:Int):qd tt Γ63 (T63 N) (Tryz.f63.body.getD .skip) (qk tt true [i4] [.tmp 2]) (qm [i3] 5 (a,()))=m63 N a:=by
 rw [m63];unfold Tryz.f63
 simp -implicitDefEqProofs [XB,Xz,g62]
 try rfl
def m81 (N:Nat) (a:Int):ZO [i4]:=bif (decide ((-400000000:Int)<=a))then (some ((decide (a<=(400000000:Int))),()))else (some (false,()))
def Γ81:Gam:=[]
theorem p81:qi tr0 (Tryz.f81.body.getD .skip)=true:=by kernel_rfl
def T81 (N:Nat):Tab:={tr:=tr0,lp:=lp0,ex:=ex0,rg:=rg0,jn:=jn0,fuel:=N}
theorem XD (N:Nat):qj Tryz.prog (T81 N):=qn fun _=>rfl
theorem XE (N:Nat):qr (T81 N) tr0 lp0 ex0 rg0 jn0 N false:=qt
theorem XF (N:Nat) (a:Int):qd tt Γ81 (T81 N) (Tryz.f81.body.getD .skip) (qk tt true [i4] [.tmp 2]) (qm [i3] 9 (a,()))=m81 N a:=by
 rw [m81];unfold Tryz.f81
 simp -implicitDefEqProofs [XE]
 try rfl
def g63:G:={ps:=[i3],rs:=[i4],dp:=true,pre:=fun _=>True,fn:=fun x=>(qq x.1,())}
def g81:G:={ps:=[i3],rs:=[i4],dp:=true,pre:=fun _=>True,fn:=fun x=>(qq x.1,())}
theorem e63 (x:Int): ∃N,m63 N x=some (qq x,()):=⟨0,by
 simp only [m63,inR,qq]⟩
theorem s63:Sound Tryz.prog 63 g63:=qo (tt:=tt) (Γ:=Γ63) hT (qe s62 ql) hm (fn:=Tryz.f63) Tryz.func63 (c:=Tryz.f63.body.getD .skip) (by kernel_rfl) (by kernel_rfl) fun x a=>by
 obtain ⟨N,h⟩:=e63 x.1
 exact ⟨T63 N,p63,qp _,XA N,(XC N x.1).trans h⟩
theorem e81 (x:Int): ∃N,m81 N x=some (qq x,()):=⟨0,by
 simp only [m81,qq]
 by_cases h1: -400000000<=x<;>by_cases h2:x<=400000000<;>simp [h1,h2]⟩
theorem s81:Sound Tryz.prog 81 g81:=qo (tt:=tt) (Γ:=Γ81) hT ql hm (fn:=Tryz.f81) Tryz.func81 (c:=Tryz.f81.body.getD .skip) (by kernel_rfl) (by kernel_rfl) fun x a=>by
 obtain ⟨N,h⟩:=e81 x.1
 exact ⟨T81 N,p81,qp _,XD N,(XF N x.1).trans h⟩
def fe (N:Nat) (c:Zb) (d:Int) (k2:Int->ZO [i3]):Nat->Int->Int->ZO [i3]
 | 0,_,_=>none
 | n+1,b,a=>bif (!(decide (a=(0:Int))))then (chk (a≠0) (fe N c d k2 n a (b.tmod a)))else (k2 b)
def iB (N:Nat) (b:Zb) (k0:Int->ZO [i3]):Nat->Int->Int->ZO [i3]
 | 0,_,_=>none
 | n+1,c,a=>bif (decide (a<(b.length:Int)))then (chk (0<=a/\a<(b.length:Int)) (chk (cM ((b.getD a.toNat (qa Zd)):Int)) (fe N b a (fun (d:Int)=>iB N b k0 n d (IntKind.i64.wrap (a+(1:Int)))) N c ((bw ((b.getD a.toNat (qa Zd)):Int)):Int))))else (k0 c)
def m98 (N:Nat) (b:Zb) (a:Int):ZO [i3]:=chk (cM a) (iB N b (fun (c:Int)=>some (c,())) N ((bw a):Int) (0:Int))
def Γ98:Gam:=[(109,fc)]
theorem Lo:Gam.get Γ98 109=some fc:=rfl
def sH:List Bool:=[I,O,O,O,O,I,I,I]
def zL:Nm:=⟨sH,[],false⟩
theorem Lp:NmS zL sH [] false:=nmS
def sI:List Bool:=[I,O,O,O,O,I,I]
def zM:Nm:=⟨sI,[],false⟩
theorem Lq:NmS zM sI [] false:=nmS
def zN:List Bool:=[O,O,O,O,O,I]
def Lr:Nm:=⟨zN,[],false⟩
theorem XG:NmS Lr zN [] false:=nmS
def zO:List Bool:=[I,O,O,O,O,I,I]
def Ls:Nm:=⟨zO,[],false⟩
theorem XH:NmS Ls zO [] false:=nmS
def sJ:Nat->Tree:=fun i=>if i=7 then .quiet 0 (.quiet 1 (.quiet 2 (.quiet 3 (.quiet 4 (.quiet 5 .done)))))else .done
def sK:Nat->Nm:=fun i=>if i=6 then zL else if i=3 then zM else ⟨[],[],false⟩
def sL:Nat->Option Nm:=fun i=>if i=0 then some Lr else if i=2 then some Ls else none
theorem p98:qi sJ (Tryz.f98.body.getD .skip)=true:=by kernel_rfl
def T98 (N:Nat):Tab:={tr:=sJ,lp:=sK,ex:=sL,rg:=rg0,jn:=jn0,fuel:=N}
theorem XI (N:Nat):qj Tryz.prog (T98 N):=qn fun _=>rfl
theorem n9 (N:Nat):qr (T98 N) sJ sK sL rg0 jn0 N false:=qt
def Lt:Code:=cut [I,I,O,I,I,I,I,O,I,I,I,I] (Tryz.f98.body.getD .skip)
theorem XJ (N:Nat) (a:Zb) (d:Int) {k2:Int->ZO [i3]} {Q:ZQ [i3]} {c:Code} (g:c=Lt) (i: ∀st,Q .ret st=qz tt true [i3] [.tmp 4] st) (h2: ∀(f:Int),Q (.exit 2) ⟨[.one (.sl 3 Zd a 0),u,u,u,u,.one (.int .i64 f),.one (.int .i64 d),u,u,u,u,u,u,u,u,u,u,u,u,u,u,u,u,u,u,u,u,u],[]⟩=k2 f): ∀(n:Nat) (b e:Int),qw (qd tt Γ98 (T98 N) c) false zL Q n ⟨[.one (.sl 3 Zd a 0),u,u,u,u,.one (.int .i64 b),.one (.int .i64 d),.one (.int .i64 e),u,u,u,u,u,u,u,u,u,u,u,u,u,u,u,u,u,u,u,u],[]⟩=fe N a d k2 n b e:=by
 intro n;induction n with
 | zero=>intros;rfl
 | succ n h=>
   intro b e
   rw [qD,qE g,fe];unfold Lt Tryz.f98
   simp -implicitDefEqProofs [n9,sJ,sL,Lp,sH,XH,zO,h2,h]
def Lu:Code:=cut [I,I,O,I,I,I] (Tryz.f98.body.getD .skip)
theorem XK (N:Nat) (b:Zb) {k0:Int->ZO [i3]} {Q:ZQ [i3]} {c:Code} (i:c=Lu) (j: ∀st,Q .ret st=qz tt true [i3] [.tmp 4] st) (h: ∀(g:Int),Q (.exit 0) ⟨[u,u,u,u,u,.one (.int .i64 g),u,u,u,u,u,u,u,u,u,u,u,u,u,u,u,u,u,u,u,u,u,u],[]⟩=k0 g): ∀(n:Nat) (d a:Int),qw (qd tt Γ98 (T98 N) c) false zM Q n ⟨[.one (.sl 3 Zd b 0),u,u,u,u,.one (.int .i64 d),.one (.int .i64 a),u,u,u,u,u,u,u,u,u,u,u,u,u,u,u,u,u,u,u,u,u],[]⟩=iB N b k0 n d a:=by
 intro n;induction n with
 | zero=>intros;rfl
 | succ n e=>
   intro d a
   rw [qD,qE i];unfold Lu Tryz.f98
   simp -implicitDefEqProofs [n9,sK,sL,Lp,sH,XG,zN,Lo,fc,h]
   rewrite [XJ (k2:=(fun (f:Int)=>iB N b k0 n f (IntKind.i64.wrap (a+(1:Int))))) N _ _ ?_ ?_ ?_]
   ·rewrite [iB];first | rfl | simp -implicitDefEqProofs [e]
   ·rfl
   ·intro;simp only [qA,qC,j]
   ·intro f;simp -implicitDefEqProofs [n9,Lq,sI,e]
theorem XL (N:Nat) (a:Zb) (b:Int):qd tt Γ98 (T98 N) (Tryz.f98.body.getD .skip) (qk tt true [i3] [.tmp 4]) (qm [i25,i3] 28 (a,b,()))=m98 N a b:=by
 unfold Tryz.f98
 simp -implicitDefEqProofs [n9,sK,Lq,sI,Lo,fc]
 rewrite [XK (k0:=(fun (c:Int)=>some (c,()))) N _ ?_ ?_ ?_]
 ·rewrite [m98];first | rfl | simp -implicitDefEqProofs []
 ·rfl
 ·intro;simp only [qA,qC,qJ]
 ·intro c;simp -implicitDefEqProofs [n9]
theorem Lv (N:Nat) (xs:Zb) (v:Int) (k:Int->ZO [i3]): ∀(n b a:Nat),b<n->fe N xs v k n (a b:Int)=k (Nat.gcd a b:Nat)
 | 0,_,_,h=>by omega
 | n+1,b,a,h=>by
   rw [fe]
   by_cases c:b=0
   ·subst c;simp
   ·have d: ¬((b:Int)=0):=by omega
    have e:a % b<b:=Nat.mod_lt _ (by omega)
    have hm:((a:Int).tmod (b:Int))=((a % b:Nat):Int):=by rw [Int.tmod_eq_emod_of_nonneg (by omega)];rfl
    simp only [d,decide_false,Bool.not_false,cond_true,ne_eq,not_false_eq_true,Ke]
    rw [hm,Lv N xs v k n (a % b) b (by omega)]
    congr 2
    rw [Nat.gcd_comm b,<-Nat.gcd_rec,Nat.gcd_comm]
theorem Lw (N:Nat) (xs:Zb) (v c:Int) (k:Int->ZO [i3]): ∀(n:Nat) (a b:Int),fe N xs v k n a b=fe N xs c k n a b
 | 0,_,_=>rfl
 | n+1,a,b=>by rw [fe,fe,Lw N xs v c k n]
theorem t98 (N:Nat) (b:9223372036854775807<N) (ys:Zb): ∀(xs:List Int) (i g:Nat) (k:Int->ZO [i3]),(∀x∈xs,inI x)->q5 (fun _ x s K=>chk (cM x) (fe N ys 0 K N s (bw x))) i xs (g:Int) k=k (gL g xs:Nat)
 | [],_,_,_,_=>rfl
 | x::xs,i,g,k,a=>by
   have h1:=a x (by simp)
   rw [q5,qc (show cM x from h1)]
   simp only [bw]
   rw [Lv _ _ _ _ _ _ _ (by unfold inI at h1;omega)]
   exact t98 N b ys xs (i+1) _ k fun y c=>a y (by simp [c])
def g98:G:={ps:=[i25,i3],rs:=[i3],dp:=true,pre:=fun x=>fb x.1 x.2.1,fn:=fun x=>(b6 x.1 x.2.1,())}
theorem e98 (xs:Zb) (k:Int) (h:fb xs k): ∃N,m98 N xs k=some (b6 xs k,()):=⟨9223372036854775808+xs.length,by
 rw [m98,qc (show cM k from h.2.1)]
 rw [bp (F:=fun n i s=>iB _ xs _ n s i) (step:=fun _ x s K=>chk (cM x) (fe (9223372036854775808+xs.length) xs 0 K (9223372036854775808+xs.length) s (bw x))) (k:=fun s=>some (s,())) h.1 ?_ ?_ _ _ (by omega)]
 ·exact t98 _ (by omega) xs xs 0 k.natAbs _ h.2.2
 ·intro n i s a
  rw [iB,qg (by omega),qc (by omega),qB a]
  congr 1
  exact Lw ..
 ·intro n i s a
  rw [iB,qf (by omega)]⟩
theorem s98:Sound Tryz.prog 98 g98:=qo (tt:=tt) (Γ:=Γ98) hT (qe zK ql) hm (fn:=Tryz.f98) Tryz.func98 (c:=Tryz.f98.body.getD .skip) (by kernel_rfl) (by kernel_rfl) fun x a=>by
 obtain ⟨N,h⟩:=e98 x.1 x.2.1 a
 exact ⟨T98 N,p98,qp _,XI N,(XL N x.1 x.2.1).trans h⟩
def qy (a:Zf):Bool:=decide ((a.1:List Int).length<=4)&&qq a.2.1&&(a.1:List Int).all qq&&decide (((gL (Int.natAbs a.2.1) a.1:Nat):Int)<=1)
def iC (N:Nat) (b:Zb) (c:Int) (d:Bool) (k0:Unit->ZO [i4]):Nat->Int->ZO [i4]
 | 0,_=>none
 | n+1,a=>bif (decide (a<(b.length:Int)))then (chk (0<=a/\a<(b.length:Int)) (bif (!((qq ((b.getD a.toNat (qa Zd)):Int)):Bool))then (some (false,()))else (iC N b c d k0 n (IntKind.i64.wrap (a+(1:Int))))))else (k0 ())
def m61 (N:Nat) (a:Zf):ZO [i4]:=bif (decide ((4:Int)<((a.1:Zb).length:Int)))then (some (false,()))else (bif (!((qq (a.2.1:Int)):Bool))then (some (false,()))else (iC N (a.1:Zb) (a.2.1:Int) (a.2.2:Bool) (fun (_:Unit)=>chk (fb (a.1:Zb) (a.2.1:Int)) (some ((decide (((b6 (a.1:Zb) (a.2.1:Int)):Int)<=(1:Int))),()))) N (0:Int)))
def Γ61:Gam:=[(63,g63),(98,g98)]
theorem zP:Gam.get Γ61 63=some g63/\Gam.get Γ61 98=some g98:=⟨rfl,rfl⟩
def sM:List Bool:=[O,I,O,I]
def zQ:Nm:=⟨sM,[],false⟩
theorem Lx:NmS zQ sM [] false:=nmS
def zR:List Bool:=[O,I]
def Ly:Nm:=⟨zR,[],false⟩
theorem XM:NmS Ly zR [] false:=nmS
def zS:Nat->Nm:=fun i=>if i=4 then zQ else ⟨[],[],false⟩
def zT:Nat->Option Nm:=fun i=>if i=0 then some Ly else none
theorem p61:qi tr0 (Tryz.f61.body.getD .skip)=true:=by kernel_rfl
def T61 (N:Nat):Tab:={tr:=tr0,lp:=zS,ex:=zT,rg:=rg0,jn:=jn0,fuel:=N}
theorem XN (N:Nat):qj Tryz.prog (T61 N):=qn fun _=>rfl
theorem zU (N:Nat):qr (T61 N) tr0 zS zT rg0 jn0 N false:=qt
def Lz:Code:=cut [I,I,O,I,I,I] (Tryz.f61.body.getD .skip)
theorem XO (N:Nat) (b:Zb) (d:Int) (e:Bool) {k0:Unit->ZO [i4]} {Q:ZQ [i4]} {c:Code} (g:c=Lz) (h: ∀st,Q .ret st=qz tt true [i4] [.tmp 2] st) (f:Q (.exit 0) ⟨[u,.one (.ptr 0 0 0),u,u,u,u,u,u,u,u,u,u,u,u,u,u,u,u,u,u,u,u,u,u,u,u,u,u,u,u,u,u,u,u],[.box [.sl 3 Zd b 1,.int .i64 d,.bool e]]⟩=k0 ()): ∀(n:Nat) (a:Int),qw (qd tt Γ61 (T61 N) c) false zQ Q n ⟨[u,.one (.ptr 0 0 0),u,.one (.int .i64 a),u,u,u,u,u,u,u,u,u,u,u,u,u,u,u,u,u,u,u,u,u,u,u,u,u,u,u,u,u,u],[.box [.sl 3 Zd b 1,.int .i64 d,.bool e]]⟩=iC N b d e k0 n a:=by
 intro n;induction n with
 | zero=>intros;rfl
 | succ n i=>
   intro a
   rw [qD,qE g,iC];unfold Lz Tryz.f61
   simp -implicitDefEqProofs [zU,zT,Lx,sM,XM,zR,zP,g63,h,f,i]
theorem XP (N:Nat) (a:Zf):qd tt Γ61 (T61 N) (Tryz.f61.body.getD .skip) (qk tt true [i4] [.tmp 2]) (qm [i68] 34 (a,()))=m61 N a:=by
 unfold Tryz.f61
 simp -implicitDefEqProofs [zU,zS,Lx,sM,zP,g63]
 rewrite [XO (k0:=(fun (_:Unit)=>chk (fb (a.1:Zb) (a.2.1:Int)) (some ((decide (((b6 (a.1:Zb) (a.2.1:Int)):Int)<=(1:Int))),())))) N _ _ _ ?_ ?_ ?_]
 ·rewrite [m61];first | rfl | simp -implicitDefEqProofs []
 ·rfl
 ·intro;simp only [qA,qC,qJ]
 ·simp -implicitDefEqProofs [zU,zP,g98]
def iD (N:Nat) (b:Zb) (c:Int) (d:Zb) (e:Int) (f:Bool) (k0:Unit->ZO [i4]):Nat->Int->ZO [i4]
 | 0,_=>none
 | n+1,a=>bif (decide (a<c))then (chk (0<=a/\a<(b.length:Int)) (bif (!((qq ((b.getD a.toNat (qa Zd)):Int)):Bool))then (some (false,()))else (iD N b c d e f k0 n (IntKind.i64.wrap (a+(1:Int))))))else (k0 ())
def m80 (N:Nat) (a:Zf):ZO [i4]:=bif (decide ((4:Int)<((a.1:Zb).length:Int)))then (some (false,()))else (bif (!((qq (a.2.1:Int)):Bool))then (some (false,()))else (iD N (a.1:Zb) ((a.1:Zb).length:Int) (a.1:Zb) (a.2.1:Int) (a.2.2:Bool) (fun (_:Unit)=>chk (eE (a.1:Zb)) (chk (dg ((b7 (a.1:Zb)):Int) (a.2.1:Int)) (some ((decide (((qR ((b7 (a.1:Zb)):Int) (a.2.1:Int)):Int)<=(1:Int))),())))) N (0:Int)))
def Γ80:Gam:=[(81,g81),(110,dw),(111,dx)]
theorem zV:Gam.get Γ80 81=some g81/\Gam.get Γ80 110=some dw/\Gam.get Γ80 111=some dx:=⟨rfl,rfl,rfl⟩
def sN:List Bool:=[O,I,O,O,O,O,O,O,O,O,O,O,O,O,O,O,I,I,I]
def zW:Nm:=⟨sN,[],false⟩
theorem LA:NmS zW sN [] false:=nmS
def zX:List Bool:=[O,I]
def LB:Nm:=⟨zX,[],false⟩
theorem XQ:NmS LB zX [] false:=nmS
def zY:List Bool:=[O,O,I]
def LD:Nm:=⟨zY,[],false⟩
theorem XR:NmS LD zY [] false:=nmS
def sO:Nat->Tree:=fun i=>if i=9 then .quiet 0 (.quiet 1 (.alt 2 (.quiet 3 (.quiet 4 (.alt 5 (.quiet 6 (.quiet 7 .done)) .stop))) (.alt 3 (.alt 2 (.quiet 4 (.alt 5 (.quiet 6 (.quiet 7 .done)) .stop)) (.alt 4 (.alt 2 (.alt 5 (.quiet 6 (.quiet 7 .done)) .stop) .stop) .stop)) .stop)))else .done
def zZ:Nat->Nm:=fun i=>if i=4 then zW else ⟨[],[],false⟩
def z1:Nat->Option Nm:=fun i=>if i=0 then some LB else none
def oa:Nat->Option Nm:=fun i=>if i=9 then some LD else none
theorem p80:qi sO (Tryz.f80.body.getD .skip)=true:=by kernel_rfl
def T80 (N:Nat):Tab:={tr:=sO,lp:=zZ,ex:=z1,rg:=oa,jn:=jn0,fuel:=N}
theorem XS (N:Nat):qj Tryz.prog (T80 N):=qn fun _=>rfl
theorem z6 (N:Nat):qr (T80 N) sO zZ z1 oa jn0 N false:=qt
def LF:Code:=cut [I,I,O,I,I,I] (Tryz.f80.body.getD .skip)
theorem XT (N:Nat) (f:Zb) (g:Int) (b:Zb) (d:Int) (e:Bool) {k0:Unit->ZO [i4]} {Q:ZQ [i4]} {c:Code} (i:c=LF) (j: ∀st,Q .ret st=qz tt true [i4] [.tmp 2] st) (h:Q (.exit 0) ⟨[u,.one (.ptr 0 0 0),u,u,u,u,u,u,u,u,u,u,u,u,u,u,u,u,u,u,u,u,u,u,u,u,u,u,u,u,u,u,u],[.box [.sl 3 Zd b 1,.int .i64 d,.bool e]]⟩=k0 ()): ∀(n:Nat) (a:Int),qw (qd tt Γ80 (T80 N) c) false zW Q n ⟨[u,.one (.ptr 0 0 0),u,u,u,u,u,u,u,u,u,u,u,u,u,u,.one (.sl 3 Zd f 1),.one (.int .i64 g),.one (.int .i64 a),u,u,u,u,u,u,u,u,u,u,u,u,u,u],[.box [.sl 3 Zd b 1,.int .i64 d,.bool e]]⟩=iD N f g b d e k0 n a:=by
 intro n;induction n with
 | zero=>intros;rfl
 | succ n k=>
   intro a
   rw [qD,qE i,iD];unfold LF Tryz.f80
   simp -implicitDefEqProofs [z6,z1,oa,LA,sN,XQ,zX,zV,g81,j,h,k]
theorem XU (N:Nat) (a:Zf):qd tt Γ80 (T80 N) (Tryz.f80.body.getD .skip) (qk tt true [i4] [.tmp 2]) (qm [i68] 33 (a,()))=m80 N a:=by
 unfold Tryz.f80
 simp -implicitDefEqProofs [z6,zZ,oa,LA,sN,zV,g81]
 rewrite [XT (k0:=(fun (_:Unit)=>chk (eE (a.1:Zb)) (chk (dg ((b7 (a.1:Zb)):Int) (a.2.1:Int)) (some ((decide (((qR ((b7 (a.1:Zb)):Int) (a.2.1:Int)):Int)<=(1:Int))),()))))) N _ _ _ _ _ ?_ ?_ ?_]
 ·rewrite [m80];first | rfl | simp -implicitDefEqProofs []
 ·rfl
 ·intro;simp only [qA,qC,qJ]
 ·simp -implicitDefEqProofs [z6,sO,oa,XR,zY,zV,dw,dx]
theorem fE {n:Int} (h:qq n=true):inI n:=by
 unfold qq at h;unfold inI;have:=of_decide_eq_true h;omega
def g61:G:={ps:=[i68],rs:=[i4],dp:=true,pre:=fun _=>True,fn:=fun x=>(qy x.1,())}
def g80:G:={ps:=[i68],rs:=[i4],dp:=true,pre:=fun _=>True,fn:=fun x=>(qy x.1,())}
theorem t61 (N:Nat) (xs:Zb) (c:Int) (b:Bool) (K:Unit->ZO [i4]) (d:xs.length<=1048576) (n:Nat) (e:xs.length<n):iC N xs c b K n 0=bif List.all (α:=Int) xs qq then K ()else some (false,()):=
 (bp (F:=fun n i (_:Unit)=>iC N xs c b K n i) (step:=fun _ x _ K=>bif qq x then K ()else some (false,())) (k:=K) d (fun n i s a=>by rw [iC,qg (by omega),qc (by omega),qB a,b4]) (fun n i s a=>by rw [iC,qf (by omega)]) n () e).trans (dK xs 0)
theorem t80 (N:Nat) (xs ys:Zb) (c:Int) (b:Bool) (K:Unit->ZO [i4]) (d:xs.length<=1048576) (n:Nat) (e:xs.length<n):iD N xs xs.length ys c b K n 0=bif List.all (α:=Int) xs qq then K ()else some (false,()):=
 (bp (F:=fun n i (_:Unit)=>iD N xs xs.length ys c b K n i) (step:=fun _ x _ K=>bif qq x then K ()else some (false,())) (k:=K) d (fun n i s a=>by rw [iD,qg (by omega),qc (by omega),qB a,b4]) (fun n i s a=>by rw [iD,qf (by omega)]) n () e).trans (dK xs 0)
theorem e61 (a:Zf): ∃N,m61 N a=some (qy a,()):=⟨(a.1:Zb).length+1,by
 obtain ⟨xs,c,b⟩:=a
 change List (Zc)at xs
 change Int at c
 change Bool at b
 rw [m61,qy]
 dsimp only
 by_cases d:xs.length<=4
 ·rw [qf (by omega)]
  cases f:qq c with
  | false=>simp
  | true=>
    rw [t61 _ xs _ _ _ (by omega) _ (Nat.lt_succ_self _)]
    cases e:List.all (α:=Int) xs qq with
    | false=>simp
    | true=>
      rw [qc (show fb xs c from ⟨by omega,fE f,fun x g=>fE (List.all_eq_true.1 e x g)⟩)]
      simp [d,b6]
      rfl
 ·rw [qg (by omega)]
  simp [d]⟩
theorem s61:Sound Tryz.prog 61 g61:=qo (tt:=tt) (Γ:=Γ61) hT (qe s63 (qe s98 ql)) hm (fn:=Tryz.f61) Tryz.func61 (c:=Tryz.f61.body.getD .skip) (by kernel_rfl) (by kernel_rfl) fun x a=>by
 obtain ⟨N,h⟩:=e61 x.1
 exact ⟨T61 N,p61,qp _,XN N,(XP N x.1).trans h⟩
theorem z7: ∀(xs:List Int) (g:Nat),(g:Int)<=9223372036854775807->(∀x∈xs,inI x)->inI (gL g xs:Nat)
 | [],g,h,_=>by unfold inI gL;omega
 | x::xs,g,h,a=>z7 xs _ (Li h (a x (by simp))).2 fun y b=>a y (by simp [b])
theorem e80 (a:Zf): ∃N,m80 N a=some (qy a,()):=⟨(a.1:Zb).length+1,by
 obtain ⟨xs,c,b⟩:=a
 change List (Zc)at xs
 change Int at c
 change Bool at b
 rw [m80,qy]
 dsimp only
 by_cases f:xs.length<=4
 ·rw [qf (by omega)]
  cases h:qq c with
  | false=>simp
  | true=>
    rw [t80 _ xs _ _ _ _ (by omega) _ (Nat.lt_succ_self _)]
    cases g:List.all (α:=Int) xs qq with
    | false=>simp
    | true=>
      have d: ∀x∈xs,inI x:=fun x d=>fE (List.all_eq_true.1 g x d)
      have e:Nat.gcd (gL 0 xs) c.natAbs=gL c.natAbs xs:=by rw [<-nW,Nat.gcd_zero_left]
      rw [qc (show eE xs from ⟨by omega,d⟩),qc (show dg (b7 xs) c from ⟨z7 xs 0 (by omega) d,fE h⟩)]
      simp [f,b7,qR,e]
 ·rw [qg (by omega)]
  simp [f]⟩
theorem s80:Sound Tryz.prog 80 g80:=qo (tt:=tt) (Γ:=Γ80) hT (qe s81 (qe n2 (qe n5 ql))) hm (fn:=Tryz.f80) Tryz.func80 (c:=Tryz.f80.body.getD .skip) (by kernel_rfl) (by kernel_rfl) fun x a=>by
 obtain ⟨N,h⟩:=e80 x.1
 exact ⟨T80 N,p80,qp _,XS N,(XU N x.1).trans h⟩
end
end Go.T
set_option linter.unusedSimpArgs false
set_option linter.unusedVariables false
namespace Go.T
noncomputable section
open Go Go.Proofs
set_option maxHeartbeats 4000000
set_option maxRecDepth 100000
def qI (c:Zj):Bool:=decide (0<=(c.1:Int)/\(c.1:Int)<=4)&&decide ((List.length (α:=Zf) c.2:Int)<=16)&&List.all (α:=Zf) c.2 fun a=>qy a&&decide ((List.length (α:=Zc) a.1:Int)=(c.1:Int))
def b8 (c:Zj):Prop:=List.length (α:=Zf) c.2<=1048576
def iE (N:Nat) (c:Int) (b:Ze) (k0:Unit->ZO [i4]):Nat->Int->ZO [i4]
 | 0,_=>none
 | n+1,a=>bif (decide (a<(b.length:Int)))then (chk (0<=a/\a<(b.length:Int)) (bif (!((qy (b.getD a.toNat (qa Y68))):Bool))then (some (false,()))else (chk (0<=a/\a<(b.length:Int)) (bif (!(decide ((((b.getD a.toNat (qa Y68)).1:Zb).length:Int)=c)))then (some (false,()))else (iE N c b k0 n (IntKind.i64.wrap (a+(1:Int))))))))else (k0 ())
def m31 (N:Nat) (a:Zj):ZO [i4]:=iE N (a.1:Int) (a.2:Ze) (fun (_:Unit)=>bif ((inR (a.1:Int) (0 4:Int)):Bool)then (some ((decide (((a.2:Ze).length:Int)<=(16:Int))),()))else (some (false,()))) N (0:Int)
def Γ31:Gam:=[(61,g61),(62,g62)]
theorem LG:Gam.get Γ31 61=some g61/\Gam.get Γ31 62=some g62:=⟨rfl,rfl⟩
def sP:List Bool:=[O,I,O,I]
def z8:Nm:=⟨sP,[],false⟩
theorem LH:NmS z8 sP [] false:=nmS
def Aa:List Bool:=[O,I]
def LI:Nm:=⟨Aa,[],false⟩
theorem XV:NmS LI Aa [] false:=nmS
def sQ:Nat->Tree:=fun i=>if i=4 then .quiet 0 (.quiet 1 (.quiet 2 (.quiet 3 (.quiet 4 (.alt 5 (.quiet 6 (.quiet 7 (.quiet 8 (.quiet 9 (.quiet 10 (.quiet 11 (.quiet 12 (.quiet 13 (.quiet 14 (.quiet 15 (.quiet 16 (.quiet 17 (.quiet 18 .done))))))))))))) .stop)))))else .done
def Ab:Nat->Nm:=fun i=>if i=2 then z8 else ⟨[],[],false⟩
def Ac:Nat->Option Nm:=fun i=>if i=0 then some LI else none
theorem p31:qi sQ (Tryz.f31.body.getD .skip)=true:=by kernel_rfl
def T31 (N:Nat):Tab:={tr:=sQ,lp:=Ab,ex:=Ac,rg:=rg0,jn:=jn0,fuel:=N}
theorem XW (N:Nat):qj Tryz.prog (T31 N):=qn fun _=>rfl
theorem Ad (N:Nat):qr (T31 N) sQ Ab Ac rg0 jn0 N false:=qt
def LJ:Code:=cut [I,O,I,I,I] (Tryz.f31.body.getD .skip)
theorem XX (N:Nat) (b:Int) (d:Ze) {k0:Unit->ZO [i4]} {Q:ZQ [i4]} {c:Code} (f:c=LJ) (g: ∀st,Q .ret st=qz tt true [i4] [.tmp 2] st) (e:Q (.exit 0) ⟨[u,.one (.ptr 0 0 0),u,u,u,u,u,u,u,u,u,u,u,u,u,u,u,u,u,u,u,u,u,u,u,u,u,u,u,u,u,u,u,u,u,u,u,u,u],[.box [.int .i64 b,.sl 68 Y68 d 1]]⟩=k0 ()): ∀(n:Nat) (a:Int),qw (qd tt Γ31 (T31 N) c) false z8 Q n ⟨[u,.one (.ptr 0 0 0),u,.one (.int .i64 a),u,u,u,u,u,u,u,u,u,u,u,u,u,u,u,u,u,u,u,u,u,u,u,u,u,u,u,u,u,u,u,u,u,u,u],[.box [.int .i64 b,.sl 68 Y68 d 1]]⟩=iE N b d k0 n a:=by
 intro n;induction n with
 | zero=>intros;rfl
 | succ n h=>
   intro a
   rw [qD,qE f,iE];unfold LJ Tryz.f31
   simp -implicitDefEqProofs [Ad,sQ,Ac,LH,sP,XV,Aa,LG,g61,g,e,h]
theorem XY (N:Nat) (a:Zj):qd tt Γ31 (T31 N) (Tryz.f31.body.getD .skip) (qk tt true [i4] [.tmp 2]) (qm [i35] 39 (a,()))=m31 N a:=by
 unfold Tryz.f31
 simp -implicitDefEqProofs [Ad,Ab,LH,sP]
 rewrite [XX N _ _ ?_ ?_ ?_]
 ·rewrite [m31];first | rfl | simp -implicitDefEqProofs []
 ·rfl
 ·intro;simp only [qA,qC,qJ]
 ·simp -implicitDefEqProofs [Ad,LG,g62]
def iF (N:Nat) (b:Ze) (c d:Int) (e:Ze) (k0:Unit->ZO [i4]):Nat->Int->ZO [i4]
 | 0,_=>none
 | n+1,a=>bif (decide (a<c))then (chk (0<=a/\a<(b.length:Int)) (bif (!((qy (b.getD a.toNat (qa Y68))):Bool))then (some (false,()))else (bif (!(decide ((((b.getD a.toNat (qa Y68)).1:Zb).length:Int)=d)))then (some (false,()))else (iF N b c d e k0 n (IntKind.i64.wrap (a+(1:Int)))))))else (k0 ())
def m45 (N:Nat) (a:Zj):ZO [i4]:=bif (decide ((a.1:Int)<(0:Int)))then (some (false,()))else (bif (decide ((4:Int)<(a.1:Int)))then (some (false,()))else (bif (decide ((16:Int)<((a.2:Ze).length:Int)))then (some (false,()))else (iF N (a.2:Ze) ((a.2:Ze).length:Int) (a.1:Int) (a.2:Ze) (fun (_:Unit)=>some (true,())) N (0:Int))))
def Γ45:Gam:=[(80,g80)]
theorem XZ:Gam.get Γ45 80=some g80:=rfl
def sR:List Bool:=[O,I,O,O,O,O,O,O,O,O,O,O,O,O,O,O,O,O,O,O,I,I,I]
def Ae:Nm:=⟨sR,[],false⟩
theorem LK:NmS Ae sR [] false:=nmS
def Af:List Bool:=[]
def LL:Nm:=⟨Af,[],false⟩
theorem X0:NmS LL Af [] false:=nmS
def Ag:Nat->Nm:=fun i=>if i=4 then Ae else ⟨[],[],false⟩
def Ah:Nat->Option Nm:=fun i=>if i=0 then some LL else none
theorem p45:qi tr0 (Tryz.f45.body.getD .skip)=true:=by kernel_rfl
def T45 (N:Nat):Tab:={tr:=tr0,lp:=Ag,ex:=Ah,rg:=rg0,jn:=jn0,fuel:=N}
theorem X1 (N:Nat):qj Tryz.prog (T45 N):=qn fun _=>rfl
theorem Ai (N:Nat):qr (T45 N) tr0 Ag Ah rg0 jn0 N false:=qt
def LN:Code:=cut [I,I,O,I,I,I] (Tryz.f45.body.getD .skip)
theorem X2 (N:Nat) (b:Ze) (d e:Int) (f:Ze) {k0:Unit->ZO [i4]} {Q:ZQ [i4]} {c:Code} (h:c=LN) (i: ∀st,Q .ret st=qz tt true [i4] [.tmp 2] st) (g:Q (.exit 0) ⟨[u,u,u,u,u,u,u,u,u,u,u,u,u,u,u,u,u,u,u,u,u,u,u,u,u,u,u,u,u,u,u,u,u,u,u,u,u,u],[]⟩=k0 ()): ∀(n:Nat) (a:Int),qw (qd tt Γ45 (T45 N) c) false Ae Q n ⟨[u,.one (.ptr 0 0 0),u,u,u,u,u,u,u,u,u,u,u,u,u,u,u,u,u,u,.one (.sl 68 Y68 b 1),.one (.int .i64 d),.one (.int .i64 a),u,u,u,u,u,u,u,u,u,u,u,u,u,u,u],[.box [.int .i64 e,.sl 68 Y68 f 1]]⟩=iF N b d e f k0 n a:=by
 intro n;induction n with
 | zero=>intros;rfl
 | succ n j=>
   intro a
   rw [qD,qE h,iF];unfold LN Tryz.f45
   simp -implicitDefEqProofs [Ai,Ah,LK,sR,X0,Af,XZ,g80,i,g,j]
theorem X3 (N:Nat) (a:Zj):qd tt Γ45 (T45 N) (Tryz.f45.body.getD .skip) (qk tt true [i4] [.tmp 2]) (qm [i35] 38 (a,()))=m45 N a:=by
 unfold Tryz.f45
 simp -implicitDefEqProofs [Ai,Ag,LK,sR]
 rewrite [X2 (k0:=(fun (_:Unit)=>some (true,()))) N _ _ _ _ ?_ ?_ ?_]
 ·rewrite [m45];first | rfl | simp -implicitDefEqProofs []
 ·rfl
 ·intro;simp only [qA,qC,qJ]
 ·simp -implicitDefEqProofs [Ai]
theorem t31 (N:Nat) (d:Int) (xs:Ze) (K:Unit->ZO [i4]) (c:xs.length<=1048576) (n:Nat) (e:xs.length<n):iE N d xs K n 0=bif xs.all (fun a=>qy a&&decide ((List.length (α:=Zc) a.1:Int)=d))then K ()else some (false,()):=
 (bp (F:=fun n i (_:Unit)=>iE N d xs K n i) (step:=fun _ x _ K=>bif (qy x&&decide ((List.length (α:=Zc) x.1:Int)=d))then K ()else some (false,())) (k:=K) c (fun n i s b=>by
   rw [iE,qg (by omega),qc (by omega),qc (by omega),qB b]
   cases qy xs[i]<;>simp []) (fun n i s b=>by rw [iE,qf (by omega)]) n () e).trans (dK xs 0)
theorem t45 (N:Nat) (d:Int) (xs ys:Ze) (K:Unit->ZO [i4]) (c:xs.length<=1048576) (n:Nat) (e:xs.length<n):iF N xs xs.length d ys K n 0=bif xs.all (fun a=>qy a&&decide ((List.length (α:=Zc) a.1:Int)=d))then K ()else some (false,()):=
 (bp (F:=fun n i (_:Unit)=>iF N xs xs.length d ys K n i) (step:=fun _ x _ K=>bif (qy x&&decide ((List.length (α:=Zc) x.1:Int)=d))then K ()else some (false,())) (k:=K) c (fun n i s b=>by
   rw [iF,qg (by omega),qc (by omega),qB b]
   cases qy xs[i]<;>simp []) (fun n i s b=>by rw [iF,qf (by omega)]) n () e).trans (dK xs 0)
def g31:G:={ps:=[i35],rs:=[i4],dp:=true,pre:=fun x=>b8 x.1,fn:=fun x=>(qI x.1,())}
def g45:G:={ps:=[i35],rs:=[i4],dp:=true,pre:=fun _=>True,fn:=fun x=>(qI x.1,())}
theorem e31 (c:Zj) (h:b8 c): ∃N,m31 N c=some (qI c,()):=⟨List.length (α:=Zf) c.2+1,by
 obtain ⟨d,xs⟩:=c
 change Int at d
 change List (Zf)at xs
 rw [m31,qI]
 dsimp only
 rw [t31 _ _ _ _ h _ (Nat.lt_succ_self _)]
 simp only [inR]
 cases List.all xs _<;>cases decide (0<=d/\d<=4)<;>simp⟩
theorem s31:Sound Tryz.prog 31 g31:=qo (tt:=tt) (Γ:=Γ31) hT (qe s61 (qe s62 ql)) hm (fn:=Tryz.f31) Tryz.func31 (c:=Tryz.f31.body.getD .skip) (by kernel_rfl) (by kernel_rfl) fun x a=>by
 obtain ⟨N,h⟩:=e31 x.1 a
 exact ⟨T31 N,p31,qp _,XW N,(XY N x.1).trans h⟩
theorem e45 (c:Zj): ∃N,m45 N c=some (qI c,()):=⟨List.length (α:=Zf) c.2+1,by
 obtain ⟨d,xs⟩:=c
 change Int at d
 change List (Zf)at xs
 rw [m45,qI]
 dsimp only
 by_cases h1:d<0
 ·have: ¬(0<=d/\d<=4):=by omega
  simp [h1,this]
 ·by_cases h2:4<d
  ·have: ¬(0<=d/\d<=4):=by omega
   simp [h1,h2,this]
  ·have:0<=d/\d<=4:=by omega
   by_cases b:(16:Int)<xs.length
   ·have a: ¬(xs.length:Int)<=16:=by omega
    simp only [h1,h2,b,a,decide_true,decide_false,cond_true,cond_false,Bool.and_false,Bool.false_and]
   ·have a:(xs.length:Int)<=16:=by omega
    rw [t45 _ _ _ _ _ (by omega) _ (Nat.lt_succ_self _)]
    simp only [h1,h2,b,a,this,decide_true,decide_false,cond_false,Bool.true_and,and_self]
    cases List.all xs _<;>rfl⟩
theorem s45:Sound Tryz.prog 45 g45:=qo (tt:=tt) (Γ:=Γ45) hT (qe s80 ql) hm (fn:=Tryz.f45) Tryz.func45 (c:=Tryz.f45.body.getD .skip) (by kernel_rfl) (by kernel_rfl) fun x a=>by
 obtain ⟨N,h⟩:=e45 x.1
 exact ⟨T45 N,p45,qp _,X1 N,(X3 N x.1).trans h⟩
end
end Go.T
set_option linter.unusedSimpArgs false
set_option linter.unusedVariables false
namespace Go.T
noncomputable section
open Go Go.Proofs
set_option maxHeartbeats 4000000
set_option maxRecDepth 100000
theorem iG {ρ α β:Type} {f:α->β} {k:List β->Option ρ}: ∀(xs:List α) (i:Nat) (s:List β),s.length+xs.length<=1048576->q5 (fun _ x (s:List β) K=>chk (s.length+[f x].length<=1048576) (K (s++[f x]))) i xs s k=k (s++xs.map f)
 | [],_,s,_=>by rw [q5];simp
 | x::xs,i,s,h=>by
   simp only [List.length_cons]at h
   rw [q5,qc (by simp;omega)];dsimp only;rw [iG xs (i+1) _ (by simp;omega)]
   simp
theorem di {x:Int} {g:Nat} (h:inI x):IntKind.i64.wrap (x.tdiv (g:Int))=x.tdiv (g:Int):=by
 have:(x.tdiv (g:Int)).natAbs<=x.natAbs:=by
  rw [Int.natAbs_tdiv];exact Nat.div_le_self _ _
 unfold inI at h
 exact bn (by omega) (by omega)
def ff (co:Zb) (k:Int) (s:Bool) (g:Nat):Zf×Bool:=
 bif qy (List.map (α:=Int) (fun x=>x.tdiv (g:Int)) co,k.tdiv (g:Int),s)then ((List.map (α:=Int) (fun x=>x.tdiv (g:Int)) co,k.tdiv (g:Int),s),true)else (([],(0:Int),false),false)
def qx (co:Zb) (k:Int) (s:Bool):Zf×Bool:=ff co k s (max 1 (gL k.natAbs co))
def bx (co:Zb) (k:Int) (_:Bool):Prop:=fb co k
theorem Aj (co:Zb) (k:Int) (s:Bool) (g:Nat) (a:g=max 1 (gL k.natAbs co)):(bif !qy (List.map (α:=Int) (fun x=>x.tdiv (g:Int)) co,k.tdiv (g:Int),s)then some ((([]:Zb),(0:Int),false),false,())else some ((List.map (α:=Int) (fun x=>x.tdiv (g:Int)) co,k.tdiv (g:Int),s),true,()))=some ((qx co k s).1,(qx co k s).2,()):=by
 rw [qx,<-a,ff,b4]
 cases qy (List.map (α:=Int) (fun x=>x.tdiv (g:Int)) co,k.tdiv (g:Int),s)<;>rfl
def iH (N:Nat) (b:Zb) (c e:Int) (f:Bool) (g:Int) (h:Bool) (k0:(Zb)->ZO [i68,i4]):Nat->Int->(Zb)->ZO [i68,i4]
 | 0,_,_=>none
 | n+1,a,d=>bif (decide (a<(b.length:Int)))then (chk (0<=a/\a<(b.length:Int)) (chk (c≠0) (chk (d.length+([(IntKind.i64.wrap (((b.getD a.toNat (qa Zd)):Int).tdiv c))]:Zb).length<=1048576) (iH N b c e f g h k0 n (IntKind.i64.wrap (a+(1:Int))) (d++([(IntKind.i64.wrap (((b.getD a.toNat (qa Zd)):Int).tdiv c))]:Zb))))))else (k0 d)
def m65 (N:Nat) (b:Zb) (a:Int) (c:Bool):ZO [i68,i4]:=chk (fb b a) (chk ((max (1:Int) ((b6 b a):Int))≠0) (iH N b (max (1:Int) ((b6 b a):Int)) (0:Int) false (IntKind.i64.wrap (a.tdiv (max (1:Int) ((b6 b a):Int)))) c (fun (d:Zb)=>bif (!((qy (d,(IntKind.i64.wrap (a.tdiv (max (1:Int) ((b6 b a):Int)))),c)):Bool))then (some ((([]:Zb),(0:Int),false),false,()))else (some ((d,(IntKind.i64.wrap (a.tdiv (max (1:Int) ((b6 b a):Int)))),c),true,()))) N (0:Int) ([]:Zb)))
def Γ65:Gam:=[(61,g61),(98,g98)]
theorem LO:Gam.get Γ65 61=some g61/\Gam.get Γ65 98=some g98:=⟨rfl,rfl⟩
def sS:List Bool:=[I,O,O,O,O,O,I,O,I,I,I]
def Ak:Nm:=⟨sS,[.box 9 0 3 Zd],false⟩
theorem LP:NmS Ak sS [.box 9 0 3 Zd] false:=nmS
def Al:List Bool:=[O,O,O,O,O,O,I,O,O,I]
def LQ:Nm:=⟨Al,[],false⟩
theorem X4:NmS LQ Al [] false:=nmS
def Am:List Bool:=[I,O,O,O,O,O,I,O,I,I,I]
def LR:Nm:=⟨Am,[],false⟩
theorem X5:NmS LR Am [] false:=nmS
def sT:Nat->Tree:=fun i=>if i=6 then .quiet 2 (.quiet 3 (.quiet 4 (.quiet 5 (.quiet 6 (.quiet 7 (.alt 0 (.alt 1 (.alt 8 (.alt 9 (.quiet 10 (.alt 11 .done .stop)) .stop) .stop) (.alt 8 (.quiet 1 (.alt 9 (.quiet 10 (.alt 11 .done .stop)) .stop)) .stop)) (.alt 8 (.quiet 0 (.quiet 1 (.alt 9 (.quiet 10 (.alt 11 .done .stop)) .stop))) .stop)))))))else .done
def An:Nat->Nm:=fun i=>if i=4 then Ak else ⟨[],[],false⟩
def Ao:Nat->Option Nm:=fun i=>if i=0 then some LQ else none
def ob:Nat->Option Nm:=fun i=>if i=6 then some LR else none
theorem p65:qi sT (Tryz.f65.body.getD .skip)=true:=by kernel_rfl
def T65 (N:Nat):Tab:={tr:=sT,lp:=An,ex:=Ao,rg:=ob,jn:=jn0,fuel:=N}
theorem X6 (N:Nat):qj Tryz.prog (T65 N):=qn fun _=>rfl
theorem Ap (N:Nat):qr (T65 N) sT An Ao ob jn0 N false:=qt
def LS:Code:=cut [I,I,I,O,I,I,I] (Tryz.f65.body.getD .skip)
theorem X7 (N:Nat) (i:Zb) (j d:Int) (e:Bool) (f:Int) (g:Bool) {k0:(Zb)->ZO [i68,i4]} {Q:ZQ [i68,i4]} {c:Code} (l:c=LS) (o: ∀st,Q .ret st=qz tt true [i68,i4] [.cell 6 68,.tmp 7] st) (k: ∀(h:Zb),Q (.exit 0) ⟨[u,u,u,u,u,u,.one (.ptr 0 0 0),u,u,.one (.ptr 1 0 0),u,u,u,u,u,u,u,u,u,u,u,u,u,u,u,u,u,u,u,u,u,u,u,u,u,u,u,u,u,u,u,u],[.box [.nils,.int .i64 d,.bool e],.box [.own 2,.int .i64 f,.bool g],.row 3 Zd h true true 0]⟩=k0 h): ∀(n:Nat) (b:Int) (a:Zb),qw (qd tt Γ65 (T65 N) c) false Ak Q n ⟨[.one (.sl 3 Zd i 3),u,u,u,u,u,.one (.ptr 0 0 0),u,.one (.int .i64 j),.one (.ptr 1 0 0),.one (.int .i64 b),u,u,u,u,u,u,u,u,u,u,u,u,u,u,u,u,u,u,u,u,u,u,u,u,u,u,u,u,u,u,u],[.box [.nils,.int .i64 d,.bool e],.box [.own 2,.int .i64 f,.bool g],.row 3 Zd a true true 0]⟩=iH N i j d e f g k0 n b a:=by
 intro n;induction n with
 | zero=>intros;rfl
 | succ n m=>
   intro b a
   rw [qD,qE l,iH];unfold LS Tryz.f65
   simp -implicitDefEqProofs [Ap,sT,Ao,ob,LP,sS,X4,Al,X5,Am,k,m]
theorem X8 (N:Nat) (b:Zb) (a:Int) (c:Bool):qd tt Γ65 (T65 N) (Tryz.f65.body.getD .skip) (qk tt true [i68,i4] [.cell 6 68,.tmp 7]) (qm [i25,i3,i4] 42 (b,a,c,()))=m65 N b a c:=by
 unfold Tryz.f65
 simp -implicitDefEqProofs [Ap,An,ob,LP,sS,LO,g98]
 rewrite [X7 (k0:=(fun (d:Zb)=>bif (!((qy (d,(IntKind.i64.wrap (a.tdiv (max (1:Int) ((b6 b a):Int)))),c)):Bool))then (some ((([]:Zb),(0:Int),false),false,()))else (some ((d,(IntKind.i64.wrap (a.tdiv (max (1:Int) ((b6 b a):Int)))),c),true,())))) N _ _ _ _ _ _ ?_ ?_ ?_]
 ·rewrite [m65];first | rfl | simp -implicitDefEqProofs []
 ·rfl
 ·intro;simp only [qA,qC,qJ]
 ·intro d;simp -implicitDefEqProofs [Ap,ob,LO,g61]
def hj (N:Nat) (c:Int) (d:Zb) (e g:Int) (h:Bool) (i:Int) (f:Bool) (k0:(Zb)->ZO [i68,i4]):Nat->Int->(Zb)->ZO [i68,i4]
 | 0,_,_=>none
 | n+1,a,b=>bif (decide (a<e))then (chk (0<=a/\a<(d.length:Int)) (chk (c≠0) (chk (0<=a/\a<(b.length:Int)) (chk (a.toNat<b.length) (hj N c d e g h i f k0 n (IntKind.i64.wrap (a+(1:Int))) (b.set a.toNat (IntKind.i64.wrap (((d.getD a.toNat (qa Zd)):Int).tdiv c))))))))else (k0 b)
def m91 (N:Nat) (a:Zb) (b:Int) (c:Bool):ZO [i68,i4]:=chk (eE a) (chk (dg ((b7 a):Int) b) (bif (decide (((qR ((b7 a):Int) b):Int)=(0:Int)))then (chk ((1:Int)≠0) (chk (0<=(a.length:Int)/\(a.length:Int)<=(a.length:Int)/\(a.length:Int)<=1048576) (hj N (1:Int) a (a.length:Int) (0:Int) false (IntKind.i64.wrap (b.tdiv (1:Int))) c (fun (d:Zb)=>bif (!((qy (d,(IntKind.i64.wrap (b.tdiv (1:Int))),c)):Bool))then (some ((([]:Zb),(0:Int),false),false,()))else (some ((d,(IntKind.i64.wrap (b.tdiv (1:Int))),c),true,()))) N (0:Int) (List.replicate (a.length:Int).toNat (qa Zd)))))else (chk (((qR ((b7 a):Int) b):Int)≠0) (chk (0<=(a.length:Int)/\(a.length:Int)<=(a.length:Int)/\(a.length:Int)<=1048576) (hj N ((qR ((b7 a):Int) b):Int) a (a.length:Int) (0:Int) false (IntKind.i64.wrap (b.tdiv ((qR ((b7 a):Int) b):Int))) c (fun (e:Zb)=>bif (!((qy (e,(IntKind.i64.wrap (b.tdiv ((qR ((b7 a):Int) b):Int))),c)):Bool))then (some ((([]:Zb),(0:Int),false),false,()))else (some ((e,(IntKind.i64.wrap (b.tdiv ((qR ((b7 a):Int) b):Int))),c),true,()))) N (0:Int) (List.replicate (a.length:Int).toNat (qa Zd)))))))
def Γ91:Gam:=[(80,g80),(110,dw),(111,dx)]
theorem Aq:Gam.get Γ91 80=some g80/\Gam.get Γ91 110=some dw/\Gam.get Γ91 111=some dx:=⟨rfl,rfl,rfl⟩
def sU:List Bool:=[O,O,O,O,O,O,I,O,I,I,O,O,O,O,O,O,O,O,O,O,O,O,O,O,O,O,I,I,I]
def Ar:Nm:=⟨sU,[],false⟩
theorem LU:NmS Ar sU [] false:=nmS
def As:List Bool:=[O,O,O,O,O,O,I,O,O,I]
def LW:Nm:=⟨As,[],false⟩
theorem X9:NmS LW As [] false:=nmS
def Au:List Bool:=[I,O,O,O,O,O,I,O,I,I]
def LX:Nm:=⟨Au,[],false⟩
theorem Ya:NmS LX Au [] false:=nmS
def oc:Nat->Tree:=fun i=>if i=4 then .first 0 (.first 3 (.first 4 (.first 5 (.first 6 (.grow 1 (.alt 2 (.first 7 (.alt 8 (.alt 9 .done .stop) .stop)) (.alt 8 (.alt 2 (.quiet 7 (.alt 9 .done .stop)) .stop) .stop)))))))else if i=8 then .quiet 0 (.quiet 1 (.quiet 2 (.quiet 3 (.quiet 4 (.quiet 5 (.quiet 6 (.alt 7 .done .stop)))))))else .done
def Av:Nat->Nm:=fun i=>if i=6 then Ar else ⟨[],[],false⟩
def Aw:Nat->Option Nm:=fun i=>if i=0 then some LW else none
def mi:Nat->Option Nm:=fun i=>if i=4 then some LX else none
theorem p91:qi oc (Tryz.f91.body.getD .skip)=true:=by kernel_rfl
def T91 (N:Nat):Tab:={tr:=oc,lp:=Av,ex:=Aw,rg:=mi,jn:=jn0,fuel:=N}
theorem Yb (N:Nat):qj Tryz.prog (T91 N):=qn fun _=>rfl
theorem sV (N:Nat):qr (T91 N) oc Av Aw mi jn0 N false:=qt
def LY:Code:=cut [I,I,I,I,O,I,I,I] (Tryz.f91.body.getD .skip)
theorem LZ (N:Nat) (i:Int) (j:Zb) (k e:Int) (f:Bool) (g:Int) (a:Bool) {k0:(Zb)->ZO [i68,i4]} {Q:ZQ [i68,i4]} {c:Code} (m:c=LY) (p: ∀st,Q .ret st=qz tt true [i68,i4] [.cell 6 68,.tmp 7] st) (l: ∀(h:Zb),Q (.exit 0) ⟨[u,u,u,u,u,u,.one (.ptr 0 0 0),u,u,.one (.ptr 1 0 0),u,u,u,u,u,u,u,u,u,u,u,u,u,u,u,u,u,u,u,u,u,u,u,u,u,u,u,u,u,u,u,u,u,u,u,u],[.box [.nils,.int .i64 e,.bool f],.box [.own 2,.int .i64 g,.bool a],.row 3 Zd h true true 0]⟩=k0 h): ∀(n:Nat) (d:Int) (b:Zb),qw (qd tt Γ91 (T91 N) c) false Ar Q n ⟨[u,u,u,u,u,u,.one (.ptr 0 0 0),u,.one (.int .i64 i),.one (.ptr 1 0 0),u,u,u,u,u,u,u,u,u,u,u,u,u,u,u,u,.one (.sl 3 Zd j 3),.one (.int .i64 k),.one (.int .i64 d),u,u,u,u,u,u,u,u,u,u,u,u,u,u,u,u,u],[.box [.nils,.int .i64 e,.bool f],.box [.own 2,.int .i64 g,.bool a],.row 3 Zd b true true 0]⟩=hj N i j k e f g a k0 n d b:=by
 intro n;induction n with
 | zero=>intros;rfl
 | succ n o=>
   intro d b
   rw [qD,qE m,hj];unfold LY Tryz.f91
   simp -implicitDefEqProofs [sV,oc,Aw,mi,LU,sU,X9,As,l,o]
theorem Yc (N:Nat) (c:Zb) (a:Int) (b:Bool):qd tt Γ91 (T91 N) (Tryz.f91.body.getD .skip) (qk tt true [i68,i4] [.cell 6 68,.tmp 7]) (qm [i25,i3,i4] 46 (c,a,b,()))=m91 N c a b:=by
 unfold Tryz.f91
 simp -implicitDefEqProofs [sV,oc,Av,mi,LU,sU,Ya,Au,Aq,dw,dx]
 rewrite [LZ (k0:=(fun (d:Zb)=>bif (!((qy (d,(IntKind.i64.wrap (a.tdiv (1:Int))),b)):Bool))then (some ((([]:Zb),(0:Int),false),false,()))else (some ((d,(IntKind.i64.wrap (a.tdiv (1:Int))),b),true,())))) N _ _ _ _ _ _ _ ?_ ?_ ?_]
 rewrite [LZ (k0:=(fun (e:Zb)=>bif (!((qy (e,(IntKind.i64.wrap (a.tdiv ((qR ((b7 c):Int) a):Int))),b)):Bool))then (some ((([]:Zb),(0:Int),false),false,()))else (some ((e,(IntKind.i64.wrap (a.tdiv ((qR ((b7 c):Int) a):Int))),b),true,())))) N _ _ _ _ _ _ _ ?_ ?_ ?_]
 ·rewrite [m91];first | rfl | simp -implicitDefEqProofs []
 ·rfl
 ·intro;simp only [qA,qC,qJ]
 ·intro e;simp -implicitDefEqProofs [sV,mi,Aq,g80]
 ·rfl
 ·intro;simp only [qA,qC,qJ]
 ·intro d;simp -implicitDefEqProofs [sV,mi,Aq,g80]
def g65:G:={ps:=[i25,i3,i4],rs:=[i68,i4],dp:=true,pre:=fun x=>bx x.1 x.2.1 x.2.2.1,fn:=fun x=>((qx x.1 x.2.1 x.2.2.1).1,(qx x.1 x.2.1 x.2.2.1).2,())}
def g91:G:={ps:=[i25,i3,i4],rs:=[i68,i4],dp:=true,pre:=fun x=>bx x.1 x.2.1 x.2.2.1,fn:=fun x=>((qx x.1 x.2.1 x.2.2.1).1,(qx x.1 x.2.1 x.2.2.1).2,())}
theorem t65 (N:Nat) (co:Zb) (g:Nat) (l:(g:Int)≠0) (a:Int) (b:Bool) (c:Int) (s:Bool) (K:Zb->ZO [i68,i4]) (j:co.length<=1048576) (o: ∀x∈co,inI x) (n:Nat) (m:co.length<n):
 iH N co (g:Int) a b c s K n 0 []=K (List.map (α:=Int) (fun x=>x.tdiv (g:Int)) co):=by
 refine (bp (F:=fun n i d=>iH N co (g:Int) a b c s K n i d) (step:=fun _ x (s:Zb) K=>chk (s.length+[IntKind.i64.wrap (Int.tdiv x (g:Int))].length<=1048576) (K (s++[IntKind.i64.wrap (Int.tdiv x (g:Int))]))) (k:=K) j (fun n i d h=> ?_) (fun n i d h=> ?_) n _ m).trans ((iG (f:=fun x=>IntKind.i64.wrap (Int.tdiv x (g:Int))) (k:=K) co 0 [] (by simpa using j)).trans ?_)
 ·rw [iH,qg (by omega),qc (by omega),qc l,qB h]
 ·rw [iH,qf (by omega)]
 ·have e:List.map (fun x=>IntKind.i64.wrap (Int.tdiv x (g:Int))) co=List.map (α:=Int) (fun x=>x.tdiv (g:Int)) co:=List.map_congr_left fun x p=>di (o x p)
  rw [List.nil_append,e]
theorem e65 (co:Zb) (k:Int) (s:Bool) (h:bx co k s): ∃N,m65 N co k s=some ((qx co k s).1,(qx co k s).2,()):=⟨co.length+1,by
 obtain ⟨a,hk,b⟩:=h
 have d:max (1:Int) (b6 co k)=((max 1 (gL k.natAbs co):Nat):Int):=by unfold b6;omega
 rw [m65,qc (show fb co k from ⟨a,hk,b⟩),d,qc (by omega),di hk]
 generalize c:max 1 (gL k.natAbs co)=g
 have e:(g:Int)≠0:=by omega
 rw [t65 _ co g e 0 false _ s _ a b _ (Nat.lt_succ_self _)]
 exact Aj co k s g c.symm⟩
theorem s65:Sound Tryz.prog 65 g65:=qo (tt:=tt) (Γ:=Γ65) hT (qe s61 (qe s98 ql)) hm (fn:=Tryz.f65) Tryz.func65 (c:=Tryz.f65.body.getD .skip) (by kernel_rfl) (by kernel_rfl) fun x a=>by
 obtain ⟨N,h⟩:=e65 x.1 x.2.1 x.2.2.1 a
 exact ⟨T65 N,p65,qp _,X6 N,(X8 N x.1 x.2.1 x.2.2.1).trans h⟩
theorem t91 (N:Nat) (co:Zb) (g:Nat) (f:(g:Int)≠0) (a:Int) (b:Bool) (c:Int) (s:Bool) (K:Zb->ZO [i68,i4]) (h:co.length<=1048576) (l: ∀x∈co,inI x) (n:Nat) (j:co.length<n):
 hj N (g:Int) co co.length a b c s K n 0 (List.replicate co.length (qa Zd))=K (List.map (α:=Int) (fun x=>x.tdiv (g:Int)) co):=by
 have:=jY (xs:=List.map (α:=Int) (fun x=>x.tdiv (g:Int)) co) (F:=fun n i e=>hj N (g:Int) co co.length a b c s K n i e) (k:=K) (qa Zd) (by simpa using h) (fun n i e d hs=> ?_) (fun n i e d=> ?_) n (by simpa using j)
 ·simpa using this
 ·have d:i<co.length:=by simpa using d
  have hs:e.length=co.length:=by simpa using hs
  rw [hj,qg (by omega),qc (by omega),qc f,qc (by omega),qc (by omega),qB d,di (l _ (List.getElem_mem d))]
  simp
 ·have d:co.length<=i:=by simpa using d
  rw [hj,qf (by omega)]
theorem e91 (co:Zb) (k:Int) (s:Bool) (h:bx co k s): ∃N,m91 N co k s=some ((qx co k s).1,(qx co k s).2,()):=⟨co.length+1,by
 obtain ⟨a,hk,b⟩:=h
 have d:qR (b7 co) k=((gL k.natAbs co:Nat):Int):=by
  unfold qR b7
  rw [Int.natAbs_natCast,<-nW,Nat.gcd_zero_left]
 rw [m91,qc (show eE co from ⟨a,b⟩),qc (show dg (b7 co) k from ⟨z7 co 0 (by omega) b,hk⟩),d,Int.toNat_natCast]
 by_cases e:gL k.natAbs co=0
 ·rw [qg (by omega),qc (by decide),qc (jZ a)]
  have c:((1:Nat):Int)=1:=rfl
  have:=di (g:=1) hk
  rw [c]at this
  rw [this]
  have t:=t91 (co.length+1) co 1 (by decide) 0 false (k.tdiv 1) s (fun v=>bif !qy (v,k.tdiv 1,s)then some ((([]:Zb),(0:Int),false),false,())else some ((v,k.tdiv 1,s),true,())) a b _ (Nat.lt_succ_self _)
  rw [c]at t
  rw [t]
  exact Aj co k s 1 (by omega)
 ·rw [qf (by omega),qc (by omega),qc (jZ a),di hk]
  rw [t91 (co.length+1) co (gL k.natAbs co) (by omega) 0 false _ s _ a b _ (Nat.lt_succ_self _)]
  exact Aj co k s _ (by omega)⟩
theorem s91:Sound Tryz.prog 91 g91:=qo (tt:=tt) (Γ:=Γ91) hT (qe s80 (qe n2 (qe n5 ql))) hm (fn:=Tryz.f91) Tryz.func91 (c:=Tryz.f91.body.getD .skip) (by kernel_rfl) (by kernel_rfl) fun x a=>by
 obtain ⟨N,h⟩:=e91 x.1 x.2.1 x.2.2.1 a
 exact ⟨T91 N,p91,qp _,Yb N,(Yc N x.1 x.2.1 x.2.2.1).trans h⟩
theorem ch {a:Zf} (h:qy a=true):(List.length (α:=Int) a.1<=4)/\inI a.2.1/\ ∀x∈(a.1:List Int), -400000000<=x/\x<=400000000:=by
 unfold qy at h
 simp only [Bool.and_eq_true,decide_eq_true_eq]at h
 obtain ⟨⟨⟨h1,h2⟩,b⟩,_⟩:=h
 exact ⟨h1,fE h2,fun x c=>of_decide_eq_true (List.all_eq_true.1 b x c)⟩
theorem bB {c:Zj} (h:qI c=true):(0<=(c.1:Int)/\(c.1:Int)<=4)/\List.length (α:=Zf) c.2<=16/\ ∀a∈(c.2:Ze),qy a=true/\(List.length (α:=Zc) a.1:Int)=(c.1:Int):=by
 unfold qI at h
 simp only [Bool.and_eq_true,decide_eq_true_eq]at h
 obtain ⟨⟨h1,h2⟩,b⟩:=h
 refine ⟨h1,by omega,fun a d=> ?_⟩
 have:=List.all_eq_true.1 b a d
 simp only [Bool.and_eq_true,decide_eq_true_eq]at this
 exact this
end
end Go.T
