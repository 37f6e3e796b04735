import Derived.Test.YtllelgnepalfjaaGreatB9
set_option linter.unusedSimpArgs false
set_option linter.unusedVariables false
namespace Go.T
noncomputable section
open Go Go.Proofs
set_option maxHeartbeats 4000000
set_option maxRecDepth 100000
def BS (c:Zj):Prop:=c=eF c.1∨ ∀a∈(c.2:Ze),bo a=true
theorem BT {xs:Ze} {x:Zf} (h:x∈eD xs):x∈xs:=by
 have go: ∀(xs s:List Atm) {x:Atm},x∈xs.foldl cg s->x∈s∨x∈xs:=by
  intro xs
  induction xs with
  | nil=>intro s x h;exact .inl h
  | cons b r a=>
    intro s x h
    rcases a (cg s b) h with h | h
    ·rcases nX h with rfl | h
     ·exact .inr (by simp)
     ·exact .inl h
    ·exact .inr (by simp [h])
 rcases go xs [] h with h | h
 ·simp at h
 ·exact h
theorem qRw (xs:Ze):(eD xs).length<=xs.length:=by
 have go: ∀(xs s:List Atm),(xs.foldl cg s).length<=s.length+xs.length:=by
  intro xs
  induction xs with
  | nil=>intro s;simp
  | cons b r a=>
    intro s
    have h1:=a (cg s b)
    have h2:=Bj s b
    simp only [List.foldl_cons,List.length_cons]
    omega
 have:=go xs []
 simpa [eD] using this
theorem BU (d:Int) (l:Ze):((qS d l).1:Int)=d:=by
 unfold qS
 cases l.any bU<;>rfl
theorem qYh {d:Int} {l:Ze} (h:l.length<=16):List.length (α:=Zf) (qS d l).2<=16:=by
 unfold qS
 cases l.any bU with
 | true=>show 1<=16;decide
 | false=>
   have h1:=qRw (l.filter bo)
   have h2:=List.length_filter_le bo l
   show (eD (l.filter bo)).length<=16
   omega
theorem qX5 {d:Int} (hd:0<=d/\d<=4):okD d ((List.replicate d.toNat (0:Int),(1:Int),false):Zf):=by
 refine ⟨?_,by show ((List.replicate d.toNat (0:Int)).length:Int)=d;rw [List.length_replicate];omega⟩
 show qy _=true
 unfold qy
 have e:gL (Int.natAbs 1) (List.replicate d.toNat (0:Int))<=1:=by
  have:=(j1 (List.replicate d.toNat (0:Int)) (Int.natAbs 1)).1
  exact Nat.le_of_dvd (by decide) this
 simp only [Bool.and_eq_true,decide_eq_true_eq]
 refine ⟨⟨⟨by simp;omega,by decide⟩,?_⟩,by omega⟩
 rw [List.all_eq_true]
 intro x a
 have:x=0:=(List.mem_replicate.1 a).2
 subst this
 decide
theorem qPz {d:Int} {l:Ze} (h:okL d l): ∀a∈((qS d l).2:Ze),okD d a:=by
 intro a b
 unfold qS at b
 cases c:l.any bU with
 | true=>
   rw [c]at b
   have b:a∈([(List.replicate d.toNat (0:Int),(1:Int),false)]:Ze):=b
   simp only [List.mem_singleton]at b
   subst b
   exact qX5 h.1
 | false=>
   rw [c]at b
   have b:a∈eD (l.filter bo):=b
   exact h.2.2 a (List.mem_filter.1 (BT b)).1
theorem qPp (d:Int) (l:Ze):BS (qS d l):=by
 unfold qS
 cases l.any bU with
 | true=>exact .inl rfl
 | false=>exact .inr fun a b=>(List.mem_filter.1 (BT b)).2
theorem Nj {c:Zj} (h1:0<=(c.1:Int)/\(c.1:Int)<=4) (h2:List.length (α:=Zf) c.2<=16) (b: ∀a∈(c.2:Ze),okD c.1 a):qI c=true:=by
 unfold qI
 simp only [Bool.and_eq_true,decide_eq_true_eq]
 refine ⟨⟨h1,by omega⟩,?_⟩
 rw [List.all_eq_true]
 intro a d
 obtain ⟨g1,g2⟩:=b a d
 have g1:qy a=true:=g1
 simp only [Bool.and_eq_true,decide_eq_true_eq]
 exact ⟨g1,g2⟩
def okN (d:Int) (c:Zj):Prop:=qI c=true/\BS c/\(c.1:Int)=d
theorem Nk {d:Int} {l:Ze} (h:okL d l) (a:List.length (α:=Zf) (qS d l).2<=16):okN d (qS d l):=
 ⟨Nj (by rw [BU];exact h.1) a (by rw [BU];exact qPz h),qPp d l,BU d l⟩
theorem q3q {d:Int} {l:Ze} (h:okL d l) (h2:(dk d l).2=true):okN d (dk d l).1:=by
 unfold dk at*
 by_cases c:(16:Int)<(List.length (α:=Zf) (qS d l).2:Int)
 ·rw [decide_eq_true c]at h2;simp at h2
 ·rw [decide_eq_false c]at h2 ⊢;exact Nk h (by omega)
theorem kp {c:Zj} {v:Int} (h:qI c=true) (h2:(qW c v).2=true):okN c.1 (qW c v).1:=by
 obtain ⟨hd,b,d⟩:=bB h
 unfold qW at*
 cases hm:c5 v c.2 c.2 (List.filter (α:=Zf) (fun a=>decide (cfV v a=0)) c.2)with
 | none=>rw [hm]at h2;simp at h2
 | some s=>
   rw [hm]at h2
   exact q3q (BP hd b d hm) h2
theorem iS {c:Zj} (h:qI c=true):okL c.1 c.2/\okN c.1 (qS c.1 c.2):=by
 obtain ⟨hd,a,b⟩:=bB h
 have:okL c.1 c.2:=⟨hd,by omega,b⟩
 exact ⟨this,Nk this (qYh a)⟩
def cO (v:Int):Nat->Zj->Option (Zj)
 | 0,c=>some c
 | n+1,c=>if (n:Int)=v then cO v n c else bif (qW c n).2 then cO v n (qW c n).1 else none
theorem mv {d v:Int}: ∀(k:Nat) {x y:Zj},okN d x->cO v k x=some y->okN d y
 | 0,x,y,a,h=>by simp only [cO,Option.some.injEq]at h;subst h;exact a
 | k+1,x,y,a,h=>by
   rw [cO]at h
   by_cases hk:(k:Int)=v
   ·rw [if_pos hk]at h;exact mv k a h
   ·rw [if_neg hk]at h
    cases hm:(qW x k).2 with
    | false=>rw [hm]at h;simp at h
    | true=>
      rw [hm]at h
      have b:=kp a.1 hm
      rw [a.2.2]at b
      exact mv k b h
def eG (a b:Int):Int:=bif qq a&&qq b then qR a b else 0
def g79:G:={ps:=[i3,i3],rs:=[i3],dp:=true,pre:=fun _=>True,fn:=fun x=>(eG x.1 x.2.1,())}
def g94:G:={ps:=[i3,i3],rs:=[i3],dp:=true,pre:=fun _=>True,fn:=fun x=>(eG x.1 x.2.1,())}
def mw (N:Nat) (k0:Int->ZO [i3]):Nat->Int->Int->ZO [i3]
 | 0,_,_=>none
 | n+1,b,a=>bif (!(decide (a=(0:Int))))then (chk (a≠0) (mw N k0 n a (b.tmod a)))else (k0 b)
def m79 (N:Nat) (a b:Int):ZO [i3]:=bif (!((qq a):Bool))then (some ((0:Int),()))else (bif (!((qq b):Bool))then (some ((0:Int),()))else (mw N (fun (c:Int)=>chk (cM c) (some (((bw c):Int),()))) N a b))
def Γ79:Gam:=[(63,g63),(109,fc)]
theorem Nl:Gam.get Γ79 63=some g63/\Gam.get Γ79 109=some fc:=⟨rfl,rfl⟩
def uz:List Bool:=[I,I]
def BV:Nm:=⟨uz,[],false⟩
theorem Nn:NmS BV uz [] false:=nmS
def BW:List Bool:=[true]
def No:Nm:=⟨BW,[],false⟩
theorem qY0:NmS No BW [] false:=nmS
def uA:Nat->Tree:=fun i=>if i=4 then .quiet 0 (.quiet 1 (.quiet 2 (.quiet 3 (.quiet 4 (.quiet 5 .done)))))else .done
def BX:Nat->Nm:=fun i=>if i=3 then BV else ⟨[],[],false⟩
def BY:Nat->Option Nm:=fun i=>if i=0 then some No else none
theorem p79:qi uA (Tryz.f79.body.getD .skip)=true:=by kernel_rfl
def T79 (N:Nat):Tab:={tr:=uA,lp:=BX,ex:=BY,rg:=rg0,jn:=jn0,fuel:=N}
theorem qSZ (N:Nat):qj Tryz.prog (T79 N):=qn fun _=>rfl
theorem BZ (N:Nat):qr (T79 N) uA BX BY rg0 jn0 N false:=qt
def Np:Code:=cut [I,I,O,I,I] (Tryz.f79.body.getD .skip)
theorem qXG (N:Nat) {k0:Int->ZO [i3]} {Q:ZQ [i3]} {c:Code} (f:c=Np) (h: ∀st,Q .ret st=qz tt true [i3] [.tmp 4] st) (e: ∀(d:Int),Q (.exit 0) ⟨[.one (.int .i64 d),u,u,u,u,u,u,u,u,u,u,u,u,u,u,u,u,u,u,u,u],[]⟩=k0 d): ∀(n:Nat) (a b:Int),qw (qd tt Γ79 (T79 N) c) false BV Q n ⟨[.one (.int .i64 a),.one (.int .i64 b),u,u,u,u,u,u,u,u,u,u,u,u,u,u,u,u,u,u,u],[]⟩=mw N k0 n a b:=by
 intro n;induction n with
 | zero=>intros;rfl
 | succ n g=>
   intro a b
   rw [qD,qE f,mw];unfold Np Tryz.f79
   simp -implicitDefEqProofs [BZ,uA,BY,Nn,uz,qY0,BW,e,g]
theorem qWB (N:Nat) (b c:Int):qd tt Γ79 (T79 N) (Tryz.f79.body.getD .skip) (qk tt true [i3] [.tmp 4]) (qm [i3,i3] 21 (b,c,()))=m79 N b c:=by
 unfold Tryz.f79
 simp -implicitDefEqProofs [BZ,BX,Nn,uz,Nl,g63]
 rewrite [qXG (k0:=(fun (a:Int)=>chk (cM a) (some (((bw a):Int),())))) N ?_ ?_ ?_]
 ·rewrite [m79];first | rfl | simp -implicitDefEqProofs []
 ·rfl
 ·intro;simp only [qA,qC,qJ]
 ·intro a;simp -implicitDefEqProofs [BZ,Nl,fc]
def m94 (N:Nat) (a b:Int):ZO [i3]:=bif (!((qq a):Bool))then (some ((0:Int),()))else (bif (!((qq b):Bool))then (some ((0:Int),()))else (chk (dg a b) (some (((qR a b):Int),()))))
def Γ94:Gam:=[(81,g81),(110,dw)]
theorem q18:Gam.get Γ94 81=some g81/\Gam.get Γ94 110=some dw:=⟨rfl,rfl⟩
theorem p94:qi tr0 (Tryz.f94.body.getD .skip)=true:=by kernel_rfl
def T94 (N:Nat):Tab:={tr:=tr0,lp:=lp0,ex:=ex0,rg:=rg0,jn:=jn0,fuel:=N}
theorem qXL (N:Nat):qj Tryz.prog (T94 N):=qn fun _=>rfl
theorem qZ1 (N:Nat):qr (T94 N) tr0 lp0 ex0 rg0 jn0 N false:=qt
theorem qRr (N:Nat) (a b:Int):qd tt Γ94 (T94 N) (Tryz.f94.body.getD .skip) (qk tt true [i3] [.tmp 4]) (qm [i3,i3] 16 (a,b,()))=m94 N a b:=by
 rw [m94];unfold Tryz.f94
 simp -implicitDefEqProofs [qZ1,q18,g81,dw]
 try rfl
theorem cH {n:Int} (h:qq n=true): -400000000<=n/\n<=400000000:=of_decide_eq_true h
theorem t79 (N:Nat) (K:Int->ZO [i3]): ∀(n:Nat) (a b:Int),b.natAbs<n-> ∃c:Int,mw N K n a b=K c/\c.natAbs=Nat.gcd a.natAbs b.natAbs
 | 0,_,_,h=>by omega
 | n+1,a,b,h=>by
   rw [mw]
   by_cases d:b=0
   ·subst d;exact ⟨a,by simp,by simp⟩
   ·have e:a.natAbs % b.natAbs<b.natAbs:=Nat.mod_lt _ (by omega)
    have hm:(a.tmod b).natAbs=a.natAbs % b.natAbs:=Int.natAbs_tmod _ _
    obtain ⟨c,h1,h2⟩:=t79 N K n b (a.tmod b) (by omega)
    refine ⟨c,?_,?_⟩
    ·rw [decide_eq_false d,qc d];exact h1
    ·rw [h2,hm,Nat.gcd_comm b.natAbs,<-Nat.gcd_rec,Nat.gcd_comm]
theorem q0T {a b:Int} (d:inI a) (e:inI b):((Nat.gcd a.natAbs b.natAbs:Nat):Int)<=9223372036854775807:=by
 unfold inI at d e
 by_cases c:a.natAbs=0
 ·rw [c,Nat.gcd_zero_left];omega
 ·have:=Nat.gcd_le_left (m:=a.natAbs) b.natAbs (by omega)
  omega
theorem B0 {c a b:Int} (d:inI a) (e:inI b) (h:c.natAbs=Nat.gcd a.natAbs b.natAbs):cM c/\bw c=qR a b:=by
 have:=q0T d e
 rw [<-h]at this
 exact ⟨by show inI c;unfold inI;omega,by unfold bw qR;rw [h]⟩
theorem e79 (a b:Int): ∃N,m79 N a b=some (eG a b,()):=⟨b.natAbs+1,by
 rw [m79]
 unfold eG
 cases g:qq a with
 | false=>rfl
 | true=>
   cases h:qq b with
   | false=>rfl
   | true=>
     obtain ⟨c,h1,h2⟩:=t79 (b.natAbs+1) (fun (d:Int)=>chk (cM d) (some (((bw d):Int),()))) (b.natAbs+1) a b (Nat.lt_succ_self _)
     obtain ⟨e,f⟩:=B0 (fE g) (fE h) h2
     simp only [Bool.not_true,cond_false,Bool.and_self,cond_true]
     rw [h1,qc e,f]⟩
theorem s79:Sound Tryz.prog 79 g79:=qo (tt:=tt) (Γ:=Γ79) hT (qe s63 (qe zK ql)) hm (fn:=Tryz.f79) Tryz.func79 (c:=Tryz.f79.body.getD .skip) (by kernel_rfl) (by kernel_rfl) fun x a=>by
 obtain ⟨N,h⟩:=e79 x.1 x.2.1
 exact ⟨T79 N,p79,qp _,qSZ N,(qWB N x.1 x.2.1).trans h⟩
theorem e94 (a b:Int): ∃N,m94 N a b=some (eG a b,()):=⟨0,by
 rw [m94]
 unfold eG
 cases c:qq a with
 | false=>rfl
 | true=>
   cases d:qq b with
   | false=>rfl
   | true=>
     simp only [Bool.not_true,cond_false,Bool.and_self,cond_true]
     rw [qc (show dg a b from ⟨fE c,fE d⟩)]⟩
theorem s94:Sound Tryz.prog 94 g94:=qo (tt:=tt) (Γ:=Γ94) hT (qe s81 (qe n2 ql)) hm (fn:=Tryz.f94) Tryz.func94 (c:=Tryz.f94.body.getD .skip) (by kernel_rfl) (by kernel_rfl) fun x a=>by
 obtain ⟨N,h⟩:=e94 x.1 x.2.1
 exact ⟨T94 N,p94,qp _,qXL N,(qRr N x.1 x.2.1).trans h⟩
def gx (a:Zh):Prop:=(-400000000<=(a.1:Int)/\ @LE.le Int _ a.1 400000000)/\(0<=(a.2:Int)/\ @LE.le Int _ a.2 400000000)
def qh (r:Zh):Bool:=inR r.2 1 400000000&&qq r.1&&decide (eG r.1 r.2=1)
def g43:G:={ps:=[i28],rs:=[i4],dp:=true,pre:=fun _=>True,fn:=fun x=>(qh x.1,())}
def g55:G:={ps:=[i28],rs:=[i4],dp:=true,pre:=fun _=>True,fn:=fun x=>(qh x.1,())}
def m43 (N:Nat) (a:Zh):ZO [i4]:=bif ((inR (a.2:Int) (1 400000000:Int)):Bool)then (bif ((qq (a.1:Int)):Bool)then (some ((decide (((eG (a.1:Int) (a.2:Int)):Int)=(1:Int))),()))else (some (false,())))else (some (false,()))
def Γ43:Gam:=[(62,g62),(63,g63),(79,g79)]
theorem qXo:Gam.get Γ43 62=some g62/\Gam.get Γ43 63=some g63/\Gam.get Γ43 79=some g79:=⟨rfl,rfl,rfl⟩
theorem p43:qi tr0 (Tryz.f43.body.getD .skip)=true:=by kernel_rfl
def T43 (N:Nat):Tab:={tr:=tr0,lp:=lp0,ex:=ex0,rg:=rg0,jn:=jn0,fuel:=N}
theorem qRy (N:Nat):qj Tryz.prog (T43 N):=qn fun _=>rfl
theorem qSD (N:Nat):qr (T43 N) tr0 lp0 ex0 rg0 jn0 N false:=qt
theorem qVc (N:Nat) (a:Zh):qd tt Γ43 (T43 N) (Tryz.f43.body.getD .skip) (qk tt true [i4] [.tmp 2]) (qm [i28] 19 (a,()))=m43 N a:=by
 rw [m43];unfold Tryz.f43
 simp -implicitDefEqProofs [qSD,qXo,g62,g63,g79]
 try rfl
def m55 (N:Nat) (a:Zh):ZO [i4]:=bif (decide ((1:Int)<=(a.2:Int)))then (bif (decide ((a.2:Int)<=(400000000:Int)))then (bif ((qq (a.1:Int)):Bool)then (some ((decide (((eG (a.1:Int) (a.2:Int)):Int)=(1:Int))),()))else (some (false,())))else (some (false,())))else (some (false,()))
def Γ55:Gam:=[(81,g81),(94,g94)]
theorem qY6:Gam.get Γ55 81=some g81/\Gam.get Γ55 94=some g94:=⟨rfl,rfl⟩
theorem p55:qi tr0 (Tryz.f55.body.getD .skip)=true:=by kernel_rfl
def T55 (N:Nat):Tab:={tr:=tr0,lp:=lp0,ex:=ex0,rg:=rg0,jn:=jn0,fuel:=N}
theorem qUK (N:Nat):qj Tryz.prog (T55 N):=qn fun _=>rfl
theorem qSj (N:Nat):qr (T55 N) tr0 lp0 ex0 rg0 jn0 N false:=qt
theorem q2i (N:Nat) (a:Zh):qd tt Γ55 (T55 N) (Tryz.f55.body.getD .skip) (qk tt true [i4] [.tmp 2]) (qm [i28] 24 (a,()))=m55 N a:=by
 rw [m55];unfold Tryz.f55
 simp -implicitDefEqProofs [qSj,qY6,g81,g94]
 try rfl
theorem e43 (r:Zh): ∃N,m43 N r=some (qh r,()):=⟨0,by
 rw [m43]
 unfold qh
 cases inR r.2 1 400000000 with
 | false=>rfl
 | true=>cases qq r.1<;>rfl⟩
theorem s43:Sound Tryz.prog 43 g43:=qo (tt:=tt) (Γ:=Γ43) hT (qe s62 (qe s63 (qe s79 ql))) hm (fn:=Tryz.f43) Tryz.func43 (c:=Tryz.f43.body.getD .skip) (by kernel_rfl) (by kernel_rfl) fun x a=>by
 obtain ⟨N,h⟩:=e43 x.1
 exact ⟨T43 N,p43,qp _,qRy N,(qVc N x.1).trans h⟩
theorem e55 (r:Zh): ∃N,m55 N r=some (qh r,()):=⟨0,by
 rw [m55]
 unfold qh
 by_cases h1:(1:Int)<=(r.2:Int)
 ·by_cases h2:(r.2:Int)<=(400000000:Int)
  ·rw [qg h1,qg h2,gq ⟨h1,h2⟩]
   cases qq r.1<;>rfl
  ·rw [qg h1,qf h2,gu fun h=>h2 h.2];rfl
 ·rw [qf h1,gu fun h=>h1 h.1];rfl⟩
theorem s55:Sound Tryz.prog 55 g55:=qo (tt:=tt) (Γ:=Γ55) hT (qe s81 (qe s94 ql)) hm (fn:=Tryz.f55) Tryz.func55 (c:=Tryz.f55.body.getD .skip) (by kernel_rfl) (by kernel_rfl) fun x a=>by
 obtain ⟨N,h⟩:=e55 x.1
 exact ⟨T55 N,p55,qp _,qUK N,(q2i N x.1).trans h⟩
theorem cI {r:Zh} (h:qh r=true):gx r:=by
 unfold qh at h
 simp only [Bool.and_eq_true]at h
 have h1:=cH h.1.2
 have h2:(1:Int)<=r.2/\ @LE.le Int _ r.2 400000000:=of_decide_eq_true h.1.1
 exact ⟨h1,Int.le_trans (by decide) h2.1,h2.2⟩
theorem hy {x y:Int} (a: -400000000<=x/\x<=400000000) (b: -400000000<=y/\y<=400000000): -160000000000000000<=x*y/\x*y<=160000000000000000:=by
 have h1:=Int.natAbs_mul x y
 have h2:x.natAbs*y.natAbs<=400000000*400000000:=Nat.mul_le_mul (by omega) (by omega)
 generalize x*y=z at*
 rw [<-h1]at h2
 omega
theorem hz {x y:Int} (a: -400000000<=x/\x<=400000000) (b: -400000000<=y/\y<=400000000):IntKind.i64.wrap (x*y)=x*y:=by
 have:=hy a b
 generalize x*y=z at*
 exact bn (by omega) (by omega)
def gy (m e:Int):Zh:=bif qh ((m.tdiv (qR m e),e.tdiv (qR m e)):Zh)then (m.tdiv (qR m e),e.tdiv (qR m e))else ((0:Int),(0:Int))
def qT (n d:Int):Zh:=if d=0 then ((0:Int),(0:Int))else if d<0 then gy (-n) (-d)else gy n d
def dn (n d:Int):Prop:=inI n/\inI d
def gz:G:={ps:=[i3,i3],rs:=[i28],dp:=true,pre:=fun x=>dn x.1 x.2.1,fn:=fun x=>(qT x.1 x.2.1,())}
def gA:G:={ps:=[i3,i3],rs:=[i28],dp:=true,pre:=fun x=>dn x.1 x.2.1,fn:=fun x=>(qT x.1 x.2.1,())}
def kr (N:Nat) (c d e f:Int) (k0:Int->ZO [i28]):Nat->Int->Int->ZO [i28]
 | 0,_,_=>none
 | n+1,b,a=>bif (!(decide (a=(0:Int))))then (chk (a≠0) (kr N c d e f k0 n a (b.tmod a)))else (k0 b)
def uB (N:Nat) (b a:Int):ZO [i28]:=bif (decide (a=(0:Int)))then (some (((0:Int),(0:Int)),()))else (bif (decide (a<(0:Int)))then (kr N (IntKind.i64.wrap (0 - b)) (IntKind.i64.wrap (0 - a)) (0 0:Int) (fun (d:Int)=>chk (cM d) (chk (((bw d):Int)≠0) (chk (((bw d):Int)≠0) (bif (!((qh ((IntKind.i64.wrap ((IntKind.i64.wrap (0 - b)).tdiv ((bw d):Int))),(IntKind.i64.wrap ((IntKind.i64.wrap (0 - a)).tdiv ((bw d):Int))))):Bool))then (some (((0:Int),(0:Int)),()))else (some (((IntKind.i64.wrap ((IntKind.i64.wrap (0 - b)).tdiv ((bw d):Int))),(IntKind.i64.wrap ((IntKind.i64.wrap (0 - a)).tdiv ((bw d):Int)))),())))))) N (IntKind.i64.wrap (0 - b)) (IntKind.i64.wrap (0 - a)))else (kr N b a (0 0:Int) (fun (c:Int)=>chk (cM c) (chk (((bw c):Int)≠0) (chk (((bw c):Int)≠0) (bif (!((qh ((IntKind.i64.wrap (b.tdiv ((bw c):Int))),(IntKind.i64.wrap (a.tdiv ((bw c):Int))))):Bool))then (some (((0:Int),(0:Int)),()))else (some (((IntKind.i64.wrap (b.tdiv ((bw c):Int))),(IntKind.i64.wrap (a.tdiv ((bw c):Int)))),())))))) N b a))
def oJ:Gam:=[(43,g43),(109,fc)]
theorem Nq:Gam.get oJ 43=some g43/\Gam.get oJ 109=some fc:=⟨rfl,rfl⟩
def uC:List Bool:=[I,I,O,O,I,I,I]
def B1:Nm:=⟨uC,[],false⟩
theorem Nr:NmS B1 uC [] false:=nmS
def B2:List Bool:=[I,I,O,O,I,I]
def Ns:Nm:=⟨B2,[],false⟩
theorem qZr:NmS Ns B2 [] false:=nmS
def my:Nat->Tree:=fun i=>if i=8 then .quiet 0 (.quiet 1 (.quiet 2 (.quiet 3 (.quiet 4 (.quiet 5 .done)))))else if i=10 then .first 0 (.first 1 (.first 2 (.first 3 (.first 4 (.first 5 (.first 6 (.alt 7 (.alt 8 .done .stop) .stop)))))))else .done
def B3:Nat->Nm:=fun i=>if i=7 then B1 else ⟨[],[],false⟩
def B4:Nat->Option Nm:=fun i=>if i=0 then some Ns else none
theorem q3A:qi my (Tryz.f108.body.getD .skip)=true:=by kernel_rfl
def oK (N:Nat):Tab:={tr:=my,lp:=B3,ex:=B4,rg:=rg0,jn:=jn0,fuel:=N}
theorem qNG (N:Nat):qj Tryz.prog (oK N):=qn fun _=>rfl
theorem uD (N:Nat):qr (oK N) my B3 B4 rg0 jn0 N false:=qt
def Nt:Code:=cut [I,I,I,I,I,O,I,I] (Tryz.f108.body.getD .skip)
theorem Nu (N:Nat) (a b f g:Int) {k0:Int->ZO [i28]} {Q:ZQ [i28]} {c:Code} (j:c=Nt) (l: ∀st,Q .ret st=qz tt true [i28] [.cell 4 28] st) (i: ∀(h:Int),Q (.exit 0) ⟨[.one (.int .i64 a),.one (.int .i64 b),u,u,.one (.ptr 0 0 0),.one (.int .i64 h),u,u,u,u,u,u,u,u,u,u,u,u,u,u,u,u,u,u,u,u,u,u,u,u,u,u,u,u,u,u,u,u,u,u],[.box [.int .i64 f,.int .i64 g]]⟩=k0 h): ∀(n:Nat) (d e:Int),qw (qd tt oJ (oK N) c) false B1 Q n ⟨[.one (.int .i64 a),.one (.int .i64 b),u,u,.one (.ptr 0 0 0),.one (.int .i64 d),.one (.int .i64 e),u,u,u,u,u,u,u,u,u,u,u,u,u,u,u,u,u,u,u,u,u,u,u,u,u,u,u,u,u,u,u,u,u],[.box [.int .i64 f,.int .i64 g]]⟩=kr N a b f g k0 n d e:=by
 intro n;induction n with
 | zero=>intros;rfl
 | succ n k=>
   intro d e
   rw [qD,qE j,kr];unfold Nt Tryz.f108
   simp -implicitDefEqProofs [uD,my,B4,Nr,uC,qZr,B2,i,k]
theorem qQG (N:Nat) (c d:Int):qd tt oJ (oK N) (Tryz.f108.body.getD .skip) (qk tt true [i28] [.cell 4 28]) (qm [i3,i3] 40 (c,d,()))=uB N c d:=by
 unfold Tryz.f108
 simp -implicitDefEqProofs [uD,B3,Nr,uC]
 rewrite [Nu (k0:=(fun (b:Int)=>chk (cM b) (chk (((bw b):Int)≠0) (chk (((bw b):Int)≠0) (bif (!((qh ((IntKind.i64.wrap ((IntKind.i64.wrap (0 - c)).tdiv ((bw b):Int))),(IntKind.i64.wrap ((IntKind.i64.wrap (0 - d)).tdiv ((bw b):Int))))):Bool))then (some (((0:Int),(0:Int)),()))else (some (((IntKind.i64.wrap ((IntKind.i64.wrap (0 - c)).tdiv ((bw b):Int))),(IntKind.i64.wrap ((IntKind.i64.wrap (0 - d)).tdiv ((bw b):Int)))),()))))))) N _ _ _ _ ?_ ?_ ?_]
 rewrite [Nu (k0:=(fun (a:Int)=>chk (cM a) (chk (((bw a):Int)≠0) (chk (((bw a):Int)≠0) (bif (!((qh ((IntKind.i64.wrap (c.tdiv ((bw a):Int))),(IntKind.i64.wrap (d.tdiv ((bw a):Int))))):Bool))then (some (((0:Int),(0:Int)),()))else (some (((IntKind.i64.wrap (c.tdiv ((bw a):Int))),(IntKind.i64.wrap (d.tdiv ((bw a):Int)))),()))))))) N _ _ _ _ ?_ ?_ ?_]
 ·rewrite [uB];first | rfl | simp -implicitDefEqProofs []
 ·rfl
 ·intro;simp only [qA,qC,qJ]
 ·intro a;simp -implicitDefEqProofs [uD,my,Nq,g43,fc]
 ·rfl
 ·intro;simp only [qA,qC,qJ]
 ·intro b;simp -implicitDefEqProofs [uD,my,Nq,g43,fc]
def uE (N:Nat) (b a:Int):ZO [i28]:=bif (decide (a=(0:Int)))then (some (((0:Int),(0:Int)),()))else (bif (decide (a<(0:Int)))then (chk (dg (IntKind.i64.wrap (0 - b)) (IntKind.i64.wrap (0 - a))) (chk (((qR (IntKind.i64.wrap (0 - b)) (IntKind.i64.wrap (0 - a))):Int)≠0) (chk (((qR (IntKind.i64.wrap (0 - b)) (IntKind.i64.wrap (0 - a))):Int)≠0) (bif (!((qh ((IntKind.i64.wrap ((IntKind.i64.wrap (0 - b)).tdiv ((qR (IntKind.i64.wrap (0 - b)) (IntKind.i64.wrap (0 - a))):Int))),(IntKind.i64.wrap ((IntKind.i64.wrap (0 - a)).tdiv ((qR (IntKind.i64.wrap (0 - b)) (IntKind.i64.wrap (0 - a))):Int))))):Bool))then (some (((0:Int),(0:Int)),()))else (some (((IntKind.i64.wrap ((IntKind.i64.wrap (0 - b)).tdiv ((qR (IntKind.i64.wrap (0 - b)) (IntKind.i64.wrap (0 - a))):Int))),(IntKind.i64.wrap ((IntKind.i64.wrap (0 - a)).tdiv ((qR (IntKind.i64.wrap (0 - b)) (IntKind.i64.wrap (0 - a))):Int)))),()))))))else (chk (dg b a) (chk (((qR b a):Int)≠0) (chk (((qR b a):Int)≠0) (bif (!((qh ((IntKind.i64.wrap (b.tdiv ((qR b a):Int))),(IntKind.i64.wrap (a.tdiv ((qR b a):Int))))):Bool))then (some (((0:Int),(0:Int)),()))else (some (((IntKind.i64.wrap (b.tdiv ((qR b a):Int))),(IntKind.i64.wrap (a.tdiv ((qR b a):Int)))),())))))))
def uF:Gam:=[(55,g55),(110,dw)]
theorem qYZ:Gam.get uF 55=some g55/\Gam.get uF 110=some dw:=⟨rfl,rfl⟩
def uG:Nat->Tree:=fun i=>if i=6 then .first 0 (.first 1 (.first 2 (.first 3 (.first 4 (.first 5 (.first 6 (.alt 7 (.alt 8 .done .stop) .stop)))))))else .done
theorem qVm:qi uG (Tryz.f117.body.getD .skip)=true:=by kernel_rfl
def uH (N:Nat):Tab:={tr:=uG,lp:=lp0,ex:=ex0,rg:=rg0,jn:=jn0,fuel:=N}
theorem qPJ (N:Nat):qj Tryz.prog (uH N):=qn fun _=>rfl
theorem qQI (N:Nat):qr (uH N) uG lp0 ex0 rg0 jn0 N false:=qt
theorem qVi (N:Nat) (a b:Int):qd tt uF (uH N) (Tryz.f117.body.getD .skip) (qk tt true [i28] [.cell 4 28]) (qm [i3,i3] 31 (a,b,()))=uE N a b:=by
 rw [uE];unfold Tryz.f117
 simp -implicitDefEqProofs [qQI,uG,qYZ,g55,dw]
 try rfl
theorem uI {m e:Int} (hm:inI m) (he:inI e) (d:e≠0):(chk (qR m e≠0) (chk (qR m e≠0) (bif !qh ((IntKind.i64.wrap (m.tdiv (qR m e)),IntKind.i64.wrap (e.tdiv (qR m e))):Zh)then some ((((0:Int),(0:Int)),()):qb [i28])else some ((((IntKind.i64.wrap (m.tdiv (qR m e))),(IntKind.i64.wrap (e.tdiv (qR m e)))),()):qb [i28]))))=some ((gy m e,()):qb [i28]):=by
 have a:qR m e≠0:=by
  unfold qR
  have:0<Nat.gcd m.natAbs e.natAbs:=Nat.gcd_pos_of_pos_right _ (by omega)
  omega
 have b:IntKind.i64.wrap (m.tdiv (qR m e))=m.tdiv (qR m e):=di hm
 have c:IntKind.i64.wrap (e.tdiv (qR m e))=e.tdiv (qR m e):=di he
 rw [qc a,qc a,b,c]
 unfold gy
 cases qh ((m.tdiv (qR m e),e.tdiv (qR m e)):Zh)<;>rfl
theorem hA {x:Int} (h:inI x):inI (-x):=by unfold inI at*;omega
theorem qYj (n d:Int) (h:dn n d): ∃N,uE N n d=some (qT n d,()):=⟨0,by
 rw [uE]
 unfold qT
 by_cases a:d=0
 ·rw [qg a,if_pos a]
 rw [qf a,if_neg a,hp h.1,hp h.2]
 by_cases h1:d<0
 ·rw [qg h1,if_pos h1,qc (show dg (-n) (-d) from ⟨hA h.1,hA h.2⟩)]
  exact uI (hA h.1) (hA h.2) (by omega)
 ·rw [qf h1,if_neg h1,qc (show dg n d from ⟨h.1,h.2⟩)]
  exact uI h.1 h.2 a⟩
theorem B5:Sound Tryz.prog 117 gA:=qo (tt:=tt) (Γ:=uF) hT (qe s55 (qe n2 ql)) hm (fn:=Tryz.f117) Tryz.func117 (c:=Tryz.f117.body.getD .skip) (by kernel_rfl) (by kernel_rfl) fun x a=>by
 obtain ⟨N,h⟩:=qYj x.1 x.2.1 a
 exact ⟨uH N,qVm,qp _,qPJ N,(qVi N x.1 x.2.1).trans h⟩
theorem B6 (N:Nat) (p q r s:Int) (K:Int->ZO [i28]): ∀(n:Nat) (a b:Int),b.natAbs<n-> ∃c:Int,kr N p q r s K n a b=K c/\c.natAbs=Nat.gcd a.natAbs b.natAbs
 | 0,_,_,h=>by omega
 | n+1,a,b,h=>by
   rw [kr]
   by_cases d:b=0
   ·subst d;exact ⟨a,by simp,by simp⟩
   ·have e:a.natAbs % b.natAbs<b.natAbs:=Nat.mod_lt _ (by omega)
    have hm:(a.tmod b).natAbs=a.natAbs % b.natAbs:=Int.natAbs_tmod _ _
    obtain ⟨c,h1,h2⟩:=B6 N p q r s K n b (a.tmod b) (by omega)
    refine ⟨c,?_,?_⟩
    ·rw [decide_eq_false d,qc d];exact h1
    ·rw [h2,hm,Nat.gcd_comm b.natAbs,<-Nat.gcd_rec,Nat.gcd_comm]
theorem q0L (n d:Int) (h:dn n d): ∃N,uB N n d=some (qT n d,()):=⟨d.natAbs+1,by
 rw [uB]
 unfold qT
 by_cases a:d=0
 ·rw [qg a,if_pos a]
 rw [qf a,if_neg a,hp h.1,hp h.2]
 by_cases h1:d<0
 ·rw [qg h1,if_pos h1]
  obtain ⟨c,g1,g2⟩:=B6 (d.natAbs+1) (-n) (-d) 0 0 _ (d.natAbs+1) (-n) (-d) (by omega)
  refine g1.trans ?_
  obtain ⟨g3,g4⟩:=B0 (hA h.1) (hA h.2) g2
  dsimp only
  rw [qc g3,g4]
  exact uI (hA h.1) (hA h.2) (by omega)
 ·rw [qf h1,if_neg h1]
  obtain ⟨c,g1,g2⟩:=B6 (d.natAbs+1) n d 0 0 _ (d.natAbs+1) n d (by omega)
  refine g1.trans ?_
  obtain ⟨g3,g4⟩:=B0 h.1 h.2 g2
  dsimp only
  rw [qc g3,g4]
  exact uI h.1 h.2 a⟩
theorem B7:Sound Tryz.prog 108 gz:=qo (tt:=tt) (Γ:=oJ) hT (qe s43 (qe zK ql)) hm (fn:=Tryz.f108) Tryz.func108 (c:=Tryz.f108.body.getD .skip) (by kernel_rfl) (by kernel_rfl) fun x a=>by
 obtain ⟨N,h⟩:=q0L x.1 x.2.1 a
 exact ⟨oK N,q3A,qp _,qNG N,(qQG N x.1 x.2.1).trans h⟩
def qF (n d:Int):Zh:=bif qq n&&qq d then qT n d else ((0:Int),(0:Int))
def uJ:G:={ps:=[i3,i3],rs:=[i28],dp:=true,pre:=fun _=>True,fn:=fun x=>(qF x.1 x.2.1,())}
def uK (N:Nat) (a b:Int):ZO [i28]:=bif (!((qq a):Bool))then (some (((0:Int),(0:Int)),()))else (bif (!((qq b):Bool))then (some (((0:Int),(0:Int)),()))else (chk (dn a b) (some ((qT a b),()))))
def uL:Gam:=[(63,g63),(108,gz)]
theorem qWs:Gam.get uL 63=some g63/\Gam.get uL 108=some gz:=⟨rfl,rfl⟩
theorem q1a:qi tr0 (Tryz.f122.body.getD .skip)=true:=by kernel_rfl
def uM (N:Nat):Tab:={tr:=tr0,lp:=lp0,ex:=ex0,rg:=rg0,jn:=jn0,fuel:=N}
theorem qSi (N:Nat):qj Tryz.prog (uM N):=qn fun _=>rfl
theorem qNW (N:Nat):qr (uM N) tr0 lp0 ex0 rg0 jn0 N false:=qt
theorem qYc (N:Nat) (a b:Int):qd tt uL (uM N) (Tryz.f122.body.getD .skip) (qk tt true [i28] [.cell 4 28]) (qm [i3,i3] 17 (a,b,()))=uK N a b:=by
 rw [uK];unfold Tryz.f122
 simp -implicitDefEqProofs [qNW,qWs,g63,gz]
 try rfl
theorem q0p (n d:Int): ∃N,uK N n d=some (qF n d,()):=⟨0,by
 rw [uK]
 unfold qF
 cases a:qq n with
 | false=>rfl
 | true=>
   cases b:qq d with
   | false=>rfl
   | true=>
     simp only [Bool.not_true,cond_false,Bool.and_self,cond_true]
     rw [qc (show dn n d from ⟨fE a,fE b⟩)]⟩
theorem q2w:Sound Tryz.prog 122 uJ:=qo (tt:=tt) (Γ:=uL) hT (qe s63 (qe B7 ql)) hm (fn:=Tryz.f122) Tryz.func122 (c:=Tryz.f122.body.getD .skip) (by kernel_rfl) (by kernel_rfl) fun x a=>by
 obtain ⟨N,h⟩:=q0p x.1 x.2.1
 exact ⟨uM N,q1a,qp _,qSi N,(qYc N x.1 x.2.1).trans h⟩
def cC (a b:Zh):Int:=bif qh a&&qh b then sgn (a.1*b.2) (b.1*a.2)else 2
def ks:G:={ps:=[i28,i28],rs:=[i3],dp:=true,pre:=fun _=>True,fn:=fun x=>(cC x.1 x.2.1,())}
def uN (N:Nat) (a b:Zh):ZO [i3]:=bif (!((qh a):Bool))then (some ((2:Int),()))else (bif (!((qh b):Bool))then (some ((2:Int),()))else (bif (decide ((IntKind.i64.wrap ((a.1:Int)*(b.2:Int)))<(IntKind.i64.wrap ((b.1:Int)*(a.2:Int)))))then (some ((-1:Int),()))else (bif (decide ((IntKind.i64.wrap ((b.1:Int)*(a.2:Int)))<(IntKind.i64.wrap ((a.1:Int)*(b.2:Int)))))then (some ((1:Int),()))else (some ((0:Int),())))))
def B8:Gam:=[(55,g55)]
theorem qNk:Gam.get B8 55=some g55:=rfl
def uO:Nat->Tree:=fun i=>if i=3 then .quiet 0 (.quiet 1 (.quiet 2 (.quiet 3 (.quiet 4 (.quiet 5 (.quiet 6 (.quiet 7 (.quiet 8 (.quiet 9 (.quiet 10 (.quiet 11 .done)))))))))))else .done
theorem qOw:qi uO (Tryz.f115.body.getD .skip)=true:=by kernel_rfl
def uP (N:Nat):Tab:={tr:=uO,lp:=lp0,ex:=ex0,rg:=rg0,jn:=jn0,fuel:=N}
theorem qYa (N:Nat):qj Tryz.prog (uP N):=qn fun _=>rfl
theorem qQb (N:Nat):qr (uP N) uO lp0 ex0 rg0 jn0 N false:=qt
theorem qSo (N:Nat) (a b:Zh):qd tt B8 (uP N) (Tryz.f115.body.getD .skip) (qk tt true [i3] [.tmp 4]) (qm [i28,i28] 31 (a,b,()))=uN N a b:=by
 rw [uN];unfold Tryz.f115
 simp -implicitDefEqProofs [qQb,uO,qNk,g55]
 try rfl
theorem qOq (a b:Zh): ∃N,uN N a b=some (cC a b,()):=⟨0,by
 rw [uN]
 unfold cC
 cases c:qh a with
 | false=>rfl
 | true=>
   cases d:qh b with
   | false=>rfl
   | true=>
     simp only [Bool.not_true,cond_false,Bool.and_self,cond_true]
     rw [iI (cI c).1 (cI d).2,iI (cI d).1 (cI c).2]
     unfold sgn
     by_cases h1:(a.1:Int)*b.2<b.1*a.2
     ·rw [qg h1,if_pos h1]
     ·rw [qf h1,if_neg h1]
      by_cases h2:(b.1:Int)*a.2<a.1*b.2
      ·rw [qg h2,if_pos h2]
      ·rw [qf h2,if_neg h2]⟩
theorem Nv:Sound Tryz.prog 115 ks:=qo (tt:=tt) (Γ:=B8) hT (qe s55 ql) hm (fn:=Tryz.f115) Tryz.func115 (c:=Tryz.f115.body.getD .skip) (by kernel_rfl) (by kernel_rfl) fun x a=>by
 obtain ⟨N,h⟩:=qOq x.1 x.2.1
 exact ⟨uP N,qOw,qp _,qYa N,(qSo N x.1 x.2.1).trans h⟩
def bD (a b:Zh):Bool:=decide ((a.1:Int)*b.2<b.1*a.2)
def eH (a b:Zh):Prop:=gx a/\gx b
def kt:G:={ps:=[i28,i28],rs:=[i4],dp:=true,pre:=fun x=>eH x.1 x.2.1,fn:=fun x=>(bD x.1 x.2.1,())}
def uQ (N:Nat) (a b:Zh):ZO [i4]:=some ((decide ((IntKind.i64.wrap ((a.1:Int)*(b.2:Int)))<(IntKind.i64.wrap ((b.1:Int)*(a.2:Int))))),())
def Nw:Gam:=[]
theorem qWP:qi tr0 (Tryz.f106.body.getD .skip)=true:=by kernel_rfl
def uR (N:Nat):Tab:={tr:=tr0,lp:=lp0,ex:=ex0,rg:=rg0,jn:=jn0,fuel:=N}
theorem qTW (N:Nat):qj Tryz.prog (uR N):=qn fun _=>rfl
theorem qNQ (N:Nat):qr (uR N) tr0 lp0 ex0 rg0 jn0 N false:=qt
theorem q1H (N:Nat) (a b:Zh):qd tt Nw (uR N) (Tryz.f106.body.getD .skip) (qk tt true [i4] [.tmp 4]) (qm [i28,i28] 16 (a,b,()))=uQ N a b:=by
 rw [uQ];unfold Tryz.f106
 simp -implicitDefEqProofs [qNQ]
 try rfl
theorem q1E (a b:Zh) (h:eH a b): ∃N,uQ N a b=some (bD a b,()):=⟨0,by
 rw [uQ,iI h.1.1 h.2.2,iI h.2.1 h.1.2]
 rfl⟩
theorem Nx:Sound Tryz.prog 106 kt:=qo (tt:=tt) (Γ:=Nw) hT ql hm (fn:=Tryz.f106) Tryz.func106 (c:=Tryz.f106.body.getD .skip) (by kernel_rfl) (by kernel_rfl) fun x a=>by
 obtain ⟨N,h⟩:=q1E x.1 x.2.1 a
 exact ⟨uR N,qWP,qp _,qTW N,(q1H N x.1 x.2.1).trans h⟩
def hB (c:Zj):Bool:=match (c.2:Ze)with
 | [a]=> !bo a&&decide ((a.2.1:Int)=1)&& !a.2.2
 | _=>false
def oL (c:Zj):Prop:=qI c=true
def uS:G:={ps:=[i35],rs:=[i4],dp:=true,pre:=fun x=>oL x.1,fn:=fun x=>(hB x.1,())}
def uT (N:Nat) (a:Zj):ZO [i4]:=bif (decide (((a.2:Ze).length:Int)=(1:Int)))then (chk (0<=(0:Int)/\(0:Int)<((a.2:Ze).length:Int)) (chk (mj ((a.2:Ze).getD ((0:Int).toNat) (qa Y68))) (bif (!((bo ((a.2:Ze).getD ((0:Int).toNat) (qa Y68))):Bool))then (chk (0<=(0:Int)/\(0:Int)<((a.2:Ze).length:Int)) (bif (decide (((((a.2:Ze).getD ((0:Int).toNat) (qa Y68)).2).1:Int)=(1:Int)))then (chk (0<=(0:Int)/\(0:Int)<((a.2:Ze).length:Int)) (some ((!((((a.2:Ze).getD ((0:Int).toNat) (qa Y68)).2).2:Bool)),())))else (some (false,()))))else (some (false,())))))else (some (false,()))
def B9:Gam:=[(124,j6)]
theorem qQc:Gam.get B9 124=some j6:=rfl
theorem qT5:qi tr0 (Tryz.f114.body.getD .skip)=true:=by kernel_rfl
def uU (N:Nat):Tab:={tr:=tr0,lp:=lp0,ex:=ex0,rg:=rg0,jn:=jn0,fuel:=N}
theorem q0R (N:Nat):qj Tryz.prog (uU N):=qn fun _=>rfl
theorem qO5 (N:Nat):qr (uU N) tr0 lp0 ex0 rg0 jn0 N false:=qt
theorem qT8 (N:Nat) (a:Zj):qd tt B9 (uU N) (Tryz.f114.body.getD .skip) (qk tt true [i4] [.tmp 2]) (qm [i35] 31 (a,()))=uT N a:=by
 rw [uT];unfold Tryz.f114
 simp -implicitDefEqProofs [qO5,qQc,j6]
 try rfl
theorem uV (d:Int):bo ((List.replicate d.toNat (0:Int),(1:Int),false):Zf)=false:=by
 unfold bo
 rw [decide_eq_false_iff_not,ne_eq,Decidable.not_not]
 exact mg.2 fun x a=>(List.mem_replicate.1 a).2
theorem qRb {c:Zj} (h:c=eF c.1):hB c=true:=by
 rw [h]
 show (!bo ((List.replicate (c.1:Int).toNat (0:Int),(1:Int),false):Zf)&&decide ((1:Int)=1)&& !false)=true
 rw [uV];rfl
theorem qNI {c:Zj} (h: ∀a∈(c.2:Ze),bo a=true):hB c=false:=by
 unfold hB
 split
 ·rename_i a b
  have:=h a (by rw [b];simp)
  rw [this];rfl
 ·rfl
theorem qNE (c:Zj) (h:oL c): ∃N,uT N c=some (hB c,()):=⟨0,by
 obtain ⟨hd,j,i⟩:=bB h
 rw [uT]
 unfold hB
 obtain ⟨d,l⟩:=c
 match l with
 | []=>rfl
 | [a]=>
   have g:okA a:=(i a (by simp)).1
   have e:List.getD (α:=Zf) ((d,[a]):Zj).2 (Int.toNat 0) (qa Y68)=a:=rfl
   have f:List.length (α:=Zf) ((d,[a]):Zj).2=1:=rfl
   rw [e,f,qg (by omega),qc (by omega),qc (show mj a from g)]
   show _=some (!bo a&&decide ((a.2.1:Int)=1)&& !a.2.2,())
   cases bo a with
   | true=>rfl
   | false=>
     simp only [Bool.not_false,cond_true,Bool.true_and]
     rw [qc (by omega),qc (by omega)]
     cases decide ((a.2.1:Int)=1)<;>rfl
 | a::b::r=>
   rw [qf (by simp;omega)]⟩
theorem q1j:Sound Tryz.prog 114 uS:=qo (tt:=tt) (Γ:=B9) hT (qe L2 ql) hm (fn:=Tryz.f114) Tryz.func114 (c:=Tryz.f114.body.getD .skip) (by kernel_rfl) (by kernel_rfl) fun x a=>by
 obtain ⟨N,h⟩:=qNE x.1 a
 exact ⟨uU N,qT5,qp _,q0R N,(qT8 N x.1).trans h⟩
end
end Go.T
