/- Normal cells: the reference's. -/
import Derived.Test.YthefcjjgchekiaaB4
set_option linter.unusedSimpArgs false
set_option linter.unusedVariables false
namespace Go.T
open Go Go.Proofs
set_option maxHeartbeats 4000000
set_option maxRecDepth 100000
def qcx (a:Val Y36):Bool:= !qZ a
def qig (a:Val Y36):Prop:=okA a
def qdk (a:Val Y36):Bool:=decide ((a.2.1:Int)<0)||(decide ((a.2.1:Int)=0)&& !a.2.2)
def gLv (a:Val Y36):Int:=(gL 0 (atm a).1:Nat)
def qds (a:Val Y36):Prop:=okA a
def qg0 (a b:Val Y36):Bool:=decide (qaA (atm b) (atm a)≤0)
def qmN (a b:Val Y36):Prop:=okA a∧okA b∧way (atm b) (atm a)=0
def qeN (l:List (Val Y36)) (a:Val Y36):List (Val Y36):=qau l a
def qfP (l:List (Val Y36)) (a:Val Y36):Prop:=l.length≤1048575∧okA a∧ ∀b∈l,okA b∧List.length (α:=Int) b.1=List.length (α:=Int) a.1
theorem qJP (c:Int) (h s:Bool):(!h&&(decide (0<c)||(decide (c=0)&&s)))=(!h&& !(decide (c<0)||(decide (c=0)&& !s))):=by
 by_cases h1:c<0
 ·have h2: ¬(0:Int)<c:=by omega
  have h3: ¬c=0:=by omega
  simp [h1,h2,h3]
 ·by_cases h2:c=0
  ·simp [h2]
  ·have h3:(0:Int)<c:=by omega
   simp [h1,h2,h3]
theorem qGV (p q:Int) (s t:Bool):decide ((if sgI (p - q)=0 then (if t=s then 0 else if t then 1 else -1)else sgI (p - q))≤(0:Int))=(decide (p<q)||(decide (q=p)&&(s|| !t))):=by
 unfold sgI
 by_cases c1:p<q
 ·have c2:p - q<0:=by omega
  simp [c1,c2]
 ·by_cases c2:q=p
  ·subst c2
   cases s<;>cases t<;>simp
  ·have c3: ¬p - q<0:=by omega
   have c4:0<p - q:=by omega
   rw [if_neg c3,if_pos c4,if_neg (by omega)]
   simp [c1,c2]
theorem qAM (a:Val Y36):qaK a=(qcx a&& !qdk a):=qJP a.2.1 (qZ a) a.2.2
def g60:G:={ps:=[i36],rs:=[i4],dp:=true,pre:=fun x=>qig x.1,fn:=fun x=>(qcx x.1,())}
noncomputable def qep (N:Nat) (v2:List (Val (.int .i64))) (v3:Int) (v4:Bool) (k0:Unit→Option (qb [i4])):Nat→Int→Option (qb [i4])
 | 0,_=>none
 | n+1,v1=>bif (decide (v1<(v2.length:Int)))then (chk (0≤v1∧v1<(v2.length:Int)) (bif (!(decide (((v2.getD v1.toNat (qa (.int .i64))):Int)=(0:Int))))then (some (false,()))else (qep N v2 v3 v4 k0 n (IntKind.i64.wrap (v1+(1:Int))))))else (k0 ())
noncomputable def m60 (N:Nat) (v0:Val Y36):Option (qb [i4]):=qep N (v0.1:List (Val (.int .i64))) (v0.2.1:Int) (v0.2.2:Bool) (fun (_:Unit)=>some (true,())) N (0:Int)
def Γ60:Gam:=[]
def qi9:Nm:=⟨[false,true,false,true],[],false⟩
theorem qA9:qi9.zero=false:=rfl
theorem qxL:qi9.fix=[]:=rfl
theorem qvx:qi9.keep=[false,true,false,true]:=rfl
def qoD:Nm:=⟨[],[],false⟩
theorem qur:qoD.zero=false:=rfl
theorem qy6:qoD.fix=[]:=rfl
theorem qqH:qoD.keep=[]:=rfl
def qhn:Nat→Tree:=fun _=> .done
def qlX:Nat→Nm:=fun i=>if i=2 then qi9 else ⟨[],[],false⟩
def qlu:Nat→Option Jn:=fun _=>none
def qjT:Nat→Option Nm:=fun i=>if i=0 then some qoD else none
def qit:Nat→Option Nm:=fun _=>none
theorem p60:ql qhn (Try.f60.body.getD .skip)=true:=by kernel_rfl
def T60 (N:Nat):Tab:={tr:=qhn,lp:=qlX,ex:=qjT,rg:=qit,jn:=qlu,fuel:=N}
theorem quL (N:Nat):(T60 N).pins=false:=rfl
theorem qRv (N:Nat):qm Try.prog (T60 N):=qu fun _=>rfl
theorem qxX (N:Nat) (i:Nat):(T60 N).tr i=qhn i:=rfl
theorem qwg (N:Nat) (i:Nat):(T60 N).lp i=qlX i:=rfl
theorem qyx (N:Nat) (i:Nat):(T60 N).ex i=qjT i:=rfl
theorem qB2 (N:Nat) (i:Nat):(T60 N).rg i=qit i:=rfl
theorem qzx (N:Nat) (i:Nat):(T60 N).jn i=qlu i:=rfl
theorem quH (N:Nat):(T60 N).fuel=N:=rfl
noncomputable def qFd:Code:=cut [true,false,true,true,true] (Try.f60.body.getD .skip)
theorem qO6 {N:Nat} {Q:X→St→Option (qb [i4])} {e:List LV} {h:List Blk}:qd tt Γ60 (T60 N) qFd Q ⟨e,h⟩=qd tt Γ60 (T60 N) (cut [true,false,true,true,true] (Try.f60.body.getD .skip)) Q ⟨e,h⟩:=rfl
theorem qGQ (N:Nat) (v2:List (Val (.int .i64))) (v3:Int) (v4:Bool) {k0:Unit→Option (qb [i4])} {Q:X→St→Option (qb [i4])} {c:Code} (hc:c=qFd) (hret: ∀st,Q .ret st=qI tt true [i4] [.tmp 2] st) (h0:Q (.exit 0) ⟨[u,u,u,u,u,u,u,u,u,u,u,u,u,u,u,u,u],[]⟩=k0 ()): ∀(n:Nat) (v1:Int),qD (qd tt Γ60 (T60 N) c) false qi9 Q n ⟨[u,.one (.ptr 0 0 0),u,.one (.int .i64 v1),u,u,u,u,u,u,u,u,u,u,u,u,u],[.box [.sl 3 (.int .i64) v2 1,.int .i64 v3,.bool v4]]⟩=qep N v2 v3 v4 k0 n v1:=by
 subst hc;intro n;induction n with
 | zero=>intros;rfl
 | succ n ih=>
   intro v1
   rw [qR,qO6,qep];unfold Try.f60
   simp (maxSteps:=10000000) -implicitDefEqProofs [qxX,qhn,qwg,qlX,qyx,qjT,qB2,qit,qzx,qlu,quH,quL,qxL,qvx,qA9,qy6,qqH,qur,hret,h0,ih]
theorem qLV (N:Nat) (v0:Val Y36):qd tt Γ60 (T60 N) (Try.f60.body.getD .skip) (qp tt true [i4] [.tmp 2]) (qt [i36] 17 (v0,()))=m60 N v0:=by
 unfold Try.f60
 simp (maxSteps:=10000000) -implicitDefEqProofs [qxX,qhn,qwg,qlX,qyx,qjT,qB2,qit,qzx,qlu,quH,quL,qxL,qvx,qA9,qy6,qqH,qur]
 rewrite [qGQ (k0:=(fun (_:Unit)=>some (true,()))) N _ _ _ ?_ ?_ ?_]
 ·rewrite [m60];first | rfl | simp (maxSteps:=10000000) -implicitDefEqProofs []
 ·rfl
 ·intro;simp only [qK,qM,qO,qv]
 ·simp (maxSteps:=10000000) -implicitDefEqProofs [qxX,qhn,qwg,qlX,qyx,qjT,qB2,qit,qzx,qlu,quH,quL,qxL,qvx,qA9,qy6,qqH,qur]
noncomputable def m61 (N:Nat) (v0:Val Y36):Option (qb [i4]):=bif (decide ((v0.2.1:Int)<(0:Int)))then (some (true,()))else (bif (decide ((v0.2.1:Int)=(0:Int)))then (some ((!(v0.2.2:Bool)),()))else (some (false,())))
def Γ61:Gam:=[]
def qpD:Nat→Tree:=fun _=> .done
def qyM:Nat→Nm:=fun _=>⟨[],[],false⟩
def qy2:Nat→Option Jn:=fun _=>none
def qA4:Nat→Option Nm:=fun _=>none
def quM:Nat→Option Nm:=fun _=>none
theorem p61:ql qpD (Try.f61.body.getD .skip)=true:=by kernel_rfl
def T61 (N:Nat):Tab:={tr:=qpD,lp:=qyM,ex:=qA4,rg:=quM,jn:=qy2,fuel:=N}
theorem qL9 (N:Nat):(T61 N).pins=false:=rfl
theorem qNL (N:Nat):qm Try.prog (T61 N):=qu fun _=>rfl
theorem qJ9 (N:Nat) (i:Nat):(T61 N).tr i=qpD i:=rfl
theorem qKj (N:Nat) (i:Nat):(T61 N).lp i=qyM i:=rfl
theorem qO1 (N:Nat) (i:Nat):(T61 N).ex i=qA4 i:=rfl
theorem qQd (N:Nat) (i:Nat):(T61 N).rg i=quM i:=rfl
theorem qJi (N:Nat) (i:Nat):(T61 N).jn i=qy2 i:=rfl
theorem qQR (N:Nat):(T61 N).fuel=N:=rfl
theorem qHR (N:Nat) (v0:Val Y36):qd tt Γ61 (T61 N) (Try.f61.body.getD .skip) (qp tt true [i4] [.tmp 2]) (qt [i36] 16 (v0,()))=m61 N v0:=by
 rw [m61];unfold Try.f61
 simp (maxSteps:=10000000) -implicitDefEqProofs [qJ9,qpD,qKj,qyM,qO1,qA4,qQd,quM,qJi,qy2,qQR,qL9]
 try rfl
theorem t60 (N:Nat) (xs:List (Val (.int .i64))) (c:Int) (b:Bool) (K:Unit→Option (qb [i4])) (hl:xs.length≤1048576) (n:Nat) (hn:xs.length<n):qep N xs c b K n 0=bif List.all (α:=Int) xs (fun x=>decide (x=0))then K ()else some (false,()):=
 (qb6 (F:=fun n i (_:Unit)=>qep N xs c b K n i) (step:=fun _ x _ K=>bif decide (x=0)then K ()else some (false,())) (k:=K) hl (fun n i s hi=>by rw [qep,qh (by omega),qc (by omega),qL hi,qar]) (fun n i s hi=>by rw [qep,qi (by omega)]) n () hn).trans (qga xs 0)
theorem e60 (a:Val Y36) (h:qig a): ∃N,m60 N a=some (qcx a,()):=⟨List.length (α:=Val (.int .i64)) a.1+1,by
 have h4:=(qcc h).1
 rw [m60,t60 _ _ _ _ _ (by omega) _ (Nat.lt_succ_self _)]
 have e:qcx a=List.all (α:=Int) a.1 (fun x=>decide (x=0)):=by
  unfold qcx qZ
  rw [Bool.eq_iff_iff]
  simp only [Bool.not_eq_true',decide_eq_false_iff_not,List.all_eq_true,decide_eq_true_eq,Decidable.not_not,ne_eq]
  exact qqE
 rw [e]
 cases List.all (α:=Int) a.1 (fun x=>decide (x=0))<;>rfl⟩
theorem s60:Sound Try.prog 60 g60:=qw (tt:=tt) (Γ:=Γ60) hT qq hm (fn:=Try.f60) Try.func60 (c:=Try.f60.body.getD .skip) (by kernel_rfl) (by kernel_rfl) fun x hx=>by
 obtain ⟨N,h⟩:=e60 x.1 hx
 exact ⟨T60 N,p60,qx _,qRv N,(qLV N x.1).trans h⟩
def g61:G:={ps:=[i36],rs:=[i4],dp:=true,pre:=fun _=>True,fn:=fun x=>(qdk x.1,())}
theorem e61 (a:Val Y36): ∃N,m61 N a=some (qdk a,()):=⟨0,by
 rw [m61,qdk]
 by_cases h1:(a.2.1:Int)<0<;>by_cases h2:(a.2.1:Int)=0<;>simp [h1,h2]⟩
theorem s61:Sound Try.prog 61 g61:=qw (tt:=tt) (Γ:=Γ61) hT qq hm (fn:=Try.f61) Try.func61 (c:=Try.f61.body.getD .skip) (by kernel_rfl) (by kernel_rfl) fun x hx=>by
 obtain ⟨N,h⟩:=e61 x.1
 exact ⟨T61 N,p61,qx _,qNL N,(qHR N x.1).trans h⟩
def g93:G:={ps:=[i36],rs:=[i3],dp:=true,pre:=fun x=>qds x.1,fn:=fun x=>(gLv x.1,())}
noncomputable def m93 (N:Nat) (v0:Val Y36):Option (qb [i3]):=chk (qdH (v0.1:List (Val (.int .i64))) (0:Int)) (some (((qcj (v0.1:List (Val (.int .i64))) (0:Int)):Int),()))
def Γ93:Gam:=[(59,g59)]
theorem qMk:Gam.get Γ93 59=some g59:=rfl
def qqA:Nat→Tree:=fun _=> .done
def qBO:Nat→Nm:=fun _=>⟨[],[],false⟩
def qvZ:Nat→Option Jn:=fun _=>none
def qqL:Nat→Option Nm:=fun _=>none
def qz0:Nat→Option Nm:=fun _=>none
theorem p93:ql qqA (Try.f93.body.getD .skip)=true:=by kernel_rfl
def T93 (N:Nat):Tab:={tr:=qqA,lp:=qBO,ex:=qqL,rg:=qz0,jn:=qvZ,fuel:=N}
theorem qJe (N:Nat):(T93 N).pins=false:=rfl
theorem qQw (N:Nat):qm Try.prog (T93 N):=qu fun _=>rfl
theorem qNt (N:Nat) (i:Nat):(T93 N).tr i=qqA i:=rfl
theorem qMt (N:Nat) (i:Nat):(T93 N).lp i=qBO i:=rfl
theorem qMj (N:Nat) (i:Nat):(T93 N).ex i=qqL i:=rfl
theorem qGW (N:Nat) (i:Nat):(T93 N).rg i=qz0 i:=rfl
theorem qRj (N:Nat) (i:Nat):(T93 N).jn i=qvZ i:=rfl
theorem qNC (N:Nat):(T93 N).fuel=N:=rfl
theorem qP7 (N:Nat) (v0:Val Y36):qd tt Γ93 (T93 N) (Try.f93.body.getD .skip) (qp tt true [i3] [.tmp 2]) (qt [i36] 6 (v0,()))=m93 N v0:=by
 rw [m93];unfold Try.f93
 simp (maxSteps:=10000000) -implicitDefEqProofs [qNt,qqA,qMt,qBO,qMj,qqL,qGW,qz0,qRj,qvZ,qNC,qJe,qMk,g59]
 try rfl
theorem e93 (a:Val Y36) (h:qds a): ∃N,m93 N a=some (gLv a,()):=⟨0,by
 rw [m93,qc (show qdH a.1 0 from ⟨(qpY h).1,by unfold inI;omega,(qpY h).2⟩)];rfl⟩
theorem s93:Sound Try.prog 93 g93:=qw (tt:=tt) (Γ:=Γ93) hT (qf s59 qq) hm (fn:=Try.f93) Try.func93 (c:=Try.f93.body.getD .skip) (by kernel_rfl) (by kernel_rfl) fun x hx=>by
 obtain ⟨N,h⟩:=e93 x.1 hx
 exact ⟨T93 N,p93,qx _,qQw N,(qP7 N x.1).trans h⟩
theorem qpd (a:Val Y36):max (1:Int) (gLv a)=gSv a:=by unfold gLv gSv gS;omega
noncomputable def qfm (N:Nat) (v2:Int) (v3:Int) (v5:List (Val (.int .i64))) (v6:Int) (v7:Bool) (v8:List (Val (.int .i64))) (v9:Int) (v10:Bool) (k0:Unit→Option (qb [i3])):Nat→Int→Option (qb [i3])
 | 0,_=>none
 | n+1,v4=>bif (decide (v4<(v5.length:Int)))then (bif (decide (v4<(v8.length:Int)))then (chk (0≤v4∧v4<(v5.length:Int)) (chk (v2≠0) (chk (0≤v4∧v4<(v8.length:Int)) (chk (v3≠0) (bif (!(decide ((IntKind.i64.wrap (((v5.getD v4.toNat (qa (.int .i64))):Int).tdiv v2))=(IntKind.i64.wrap (((v8.getD v4.toNat (qa (.int .i64))):Int).tdiv v3)))))then (bif (decide ((IntKind.i64.wrap (((v5.getD v4.toNat (qa (.int .i64))):Int).tdiv v2))<(IntKind.i64.wrap (((v8.getD v4.toNat (qa (.int .i64))):Int).tdiv v3))))then (some ((-1:Int),()))else (some ((1:Int),())))else (qfm N v2 v3 v5 v6 v7 v8 v9 v10 k0 n (IntKind.i64.wrap (v4+(1:Int)))))))))else (k0 ()))else (k0 ())
noncomputable def m81 (N:Nat) (v0:Val Y36) (v1:Val Y36):Option (qb [i3]):=chk (qds v0) (chk (qds v1) (qfm N (max (1:Int) ((gLv v0):Int)) (max (1:Int) ((gLv v1):Int)) (v0.1:List (Val (.int .i64))) (v0.2.1:Int) (v0.2.2:Bool) (v1.1:List (Val (.int .i64))) (v1.2.1:Int) (v1.2.2:Bool) (fun (_:Unit)=>some ((0:Int),())) N (0:Int)))
def Γ81:Gam:=[(93,g93)]
theorem qt8:Gam.get Γ81 93=some g93:=rfl
def qjO:Nm:=⟨[false,false,true,true,false,true,true,true],[],false⟩
theorem qry:qjO.zero=false:=rfl
theorem qBf:qjO.fix=[]:=rfl
theorem qsh:qjO.keep=[false,false,true,true,false,true,true,true]:=rfl
def qoz:Nm:=⟨[],[],false⟩
theorem qvl:qoz.zero=false:=rfl
theorem qrm:qoz.fix=[]:=rfl
theorem qsz:qoz.keep=[]:=rfl
def qid:Nat→Tree:=fun _=> .done
def qkO:Nat→Nm:=fun i=>if i=4 then qjO else ⟨[],[],false⟩
def qku:Nat→Option Jn:=fun _=>none
def qmu:Nat→Option Nm:=fun i=>if i=0 then some qoz else none
def qln:Nat→Option Nm:=fun _=>none
theorem p81:ql qid (Try.f81.body.getD .skip)=true:=by kernel_rfl
def T81 (N:Nat):Tab:={tr:=qid,lp:=qkO,ex:=qmu,rg:=qln,jn:=qku,fuel:=N}
theorem qBk (N:Nat):(T81 N).pins=false:=rfl
theorem qIj (N:Nat):qm Try.prog (T81 N):=qu fun _=>rfl
theorem quX (N:Nat) (i:Nat):(T81 N).tr i=qid i:=rfl
theorem qxr (N:Nat) (i:Nat):(T81 N).lp i=qkO i:=rfl
theorem qA5 (N:Nat) (i:Nat):(T81 N).ex i=qmu i:=rfl
theorem qyl (N:Nat) (i:Nat):(T81 N).rg i=qln i:=rfl
theorem qyI (N:Nat) (i:Nat):(T81 N).jn i=qku i:=rfl
theorem qxT (N:Nat):(T81 N).fuel=N:=rfl
noncomputable def qEA:Code:=cut [true,true,true,false,true,true,true] (Try.f81.body.getD .skip)
theorem qQx {N:Nat} {Q:X→St→Option (qb [i3])} {e:List LV} {h:List Blk}:qd tt Γ81 (T81 N) qEA Q ⟨e,h⟩=qd tt Γ81 (T81 N) (cut [true,true,true,false,true,true,true] (Try.f81.body.getD .skip)) Q ⟨e,h⟩:=rfl
theorem qJ0 (N:Nat) (v2:Int) (v3:Int) (v5:List (Val (.int .i64))) (v6:Int) (v7:Bool) (v8:List (Val (.int .i64))) (v9:Int) (v10:Bool) {k0:Unit→Option (qb [i3])} {Q:X→St→Option (qb [i3])} {c:Code} (hc:c=qEA) (hret: ∀st,Q .ret st=qI tt true [i3] [.tmp 4] st) (h0:Q (.exit 0) ⟨[u,u,u,u,u,u,u,u,u,u,u,u,u,u,u,u,u,u,u,u,u,u,u,u,u,u,u,u,u,u,u,u,u,u,u,u,u,u,u,u,u,u,u,u,u,u,u,u,u,u],[]⟩=k0 ()): ∀(n:Nat) (v4:Int),qD (qd tt Γ81 (T81 N) c) false qjO Q n ⟨[u,u,.one (.ptr 0 0 0),.one (.ptr 1 0 0),u,.one (.int .i64 v2),.one (.int .i64 v3),.one (.int .i64 v4),u,u,u,u,u,u,u,u,u,u,u,u,u,u,u,u,u,u,u,u,u,u,u,u,u,u,u,u,u,u,u,u,u,u,u,u,u,u,u,u,u,u],[.box [.sl 3 (.int .i64) v5 2,.int .i64 v6,.bool v7],.box [.sl 3 (.int .i64) v8 2,.int .i64 v9,.bool v10]]⟩=qfm N v2 v3 v5 v6 v7 v8 v9 v10 k0 n v4:=by
 subst hc;intro n;induction n with
 | zero=>intros;rfl
 | succ n ih=>
   intro v4
   rw [qR,qQx,qfm];unfold Try.f81
   simp (maxSteps:=10000000) -implicitDefEqProofs [quX,qid,qxr,qkO,qA5,qmu,qyl,qln,qyI,qku,qxT,qBk,qBf,qsh,qry,qrm,qsz,qvl,qt8,g93,hret,h0,ih]
theorem qJF (N:Nat) (v0:Val Y36) (v1:Val Y36):qd tt Γ81 (T81 N) (Try.f81.body.getD .skip) (qp tt true [i3] [.tmp 4]) (qt [i36,i36] 50 (v0,v1,()))=m81 N v0 v1:=by
 unfold Try.f81
 simp (maxSteps:=10000000) -implicitDefEqProofs [quX,qid,qxr,qkO,qA5,qmu,qyl,qln,qyI,qku,qxT,qBk,qBf,qsh,qry,qrm,qsz,qvl,qt8,g93]
 rewrite [qJ0 (k0:=(fun (_:Unit)=>some ((0:Int),()))) N _ _ _ _ _ _ _ _ ?_ ?_ ?_]
 ·rewrite [m81];first | rfl | simp (maxSteps:=10000000) -implicitDefEqProofs []
 ·rfl
 ·intro;simp only [qK,qM,qO,qv]
 ·simp (maxSteps:=10000000) -implicitDefEqProofs [quX,qid,qxr,qkO,qA5,qmu,qyl,qln,qyI,qku,qxT,qBk,qBf,qsh,qry,qrm,qsz,qvl,qt8,g93]
noncomputable def m82 (N:Nat) (v0:Val Y36) (v1:Val Y36):Option (qb [i4]):=chk (qds v1) (chk (qds v0) (bif (decide ((IntKind.i64.wrap ((v1.2.1:Int)*(max (1:Int) ((gLv v0):Int))))<(IntKind.i64.wrap ((v0.2.1:Int)*(max (1:Int) ((gLv v1):Int))))))then (some (true,()))else (bif (decide ((IntKind.i64.wrap ((v0.2.1:Int)*(max (1:Int) ((gLv v1):Int))))=(IntKind.i64.wrap ((v1.2.1:Int)*(max (1:Int) ((gLv v0):Int))))))then (bif (v0.2.2:Bool)then (some (true,()))else (some ((!(v1.2.2:Bool)),())))else (some (false,())))))
def Γ82:Gam:=[(93,g93)]
theorem qNN:Gam.get Γ82 93=some g93:=rfl
def qpi:Nm:=⟨[false,false,true,true,false,true],[],false⟩
theorem qQ1:qpi.zero=false:=rfl
theorem qRC:qpi.fix=[]:=rfl
theorem qQ6:qpi.keep=[false,false,true,true,false,true]:=rfl
def qoA:Nm:=⟨[false,false,true,true,false,true,true],[],false⟩
theorem qOE:qoA.zero=false:=rfl
theorem qJp:qoA.fix=[]:=rfl
theorem qJL:qoA.keep=[false,false,true,true,false,true,true]:=rfl
def qnD:Nat→Tree:=fun i=>if i=1 then .quiet 2 (.alt 0 (.alt 1 (.alt 3 (.alt 4 (.quiet 5 (.quiet 6 .done)) .stop) .stop) (.alt 3 (.alt 1 (.alt 4 (.quiet 5 (.quiet 6 .done)) .stop) (.alt 4 (.quiet 1 (.quiet 5 (.quiet 6 .done))) .stop)) .stop)) (.alt 3 (.alt 0 (.alt 1 (.alt 4 (.quiet 5 (.quiet 6 .done)) .stop) (.alt 4 (.quiet 1 (.quiet 5 (.quiet 6 .done))) .stop)) (.alt 4 (.quiet 0 (.quiet 1 (.quiet 5 (.quiet 6 .done)))) .stop)) .stop))else if i=2 then .quiet 2 (.alt 0 (.alt 1 (.alt 3 (.alt 4 (.quiet 5 (.quiet 6 .done)) .stop) .stop) (.alt 3 (.alt 1 (.alt 4 (.quiet 5 (.quiet 6 .done)) .stop) (.alt 4 (.quiet 1 (.quiet 5 (.quiet 6 .done))) .stop)) .stop)) (.alt 3 (.alt 0 (.alt 1 (.alt 4 (.quiet 5 (.quiet 6 .done)) .stop) (.alt 4 (.quiet 1 (.quiet 5 (.quiet 6 .done))) .stop)) (.alt 4 (.quiet 0 (.quiet 1 (.quiet 5 (.quiet 6 .done)))) .stop)) .stop))else .done
def qs7:Nat→Nm:=fun _=>⟨[],[],false⟩
def quG:Nat→Option Jn:=fun _=>none
def qqX:Nat→Option Nm:=fun _=>none
def qBW:Nat→Option Nm:=fun i=>if i=1 then some qpi else if i=2 then some qoA else none
theorem p82:ql qnD (Try.f82.body.getD .skip)=true:=by kernel_rfl
def T82 (N:Nat):Tab:={tr:=qnD,lp:=qs7,ex:=qqX,rg:=qBW,jn:=quG,fuel:=N}
theorem qPS (N:Nat):(T82 N).pins=false:=rfl
theorem qLI (N:Nat):qm Try.prog (T82 N):=qu fun _=>rfl
theorem qIK (N:Nat) (i:Nat):(T82 N).tr i=qnD i:=rfl
theorem qSy (N:Nat) (i:Nat):(T82 N).lp i=qs7 i:=rfl
theorem qPT (N:Nat) (i:Nat):(T82 N).ex i=qqX i:=rfl
theorem qI2 (N:Nat) (i:Nat):(T82 N).rg i=qBW i:=rfl
theorem qK2 (N:Nat) (i:Nat):(T82 N).jn i=quG i:=rfl
theorem qPp (N:Nat):(T82 N).fuel=N:=rfl
theorem qGp (N:Nat) (v0:Val Y36) (v1:Val Y36):qd tt Γ82 (T82 N) (Try.f82.body.getD .skip) (qp tt true [i4] [.tmp 4]) (qt [i36,i36] 36 (v0,v1,()))=m82 N v0 v1:=by
 rw [m82];unfold Try.f82
 simp (maxSteps:=10000000) -implicitDefEqProofs [qIK,qnD,qSy,qs7,qPT,qqX,qI2,qBW,qK2,quG,qPp,qPS,qRC,qQ6,qQ1,qJp,qJL,qOE,qNN,g93]
 try rfl
noncomputable def m28 (N:Nat) (v0:Val Y36):Option (qb [i36]):=chk (([]:List (Val (.int .i64))).length+(v0.1:List (Val (.int .i64))).length≤1048576) (some (((([]:List (Val (.int .i64)))++(v0.1:List (Val (.int .i64)))),(v0.2.1:Int),(v0.2.2:Bool)),()))
def Γ28:Gam:=[]
def qqk:Nat→Tree:=fun i=>if i=1 then .keep 1 (.keep 2 (.keep 4 (.keep 5 (.keep 6 (.keep 7 (.alt 0 (.alt 3 (.quiet 8 (.alt 9 .done .stop)) .stop) .stop))))))else .done
def qw9:Nat→Nm:=fun _=>⟨[],[],false⟩
def qya:Nat→Option Jn:=fun _=>none
def qAl:Nat→Option Nm:=fun _=>none
def qAX:Nat→Option Nm:=fun _=>none
theorem p28:ql qqk (Try.f28.body.getD .skip)=true:=by kernel_rfl
def T28 (N:Nat):Tab:={tr:=qqk,lp:=qw9,ex:=qAl,rg:=qAX,jn:=qya,fuel:=N}
theorem qIc (N:Nat):(T28 N).pins=false:=rfl
theorem qL7 (N:Nat):qm Try.prog (T28 N):=qu fun _=>rfl
theorem qOe (N:Nat) (i:Nat):(T28 N).tr i=qqk i:=rfl
theorem qNS (N:Nat) (i:Nat):(T28 N).lp i=qw9 i:=rfl
theorem qPr (N:Nat) (i:Nat):(T28 N).ex i=qAl i:=rfl
theorem qHe (N:Nat) (i:Nat):(T28 N).rg i=qAX i:=rfl
theorem qKS (N:Nat) (i:Nat):(T28 N).jn i=qya i:=rfl
theorem qPw (N:Nat):(T28 N).fuel=N:=rfl
theorem qLx (N:Nat) (v0:Val Y36):qd tt Γ28 (T28 N) (Try.f28.body.getD .skip) (qp tt true [i36] [.cell 2 36]) (qt [i36] 12 (v0,()))=m28 N v0:=by
 rw [m28];unfold Try.f28
 simp (maxSteps:=10000000) -implicitDefEqProofs [qOe,qqk,qNS,qw9,qPr,qAl,qHe,qAX,qKS,qya,qPw,qIc]
 try rfl
noncomputable def m62 (N:Nat) (v0:Int):Option (qb [i32]):=chk (0≤v0∧v0≤v0∧v0≤1048576) (some ((v0,([((List.replicate v0.toNat (qa (.int .i64))),(1:Int),false)]:List (Val Y36))),()))
def Γ62:Gam:=[]
def qpH:Nat→Tree:=fun _=> .done
def qAJ:Nat→Nm:=fun _=>⟨[],[],false⟩
def qq9:Nat→Option Jn:=fun _=>none
def qvE:Nat→Option Nm:=fun _=>none
def qAH:Nat→Option Nm:=fun _=>none
theorem p62:ql qpH (Try.f62.body.getD .skip)=true:=by kernel_rfl
def T62 (N:Nat):Tab:={tr:=qpH,lp:=qAJ,ex:=qvE,rg:=qAH,jn:=qq9,fuel:=N}
theorem qQA (N:Nat):(T62 N).pins=false:=rfl
theorem qLf (N:Nat):qm Try.prog (T62 N):=qu fun _=>rfl
theorem qHj (N:Nat) (i:Nat):(T62 N).tr i=qpH i:=rfl
theorem qMR (N:Nat) (i:Nat):(T62 N).lp i=qAJ i:=rfl
theorem qOU (N:Nat) (i:Nat):(T62 N).ex i=qvE i:=rfl
theorem qQt (N:Nat) (i:Nat):(T62 N).rg i=qAH i:=rfl
theorem qPH (N:Nat) (i:Nat):(T62 N).jn i=qq9 i:=rfl
theorem qK0 (N:Nat):(T62 N).fuel=N:=rfl
theorem qSx (N:Nat) (v0:Int):qd tt Γ62 (T62 N) (Try.f62.body.getD .skip) (qp tt true [i32] [.cell 2 32]) (qt [i3] 9 (v0,()))=m62 N v0:=by
 rw [m62];unfold Try.f62
 simp (maxSteps:=10000000) -implicitDefEqProofs [qHj,qpH,qMR,qAJ,qOU,qvE,qQt,qAH,qPH,qq9,qK0,qQA]
 try rfl
def g81:G:={ps:=[i36,i36],rs:=[i3],dp:=true,pre:=fun x=>qcQ x.1 x.2.1,fn:=fun x=>(qaQ x.1 x.2.1,())}
theorem t81 (N:Nat) (g h:Nat) (hg:(g:Int)≠0) (hh:(h:Int)≠0) (xs ys:List (Val (.int .i64))) (hl:xs.length=ys.length) (h4:xs.length≤1048576) (hx: ∀x∈xs,inI x) (hy: ∀x∈ys,inI x) (c c':Int) (s s':Bool): ∀(k i:Nat),xs.length - i=k→ ∀n,k<n→
 qfm N g h xs c s ys c' s' (fun _=>some ((0:Int),())) n i=some (qaJ ((List.drop (α:=Int) i xs).map fun x=>x.tdiv (g:Int)) ((List.drop (α:=Int) i ys).map fun x=>x.tdiv (h:Int)),())
 | 0,i,hi,n+1,_=>by
   rw [qfm,qi (by omega),List.drop_eq_nil_of_le (by omega),List.drop_eq_nil_of_le (by omega)]
   rfl
 | k+1,i,hi,n+1,hn=>by
   have h1:i<xs.length:=by omega
   have h2:i<ys.length:=by omega
   rw [qfm,qh (by omega),qh (by omega),qc (by omega),qc hg,qc (by omega),qc hh,qL h1,qL h2,qc0 (hx _ (List.getElem_mem h1)),qc0 (hy _ (List.getElem_mem h2)),qeD h1 h4]
   rw [List.drop_eq_getElem_cons h1,List.drop_eq_getElem_cons h2,List.map_cons,List.map_cons,qaJ]
   generalize hp:Int.tdiv xs[i] (g:Int)=p
   generalize hq:Int.tdiv ys[i] (h:Int)=q
   by_cases a1:p<q
   ·have: ¬p=q:=by omega
    simp [a1,this]
   ·by_cases a2:q<p
    ·have: ¬p=q:=by omega
     simp [a1,a2,this]
    ·have:p=q:=by omega
     rw [if_neg a1,if_neg a2,qar,qh this]
     exact t81 N g h hg hh xs ys hl h4 hx hy c c' s s' k (i+1) (by omega) n (by omega)
theorem e81 (a b:Val Y36) (h:qcQ a b): ∃N,m81 N a b=some (qaQ a b,()):=⟨List.length (α:=Val (.int .i64)) a.1+1,by
 obtain ⟨ha,hb,hl⟩:=h
 rw [m81,qc (show qds a from ha),qc (show qds b from hb),qpd,qpd]
 have:=t81 (List.length (α:=Val (.int .i64)) a.1+1) (gS (atm a)) (gS (atm b)) (by have:=qcR (atm a);omega) (by have:=qcR (atm b);omega) a.1 b.1 hl (by have:=(qcc ha).1;omega) (qk4 ha) (qk4 hb) a.2.1 b.2.1 a.2.2 b.2.2 _ 0 rfl _ (Nat.lt_succ_self _)
 simp only [List.drop_zero]at this
 exact this⟩
theorem s81:Sound Try.prog 81 g81:=qw (tt:=tt) (Γ:=Γ81) hT (qf s93 qq) hm (fn:=Try.f81) Try.func81 (c:=Try.f81.body.getD .skip) (by kernel_rfl) (by kernel_rfl) fun x hx=>by
 obtain ⟨N,h⟩:=e81 x.1 x.2.1 hx
 exact ⟨T81 N,p81,qx _,qIj N,(qJF N x.1 x.2.1).trans h⟩
def g82:G:={ps:=[i36,i36],rs:=[i4],dp:=true,pre:=fun x=>qmN x.1 x.2.1,fn:=fun x=>(qg0 x.1 x.2.1,())}
theorem e82 (a b:Val Y36) (h:qmN a b): ∃N,m82 N a b=some (qg0 a b,()):=⟨0,by
 obtain ⟨ha,hb,hw⟩:=h
 have h1:=qel ha
 have h2:=qel hb
 have g1:=qnp ha
 have g2:=qnp hb
 have p1:=qcR (atm a)
 have p2:=qcR (atm b)
 rw [m82,qc (show qds b from hb),qc (show qds a from ha),qpd,qpd,qeo h1 ⟨by unfold gSv;omega,g2⟩,qeo h2 ⟨by unfold gSv;omega,g1⟩]
 have e:qg0 a b=(decide ((b.2.1:Int)*gSv a<a.2.1*gSv b)||(decide ((a.2.1:Int)*gSv b=b.2.1*gSv a)&&(a.2.2|| !b.2.2))):=by
  unfold qg0 qaA
  rw [if_pos hw]
  have e1:qd8 (atm b) (atm a)=sgI (b.2.1*gSv a - a.2.1*gSv b):=rfl
  rw [e1]
  exact qGV _ _ _ _
 rw [e]
 by_cases c1:(b.2.1:Int)*gSv a<a.2.1*gSv b
 ·simp [c1]
 ·by_cases c2:(a.2.1:Int)*gSv b=b.2.1*gSv a
  ·rw [qi c1,qh c2,decide_eq_false c1,decide_eq_true c2,Bool.false_or,Bool.true_and]
   cases a.2.2<;>rfl
  ·simp [c1,c2]⟩
theorem s82:Sound Try.prog 82 g82:=qw (tt:=tt) (Γ:=Γ82) hT (qf s93 qq) hm (fn:=Try.f82) Try.func82 (c:=Try.f82.body.getD .skip) (by kernel_rfl) (by kernel_rfl) fun x hx=>by
 obtain ⟨N,h⟩:=e82 x.1 x.2.1 hx
 exact ⟨T82 N,p82,qx _,qLI N,(qGp N x.1 x.2.1).trans h⟩
def g28:G:={ps:=[i36],rs:=[i36],dp:=true,pre:=fun x=>qcu x.1,fn:=fun x=>(idA x.1,())}
def g62:G:={ps:=[i3],rs:=[i32],dp:=true,pre:=fun x=>qdP x.1,fn:=fun x=>(qce x.1,())}
theorem e28 (a:Val Y36) (h:qcu a): ∃N,m28 N a=some (idA a,()):=⟨0,by
 rw [m28,qc (by have h:List.length (α:=Val (.int .i64)) a.1≤1048576:=h;simpa using h)];rfl⟩
theorem e62 (d:Int) (h:qdP d): ∃N,m62 N d=some (qce d,()):=⟨0,by
 rw [m62,qc ⟨h.1,Int.le_refl _,h.2⟩];rfl⟩
theorem s28:Sound Try.prog 28 g28:=qw (tt:=tt) (Γ:=Γ28) hT qq hm (fn:=Try.f28) Try.func28 (c:=Try.f28.body.getD .skip) (by kernel_rfl) (by kernel_rfl) fun x hx=>by
 obtain ⟨N,h⟩:=e28 x.1 hx
 exact ⟨T28 N,p28,qx _,qL7 N,(qLx N x.1).trans h⟩
theorem s62:Sound Try.prog 62 g62:=qw (tt:=tt) (Γ:=Γ62) hT qq hm (fn:=Try.f62) Try.func62 (c:=Try.f62.body.getD .skip) (by kernel_rfl) (by kernel_rfl) fun x hx=>by
 obtain ⟨N,h⟩:=e62 x.1 hx
 exact ⟨T62 N,p62,qx _,qLf N,(qSx N x.1).trans h⟩
noncomputable def qfi (N:Nat) (v2:List (Val Y36)) (v4:List (Val (.int .i64))) (v5:Int) (v6:Bool) (k0:Int→Option (qb [i30])):Nat→Int→Option (qb [i30])
 | 0,_=>none
 | n+1,v3=>bif (decide (v3<(v2.length:Int)))then (chk (0≤v3∧v3<(v2.length:Int)) (chk (qcQ (v2.getD v3.toNat (qa Y36)) (v4,v5,v6)) (bif (decide (((qaQ (v2.getD v3.toNat (qa Y36)) (v4,v5,v6)):Int)<(0:Int)))then (qfi N v2 v4 v5 v6 k0 n (IntKind.i64.wrap (v3+(1:Int))))else (k0 v3))))else (k0 v3)
noncomputable def m63 (N:Nat) (v0:List (Val Y36)) (v1:Val Y36):Option (qb [i30]):=qfi N v0 (v1.1:List (Val (.int .i64))) (v1.2.1:Int) (v1.2.2:Bool) (fun (v8:Int)=>bif (decide (v8<(v0.length:Int)))then (chk (0≤v8∧v8<(v0.length:Int)) (chk (qcQ (v0.getD v8.toNat (qa Y36)) v1) (bif (decide (((qaQ (v0.getD v8.toNat (qa Y36)) v1):Int)=(0:Int)))then (chk (0≤v8∧v8<(v0.length:Int)) (chk (qmN (v0.getD v8.toNat (qa Y36)) v1) (bif ((qg0 (v0.getD v8.toNat (qa Y36)) v1):Bool)then (some (v0,()))else (chk (([]:List (Val Y36)).length+v0.length≤1048576) (chk (0≤v8∧v8<((([]:List (Val Y36))++v0).length:Int)) (chk (v8.toNat<(([]:List (Val Y36))++v0).length) (some (((([]:List (Val Y36))++v0).set v8.toNat v1),()))))))))else (chk (0≤(0:Int)∧(0:Int)≤v8∧v8≤(v0.length:Int)) (chk (0≤v8∧v8≤(v0.length:Int)∧(v0.length:Int)≤(v0.length:Int)) (chk (([]:List (Val Y36)).length+((v0.take v8.toNat).drop (0:Int).toNat).length≤1048576) (chk ((([]:List (Val Y36))++((v0.take v8.toNat).drop (0:Int).toNat)).length+([v1]:List (Val Y36)).length≤1048576) (chk (((([]:List (Val Y36))++((v0.take v8.toNat).drop (0:Int).toNat))++([v1]:List (Val Y36))).length+((v0.take (v0.length:Int).toNat).drop v8.toNat).length≤1048576) (some ((((([]:List (Val Y36))++((v0.take v8.toNat).drop (0:Int).toNat))++([v1]:List (Val Y36)))++((v0.take (v0.length:Int).toNat).drop v8.toNat)),()))))))))))else (chk (0≤(0:Int)∧(0:Int)≤v8∧v8≤(v0.length:Int)) (chk (0≤v8∧v8≤(v0.length:Int)∧(v0.length:Int)≤(v0.length:Int)) (chk (([]:List (Val Y36)).length+((v0.take v8.toNat).drop (0:Int).toNat).length≤1048576) (chk ((([]:List (Val Y36))++((v0.take v8.toNat).drop (0:Int).toNat)).length+([v1]:List (Val Y36)).length≤1048576) (chk (((([]:List (Val Y36))++((v0.take v8.toNat).drop (0:Int).toNat))++([v1]:List (Val Y36))).length+((v0.take (v0.length:Int).toNat).drop v8.toNat).length≤1048576) (some ((((([]:List (Val Y36))++((v0.take v8.toNat).drop (0:Int).toNat))++([v1]:List (Val Y36)))++((v0.take (v0.length:Int).toNat).drop v8.toNat)),())))))))) N (0:Int)
def Γ63:Gam:=[(81,g81),(82,g82)]
theorem qtX:Gam.get Γ63 81=some g81:=rfl
theorem qst:Gam.get Γ63 82=some g82:=rfl
def qjZ:Nm:=⟨[true,false,false,true,false,true],[],false⟩
theorem qzc:qjZ.zero=false:=rfl
theorem qAU:qjZ.fix=[]:=rfl
theorem qrZ:qjZ.keep=[true,false,false,true,false,true]:=rfl
def qpK:Nm:=⟨[true,false,false,true,false,true],[],false⟩
theorem qul:qpK.zero=false:=rfl
theorem qvL:qpK.fix=[]:=rfl
theorem que:qpK.keep=[true,false,false,true,false,true]:=rfl
def qpj:Nm:=⟨[false,false,false,false,true],[],false⟩
theorem qrq:qpj.zero=false:=rfl
theorem qr5:qpj.fix=[]:=rfl
theorem qA8:qpj.keep=[false,false,false,false,true]:=rfl
def qhv:Nat→Tree:=fun i=>if i=2 then .quiet 0 (.quiet 1 (.quiet 2 (.quiet 3 (.quiet 4 (.quiet 5 (.quiet 6 (.quiet 7 (.quiet 8 (.quiet 9 (.alt 10 (.quiet 11 (.quiet 12 .done)) .stop))))))))))else if i=4 then .quiet 0 (.quiet 1 (.quiet 2 (.quiet 3 (.quiet 4 (.quiet 5 (.quiet 6 (.quiet 7 (.quiet 8 (.quiet 9 (.alt 10 (.quiet 11 (.quiet 12 .done)) .stop))))))))))else if i=5 then .quiet 0 (.quiet 1 (.quiet 2 (.quiet 3 (.quiet 4 (.alt 5 .done .stop)))))else if i=10 then .first 1 (.first 2 (.first 8 (.first 9 (.pure 3 (.pure 10 (.alt 0 (.alt 4 (.quiet 5 (.alt 6 (.alt 7 (.alt 11 (.quiet 12 .done) .stop) .stop) .stop)) (.alt 5 (.alt 4 (.alt 6 (.alt 7 (.alt 11 (.quiet 12 .done) .stop) .stop) .stop) (.alt 6 (.alt 4 (.alt 7 (.alt 11 (.quiet 12 .done) .stop) .stop) .stop) .stop)) .stop)) (.alt 5 (.alt 0 (.alt 4 (.alt 6 (.alt 7 (.alt 11 (.quiet 12 .done) .stop) .stop) .stop) (.alt 6 (.alt 4 (.alt 7 (.alt 11 (.quiet 12 .done) .stop) .stop) .stop) .stop)) (.alt 6 (.alt 0 (.alt 4 (.alt 7 (.alt 11 (.quiet 12 .done) .stop) .stop) .stop) .stop) .stop)) .stop)))))))else .done
def qmG:Nat→Nm:=fun i=>if i=2 then qjZ else ⟨[],[],false⟩
def qkS:Nat→Option Jn:=fun _=>none
def qk6:Nat→Option Nm:=fun i=>if i=0 then some qpK else none
def qjG:Nat→Option Nm:=fun i=>if i=10 then some qpj else none
theorem p63:ql qhv (Try.f63.body.getD .skip)=true:=by kernel_rfl
def T63 (N:Nat):Tab:={tr:=qhv,lp:=qmG,ex:=qk6,rg:=qjG,jn:=qkS,fuel:=N}
theorem qxc (N:Nat):(T63 N).pins=false:=rfl
theorem qMU (N:Nat):qm Try.prog (T63 N):=qu fun _=>rfl
theorem qzU (N:Nat) (i:Nat):(T63 N).tr i=qhv i:=rfl
theorem qso (N:Nat) (i:Nat):(T63 N).lp i=qmG i:=rfl
theorem qwD (N:Nat) (i:Nat):(T63 N).ex i=qk6 i:=rfl
theorem qvN (N:Nat) (i:Nat):(T63 N).rg i=qjG i:=rfl
theorem qzR (N:Nat) (i:Nat):(T63 N).jn i=qkS i:=rfl
theorem qxA (N:Nat):(T63 N).fuel=N:=rfl
noncomputable def qFn:Code:=cut [true,true,false,true,true] (Try.f63.body.getD .skip)
theorem qLT {N:Nat} {Q:X→St→Option (qb [i30])} {e:List LV} {h:List Blk}:qd tt Γ63 (T63 N) qFn Q ⟨e,h⟩=qd tt Γ63 (T63 N) (cut [true,true,false,true,true] (Try.f63.body.getD .skip)) Q ⟨e,h⟩:=rfl
theorem qRD (N:Nat) (v2:List (Val Y36)) (v4:List (Val (.int .i64))) (v5:Int) (v6:Bool) {k0:Int→Option (qb [i30])} {Q:X→St→Option (qb [i30])} {c:Code} (hc:c=qFn) (hret: ∀st,Q .ret st=qI tt false [i30] [.tmp 4] st) (h0: ∀(v7:Int),Q (.exit 0) ⟨[.one (.sl 36 Y36 v2 1),u,u,.one (.ptr 0 0 0),u,.one (.int .i64 v7),u,u,u,u,u,u,u,u,u,u,u,u,u,u,u,u,u,u,u,u,u,u,u,u,u,u,u,u,u,u,u,u,u,u,u,u,u,u,u,u,u,u,u,u,u,u,u,u,u,u,u,u,u,u,u,u],[.box [.sl 3 (.int .i64) v4 1,.int .i64 v5,.bool v6]]⟩=k0 v7): ∀(n:Nat) (v3:Int),qD (qd tt Γ63 (T63 N) c) false qjZ Q n ⟨[.one (.sl 36 Y36 v2 1),u,u,.one (.ptr 0 0 0),u,.one (.int .i64 v3),u,u,u,u,u,u,u,u,u,u,u,u,u,u,u,u,u,u,u,u,u,u,u,u,u,u,u,u,u,u,u,u,u,u,u,u,u,u,u,u,u,u,u,u,u,u,u,u,u,u,u,u,u,u,u,u],[.box [.sl 3 (.int .i64) v4 1,.int .i64 v5,.bool v6]]⟩=qfi N v2 v4 v5 v6 k0 n v3:=by
 subst hc;intro n;induction n with
 | zero=>intros;rfl
 | succ n ih=>
   intro v3
   rw [qR,qLT,qfi];unfold Try.f63
   simp (maxSteps:=10000000) -implicitDefEqProofs [qzU,qhv,qso,qmG,qwD,qk6,qvN,qjG,qzR,qkS,qxA,qxc,qAU,qrZ,qzc,qvL,que,qul,qr5,qA8,qrq,qtX,qst,g81,g82,hret,h0,ih]
theorem qIW (N:Nat) (v0:List (Val Y36)) (v1:Val Y36):qd tt Γ63 (T63 N) (Try.f63.body.getD .skip) (qp tt false [i30] [.tmp 4]) (qt [i30,i36] 62 (v0,v1,()))=m63 N v0 v1:=by
 unfold Try.f63
 simp (maxSteps:=10000000) -implicitDefEqProofs [qzU,qhv,qso,qmG,qwD,qk6,qvN,qjG,qzR,qkS,qxA,qxc,qAU,qrZ,qzc,qvL,que,qul,qr5,qA8,qrq,qtX,qst,g81,g82]
 rewrite [qRD (k0:=(fun (v8:Int)=>bif (decide (v8<(v0.length:Int)))then (chk (0≤v8∧v8<(v0.length:Int)) (chk (qcQ (v0.getD v8.toNat (qa Y36)) v1) (bif (decide (((qaQ (v0.getD v8.toNat (qa Y36)) v1):Int)=(0:Int)))then (chk (0≤v8∧v8<(v0.length:Int)) (chk (qmN (v0.getD v8.toNat (qa Y36)) v1) (bif ((qg0 (v0.getD v8.toNat (qa Y36)) v1):Bool)then (some (v0,()))else (chk (([]:List (Val Y36)).length+v0.length≤1048576) (chk (0≤v8∧v8<((([]:List (Val Y36))++v0).length:Int)) (chk (v8.toNat<(([]:List (Val Y36))++v0).length) (some (((([]:List (Val Y36))++v0).set v8.toNat v1),()))))))))else (chk (0≤(0:Int)∧(0:Int)≤v8∧v8≤(v0.length:Int)) (chk (0≤v8∧v8≤(v0.length:Int)∧(v0.length:Int)≤(v0.length:Int)) (chk (([]:List (Val Y36)).length+((v0.take v8.toNat).drop (0:Int).toNat).length≤1048576) (chk ((([]:List (Val Y36))++((v0.take v8.toNat).drop (0:Int).toNat)).length+([v1]:List (Val Y36)).length≤1048576) (chk (((([]:List (Val Y36))++((v0.take v8.toNat).drop (0:Int).toNat))++([v1]:List (Val Y36))).length+((v0.take (v0.length:Int).toNat).drop v8.toNat).length≤1048576) (some ((((([]:List (Val Y36))++((v0.take v8.toNat).drop (0:Int).toNat))++([v1]:List (Val Y36)))++((v0.take (v0.length:Int).toNat).drop v8.toNat)),()))))))))))else (chk (0≤(0:Int)∧(0:Int)≤v8∧v8≤(v0.length:Int)) (chk (0≤v8∧v8≤(v0.length:Int)∧(v0.length:Int)≤(v0.length:Int)) (chk (([]:List (Val Y36)).length+((v0.take v8.toNat).drop (0:Int).toNat).length≤1048576) (chk ((([]:List (Val Y36))++((v0.take v8.toNat).drop (0:Int).toNat)).length+([v1]:List (Val Y36)).length≤1048576) (chk (((([]:List (Val Y36))++((v0.take v8.toNat).drop (0:Int).toNat))++([v1]:List (Val Y36))).length+((v0.take (v0.length:Int).toNat).drop v8.toNat).length≤1048576) (some ((((([]:List (Val Y36))++((v0.take v8.toNat).drop (0:Int).toNat))++([v1]:List (Val Y36)))++((v0.take (v0.length:Int).toNat).drop v8.toNat)),()))))))))) N _ _ _ _ ?_ ?_ ?_]
 ·rewrite [m63];first | rfl | simp (maxSteps:=10000000) -implicitDefEqProofs []
 ·rfl
 ·intro;simp only [qK,qM,qO,qv]
 ·intro v8;simp (maxSteps:=10000000) -implicitDefEqProofs [qzU,qhv,qso,qmG,qwD,qk6,qvN,qjG,qzR,qkS,qxA,qxc,qAU,qrZ,qzc,qvL,que,qul,qr5,qA8,qrq,qtX,qst,g81,g82]
def g63:G:={ps:=[i30,i36],rs:=[i30],dp:=false,pre:=fun x=>qfP x.1 x.2.1,fn:=fun x=>(qeN x.1 x.2.1,())}
def qaP (l:List (Val Y36)) (a:Val Y36):Nat:=(l.takeWhile fun b=>decide (qaQ b a<0)).length
theorem qH9 (l:List (Val Y36)) (a:Val Y36):qaP l a≤l.length:=(List.takeWhile_sublist _).length_le
theorem qFM: ∀(l:List (Val Y36)) (a:Val Y36),qau l a=if h:qaP l a<l.length then (if qaQ l[qaP l a] a=0 then (if qaA (atm a) (atm l[qaP l a])≤0 then l else l.set (qaP l a) a)else l.take (qaP l a)++[a]++l.drop (qaP l a))else l.take (qaP l a)++[a]++l.drop (qaP l a)
 | [],a=>rfl
 | b::r,a=>by
   have ih:=qFM r a
   by_cases h1:qaQ b a<0
   ·have e:qaP (b::r) a=qaP r a+1:=by simp [qaP,List.takeWhile,h1]
    have h1':way b a<0:=h1
    simp only [qau,h1',if_true,e,List.length_cons,Nat.add_lt_add_iff_right,List.getElem_cons_succ,List.set_cons_succ,List.take_succ_cons,List.drop_succ_cons,List.cons_append]
    rw [ih]
    split
    ·split
     ·split<;>rfl
     ·rfl
    ·rfl
   ·have e:qaP (b::r) a=0:=by simp [qaP,List.takeWhile,h1]
    have h1': ¬way b a<0:=h1
    simp only [qau,h1',if_false,e,List.length_cons,Nat.zero_lt_succ,dif_pos,List.getElem_cons_zero,List.set_cons_zero,List.take_zero,List.drop_zero,List.nil_append]
    by_cases h2:way b a=0
    ·rw [if_pos h2,if_pos (show qaQ b a=0 from h2)]
    ·rw [if_neg h2,if_neg (show ¬qaQ b a=0 from h2)];rfl
theorem t63 (N:Nat) (l:List (Val Y36)) (a:Val Y36) (h:qfP l a) (K:Int→Option (qb [i30])): ∀(k i:Nat),l.length - i=k→i≤l.length→ ∀n,k<n→
 qfi N l a.1 a.2.1 a.2.2 K n i=K ((i+qaP (l.drop i) a:Nat):Int)
 | 0,i,hi,hle,n+1,_=>by
   rw [qfi,qi (by omega),List.drop_eq_nil_of_le (by omega)]
   rfl
 | k+1,i,hi,hle,n+1,hn=>by
   have h1:i<l.length:=by omega
   obtain ⟨hl,ha,hb⟩:=h
   have hb1:=hb _ (List.getElem_mem h1)
   rw [qfi,qh (by omega),qc (by omega),qL h1,qc (show qcQ _ _ from ⟨hb1.1,ha,hb1.2⟩),qeD h1 (by omega)]
   rw [qdw h1]
   by_cases h2:qaQ l[i] a<0
   ·have e:qaP (l[i]::l.drop (i+1)) a=qaP (l.drop (i+1)) a+1:=by simp [qaP,List.takeWhile,h2]
    rw [qh (show qaQ l[i] (a.1,a.2.1,a.2.2)<0 from h2),e,t63 N l a ⟨hl,ha,hb⟩ K k (i+1) (by omega) (by omega) n (by omega)]
    congr 2;omega
   ·have e:qaP (l[i]::l.drop (i+1)) a=0:=by simp [qaP,List.takeWhile,h2]
    rw [qi (show ¬qaQ l[i] (a.1,a.2.1,a.2.2)<0 from h2),e]
    rfl
theorem e63 (l:List (Val Y36)) (a:Val Y36) (h:qfP l a): ∃N,m63 N l a=some (qeN l a,()):=⟨l.length+1,by
 have t:=t63 (l.length+1) l a h
 rw [m63]
 refine (t _ _ 0 rfl (by omega) _ (Nat.lt_succ_self _)).trans ?_
 obtain ⟨hl,ha,hb⟩:=h
 rw [List.drop_zero,Nat.zero_add]
 have hle:=qH9 l a
 rw [qeN,qFM]
 generalize qaP l a=j at hle ⊢
 have last:chk (0≤(0:Int)∧(0:Int)≤(j:Int)∧(j:Int)≤(l.length:Int)) (chk (0≤(j:Int)∧(j:Int)≤(l.length:Int)∧(l.length:Int)≤(l.length:Int)) (chk (([]:List (Val Y36)).length+((l.take (j:Int).toNat).drop (0:Int).toNat).length≤1048576) (chk ((([]:List (Val Y36))++((l.take (j:Int).toNat).drop (0:Int).toNat)).length+([a]:List (Val Y36)).length≤1048576) (chk (((([]:List (Val Y36))++((l.take (j:Int).toNat).drop (0:Int).toNat))++([a]:List (Val Y36))).length+((l.take (l.length:Int).toNat).drop (j:Int).toNat).length≤1048576)
  (some (((([]:List (Val Y36))++((l.take (j:Int).toNat).drop (0:Int).toNat))++([a]:List (Val Y36)))++((l.take (l.length:Int).toNat).drop (j:Int).toNat),()))))))
  =(some (l.take j++[a]++l.drop j,()):Option (qb [i30])):=by
  have e1:(j:Int).toNat=j:=rfl
  have e2:(l.length:Int).toNat=l.length:=rfl
  have e3:(0:Int).toNat=0:=rfl
  rw [e1,e2,e3,List.drop_zero,List.take_length,List.nil_append]
  rw [qc (by omega),qc (by omega),qc (by simp;omega),qc (by simp;omega),qc (by simp;omega)]
 by_cases hj:j<l.length
 ·have hb1:=hb _ (List.getElem_mem hj)
  have e1:(j:Int).toNat=j:=rfl
  rw [dif_pos hj,qh (by omega),qc (by omega),qL hj,qc (show qcQ _ _ from ⟨hb1.1,ha,hb1.2⟩)]
  by_cases hw:qaQ l[j] a=0
  ·have hw':way (atm a) (atm l[j])=0:=by have:=qbl.anti (atm a) (atm l[j]);have hw:way (atm l[j]) (atm a)=0:=hw;omega
   rw [qh hw,if_pos hw,qc (by omega),qc (show qmN _ _ from ⟨hb1.1,ha,hw'⟩)]
   unfold qg0
   by_cases hs:qaA (atm a) (atm l[j])≤0
   ·rw [qh hs,if_pos hs]
   ·rw [qi hs,if_neg hs,List.nil_append,qc (by simp;omega),qc (by omega),qc (by omega),e1]
  ·rw [qi hw,if_neg hw]
   exact last
 ·rw [dif_neg hj,qi (by omega)]
  exact last⟩
theorem s63:Sound Try.prog 63 g63:=qw (tt:=tt) (Γ:=Γ63) hT (qf s81 (qf s82 qq)) hm (fn:=Try.f63) Try.func63 (c:=Try.f63.body.getD .skip) (by kernel_rfl) (by kernel_rfl) fun x hx=>by
 obtain ⟨N,h⟩:=e63 x.1 x.2.1 hx
 exact ⟨T63 N,p63,qx _,qMU N,(qIW N x.1 x.2.1).trans h⟩
noncomputable def qdT (N:Nat) (v2:Int) (v3:List (Val Y36)) (v5:Int) (v6:Int) (k0:(List (Val Y36))→Option (qb [i32])):Nat→Int→(List (Val Y36))→Option (qb [i32])
 | 0,_,_=>none
 | n+1,v4,v7=>bif (decide (v4<(v3.length:Int)))then (chk (0≤v4∧v4<(v3.length:Int)) (chk (qig (v3.getD v4.toNat (qa Y36))) (bif ((qcx (v3.getD v4.toNat (qa Y36))):Bool)then (chk (0≤v4∧v4<(v3.length:Int)) (bif (!((qdk (v3.getD v4.toNat (qa Y36))):Bool))then (chk (qdP v2) (some ((((qce v2).1:Int),((qce v2).2:List (Val Y36))),())))else (qdT N v2 v3 v5 v6 k0 n (IntKind.i64.wrap (v4+(1:Int))) v7)))else (chk (0≤v4∧v4<(v3.length:Int)) (chk (qcu (v3.getD v4.toNat (qa Y36))) (chk (qfP v7 (((idA (v3.getD v4.toNat (qa Y36))).1:List (Val (.int .i64))),(((idA (v3.getD v4.toNat (qa Y36))).2).1:Int),(((idA (v3.getD v4.toNat (qa Y36))).2).2:Bool))) (qdT N v2 v3 v5 v6 k0 n (IntKind.i64.wrap (v4+(1:Int))) ((qeN v7 (((idA (v3.getD v4.toNat (qa Y36))).1:List (Val (.int .i64))),(((idA (v3.getD v4.toNat (qa Y36))).2).1:Int),(((idA (v3.getD v4.toNat (qa Y36))).2).2:Bool))):List (Val Y36)))))))))else (k0 v7)
noncomputable def m44 (N:Nat) (v0:Int) (v1:List (Val Y36)):Option (qb [i32]):=qdT N v0 v1 (0:Int) v0 (fun (v9:List (Val Y36))=>some ((v0,v9),())) N (0:Int) ([]:List (Val Y36))
def Γ44:Gam:=[(28,g28),(60,g60),(61,g61),(62,g62),(63,g63)]
theorem qyq:Gam.get Γ44 28=some g28:=rfl
theorem qx1:Gam.get Γ44 60=some g60:=rfl
theorem qrN:Gam.get Γ44 61=some g61:=rfl
theorem qtG:Gam.get Γ44 62=some g62:=rfl
theorem quq:Gam.get Γ44 63=some g63:=rfl
def qk5:Nm:=⟨[true,true,false,false,true,true,true],[.nsb 5 1 36 Y36],false⟩
theorem qwJ:qk5.zero=false:=rfl
theorem qz5:qk5.fix=[.nsb 5 1 36 Y36]:=rfl
theorem qvF:qk5.keep=[true,true,false,false,true,true,true]:=rfl
def qn4:Nm:=⟨[false,false,false,false,true,true],[],false⟩
theorem qt0:qn4.zero=false:=rfl
theorem qtg:qn4.fix=[]:=rfl
theorem qx8:qn4.keep=[false,false,false,false,true,true]:=rfl
def qnI:Nm:=⟨[true,true,false,false,true,true,true],[],false⟩
theorem qyH:qnI.zero=false:=rfl
theorem qsa:qnI.fix=[]:=rfl
theorem qzK:qnI.keep=[true,true,false,false,true,true,true]:=rfl
def qg6:Nat→Tree:=fun i=>if i=8 then .quiet 2 (.quiet 3 (.quiet 4 (.quiet 5 (.alt 0 (.alt 1 (.alt 6 (.alt 7 (.quiet 8 (.alt 9 .done .stop)) .stop) .stop) (.alt 6 (.quiet 1 (.alt 7 (.quiet 8 (.alt 9 .done .stop)) .stop)) .stop)) (.alt 6 (.quiet 0 (.quiet 1 (.alt 7 (.quiet 8 (.alt 9 .done .stop)) .stop))) .stop)))))else .done
def qlk:Nat→Nm:=fun i=>if i=3 then qk5 else ⟨[],[],false⟩
def qkH:Nat→Option Jn:=fun _=>none
def qks:Nat→Option Nm:=fun i=>if i=0 then some qn4 else none
def qme:Nat→Option Nm:=fun i=>if i=8 then some qnI else none
theorem p44:ql qg6 (Try.f44.body.getD .skip)=true:=by kernel_rfl
def T44 (N:Nat):Tab:={tr:=qg6,lp:=qlk,ex:=qks,rg:=qme,jn:=qkH,fuel:=N}
theorem qtQ (N:Nat):(T44 N).pins=false:=rfl
theorem qRZ (N:Nat):qm Try.prog (T44 N):=qu fun _=>rfl
theorem qxd (N:Nat) (i:Nat):(T44 N).tr i=qg6 i:=rfl
theorem qCd (N:Nat) (i:Nat):(T44 N).lp i=qlk i:=rfl
theorem qAh (N:Nat) (i:Nat):(T44 N).ex i=qks i:=rfl
theorem qyQ (N:Nat) (i:Nat):(T44 N).rg i=qme i:=rfl
theorem qwA (N:Nat) (i:Nat):(T44 N).jn i=qkH i:=rfl
theorem qxf (N:Nat):(T44 N).fuel=N:=rfl
noncomputable def qFE:Code:=cut [true,true,false,true,true,true] (Try.f44.body.getD .skip)
theorem qQE {N:Nat} {Q:X→St→Option (qb [i32])} {e:List LV} {h:List Blk}:qd tt Γ44 (T44 N) qFE Q ⟨e,h⟩=qd tt Γ44 (T44 N) (cut [true,true,false,true,true,true] (Try.f44.body.getD .skip)) Q ⟨e,h⟩:=rfl
theorem qHo (N:Nat) (v2:Int) (v3:List (Val Y36)) (v5:Int) (v6:Int) {k0:(List (Val Y36))→Option (qb [i32])} {Q:X→St→Option (qb [i32])} {c:Code} (hc:c=qFE) (hret: ∀st,Q .ret st=qI tt false [i32] [.cell 4 32] st) (h0: ∀(v8:List (Val Y36)),Q (.exit 0) ⟨[u,u,u,u,.one (.ptr 0 0 0),.one (.ptr 1 0 0),u,u,u,u,u,u,u,u,u,u,u,u,u,u,u,u,u,u,u,u,u,u,u,u,u,u,u,u,u,u,u,u],[.box [.int .i64 v5,.nils],.box [.int .i64 v6,.sl 36 Y36 v8 2]]⟩=k0 v8): ∀(n:Nat) (v4:Int) (v7:List (Val Y36)),qD (qd tt Γ44 (T44 N) c) false qk5 Q n ⟨[.one (.int .i64 v2),.one (.sl 36 Y36 v3 2),u,u,.one (.ptr 0 0 0),.one (.ptr 1 0 0),.one (.int .i64 v4),u,u,u,u,u,u,u,u,u,u,u,u,u,u,u,u,u,u,u,u,u,u,u,u,u,u,u,u,u,u,u],[.box [.int .i64 v5,.nils],.box [.int .i64 v6,.sl 36 Y36 v7 2]]⟩=qdT N v2 v3 v5 v6 k0 n v4 v7:=by
 subst hc;intro n;induction n with
 | zero=>intros;rfl
 | succ n ih=>
   intro v4 v7
   rw [qR,qQE,qdT];unfold Try.f44
   simp (maxSteps:=10000000) -implicitDefEqProofs [qxd,qg6,qCd,qlk,qAh,qks,qyQ,qme,qwA,qkH,qxf,qtQ,qz5,qvF,qwJ,qtg,qx8,qt0,qsa,qzK,qyH,qyq,qx1,qrN,qtG,quq,g28,g60,g61,g62,g63,hret,h0,ih]
theorem qPF (N:Nat) (v0:Int) (v1:List (Val Y36)):qd tt Γ44 (T44 N) (Try.f44.body.getD .skip) (qp tt false [i32] [.cell 4 32]) (qt [i3,i30] 38 (v0,v1,()))=m44 N v0 v1:=by
 unfold Try.f44
 simp (maxSteps:=10000000) -implicitDefEqProofs [qxd,qg6,qCd,qlk,qAh,qks,qyQ,qme,qwA,qkH,qxf,qtQ,qz5,qvF,qwJ,qtg,qx8,qt0,qsa,qzK,qyH,qyq,qx1,qrN,qtG,quq,g28,g60,g61,g62,g63]
 rewrite [qHo (k0:=(fun (v9:List (Val Y36))=>some ((v0,v9),()))) N _ _ _ _ ?_ ?_ ?_]
 ·rewrite [m44];first | rfl | simp (maxSteps:=10000000) -implicitDefEqProofs []
 ·rfl
 ·intro;simp only [qK,qM,qO,qv]
 ·intro v9;simp (maxSteps:=10000000) -implicitDefEqProofs [qxd,qg6,qCd,qlk,qAh,qks,qyQ,qme,qwA,qkH,qxf,qtQ,qz5,qvF,qwJ,qtg,qx8,qt0,qsa,qzK,qyH,qyq,qx1,qrN,qtG,quq,g28,g60,g61,g62,g63]
def g44:G:={ps:=[i3,i30],rs:=[i32],dp:=false,pre:=fun x=>qco x.1 x.2.1,fn:=fun x=>(qX x.1 x.2.1,())}
theorem qyN: ∀(l:List Atm) (a:Atm),(qau l a).length≤l.length+1
 | [],_=>by simp [qau]
 | b::r,a=>by
   have:=qyN r a
   simp only [qau]
   split
   ·simp;omega
   ·split
    ·split<;>simp
    ·simp
theorem qqR {ρ:Type} {d:Int} {r:Option ρ} {k:List (Val Y36)→Option ρ}: ∀(xs:List (Val Y36)) (i:Nat) (s:List (Val Y36)),s.length+xs.length≤1048576→(∀b∈s,okA b∧(List.length (α:=Int) b.1:Int)=d)→(∀b∈xs,okA b∧(List.length (α:=Int) b.1:Int)=d)→
 qaa (fun _ (x:Val Y36) (s:List (Val Y36)) K=>bif qcx x then (bif !qdk x then r else K s)else chk (qfP s x) (K (qeN s x))) i xs s k=bif xs.any qaK then r else k ((xs.filter qZ).foldl qau s)
 | [],_,s,_,_,_=>by rw [qaa];simp
 | x::xs,i,s,h,hs,hx=>by
   simp only [List.length_cons]at h
   have hx0:=hx x (by simp)
   rw [qaa,List.any_cons,qAM]
   cases hn:qcx x with
   | true=>
     have hv:qZ x=false:=by simpa [qcx] using hn
     cases ht:qdk x with
     | false=>simp
     | true=>
       simp only [cond_true,Bool.not_true,cond_false,Bool.and_false,Bool.false_or]
       rw [qqR xs (i+1) s (by omega) hs fun b hb=>hx b (by simp [hb])]
       simp [hv]
   | false=>
     have hv:qZ x=true:=by simpa [qcx] using hn
     simp only [cond_false,Bool.false_and,Bool.false_or]
     rw [qc (show qfP s x from ⟨by omega,hx0.1,fun b hb=>⟨(hs b hb).1,by have:=(hs b hb).2;have:=hx0.2;omega⟩⟩)]
     have hl:(qeN s x).length≤s.length+1:=qyN s x
     rw [qqR xs (i+1) (qeN s x) (by omega) (fun b hb=> ?_) fun b hb=>hx b (by simp [hb])]
     ·simp only [List.filter_cons,hv,if_true,List.foldl_cons]
      rfl
     ·rcases qi8 hb with rfl | hb
      ·exact hx0
      ·exact hs b hb
theorem t44 (N:Nat) (d:Int) (l:List (Val Y36)) (K:List (Val Y36)→Option (qb [i32])) (h:okL d l) (n:Nat) (hn:l.length<n) (s:List (Val Y36)):qdT N d l 0 d K n 0 s=qaa (fun _ (x:Val Y36) (s:List (Val Y36)) K=>bif qcx x then (bif !qdk x then some (qce d,())else K s)else chk (qfP s x) (K (qeN s x))) 0 l s K:=
 qb6 (xs:=l) (F:=fun n i s=>qdT N d l 0 d K n i s) h.2.1 (fun n i s hi=>by
  obtain ⟨ha,hlen⟩:=h.2.2 _ (List.getElem_mem hi)
  have h4:=(qcc ha).1
  have hd':=h.1
  rw [qdT,qh (by omega),qc (by omega),qL hi,qc (show qig _ from ha),qc (by omega),qc (show qdP d from ⟨hd'.1,by omega⟩),qc (by omega),qc (show qcu _ from by unfold qcu;omega)]
  rfl) (fun n i s hi=>by rw [qdT,qi (by omega)]) n s hn
theorem e44 (d:Int) (l:List (Val Y36)) (h:qco d l): ∃N,m44 N d l=some (qX d l,()):=⟨l.length+1,by
 rw [m44,t44 _ _ _ _ h _ (Nat.lt_succ_self _)]
 refine (qqR (d:=d) l 0 [] (by simpa using h.2.1) (by simp) h.2.2).trans ?_
 rw [qX]
 cases l.any qaK<;>rfl⟩
theorem s44:Sound Try.prog 44 g44:=qw (tt:=tt) (Γ:=Γ44) hT (qf s28 (qf s60 (qf s61 (qf s62 (qf s63 qq))))) hm (fn:=Try.f44) Try.func44 (c:=Try.f44.body.getD .skip) (by kernel_rfl) (by kernel_rfl) fun x hx=>by
 obtain ⟨N,h⟩:=e44 x.1 x.2.1 hx
 exact ⟨T44 N,p44,qx _,qRZ N,(qPF N x.1 x.2.1).trans h⟩
end Go.T
