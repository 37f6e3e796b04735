import Derived.Test.YtllelgnepalfjaaGreatE32
import Derived.Test.YtllelgnepalfjaaGreatA8a
import Derived.Test.YtllelgnepalfjaaGreatE40
set_option linter.unusedSimpArgs false
set_option linter.unusedVariables false
namespace Go.T
noncomputable section
open Go Go.Proofs
set_option maxHeartbeats 4000000
set_option maxRecDepth 100000
def cu (p:Zg) (d:Int):Bool:=decide ((p.length:Int)=d)&&p.all fun r=>qh r
def dD (p:Zg) (_:Int):Prop:=p.length<=1048576
def g93:G:={ps:=[i29,i3],rs:=[i4],dp:=true,pre:=fun x=>dD x.1 x.2.1,fn:=fun x=>(cu x.1 x.2.1,())}
def kO (N:Nat) (b:Zg) (c:Int) (k0:Unit->ZO [i4]):Nat->Int->ZO [i4]
 | 0,_=>none
 | n+1,a=>bif (decide (a<c))then (chk (0<=a/\a<(b.length:Int)) (bif (!((qh (b.getD a.toNat (qa Y28))):Bool))then (some (false,()))else (kO N b c k0 n (IntKind.i64.wrap (a+(1:Int))))))else (k0 ())
def m93 (N:Nat) (a:Zg) (b:Int):ZO [i4]:=bif (!(decide ((a.length:Int)=b)))then (some (false,()))else (kO N a (a.length:Int) (fun (_:Unit)=>some (true,())) N (0:Int))
def Γ93:Gam:=[(55,g55)]
theorem qYd:Gam.get Γ93 55=some g55:=rfl
def v3:List Bool:=[O,O,O,O,O,O,O,O,O,O,O,I,I,I]
def EG:Nm:=⟨v3,[],false⟩
theorem Qy:NmS EG v3 [] false:=nmS
def EH:List Bool:=[]
def Qz:Nm:=⟨EH,[],false⟩
theorem qWS:NmS Qz EH [] false:=nmS
def EI:Nat->Nm:=fun i=>if i=4 then EG else ⟨[],[],false⟩
def EJ:Nat->Option Nm:=fun i=>if i=0 then some Qz else none
theorem p93:qi tr0 (Tryz.f93.body.getD .skip)=true:=by kernel_rfl
def T93 (N:Nat):Tab:={tr:=tr0,lp:=EI,ex:=EJ,rg:=rg0,jn:=jn0,fuel:=N}
theorem qTY (N:Nat):qj Tryz.prog (T93 N):=qn fun _=>rfl
theorem EK (N:Nat):qr (T93 N) tr0 EI EJ rg0 jn0 N false:=qt
def QA:Code:=cut [I,I,O,I,I,I] (Tryz.f93.body.getD .skip)
theorem qO8 (N:Nat) (b:Zg) (d:Int) {k0:Unit->ZO [i4]} {Q:ZQ [i4]} {c:Code} (f:c=QA) (g: ∀st,Q .ret st=qz tt true [i4] [.tmp 4] st) (e:Q (.exit 0) ⟨[u,u,u,u,u,u,u,u,u,u,u,u,u,u,u,u,u,u,u,u,u],[]⟩=k0 ()): ∀(n:Nat) (a:Int),qw (qd tt Γ93 (T93 N) c) false EG Q n ⟨[u,u,u,u,u,u,u,u,u,u,u,.one (.sl 28 Y28 b 0),.one (.int .i64 d),.one (.int .i64 a),u,u,u,u,u,u,u],[]⟩=kO N b d k0 n a:=by
 intro n;induction n with
 | zero=>intros;rfl
 | succ n h=>
   intro a
   rw [qD,qE f,kO];unfold QA Tryz.f93
   simp -implicitDefEqProofs [EK,EJ,Qy,v3,qWS,EH,qYd,g55,g,e,h]
theorem qTM (N:Nat) (a:Zg) (b:Int):qd tt Γ93 (T93 N) (Tryz.f93.body.getD .skip) (qk tt true [i4] [.tmp 4]) (qm [i29,i3] 21 (a,b,()))=m93 N a b:=by
 unfold Tryz.f93
 simp -implicitDefEqProofs [EK,EI,Qy,v3]
 rewrite [qO8 (k0:=(fun (_:Unit)=>some (true,()))) N _ _ ?_ ?_ ?_]
 ·rewrite [m93];first | rfl | simp -implicitDefEqProofs []
 ·rfl
 ·intro;simp only [qA,qC,qJ]
 ·simp -implicitDefEqProofs [EK]
theorem e93 (p:Zg) (d:Int) (h:dD p d): ∃N,m93 N p d=some (cu p d,()):=⟨p.length+1,by
 rw [m93,cu]
 cases decide ((p.length:Int)=d)with
 | false=>rfl
 | true=>
   simp only [Bool.not_true,cond_false,Bool.true_and]
   refine (bp (F:=fun n i (_:Unit)=>kO (p.length+1) p p.length (fun _=>some (true,())) n i) (step:=fun _ x _ K=>bif qh x then K ()else some (false,())) (k:=fun _=>some (true,())) h (fun n i s a=>by rw [kO,qg (by omega),qc (by omega),qB a,b4]) (fun n i s a=>by rw [kO,qf (by omega)]) _ () (Nat.lt_succ_self _)).trans ((dK p 0).trans ?_)
   cases p.all fun r=>qh r<;>rfl⟩
theorem s93:Sound Tryz.prog 93 g93:=qo (tt:=tt) (Γ:=Γ93) hT (qe s55 ql) hm (fn:=Tryz.f93) Tryz.func93 (c:=Tryz.f93.body.getD .skip) (by kernel_rfl) (by kernel_rfl) fun x a=>by
 obtain ⟨N,h⟩:=e93 x.1 x.2.1 a
 exact ⟨T93 N,p93,qp _,qTY N,(qTM N x.1 x.2.1).trans h⟩
def g41:G:={ps:=[i29,i3],rs:=[i4],dp:=true,pre:=fun x=>dD x.1 x.2.1,fn:=fun x=>(cu x.1 x.2.1,())}
def kP (N:Nat) (b:Zg) (c:Int) (k0:Unit->ZO [i4]):Nat->Int->ZO [i4]
 | 0,_=>none
 | n+1,a=>bif (decide (a<(b.length:Int)))then (chk (0<=a/\a<(b.length:Int)) (bif (!((qh (b.getD a.toNat (qa Y28))):Bool))then (some (false,()))else (kP N b c k0 n (IntKind.i64.wrap (a+(1:Int))))))else (k0 ())
def m41 (N:Nat) (a:Zg) (b:Int):ZO [i4]:=kP N a b (fun (_:Unit)=>some ((decide ((a.length:Int)=b)),())) N (0:Int)
def Γ41:Gam:=[(43,g43)]
theorem qWo:Gam.get Γ41 43=some g43:=rfl
def v4:List Bool:=[I,I,O,O,O,I]
def EL:Nm:=⟨v4,[],false⟩
theorem QB:NmS EL v4 [] false:=nmS
def EM:List Bool:=[I,I]
def QC:Nm:=⟨EM,[],false⟩
theorem qYG:NmS QC EM [] false:=nmS
def EN:Nat->Nm:=fun i=>if i=2 then EL else ⟨[],[],false⟩
def EO:Nat->Option Nm:=fun i=>if i=0 then some QC else none
theorem p41:qi tr0 (Tryz.f41.body.getD .skip)=true:=by kernel_rfl
def T41 (N:Nat):Tab:={tr:=tr0,lp:=EN,ex:=EO,rg:=rg0,jn:=jn0,fuel:=N}
theorem qRS (N:Nat):qj Tryz.prog (T41 N):=qn fun _=>rfl
theorem EP (N:Nat):qr (T41 N) tr0 EN EO rg0 jn0 N false:=qt
def QD:Code:=cut [I,O,I,I,I] (Tryz.f41.body.getD .skip)
theorem qXp (N:Nat) (a:Zg) (b:Int) {k0:Unit->ZO [i4]} {Q:ZQ [i4]} {c:Code} (f:c=QD) (g: ∀st,Q .ret st=qz tt true [i4] [.tmp 4] st) (e:Q (.exit 0) ⟨[.one (.sl 28 Y28 a 0),.one (.int .i64 b),u,u,u,u,u,u,u,u,u,u,u,u,u,u,u,u,u,u,u,u],[]⟩=k0 ()): ∀(n:Nat) (d:Int),qw (qd tt Γ41 (T41 N) c) false EL Q n ⟨[.one (.sl 28 Y28 a 0),.one (.int .i64 b),u,u,u,.one (.int .i64 d),u,u,u,u,u,u,u,u,u,u,u,u,u,u,u,u],[]⟩=kP N a b k0 n d:=by
 intro n;induction n with
 | zero=>intros;rfl
 | succ n h=>
   intro d
   rw [qD,qE f,kP];unfold QD Tryz.f41
   simp -implicitDefEqProofs [EP,EO,QB,v4,qYG,EM,qWo,g43,g,e,h]
theorem qQ6 (N:Nat) (a:Zg) (b:Int):qd tt Γ41 (T41 N) (Tryz.f41.body.getD .skip) (qk tt true [i4] [.tmp 4]) (qm [i29,i3] 22 (a,b,()))=m41 N a b:=by
 unfold Tryz.f41
 simp -implicitDefEqProofs [EP,EN,QB,v4]
 rewrite [qXp N _ _ ?_ ?_ ?_]
 ·rewrite [m41];first | rfl | simp -implicitDefEqProofs []
 ·rfl
 ·intro;simp only [qA,qC,qJ]
 ·simp -implicitDefEqProofs [EP]
theorem e41 (p:Zg) (d:Int) (h:dD p d): ∃N,m41 N p d=some (cu p d,()):=⟨p.length+1,by
 rw [m41,cu]
 refine (bp (F:=fun n i (_:Unit)=>kP (p.length+1) p d _ n i) (step:=fun _ x _ K=>bif qh x then K ()else some (false,())) h (fun n i s a=>by rw [kP,qg (by omega),qc (by omega),qB a,b4]) (fun n i s a=>by rw [kP,qf (by omega)]) _ () (Nat.lt_succ_self _)).trans ((dK p 0).trans ?_)
 cases p.all fun r=>qh r<;>cases decide ((p.length:Int)=d)<;>rfl⟩
theorem s41:Sound Tryz.prog 41 g41:=qo (tt:=tt) (Γ:=Γ41) hT (qe s43 ql) hm (fn:=Tryz.f41) Tryz.func41 (c:=Tryz.f41.body.getD .skip) (by kernel_rfl) (by kernel_rfl) fun x a=>by
 obtain ⟨N,h⟩:=e41 x.1 x.2.1 a
 exact ⟨T41 N,p41,qp _,qRS N,(qQ6 N x.1 x.2.1).trans h⟩
theorem ER {r:Zh} (h:qh r=true):(0<=(r.2:Int)/\ @LE.le Int _ r.2 400000000)/\(-400000000<=(r.1:Int)/\ @LE.le Int _ r.1 400000000):=by
 obtain ⟨a,b⟩:=r
 change Int at a
 change Int at b
 unfold qh inR qq at h
 simp only [Bool.and_eq_true,decide_eq_true_eq]at h
 obtain ⟨⟨h1,h2⟩,_⟩:=h
 have h1:1<=b/\b<=400000000:=h1
 have h2: -400000000<=a/\a<=400000000:=h2
 exact ⟨⟨by show 0<=b;omega,h1.2⟩,h2⟩
def dU (n:Int):Int:=max n (IntKind.i64.wrap (0 - n))
def kQ:Nat->Int->Int->Int
 | 0,g,_=>g
 | k+1,g,a=>if a=0 then g else kQ k a (g.tmod a)
def euc (g a:Int):Int:=kQ (a.natAbs+1) g a
def ph:Int->List Int->Int
 | g,[]=>g
 | g,x::xs=>ph (euc g (dU x)) xs
def gcX (co:Zb) (k:Int):Int:=ph (dU k) co
def v5 (co:Zb) (_:Int):Prop:=co.length<=1048576
def mkX (co:Zb) (k:Int) (s:Bool) (g:Int):Zf×Bool:=bif qy (List.map (α:=Int) (fun x=>IntKind.i64.wrap (x.tdiv g)) co,IntKind.i64.wrap (k.tdiv g),s)then ((List.map (α:=Int) (fun x=>IntKind.i64.wrap (x.tdiv g)) co,IntKind.i64.wrap (k.tdiv g),s),true)else (([],(0:Int),false),false)
def fo (co:Zb) (k:Int) (s:Bool):Zf×Bool:=mkX co k s (max 1 (gcX co k))
def mM (co:Zb) (_:Int) (_:Bool):Prop:=co.length<=1048576
def pj:G:={ps:=[i3],rs:=[i3],dp:=true,pre:=fun _=>True,fn:=fun x=>(dU x.1,())}
def QE:Gam:=[]
theorem qRz:qi tr0 (Tryz.f109.body.getD .skip)=true:=by kernel_rfl
def v6 (N:Nat):Tab:={tr:=tr0,lp:=lp0,ex:=ex0,rg:=rg0,jn:=jn0,fuel:=N}
theorem qVI (N:Nat):qj Tryz.prog (v6 N):=qn fun _=>rfl
theorem qO0 (N:Nat):qr (v6 N) tr0 lp0 ex0 rg0 jn0 N false:=qt
theorem qPV (N:Nat) (a:Int):qd tt QE (v6 N) (Tryz.f109.body.getD .skip) (qk tt true [i3] [.tmp 2]) (qm [i3] 7 (a,()))=iA N a:=by
 rw [iA];unfold Tryz.f109
 simp -implicitDefEqProofs [qO0]
 try rfl
theorem qYE (n:Int): ∃N,iA N n=some (dU n,()):=⟨0,by
 rw [iA]
 first | rfl | (unfold dU;rfl)⟩
theorem q3t:Sound Tryz.prog 109 pj:=qo (tt:=tt) (Γ:=QE) hT ql hm (fn:=Tryz.f109) Tryz.func109 (c:=Tryz.f109.body.getD .skip) (by kernel_rfl) (by kernel_rfl) fun x a=>by
 obtain ⟨N,h⟩:=qYE x.1
 exact ⟨v6 N,qRz,qp _,qVI N,(qPV N x.1).trans h⟩
def v7:G:={ps:=[i25,i3],rs:=[i3],dp:=true,pre:=fun x=>v5 x.1 x.2.1,fn:=fun x=>(gcX x.1 x.2.1,())}
def mN (N:Nat) (c:Zb) (d:Int) (k2:Int->ZO [i3]):Nat->Int->Int->ZO [i3]
 | 0,_,_=>none
 | n+1,b,a=>bif (!(decide (a=(0:Int))))then (chk (a≠0) (mN N c d k2 n a (b.tmod a)))else (k2 b)
def hN (N:Nat) (b:Zb) (k0:Int->ZO [i3]):Nat->Int->Int->ZO [i3]
 | 0,_,_=>none
 | n+1,c,a=>bif (decide (a<(b.length:Int)))then (chk (0<=a/\a<(b.length:Int)) (mN N b a (fun (d:Int)=>hN N b k0 n d (IntKind.i64.wrap (a+(1:Int)))) N c ((dU ((b.getD a.toNat (qa Zd)):Int)):Int)))else (k0 c)
def v8 (N:Nat) (a:Zb) (b:Int):ZO [i3]:=hN N a (fun (c:Int)=>some (c,())) N ((dU b):Int) (0:Int)
def pk:Gam:=[(109,pj)]
theorem QF:Gam.get pk 109=some pj:=rfl
def v9:List Bool:=[I,O,O,O,O,I,I,I]
def ES:Nm:=⟨v9,[],true⟩
theorem QG:NmS ES v9 [] true:=nmS
def wa:List Bool:=[I,O,O,O,O,I,I]
def ET:Nm:=⟨wa,[],true⟩
theorem QH:NmS ET wa [] true:=nmS
def EU:List Bool:=[O,O,O,O,O,I]
def QI:Nm:=⟨EU,[],true⟩
theorem qSY:NmS QI EU [] true:=nmS
def EV:List Bool:=[I,O,O,O,O,I,I]
def QJ:Nm:=⟨EV,[],true⟩
theorem qZU:NmS QJ EV [] true:=nmS
def wb:Nat->Tree:=fun i=>if i=7 then .quiet 0 (.quiet 1 (.quiet 2 (.quiet 3 (.quiet 4 (.quiet 5 .done)))))else .done
def wc:Nat->Nm:=fun i=>if i=6 then ES else if i=3 then ET else ⟨[],[],false⟩
def we:Nat->Option Nm:=fun i=>if i=0 then some QI else if i=2 then some QJ else none
theorem q2b:qi wb (Tryz.f98.body.getD .skip)=true:=by kernel_rfl
def mO (N:Nat):Tab:={tr:=wb,lp:=wc,ex:=we,rg:=rg0,jn:=jn0,fuel:=N}
theorem qRF (N:Nat):qj Tryz.prog (mO N):=qn fun _=>rfl
theorem po (N:Nat):qr (mO N) wb wc we rg0 jn0 N false:=qt
def QK:Code:=cut [I,I,O,I,I,I,I,O,I,I,I,I] (Tryz.f98.body.getD .skip)
theorem q3l (N:Nat) (a:Zb) (d:Int) {k2:Int->ZO [i3]} {Q:ZQ [i3]} {c:Code} (g:c=QK) (i: ∀st,Q .ret st=qz tt true [i3] [.tmp 4] st) (h2: ∀(f:Int),Q (.exit 2) ⟨[.one (.sl 3 Zd a 0),u,u,u,u,.one (.int .i64 f),.one (.int .i64 d),u,u,u,u,u,u,u,u,u,u,u,u,u,u,u,u,u,u,u,u,u],[]⟩=k2 f): ∀(n:Nat) (b e:Int),qw (qd tt pk (mO N) c) false ES Q n ⟨[.one (.sl 3 Zd a 0),u,u,u,u,.one (.int .i64 b),.one (.int .i64 d),.one (.int .i64 e),u,u,u,u,u,u,u,u,u,u,u,u,u,u,u,u,u,u,u,u],[]⟩=mN N a d k2 n b e:=by
 intro n;induction n with
 | zero=>intros;rfl
 | succ n h=>
   intro b e
   rw [qD,qE g,mN];unfold QK Tryz.f98
   simp -implicitDefEqProofs [po,wb,we,QG,v9,qZU,EV,h2,h]
def QL:Code:=cut [I,I,O,I,I,I] (Tryz.f98.body.getD .skip)
theorem qPH (N:Nat) (b:Zb) {k0:Int->ZO [i3]} {Q:ZQ [i3]} {c:Code} (i:c=QL) (j: ∀st,Q .ret st=qz tt true [i3] [.tmp 4] st) (h: ∀(g:Int),Q (.exit 0) ⟨[u,u,u,u,u,.one (.int .i64 g),u,u,u,u,u,u,u,u,u,u,u,u,u,u,u,u,u,u,u,u,u,u],[]⟩=k0 g): ∀(n:Nat) (d a:Int),qw (qd tt pk (mO N) c) false ET Q n ⟨[.one (.sl 3 Zd b 0),u,u,u,u,.one (.int .i64 d),.one (.int .i64 a),u,u,u,u,u,u,u,u,u,u,u,u,u,u,u,u,u,u,u,u,u],[]⟩=hN N b k0 n d a:=by
 intro n;induction n with
 | zero=>intros;rfl
 | succ n e=>
   intro d a
   rw [qD,qE i];unfold QL Tryz.f98
   simp -implicitDefEqProofs [po,wc,we,QG,v9,qSY,EU,QF,pj,h]
   rewrite [q3l (k2:=(fun (f:Int)=>hN N b k0 n f (IntKind.i64.wrap (a+(1:Int))))) N _ _ ?_ ?_ ?_]
   ·rewrite [hN];first | rfl | simp -implicitDefEqProofs [e]
   ·rfl
   ·intro;simp only [qA,qC,j]
   ·intro f;simp -implicitDefEqProofs [po,QH,wa,e]
theorem qQf (N:Nat) (a:Zb) (b:Int):qd tt pk (mO N) (Tryz.f98.body.getD .skip) (qk tt true [i3] [.tmp 4]) (qm [i25,i3] 28 (a,b,()))=v8 N a b:=by
 unfold Tryz.f98
 simp -implicitDefEqProofs [po,wc,QH,wa,QF,pj]
 rewrite [qPH N _ ?_ ?_ ?_]
 ·rewrite [v8];first | rfl | simp -implicitDefEqProofs []
 ·rfl
 ·intro;simp only [qA,qC,qJ]
 ·intro c;simp -implicitDefEqProofs [po]
theorem QM: ∀(k c:Nat) (g a:Int),a.natAbs<k->a.natAbs<c->kQ k g a=kQ c g a
 | 0,_,_,_,h,_=>by omega
 | _+1,0,_,_,_,h=>by omega
 | k+1,c+1,g,a,h1,h2=>by
   rw [kQ,kQ]
   by_cases b:a=0
   ·rw [if_pos b,if_pos b]
   ·rw [if_neg b,if_neg b]
    have:(g.tmod a).natAbs<a.natAbs:=by rw [Int.natAbs_tmod];exact Nat.mod_lt _ (by omega)
    exact QM k c a (g.tmod a) (by omega) (by omega)
theorem QN {g a:Int} (h: ¬a=0):euc g a=euc a (g.tmod a):=by
 have:(g.tmod a).natAbs<a.natAbs:=by rw [Int.natAbs_tmod];exact Nat.mod_lt _ (by omega)
 rw [euc,kQ,if_neg h]
 exact QM _ _ _ _ this (by omega)
theorem QO (g:Int):euc g 0=g:=rfl
theorem QP (N:Nat) (xs:Zb) (v:Int) (k:Int->ZO [i3]): ∀(n:Nat) (g a:Int),a.natAbs<n->mN N xs v k n g a=k (euc g a)
 | 0,_,_,h=>by omega
 | n+1,g,a,h=>by
   rw [mN]
   by_cases b:a=0
   ·rw [b,QO];rfl
   ·have:(g.tmod a).natAbs<a.natAbs:=by rw [Int.natAbs_tmod];exact Nat.mod_lt _ (by omega)
    rw [b4,qf b,qc b,QP N xs v k n a _ (by omega),QN b]
theorem qWk (n:Int):(dU n).natAbs<=9223372036854775808∨(dU n).natAbs<=n.natAbs:=by
 unfold dU
 rw [IntKind.wrap_i64]
 omega
theorem QQ: ∀(l:List Nat) (x:Nat),x∈l->x<=l.sum
 | [],x,h=>by simp at h
 | y::l,x,h=>by
   rw [List.sum_cons]
   rcases List.mem_cons.1 h with rfl | h
   ·omega
   ·have:=QQ l x h;omega
theorem QR {ρ:Type} {k:Int->Option ρ}: ∀(xs:List Int) (i:Nat) (g:Int),q5 (fun _ x s K=>K (euc s (dU x))) i xs g k=k (ph g xs)
 | [],_,_=>rfl
 | x::xs,i,g=>by rw [q5];dsimp only;rw [QR xs];rfl
theorem qV3 (xs:Zb) (k:Int) (h:v5 xs k): ∃N,v8 N xs k=some (gcX xs k,()):=⟨9223372036854775810+xs.length+(xs.map Int.natAbs).sum,by
 have hs: ∀x∈(xs:List Int),Int.natAbs x<=(xs.map Int.natAbs).sum:=fun x a=>QQ _ _ (List.mem_map.2 ⟨x,a,rfl⟩)
 generalize d:9223372036854775810+xs.length+(xs.map Int.natAbs).sum=N at*
 rw [v8,gcX]
 refine (bp (F:=fun n i s=>hN N xs _ n s i) (step:=fun _ x s K=>K (euc s (dU x))) (k:=fun s=>some (s,())) h (fun n i s b=> ?_) (fun n i s b=> ?_) N _ (by omega)).trans (QR xs 0 _)
 ·rw [hN,qg (by omega),qc (by omega),qB b]
  have a:=hs xs[i] (List.getElem_mem b)
  have h1:=qWk xs[i]
  have e:=QP N xs (i:Int) (fun v=>hN N xs (fun (c:Int)=>some (c,())) n v (IntKind.i64.wrap ((i:Int)+1))) N s (dU xs[i]) (by
   have a:Int.natAbs xs[i]<=(xs.map Int.natAbs).sum:=a
   omega)
  exact e
 ·rw [hN,qf (by omega)]⟩
theorem q1T:Sound Tryz.prog 98 v7:=qo (tt:=tt) (Γ:=pk) hT (qe q3t ql) hm (fn:=Tryz.f98) Tryz.func98 (c:=Tryz.f98.body.getD .skip) (by kernel_rfl) (by kernel_rfl) fun x a=>by
 obtain ⟨N,h⟩:=qV3 x.1 x.2.1 a
 exact ⟨mO N,q2b,qp _,qRF N,(qQf N x.1 x.2.1).trans h⟩
def wg:G:={ps:=[i25,i3,i4],rs:=[i68,i4],dp:=true,pre:=fun x=>mM x.1 x.2.1 x.2.2.1,fn:=fun x=>((fo x.1 x.2.1 x.2.2.1).1,(fo x.1 x.2.1 x.2.2.1).2,())}
def kR (N:Nat) (b:Zb) (c e:Int) (f:Bool) (g:Int) (h:Bool) (k0:(Zb)->ZO [i68,i4]):Nat->Int->(Zb)->ZO [i68,i4]
 | 0,_,_=>none
 | n+1,a,d=>bif (decide (a<(b.length:Int)))then (chk (0<=a/\a<(b.length:Int)) (chk (c≠0) (chk (d.length+([(IntKind.i64.wrap (((b.getD a.toNat (qa Zd)):Int).tdiv c))]:Zb).length<=1048576) (kR N b c e f g h k0 n (IntKind.i64.wrap (a+(1:Int))) (d++([(IntKind.i64.wrap (((b.getD a.toNat (qa Zd)):Int).tdiv c))]:Zb))))))else (k0 d)
def wh (N:Nat) (b:Zb) (a:Int) (c:Bool):ZO [i68,i4]:=chk (v5 b a) (chk ((max (1:Int) ((gcX b a):Int))≠0) (kR N b (max (1:Int) ((gcX b a):Int)) (0:Int) false (IntKind.i64.wrap (a.tdiv (max (1:Int) ((gcX b a):Int)))) c (fun (d:Zb)=>bif (!((qy (d,(IntKind.i64.wrap (a.tdiv (max (1:Int) ((gcX b a):Int)))),c)):Bool))then (some ((([]:Zb),(0:Int),false),false,()))else (some ((d,(IntKind.i64.wrap (a.tdiv (max (1:Int) ((gcX b a):Int)))),c),true,()))) N (0:Int) ([]:Zb)))
def pq:Gam:=[(61,g61),(98,v7)]
theorem QS:Gam.get pq 61=some g61/\Gam.get pq 98=some v7:=⟨rfl,rfl⟩
def wi:List Bool:=[I,O,O,O,O,O,I,O,I,I,I]
def EW:Nm:=⟨wi,[.box 9 0 3 Zd],true⟩
theorem QT:NmS EW wi [.box 9 0 3 Zd] true:=nmS
def EX:List Bool:=[O,O,O,O,O,O,I,O,O,I]
def QU:Nm:=⟨EX,[],true⟩
theorem qRi:NmS QU EX [] true:=nmS
def EY:List Bool:=[I,O,O,O,O,O,I,O,I,I,I]
def QV:Nm:=⟨EY,[],true⟩
theorem qNv:NmS QV EY [] true:=nmS
def wj:Nat->Tree:=fun i=>if i=6 then .quiet 2 (.quiet 3 (.quiet 4 (.quiet 5 (.quiet 6 (.quiet 7 (.alt 0 (.alt 1 (.alt 8 (.alt 9 (.quiet 10 (.alt 11 .done .stop)) .stop) .stop) (.alt 8 (.quiet 1 (.alt 9 (.quiet 10 (.alt 11 .done .stop)) .stop)) .stop)) (.alt 8 (.quiet 0 (.quiet 1 (.alt 9 (.quiet 10 (.alt 11 .done .stop)) .stop))) .stop)))))))else .done
def EZ:Nat->Nm:=fun i=>if i=4 then EW else ⟨[],[],false⟩
def E0:Nat->Option Nm:=fun i=>if i=0 then some QU else none
def pr:Nat->Option Nm:=fun i=>if i=6 then some QV else none
theorem qOU:qi wj (Tryz.f65.body.getD .skip)=true:=by kernel_rfl
def pt (N:Nat):Tab:={tr:=wj,lp:=EZ,ex:=E0,rg:=pr,jn:=jn0,fuel:=N}
theorem qUs (N:Nat):qj Tryz.prog (pt N):=qn fun _=>rfl
theorem E1 (N:Nat):qr (pt N) wj EZ E0 pr jn0 N false:=qt
def QW:Code:=cut [I,I,I,O,I,I,I] (Tryz.f65.body.getD .skip)
theorem qUW (N:Nat) (i:Zb) (j d:Int) (e:Bool) (f:Int) (g:Bool) {k0:(Zb)->ZO [i68,i4]} {Q:ZQ [i68,i4]} {c:Code} (l:c=QW) (o: ∀st,Q .ret st=qz tt true [i68,i4] [.cell 6 68,.tmp 7] st) (k: ∀(h:Zb),Q (.exit 0) ⟨[u,u,u,u,u,u,.one (.ptr 0 0 0),u,u,.one (.ptr 1 0 0),u,u,u,u,u,u,u,u,u,u,u,u,u,u,u,u,u,u,u,u,u,u,u,u,u,u,u,u,u,u,u,u],[.box [.nils,.int .i64 d,.bool e],.box [.own 2,.int .i64 f,.bool g],.row 3 Zd h true true 0]⟩=k0 h): ∀(n:Nat) (b:Int) (a:Zb),qw (qd tt pq (pt N) c) false EW Q n ⟨[.one (.sl 3 Zd i 0),u,u,u,u,u,.one (.ptr 0 0 0),u,.one (.int .i64 j),.one (.ptr 1 0 0),.one (.int .i64 b),u,u,u,u,u,u,u,u,u,u,u,u,u,u,u,u,u,u,u,u,u,u,u,u,u,u,u,u,u,u,u],[.box [.nils,.int .i64 d,.bool e],.box [.own 2,.int .i64 f,.bool g],.row 3 Zd a true true 0]⟩=kR N i j d e f g k0 n b a:=by
 intro n;induction n with
 | zero=>intros;rfl
 | succ n m=>
   intro b a
   rw [qD,qE l,kR];unfold QW Tryz.f65
   simp -implicitDefEqProofs [E1,wj,E0,pr,QT,wi,qRi,EX,qNv,EY,k,m]
theorem qYy (N:Nat) (b:Zb) (a:Int) (c:Bool):qd tt pq (pt N) (Tryz.f65.body.getD .skip) (qk tt true [i68,i4] [.cell 6 68,.tmp 7]) (qm [i25,i3,i4] 42 (b,a,c,()))=wh N b a c:=by
 unfold Tryz.f65
 simp -implicitDefEqProofs [E1,EZ,pr,QT,wi,QS,v7]
 rewrite [qUW (k0:=(fun (d:Zb)=>bif (!((qy (d,(IntKind.i64.wrap (a.tdiv (max (1:Int) ((gcX b a):Int)))),c)):Bool))then (some ((([]:Zb),(0:Int),false),false,()))else (some ((d,(IntKind.i64.wrap (a.tdiv (max (1:Int) ((gcX b a):Int)))),c),true,())))) N _ _ _ _ _ _ ?_ ?_ ?_]
 ·rewrite [wh];first | rfl | simp -implicitDefEqProofs []
 ·rfl
 ·intro;simp only [qA,qC,qJ]
 ·intro d;simp -implicitDefEqProofs [E1,pr,QS,g61]
theorem qW3 (co:Zb) (k:Int) (s:Bool) (h:mM co k s): ∃N,wh N co k s=some ((fo co k s).1,(fo co k s).2,()):=⟨co.length+1,by
 have h:co.length<=1048576:=h
 rw [wh,qc (show v5 co k from h),fo]
 generalize e:max 1 (gcX co k)=g
 have b:g≠0:=by omega
 rw [qc b]
 refine (bp (F:=fun n i a=>kR (co.length+1) co g 0 false (IntKind.i64.wrap (k.tdiv g)) s _ n i a) (step:=fun _ x (s:Zb) K=>chk (s.length+[IntKind.i64.wrap (Int.tdiv x g)].length<=1048576) (K (s++[IntKind.i64.wrap (Int.tdiv x g)]))) (k:=fun (d:Zb)=>bif (!qy (d,IntKind.i64.wrap (k.tdiv g),s))then some ((([]:Zb),(0:Int),false),false,())else some ((d,IntKind.i64.wrap (k.tdiv g),s),true,())) h (fun n i a c=> ?_) (fun n i a c=> ?_) _ [] (Nat.lt_succ_self _)).trans ((iG (f:=fun x=>IntKind.i64.wrap (Int.tdiv x g)) co 0 [] (by simpa using h)).trans ?_)
 ·rw [kR,qg (by omega),qc (by omega),qc b,qB c]
 ·rw [kR,qf (by omega)]
 ·unfold mkX
  rw [List.nil_append,b4]
  cases qy (List.map (α:=Int) (fun x=>IntKind.i64.wrap (x.tdiv g)) co,IntKind.i64.wrap (k.tdiv g),s)with
  | true=>simp only [cond_true]
  | false=>simp only [cond_false]⟩
theorem qRf:Sound Tryz.prog 65 wg:=qo (tt:=tt) (Γ:=pq) hT (qe s61 (qe q1T ql)) hm (fn:=Tryz.f65) Tryz.func65 (c:=Tryz.f65.body.getD .skip) (by kernel_rfl) (by kernel_rfl) fun x a=>by
 obtain ⟨N,h⟩:=qW3 x.1 x.2.1 x.2.2.1 a
 exact ⟨pt N,qOU,qp _,qUs N,(qYy N x.1 x.2.1 x.2.2.1).trans h⟩
theorem QX {n:Int} (h:inI n):dU n=(n.natAbs:Int):=by
 unfold inI at h
 unfold dU
 rw [bn (by omega) (by omega)]
 omega
theorem QY: ∀(b a:Nat),euc (a b:Int)=((Nat.gcd a b:Nat):Int)
 | 0,a=>by rw [show ((0:Nat):Int)=0 from rfl,QO];simp
 | b+1,a=>by
   have hm:((a:Int).tmod ((b+1:Nat):Int))=((a % (b+1):Nat):Int):=by rw [Int.tmod_eq_emod_of_nonneg (by omega)];rfl
   have c:a % (b+1)<b+1:=Nat.mod_lt _ (by omega)
   rw [QN (by omega),hm,QY (a % (b+1)) (b+1)]
   congr 1
   rw [Nat.gcd_comm (b+1),<-Nat.gcd_rec,Nat.gcd_comm]
theorem QZ: ∀(xs:List Int) (g:Nat),(∀x∈xs,inI x)->ph (g:Int) xs=((gL g xs:Nat):Int)
 | [],g,_=>rfl
 | x::xs,g,h=>by
   rw [ph,QX (h x (by simp)),QY,QZ xs _ fun y a=>h y (by simp [a])]
   rfl
theorem q3s {co:Zb} {k:Int} {s:Bool} (h:bx co k s):fo co k s=qx co k s:=by
 obtain ⟨d,hk,a⟩:=h
 have b:gcX co k=((gL k.natAbs co:Nat):Int):=by
  unfold gcX
  rw [QX hk]
  exact QZ co k.natAbs a
 unfold fo qx
 rw [b,show max (1:Int) ((gL k.natAbs co:Nat):Int)=((max 1 (gL k.natAbs co):Nat):Int) by omega]
 generalize max 1 (gL k.natAbs co)=g
 unfold mkX ff
 rw [di hk,show List.map (α:=Int) (fun x=>IntKind.i64.wrap (x.tdiv (g:Int))) co=List.map (α:=Int) (fun x=>x.tdiv (g:Int)) co from List.map_congr_left fun x c=>di (a x c)]
def gH:List Int->Zg->Zh->Zh
 | n::l,r::p,s=>gH l p (bF s (cp (n,(1:Int)) r))
 | _,_,s=>s
def cX (a:Zf) (p:Zg):Zh×Bool:=bif qy a&&cu p (List.length (α:=Int) a.1:Int)then (gH a.1 p (a.2.1,(1:Int)),qh (gH a.1 p (a.2.1,(1:Int))))else (noR,false)
def cz (a:Zf) (p:Zg):Bool×Bool:=bif (cX a p).2 then (decide (((cX a p).1.1:Int)<0)||(decide (((cX a p).1.1:Int)=0)&& !a.2.2),true)else (false,false)
def inN (p:Zg):Ze->Bool->Bool×Bool
 | [],b=>(b,true)
 | a::l,b=>bif (cz a p).2 then inN p l (b&&(cz a p).1)else (false,false)
def inV (c:Zj) (p:Zg):Bool×Bool:=bif qI c&&cu p c.1 then inN p c.2 true else (false,false)
def je (_:Zf) (p:Zg):Prop:=p.length<=1048576
def jf (_:Zf) (p:Zg):Prop:=p.length<=1048576
def fO (c:Zj) (p:Zg):Prop:=b8 c/\p.length<=1048576
def wk:G:={ps:=[i68,i29],rs:=[i28,i4],dp:=true,pre:=fun x=>je x.1 x.2.1,fn:=fun x=>((cX x.1 x.2.1).1,(cX x.1 x.2.1).2,())}
def wm:G:={ps:=[i68,i29],rs:=[i28,i4],dp:=true,pre:=fun x=>je x.1 x.2.1,fn:=fun x=>((cX x.1 x.2.1).1,(cX x.1 x.2.1).2,())}
def jg (N:Nat) (b:Zg) (c:Zb) (f g h:Int) (k0:Int->Int->ZO [i28,i4]):Nat->Int->Int->Int->ZO [i28,i4]
 | 0,_,_,_=>none
 | n+1,a,d,e=>bif (decide (a<f))then (chk (0<=a/\a<(c.length:Int)) (chk (0<=a/\a<(b.length:Int)) (jg N b c f g h k0 n (IntKind.i64.wrap (a+(1:Int))) ((bF (d,e) (cp (((c.getD a.toNat (qa Zd)):Int),(1:Int)) (b.getD a.toNat (qa Y28)))).1:Int) ((bF (d,e) (cp (((c.getD a.toNat (qa Zd)):Int),(1:Int)) (b.getD a.toNat (qa Y28)))).2:Int))))else (k0 d e)
def wo (N:Nat) (a:Zf) (b:Zg):ZO [i28,i4]:=bif (!((qy a):Bool))then (some (((0:Int),(0:Int)),false,()))else (chk (dD b ((a.1:Zb).length:Int)) (bif (!((cu b ((a.1:Zb).length:Int)):Bool))then (some (((0:Int),(0:Int)),false,()))else (jg N b (a.1:Zb) ((a.1:Zb).length:Int) (0 0:Int) (fun (c d:Int)=>some ((c,d),((qh (c,d)):Bool),())) N (0:Int) (a.2.1:Int) (1:Int))))
def jh:Gam:=[(55,g55),(80,g80),(93,g93),(96,g96),(97,g97)]
theorem E2:Gam.get jh 55=some g55/\Gam.get jh 80=some g80/\Gam.get jh 93=some g93/\Gam.get jh 96=some g96/\Gam.get jh 97=some g97:=⟨rfl,rfl,rfl,rfl,rfl⟩
def wq:List Bool:=[O,I,O,O,I,O,I,O,O,O,O,O,O,O,O,O,O,O,O,O,O,O,O,O,O,I,I,I]
def E3:Nm:=⟨wq,[],false⟩
theorem Q0:NmS E3 wq [] false:=nmS
def E4:List Bool:=[O,O,O,O,I,O,I]
def Q1:Nm:=⟨E4,[],false⟩
theorem qRk:NmS Q1 E4 [] false:=nmS
def E5:List Bool:=[O,I,O,O,I,O,I,O,O,O,O,O,O,O,O,O,O,O,O,O,O,O,O,O,O,I,I,I]
def Q2:Nm:=⟨E5,[],false⟩
theorem qZ2:NmS Q2 E5 [] false:=nmS
def E6:List Bool:=[O,O,O,O,I,I]
def Q3:Nm:=⟨E6,[],false⟩
theorem qZV:NmS Q3 E6 [] false:=nmS
def pv:Nat->Tree:=fun i=>if i=7 then .quiet 1 (.quiet 2 (.quiet 3 (.quiet 4 (.quiet 5 (.quiet 6 (.alt 0 (.alt 7 (.alt 8 (.alt 9 .done .stop) .stop) .stop) (.alt 7 (.quiet 0 (.alt 8 (.alt 9 .done .stop) .stop)) .stop)))))))else if i=9 then .quiet 1 (.alt 0 (.alt 2 (.alt 3 (.quiet 4 .done) .stop) .stop) (.alt 2 (.quiet 0 (.alt 3 (.quiet 4 .done) .stop)) .stop))else .done
def E7:Nat->Nm:=fun i=>if i=5 then E3 else ⟨[],[],false⟩
def E8:Nat->Option Nm:=fun i=>if i=0 then some Q1 else none
def pw:Nat->Option Nm:=fun i=>if i=7 then some Q2 else if i=9 then some Q3 else none
theorem qXw:qi pv (Tryz.f132.body.getD .skip)=true:=by kernel_rfl
def px (N:Nat):Tab:={tr:=pv,lp:=E7,ex:=E8,rg:=pw,jn:=jn0,fuel:=N}
theorem qQy (N:Nat):qj Tryz.prog (px N):=qn fun _=>rfl
theorem E9 (N:Nat):qr (px N) pv E7 E8 pw jn0 N false:=qt
def Q4:Code:=cut [I,I,I,O,I,I,I] (Tryz.f132.body.getD .skip)
theorem qWH (N:Nat) (i:Zg) (j:Zb) (k b d:Int) {k0:Int->Int->ZO [i28,i4]} {Q:ZQ [i28,i4]} {c:Code} (m:c=Q4) (p: ∀st,Q .ret st=qz tt true [i28,i4] [.cell 4 28,.tmp 5] st) (l: ∀(g h:Int),Q (.exit 0) ⟨[u,u,u,u,.one (.ptr 0 0 0),u,.one (.ptr 1 0 0),u,u,u,u,u,u,u,u,u,u,u,u,u,u,u,u,u,u,u,u,u,u,u,u,u,u,u,u,u,u,u,u,u,u,u,u,u,u],[.box [.int .i64 b,.int .i64 d],.box [.int .i64 g,.int .i64 h]]⟩=k0 g h): ∀(n:Nat) (a e f:Int),qw (qd tt jh (px N) c) false E3 Q n ⟨[u,.one (.sl 28 Y28 i 2),u,u,.one (.ptr 0 0 0),u,.one (.ptr 1 0 0),u,u,u,u,u,u,u,u,u,u,u,u,u,u,u,u,u,u,.one (.sl 3 Zd j 2),.one (.int .i64 k),.one (.int .i64 a),u,u,u,u,u,u,u,u,u,u,u,u,u,u,u,u,u],[.box [.int .i64 b,.int .i64 d],.box [.int .i64 e,.int .i64 f]]⟩=jg N i j k b d k0 n a e f:=by
 intro n;induction n with
 | zero=>intros;rfl
 | succ n o=>
   intro a e f
   rw [qD,qE m,jg];unfold Q4 Tryz.f132
   simp -implicitDefEqProofs [E9,pv,E8,pw,Q0,wq,qRk,E4,qZ2,E5,E2,g96,g97,l,o]
theorem qVS (N:Nat) (c:Zf) (d:Zg):qd tt jh (px N) (Tryz.f132.body.getD .skip) (qk tt true [i28,i4] [.cell 4 28,.tmp 5]) (qm [i68,i29] 45 (c,d,()))=wo N c d:=by
 unfold Tryz.f132
 simp -implicitDefEqProofs [E9,E7,pw,Q0,wq,E2,g80,g93]
 rewrite [qWH (k0:=(fun (a b:Int)=>some ((a,b),((qh (a,b)):Bool),()))) N _ _ _ _ _ ?_ ?_ ?_]
 ·rewrite [wo];first | rfl | simp -implicitDefEqProofs []
 ·rfl
 ·intro;simp only [qA,qC,qJ]
 ·intro a b;simp -implicitDefEqProofs [E9,pv,pw,qZV,E6,E2,g55]
def ji (N:Nat) (b:Zg) (c:Zb) (f:Int) (g:Bool) (h i:Int) (k0:Int->Int->ZO [i28,i4]):Nat->Int->Int->Int->ZO [i28,i4]
 | 0,_,_,_=>none
 | n+1,a,e,d=>bif (decide (a<(b.length:Int)))then (chk (0<=a/\a<(c.length:Int)) (chk (0<=a/\a<(b.length:Int)) (ji N b c f g h i k0 n (IntKind.i64.wrap (a+(1:Int))) ((bF (e,d) (cp (cm ((c.getD a.toNat (qa Zd)):Int)) (b.getD a.toNat (qa Y28)))).1:Int) ((bF (e,d) (cp (cm ((c.getD a.toNat (qa Zd)):Int)) (b.getD a.toNat (qa Y28)))).2:Int))))else (k0 e d)
def wu (N:Nat) (a:Zf) (b:Zg):ZO [i28,i4]:=bif (!((qy a):Bool))then (some (((0:Int),(0:Int)),false,()))else (chk (dD b ((a.1:Zb).length:Int)) (bif (!((cu b ((a.1:Zb).length:Int)):Bool))then (some (((0:Int),(0:Int)),false,()))else (ji N b (a.1:Zb) (a.2.1:Int) (a.2.2:Bool) (0 0:Int) (fun (c d:Int)=>some ((c,d),((qh (c,d)):Bool),())) N (0:Int) ((cm (a.2.1:Int)).1:Int) ((cm (a.2.1:Int)).2:Int))))
def hP:Gam:=[(41,g41),(43,g43),(61,g61),(74,g74),(77,g77),(78,g78)]
theorem Fa:Gam.get hP 41=some g41/\Gam.get hP 43=some g43/\Gam.get hP 61=some g61/\Gam.get hP 74=some g74/\Gam.get hP 77=some g77/\Gam.get hP 78=some g78:=⟨rfl,rfl,rfl,rfl,rfl,rfl⟩
def wv:List Bool:=[O,I,I,O,I,O,I,I]
def Fb:Nm:=⟨wv,[],false⟩
theorem Q5:NmS Fb wv [] false:=nmS
def Fc:List Bool:=[O,O,O,O,I,O,I]
def Q6:Nm:=⟨Fc,[],false⟩
theorem q1m:NmS Q6 Fc [] false:=nmS
def Fe:List Bool:=[O,I,I,O,I,O,I,I]
def Q7:Nm:=⟨Fe,[],false⟩
theorem q2y:NmS Q7 Fe [] false:=nmS
def Ff:List Bool:=[O,O,O,O,I,I]
def Q8:Nm:=⟨Ff,[],false⟩
theorem qSr:NmS Q8 Ff [] false:=nmS
def py:Nat->Tree:=fun i=>if i=7 then .quiet 1 (.quiet 2 (.quiet 3 (.quiet 4 (.quiet 5 (.first 7 (.first 8 (.alt 0 (.alt 6 (.quiet 9 (.quiet 10 (.alt 11 (.alt 12 (.alt 13 .done .stop) .stop) .stop))) (.alt 9 (.alt 6 (.quiet 10 (.alt 11 (.alt 12 (.alt 13 .done .stop) .stop) .stop)) (.alt 10 (.alt 6 (.alt 11 (.alt 12 (.alt 13 .done .stop) .stop) .stop) .stop) .stop)) .stop)) (.alt 6 (.quiet 9 (.quiet 10 (.alt 0 (.alt 11 (.alt 12 (.alt 13 .done .stop) .stop) .stop) (.alt 11 (.quiet 0 (.alt 12 (.alt 13 .done .stop) .stop)) .stop)))) (.alt 9 (.alt 0 (.alt 6 (.quiet 10 (.alt 11 (.alt 12 (.alt 13 .done .stop) .stop) .stop)) (.alt 10 (.alt 6 (.alt 11 (.alt 12 (.alt 13 .done .stop) .stop) .stop) .stop) .stop)) (.alt 6 (.quiet 10 (.alt 0 (.alt 11 (.alt 12 (.alt 13 .done .stop) .stop) .stop) (.alt 11 (.quiet 0 (.alt 12 (.alt 13 .done .stop) .stop)) .stop))) (.alt 10 (.alt 0 (.alt 6 (.alt 11 (.alt 12 (.alt 13 .done .stop) .stop) .stop) .stop) (.alt 6 (.alt 0 (.alt 11 (.alt 12 (.alt 13 .done .stop) .stop) .stop) (.alt 11 (.quiet 0 (.alt 12 (.alt 13 .done .stop) .stop)) .stop)) .stop)) .stop))) .stop)))))))))else if i=8 then .quiet 1 (.alt 0 (.alt 2 (.alt 3 (.quiet 4 .done) .stop) .stop) (.alt 2 (.quiet 0 (.alt 3 (.quiet 4 .done) .stop)) .stop))else .done
def Fg:Nat->Nm:=fun i=>if i=5 then Fb else ⟨[],[],false⟩
def Fh:Nat->Option Nm:=fun i=>if i=0 then some Q6 else none
def pz:Nat->Option Nm:=fun i=>if i=7 then some Q7 else if i=8 then some Q8 else none
theorem qSz:qi py (Tryz.f107.body.getD .skip)=true:=by kernel_rfl
def pA (N:Nat):Tab:={tr:=py,lp:=Fg,ex:=Fh,rg:=pz,jn:=jn0,fuel:=N}
theorem q1C (N:Nat):qj Tryz.prog (pA N):=qn fun _=>rfl
theorem Fi (N:Nat):qr (pA N) py Fg Fh pz jn0 N false:=qt
def Q9:Code:=cut [I,I,I,O,I,I,I] (Tryz.f107.body.getD .skip)
theorem qWX (N:Nat) (i:Zg) (j:Zb) (k:Int) (l:Bool) (d e:Int) {k0:Int->Int->ZO [i28,i4]} {Q:ZQ [i28,i4]} {c:Code} (o:c=Q9) (q: ∀st,Q .ret st=qz tt true [i28,i4] [.cell 4 28,.tmp 5] st) (m: ∀(g h:Int),Q (.exit 0) ⟨[u,u,u,u,.one (.ptr 0 0 0),u,.one (.ptr 1 0 0),u,u,u,u,u,u,u,u,u,u,u,u,u,u,u,u,u,u,u,u,u,u,u,u,u,u,u,u,u,u,u,u,u,u,u,u,u,u],[.box [.int .i64 d,.int .i64 e],.box [.int .i64 g,.int .i64 h]]⟩=k0 g h): ∀(n:Nat) (b f a:Int),qw (qd tt hP (pA N) c) false Fb Q n ⟨[u,.one (.sl 28 Y28 i 3),.one (.ptr 0 0 0),u,.one (.ptr 1 0 0),u,.one (.ptr 2 0 0),.one (.int .i64 b),u,u,u,u,u,u,u,u,u,u,u,u,u,u,u,u,u,u,u,u,u,u,u,u,u,u,u,u,u,u,u,u,u,u,u,u,u],[.box [.sl 3 Zd j 3,.int .i64 k,.bool l],.box [.int .i64 d,.int .i64 e],.box [.int .i64 f,.int .i64 a]]⟩=ji N i j k l d e k0 n b f a:=by
 intro n;induction n with
 | zero=>intros;rfl
 | succ n p=>
   intro b f a
   rw [qD,qE o,ji];unfold Q9 Tryz.f107
   simp -implicitDefEqProofs [Fi,py,Fh,pz,Q5,wv,q1m,Fc,q2y,Fe,Fa,g74,g77,g78,m,p]
theorem qRX (N:Nat) (c:Zf) (d:Zg):qd tt hP (pA N) (Tryz.f107.body.getD .skip) (qk tt true [i28,i4] [.cell 4 28,.tmp 5]) (qm [i68,i29] 45 (c,d,()))=wu N c d:=by
 unfold Tryz.f107
 simp -implicitDefEqProofs [Fi,Fg,pz,Q5,wv,Fa,g41,g61,g74]
 rewrite [qWX (k0:=(fun (a b:Int)=>some ((a,b),((qh (a,b)):Bool),()))) N _ _ _ _ _ _ ?_ ?_ ?_]
 ·rewrite [wu];first | rfl | simp -implicitDefEqProofs []
 ·rfl
 ·intro;simp only [qA,qC,qJ]
 ·intro a b;simp -implicitDefEqProofs [Fi,py,pz,qSr,Ff,Fa,g43]
def wx:G:={ps:=[i68,i29],rs:=[i4,i4],dp:=true,pre:=fun x=>jf x.1 x.2.1,fn:=fun x=>((cz x.1 x.2.1).1,(cz x.1 x.2.1).2,())}
def g76:G:={ps:=[i68,i29],rs:=[i4,i4],dp:=true,pre:=fun x=>jf x.1 x.2.1,fn:=fun x=>((cz x.1 x.2.1).1,(cz x.1 x.2.1).2,())}
def wy (N:Nat) (a:Zf) (b:Zg):ZO [i4,i4]:=chk (je a b) (bif (!((cX a b).2:Bool))then (some (false,false,()))else (bif (decide ((((cX a b).1).1:Int)<(0:Int)))then (some (true,true,()))else (bif (decide ((((cX a b).1).1:Int)=(0:Int)))then (some ((!(a.2.2:Bool)),true,()))else (some (false,true,())))))
def Fj:Gam:=[(132,wk)]
theorem qXm:Gam.get Fj 132=some wk:=rfl
theorem qW2:qi tr0 (Tryz.f119.body.getD .skip)=true:=by kernel_rfl
def wz (N:Nat):Tab:={tr:=tr0,lp:=lp0,ex:=ex0,rg:=rg0,jn:=jn0,fuel:=N}
theorem q3g (N:Nat):qj Tryz.prog (wz N):=qn fun _=>rfl
theorem qUy (N:Nat):qr (wz N) tr0 lp0 ex0 rg0 jn0 N false:=qt
theorem qSE (N:Nat) (a:Zf) (b:Zg):qd tt Fj (wz N) (Tryz.f119.body.getD .skip) (qk tt true [i4,i4] [.tmp 4,.tmp 5]) (qm [i68,i29] 29 (a,b,()))=wy N a b:=by
 rw [wy];unfold Tryz.f119
 simp -implicitDefEqProofs [qUy,qXm,wk]
 try rfl
def m76 (N:Nat) (a:Zf) (b:Zg):ZO [i4,i4]:=chk (je a b) (bif (!((cX a b).2:Bool))then (some (false,false,()))else (bif (decide ((((cX a b).1).1:Int)<(0:Int)))then (some (true,true,()))else (bif (decide ((((cX a b).1).1:Int)=(0:Int)))then (some ((!(a.2.2:Bool)),true,()))else (some (false,true,())))))
def Γ76:Gam:=[(107,wm)]
theorem qWG:Gam.get Γ76 107=some wm:=rfl
theorem p76:qi tr0 (Tryz.f76.body.getD .skip)=true:=by kernel_rfl
def T76 (N:Nat):Tab:={tr:=tr0,lp:=lp0,ex:=ex0,rg:=rg0,jn:=jn0,fuel:=N}
theorem qQg (N:Nat):qj Tryz.prog (T76 N):=qn fun _=>rfl
theorem qYx (N:Nat):qr (T76 N) tr0 lp0 ex0 rg0 jn0 N false:=qt
theorem qYg (N:Nat) (a:Zf) (b:Zg):qd tt Γ76 (T76 N) (Tryz.f76.body.getD .skip) (qk tt true [i4,i4] [.tmp 4,.tmp 5]) (qm [i68,i29] 29 (a,b,()))=m76 N a b:=by
 rw [m76];unfold Tryz.f76
 simp -implicitDefEqProofs [qYx,qWG,wm]
 try rfl
def g92:G:={ps:=[i35,i29],rs:=[i4,i4],dp:=true,pre:=fun x=>fO x.1 x.2.1,fn:=fun x=>((inV x.1 x.2.1).1,(inV x.1 x.2.1).2,())}
def g40:G:={ps:=[i35,i29],rs:=[i4,i4],dp:=true,pre:=fun x=>fO x.1 x.2.1,fn:=fun x=>((inV x.1 x.2.1).1,(inV x.1 x.2.1).2,())}
def jj (N:Nat) (c:Zg) (b:Ze) (d:Int) (k0:Bool->ZO [i4,i4]):Nat->Bool->Int->ZO [i4,i4]
 | 0,_,_=>none
 | n+1,e,a=>bif (decide (a<d))then (chk (0<=a/\a<(b.length:Int)) (chk (jf (b.getD a.toNat (qa Y68)) c) (bif (!((cz (b.getD a.toNat (qa Y68)) c).2:Bool))then (some (false,false,()))else (bif e then (jj N c b d k0 n ((cz (b.getD a.toNat (qa Y68)) c).1:Bool) (IntKind.i64.wrap (a+(1:Int))))else (jj N c b d k0 n false (IntKind.i64.wrap (a+(1:Int))))))))else (k0 e)
def m92 (N:Nat) (a:Zj) (b:Zg):ZO [i4,i4]:=bif (!((qI a):Bool))then (some (false,false,()))else (chk (dD b (a.1:Int)) (bif (!((cu b (a.1:Int)):Bool))then (some (false,false,()))else (jj N b (a.2:Ze) ((a.2:Ze).length:Int) (fun (c:Bool)=>some (c,true,())) N true (0:Int))))
def Γ92:Gam:=[(45,g45),(93,g93),(119,wx)]
theorem Ra:Gam.get Γ92 45=some g45/\Gam.get Γ92 93=some g93/\Gam.get Γ92 119=some wx:=⟨rfl,rfl,rfl⟩
def wA:List Bool:=[O,I,O,O,O,O,I,O,O,O,O,O,O,O,O,O,O,O,O,O,O,O,I,I,I]
def Fk:Nm:=⟨wA,[],false⟩
theorem Rb:NmS Fk wA [] false:=nmS
def Fl:List Bool:=[O,O,O,O,O,O,I]
def Rc:Nm:=⟨Fl,[],false⟩
theorem qSP:NmS Rc Fl [] false:=nmS
def Fm:Nat->Nm:=fun i=>if i=5 then Fk else ⟨[],[],false⟩
def Fo:Nat->Option Nm:=fun i=>if i=0 then some Rc else none
theorem p92:qi tr0 (Tryz.f92.body.getD .skip)=true:=by kernel_rfl
def T92 (N:Nat):Tab:={tr:=tr0,lp:=Fm,ex:=Fo,rg:=rg0,jn:=jn0,fuel:=N}
theorem qPf (N:Nat):qj Tryz.prog (T92 N):=qn fun _=>rfl
theorem Fp (N:Nat):qr (T92 N) tr0 Fm Fo rg0 jn0 N false:=qt
def Re:Code:=cut [I,I,I,O,I,I,I] (Tryz.f92.body.getD .skip)
theorem q1d (N:Nat) (d:Zg) (e:Ze) (f:Int) {k0:Bool->ZO [i4,i4]} {Q:ZQ [i4,i4]} {c:Code} (i:c=Re) (j: ∀st,Q .ret st=qz tt true [i4,i4] [.tmp 4,.tmp 5] st) (h: ∀(g:Bool),Q (.exit 0) ⟨[u,u,u,u,u,u,.one (.bool g),u,u,u,u,u,u,u,u,u,u,u,u,u,u,u,u,u,u,u,u,u,u,u,u,u,u,u,u,u,u,u,u,u,u,u],[]⟩=k0 g): ∀(n:Nat) (a:Bool) (b:Int),qw (qd tt Γ92 (T92 N) c) false Fk Q n ⟨[u,.one (.sl 28 Y28 d 0),u,u,u,u,.one (.bool a),u,u,u,u,u,u,u,u,u,u,u,u,u,u,u,.one (.sl 68 Y68 e 0),.one (.int .i64 f),.one (.int .i64 b),u,u,u,u,u,u,u,u,u,u,u,u,u,u,u,u,u],[]⟩=jj N d e f k0 n a b:=by
 intro n;induction n with
 | zero=>intros;rfl
 | succ n k=>
   intro a b
   rw [qD,qE i,jj];unfold Re Tryz.f92
   simp -implicitDefEqProofs [Fp,Fo,Rb,wA,qSP,Fl,Ra,wx,j,h,k]
theorem qY4 (N:Nat) (a:Zj) (b:Zg):qd tt Γ92 (T92 N) (Tryz.f92.body.getD .skip) (qk tt true [i4,i4] [.tmp 4,.tmp 5]) (qm [i35,i29] 42 (a,b,()))=m92 N a b:=by
 unfold Tryz.f92
 simp -implicitDefEqProofs [Fp,Fm,Rb,wA,Ra,g45,g93]
 rewrite [q1d (k0:=(fun (c:Bool)=>some (c,true,()))) N _ _ _ ?_ ?_ ?_]
 ·rewrite [m92];first | rfl | simp -implicitDefEqProofs []
 ·rfl
 ·intro;simp only [qA,qC,qJ]
 ·intro c;simp -implicitDefEqProofs [Fp]
def jk (N:Nat) (c:Zg) (e:Int) (b:Ze) (k0:Bool->ZO [i4,i4]):Nat->Bool->Int->ZO [i4,i4]
 | 0,_,_=>none
 | n+1,d,a=>bif (decide (a<(b.length:Int)))then (chk (0<=a/\a<(b.length:Int)) (chk (jf (b.getD a.toNat (qa Y68)) c) (bif (!((cz (b.getD a.toNat (qa Y68)) c).2:Bool))then (some (false,false,()))else (bif d then (jk N c e b k0 n ((cz (b.getD a.toNat (qa Y68)) c).1:Bool) (IntKind.i64.wrap (a+(1:Int))))else (jk N c e b k0 n false (IntKind.i64.wrap (a+(1:Int))))))))else (k0 d)
def m40 (N:Nat) (a:Zj) (b:Zg):ZO [i4,i4]:=chk (b8 a) (bif (!((qI a):Bool))then (some (false,false,()))else (chk (dD b (a.1:Int)) (bif (!((cu b (a.1:Int)):Bool))then (some (false,false,()))else (jk N b (a.1:Int) (a.2:Ze) (fun (c:Bool)=>some (c,true,())) N true (0:Int)))))
def Γ40:Gam:=[(31,g31),(41,g41),(76,g76)]
theorem Rf:Gam.get Γ40 31=some g31/\Gam.get Γ40 41=some g41/\Gam.get Γ40 76=some g76:=⟨rfl,rfl,rfl⟩
def wB:List Bool:=[O,I,I,O,O,O,I,I]
def Fq:Nm:=⟨wB,[],false⟩
theorem Rg:NmS Fq wB [] false:=nmS
def Fs:List Bool:=[O,O,O,O,O,O,I]
def Rh:Nm:=⟨Fs,[],false⟩
theorem qQT:NmS Rh Fs [] false:=nmS
def Ft:Nat->Nm:=fun i=>if i=5 then Fq else ⟨[],[],false⟩
def Fu:Nat->Option Nm:=fun i=>if i=0 then some Rh else none
theorem p40:qi tr0 (Tryz.f40.body.getD .skip)=true:=by kernel_rfl
def T40 (N:Nat):Tab:={tr:=tr0,lp:=Ft,ex:=Fu,rg:=rg0,jn:=jn0,fuel:=N}
theorem qSB (N:Nat):qj Tryz.prog (T40 N):=qn fun _=>rfl
theorem Fv (N:Nat):qr (T40 N) tr0 Ft Fu rg0 jn0 N false:=qt
def Ri:Code:=cut [I,I,I,O,I,I,I] (Tryz.f40.body.getD .skip)
theorem qOY (N:Nat) (d:Zg) (e:Int) (f:Ze) {k0:Bool->ZO [i4,i4]} {Q:ZQ [i4,i4]} {c:Code} (i:c=Ri) (j: ∀st,Q .ret st=qz tt true [i4,i4] [.tmp 4,.tmp 5] st) (h: ∀(g:Bool),Q (.exit 0) ⟨[u,u,u,u,u,u,.one (.bool g),u,u,u,u,u,u,u,u,u,u,u,u,u,u,u,u,u,u,u,u,u,u,u,u,u,u,u,u,u,u,u,u,u,u,u,u,u],[]⟩=k0 g): ∀(n:Nat) (a:Bool) (b:Int),qw (qd tt Γ40 (T40 N) c) false Fq Q n ⟨[u,.one (.sl 28 Y28 d 1),.one (.ptr 0 0 0),u,u,u,.one (.bool a),.one (.int .i64 b),u,u,u,u,u,u,u,u,u,u,u,u,u,u,u,u,u,u,u,u,u,u,u,u,u,u,u,u,u,u,u,u,u,u,u,u],[.box [.int .i64 e,.sl 68 Y68 f 1]]⟩=jk N d e f k0 n a b:=by
 intro n;induction n with
 | zero=>intros;rfl
 | succ n k=>
   intro a b
   rw [qD,qE i,jk];unfold Ri Tryz.f40
   simp -implicitDefEqProofs [Fv,Fu,Rg,wB,qQT,Fs,Rf,g76,j,h,k]
theorem q1f (N:Nat) (a:Zj) (b:Zg):qd tt Γ40 (T40 N) (Tryz.f40.body.getD .skip) (qk tt true [i4,i4] [.tmp 4,.tmp 5]) (qm [i35,i29] 44 (a,b,()))=m40 N a b:=by
 unfold Tryz.f40
 simp -implicitDefEqProofs [Fv,Ft,Rg,wB,Rf,g31,g41]
 rewrite [qOY (k0:=(fun (c:Bool)=>some (c,true,()))) N _ _ _ ?_ ?_ ?_]
 ·rewrite [m40];first | rfl | simp -implicitDefEqProofs []
 ·rfl
 ·intro;simp only [qA,qC,qJ]
 ·intro c;simp -implicitDefEqProofs [Fv]
theorem Rj: ∀(l:List Int) (p:Zg) (s:Zh),(l.zip p).foldl (fun s x=>bF s (cp (x.1,(1:Int)) x.2)) s=gH l p s
 | [],p,s=>by cases p<;>rfl
 | n::l,[],s=>rfl
 | n::l,r::p,s=>Rj l p _
theorem pB {p:Zg} {d:Int} (h:cu p d=true):(p.length:Int)=d/\ ∀r∈p,qh r=true:=by
 unfold cu at h
 simp only [Bool.and_eq_true,decide_eq_true_eq]at h
 exact ⟨h.1,fun r a=>List.all_eq_true.1 h.2 r a⟩
theorem wC {ρ σ α β:Type} {F:Nat->Int->σ->Option ρ} {f:σ->α×β->σ} {k:σ->Option ρ} {l:List α} {p:List β} (h:p.length=l.length) (e:l.length<=1048576) (c: ∀(n i:Nat) (s:σ) (h1:i<l.length) (h2:i<p.length),F (n+1) (i:Int) s=F n (IntKind.i64.wrap ((i:Int)+1)) (f s (l[i],p[i]))) (b: ∀(n i:Nat) (s:σ),l.length<=i->F (n+1) (i:Int) s=k s) (n:Nat) (g:l.length<n) (s:σ):F n 0 s=k ((l.zip p).foldl f s):=by
 have j:(List.zip l p).length=l.length:=by rw [List.length_zip];omega
 refine (bp (xs:=List.zip l p) (step:=fun _ x s a=>a (f s x)) (k:=k) (by omega) (fun n i s d=> ?_) (fun n i s d=>b n i s (by omega)) n s (by omega)).trans (Kg (List.zip l p) 0 s)
 rw [c n i s (by omega) (by omega),List.getElem_zip]
def stV (s:Zh) (x:Zc×Zh):Zh:=bF s (cp (x.1,(1:Int)) x.2)
theorem wD (l:Zb) (p:Zg) (s:Zh):(l.zip p).foldl stV s=gH l p s:=Rj l p s
theorem qR7 (N:Nat) (p:Zg) (l:Zb) (c d:Int) (K:Int->Int->ZO [i28,i4]) (h:p.length=l.length) (e:l.length<=1048576) (n:Nat) (g:l.length<n) (a b:Int):jg N p l (l.length:Int) c d K n 0 a b=K (gH l p (a,b)).1 (gH l p (a,b)).2:=by
 rw [<-wD]
 exact wC (F:=fun n i (s:Zh)=>jg N p l (l.length:Int) c d K n i s.1 s.2) (f:=stV) (k:=fun s=>K s.1 s.2) h e (fun n i s h1 h2=>by
  obtain ⟨s1,s2⟩:=s
  dsimp only
  rw [jg,qg (by omega),qc (by omega),qc (by omega),qB h1,qB h2,stV]) (fun n i s j=>by
  rw [jg,qf (by omega)]) n g (a,b)
theorem qRn (N:Nat) (p:Zg) (l:Zb) (c:Int) (b:Bool) (a d:Int) (K:Int->Int->ZO [i28,i4]) (h:p.length=l.length) (e:l.length<=1048576) (n:Nat) (g:l.length<n) (s1 s2:Int):ji N p l c b a d K n 0 s1 s2=K (gH l p (s1,s2)).1 (gH l p (s1,s2)).2:=by
 rw [<-wD]
 exact wC (F:=fun n i (s:Zh)=>ji N p l c b a d K n i s.1 s.2) (f:=stV) (k:=fun s=>K s.1 s.2) h e (fun n i s h1 h2=>by
  obtain ⟨s1,s2⟩:=s
  dsimp only
  rw [ji,qg (by omega),qc (by omega),qc (by omega),qB h1,qB h2,stV,cm]) (fun n i s j=>by
  rw [ji,qf (by omega)]) n g (s1,s2)
theorem qVw (a:Zf) (p:Zg) (h:je a p): ∃N,wo N a p=some ((cX a p).1,(cX a p).2,()):=⟨List.length (α:=Int) a.1+1,by
 obtain ⟨l,c,b⟩:=a
 change List (Zc)at l
 change Int at c
 change Bool at b
 have h:p.length<=1048576:=h
 rw [wo,cX]
 dsimp only
 cases f:qy (l,c,b)with
 | false=>rfl
 | true=>
   rw [Bool.not_true,cond_false,qc (show dD p _ from h),Bool.true_and]
   have e:((List.length (α:=Int) l:Nat):Int)=(l.length:Int):=rfl
   rw [e]
   cases d:cu p (l.length:Int)with
   | false=>rfl
   | true=>
     have g:=(pB d).1
     rw [Bool.not_true,cond_false,cond_true]
     exact qR7 _ p l 0 0 _ (by omega) (by omega) _ (Nat.lt_succ_self _) _ _⟩
theorem qZh (a:Zf) (p:Zg) (h:je a p): ∃N,wu N a p=some ((cX a p).1,(cX a p).2,()):=⟨List.length (α:=Int) a.1+1,by
 obtain ⟨l,c,b⟩:=a
 change List (Zc)at l
 change Int at c
 change Bool at b
 have h:p.length<=1048576:=h
 rw [wu,cX]
 dsimp only
 cases f:qy (l,c,b)with
 | false=>rfl
 | true=>
   rw [Bool.not_true,cond_false,qc (show dD p _ from h),Bool.true_and]
   have e:((List.length (α:=Int) l:Nat):Int)=(l.length:Int):=rfl
   rw [e]
   cases d:cu p (l.length:Int)with
   | false=>rfl
   | true=>
     have g:=(pB d).1
     rw [Bool.not_true,cond_false,cond_true]
     exact qRn _ p l c b 0 0 _ (by omega) (by omega) _ (Nat.lt_succ_self _) _ _⟩
theorem qZd:Sound Tryz.prog 132 wk:=qo (tt:=tt) (Γ:=jh) hT (qe s55 (qe s80 (qe s93 (qe s96 (qe s97 ql))))) hm (fn:=Tryz.f132) Tryz.func132 (c:=Tryz.f132.body.getD .skip) (by kernel_rfl) (by kernel_rfl) fun x a=>by
 obtain ⟨N,h⟩:=qVw x.1 x.2.1 a
 exact ⟨px N,qXw,qp _,qQy N,(qVS N x.1 x.2.1).trans h⟩
theorem qXO:Sound Tryz.prog 107 wm:=qo (tt:=tt) (Γ:=hP) hT (qe s41 (qe s43 (qe s61 (qe s74 (qe s77 (qe s78 ql)))))) hm (fn:=Tryz.f107) Tryz.func107 (c:=Tryz.f107.body.getD .skip) (by kernel_rfl) (by kernel_rfl) fun x a=>by
 obtain ⟨N,h⟩:=qZh x.1 x.2.1 a
 exact ⟨pA N,qSz,qp _,q1C N,(qRX N x.1 x.2.1).trans h⟩
theorem Rk (v:Int) (b s:Bool):(bif !b then some (false,false,())else bif decide (v<0)then some (true,true,())else bif decide (v=0)then some (!s,true,())else some (false,true,()):Option (Bool×Bool×Unit))=some ((bif b then (decide (v<0)||(decide (v=0)&& !s),true)else (false,false)).1,(bif b then (decide (v<0)||(decide (v=0)&& !s),true)else (false,false)).2,()):=by
 cases b<;>cases decide (v<0)<;>cases decide (v=0)<;>rfl
theorem q02 (a:Zf) (p:Zg) (h:jf a p): ∃N,wy N a p=some ((cz a p).1,(cz a p).2,()):=⟨0,by
 rw [wy,qc (show je a p from h)]
 exact Rk _ _ _⟩
theorem e76 (a:Zf) (p:Zg) (h:jf a p): ∃N,m76 N a p=some ((cz a p).1,(cz a p).2,()):=⟨0,by
 rw [m76,qc (show je a p from h)]
 exact Rk _ _ _⟩
theorem qRY:Sound Tryz.prog 119 wx:=qo (tt:=tt) (Γ:=Fj) hT (qe qZd ql) hm (fn:=Tryz.f119) Tryz.func119 (c:=Tryz.f119.body.getD .skip) (by kernel_rfl) (by kernel_rfl) fun x a=>by
 obtain ⟨N,h⟩:=q02 x.1 x.2.1 a
 exact ⟨wz N,qW2,qp _,q3g N,(qSE N x.1 x.2.1).trans h⟩
theorem s76:Sound Tryz.prog 76 g76:=qo (tt:=tt) (Γ:=Γ76) hT (qe qXO ql) hm (fn:=Tryz.f76) Tryz.func76 (c:=Tryz.f76.body.getD .skip) (by kernel_rfl) (by kernel_rfl) fun x a=>by
 obtain ⟨N,h⟩:=e76 x.1 x.2.1 a
 exact ⟨T76 N,p76,qp _,qQg N,(qYg N x.1 x.2.1).trans h⟩
theorem Fw (p:Zg): ∀(l:Ze) (i:Nat) (b:Bool),q5 (fun _ x (b:Bool) K=>bif (cz x p).2 then K (b&&(cz x p).1)else some (false,false,())) i l b (fun b=>(some (b,true,()):Option (Bool×Bool×Unit)))=some ((inN p l b).1,(inN p l b).2,())
 | [],_,_=>rfl
 | x::l,i,b=>by
   rw [q5,inN]
   dsimp only
   cases (cz x p).2 with
   | false=>rfl
   | true=>rw [cond_true,cond_true];exact Fw p l (i+1) _
theorem e92 (c:Zj) (p:Zg) (h:fO c p): ∃N,m92 N c p=some ((inV c p).1,(inV c p).2,()):=⟨List.length (α:=Zf) c.2+1,by
 rw [m92,inV]
 cases d:qI c with
 | false=>rfl
 | true=>
   rw [Bool.not_true,cond_false,qc (show dD p _ from h.2)]
   cases f:cu p c.1 with
   | false=>rfl
   | true=>
     have e:=(bB d).2.1
     rw [Bool.not_true,cond_false]
     refine (bp (xs:=(c.2:Ze)) (F:=fun n i (b:Bool)=>jj _ p c.2 _ _ n b i) (step:=fun _ x (b:Bool) K=>bif (cz x p).2 then K (b&&(cz x p).1)else some (false,false,())) (k:=fun b=>some (b,true,())) (Nat.le_trans e (by decide)) (fun n i b a=> ?_) (fun n i b a=> ?_) _ true (Nat.lt_succ_self _)).trans (Fw p c.2 0 true)
     ·rw [jj,qg (by omega),qc (by omega),qB a,qc (show jf _ p from h.2)]
      cases (cz _ p).2<;>cases b<;>rfl
     ·rw [jj,qf (by omega)]⟩
theorem e40 (c:Zj) (p:Zg) (h:fO c p): ∃N,m40 N c p=some ((inV c p).1,(inV c p).2,()):=⟨List.length (α:=Zf) c.2+1,by
 rw [m40,qc (show b8 c from h.1),inV]
 cases d:qI c with
 | false=>rfl
 | true=>
   rw [Bool.not_true,cond_false,qc (show dD p _ from h.2)]
   cases f:cu p c.1 with
   | false=>rfl
   | true=>
     have e:=(bB d).2.1
     rw [Bool.not_true,cond_false]
     refine (bp (xs:=(c.2:Ze)) (F:=fun n i (b:Bool)=>jk _ p _ c.2 _ n b i) (step:=fun _ x (b:Bool) K=>bif (cz x p).2 then K (b&&(cz x p).1)else some (false,false,())) (k:=fun b=>some (b,true,())) (Nat.le_trans e (by decide)) (fun n i b a=> ?_) (fun n i b a=> ?_) _ true (Nat.lt_succ_self _)).trans (Fw p c.2 0 true)
     ·rw [jk,qg (by omega),qc (by omega),qB a,qc (show jf _ p from h.2)]
      cases (cz _ p).2<;>cases b<;>rfl
     ·rw [jk,qf (by omega)]⟩
theorem s92:Sound Tryz.prog 92 g92:=qo (tt:=tt) (Γ:=Γ92) hT (qe s45 (qe s93 (qe qRY ql))) hm (fn:=Tryz.f92) Tryz.func92 (c:=Tryz.f92.body.getD .skip) (by kernel_rfl) (by kernel_rfl) fun x a=>by
 obtain ⟨N,h⟩:=e92 x.1 x.2.1 a
 exact ⟨T92 N,p92,qp _,qPf N,(qY4 N x.1 x.2.1).trans h⟩
theorem s40:Sound Tryz.prog 40 g40:=qo (tt:=tt) (Γ:=Γ40) hT (qe s31 (qe s41 (qe s76 ql))) hm (fn:=Tryz.f40) Tryz.func40 (c:=Tryz.f40.body.getD .skip) (by kernel_rfl) (by kernel_rfl) fun x a=>by
 obtain ⟨N,h⟩:=e40 x.1 x.2.1 a
 exact ⟨T40 N,p40,qp _,qSB N,(q1f N x.1 x.2.1).trans h⟩
end
end Go.T
