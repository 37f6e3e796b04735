/- Normal cells: the reference's. -/
import Derived.Test.YthefcjjgchekiaaGreatB4
set_option linter.unusedSimpArgs false
set_option linter.unusedVariables false
namespace Go.T
open Go Go.Proofs
set_option maxHeartbeats 4000000
set_option maxRecDepth 100000
def qbJ (a:Val qa):Bool:= !qaz a
def qgY (a:Val qa):Prop:=okA a
def qgF (a:Val qa):Bool:=decide ((a.2.1:Int)<0)||(decide ((a.2.1:Int)=0)&& !a.2.2)
def gLv (a:Val qa):Int:=(gL 0 (atm a).1:Nat)
def qfj (a:Val qa):Prop:=okA a
def qlP (a b:Val qa):Bool:=decide (qbp (atm b) (atm a)≤0)
def qrH (a b:Val qa):Prop:=okA a∧okA b∧way (atm b) (atm a)=0
def qiY (l:List (Val qa)) (a:Val qa):List (Val qa):=qba l a
def qjA (l:List (Val qa)) (a:Val qa):Prop:=l.length≤1048575∧okA a∧ ∀b∈l,okA b∧List.length (α:=Int) b.1=List.length (α:=Int) a.1
theorem zfn (c:Int) (h s:Bool):(!h&&(decide (0<c)||(decide (c=0)&&s)))=(!h&& !(decide (c<0)||(decide (c=0)&& !s))):=by
 by_cases h1:c<0
 ·have h2: ¬(0:Int)<c:=by omega
  have h3: ¬c=0:=by omega
  simp [h1,h2,h3]
 ·by_cases h2:c=0
  ·simp [h2]
  ·have h3:(0:Int)<c:=by omega
   simp [h1,h2,h3]
theorem zfY (p q:Int) (s t:Bool):decide ((if sgI (p - q)=0 then (if t=s then 0 else if t then 1 else -1)else sgI (p - q))≤(0:Int))=(decide (p<q)||(decide (q=p)&&(s|| !t))):=by
 unfold sgI
 by_cases c1:p<q
 ·have c2:p - q<0:=by omega
  simp [c1,c2]
 ·by_cases c2:q=p
  ·subst c2
   cases s<;>cases t<;>simp
  ·have c3: ¬p - q<0:=by omega
   have c4:0<p - q:=by omega
   rw [if_neg c3,if_pos c4,if_neg (by omega)]
   simp [c1,c2]
theorem zsn (a:Val qa):qc3 a=(qbJ a&& !qgF a):=zfn a.2.1 (qaz a) a.2.2
def qcj:G:={ps:=[ql],rs:=[i4],dp:=true,pre:=fun x=>qgY x.1,fn:=fun x=>(qbJ x.1,())}
noncomputable def qhW (N:Nat) (v2:List (Val (.int .i64))) (v3:Int) (v4:Bool) (k0:Unit→Option (qc [i4])):Nat→Int→Option (qc [i4])
 | 0,_=>none
 | n+1,v1=>bif (decide (v1<(v2.length:Int)))then (chk (0≤v1∧v1<(v2.length:Int)) (bif (!(decide (((v2.getD v1.toNat (qb (.int .i64))):Int)=(0:Int))))then (some (false,()))else (qhW N v2 v3 v4 k0 n (IntKind.i64.wrap (v1+(1:Int))))))else (k0 ())
noncomputable def qza (N:Nat) (v0:Val qa):Option (qc [i4]):=qhW N (v0.1:List (Val (.int .i64))) (v0.2.1:Int) (v0.2.2:Bool) (fun (_:Unit)=>some (true,())) N (0:Int)
def qpU:Gam:=[]
def qvJ:Nm:=⟨[false,true,false,true],[],false⟩
theorem qNK:qvJ.zero=false:=rfl
theorem q08:qvJ.fix=[]:=rfl
theorem qH4:qvJ.keep=[false,true,false,true]:=rfl
def qAu:Nm:=⟨[],[],false⟩
theorem qQ9:qAu.zero=false:=rfl
theorem qYZ:qAu.fix=[]:=rfl
theorem qX2:qAu.keep=[]:=rfl
def qmP:Nat→Tree:=fun _=> .done
def qsz:Nat→Nm:=fun i=>if i=2 then qvJ else ⟨[],[],false⟩
def qp7:Nat→Option Jn:=fun _=>none
def qwl:Nat→Option Nm:=fun i=>if i=0 then some qAu else none
def qy6:Nat→Option Nm:=fun _=>none
theorem zxq:qh qmP (Tryz.f229.body.getD .skip)=true:=by kernel_rfl
def qdl (N:Nat):Tab:={tr:=qmP,lp:=qsz,ex:=qwl,rg:=qy6,jn:=qp7,fuel:=N}
theorem qWv (N:Nat):(qdl N).pins=false:=rfl
theorem zy9 (N:Nat):qk Tryz.prog (qdl N):=qo fun _=>rfl
theorem qQ6 (N:Nat) (i:Nat):(qdl N).tr i=qmP i:=rfl
theorem q4Q (N:Nat) (i:Nat):(qdl N).lp i=qsz i:=rfl
theorem qNO (N:Nat) (i:Nat):(qdl N).ex i=qwl i:=rfl
theorem qXC (N:Nat) (i:Nat):(qdl N).rg i=qy6 i:=rfl
theorem qXE (N:Nat) (i:Nat):(qdl N).jn i=qp7 i:=rfl
theorem q1G (N:Nat):(qdl N).fuel=N:=rfl
noncomputable def q59:Code:=cut [true,false,true,true,true] (Tryz.f229.body.getD .skip)
theorem zkw {N:Nat} {Q:X→St→Option (qc [i4])} {e:List LV} {h:List Blk}:qf tt qpU (qdl N) q59 Q ⟨e,h⟩=qf tt qpU (qdl N) (cut [true,false,true,true,true] (Tryz.f229.body.getD .skip)) Q ⟨e,h⟩:=rfl
theorem zAR (N:Nat) (v2:List (Val (.int .i64))) (v3:Int) (v4:Bool) {k0:Unit→Option (qc [i4])} {Q:X→St→Option (qc [i4])} {c:Code} (hc:c=q59) (hret: ∀st,Q .ret st=qC tt true [i4] [.tmp 2] st) (h0:Q (.exit 0) ⟨[u,u,u,u,u,u,u,u,u,u,u,u,u,u,u,u,u],[]⟩=k0 ()): ∀(n:Nat) (v1:Int),qD (qf tt qpU (qdl N) c) false qvJ Q n ⟨[u,.one (.ptr 0 0 0),u,.one (.int .i64 v1),u,u,u,u,u,u,u,u,u,u,u,u,u],[.box [.sl 3 (.int .i64) v2 1,.int .i64 v3,.bool v4]]⟩=qhW N v2 v3 v4 k0 n v1:=by
 subst hc;intro n;induction n with
 | zero=>intros;rfl
 | succ n ih=>
   intro v1
   rw [qN,zkw,qhW];unfold Tryz.f229
   simp (maxSteps:=10000000) -implicitDefEqProofs [qQ6,qmP,q4Q,qsz,qNO,qwl,qXC,qy6,qXE,qp7,q1G,qWv,q08,qH4,qNK,qYZ,qX2,qQ9,hret,h0,ih]
theorem zk3 (N:Nat) (v0:Val qa):qf tt qpU (qdl N) (Tryz.f229.body.getD .skip) (qm tt true [i4] [.tmp 2]) (qp [ql] 17 (v0,()))=qza N v0:=by
 unfold Tryz.f229
 simp (maxSteps:=10000000) -implicitDefEqProofs [qQ6,qmP,q4Q,qsz,qNO,qwl,qXC,qy6,qXE,qp7,q1G,qWv,q08,qH4,qNK,qYZ,qX2,qQ9]
 rewrite [zAR (k0:=(fun (_:Unit)=>some (true,()))) N _ _ _ ?_ ?_ ?_]
 ·rewrite [qza];first | rfl | simp (maxSteps:=10000000) -implicitDefEqProofs []
 ·rfl
 ·intro;simp only [qK,qL,qJ,qB]
 ·simp (maxSteps:=10000000) -implicitDefEqProofs [qQ6,qmP,q4Q,qsz,qNO,qwl,qXC,qy6,qXE,qp7,q1G,qWv,q08,qH4,qNK,qYZ,qX2,qQ9]
noncomputable def qDD (N:Nat) (v0:Val qa):Option (qc [i4]):=bif (decide ((v0.2.1:Int)<(0:Int)))then (some (true,()))else (bif (decide ((v0.2.1:Int)=(0:Int)))then (some ((!(v0.2.2:Bool)),()))else (some (false,())))
def za3:Gam:=[]
def qC8:Nat→Tree:=fun _=> .done
def qVm:Nat→Nm:=fun _=>⟨[],[],false⟩
def q25:Nat→Option Jn:=fun _=>none
def qY0:Nat→Option Nm:=fun _=>none
def qUD:Nat→Option Nm:=fun _=>none
theorem zom:qh qC8 (Tryz.f232.body.getD .skip)=true:=by kernel_rfl
def qgn (N:Nat):Tab:={tr:=qC8,lp:=qVm,ex:=qY0,rg:=qUD,jn:=q25,fuel:=N}
theorem zsH (N:Nat):(qgn N).pins=false:=rfl
theorem zok (N:Nat):qk Tryz.prog (qgn N):=qo fun _=>rfl
theorem zl9 (N:Nat) (i:Nat):(qgn N).tr i=qC8 i:=rfl
theorem zjd (N:Nat) (i:Nat):(qgn N).lp i=qVm i:=rfl
theorem zgi (N:Nat) (i:Nat):(qgn N).ex i=qY0 i:=rfl
theorem zou (N:Nat) (i:Nat):(qgn N).rg i=qUD i:=rfl
theorem ze0 (N:Nat) (i:Nat):(qgn N).jn i=q25 i:=rfl
theorem zn8 (N:Nat):(qgn N).fuel=N:=rfl
theorem ztp (N:Nat) (v0:Val qa):qf tt za3 (qgn N) (Tryz.f232.body.getD .skip) (qm tt true [i4] [.tmp 2]) (qp [ql] 16 (v0,()))=qDD N v0:=by
 rw [qDD];unfold Tryz.f232
 simp (maxSteps:=10000000) -implicitDefEqProofs [zl9,qC8,zjd,qVm,zgi,qY0,zou,qUD,ze0,q25,zn8,zsH]
 try rfl
theorem zjf (N:Nat) (xs:List (Val (.int .i64))) (c:Int) (b:Bool) (K:Unit→Option (qc [i4])) (hl:xs.length≤1048576) (n:Nat) (hn:xs.length<n):qhW N xs c b K n 0=bif List.all (α:=Int) xs (fun x=>decide (x=0))then K ()else some (false,()):=
 (qaZ (F:=fun n i (_:Unit)=>qhW N xs c b K n i) (step:=fun _ x _ K=>bif decide (x=0)then K ()else some (false,())) (k:=K) hl (fun n i s hi=>by rw [qhW,qj (by omega),qe (by omega),qI hi,qbi]) (fun n i s hi=>by rw [qhW,qi (by omega)]) n () hn).trans (qgM xs 0)
theorem zjw (a:Val qa) (h:qgY a): ∃N,qza N a=some (qbJ a,()):=⟨List.length (α:=Val (.int .i64)) a.1+1,by
 have h4:=(qbb h).1
 rw [qza,zjf _ _ _ _ _ (by omega) _ (Nat.lt_succ_self _)]
 have e:qbJ a=List.all (α:=Int) a.1 (fun x=>decide (x=0)):=by
  unfold qbJ qaz
  rw [Bool.eq_iff_iff]
  simp only [Bool.not_eq_true',decide_eq_false_iff_not,List.all_eq_true,decide_eq_true_eq,Decidable.not_not,ne_eq]
  exact q1w
 rw [e]
 cases List.all (α:=Int) a.1 (fun x=>decide (x=0))<;>rfl⟩
theorem qBQ:Sound Tryz.prog 229 qcj:=qr (tt:=tt) (Γ:=qpU) hT qn hm (fn:=Tryz.f229) Tryz.func229 (c:=Tryz.f229.body.getD .skip) (by kernel_rfl) (by kernel_rfl) fun x hx=>by
 obtain ⟨N,h⟩:=zjw x.1 hx
 exact ⟨qdl N,zxq,qu _,zy9 N,(zk3 N x.1).trans h⟩
def qe7:G:={ps:=[ql],rs:=[i4],dp:=true,pre:=fun _=>True,fn:=fun x=>(qgF x.1,())}
theorem zg6 (a:Val qa): ∃N,qDD N a=some (qgF a,()):=⟨0,by
 rw [qDD,qgF]
 by_cases h1:(a.2.1:Int)<0<;>by_cases h2:(a.2.1:Int)=0<;>simp [h1,h2]⟩
theorem q5J:Sound Tryz.prog 232 qe7:=qr (tt:=tt) (Γ:=za3) hT qn hm (fn:=Tryz.f232) Tryz.func232 (c:=Tryz.f232.body.getD .skip) (by kernel_rfl) (by kernel_rfl) fun x hx=>by
 obtain ⟨N,h⟩:=zg6 x.1
 exact ⟨qgn N,zom,qu _,zok N,(ztp N x.1).trans h⟩
def qgW:G:={ps:=[ql],rs:=[i3],dp:=true,pre:=fun x=>qfj x.1,fn:=fun x=>(gLv x.1,())}
noncomputable def qB4 (N:Nat) (v0:Val qa):Option (qc [i3]):=chk (qfC (v0.1:List (Val (.int .i64))) (0:Int)) (some (((qcI (v0.1:List (Val (.int .i64))) (0:Int)):Int),()))
def qX8:Gam:=[(231,qc0)]
theorem zi9:Gam.get qX8 231=some qc0:=rfl
def qzG:Nat→Tree:=fun _=> .done
def qTU:Nat→Nm:=fun _=>⟨[],[],false⟩
def qQU:Nat→Option Jn:=fun _=>none
def qL9:Nat→Option Nm:=fun _=>none
def qVJ:Nat→Option Nm:=fun _=>none
theorem zj4:qh qzG (Tryz.f319.body.getD .skip)=true:=by kernel_rfl
def qgj (N:Nat):Tab:={tr:=qzG,lp:=qTU,ex:=qL9,rg:=qVJ,jn:=qQU,fuel:=N}
theorem zna (N:Nat):(qgj N).pins=false:=rfl
theorem znZ (N:Nat):qk Tryz.prog (qgj N):=qo fun _=>rfl
theorem zBr (N:Nat) (i:Nat):(qgj N).tr i=qzG i:=rfl
theorem zp6 (N:Nat) (i:Nat):(qgj N).lp i=qTU i:=rfl
theorem zen (N:Nat) (i:Nat):(qgj N).ex i=qL9 i:=rfl
theorem zep (N:Nat) (i:Nat):(qgj N).rg i=qVJ i:=rfl
theorem zyA (N:Nat) (i:Nat):(qgj N).jn i=qQU i:=rfl
theorem znt (N:Nat):(qgj N).fuel=N:=rfl
theorem zuD (N:Nat) (v0:Val qa):qf tt qX8 (qgj N) (Tryz.f319.body.getD .skip) (qm tt true [i3] [.tmp 2]) (qp [ql] 6 (v0,()))=qB4 N v0:=by
 rw [qB4];unfold Tryz.f319
 simp (maxSteps:=10000000) -implicitDefEqProofs [zBr,qzG,zp6,qTU,zen,qL9,zep,qVJ,zyA,qQU,znt,zna,zi9,qc0]
 try rfl
theorem zww (a:Val qa) (h:qfj a): ∃N,qB4 N a=some (gLv a,()):=⟨0,by
 rw [qB4,qe (show qfC a.1 0 from ⟨(qGL h).1,by unfold inI;omega,(qGL h).2⟩)];rfl⟩
theorem q7R:Sound Tryz.prog 319 qgW:=qr (tt:=tt) (Γ:=qX8) hT (qg qJV qn) hm (fn:=Tryz.f319) Tryz.func319 (c:=Tryz.f319.body.getD .skip) (by kernel_rfl) (by kernel_rfl) fun x hx=>by
 obtain ⟨N,h⟩:=zww x.1 hx
 exact ⟨qgj N,zj4,qu _,znZ N,(zuD N x.1).trans h⟩
theorem qzs (a:Val qa):max (1:Int) (gLv a)=gSv a:=by unfold gLv gSv gS;omega
noncomputable def qmB (N:Nat) (v2:Int) (v3:Int) (v5:List (Val (.int .i64))) (v6:Int) (v7:Bool) (v8:List (Val (.int .i64))) (v9:Int) (v10:Bool) (k0:Unit→Option (qc [i3])):Nat→Int→Option (qc [i3])
 | 0,_=>none
 | n+1,v4=>bif (decide (v4<(v5.length:Int)))then (bif (decide (v4<(v8.length:Int)))then (chk (0≤v4∧v4<(v5.length:Int)) (chk (v2≠0) (chk (0≤v4∧v4<(v8.length:Int)) (chk (v3≠0) (bif (!(decide ((IntKind.i64.wrap (((v5.getD v4.toNat (qb (.int .i64))):Int).tdiv v2))=(IntKind.i64.wrap (((v8.getD v4.toNat (qb (.int .i64))):Int).tdiv v3)))))then (bif (decide ((IntKind.i64.wrap (((v5.getD v4.toNat (qb (.int .i64))):Int).tdiv v2))<(IntKind.i64.wrap (((v8.getD v4.toNat (qb (.int .i64))):Int).tdiv v3))))then (some ((-1:Int),()))else (some ((1:Int),())))else (qmB N v2 v3 v5 v6 v7 v8 v9 v10 k0 n (IntKind.i64.wrap (v4+(1:Int)))))))))else (k0 ()))else (k0 ())
noncomputable def qDR (N:Nat) (v0:Val qa) (v1:Val qa):Option (qc [i3]):=chk (qfj v0) (chk (qfj v1) (qmB N (max (1:Int) ((gLv v0):Int)) (max (1:Int) ((gLv v1):Int)) (v0.1:List (Val (.int .i64))) (v0.2.1:Int) (v0.2.2:Bool) (v1.1:List (Val (.int .i64))) (v1.2.1:Int) (v1.2.2:Bool) (fun (_:Unit)=>some ((0:Int),())) N (0:Int)))
def qnb:Gam:=[(319,qgW)]
theorem qQT:Gam.get qnb 319=some qgW:=rfl
def qqZ:Nm:=⟨[false,false,true,true,false,true,true,true],[],false⟩
theorem qMh:qqZ.zero=false:=rfl
theorem qU6:qqZ.fix=[]:=rfl
theorem qQB:qqZ.keep=[false,false,true,true,false,true,true,true]:=rfl
def qHw:Nm:=⟨[],[],false⟩
theorem qX7:qHw.zero=false:=rfl
theorem qYj:qHw.fix=[]:=rfl
theorem qPT:qHw.keep=[]:=rfl
def qoo:Nat→Tree:=fun _=> .done
def qwr:Nat→Nm:=fun i=>if i=4 then qqZ else ⟨[],[],false⟩
def qr8:Nat→Option Jn:=fun _=>none
def qqb:Nat→Option Nm:=fun i=>if i=0 then some qHw else none
def qvZ:Nat→Option Nm:=fun _=>none
theorem zhD:qh qoo (Tryz.f291.body.getD .skip)=true:=by kernel_rfl
def qdm (N:Nat):Tab:={tr:=qoo,lp:=qwr,ex:=qqb,rg:=qvZ,jn:=qr8,fuel:=N}
theorem qH6 (N:Nat):(qdm N).pins=false:=rfl
theorem zrr (N:Nat):qk Tryz.prog (qdm N):=qo fun _=>rfl
theorem qKz (N:Nat) (i:Nat):(qdm N).tr i=qoo i:=rfl
theorem qL5 (N:Nat) (i:Nat):(qdm N).lp i=qwr i:=rfl
theorem qKb (N:Nat) (i:Nat):(qdm N).ex i=qqb i:=rfl
theorem qIM (N:Nat) (i:Nat):(qdm N).rg i=qvZ i:=rfl
theorem qIK (N:Nat) (i:Nat):(qdm N).jn i=qr8 i:=rfl
theorem qUq (N:Nat):(qdm N).fuel=N:=rfl
noncomputable def q82:Code:=cut [true,true,true,false,true,true,true] (Tryz.f291.body.getD .skip)
theorem zx4 {N:Nat} {Q:X→St→Option (qc [i3])} {e:List LV} {h:List Blk}:qf tt qnb (qdm N) q82 Q ⟨e,h⟩=qf tt qnb (qdm N) (cut [true,true,true,false,true,true,true] (Tryz.f291.body.getD .skip)) Q ⟨e,h⟩:=rfl
theorem zfr (N:Nat) (v2:Int) (v3:Int) (v5:List (Val (.int .i64))) (v6:Int) (v7:Bool) (v8:List (Val (.int .i64))) (v9:Int) (v10:Bool) {k0:Unit→Option (qc [i3])} {Q:X→St→Option (qc [i3])} {c:Code} (hc:c=q82) (hret: ∀st,Q .ret st=qC tt true [i3] [.tmp 4] st) (h0:Q (.exit 0) ⟨[u,u,u,u,u,u,u,u,u,u,u,u,u,u,u,u,u,u,u,u,u,u,u,u,u,u,u,u,u,u,u,u,u,u,u,u,u,u,u,u,u,u,u,u,u,u,u,u,u,u],[]⟩=k0 ()): ∀(n:Nat) (v4:Int),qD (qf tt qnb (qdm N) c) false qqZ Q n ⟨[u,u,.one (.ptr 0 0 0),.one (.ptr 1 0 0),u,.one (.int .i64 v2),.one (.int .i64 v3),.one (.int .i64 v4),u,u,u,u,u,u,u,u,u,u,u,u,u,u,u,u,u,u,u,u,u,u,u,u,u,u,u,u,u,u,u,u,u,u,u,u,u,u,u,u,u,u],[.box [.sl 3 (.int .i64) v5 2,.int .i64 v6,.bool v7],.box [.sl 3 (.int .i64) v8 2,.int .i64 v9,.bool v10]]⟩=qmB N v2 v3 v5 v6 v7 v8 v9 v10 k0 n v4:=by
 subst hc;intro n;induction n with
 | zero=>intros;rfl
 | succ n ih=>
   intro v4
   rw [qN,zx4,qmB];unfold Tryz.f291
   simp (maxSteps:=10000000) -implicitDefEqProofs [qKz,qoo,qL5,qwr,qKb,qqb,qIM,qvZ,qIK,qr8,qUq,qH6,qU6,qQB,qMh,qYj,qPT,qX7,qQT,qgW,hret,h0,ih]
theorem zxx (N:Nat) (v0:Val qa) (v1:Val qa):qf tt qnb (qdm N) (Tryz.f291.body.getD .skip) (qm tt true [i3] [.tmp 4]) (qp [ql,ql] 50 (v0,v1,()))=qDR N v0 v1:=by
 unfold Tryz.f291
 simp (maxSteps:=10000000) -implicitDefEqProofs [qKz,qoo,qL5,qwr,qKb,qqb,qIM,qvZ,qIK,qr8,qUq,qH6,qU6,qQB,qMh,qYj,qPT,qX7,qQT,qgW]
 rewrite [zfr (k0:=(fun (_:Unit)=>some ((0:Int),()))) N _ _ _ _ _ _ _ _ ?_ ?_ ?_]
 ·rewrite [qDR];first | rfl | simp (maxSteps:=10000000) -implicitDefEqProofs []
 ·rfl
 ·intro;simp only [qK,qL,qJ,qB]
 ·simp (maxSteps:=10000000) -implicitDefEqProofs [qKz,qoo,qL5,qwr,qKb,qqb,qIM,qvZ,qIK,qr8,qUq,qH6,qU6,qQB,qMh,qYj,qPT,qX7,qQT,qgW]
noncomputable def qFU (N:Nat) (v0:Val qa) (v1:Val qa):Option (qc [i4]):=chk (qfj v1) (chk (qfj v0) (bif (decide ((IntKind.i64.wrap ((v1.2.1:Int)*(max (1:Int) ((gLv v0):Int))))<(IntKind.i64.wrap ((v0.2.1:Int)*(max (1:Int) ((gLv v1):Int))))))then (some (true,()))else (bif (decide ((IntKind.i64.wrap ((v0.2.1:Int)*(max (1:Int) ((gLv v1):Int))))=(IntKind.i64.wrap ((v1.2.1:Int)*(max (1:Int) ((gLv v0):Int))))))then (bif (v0.2.2:Bool)then (some (true,()))else (some ((!(v1.2.2:Bool)),())))else (some (false,())))))
def q3P:Gam:=[(319,qgW)]
theorem znQ:Gam.get q3P 319=some qgW:=rfl
def qEP:Nm:=⟨[false,false,true,true,false,true],[],false⟩
theorem zn0:qEP.zero=false:=rfl
theorem zfl:qEP.fix=[]:=rfl
theorem zri:qEP.keep=[false,false,true,true,false,true]:=rfl
def qEk:Nm:=⟨[false,false,true,true,false,true,true],[],false⟩
theorem zrl:qEk.zero=false:=rfl
theorem zcX:qEk.fix=[]:=rfl
theorem zzQ:qEk.keep=[false,false,true,true,false,true,true]:=rfl
def qGg:Nat→Tree:=fun i=>if i=1 then .quiet 2 (.alt 0 (.alt 1 (.alt 3 (.alt 4 (.quiet 5 (.quiet 6 .done)) .stop) .stop) (.alt 3 (.alt 1 (.alt 4 (.quiet 5 (.quiet 6 .done)) .stop) (.alt 4 (.quiet 1 (.quiet 5 (.quiet 6 .done))) .stop)) .stop)) (.alt 3 (.alt 0 (.alt 1 (.alt 4 (.quiet 5 (.quiet 6 .done)) .stop) (.alt 4 (.quiet 1 (.quiet 5 (.quiet 6 .done))) .stop)) (.alt 4 (.quiet 0 (.quiet 1 (.quiet 5 (.quiet 6 .done)))) .stop)) .stop))else if i=2 then .quiet 2 (.alt 0 (.alt 1 (.alt 3 (.alt 4 (.quiet 5 (.quiet 6 .done)) .stop) .stop) (.alt 3 (.alt 1 (.alt 4 (.quiet 5 (.quiet 6 .done)) .stop) (.alt 4 (.quiet 1 (.quiet 5 (.quiet 6 .done))) .stop)) .stop)) (.alt 3 (.alt 0 (.alt 1 (.alt 4 (.quiet 5 (.quiet 6 .done)) .stop) (.alt 4 (.quiet 1 (.quiet 5 (.quiet 6 .done))) .stop)) (.alt 4 (.quiet 0 (.quiet 1 (.quiet 5 (.quiet 6 .done)))) .stop)) .stop))else .done
def qTZ:Nat→Nm:=fun _=>⟨[],[],false⟩
def qVp:Nat→Option Jn:=fun _=>none
def qUh:Nat→Option Nm:=fun _=>none
def qM3:Nat→Option Nm:=fun i=>if i=1 then some qEP else if i=2 then some qEk else none
theorem zvj:qh qGg (Tryz.f292.body.getD .skip)=true:=by kernel_rfl
def qfx (N:Nat):Tab:={tr:=qGg,lp:=qTZ,ex:=qUh,rg:=qM3,jn:=qVp,fuel:=N}
theorem zlG (N:Nat):(qfx N).pins=false:=rfl
theorem zBB (N:Nat):qk Tryz.prog (qfx N):=qo fun _=>rfl
theorem zxv (N:Nat) (i:Nat):(qfx N).tr i=qGg i:=rfl
theorem zgy (N:Nat) (i:Nat):(qfx N).lp i=qTZ i:=rfl
theorem zAK (N:Nat) (i:Nat):(qfx N).ex i=qUh i:=rfl
theorem zBC (N:Nat) (i:Nat):(qfx N).rg i=qM3 i:=rfl
theorem zhM (N:Nat) (i:Nat):(qfx N).jn i=qVp i:=rfl
theorem zsw (N:Nat):(qfx N).fuel=N:=rfl
theorem zvX (N:Nat) (v0:Val qa) (v1:Val qa):qf tt q3P (qfx N) (Tryz.f292.body.getD .skip) (qm tt true [i4] [.tmp 4]) (qp [ql,ql] 36 (v0,v1,()))=qFU N v0 v1:=by
 rw [qFU];unfold Tryz.f292
 simp (maxSteps:=10000000) -implicitDefEqProofs [zxv,qGg,zgy,qTZ,zAK,qUh,zBC,qM3,zhM,qVp,zsw,zlG,zfl,zri,zn0,zcX,zzQ,zrl,znQ,qgW]
 try rfl
noncomputable def qAI (N:Nat) (v0:Val qa):Option (qc [ql]):=chk (([]:List (Val (.int .i64))).length+(v0.1:List (Val (.int .i64))).length≤1048576) (some (((([]:List (Val (.int .i64)))++(v0.1:List (Val (.int .i64)))),(v0.2.1:Int),(v0.2.2:Bool)),()))
def q5C:Gam:=[]
def qEh:Nat→Tree:=fun i=>if i=1 then .keep 1 (.keep 2 (.keep 4 (.keep 5 (.keep 6 (.keep 7 (.alt 0 (.alt 3 (.quiet 8 (.alt 9 .done .stop)) .stop) .stop))))))else .done
def qVM:Nat→Nm:=fun _=>⟨[],[],false⟩
def q33:Nat→Option Jn:=fun _=>none
def qMG:Nat→Option Nm:=fun _=>none
def qI7:Nat→Option Nm:=fun _=>none
theorem zdH:qh qEh (Tryz.f234.body.getD .skip)=true:=by kernel_rfl
def qfI (N:Nat):Tab:={tr:=qEh,lp:=qVM,ex:=qMG,rg:=qI7,jn:=q33,fuel:=N}
theorem zo9 (N:Nat):(qfI N).pins=false:=rfl
theorem zxn (N:Nat):qk Tryz.prog (qfI N):=qo fun _=>rfl
theorem ztv (N:Nat) (i:Nat):(qfI N).tr i=qEh i:=rfl
theorem zpB (N:Nat) (i:Nat):(qfI N).lp i=qVM i:=rfl
theorem zxK (N:Nat) (i:Nat):(qfI N).ex i=qMG i:=rfl
theorem zvx (N:Nat) (i:Nat):(qfI N).rg i=qI7 i:=rfl
theorem zc3 (N:Nat) (i:Nat):(qfI N).jn i=q33 i:=rfl
theorem zcj (N:Nat):(qfI N).fuel=N:=rfl
theorem zko (N:Nat) (v0:Val qa):qf tt q5C (qfI N) (Tryz.f234.body.getD .skip) (qm tt true [ql] [.cell 2 108]) (qp [ql] 12 (v0,()))=qAI N v0:=by
 rw [qAI];unfold Tryz.f234
 simp (maxSteps:=10000000) -implicitDefEqProofs [ztv,qEh,zpB,qVM,zxK,qMG,zvx,qI7,zc3,q33,zcj,zo9]
 try rfl
noncomputable def qGJ (N:Nat) (v0:Int):Option (qc [i33]):=chk (0≤v0∧v0≤v0∧v0≤1048576) (some ((v0,([((List.replicate v0.toNat (qb (.int .i64))),(1:Int),false)]:List (Val qa))),()))
def q5r:Gam:=[]
def qz0:Nat→Tree:=fun _=> .done
def qLq:Nat→Nm:=fun _=>⟨[],[],false⟩
def q0v:Nat→Option Jn:=fun _=>none
def qRt:Nat→Option Nm:=fun _=>none
def qP2:Nat→Option Nm:=fun _=>none
theorem zhr:qh qz0 (Tryz.f209.body.getD .skip)=true:=by kernel_rfl
def qfc (N:Nat):Tab:={tr:=qz0,lp:=qLq,ex:=qRt,rg:=qP2,jn:=q0v,fuel:=N}
theorem zir (N:Nat):(qfc N).pins=false:=rfl
theorem zcR (N:Nat):qk Tryz.prog (qfc N):=qo fun _=>rfl
theorem zcs (N:Nat) (i:Nat):(qfc N).tr i=qz0 i:=rfl
theorem zbf (N:Nat) (i:Nat):(qfc N).lp i=qLq i:=rfl
theorem zil (N:Nat) (i:Nat):(qfc N).ex i=qRt i:=rfl
theorem zyp (N:Nat) (i:Nat):(qfc N).rg i=qP2 i:=rfl
theorem zBe (N:Nat) (i:Nat):(qfc N).jn i=q0v i:=rfl
theorem zex (N:Nat):(qfc N).fuel=N:=rfl
theorem znG (N:Nat) (v0:Int):qf tt q5r (qfc N) (Tryz.f209.body.getD .skip) (qm tt true [i33] [.cell 2 33]) (qp [i3] 9 (v0,()))=qGJ N v0:=by
 rw [qGJ];unfold Tryz.f209
 simp (maxSteps:=10000000) -implicitDefEqProofs [zcs,qz0,zbf,qLq,zil,qRt,zyp,qP2,zBe,q0v,zex,zir]
 try rfl
def qny:G:={ps:=[ql,ql],rs:=[i3],dp:=true,pre:=fun x=>qeq x.1 x.2.1,fn:=fun x=>(qbK x.1 x.2.1,())}
theorem q7T (N:Nat) (g h:Nat) (hg:(g:Int)≠0) (hh:(h:Int)≠0) (xs ys:List (Val (.int .i64))) (hl:xs.length=ys.length) (h4:xs.length≤1048576) (hx: ∀x∈xs,inI x) (hy: ∀x∈ys,inI x) (c c':Int) (s s':Bool): ∀(k i:Nat),xs.length - i=k→ ∀n,k<n→
 qmB N g h xs c s ys c' s' (fun _=>some ((0:Int),())) n i=some (qbA ((List.drop (α:=Int) i xs).map fun x=>x.tdiv (g:Int)) ((List.drop (α:=Int) i ys).map fun x=>x.tdiv (h:Int)),())
 | 0,i,hi,n+1,_=>by
   rw [qmB,qi (by omega),List.drop_eq_nil_of_le (by omega),List.drop_eq_nil_of_le (by omega)]
   rfl
 | k+1,i,hi,n+1,hn=>by
   have h1:i<xs.length:=by omega
   have h2:i<ys.length:=by omega
   rw [qmB,qj (by omega),qj (by omega),qe (by omega),qe hg,qe (by omega),qe hh,qI h1,qI h2,qeB (hx _ (List.getElem_mem h1)),qeB (hy _ (List.getElem_mem h2)),qbr h1 h4]
   rw [List.drop_eq_getElem_cons h1,List.drop_eq_getElem_cons h2,List.map_cons,List.map_cons,qbA]
   generalize hp:Int.tdiv xs[i] (g:Int)=p
   generalize hq:Int.tdiv ys[i] (h:Int)=q
   by_cases a1:p<q
   ·have: ¬p=q:=by omega
    simp [a1,this]
   ·by_cases a2:q<p
    ·have: ¬p=q:=by omega
     simp [a1,a2,this]
    ·have:p=q:=by omega
     rw [if_neg a1,if_neg a2,qbi,qj this]
     exact q7T N g h hg hh xs ys hl h4 hx hy c c' s s' k (i+1) (by omega) n (by omega)
theorem zzO (a b:Val qa) (h:qeq a b): ∃N,qDR N a b=some (qbK a b,()):=⟨List.length (α:=Val (.int .i64)) a.1+1,by
 obtain ⟨ha,hb,hl⟩:=h
 rw [qDR,qe (show qfj a from ha),qe (show qfj b from hb),qzs,qzs]
 have:=q7T (List.length (α:=Val (.int .i64)) a.1+1) (gS (atm a)) (gS (atm b)) (by have:=qeh (atm a);omega) (by have:=qeh (atm b);omega) a.1 b.1 hl (by have:=(qbb ha).1;omega) (qkM ha) (qkM hb) a.2.1 b.2.1 a.2.2 b.2.2 _ 0 rfl _ (Nat.lt_succ_self _)
 simp only [List.drop_zero]at this
 exact this⟩
theorem zh9:Sound Tryz.prog 291 qny:=qr (tt:=tt) (Γ:=qnb) hT (qg q7R qn) hm (fn:=Tryz.f291) Tryz.func291 (c:=Tryz.f291.body.getD .skip) (by kernel_rfl) (by kernel_rfl) fun x hx=>by
 obtain ⟨N,h⟩:=zzO x.1 x.2.1 hx
 exact ⟨qdm N,zhD,qu _,zrr N,(zxx N x.1 x.2.1).trans h⟩
def qpr:G:={ps:=[ql,ql],rs:=[i4],dp:=true,pre:=fun x=>qrH x.1 x.2.1,fn:=fun x=>(qlP x.1 x.2.1,())}
theorem zbs (a b:Val qa) (h:qrH a b): ∃N,qFU N a b=some (qlP a b,()):=⟨0,by
 obtain ⟨ha,hb,hw⟩:=h
 have h1:=qgR ha
 have h2:=qgR hb
 have g1:=qEB ha
 have g2:=qEB hb
 have p1:=qeh (atm a)
 have p2:=qeh (atm b)
 rw [qFU,qe (show qfj b from hb),qe (show qfj a from ha),qzs,qzs,qiy h1 ⟨by unfold gSv;omega,g2⟩,qiy h2 ⟨by unfold gSv;omega,g1⟩]
 have e:qlP a b=(decide ((b.2.1:Int)*gSv a<a.2.1*gSv b)||(decide ((a.2.1:Int)*gSv b=b.2.1*gSv a)&&(a.2.2|| !b.2.2))):=by
  unfold qlP qbp
  rw [if_pos hw]
  have e1:qhy (atm b) (atm a)=sgI (b.2.1*gSv a - a.2.1*gSv b):=rfl
  rw [e1]
  exact zfY _ _ _ _
 rw [e]
 by_cases c1:(b.2.1:Int)*gSv a<a.2.1*gSv b
 ·simp [c1]
 ·by_cases c2:(a.2.1:Int)*gSv b=b.2.1*gSv a
  ·rw [qi c1,qj c2,decide_eq_false c1,decide_eq_true c2,Bool.false_or,Bool.true_and]
   cases a.2.2<;>rfl
  ·simp [c1,c2]⟩
theorem zoZ:Sound Tryz.prog 292 qpr:=qr (tt:=tt) (Γ:=q3P) hT (qg q7R qn) hm (fn:=Tryz.f292) Tryz.func292 (c:=Tryz.f292.body.getD .skip) (by kernel_rfl) (by kernel_rfl) fun x hx=>by
 obtain ⟨N,h⟩:=zbs x.1 x.2.1 hx
 exact ⟨qfx N,zvj,qu _,zBB N,(zvX N x.1 x.2.1).trans h⟩
def qeO:G:={ps:=[ql],rs:=[ql],dp:=true,pre:=fun x=>qbF x.1,fn:=fun x=>(idA x.1,())}
def qcg:G:={ps:=[i3],rs:=[i33],dp:=true,pre:=fun x=>qcy x.1,fn:=fun x=>(qa8 x.1,())}
theorem ze5 (a:Val qa) (h:qbF a): ∃N,qAI N a=some (idA a,()):=⟨0,by
 rw [qAI,qe (by have h:List.length (α:=Val (.int .i64)) a.1≤1048576:=h;simpa using h)];rfl⟩
theorem zsA (d:Int) (h:qcy d): ∃N,qGJ N d=some (qa8 d,()):=⟨0,by
 rw [qGJ,qe ⟨h.1,Int.le_refl _,h.2⟩];rfl⟩
theorem q9J:Sound Tryz.prog 234 qeO:=qr (tt:=tt) (Γ:=q5C) hT qn hm (fn:=Tryz.f234) Tryz.func234 (c:=Tryz.f234.body.getD .skip) (by kernel_rfl) (by kernel_rfl) fun x hx=>by
 obtain ⟨N,h⟩:=ze5 x.1 hx
 exact ⟨qfI N,zdH,qu _,zxn N,(zko N x.1).trans h⟩
theorem qTX:Sound Tryz.prog 209 qcg:=qr (tt:=tt) (Γ:=q5r) hT qn hm (fn:=Tryz.f209) Tryz.func209 (c:=Tryz.f209.body.getD .skip) (by kernel_rfl) (by kernel_rfl) fun x hx=>by
 obtain ⟨N,h⟩:=zsA x.1 hx
 exact ⟨qfc N,zhr,qu _,zcR N,(znG N x.1).trans h⟩
noncomputable def qje (N:Nat) (v2:List (Val qa)) (v4:List (Val (.int .i64))) (v5:Int) (v6:Bool) (k0:Int→Option (qc [i31])):Nat→Int→Option (qc [i31])
 | 0,_=>none
 | n+1,v3=>bif (decide (v3<(v2.length:Int)))then (chk (0≤v3∧v3<(v2.length:Int)) (chk (qeq (v2.getD v3.toNat (qb qa)) (v4,v5,v6)) (bif (decide (((qbK (v2.getD v3.toNat (qb qa)) (v4,v5,v6)):Int)<(0:Int)))then (qje N v2 v4 v5 v6 k0 n (IntKind.i64.wrap (v3+(1:Int))))else (k0 v3))))else (k0 v3)
noncomputable def qE4 (N:Nat) (v0:List (Val qa)) (v1:Val qa):Option (qc [i31]):=qje N v0 (v1.1:List (Val (.int .i64))) (v1.2.1:Int) (v1.2.2:Bool) (fun (v8:Int)=>bif (decide (v8<(v0.length:Int)))then (chk (0≤v8∧v8<(v0.length:Int)) (chk (qeq (v0.getD v8.toNat (qb qa)) v1) (bif (decide (((qbK (v0.getD v8.toNat (qb qa)) v1):Int)=(0:Int)))then (chk (0≤v8∧v8<(v0.length:Int)) (chk (qrH (v0.getD v8.toNat (qb qa)) v1) (bif ((qlP (v0.getD v8.toNat (qb qa)) v1):Bool)then (some (v0,()))else (chk (([]:List (Val qa)).length+v0.length≤1048576) (chk (0≤v8∧v8<((([]:List (Val qa))++v0).length:Int)) (chk (v8.toNat<(([]:List (Val qa))++v0).length) (some (((([]:List (Val qa))++v0).set v8.toNat v1),()))))))))else (chk (0≤(0:Int)∧(0:Int)≤v8∧v8≤(v0.length:Int)) (chk (0≤v8∧v8≤(v0.length:Int)∧(v0.length:Int)≤(v0.length:Int)) (chk (([]:List (Val qa)).length+((v0.take v8.toNat).drop (0:Int).toNat).length≤1048576) (chk ((([]:List (Val qa))++((v0.take v8.toNat).drop (0:Int).toNat)).length+([v1]:List (Val qa)).length≤1048576) (chk (((([]:List (Val qa))++((v0.take v8.toNat).drop (0:Int).toNat))++([v1]:List (Val qa))).length+((v0.take (v0.length:Int).toNat).drop v8.toNat).length≤1048576) (some ((((([]:List (Val qa))++((v0.take v8.toNat).drop (0:Int).toNat))++([v1]:List (Val qa)))++((v0.take (v0.length:Int).toNat).drop v8.toNat)),()))))))))))else (chk (0≤(0:Int)∧(0:Int)≤v8∧v8≤(v0.length:Int)) (chk (0≤v8∧v8≤(v0.length:Int)∧(v0.length:Int)≤(v0.length:Int)) (chk (([]:List (Val qa)).length+((v0.take v8.toNat).drop (0:Int).toNat).length≤1048576) (chk ((([]:List (Val qa))++((v0.take v8.toNat).drop (0:Int).toNat)).length+([v1]:List (Val qa)).length≤1048576) (chk (((([]:List (Val qa))++((v0.take v8.toNat).drop (0:Int).toNat))++([v1]:List (Val qa))).length+((v0.take (v0.length:Int).toNat).drop v8.toNat).length≤1048576) (some ((((([]:List (Val qa))++((v0.take v8.toNat).drop (0:Int).toNat))++([v1]:List (Val qa)))++((v0.take (v0.length:Int).toNat).drop v8.toNat)),())))))))) N (0:Int)
def qkU:Gam:=[(291,qny),(292,qpr)]
theorem qRS:Gam.get qkU 291=some qny:=rfl
theorem qTg:Gam.get qkU 292=some qpr:=rfl
def qya:Nm:=⟨[true,false,false,true,false,true],[],false⟩
theorem qXc:qya.zero=false:=rfl
theorem qYK:qya.fix=[]:=rfl
theorem qZp:qya.keep=[true,false,false,true,false,true]:=rfl
def qAn:Nm:=⟨[true,false,false,true,false,true],[],false⟩
theorem qJd:qAn.zero=false:=rfl
theorem qW5:qAn.fix=[]:=rfl
theorem qVf:qAn.keep=[true,false,false,true,false,true]:=rfl
def qDJ:Nm:=⟨[false,false,false,false,true],[],false⟩
theorem qWX:qDJ.zero=false:=rfl
theorem qYE:qDJ.fix=[]:=rfl
theorem q11:qDJ.keep=[false,false,false,false,true]:=rfl
def qo6:Nat→Tree:=fun i=>if i=2 then .quiet 0 (.quiet 1 (.quiet 2 (.quiet 3 (.quiet 4 (.quiet 5 (.quiet 6 (.quiet 7 (.quiet 8 (.quiet 9 (.alt 10 (.quiet 11 (.quiet 12 .done)) .stop))))))))))else if i=4 then .quiet 0 (.quiet 1 (.quiet 2 (.quiet 3 (.quiet 4 (.quiet 5 (.quiet 6 (.quiet 7 (.quiet 8 (.quiet 9 (.alt 10 (.quiet 11 (.quiet 12 .done)) .stop))))))))))else if i=5 then .quiet 0 (.quiet 1 (.quiet 2 (.quiet 3 (.quiet 4 (.alt 5 .done .stop)))))else if i=10 then .first 1 (.first 2 (.first 8 (.first 9 (.pure 3 (.pure 10 (.alt 0 (.alt 4 (.quiet 5 (.alt 6 (.alt 7 (.alt 11 (.quiet 12 .done) .stop) .stop) .stop)) (.alt 5 (.alt 4 (.alt 6 (.alt 7 (.alt 11 (.quiet 12 .done) .stop) .stop) .stop) (.alt 6 (.alt 4 (.alt 7 (.alt 11 (.quiet 12 .done) .stop) .stop) .stop) .stop)) .stop)) (.alt 5 (.alt 0 (.alt 4 (.alt 6 (.alt 7 (.alt 11 (.quiet 12 .done) .stop) .stop) .stop) (.alt 6 (.alt 4 (.alt 7 (.alt 11 (.quiet 12 .done) .stop) .stop) .stop) .stop)) (.alt 6 (.alt 0 (.alt 4 (.alt 7 (.alt 11 (.quiet 12 .done) .stop) .stop) .stop) .stop) .stop)) .stop)))))))else .done
def qrp:Nat→Nm:=fun i=>if i=2 then qya else ⟨[],[],false⟩
def qvz:Nat→Option Jn:=fun _=>none
def qv0:Nat→Option Nm:=fun i=>if i=0 then some qAn else none
def qyO:Nat→Option Nm:=fun i=>if i=10 then some qDJ else none
theorem znI:qh qo6 (Tryz.f233.body.getD .skip)=true:=by kernel_rfl
def qdN (N:Nat):Tab:={tr:=qo6,lp:=qrp,ex:=qv0,rg:=qyO,jn:=qvz,fuel:=N}
theorem qLA (N:Nat):(qdN N).pins=false:=rfl
theorem ziN (N:Nat):qk Tryz.prog (qdN N):=qo fun _=>rfl
theorem qLL (N:Nat) (i:Nat):(qdN N).tr i=qo6 i:=rfl
theorem qIT (N:Nat) (i:Nat):(qdN N).lp i=qrp i:=rfl
theorem qPq (N:Nat) (i:Nat):(qdN N).ex i=qv0 i:=rfl
theorem qO6 (N:Nat) (i:Nat):(qdN N).rg i=qyO i:=rfl
theorem qHR (N:Nat) (i:Nat):(qdN N).jn i=qvz i:=rfl
theorem qON (N:Nat):(qdN N).fuel=N:=rfl
noncomputable def zaA:Code:=cut [true,true,false,true,true] (Tryz.f233.body.getD .skip)
theorem zqe {N:Nat} {Q:X→St→Option (qc [i31])} {e:List LV} {h:List Blk}:qf tt qkU (qdN N) zaA Q ⟨e,h⟩=qf tt qkU (qdN N) (cut [true,true,false,true,true] (Tryz.f233.body.getD .skip)) Q ⟨e,h⟩:=rfl
theorem zcF (N:Nat) (v2:List (Val qa)) (v4:List (Val (.int .i64))) (v5:Int) (v6:Bool) {k0:Int→Option (qc [i31])} {Q:X→St→Option (qc [i31])} {c:Code} (hc:c=zaA) (hret: ∀st,Q .ret st=qC tt false [i31] [.tmp 4] st) (h0: ∀(v7:Int),Q (.exit 0) ⟨[.one (.sl 108 qa v2 1),u,u,.one (.ptr 0 0 0),u,.one (.int .i64 v7),u,u,u,u,u,u,u,u,u,u,u,u,u,u,u,u,u,u,u,u,u,u,u,u,u,u,u,u,u,u,u,u,u,u,u,u,u,u,u,u,u,u,u,u,u,u,u,u,u,u,u,u,u,u,u,u],[.box [.sl 3 (.int .i64) v4 1,.int .i64 v5,.bool v6]]⟩=k0 v7): ∀(n:Nat) (v3:Int),qD (qf tt qkU (qdN N) c) false qya Q n ⟨[.one (.sl 108 qa v2 1),u,u,.one (.ptr 0 0 0),u,.one (.int .i64 v3),u,u,u,u,u,u,u,u,u,u,u,u,u,u,u,u,u,u,u,u,u,u,u,u,u,u,u,u,u,u,u,u,u,u,u,u,u,u,u,u,u,u,u,u,u,u,u,u,u,u,u,u,u,u,u,u],[.box [.sl 3 (.int .i64) v4 1,.int .i64 v5,.bool v6]]⟩=qje N v2 v4 v5 v6 k0 n v3:=by
 subst hc;intro n;induction n with
 | zero=>intros;rfl
 | succ n ih=>
   intro v3
   rw [qN,zqe,qje];unfold Tryz.f233
   simp (maxSteps:=10000000) -implicitDefEqProofs [qLL,qo6,qIT,qrp,qPq,qv0,qO6,qyO,qHR,qvz,qON,qLA,qYK,qZp,qXc,qW5,qVf,qJd,qYE,q11,qWX,qRS,qTg,qny,qpr,hret,h0,ih]
theorem zrh (N:Nat) (v0:List (Val qa)) (v1:Val qa):qf tt qkU (qdN N) (Tryz.f233.body.getD .skip) (qm tt false [i31] [.tmp 4]) (qp [i31,ql] 62 (v0,v1,()))=qE4 N v0 v1:=by
 unfold Tryz.f233
 simp (maxSteps:=10000000) -implicitDefEqProofs [qLL,qo6,qIT,qrp,qPq,qv0,qO6,qyO,qHR,qvz,qON,qLA,qYK,qZp,qXc,qW5,qVf,qJd,qYE,q11,qWX,qRS,qTg,qny,qpr]
 rewrite [zcF (k0:=(fun (v8:Int)=>bif (decide (v8<(v0.length:Int)))then (chk (0≤v8∧v8<(v0.length:Int)) (chk (qeq (v0.getD v8.toNat (qb qa)) v1) (bif (decide (((qbK (v0.getD v8.toNat (qb qa)) v1):Int)=(0:Int)))then (chk (0≤v8∧v8<(v0.length:Int)) (chk (qrH (v0.getD v8.toNat (qb qa)) v1) (bif ((qlP (v0.getD v8.toNat (qb qa)) v1):Bool)then (some (v0,()))else (chk (([]:List (Val qa)).length+v0.length≤1048576) (chk (0≤v8∧v8<((([]:List (Val qa))++v0).length:Int)) (chk (v8.toNat<(([]:List (Val qa))++v0).length) (some (((([]:List (Val qa))++v0).set v8.toNat v1),()))))))))else (chk (0≤(0:Int)∧(0:Int)≤v8∧v8≤(v0.length:Int)) (chk (0≤v8∧v8≤(v0.length:Int)∧(v0.length:Int)≤(v0.length:Int)) (chk (([]:List (Val qa)).length+((v0.take v8.toNat).drop (0:Int).toNat).length≤1048576) (chk ((([]:List (Val qa))++((v0.take v8.toNat).drop (0:Int).toNat)).length+([v1]:List (Val qa)).length≤1048576) (chk (((([]:List (Val qa))++((v0.take v8.toNat).drop (0:Int).toNat))++([v1]:List (Val qa))).length+((v0.take (v0.length:Int).toNat).drop v8.toNat).length≤1048576) (some ((((([]:List (Val qa))++((v0.take v8.toNat).drop (0:Int).toNat))++([v1]:List (Val qa)))++((v0.take (v0.length:Int).toNat).drop v8.toNat)),()))))))))))else (chk (0≤(0:Int)∧(0:Int)≤v8∧v8≤(v0.length:Int)) (chk (0≤v8∧v8≤(v0.length:Int)∧(v0.length:Int)≤(v0.length:Int)) (chk (([]:List (Val qa)).length+((v0.take v8.toNat).drop (0:Int).toNat).length≤1048576) (chk ((([]:List (Val qa))++((v0.take v8.toNat).drop (0:Int).toNat)).length+([v1]:List (Val qa)).length≤1048576) (chk (((([]:List (Val qa))++((v0.take v8.toNat).drop (0:Int).toNat))++([v1]:List (Val qa))).length+((v0.take (v0.length:Int).toNat).drop v8.toNat).length≤1048576) (some ((((([]:List (Val qa))++((v0.take v8.toNat).drop (0:Int).toNat))++([v1]:List (Val qa)))++((v0.take (v0.length:Int).toNat).drop v8.toNat)),()))))))))) N _ _ _ _ ?_ ?_ ?_]
 ·rewrite [qE4];first | rfl | simp (maxSteps:=10000000) -implicitDefEqProofs []
 ·rfl
 ·intro;simp only [qK,qL,qJ,qB]
 ·intro v8;simp (maxSteps:=10000000) -implicitDefEqProofs [qLL,qo6,qIT,qrp,qPq,qv0,qO6,qyO,qHR,qvz,qON,qLA,qYK,qZp,qXc,qW5,qVf,qJd,qYE,q11,qWX,qRS,qTg,qny,qpr]
def qnx:G:={ps:=[i31,ql],rs:=[i31],dp:=false,pre:=fun x=>qjA x.1 x.2.1,fn:=fun x=>(qiY x.1 x.2.1,())}
def qbO (l:List (Val qa)) (a:Val qa):Nat:=(l.takeWhile fun b=>decide (qbK b a<0)).length
theorem zhy (l:List (Val qa)) (a:Val qa):qbO l a≤l.length:=(List.takeWhile_sublist _).length_le
theorem zaq: ∀(l:List (Val qa)) (a:Val qa),qba l a=if h:qbO l a<l.length then (if qbK l[qbO l a] a=0 then (if qbp (atm a) (atm l[qbO l a])≤0 then l else l.set (qbO l a) a)else l.take (qbO l a)++[a]++l.drop (qbO l a))else l.take (qbO l a)++[a]++l.drop (qbO l a)
 | [],a=>rfl
 | b::r,a=>by
   have ih:=zaq r a
   by_cases h1:qbK b a<0
   ·have e:qbO (b::r) a=qbO r a+1:=by simp [qbO,List.takeWhile,h1]
    have h1':way b a<0:=h1
    simp only [qba,h1',if_true,e,List.length_cons,Nat.add_lt_add_iff_right,List.getElem_cons_succ,List.set_cons_succ,List.take_succ_cons,List.drop_succ_cons,List.cons_append]
    rw [ih]
    split
    ·split
     ·split<;>rfl
     ·rfl
    ·rfl
   ·have e:qbO (b::r) a=0:=by simp [qbO,List.takeWhile,h1]
    have h1': ¬way b a<0:=h1
    simp only [qba,h1',if_false,e,List.length_cons,Nat.zero_lt_succ,dif_pos,List.getElem_cons_zero,List.set_cons_zero,List.take_zero,List.drop_zero,List.nil_append]
    by_cases h2:way b a=0
    ·rw [if_pos h2,if_pos (show qbK b a=0 from h2)]
    ·rw [if_neg h2,if_neg (show ¬qbK b a=0 from h2)];rfl
theorem zaR (N:Nat) (l:List (Val qa)) (a:Val qa) (h:qjA l a) (K:Int→Option (qc [i31])): ∀(k i:Nat),l.length - i=k→i≤l.length→ ∀n,k<n→
 qje N l a.1 a.2.1 a.2.2 K n i=K ((i+qbO (l.drop i) a:Nat):Int)
 | 0,i,hi,hle,n+1,_=>by
   rw [qje,qi (by omega),List.drop_eq_nil_of_le (by omega)]
   rfl
 | k+1,i,hi,hle,n+1,hn=>by
   have h1:i<l.length:=by omega
   obtain ⟨hl,ha,hb⟩:=h
   have hb1:=hb _ (List.getElem_mem h1)
   rw [qje,qj (by omega),qe (by omega),qI h1,qe (show qeq _ _ from ⟨hb1.1,ha,hb1.2⟩),qbr h1 (by omega)]
   rw [qbE h1]
   by_cases h2:qbK l[i] a<0
   ·have e:qbO (l[i]::l.drop (i+1)) a=qbO (l.drop (i+1)) a+1:=by simp [qbO,List.takeWhile,h2]
    rw [qj (show qbK l[i] (a.1,a.2.1,a.2.2)<0 from h2),e,zaR N l a ⟨hl,ha,hb⟩ K k (i+1) (by omega) (by omega) n (by omega)]
    congr 2;omega
   ·have e:qbO (l[i]::l.drop (i+1)) a=0:=by simp [qbO,List.takeWhile,h2]
    rw [qi (show ¬qbK l[i] (a.1,a.2.1,a.2.2)<0 from h2),e]
    rfl
theorem zne (l:List (Val qa)) (a:Val qa) (h:qjA l a): ∃N,qE4 N l a=some (qiY l a,()):=⟨l.length+1,by
 have t:=zaR (l.length+1) l a h
 rw [qE4]
 refine (t _ _ 0 rfl (by omega) _ (Nat.lt_succ_self _)).trans ?_
 obtain ⟨hl,ha,hb⟩:=h
 rw [List.drop_zero,Nat.zero_add]
 have hle:=zhy l a
 rw [qiY,zaq]
 generalize qbO l a=j at hle ⊢
 have last:chk (0≤(0:Int)∧(0:Int)≤(j:Int)∧(j:Int)≤(l.length:Int)) (chk (0≤(j:Int)∧(j:Int)≤(l.length:Int)∧(l.length:Int)≤(l.length:Int)) (chk (([]:List (Val qa)).length+((l.take (j:Int).toNat).drop (0:Int).toNat).length≤1048576) (chk ((([]:List (Val qa))++((l.take (j:Int).toNat).drop (0:Int).toNat)).length+([a]:List (Val qa)).length≤1048576) (chk (((([]:List (Val qa))++((l.take (j:Int).toNat).drop (0:Int).toNat))++([a]:List (Val qa))).length+((l.take (l.length:Int).toNat).drop (j:Int).toNat).length≤1048576)
  (some (((([]:List (Val qa))++((l.take (j:Int).toNat).drop (0:Int).toNat))++([a]:List (Val qa)))++((l.take (l.length:Int).toNat).drop (j:Int).toNat),()))))))
  =(some (l.take j++[a]++l.drop j,()):Option (qc [i31])):=by
  have e1:(j:Int).toNat=j:=rfl
  have e2:(l.length:Int).toNat=l.length:=rfl
  have e3:(0:Int).toNat=0:=rfl
  rw [e1,e2,e3,List.drop_zero,List.take_length,List.nil_append]
  rw [qe (by omega),qe (by omega),qe (by simp;omega),qe (by simp;omega),qe (by simp;omega)]
 by_cases hj:j<l.length
 ·have hb1:=hb _ (List.getElem_mem hj)
  have e1:(j:Int).toNat=j:=rfl
  rw [dif_pos hj,qj (by omega),qe (by omega),qI hj,qe (show qeq _ _ from ⟨hb1.1,ha,hb1.2⟩)]
  by_cases hw:qbK l[j] a=0
  ·have hw':way (atm a) (atm l[j])=0:=by have:=qbX.anti (atm a) (atm l[j]);have hw:way (atm l[j]) (atm a)=0:=hw;omega
   rw [qj hw,if_pos hw,qe (by omega),qe (show qrH _ _ from ⟨hb1.1,ha,hw'⟩)]
   unfold qlP
   by_cases hs:qbp (atm a) (atm l[j])≤0
   ·rw [qj hs,if_pos hs]
   ·rw [qi hs,if_neg hs,List.nil_append,qe (by simp;omega),qe (by omega),qe (by omega),e1]
  ·rw [qi hw,if_neg hw]
   exact last
 ·rw [dif_neg hj,qi (by omega)]
  exact last⟩
theorem zyL:Sound Tryz.prog 233 qnx:=qr (tt:=tt) (Γ:=qkU) hT (qg zh9 (qg zoZ qn)) hm (fn:=Tryz.f233) Tryz.func233 (c:=Tryz.f233.body.getD .skip) (by kernel_rfl) (by kernel_rfl) fun x hx=>by
 obtain ⟨N,h⟩:=zne x.1 x.2.1 hx
 exact ⟨qdN N,znI,qu _,ziN N,(zrh N x.1 x.2.1).trans h⟩
noncomputable def qgy (N:Nat) (v2:Int) (v3:List (Val qa)) (v5:Int) (v6:Int) (k0:(List (Val qa))→Option (qc [i33])):Nat→Int→(List (Val qa))→Option (qc [i33])
 | 0,_,_=>none
 | n+1,v4,v7=>bif (decide (v4<(v3.length:Int)))then (chk (0≤v4∧v4<(v3.length:Int)) (chk (qgY (v3.getD v4.toNat (qb qa))) (bif ((qbJ (v3.getD v4.toNat (qb qa))):Bool)then (chk (0≤v4∧v4<(v3.length:Int)) (bif (!((qgF (v3.getD v4.toNat (qb qa))):Bool))then (chk (qcy v2) (some ((((qa8 v2).1:Int),((qa8 v2).2:List (Val qa))),())))else (qgy N v2 v3 v5 v6 k0 n (IntKind.i64.wrap (v4+(1:Int))) v7)))else (chk (0≤v4∧v4<(v3.length:Int)) (chk (qbF (v3.getD v4.toNat (qb qa))) (chk (qjA v7 (((idA (v3.getD v4.toNat (qb qa))).1:List (Val (.int .i64))),(((idA (v3.getD v4.toNat (qb qa))).2).1:Int),(((idA (v3.getD v4.toNat (qb qa))).2).2:Bool))) (qgy N v2 v3 v5 v6 k0 n (IntKind.i64.wrap (v4+(1:Int))) ((qiY v7 (((idA (v3.getD v4.toNat (qb qa))).1:List (Val (.int .i64))),(((idA (v3.getD v4.toNat (qb qa))).2).1:Int),(((idA (v3.getD v4.toNat (qb qa))).2).2:Bool))):List (Val qa)))))))))else (k0 v7)
noncomputable def qEe (N:Nat) (v0:Int) (v1:List (Val qa)):Option (qc [i33]):=qgy N v0 v1 (0:Int) v0 (fun (v9:List (Val qa))=>some ((v0,v9),())) N (0:Int) ([]:List (Val qa))
def qf3:Gam:=[(209,qcg),(229,qcj),(232,qe7),(233,qnx),(234,qeO)]
theorem qVu:Gam.get qf3 209=some qcg:=rfl
theorem qLD:Gam.get qf3 229=some qcj:=rfl
theorem qSg:Gam.get qf3 232=some qe7:=rfl
theorem q3r:Gam.get qf3 233=some qnx:=rfl
theorem qV3:Gam.get qf3 234=some qeO:=rfl
def qug:Nm:=⟨[true,true,false,false,true,true,true],[.nsb 5 1 108 qa],false⟩
theorem qNS:qug.zero=false:=rfl
theorem qKA:qug.fix=[.nsb 5 1 108 qa]:=rfl
theorem qTG:qug.keep=[true,true,false,false,true,true,true]:=rfl
def qBx:Nm:=⟨[false,false,false,false,true,true],[],false⟩
theorem qIf:qBx.zero=false:=rfl
theorem q1k:qBx.fix=[]:=rfl
theorem qXD:qBx.keep=[false,false,false,false,true,true]:=rfl
def qzU:Nm:=⟨[true,true,false,false,true,true,true],[],false⟩
theorem qQQ:qzU.zero=false:=rfl
theorem q1J:qzU.fix=[]:=rfl
theorem qLc:qzU.keep=[true,true,false,false,true,true,true]:=rfl
def qpD:Nat→Tree:=fun i=>if i=8 then .quiet 2 (.quiet 3 (.quiet 4 (.quiet 5 (.alt 0 (.alt 1 (.alt 6 (.alt 7 (.quiet 8 (.alt 9 .done .stop)) .stop) .stop) (.alt 6 (.quiet 1 (.alt 7 (.quiet 8 (.alt 9 .done .stop)) .stop)) .stop)) (.alt 6 (.quiet 0 (.quiet 1 (.alt 7 (.quiet 8 (.alt 9 .done .stop)) .stop))) .stop)))))else .done
def qwQ:Nat→Nm:=fun i=>if i=3 then qug else ⟨[],[],false⟩
def qsn:Nat→Option Jn:=fun _=>none
def qse:Nat→Option Nm:=fun i=>if i=0 then some qBx else none
def qy4:Nat→Option Nm:=fun i=>if i=8 then some qzU else none
theorem zmp:qh qpD (Tryz.f150.body.getD .skip)=true:=by kernel_rfl
def qdI (N:Nat):Tab:={tr:=qpD,lp:=qwQ,ex:=qse,rg:=qy4,jn:=qsn,fuel:=N}
theorem q2J (N:Nat):(qdI N).pins=false:=rfl
theorem zrM (N:Nat):qk Tryz.prog (qdI N):=qo fun _=>rfl
theorem qRb (N:Nat) (i:Nat):(qdI N).tr i=qpD i:=rfl
theorem qPf (N:Nat) (i:Nat):(qdI N).lp i=qwQ i:=rfl
theorem qIY (N:Nat) (i:Nat):(qdI N).ex i=qse i:=rfl
theorem qPu (N:Nat) (i:Nat):(qdI N).rg i=qy4 i:=rfl
theorem qOn (N:Nat) (i:Nat):(qdI N).jn i=qsn i:=rfl
theorem qMt (N:Nat):(qdI N).fuel=N:=rfl
noncomputable def q9c:Code:=cut [true,true,false,true,true,true] (Tryz.f150.body.getD .skip)
theorem zqd {N:Nat} {Q:X→St→Option (qc [i33])} {e:List LV} {h:List Blk}:qf tt qf3 (qdI N) q9c Q ⟨e,h⟩=qf tt qf3 (qdI N) (cut [true,true,false,true,true,true] (Tryz.f150.body.getD .skip)) Q ⟨e,h⟩:=rfl
theorem zbz (N:Nat) (v2:Int) (v3:List (Val qa)) (v5:Int) (v6:Int) {k0:(List (Val qa))→Option (qc [i33])} {Q:X→St→Option (qc [i33])} {c:Code} (hc:c=q9c) (hret: ∀st,Q .ret st=qC tt false [i33] [.cell 4 33] st) (h0: ∀(v8:List (Val qa)),Q (.exit 0) ⟨[u,u,u,u,.one (.ptr 0 0 0),.one (.ptr 1 0 0),u,u,u,u,u,u,u,u,u,u,u,u,u,u,u,u,u,u,u,u,u,u,u,u,u,u,u,u,u,u,u,u],[.box [.int .i64 v5,.nils],.box [.int .i64 v6,.sl 108 qa v8 2]]⟩=k0 v8): ∀(n:Nat) (v4:Int) (v7:List (Val qa)),qD (qf tt qf3 (qdI N) c) false qug Q n ⟨[.one (.int .i64 v2),.one (.sl 108 qa v3 2),u,u,.one (.ptr 0 0 0),.one (.ptr 1 0 0),.one (.int .i64 v4),u,u,u,u,u,u,u,u,u,u,u,u,u,u,u,u,u,u,u,u,u,u,u,u,u,u,u,u,u,u,u],[.box [.int .i64 v5,.nils],.box [.int .i64 v6,.sl 108 qa v7 2]]⟩=qgy N v2 v3 v5 v6 k0 n v4 v7:=by
 subst hc;intro n;induction n with
 | zero=>intros;rfl
 | succ n ih=>
   intro v4 v7
   rw [qN,zqd,qgy];unfold Tryz.f150
   simp (maxSteps:=10000000) -implicitDefEqProofs [qRb,qpD,qPf,qwQ,qIY,qse,qPu,qy4,qOn,qsn,qMt,q2J,qKA,qTG,qNS,q1k,qXD,qIf,q1J,qLc,qQQ,qVu,qLD,qSg,q3r,qV3,qcg,qcj,qe7,qnx,qeO,hret,h0,ih]
theorem zmt (N:Nat) (v0:Int) (v1:List (Val qa)):qf tt qf3 (qdI N) (Tryz.f150.body.getD .skip) (qm tt false [i33] [.cell 4 33]) (qp [i3,i31] 38 (v0,v1,()))=qEe N v0 v1:=by
 unfold Tryz.f150
 simp (maxSteps:=10000000) -implicitDefEqProofs [qRb,qpD,qPf,qwQ,qIY,qse,qPu,qy4,qOn,qsn,qMt,q2J,qKA,qTG,qNS,q1k,qXD,qIf,q1J,qLc,qQQ,qVu,qLD,qSg,q3r,qV3,qcg,qcj,qe7,qnx,qeO]
 rewrite [zbz (k0:=(fun (v9:List (Val qa))=>some ((v0,v9),()))) N _ _ _ _ ?_ ?_ ?_]
 ·rewrite [qEe];first | rfl | simp (maxSteps:=10000000) -implicitDefEqProofs []
 ·rfl
 ·intro;simp only [qK,qL,qJ,qB]
 ·intro v9;simp (maxSteps:=10000000) -implicitDefEqProofs [qRb,qpD,qPf,qwQ,qIY,qse,qPu,qy4,qOn,qsn,qMt,q2J,qKA,qTG,qNS,q1k,qXD,qIf,q1J,qLc,qQQ,qVu,qLD,qSg,q3r,qV3,qcg,qcj,qe7,qnx,qeO]
def qai:G:={ps:=[i3,i31],rs:=[i33],dp:=false,pre:=fun x=>qaF x.1 x.2.1,fn:=fun x=>(qv x.1 x.2.1,())}
theorem qJE: ∀(l:List Atm) (a:Atm),(qba l a).length≤l.length+1
 | [],_=>by simp [qba]
 | b::r,a=>by
   have:=qJE r a
   simp only [qba]
   split
   ·simp;omega
   ·split
    ·split<;>simp
    ·simp
theorem q1E {ρ:Type} {d:Int} {r:Option ρ} {k:List (Val qa)→Option ρ}: ∀(xs:List (Val qa)) (i:Nat) (s:List (Val qa)),s.length+xs.length≤1048576→(∀b∈s,okA b∧(List.length (α:=Int) b.1:Int)=d)→(∀b∈xs,okA b∧(List.length (α:=Int) b.1:Int)=d)→
 qad (fun _ (x:Val qa) (s:List (Val qa)) K=>bif qbJ x then (bif !qgF x then r else K s)else chk (qjA s x) (K (qiY s x))) i xs s k=bif xs.any qc3 then r else k ((xs.filter qaz).foldl qba s)
 | [],_,s,_,_,_=>by rw [qad];simp
 | x::xs,i,s,h,hs,hx=>by
   simp only [List.length_cons]at h
   have hx0:=hx x (by simp)
   rw [qad,List.any_cons,zsn]
   cases hn:qbJ x with
   | true=>
     have hv:qaz x=false:=by simpa [qbJ] using hn
     cases ht:qgF x with
     | false=>simp
     | true=>
       simp only [cond_true,Bool.not_true,cond_false,Bool.and_false,Bool.false_or]
       rw [q1E xs (i+1) s (by omega) hs fun b hb=>hx b (by simp [hb])]
       simp [hv]
   | false=>
     have hv:qaz x=true:=by simpa [qbJ] using hn
     simp only [cond_false,Bool.false_and,Bool.false_or]
     rw [qe (show qjA s x from ⟨by omega,hx0.1,fun b hb=>⟨(hs b hb).1,by have:=(hs b hb).2;have:=hx0.2;omega⟩⟩)]
     have hl:(qiY s x).length≤s.length+1:=qJE s x
     rw [q1E xs (i+1) (qiY s x) (by omega) (fun b hb=> ?_) fun b hb=>hx b (by simp [hb])]
     ·simp only [List.filter_cons,hv,if_true,List.foldl_cons]
      rfl
     ·rcases qsI hb with rfl | hb
      ·exact hx0
      ·exact hs b hb
theorem zct (N:Nat) (d:Int) (l:List (Val qa)) (K:List (Val qa)→Option (qc [i33])) (h:okL d l) (n:Nat) (hn:l.length<n) (s:List (Val qa)):qgy N d l 0 d K n 0 s=qad (fun _ (x:Val qa) (s:List (Val qa)) K=>bif qbJ x then (bif !qgF x then some (qa8 d,())else K s)else chk (qjA s x) (K (qiY s x))) 0 l s K:=
 qaZ (xs:=l) (F:=fun n i s=>qgy N d l 0 d K n i s) h.2.1 (fun n i s hi=>by
  obtain ⟨ha,hlen⟩:=h.2.2 _ (List.getElem_mem hi)
  have h4:=(qbb ha).1
  have hd':=h.1
  rw [qgy,qj (by omega),qe (by omega),qI hi,qe (show qgY _ from ha),qe (by omega),qe (show qcy d from ⟨hd'.1,by omega⟩),qe (by omega),qe (show qbF _ from by unfold qbF;omega)]
  rfl) (fun n i s hi=>by rw [qgy,qi (by omega)]) n s hn
theorem zry (d:Int) (l:List (Val qa)) (h:qaF d l): ∃N,qEe N d l=some (qv d l,()):=⟨l.length+1,by
 rw [qEe,zct _ _ _ _ h _ (Nat.lt_succ_self _)]
 refine (q1E (d:=d) l 0 [] (by simpa using h.2.1) (by simp) h.2.2).trans ?_
 rw [qv]
 cases l.any qc3<;>rfl⟩
theorem qhd:Sound Tryz.prog 150 qai:=qr (tt:=tt) (Γ:=qf3) hT (qg qTX (qg qBQ (qg q5J (qg zyL (qg q9J qn))))) hm (fn:=Tryz.f150) Tryz.func150 (c:=Tryz.f150.body.getD .skip) (by kernel_rfl) (by kernel_rfl) fun x hx=>by
 obtain ⟨N,h⟩:=zry x.1 x.2.1 hx
 exact ⟨qdI N,zmp,qu _,zrM N,(zmt N x.1 x.2.1).trans h⟩
end Go.T
