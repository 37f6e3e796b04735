/- Normal cells: the reference's. -/
import Derived.Test.YthefcjjgchekiaaGreatB4
set_option linter.unusedSimpArgs false
set_option linter.unusedVariables false
namespace Go.T
open Go Go.Proofs
set_option maxHeartbeats 4000000
set_option maxRecDepth 100000
def qbN (a:Val qa):Bool:= !q6 a
def qnf (a:Val qa):Prop:=okA a
def qiA (a:Val qa):Bool:=decide ((a.2.1:Int)<0)||(decide ((a.2.1:Int)=0)&& !a.2.2)
def gLv (a:Val qa):Int:=(gL 0 (atm a).1:Nat)
def qgh (a:Val qa):Prop:=okA a
def qll (a b:Val qa):Bool:=decide (qaG (atm b) (atm a)≤0)
def qt0 (a b:Val qa):Prop:=okA a∧okA b∧way (atm b) (atm a)=0
def qhS (l:List (Val qa)) (a:Val qa):List (Val qa):=qav l a
def qlw (l:List (Val qa)) (a:Val qa):Prop:=l.length≤1048575∧okA a∧ ∀b∈l,okA b∧List.length (α:=Int) b.1=List.length (α:=Int) a.1
theorem zaZ (c:Int) (h s:Bool):(!h&&(decide (0<c)||(decide (c=0)&&s)))=(!h&& !(decide (c<0)||(decide (c=0)&& !s))):=by
 by_cases h1:c<0
 ·have h2: ¬(0:Int)<c:=by omega
  have h3: ¬c=0:=by omega
  simp [h1,h2,h3]
 ·by_cases h2:c=0
  ·simp [h2]
  ·have h3:(0:Int)<c:=by omega
   simp [h1,h2,h3]
theorem qWr (p q:Int) (s t:Bool):decide ((if sgI (p - q)=0 then (if t=s then 0 else if t then 1 else -1)else sgI (p - q))≤(0:Int))=(decide (p<q)||(decide (q=p)&&(s|| !t))):=by
 unfold sgI
 by_cases c1:p<q
 ·have c2:p - q<0:=by omega
  simp [c1,c2]
 ·by_cases c2:q=p
  ·subst c2
   cases s<;>cases t<;>simp
  ·have c3: ¬p - q<0:=by omega
   have c4:0<p - q:=by omega
   rw [if_neg c3,if_pos c4,if_neg (by omega)]
   simp [c1,c2]
theorem qUV (a:Val qa):qbU a=(qbN a&& !qiA a):=zaZ a.2.1 (q6 a) a.2.2
def qhx:G:={ps:=[qg],rs:=[i4],dp:=true,pre:=fun x=>qnf x.1,fn:=fun x=>(qbN x.1,())}
noncomputable def qiv (N:Nat) (v2:List (Val (.int .i64))) (v3:Int) (v4:Bool) (k0:Unit→Option (qb [i4])):Nat→Int→Option (qb [i4])
 | 0,_=>none
 | n+1,v1=>bif (decide (v1<(v2.length:Int)))then (chk (0≤v1∧v1<(v2.length:Int)) (bif (!(decide (((v2.getD v1.toNat (qc (.int .i64))):Int)=(0:Int))))then (some (false,()))else (qiv N v2 v3 v4 k0 n (IntKind.i64.wrap (v1+(1:Int))))))else (k0 ())
noncomputable def qAq (N:Nat) (v0:Val qa):Option (qb [i4]):=qiv N (v0.1:List (Val (.int .i64))) (v0.2.1:Int) (v0.2.2:Bool) (fun (_:Unit)=>some (true,())) N (0:Int)
def qtM:Gam:=[]
def qt5:Nm:=⟨[false,true,false,true],[],false⟩
theorem qGe:qt5.zero=false:=rfl
theorem qNQ:qt5.fix=[]:=rfl
theorem qNl:qt5.keep=[false,true,false,true]:=rfl
def qvF:Nm:=⟨[],[],false⟩
theorem qIJ:qvF.zero=false:=rfl
theorem qNB:qvF.fix=[]:=rfl
theorem qPP:qvF.keep=[]:=rfl
def qnA:Nat→Tree:=fun _=> .done
def qur:Nat→Nm:=fun i=>if i=2 then qt5 else ⟨[],[],false⟩
def qtp:Nat→Option Jn:=fun _=>none
def qpe:Nat→Option Nm:=fun i=>if i=0 then some qvF else none
def qqq:Nat→Option Nm:=fun _=>none
theorem qZH:qj qnA (Tryz.f229.body.getD .skip)=true:=by kernel_rfl
def qdh (N:Nat):Tab:={tr:=qnA,lp:=qur,ex:=qpe,rg:=qqq,jn:=qtp,fuel:=N}
theorem qIQ (N:Nat):(qdh N).pins=false:=rfl
theorem q2v (N:Nat):qn Tryz.prog (qdh N):=qr fun _=>rfl
theorem qJr (N:Nat) (i:Nat):(qdh N).tr i=qnA i:=rfl
theorem qIf (N:Nat) (i:Nat):(qdh N).lp i=qur i:=rfl
theorem qFq (N:Nat) (i:Nat):(qdh N).ex i=qpe i:=rfl
theorem qPT (N:Nat) (i:Nat):(qdh N).rg i=qqq i:=rfl
theorem qC3 (N:Nat) (i:Nat):(qdh N).jn i=qtp i:=rfl
theorem qLv (N:Nat):(qdh N).fuel=N:=rfl
noncomputable def qQ1:Code:=cut [true,false,true,true,true] (Tryz.f229.body.getD .skip)
theorem zaM {N:Nat} {Q:X→St→Option (qb [i4])} {e:List LV} {h:List Blk}:qd tt qtM (qdh N) qQ1 Q ⟨e,h⟩=qd tt qtM (qdh N) (cut [true,false,true,true,true] (Tryz.f229.body.getD .skip)) Q ⟨e,h⟩:=rfl
theorem zb9 (N:Nat) (v2:List (Val (.int .i64))) (v3:Int) (v4:Bool) {k0:Unit→Option (qb [i4])} {Q:X→St→Option (qb [i4])} {c:Code} (hc:c=qQ1) (hret: ∀st,Q .ret st=qB tt true [i4] [.tmp 2] st) (h0:Q (.exit 0) ⟨[u,u,u,u,u,u,u,u,u,u,u,u,u,u,u,u,u],[]⟩=k0 ()): ∀(n:Nat) (v1:Int),qC (qd tt qtM (qdh N) c) false qt5 Q n ⟨[u,.one (.ptr 0 0 0),u,.one (.int .i64 v1),u,u,u,u,u,u,u,u,u,u,u,u,u],[.box [.sl 3 (.int .i64) v2 1,.int .i64 v3,.bool v4]]⟩=qiv N v2 v3 v4 k0 n v1:=by
 subst hc;intro n;induction n with
 | zero=>intros;rfl
 | succ n ih=>
   intro v1
   rw [qL,zaM,qiv];unfold Tryz.f229
   simp (maxSteps:=10000000) -implicitDefEqProofs [qJr,qnA,qIf,qur,qFq,qpe,qPT,qqq,qC3,qtp,qLv,qIQ,qNQ,qNl,qGe,qNB,qPP,qIJ,hret,h0,ih]
theorem q7r (N:Nat) (v0:Val qa):qd tt qtM (qdh N) (Tryz.f229.body.getD .skip) (qo tt true [i4] [.tmp 2]) (qt [qg] 17 (v0,()))=qAq N v0:=by
 unfold Tryz.f229
 simp (maxSteps:=10000000) -implicitDefEqProofs [qJr,qnA,qIf,qur,qFq,qpe,qPT,qqq,qC3,qtp,qLv,qIQ,qNQ,qNl,qGe,qNB,qPP,qIJ]
 rewrite [zb9 (k0:=(fun (_:Unit)=>some (true,()))) N _ _ _ ?_ ?_ ?_]
 ·rewrite [qAq];first | rfl | simp (maxSteps:=10000000) -implicitDefEqProofs []
 ·rfl
 ·intro;simp only [qK,qI,qJ,qy]
 ·simp (maxSteps:=10000000) -implicitDefEqProofs [qJr,qnA,qIf,qur,qFq,qpe,qPT,qqq,qC3,qtp,qLv,qIQ,qNQ,qNl,qGe,qNB,qPP,qIJ]
noncomputable def qyO (N:Nat) (v0:Val qa):Option (qb [i4]):=bif (decide ((v0.2.1:Int)<(0:Int)))then (some (true,()))else (bif (decide ((v0.2.1:Int)=(0:Int)))then (some ((!(v0.2.2:Bool)),()))else (some (false,())))
def qRy:Gam:=[]
def qBk:Nat→Tree:=fun _=> .done
def qOU:Nat→Nm:=fun _=>⟨[],[],false⟩
def qIY:Nat→Option Jn:=fun _=>none
def qIK:Nat→Option Nm:=fun _=>none
def qHk:Nat→Option Nm:=fun _=>none
theorem zbb:qj qBk (Tryz.f232.body.getD .skip)=true:=by kernel_rfl
def qgn (N:Nat):Tab:={tr:=qBk,lp:=qOU,ex:=qIK,rg:=qHk,jn:=qIY,fuel:=N}
theorem qYn (N:Nat):(qgn N).pins=false:=rfl
theorem q5t (N:Nat):qn Tryz.prog (qgn N):=qr fun _=>rfl
theorem zac (N:Nat) (i:Nat):(qgn N).tr i=qBk i:=rfl
theorem qYb (N:Nat) (i:Nat):(qgn N).lp i=qOU i:=rfl
theorem zc2 (N:Nat) (i:Nat):(qgn N).ex i=qIK i:=rfl
theorem qXT (N:Nat) (i:Nat):(qgn N).rg i=qHk i:=rfl
theorem q69 (N:Nat) (i:Nat):(qgn N).jn i=qIY i:=rfl
theorem q8P (N:Nat):(qgn N).fuel=N:=rfl
theorem q9r (N:Nat) (v0:Val qa):qd tt qRy (qgn N) (Tryz.f232.body.getD .skip) (qo tt true [i4] [.tmp 2]) (qt [qg] 16 (v0,()))=qyO N v0:=by
 rw [qyO];unfold Tryz.f232
 simp (maxSteps:=10000000) -implicitDefEqProofs [zac,qBk,qYb,qOU,zc2,qIK,qXT,qHk,q69,qIY,q8P,qYn]
 try rfl
theorem q49 (N:Nat) (xs:List (Val (.int .i64))) (c:Int) (b:Bool) (K:Unit→Option (qb [i4])) (hl:xs.length≤1048576) (n:Nat) (hn:xs.length<n):qiv N xs c b K n 0=bif List.all (α:=Int) xs (fun x=>decide (x=0))then K ()else some (false,()):=
 (qaj (F:=fun n i (_:Unit)=>qiv N xs c b K n i) (step:=fun _ x _ K=>bif decide (x=0)then K ()else some (false,())) (k:=K) hl (fun n i s hi=>by rw [qiv,ql (by omega),qe (by omega),qH hi,qaO]) (fun n i s hi=>by rw [qiv,qi (by omega)]) n () hn).trans (qhr xs 0)
theorem qYD (a:Val qa) (h:qnf a): ∃N,qAq N a=some (qbN a,()):=⟨List.length (α:=Val (.int .i64)) a.1+1,by
 have h4:=(qaN h).1
 rw [qAq,q49 _ _ _ _ _ (by omega) _ (Nat.lt_succ_self _)]
 have e:qbN a=List.all (α:=Int) a.1 (fun x=>decide (x=0)):=by
  unfold qbN q6
  rw [Bool.eq_iff_iff]
  simp only [Bool.not_eq_true',decide_eq_false_iff_not,List.all_eq_true,decide_eq_true_eq,Decidable.not_not,ne_eq]
  exact qJu
 rw [e]
 cases List.all (α:=Int) a.1 (fun x=>decide (x=0))<;>rfl⟩
theorem qRj:Sound Tryz.prog 229 qhx:=qu (tt:=tt) (Γ:=qtM) hT qq hm (fn:=Tryz.f229) Tryz.func229 (c:=Tryz.f229.body.getD .skip) (by kernel_rfl) (by kernel_rfl) fun x hx=>by
 obtain ⟨N,h⟩:=qYD x.1 hx
 exact ⟨qdh N,qZH,qv _,q2v N,(q7r N x.1).trans h⟩
def qmf:G:={ps:=[qg],rs:=[i4],dp:=true,pre:=fun _=>True,fn:=fun x=>(qiA x.1,())}
theorem q7t (a:Val qa): ∃N,qyO N a=some (qiA a,()):=⟨0,by
 rw [qyO,qiA]
 by_cases h1:(a.2.1:Int)<0<;>by_cases h2:(a.2.1:Int)=0<;>simp [h1,h2]⟩
theorem q5l:Sound Tryz.prog 232 qmf:=qu (tt:=tt) (Γ:=qRy) hT qq hm (fn:=Tryz.f232) Tryz.func232 (c:=Tryz.f232.body.getD .skip) (by kernel_rfl) (by kernel_rfl) fun x hx=>by
 obtain ⟨N,h⟩:=q7t x.1
 exact ⟨qgn N,zbb,qv _,q5t N,(q9r N x.1).trans h⟩
def qhh:G:={ps:=[qg],rs:=[i3],dp:=true,pre:=fun x=>qgh x.1,fn:=fun x=>(gLv x.1,())}
noncomputable def qAX (N:Nat) (v0:Val qa):Option (qb [i3]):=chk (qgw (v0.1:List (Val (.int .i64))) (0:Int)) (some (((qb4 (v0.1:List (Val (.int .i64))) (0:Int)):Int),()))
def qCQ:Gam:=[(231,qcm)]
theorem zcR:Gam.get qCQ 231=some qcm:=rfl
def qw8:Nat→Tree:=fun _=> .done
def qPM:Nat→Nm:=fun _=>⟨[],[],false⟩
def qGk:Nat→Option Jn:=fun _=>none
def qGM:Nat→Option Nm:=fun _=>none
def qKX:Nat→Option Nm:=fun _=>none
theorem q4b:qj qw8 (Tryz.f319.body.getD .skip)=true:=by kernel_rfl
def qfC (N:Nat):Tab:={tr:=qw8,lp:=qPM,ex:=qGM,rg:=qKX,jn:=qGk,fuel:=N}
theorem za8 (N:Nat):(qfC N).pins=false:=rfl
theorem qZ3 (N:Nat):qn Tryz.prog (qfC N):=qr fun _=>rfl
theorem q1L (N:Nat) (i:Nat):(qfC N).tr i=qw8 i:=rfl
theorem qWv (N:Nat) (i:Nat):(qfC N).lp i=qPM i:=rfl
theorem qXt (N:Nat) (i:Nat):(qfC N).ex i=qGM i:=rfl
theorem qU9 (N:Nat) (i:Nat):(qfC N).rg i=qKX i:=rfl
theorem q8r (N:Nat) (i:Nat):(qfC N).jn i=qGk i:=rfl
theorem za7 (N:Nat):(qfC N).fuel=N:=rfl
theorem zcD (N:Nat) (v0:Val qa):qd tt qCQ (qfC N) (Tryz.f319.body.getD .skip) (qo tt true [i3] [.tmp 2]) (qt [qg] 6 (v0,()))=qAX N v0:=by
 rw [qAX];unfold Tryz.f319
 simp (maxSteps:=10000000) -implicitDefEqProofs [q1L,qw8,qWv,qPM,qXt,qGM,qU9,qKX,q8r,qGk,za7,za8,zcR,qcm]
 try rfl
theorem zdP (a:Val qa) (h:qgh a): ∃N,qAX N a=some (gLv a,()):=⟨0,by
 rw [qAX,qe (show qgw a.1 0 from ⟨(qyJ h).1,by unfold inI;omega,(qyJ h).2⟩)];rfl⟩
theorem qQG:Sound Tryz.prog 319 qhh:=qu (tt:=tt) (Γ:=qCQ) hT (qf qMZ qq) hm (fn:=Tryz.f319) Tryz.func319 (c:=Tryz.f319.body.getD .skip) (by kernel_rfl) (by kernel_rfl) fun x hx=>by
 obtain ⟨N,h⟩:=zdP x.1 hx
 exact ⟨qfC N,q4b,qv _,qZ3 N,(zcD N x.1).trans h⟩
theorem qvx (a:Val qa):max (1:Int) (gLv a)=gSv a:=by unfold gLv gSv gS;omega
noncomputable def qlQ (N:Nat) (v2:Int) (v3:Int) (v5:List (Val (.int .i64))) (v6:Int) (v7:Bool) (v8:List (Val (.int .i64))) (v9:Int) (v10:Bool) (k0:Unit→Option (qb [i3])):Nat→Int→Option (qb [i3])
 | 0,_=>none
 | n+1,v4=>bif (decide (v4<(v5.length:Int)))then (bif (decide (v4<(v8.length:Int)))then (chk (0≤v4∧v4<(v5.length:Int)) (chk (v2≠0) (chk (0≤v4∧v4<(v8.length:Int)) (chk (v3≠0) (bif (!(decide ((IntKind.i64.wrap (((v5.getD v4.toNat (qc (.int .i64))):Int).tdiv v2))=(IntKind.i64.wrap (((v8.getD v4.toNat (qc (.int .i64))):Int).tdiv v3)))))then (bif (decide ((IntKind.i64.wrap (((v5.getD v4.toNat (qc (.int .i64))):Int).tdiv v2))<(IntKind.i64.wrap (((v8.getD v4.toNat (qc (.int .i64))):Int).tdiv v3))))then (some ((-1:Int),()))else (some ((1:Int),())))else (qlQ N v2 v3 v5 v6 v7 v8 v9 v10 k0 n (IntKind.i64.wrap (v4+(1:Int)))))))))else (k0 ()))else (k0 ())
noncomputable def qxf (N:Nat) (v0:Val qa) (v1:Val qa):Option (qb [i3]):=chk (qgh v0) (chk (qgh v1) (qlQ N (max (1:Int) ((gLv v0):Int)) (max (1:Int) ((gLv v1):Int)) (v0.1:List (Val (.int .i64))) (v0.2.1:Int) (v0.2.2:Bool) (v1.1:List (Val (.int .i64))) (v1.2.1:Int) (v1.2.2:Bool) (fun (_:Unit)=>some ((0:Int),())) N (0:Int)))
def qnm:Gam:=[(319,qhh)]
theorem qEl:Gam.get qnm 319=some qhh:=rfl
def qoL:Nm:=⟨[false,false,true,true,false,true,true,true],[],false⟩
theorem qPH:qoL.zero=false:=rfl
theorem qEb:qoL.fix=[]:=rfl
theorem qEk:qoL.keep=[false,false,true,true,false,true,true,true]:=rfl
def qvR:Nm:=⟨[],[],false⟩
theorem qFy:qvR.zero=false:=rfl
theorem qLj:qvR.fix=[]:=rfl
theorem qK0:qvR.keep=[]:=rfl
def qnq:Nat→Tree:=fun _=> .done
def qrA:Nat→Nm:=fun i=>if i=4 then qoL else ⟨[],[],false⟩
def qoH:Nat→Option Jn:=fun _=>none
def qsX:Nat→Option Nm:=fun i=>if i=0 then some qvR else none
def qoW:Nat→Option Nm:=fun _=>none
theorem q9q:qj qnq (Tryz.f291.body.getD .skip)=true:=by kernel_rfl
def qcX (N:Nat):Tab:={tr:=qnq,lp:=qrA,ex:=qsX,rg:=qoW,jn:=qoH,fuel:=N}
theorem qN2 (N:Nat):(qcX N).pins=false:=rfl
theorem qYN (N:Nat):qn Tryz.prog (qcX N):=qr fun _=>rfl
theorem qM8 (N:Nat) (i:Nat):(qcX N).tr i=qnq i:=rfl
theorem qMf (N:Nat) (i:Nat):(qcX N).lp i=qrA i:=rfl
theorem qFC (N:Nat) (i:Nat):(qcX N).ex i=qsX i:=rfl
theorem qHG (N:Nat) (i:Nat):(qcX N).rg i=qoW i:=rfl
theorem qJ3 (N:Nat) (i:Nat):(qcX N).jn i=qoH i:=rfl
theorem qBP (N:Nat):(qcX N).fuel=N:=rfl
noncomputable def qQw:Code:=cut [true,true,true,false,true,true,true] (Tryz.f291.body.getD .skip)
theorem za4 {N:Nat} {Q:X→St→Option (qb [i3])} {e:List LV} {h:List Blk}:qd tt qnm (qcX N) qQw Q ⟨e,h⟩=qd tt qnm (qcX N) (cut [true,true,true,false,true,true,true] (Tryz.f291.body.getD .skip)) Q ⟨e,h⟩:=rfl
theorem qVr (N:Nat) (v2:Int) (v3:Int) (v5:List (Val (.int .i64))) (v6:Int) (v7:Bool) (v8:List (Val (.int .i64))) (v9:Int) (v10:Bool) {k0:Unit→Option (qb [i3])} {Q:X→St→Option (qb [i3])} {c:Code} (hc:c=qQw) (hret: ∀st,Q .ret st=qB tt true [i3] [.tmp 4] st) (h0:Q (.exit 0) ⟨[u,u,u,u,u,u,u,u,u,u,u,u,u,u,u,u,u,u,u,u,u,u,u,u,u,u,u,u,u,u,u,u,u,u,u,u,u,u,u,u,u,u,u,u,u,u,u,u,u,u],[]⟩=k0 ()): ∀(n:Nat) (v4:Int),qC (qd tt qnm (qcX N) c) false qoL Q n ⟨[u,u,.one (.ptr 0 0 0),.one (.ptr 1 0 0),u,.one (.int .i64 v2),.one (.int .i64 v3),.one (.int .i64 v4),u,u,u,u,u,u,u,u,u,u,u,u,u,u,u,u,u,u,u,u,u,u,u,u,u,u,u,u,u,u,u,u,u,u,u,u,u,u,u,u,u,u],[.box [.sl 3 (.int .i64) v5 2,.int .i64 v6,.bool v7],.box [.sl 3 (.int .i64) v8 2,.int .i64 v9,.bool v10]]⟩=qlQ N v2 v3 v5 v6 v7 v8 v9 v10 k0 n v4:=by
 subst hc;intro n;induction n with
 | zero=>intros;rfl
 | succ n ih=>
   intro v4
   rw [qL,za4,qlQ];unfold Tryz.f291
   simp (maxSteps:=10000000) -implicitDefEqProofs [qM8,qnq,qMf,qrA,qFC,qsX,qHG,qoW,qJ3,qoH,qBP,qN2,qEb,qEk,qPH,qLj,qK0,qFy,qEl,qhh,hret,h0,ih]
theorem zaO (N:Nat) (v0:Val qa) (v1:Val qa):qd tt qnm (qcX N) (Tryz.f291.body.getD .skip) (qo tt true [i3] [.tmp 4]) (qt [qg,qg] 50 (v0,v1,()))=qxf N v0 v1:=by
 unfold Tryz.f291
 simp (maxSteps:=10000000) -implicitDefEqProofs [qM8,qnq,qMf,qrA,qFC,qsX,qHG,qoW,qJ3,qoH,qBP,qN2,qEb,qEk,qPH,qLj,qK0,qFy,qEl,qhh]
 rewrite [qVr (k0:=(fun (_:Unit)=>some ((0:Int),()))) N _ _ _ _ _ _ _ _ ?_ ?_ ?_]
 ·rewrite [qxf];first | rfl | simp (maxSteps:=10000000) -implicitDefEqProofs []
 ·rfl
 ·intro;simp only [qK,qI,qJ,qy]
 ·simp (maxSteps:=10000000) -implicitDefEqProofs [qM8,qnq,qMf,qrA,qFC,qsX,qHG,qoW,qJ3,qoH,qBP,qN2,qEb,qEk,qPH,qLj,qK0,qFy,qEl,qhh]
noncomputable def qxU (N:Nat) (v0:Val qa) (v1:Val qa):Option (qb [i4]):=chk (qgh v1) (chk (qgh v0) (bif (decide ((IntKind.i64.wrap ((v1.2.1:Int)*(max (1:Int) ((gLv v0):Int))))<(IntKind.i64.wrap ((v0.2.1:Int)*(max (1:Int) ((gLv v1):Int))))))then (some (true,()))else (bif (decide ((IntKind.i64.wrap ((v0.2.1:Int)*(max (1:Int) ((gLv v1):Int))))=(IntKind.i64.wrap ((v1.2.1:Int)*(max (1:Int) ((gLv v0):Int))))))then (bif (v0.2.2:Bool)then (some (true,()))else (some ((!(v1.2.2:Bool)),())))else (some (false,())))))
def qML:Gam:=[(319,qhh)]
theorem q3O:Gam.get qML 319=some qhh:=rfl
def qv3:Nm:=⟨[false,false,true,true,false,true],[],false⟩
theorem q15:qv3.zero=false:=rfl
theorem zcs:qv3.fix=[]:=rfl
theorem q1Y:qv3.keep=[false,false,true,true,false,true]:=rfl
def qAZ:Nm:=⟨[false,false,true,true,false,true,true],[],false⟩
theorem zc5:qAZ.zero=false:=rfl
theorem q2J:qAZ.fix=[]:=rfl
theorem qWR:qAZ.keep=[false,false,true,true,false,true,true]:=rfl
def qyT:Nat→Tree:=fun i=>if i=1 then .quiet 2 (.alt 0 (.alt 1 (.alt 3 (.alt 4 (.quiet 5 (.quiet 6 .done)) .stop) .stop) (.alt 3 (.alt 1 (.alt 4 (.quiet 5 (.quiet 6 .done)) .stop) (.alt 4 (.quiet 1 (.quiet 5 (.quiet 6 .done))) .stop)) .stop)) (.alt 3 (.alt 0 (.alt 1 (.alt 4 (.quiet 5 (.quiet 6 .done)) .stop) (.alt 4 (.quiet 1 (.quiet 5 (.quiet 6 .done))) .stop)) (.alt 4 (.quiet 0 (.quiet 1 (.quiet 5 (.quiet 6 .done)))) .stop)) .stop))else if i=2 then .quiet 2 (.alt 0 (.alt 1 (.alt 3 (.alt 4 (.quiet 5 (.quiet 6 .done)) .stop) .stop) (.alt 3 (.alt 1 (.alt 4 (.quiet 5 (.quiet 6 .done)) .stop) (.alt 4 (.quiet 1 (.quiet 5 (.quiet 6 .done))) .stop)) .stop)) (.alt 3 (.alt 0 (.alt 1 (.alt 4 (.quiet 5 (.quiet 6 .done)) .stop) (.alt 4 (.quiet 1 (.quiet 5 (.quiet 6 .done))) .stop)) (.alt 4 (.quiet 0 (.quiet 1 (.quiet 5 (.quiet 6 .done)))) .stop)) .stop))else .done
def qE8:Nat→Nm:=fun _=>⟨[],[],false⟩
def qEZ:Nat→Option Jn:=fun _=>none
def qJ2:Nat→Option Nm:=fun _=>none
def qCt:Nat→Option Nm:=fun i=>if i=1 then some qv3 else if i=2 then some qAZ else none
theorem q3v:qj qyT (Tryz.f292.body.getD .skip)=true:=by kernel_rfl
def qfK (N:Nat):Tab:={tr:=qyT,lp:=qE8,ex:=qJ2,rg:=qCt,jn:=qEZ,fuel:=N}
theorem q7R (N:Nat):(qfK N).pins=false:=rfl
theorem q4a (N:Nat):qn Tryz.prog (qfK N):=qr fun _=>rfl
theorem q0h (N:Nat) (i:Nat):(qfK N).tr i=qyT i:=rfl
theorem q9m (N:Nat) (i:Nat):(qfK N).lp i=qE8 i:=rfl
theorem q1l (N:Nat) (i:Nat):(qfK N).ex i=qJ2 i:=rfl
theorem q1D (N:Nat) (i:Nat):(qfK N).rg i=qCt i:=rfl
theorem zcN (N:Nat) (i:Nat):(qfK N).jn i=qEZ i:=rfl
theorem zdc (N:Nat):(qfK N).fuel=N:=rfl
theorem q0c (N:Nat) (v0:Val qa) (v1:Val qa):qd tt qML (qfK N) (Tryz.f292.body.getD .skip) (qo tt true [i4] [.tmp 4]) (qt [qg,qg] 36 (v0,v1,()))=qxU N v0 v1:=by
 rw [qxU];unfold Tryz.f292
 simp (maxSteps:=10000000) -implicitDefEqProofs [q0h,qyT,q9m,qE8,q1l,qJ2,q1D,qCt,zcN,qEZ,zdc,q7R,zcs,q1Y,q15,q2J,qWR,zc5,q3O,qhh]
 try rfl
noncomputable def qwK (N:Nat) (v0:Val qa):Option (qb [qg]):=chk (([]:List (Val (.int .i64))).length+(v0.1:List (Val (.int .i64))).length≤1048576) (some (((([]:List (Val (.int .i64)))++(v0.1:List (Val (.int .i64)))),(v0.2.1:Int),(v0.2.2:Bool)),()))
def qT2:Gam:=[]
def qAg:Nat→Tree:=fun i=>if i=1 then .keep 1 (.keep 2 (.keep 4 (.keep 5 (.keep 6 (.keep 7 (.alt 0 (.alt 3 (.quiet 8 (.alt 9 .done .stop)) .stop) .stop))))))else .done
def qBY:Nat→Nm:=fun _=>⟨[],[],false⟩
def qLa:Nat→Option Jn:=fun _=>none
def qLV:Nat→Option Nm:=fun _=>none
def qNv:Nat→Option Nm:=fun _=>none
theorem q9i:qj qAg (Tryz.f234.body.getD .skip)=true:=by kernel_rfl
def qfQ (N:Nat):Tab:={tr:=qAg,lp:=qBY,ex:=qLV,rg:=qNv,jn:=qLa,fuel:=N}
theorem q3F (N:Nat):(qfQ N).pins=false:=rfl
theorem q1w (N:Nat):qn Tryz.prog (qfQ N):=qr fun _=>rfl
theorem zcp (N:Nat) (i:Nat):(qfQ N).tr i=qAg i:=rfl
theorem qUS (N:Nat) (i:Nat):(qfQ N).lp i=qBY i:=rfl
theorem q2I (N:Nat) (i:Nat):(qfQ N).ex i=qLV i:=rfl
theorem qZK (N:Nat) (i:Nat):(qfQ N).rg i=qNv i:=rfl
theorem q31 (N:Nat) (i:Nat):(qfQ N).jn i=qLa i:=rfl
theorem q88 (N:Nat):(qfQ N).fuel=N:=rfl
theorem qVS (N:Nat) (v0:Val qa):qd tt qT2 (qfQ N) (Tryz.f234.body.getD .skip) (qo tt true [qg] [.cell 2 108]) (qt [qg] 12 (v0,()))=qwK N v0:=by
 rw [qwK];unfold Tryz.f234
 simp (maxSteps:=10000000) -implicitDefEqProofs [zcp,qAg,qUS,qBY,q2I,qLV,qZK,qNv,q31,qLa,q88,q3F]
 try rfl
noncomputable def qBx (N:Nat) (v0:Int):Option (qb [i33]):=chk (0≤v0∧v0≤v0∧v0≤1048576) (some ((v0,([((List.replicate v0.toNat (qc (.int .i64))),(1:Int),false)]:List (Val qa))),()))
def qSL:Gam:=[]
def qwQ:Nat→Tree:=fun _=> .done
def qLQ:Nat→Nm:=fun _=>⟨[],[],false⟩
def qD1:Nat→Option Jn:=fun _=>none
def qDK:Nat→Option Nm:=fun _=>none
def qNM:Nat→Option Nm:=fun _=>none
theorem q40:qj qwQ (Tryz.f209.body.getD .skip)=true:=by kernel_rfl
def qfO (N:Nat):Tab:={tr:=qwQ,lp:=qLQ,ex:=qDK,rg:=qNM,jn:=qD1,fuel:=N}
theorem q4m (N:Nat):(qfO N).pins=false:=rfl
theorem q9f (N:Nat):qn Tryz.prog (qfO N):=qr fun _=>rfl
theorem q8p (N:Nat) (i:Nat):(qfO N).tr i=qwQ i:=rfl
theorem qWn (N:Nat) (i:Nat):(qfO N).lp i=qLQ i:=rfl
theorem qXL (N:Nat) (i:Nat):(qfO N).ex i=qDK i:=rfl
theorem q2j (N:Nat) (i:Nat):(qfO N).rg i=qNM i:=rfl
theorem q1C (N:Nat) (i:Nat):(qfO N).jn i=qD1 i:=rfl
theorem qZY (N:Nat):(qfO N).fuel=N:=rfl
theorem zcH (N:Nat) (v0:Int):qd tt qSL (qfO N) (Tryz.f209.body.getD .skip) (qo tt true [i33] [.cell 2 33]) (qt [i3] 9 (v0,()))=qBx N v0:=by
 rw [qBx];unfold Tryz.f209
 simp (maxSteps:=10000000) -implicitDefEqProofs [q8p,qwQ,qWn,qLQ,qXL,qDK,q2j,qNM,q1C,qD1,qZY,q4m]
 try rfl
def qmC:G:={ps:=[qg,qg],rs:=[i3],dp:=true,pre:=fun x=>qeh x.1 x.2.1,fn:=fun x=>(qa1 x.1 x.2.1,())}
theorem qTS (N:Nat) (g h:Nat) (hg:(g:Int)≠0) (hh:(h:Int)≠0) (xs ys:List (Val (.int .i64))) (hl:xs.length=ys.length) (h4:xs.length≤1048576) (hx: ∀x∈xs,inI x) (hy: ∀x∈ys,inI x) (c c':Int) (s s':Bool): ∀(k i:Nat),xs.length - i=k→ ∀n,k<n→
 qlQ N g h xs c s ys c' s' (fun _=>some ((0:Int),())) n i=some (qaT ((List.drop (α:=Int) i xs).map fun x=>x.tdiv (g:Int)) ((List.drop (α:=Int) i ys).map fun x=>x.tdiv (h:Int)),())
 | 0,i,hi,n+1,_=>by
   rw [qlQ,qi (by omega),List.drop_eq_nil_of_le (by omega),List.drop_eq_nil_of_le (by omega)]
   rfl
 | k+1,i,hi,n+1,hn=>by
   have h1:i<xs.length:=by omega
   have h2:i<ys.length:=by omega
   rw [qlQ,ql (by omega),ql (by omega),qe (by omega),qe hg,qe (by omega),qe hh,qH h1,qH h2,qhE (hx _ (List.getElem_mem h1)),qhE (hy _ (List.getElem_mem h2)),qfh h1 h4]
   rw [List.drop_eq_getElem_cons h1,List.drop_eq_getElem_cons h2,List.map_cons,List.map_cons,qaT]
   generalize hp:Int.tdiv xs[i] (g:Int)=p
   generalize hq:Int.tdiv ys[i] (h:Int)=q
   by_cases a1:p<q
   ·have: ¬p=q:=by omega
    simp [a1,this]
   ·by_cases a2:q<p
    ·have: ¬p=q:=by omega
     simp [a1,a2,this]
    ·have:p=q:=by omega
     rw [if_neg a1,if_neg a2,qaO,ql this]
     exact qTS N g h hg hh xs ys hl h4 hx hy c c' s s' k (i+1) (by omega) n (by omega)
theorem q3s (a b:Val qa) (h:qeh a b): ∃N,qxf N a b=some (qa1 a b,()):=⟨List.length (α:=Val (.int .i64)) a.1+1,by
 obtain ⟨ha,hb,hl⟩:=h
 rw [qxf,qe (show qgh a from ha),qe (show qgh b from hb),qvx,qvx]
 have:=qTS (List.length (α:=Val (.int .i64)) a.1+1) (gS (atm a)) (gS (atm b)) (by have:=qew (atm a);omega) (by have:=qew (atm b);omega) a.1 b.1 hl (by have:=(qaN ha).1;omega) (qkS ha) (qkS hb) a.2.1 b.2.1 a.2.2 b.2.2 _ 0 rfl _ (Nat.lt_succ_self _)
 simp only [List.drop_zero]at this
 exact this⟩
theorem q26:Sound Tryz.prog 291 qmC:=qu (tt:=tt) (Γ:=qnm) hT (qf qQG qq) hm (fn:=Tryz.f291) Tryz.func291 (c:=Tryz.f291.body.getD .skip) (by kernel_rfl) (by kernel_rfl) fun x hx=>by
 obtain ⟨N,h⟩:=q3s x.1 x.2.1 hx
 exact ⟨qcX N,q9q,qv _,qYN N,(zaO N x.1 x.2.1).trans h⟩
def qnD:G:={ps:=[qg,qg],rs:=[i4],dp:=true,pre:=fun x=>qt0 x.1 x.2.1,fn:=fun x=>(qll x.1 x.2.1,())}
theorem q4B (a b:Val qa) (h:qt0 a b): ∃N,qxU N a b=some (qll a b,()):=⟨0,by
 obtain ⟨ha,hb,hw⟩:=h
 have h1:=qmc ha
 have h2:=qmc hb
 have g1:=qzN ha
 have g2:=qzN hb
 have p1:=qew (atm a)
 have p2:=qew (atm b)
 rw [qxU,qe (show qgh b from hb),qe (show qgh a from ha),qvx,qvx,qyq h1 ⟨by unfold gSv;omega,g2⟩,qyq h2 ⟨by unfold gSv;omega,g1⟩]
 have e:qll a b=(decide ((b.2.1:Int)*gSv a<a.2.1*gSv b)||(decide ((a.2.1:Int)*gSv b=b.2.1*gSv a)&&(a.2.2|| !b.2.2))):=by
  unfold qll qaG
  rw [if_pos hw]
  have e1:qhv (atm b) (atm a)=sgI (b.2.1*gSv a - a.2.1*gSv b):=rfl
  rw [e1]
  exact qWr _ _ _ _
 rw [e]
 by_cases c1:(b.2.1:Int)*gSv a<a.2.1*gSv b
 ·simp [c1]
 ·by_cases c2:(a.2.1:Int)*gSv b=b.2.1*gSv a
  ·rw [qi c1,ql c2,decide_eq_false c1,decide_eq_true c2,Bool.false_or,Bool.true_and]
   cases a.2.2<;>rfl
  ·simp [c1,c2]⟩
theorem q22:Sound Tryz.prog 292 qnD:=qu (tt:=tt) (Γ:=qML) hT (qf qQG qq) hm (fn:=Tryz.f292) Tryz.func292 (c:=Tryz.f292.body.getD .skip) (by kernel_rfl) (by kernel_rfl) fun x hx=>by
 obtain ⟨N,h⟩:=q4B x.1 x.2.1 hx
 exact ⟨qfK N,q3v,qv _,q4a N,(q0c N x.1 x.2.1).trans h⟩
def qfo:G:={ps:=[qg],rs:=[qg],dp:=true,pre:=fun x=>qa3 x.1,fn:=fun x=>(idA x.1,())}
def qec:G:={ps:=[i3],rs:=[i33],dp:=true,pre:=fun x=>qc8 x.1,fn:=fun x=>(qaW x.1,())}
theorem q50 (a:Val qa) (h:qa3 a): ∃N,qwK N a=some (idA a,()):=⟨0,by
 rw [qwK,qe (by have h:List.length (α:=Val (.int .i64)) a.1≤1048576:=h;simpa using h)];rfl⟩
theorem qY4 (d:Int) (h:qc8 d): ∃N,qBx N d=some (qaW d,()):=⟨0,by
 rw [qBx,qe ⟨h.1,Int.le_refl _,h.2⟩];rfl⟩
theorem qQi:Sound Tryz.prog 234 qfo:=qu (tt:=tt) (Γ:=qT2) hT qq hm (fn:=Tryz.f234) Tryz.func234 (c:=Tryz.f234.body.getD .skip) (by kernel_rfl) (by kernel_rfl) fun x hx=>by
 obtain ⟨N,h⟩:=q50 x.1 hx
 exact ⟨qfQ N,q9i,qv _,q1w N,(qVS N x.1).trans h⟩
theorem qSn:Sound Tryz.prog 209 qec:=qu (tt:=tt) (Γ:=qSL) hT qq hm (fn:=Tryz.f209) Tryz.func209 (c:=Tryz.f209.body.getD .skip) (by kernel_rfl) (by kernel_rfl) fun x hx=>by
 obtain ⟨N,h⟩:=qY4 x.1 hx
 exact ⟨qfO N,q40,qv _,q9f N,(zcH N x.1).trans h⟩
noncomputable def qk0 (N:Nat) (v2:List (Val qa)) (v4:List (Val (.int .i64))) (v5:Int) (v6:Bool) (k0:Int→Option (qb [i31])):Nat→Int→Option (qb [i31])
 | 0,_=>none
 | n+1,v3=>bif (decide (v3<(v2.length:Int)))then (chk (0≤v3∧v3<(v2.length:Int)) (chk (qeh (v2.getD v3.toNat (qc qa)) (v4,v5,v6)) (bif (decide (((qa1 (v2.getD v3.toNat (qc qa)) (v4,v5,v6)):Int)<(0:Int)))then (qk0 N v2 v4 v5 v6 k0 n (IntKind.i64.wrap (v3+(1:Int))))else (k0 v3))))else (k0 v3)
noncomputable def qAd (N:Nat) (v0:List (Val qa)) (v1:Val qa):Option (qb [i31]):=qk0 N v0 (v1.1:List (Val (.int .i64))) (v1.2.1:Int) (v1.2.2:Bool) (fun (v8:Int)=>bif (decide (v8<(v0.length:Int)))then (chk (0≤v8∧v8<(v0.length:Int)) (chk (qeh (v0.getD v8.toNat (qc qa)) v1) (bif (decide (((qa1 (v0.getD v8.toNat (qc qa)) v1):Int)=(0:Int)))then (chk (0≤v8∧v8<(v0.length:Int)) (chk (qt0 (v0.getD v8.toNat (qc qa)) v1) (bif ((qll (v0.getD v8.toNat (qc qa)) v1):Bool)then (some (v0,()))else (chk (([]:List (Val qa)).length+v0.length≤1048576) (chk (0≤v8∧v8<((([]:List (Val qa))++v0).length:Int)) (chk (v8.toNat<(([]:List (Val qa))++v0).length) (some (((([]:List (Val qa))++v0).set v8.toNat v1),()))))))))else (chk (0≤(0:Int)∧(0:Int)≤v8∧v8≤(v0.length:Int)) (chk (0≤v8∧v8≤(v0.length:Int)∧(v0.length:Int)≤(v0.length:Int)) (chk (([]:List (Val qa)).length+((v0.take v8.toNat).drop (0:Int).toNat).length≤1048576) (chk ((([]:List (Val qa))++((v0.take v8.toNat).drop (0:Int).toNat)).length+([v1]:List (Val qa)).length≤1048576) (chk (((([]:List (Val qa))++((v0.take v8.toNat).drop (0:Int).toNat))++([v1]:List (Val qa))).length+((v0.take (v0.length:Int).toNat).drop v8.toNat).length≤1048576) (some ((((([]:List (Val qa))++((v0.take v8.toNat).drop (0:Int).toNat))++([v1]:List (Val qa)))++((v0.take (v0.length:Int).toNat).drop v8.toNat)),()))))))))))else (chk (0≤(0:Int)∧(0:Int)≤v8∧v8≤(v0.length:Int)) (chk (0≤v8∧v8≤(v0.length:Int)∧(v0.length:Int)≤(v0.length:Int)) (chk (([]:List (Val qa)).length+((v0.take v8.toNat).drop (0:Int).toNat).length≤1048576) (chk ((([]:List (Val qa))++((v0.take v8.toNat).drop (0:Int).toNat)).length+([v1]:List (Val qa)).length≤1048576) (chk (((([]:List (Val qa))++((v0.take v8.toNat).drop (0:Int).toNat))++([v1]:List (Val qa))).length+((v0.take (v0.length:Int).toNat).drop v8.toNat).length≤1048576) (some ((((([]:List (Val qa))++((v0.take v8.toNat).drop (0:Int).toNat))++([v1]:List (Val qa)))++((v0.take (v0.length:Int).toNat).drop v8.toNat)),())))))))) N (0:Int)
def qkA:Gam:=[(291,qmC),(292,qnD)]
theorem qIU:Gam.get qkA 291=some qmC:=rfl
theorem qPx:Gam.get qkA 292=some qnD:=rfl
def qoA:Nm:=⟨[true,false,false,true,false,true],[],false⟩
theorem qFn:qoA.zero=false:=rfl
theorem qHS:qoA.fix=[]:=rfl
theorem qOy:qoA.keep=[true,false,false,true,false,true]:=rfl
def qxW:Nm:=⟨[true,false,false,true,false,true],[],false⟩
theorem qKH:qxW.zero=false:=rfl
theorem qEM:qxW.fix=[]:=rfl
theorem qFv:qxW.keep=[true,false,false,true,false,true]:=rfl
def qBl:Nm:=⟨[false,false,false,false,true],[],false⟩
theorem qIg:qBl.zero=false:=rfl
theorem qIk:qBl.fix=[]:=rfl
theorem qMR:qBl.keep=[false,false,false,false,true]:=rfl
def qms:Nat→Tree:=fun i=>if i=2 then .quiet 0 (.quiet 1 (.quiet 2 (.quiet 3 (.quiet 4 (.quiet 5 (.quiet 6 (.quiet 7 (.quiet 8 (.quiet 9 (.alt 10 (.quiet 11 (.quiet 12 .done)) .stop))))))))))else if i=4 then .quiet 0 (.quiet 1 (.quiet 2 (.quiet 3 (.quiet 4 (.quiet 5 (.quiet 6 (.quiet 7 (.quiet 8 (.quiet 9 (.alt 10 (.quiet 11 (.quiet 12 .done)) .stop))))))))))else if i=5 then .quiet 0 (.quiet 1 (.quiet 2 (.quiet 3 (.quiet 4 (.alt 5 .done .stop)))))else if i=10 then .first 1 (.first 2 (.first 8 (.first 9 (.pure 3 (.pure 10 (.alt 0 (.alt 4 (.quiet 5 (.alt 6 (.alt 7 (.alt 11 (.quiet 12 .done) .stop) .stop) .stop)) (.alt 5 (.alt 4 (.alt 6 (.alt 7 (.alt 11 (.quiet 12 .done) .stop) .stop) .stop) (.alt 6 (.alt 4 (.alt 7 (.alt 11 (.quiet 12 .done) .stop) .stop) .stop) .stop)) .stop)) (.alt 5 (.alt 0 (.alt 4 (.alt 6 (.alt 7 (.alt 11 (.quiet 12 .done) .stop) .stop) .stop) (.alt 6 (.alt 4 (.alt 7 (.alt 11 (.quiet 12 .done) .stop) .stop) .stop) .stop)) (.alt 6 (.alt 0 (.alt 4 (.alt 7 (.alt 11 (.quiet 12 .done) .stop) .stop) .stop) .stop) .stop)) .stop)))))))else .done
def quu:Nat→Nm:=fun i=>if i=2 then qoA else ⟨[],[],false⟩
def qn4:Nat→Option Jn:=fun _=>none
def qpm:Nat→Option Nm:=fun i=>if i=0 then some qxW else none
def qou:Nat→Option Nm:=fun i=>if i=10 then some qBl else none
theorem q2L:qj qms (Tryz.f233.body.getD .skip)=true:=by kernel_rfl
def qcw (N:Nat):Tab:={tr:=qms,lp:=quu,ex:=qpm,rg:=qou,jn:=qn4,fuel:=N}
theorem qJl (N:Nat):(qcw N).pins=false:=rfl
theorem q0Z (N:Nat):qn Tryz.prog (qcw N):=qr fun _=>rfl
theorem qLw (N:Nat) (i:Nat):(qcw N).tr i=qms i:=rfl
theorem qJW (N:Nat) (i:Nat):(qcw N).lp i=quu i:=rfl
theorem qBI (N:Nat) (i:Nat):(qcw N).ex i=qpm i:=rfl
theorem qPc (N:Nat) (i:Nat):(qcw N).rg i=qou i:=rfl
theorem qPb (N:Nat) (i:Nat):(qcw N).jn i=qn4 i:=rfl
theorem qH6 (N:Nat):(qcw N).fuel=N:=rfl
noncomputable def qQv:Code:=cut [true,true,false,true,true] (Tryz.f233.body.getD .skip)
theorem q92 {N:Nat} {Q:X→St→Option (qb [i31])} {e:List LV} {h:List Blk}:qd tt qkA (qcw N) qQv Q ⟨e,h⟩=qd tt qkA (qcw N) (cut [true,true,false,true,true] (Tryz.f233.body.getD .skip)) Q ⟨e,h⟩:=rfl
theorem qW6 (N:Nat) (v2:List (Val qa)) (v4:List (Val (.int .i64))) (v5:Int) (v6:Bool) {k0:Int→Option (qb [i31])} {Q:X→St→Option (qb [i31])} {c:Code} (hc:c=qQv) (hret: ∀st,Q .ret st=qB tt false [i31] [.tmp 4] st) (h0: ∀(v7:Int),Q (.exit 0) ⟨[.one (.sl 108 qa v2 1),u,u,.one (.ptr 0 0 0),u,.one (.int .i64 v7),u,u,u,u,u,u,u,u,u,u,u,u,u,u,u,u,u,u,u,u,u,u,u,u,u,u,u,u,u,u,u,u,u,u,u,u,u,u,u,u,u,u,u,u,u,u,u,u,u,u,u,u,u,u,u,u],[.box [.sl 3 (.int .i64) v4 1,.int .i64 v5,.bool v6]]⟩=k0 v7): ∀(n:Nat) (v3:Int),qC (qd tt qkA (qcw N) c) false qoA Q n ⟨[.one (.sl 108 qa v2 1),u,u,.one (.ptr 0 0 0),u,.one (.int .i64 v3),u,u,u,u,u,u,u,u,u,u,u,u,u,u,u,u,u,u,u,u,u,u,u,u,u,u,u,u,u,u,u,u,u,u,u,u,u,u,u,u,u,u,u,u,u,u,u,u,u,u,u,u,u,u,u,u],[.box [.sl 3 (.int .i64) v4 1,.int .i64 v5,.bool v6]]⟩=qk0 N v2 v4 v5 v6 k0 n v3:=by
 subst hc;intro n;induction n with
 | zero=>intros;rfl
 | succ n ih=>
   intro v3
   rw [qL,q92,qk0];unfold Tryz.f233
   simp (maxSteps:=10000000) -implicitDefEqProofs [qLw,qms,qJW,quu,qBI,qpm,qPc,qou,qPb,qn4,qH6,qJl,qHS,qOy,qFn,qEM,qFv,qKH,qIk,qMR,qIg,qIU,qPx,qmC,qnD,hret,h0,ih]
theorem q1t (N:Nat) (v0:List (Val qa)) (v1:Val qa):qd tt qkA (qcw N) (Tryz.f233.body.getD .skip) (qo tt false [i31] [.tmp 4]) (qt [i31,qg] 62 (v0,v1,()))=qAd N v0 v1:=by
 unfold Tryz.f233
 simp (maxSteps:=10000000) -implicitDefEqProofs [qLw,qms,qJW,quu,qBI,qpm,qPc,qou,qPb,qn4,qH6,qJl,qHS,qOy,qFn,qEM,qFv,qKH,qIk,qMR,qIg,qIU,qPx,qmC,qnD]
 rewrite [qW6 (k0:=(fun (v8:Int)=>bif (decide (v8<(v0.length:Int)))then (chk (0≤v8∧v8<(v0.length:Int)) (chk (qeh (v0.getD v8.toNat (qc qa)) v1) (bif (decide (((qa1 (v0.getD v8.toNat (qc qa)) v1):Int)=(0:Int)))then (chk (0≤v8∧v8<(v0.length:Int)) (chk (qt0 (v0.getD v8.toNat (qc qa)) v1) (bif ((qll (v0.getD v8.toNat (qc qa)) v1):Bool)then (some (v0,()))else (chk (([]:List (Val qa)).length+v0.length≤1048576) (chk (0≤v8∧v8<((([]:List (Val qa))++v0).length:Int)) (chk (v8.toNat<(([]:List (Val qa))++v0).length) (some (((([]:List (Val qa))++v0).set v8.toNat v1),()))))))))else (chk (0≤(0:Int)∧(0:Int)≤v8∧v8≤(v0.length:Int)) (chk (0≤v8∧v8≤(v0.length:Int)∧(v0.length:Int)≤(v0.length:Int)) (chk (([]:List (Val qa)).length+((v0.take v8.toNat).drop (0:Int).toNat).length≤1048576) (chk ((([]:List (Val qa))++((v0.take v8.toNat).drop (0:Int).toNat)).length+([v1]:List (Val qa)).length≤1048576) (chk (((([]:List (Val qa))++((v0.take v8.toNat).drop (0:Int).toNat))++([v1]:List (Val qa))).length+((v0.take (v0.length:Int).toNat).drop v8.toNat).length≤1048576) (some ((((([]:List (Val qa))++((v0.take v8.toNat).drop (0:Int).toNat))++([v1]:List (Val qa)))++((v0.take (v0.length:Int).toNat).drop v8.toNat)),()))))))))))else (chk (0≤(0:Int)∧(0:Int)≤v8∧v8≤(v0.length:Int)) (chk (0≤v8∧v8≤(v0.length:Int)∧(v0.length:Int)≤(v0.length:Int)) (chk (([]:List (Val qa)).length+((v0.take v8.toNat).drop (0:Int).toNat).length≤1048576) (chk ((([]:List (Val qa))++((v0.take v8.toNat).drop (0:Int).toNat)).length+([v1]:List (Val qa)).length≤1048576) (chk (((([]:List (Val qa))++((v0.take v8.toNat).drop (0:Int).toNat))++([v1]:List (Val qa))).length+((v0.take (v0.length:Int).toNat).drop v8.toNat).length≤1048576) (some ((((([]:List (Val qa))++((v0.take v8.toNat).drop (0:Int).toNat))++([v1]:List (Val qa)))++((v0.take (v0.length:Int).toNat).drop v8.toNat)),()))))))))) N _ _ _ _ ?_ ?_ ?_]
 ·rewrite [qAd];first | rfl | simp (maxSteps:=10000000) -implicitDefEqProofs []
 ·rfl
 ·intro;simp only [qK,qI,qJ,qy]
 ·intro v8;simp (maxSteps:=10000000) -implicitDefEqProofs [qLw,qms,qJW,quu,qBI,qpm,qPc,qou,qPb,qn4,qH6,qJl,qHS,qOy,qFn,qEM,qFv,qKH,qIk,qMR,qIg,qIU,qPx,qmC,qnD]
def qm0:G:={ps:=[i31,qg],rs:=[i31],dp:=false,pre:=fun x=>qlw x.1 x.2.1,fn:=fun x=>(qhS x.1 x.2.1,())}
def qa5 (l:List (Val qa)) (a:Val qa):Nat:=(l.takeWhile fun b=>decide (qa1 b a<0)).length
theorem qZv (l:List (Val qa)) (a:Val qa):qa5 l a≤l.length:=(List.takeWhile_sublist _).length_le
theorem qUo: ∀(l:List (Val qa)) (a:Val qa),qav l a=if h:qa5 l a<l.length then (if qa1 l[qa5 l a] a=0 then (if qaG (atm a) (atm l[qa5 l a])≤0 then l else l.set (qa5 l a) a)else l.take (qa5 l a)++[a]++l.drop (qa5 l a))else l.take (qa5 l a)++[a]++l.drop (qa5 l a)
 | [],a=>rfl
 | b::r,a=>by
   have ih:=qUo r a
   by_cases h1:qa1 b a<0
   ·have e:qa5 (b::r) a=qa5 r a+1:=by simp [qa5,List.takeWhile,h1]
    have h1':way b a<0:=h1
    simp only [qav,h1',if_true,e,List.length_cons,Nat.add_lt_add_iff_right,List.getElem_cons_succ,List.set_cons_succ,List.take_succ_cons,List.drop_succ_cons,List.cons_append]
    rw [ih]
    split
    ·split
     ·split<;>rfl
     ·rfl
    ·rfl
   ·have e:qa5 (b::r) a=0:=by simp [qa5,List.takeWhile,h1]
    have h1': ¬way b a<0:=h1
    simp only [qav,h1',if_false,e,List.length_cons,Nat.zero_lt_succ,dif_pos,List.getElem_cons_zero,List.set_cons_zero,List.take_zero,List.drop_zero,List.nil_append]
    by_cases h2:way b a=0
    ·rw [if_pos h2,if_pos (show qa1 b a=0 from h2)]
    ·rw [if_neg h2,if_neg (show ¬qa1 b a=0 from h2)];rfl
theorem qSM (N:Nat) (l:List (Val qa)) (a:Val qa) (h:qlw l a) (K:Int→Option (qb [i31])): ∀(k i:Nat),l.length - i=k→i≤l.length→ ∀n,k<n→
 qk0 N l a.1 a.2.1 a.2.2 K n i=K ((i+qa5 (l.drop i) a:Nat):Int)
 | 0,i,hi,hle,n+1,_=>by
   rw [qk0,qi (by omega),List.drop_eq_nil_of_le (by omega)]
   rfl
 | k+1,i,hi,hle,n+1,hn=>by
   have h1:i<l.length:=by omega
   obtain ⟨hl,ha,hb⟩:=h
   have hb1:=hb _ (List.getElem_mem h1)
   rw [qk0,ql (by omega),qe (by omega),qH h1,qe (show qeh _ _ from ⟨hb1.1,ha,hb1.2⟩),qfh h1 (by omega)]
   rw [qgg h1]
   by_cases h2:qa1 l[i] a<0
   ·have e:qa5 (l[i]::l.drop (i+1)) a=qa5 (l.drop (i+1)) a+1:=by simp [qa5,List.takeWhile,h2]
    rw [ql (show qa1 l[i] (a.1,a.2.1,a.2.2)<0 from h2),e,qSM N l a ⟨hl,ha,hb⟩ K k (i+1) (by omega) (by omega) n (by omega)]
    congr 2;omega
   ·have e:qa5 (l[i]::l.drop (i+1)) a=0:=by simp [qa5,List.takeWhile,h2]
    rw [qi (show ¬qa1 l[i] (a.1,a.2.1,a.2.2)<0 from h2),e]
    rfl
theorem qVE (l:List (Val qa)) (a:Val qa) (h:qlw l a): ∃N,qAd N l a=some (qhS l a,()):=⟨l.length+1,by
 have t:=qSM (l.length+1) l a h
 rw [qAd]
 refine (t _ _ 0 rfl (by omega) _ (Nat.lt_succ_self _)).trans ?_
 obtain ⟨hl,ha,hb⟩:=h
 rw [List.drop_zero,Nat.zero_add]
 have hle:=qZv l a
 rw [qhS,qUo]
 generalize qa5 l a=j at hle ⊢
 have last:chk (0≤(0:Int)∧(0:Int)≤(j:Int)∧(j:Int)≤(l.length:Int)) (chk (0≤(j:Int)∧(j:Int)≤(l.length:Int)∧(l.length:Int)≤(l.length:Int)) (chk (([]:List (Val qa)).length+((l.take (j:Int).toNat).drop (0:Int).toNat).length≤1048576) (chk ((([]:List (Val qa))++((l.take (j:Int).toNat).drop (0:Int).toNat)).length+([a]:List (Val qa)).length≤1048576) (chk (((([]:List (Val qa))++((l.take (j:Int).toNat).drop (0:Int).toNat))++([a]:List (Val qa))).length+((l.take (l.length:Int).toNat).drop (j:Int).toNat).length≤1048576)
  (some (((([]:List (Val qa))++((l.take (j:Int).toNat).drop (0:Int).toNat))++([a]:List (Val qa)))++((l.take (l.length:Int).toNat).drop (j:Int).toNat),()))))))
  =(some (l.take j++[a]++l.drop j,()):Option (qb [i31])):=by
  have e1:(j:Int).toNat=j:=rfl
  have e2:(l.length:Int).toNat=l.length:=rfl
  have e3:(0:Int).toNat=0:=rfl
  rw [e1,e2,e3,List.drop_zero,List.take_length,List.nil_append]
  rw [qe (by omega),qe (by omega),qe (by simp;omega),qe (by simp;omega),qe (by simp;omega)]
 by_cases hj:j<l.length
 ·have hb1:=hb _ (List.getElem_mem hj)
  have e1:(j:Int).toNat=j:=rfl
  rw [dif_pos hj,ql (by omega),qe (by omega),qH hj,qe (show qeh _ _ from ⟨hb1.1,ha,hb1.2⟩)]
  by_cases hw:qa1 l[j] a=0
  ·have hw':way (atm a) (atm l[j])=0:=by have:=qbl.anti (atm a) (atm l[j]);have hw:way (atm l[j]) (atm a)=0:=hw;omega
   rw [ql hw,if_pos hw,qe (by omega),qe (show qt0 _ _ from ⟨hb1.1,ha,hw'⟩)]
   unfold qll
   by_cases hs:qaG (atm a) (atm l[j])≤0
   ·rw [ql hs,if_pos hs]
   ·rw [qi hs,if_neg hs,List.nil_append,qe (by simp;omega),qe (by omega),qe (by omega),e1]
  ·rw [qi hw,if_neg hw]
   exact last
 ·rw [dif_neg hj,qi (by omega)]
  exact last⟩
theorem qXp:Sound Tryz.prog 233 qm0:=qu (tt:=tt) (Γ:=qkA) hT (qf q26 (qf q22 qq)) hm (fn:=Tryz.f233) Tryz.func233 (c:=Tryz.f233.body.getD .skip) (by kernel_rfl) (by kernel_rfl) fun x hx=>by
 obtain ⟨N,h⟩:=qVE x.1 x.2.1 hx
 exact ⟨qcw N,q2L,qv _,q0Z N,(q1t N x.1 x.2.1).trans h⟩
noncomputable def qho (N:Nat) (v2:Int) (v3:List (Val qa)) (v5:Int) (v6:Int) (k0:(List (Val qa))→Option (qb [i33])):Nat→Int→(List (Val qa))→Option (qb [i33])
 | 0,_,_=>none
 | n+1,v4,v7=>bif (decide (v4<(v3.length:Int)))then (chk (0≤v4∧v4<(v3.length:Int)) (chk (qnf (v3.getD v4.toNat (qc qa))) (bif ((qbN (v3.getD v4.toNat (qc qa))):Bool)then (chk (0≤v4∧v4<(v3.length:Int)) (bif (!((qiA (v3.getD v4.toNat (qc qa))):Bool))then (chk (qc8 v2) (some ((((qaW v2).1:Int),((qaW v2).2:List (Val qa))),())))else (qho N v2 v3 v5 v6 k0 n (IntKind.i64.wrap (v4+(1:Int))) v7)))else (chk (0≤v4∧v4<(v3.length:Int)) (chk (qa3 (v3.getD v4.toNat (qc qa))) (chk (qlw v7 (((idA (v3.getD v4.toNat (qc qa))).1:List (Val (.int .i64))),(((idA (v3.getD v4.toNat (qc qa))).2).1:Int),(((idA (v3.getD v4.toNat (qc qa))).2).2:Bool))) (qho N v2 v3 v5 v6 k0 n (IntKind.i64.wrap (v4+(1:Int))) ((qhS v7 (((idA (v3.getD v4.toNat (qc qa))).1:List (Val (.int .i64))),(((idA (v3.getD v4.toNat (qc qa))).2).1:Int),(((idA (v3.getD v4.toNat (qc qa))).2).2:Bool))):List (Val qa)))))))))else (k0 v7)
noncomputable def quY (N:Nat) (v0:Int) (v1:List (Val qa)):Option (qb [i33]):=qho N v0 v1 (0:Int) v0 (fun (v9:List (Val qa))=>some ((v0,v9),())) N (0:Int) ([]:List (Val qa))
def qfU:Gam:=[(209,qec),(229,qhx),(232,qmf),(233,qm0),(234,qfo)]
theorem qFx:Gam.get qfU 209=some qec:=rfl
theorem qFE:Gam.get qfU 229=some qhx:=rfl
theorem qCs:Gam.get qfU 232=some qmf:=rfl
theorem qPG:Gam.get qfU 233=some qm0:=rfl
theorem qEJ:Gam.get qfU 234=some qfo:=rfl
def qpi:Nm:=⟨[true,true,false,false,true,true,true],[.nsb 5 1 108 qa],false⟩
theorem qHp:qpi.zero=false:=rfl
theorem qLX:qpi.fix=[.nsb 5 1 108 qa]:=rfl
theorem qPz:qpi.keep=[true,true,false,false,true,true,true]:=rfl
def qvp:Nm:=⟨[false,false,false,false,true,true],[],false⟩
theorem qMt:qvp.zero=false:=rfl
theorem qFP:qvp.fix=[]:=rfl
theorem qHY:qvp.keep=[false,false,false,false,true,true]:=rfl
def qBg:Nm:=⟨[true,true,false,false,true,true,true],[],false⟩
theorem qHn:qBg.zero=false:=rfl
theorem qG9:qBg.fix=[]:=rfl
theorem qF0:qBg.keep=[true,true,false,false,true,true,true]:=rfl
def qnx:Nat→Tree:=fun i=>if i=8 then .quiet 2 (.quiet 3 (.quiet 4 (.quiet 5 (.alt 0 (.alt 1 (.alt 6 (.alt 7 (.quiet 8 (.alt 9 .done .stop)) .stop) .stop) (.alt 6 (.quiet 1 (.alt 7 (.quiet 8 (.alt 9 .done .stop)) .stop)) .stop)) (.alt 6 (.quiet 0 (.quiet 1 (.alt 7 (.quiet 8 (.alt 9 .done .stop)) .stop))) .stop)))))else .done
def qrE:Nat→Nm:=fun i=>if i=3 then qpi else ⟨[],[],false⟩
def qqN:Nat→Option Jn:=fun _=>none
def qp7:Nat→Option Nm:=fun i=>if i=0 then some qvp else none
def qr9:Nat→Option Nm:=fun i=>if i=8 then some qBg else none
theorem q2V:qj qnx (Tryz.f150.body.getD .skip)=true:=by kernel_rfl
def qdI (N:Nat):Tab:={tr:=qnx,lp:=qrE,ex:=qp7,rg:=qr9,jn:=qqN,fuel:=N}
theorem qIG (N:Nat):(qdI N).pins=false:=rfl
theorem zaT (N:Nat):qn Tryz.prog (qdI N):=qr fun _=>rfl
theorem qFl (N:Nat) (i:Nat):(qdI N).tr i=qnx i:=rfl
theorem qDN (N:Nat) (i:Nat):(qdI N).lp i=qrE i:=rfl
theorem qPU (N:Nat) (i:Nat):(qdI N).ex i=qp7 i:=rfl
theorem qPi (N:Nat) (i:Nat):(qdI N).rg i=qr9 i:=rfl
theorem qGK (N:Nat) (i:Nat):(qdI N).jn i=qqN i:=rfl
theorem qGT (N:Nat):(qdI N).fuel=N:=rfl
noncomputable def qS0:Code:=cut [true,true,false,true,true,true] (Tryz.f150.body.getD .skip)
theorem zbd {N:Nat} {Q:X→St→Option (qb [i33])} {e:List LV} {h:List Blk}:qd tt qfU (qdI N) qS0 Q ⟨e,h⟩=qd tt qfU (qdI N) (cut [true,true,false,true,true,true] (Tryz.f150.body.getD .skip)) Q ⟨e,h⟩:=rfl
theorem qVy (N:Nat) (v2:Int) (v3:List (Val qa)) (v5:Int) (v6:Int) {k0:(List (Val qa))→Option (qb [i33])} {Q:X→St→Option (qb [i33])} {c:Code} (hc:c=qS0) (hret: ∀st,Q .ret st=qB tt false [i33] [.cell 4 33] st) (h0: ∀(v8:List (Val qa)),Q (.exit 0) ⟨[u,u,u,u,.one (.ptr 0 0 0),.one (.ptr 1 0 0),u,u,u,u,u,u,u,u,u,u,u,u,u,u,u,u,u,u,u,u,u,u,u,u,u,u,u,u,u,u,u,u],[.box [.int .i64 v5,.nils],.box [.int .i64 v6,.sl 108 qa v8 2]]⟩=k0 v8): ∀(n:Nat) (v4:Int) (v7:List (Val qa)),qC (qd tt qfU (qdI N) c) false qpi Q n ⟨[.one (.int .i64 v2),.one (.sl 108 qa v3 2),u,u,.one (.ptr 0 0 0),.one (.ptr 1 0 0),.one (.int .i64 v4),u,u,u,u,u,u,u,u,u,u,u,u,u,u,u,u,u,u,u,u,u,u,u,u,u,u,u,u,u,u,u],[.box [.int .i64 v5,.nils],.box [.int .i64 v6,.sl 108 qa v7 2]]⟩=qho N v2 v3 v5 v6 k0 n v4 v7:=by
 subst hc;intro n;induction n with
 | zero=>intros;rfl
 | succ n ih=>
   intro v4 v7
   rw [qL,zbd,qho];unfold Tryz.f150
   simp (maxSteps:=10000000) -implicitDefEqProofs [qFl,qnx,qDN,qrE,qPU,qp7,qPi,qr9,qGK,qqN,qGT,qIG,qLX,qPz,qHp,qFP,qHY,qMt,qG9,qF0,qHn,qFx,qFE,qCs,qPG,qEJ,qec,qhx,qmf,qm0,qfo,hret,h0,ih]
theorem q8n (N:Nat) (v0:Int) (v1:List (Val qa)):qd tt qfU (qdI N) (Tryz.f150.body.getD .skip) (qo tt false [i33] [.cell 4 33]) (qt [i3,i31] 38 (v0,v1,()))=quY N v0 v1:=by
 unfold Tryz.f150
 simp (maxSteps:=10000000) -implicitDefEqProofs [qFl,qnx,qDN,qrE,qPU,qp7,qPi,qr9,qGK,qqN,qGT,qIG,qLX,qPz,qHp,qFP,qHY,qMt,qG9,qF0,qHn,qFx,qFE,qCs,qPG,qEJ,qec,qhx,qmf,qm0,qfo]
 rewrite [qVy (k0:=(fun (v9:List (Val qa))=>some ((v0,v9),()))) N _ _ _ _ ?_ ?_ ?_]
 ·rewrite [quY];first | rfl | simp (maxSteps:=10000000) -implicitDefEqProofs []
 ·rfl
 ·intro;simp only [qK,qI,qJ,qy]
 ·intro v9;simp (maxSteps:=10000000) -implicitDefEqProofs [qFl,qnx,qDN,qrE,qPU,qp7,qPi,qr9,qGK,qqN,qGT,qIG,qLX,qPz,qHp,qFP,qHY,qMt,qG9,qF0,qHn,qFx,qFE,qCs,qPG,qEJ,qec,qhx,qmf,qm0,qfo]
def q9:G:={ps:=[i3,i31],rs:=[i33],dp:=false,pre:=fun x=>qaK x.1 x.2.1,fn:=fun x=>(qm x.1 x.2.1,())}
theorem qGL: ∀(l:List Atm) (a:Atm),(qav l a).length≤l.length+1
 | [],_=>by simp [qav]
 | b::r,a=>by
   have:=qGL r a
   simp only [qav]
   split
   ·simp;omega
   ·split
    ·split<;>simp
    ·simp
theorem qOu {ρ:Type} {d:Int} {r:Option ρ} {k:List (Val qa)→Option ρ}: ∀(xs:List (Val qa)) (i:Nat) (s:List (Val qa)),s.length+xs.length≤1048576→(∀b∈s,okA b∧(List.length (α:=Int) b.1:Int)=d)→(∀b∈xs,okA b∧(List.length (α:=Int) b.1:Int)=d)→
 qO (fun _ (x:Val qa) (s:List (Val qa)) K=>bif qbN x then (bif !qiA x then r else K s)else chk (qlw s x) (K (qhS s x))) i xs s k=bif xs.any qbU then r else k ((xs.filter q6).foldl qav s)
 | [],_,s,_,_,_=>by rw [qO];simp
 | x::xs,i,s,h,hs,hx=>by
   simp only [List.length_cons]at h
   have hx0:=hx x (by simp)
   rw [qO,List.any_cons,qUV]
   cases hn:qbN x with
   | true=>
     have hv:q6 x=false:=by simpa [qbN] using hn
     cases ht:qiA x with
     | false=>simp
     | true=>
       simp only [cond_true,Bool.not_true,cond_false,Bool.and_false,Bool.false_or]
       rw [qOu xs (i+1) s (by omega) hs fun b hb=>hx b (by simp [hb])]
       simp [hv]
   | false=>
     have hv:q6 x=true:=by simpa [qbN] using hn
     simp only [cond_false,Bool.false_and,Bool.false_or]
     rw [qe (show qlw s x from ⟨by omega,hx0.1,fun b hb=>⟨(hs b hb).1,by have:=(hs b hb).2;have:=hx0.2;omega⟩⟩)]
     have hl:(qhS s x).length≤s.length+1:=qGL s x
     rw [qOu xs (i+1) (qhS s x) (by omega) (fun b hb=> ?_) fun b hb=>hx b (by simp [hb])]
     ·simp only [List.filter_cons,hv,if_true,List.foldl_cons]
      rfl
     ·rcases qpz hb with rfl | hb
      ·exact hx0
      ·exact hs b hb
theorem q8q (N:Nat) (d:Int) (l:List (Val qa)) (K:List (Val qa)→Option (qb [i33])) (h:okL d l) (n:Nat) (hn:l.length<n) (s:List (Val qa)):qho N d l 0 d K n 0 s=qO (fun _ (x:Val qa) (s:List (Val qa)) K=>bif qbN x then (bif !qiA x then some (qaW d,())else K s)else chk (qlw s x) (K (qhS s x))) 0 l s K:=
 qaj (xs:=l) (F:=fun n i s=>qho N d l 0 d K n i s) h.2.1 (fun n i s hi=>by
  obtain ⟨ha,hlen⟩:=h.2.2 _ (List.getElem_mem hi)
  have h4:=(qaN ha).1
  have hd':=h.1
  rw [qho,ql (by omega),qe (by omega),qH hi,qe (show qnf _ from ha),qe (by omega),qe (show qc8 d from ⟨hd'.1,by omega⟩),qe (by omega),qe (show qa3 _ from by unfold qa3;omega)]
  rfl) (fun n i s hi=>by rw [qho,qi (by omega)]) n s hn
theorem q33 (d:Int) (l:List (Val qa)) (h:qaK d l): ∃N,quY N d l=some (qm d l,()):=⟨l.length+1,by
 rw [quY,q8q _ _ _ _ h _ (Nat.lt_succ_self _)]
 refine (qOu (d:=d) l 0 [] (by simpa using h.2.1) (by simp) h.2.2).trans ?_
 rw [qm]
 cases l.any qbU<;>rfl⟩
theorem qtd:Sound Tryz.prog 150 q9:=qu (tt:=tt) (Γ:=qfU) hT (qf qSn (qf qRj (qf q5l (qf qXp (qf qQi qq))))) hm (fn:=Tryz.f150) Tryz.func150 (c:=Tryz.f150.body.getD .skip) (by kernel_rfl) (by kernel_rfl) fun x hx=>by
 obtain ⟨N,h⟩:=q33 x.1 x.2.1 hx
 exact ⟨qdI N,q2V,qv _,zaT N,(q8n N x.1 x.2.1).trans h⟩
end Go.T
