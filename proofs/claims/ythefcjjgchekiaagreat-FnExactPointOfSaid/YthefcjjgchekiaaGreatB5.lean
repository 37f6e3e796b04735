/- Normal cells: the reference's. -/
import Derived.Test.YthefcjjgchekiaaGreatB4
set_option linter.unusedSimpArgs false
set_option linter.unusedVariables false
namespace Go.T
open Go Go.Proofs
set_option maxHeartbeats 4000000
set_option maxRecDepth 100000
def qcL (a:Val qa):Bool:= !q8 a
def qnZ (a:Val qa):Prop:=okA a
def qfO (a:Val qa):Bool:=decide ((a.2.1:Int)<0)||(decide ((a.2.1:Int)=0)&& !a.2.2)
def gLv (a:Val qa):Int:=(gL 0 (atm a).1:Nat)
def qfX (a:Val qa):Prop:=okA a
def qk7 (a b:Val qa):Bool:=decide (qaY (atm b) (atm a)≤0)
def qtm (a b:Val qa):Prop:=okA a∧okA b∧way (atm b) (atm a)=0
def qjc (l:List (Val qa)) (a:Val qa):List (Val qa):=qa1 l a
def qlJ (l:List (Val qa)) (a:Val qa):Prop:=l.length≤1048575∧okA a∧ ∀b∈l,okA b∧List.length (α:=Int) b.1=List.length (α:=Int) a.1
theorem zjj (c:Int) (h s:Bool):(!h&&(decide (0<c)||(decide (c=0)&&s)))=(!h&& !(decide (c<0)||(decide (c=0)&& !s))):=by
 by_cases h1:c<0
 ·have h2: ¬(0:Int)<c:=by omega
  have h3: ¬c=0:=by omega
  simp [h1,h2,h3]
 ·by_cases h2:c=0
  ·simp [h2]
  ·have h3:(0:Int)<c:=by omega
   simp [h1,h2,h3]
theorem zg7 (p q:Int) (s t:Bool):decide ((if sgI (p - q)=0 then (if t=s then 0 else if t then 1 else -1)else sgI (p - q))≤(0:Int))=(decide (p<q)||(decide (q=p)&&(s|| !t))):=by
 unfold sgI
 by_cases c1:p<q
 ·have c2:p - q<0:=by omega
  simp [c1,c2]
 ·by_cases c2:q=p
  ·subst c2
   cases s<;>cases t<;>simp
  ·have c3: ¬p - q<0:=by omega
   have c4:0<p - q:=by omega
   rw [if_neg c3,if_pos c4,if_neg (by omega)]
   simp [c1,c2]
theorem qXb (a:Val qa):qaB a=(qcL a&& !qfO a):=zjj a.2.1 (q8 a) a.2.2
def qeM:G:={ps:=[qr],rs:=[i4],dp:=true,pre:=fun x=>qnZ x.1,fn:=fun x=>(qcL x.1,())}
noncomputable def qiv (N:Nat) (v2:List (Val (.int .i64))) (v3:Int) (v4:Bool) (k0:Unit→Option (qc [i4])):Nat→Int→Option (qc [i4])
 | 0,_=>none
 | n+1,v1=>bif (decide (v1<(v2.length:Int)))then (chk (0≤v1∧v1<(v2.length:Int)) (bif (!(decide (((v2.getD v1.toNat (qb (.int .i64))):Int)=(0:Int))))then (some (false,()))else (qiv N v2 v3 v4 k0 n (IntKind.i64.wrap (v1+(1:Int))))))else (k0 ())
noncomputable def qA0 (N:Nat) (v0:Val qa):Option (qc [i4]):=qiv N (v0.1:List (Val (.int .i64))) (v0.2.1:Int) (v0.2.2:Bool) (fun (_:Unit)=>some (true,())) N (0:Int)
def qtA:Gam:=[]
def qq0:Nm:=⟨[false,true,false,true],[],false⟩
theorem qJM:qq0.zero=false:=rfl
theorem qT8:qq0.fix=[]:=rfl
theorem qLU:qq0.keep=[false,true,false,true]:=rfl
def qzz:Nm:=⟨[],[],false⟩
theorem qPn:qzz.zero=false:=rfl
theorem qHq:qzz.fix=[]:=rfl
theorem qGv:qzz.keep=[]:=rfl
def qnF:Nat→Tree:=fun _=> .done
def qwQ:Nat→Nm:=fun i=>if i=2 then qq0 else ⟨[],[],false⟩
def qpL:Nat→Option Jn:=fun _=>none
def qqg:Nat→Option Nm:=fun i=>if i=0 then some qzz else none
def qsh:Nat→Option Nm:=fun _=>none
theorem q4w:qn qnF (Tryz.f229.body.getD .skip)=true:=by kernel_rfl
def qdy (N:Nat):Tab:={tr:=qnF,lp:=qwQ,ex:=qqg,rg:=qsh,jn:=qpL,fuel:=N}
theorem qQb (N:Nat):(qdy N).pins=false:=rfl
theorem zqm (N:Nat):qp Tryz.prog (qdy N):=qv fun _=>rfl
theorem qIB (N:Nat) (i:Nat):(qdy N).tr i=qnF i:=rfl
theorem qXT (N:Nat) (i:Nat):(qdy N).lp i=qwQ i:=rfl
theorem qLa (N:Nat) (i:Nat):(qdy N).ex i=qqg i:=rfl
theorem qI4 (N:Nat) (i:Nat):(qdy N).rg i=qsh i:=rfl
theorem qW0 (N:Nat) (i:Nat):(qdy N).jn i=qpL i:=rfl
theorem qWf (N:Nat):(qdy N).fuel=N:=rfl
noncomputable def q3b:Code:=cut [true,false,true,true,true] (Tryz.f229.body.getD .skip)
theorem znO {N:Nat} {Q:X→St→Option (qc [i4])} {e:List LV} {h:List Blk}:qe tt qtA (qdy N) q3b Q ⟨e,h⟩=qe tt qtA (qdy N) (cut [true,false,true,true,true] (Tryz.f229.body.getD .skip)) Q ⟨e,h⟩:=rfl
theorem zlX (N:Nat) (v2:List (Val (.int .i64))) (v3:Int) (v4:Bool) {k0:Unit→Option (qc [i4])} {Q:X→St→Option (qc [i4])} {c:Code} (hc:c=q3b) (hret: ∀st,Q .ret st=qI tt true [i4] [.tmp 2] st) (h0:Q (.exit 0) ⟨[u,u,u,u,u,u,u,u,u,u,u,u,u,u,u,u,u],[]⟩=k0 ()): ∀(n:Nat) (v1:Int),qE (qe tt qtA (qdy N) c) false qq0 Q n ⟨[u,.one (.ptr 0 0 0),u,.one (.int .i64 v1),u,u,u,u,u,u,u,u,u,u,u,u,u],[.box [.sl 3 (.int .i64) v2 1,.int .i64 v3,.bool v4]]⟩=qiv N v2 v3 v4 k0 n v1:=by
 subst hc;intro n;induction n with
 | zero=>intros;rfl
 | succ n ih=>
   intro v1
   rw [qN,znO,qiv];unfold Tryz.f229
   simp (maxSteps:=10000000) -implicitDefEqProofs [qIB,qnF,qXT,qwQ,qLa,qqg,qI4,qsh,qW0,qpL,qWf,qQb,qT8,qLU,qJM,qHq,qGv,qPn,hret,h0,ih]
theorem zed (N:Nat) (v0:Val qa):qe tt qtA (qdy N) (Tryz.f229.body.getD .skip) (qt tt true [i4] [.tmp 2]) (qw [qr] 17 (v0,()))=qA0 N v0:=by
 unfold Tryz.f229
 simp (maxSteps:=10000000) -implicitDefEqProofs [qIB,qnF,qXT,qwQ,qLa,qqg,qI4,qsh,qW0,qpL,qWf,qQb,qT8,qLU,qJM,qHq,qGv,qPn]
 rewrite [zlX (k0:=(fun (_:Unit)=>some (true,()))) N _ _ _ ?_ ?_ ?_]
 ·rewrite [qA0];first | rfl | simp (maxSteps:=10000000) -implicitDefEqProofs []
 ·rfl
 ·intro;simp only [qJ,qL,qK,qB]
 ·simp (maxSteps:=10000000) -implicitDefEqProofs [qIB,qnF,qXT,qwQ,qLa,qqg,qI4,qsh,qW0,qpL,qWf,qQb,qT8,qLU,qJM,qHq,qGv,qPn]
noncomputable def qBd (N:Nat) (v0:Val qa):Option (qc [i4]):=bif (decide ((v0.2.1:Int)<(0:Int)))then (some (true,()))else (bif (decide ((v0.2.1:Int)=(0:Int)))then (some ((!(v0.2.2:Bool)),()))else (some (false,())))
def q2V:Gam:=[]
def qzs:Nat→Tree:=fun _=> .done
def qOL:Nat→Nm:=fun _=>⟨[],[],false⟩
def qP4:Nat→Option Jn:=fun _=>none
def qTu:Nat→Option Nm:=fun _=>none
def qUQ:Nat→Option Nm:=fun _=>none
theorem zoD:qn qzs (Tryz.f232.body.getD .skip)=true:=by kernel_rfl
def qgk (N:Nat):Tab:={tr:=qzs,lp:=qOL,ex:=qTu,rg:=qUQ,jn:=qP4,fuel:=N}
theorem ziR (N:Nat):(qgk N).pins=false:=rfl
theorem q9L (N:Nat):qp Tryz.prog (qgk N):=qv fun _=>rfl
theorem zbT (N:Nat) (i:Nat):(qgk N).tr i=qzs i:=rfl
theorem q6J (N:Nat) (i:Nat):(qgk N).lp i=qOL i:=rfl
theorem zah (N:Nat) (i:Nat):(qgk N).ex i=qTu i:=rfl
theorem zad (N:Nat) (i:Nat):(qgk N).rg i=qUQ i:=rfl
theorem znX (N:Nat) (i:Nat):(qgk N).jn i=qP4 i:=rfl
theorem znp (N:Nat):(qgk N).fuel=N:=rfl
theorem zg6 (N:Nat) (v0:Val qa):qe tt q2V (qgk N) (Tryz.f232.body.getD .skip) (qt tt true [i4] [.tmp 2]) (qw [qr] 16 (v0,()))=qBd N v0:=by
 rw [qBd];unfold Tryz.f232
 simp (maxSteps:=10000000) -implicitDefEqProofs [zbT,qzs,q6J,qOL,zah,qTu,zad,qUQ,znX,qP4,znp,ziR]
 try rfl
theorem zfk (N:Nat) (xs:List (Val (.int .i64))) (c:Int) (b:Bool) (K:Unit→Option (qc [i4])) (hl:xs.length≤1048576) (n:Nat) (hn:xs.length<n):qiv N xs c b K n 0=bif List.all (α:=Int) xs (fun x=>decide (x=0))then K ()else some (false,()):=
 (qaP (F:=fun n i (_:Unit)=>qiv N xs c b K n i) (step:=fun _ x _ K=>bif decide (x=0)then K ()else some (false,())) (k:=K) hl (fun n i s hi=>by rw [qiv,qk (by omega),qd (by omega),qF hi,qaG]) (fun n i s hi=>by rw [qiv,qj (by omega)]) n () hn).trans (qdd xs 0)
theorem q62 (a:Val qa) (h:qnZ a): ∃N,qA0 N a=some (qcL a,()):=⟨List.length (α:=Val (.int .i64)) a.1+1,by
 have h4:=(qbv h).1
 rw [qA0,zfk _ _ _ _ _ (by omega) _ (Nat.lt_succ_self _)]
 have e:qcL a=List.all (α:=Int) a.1 (fun x=>decide (x=0)):=by
  unfold qcL q8
  rw [Bool.eq_iff_iff]
  simp only [Bool.not_eq_true',decide_eq_false_iff_not,List.all_eq_true,decide_eq_true_eq,Decidable.not_not,ne_eq]
  exact qpr
 rw [e]
 cases List.all (α:=Int) a.1 (fun x=>decide (x=0))<;>rfl⟩
theorem q4c:Sound Tryz.prog 229 qeM:=qx (tt:=tt) (Γ:=qtA) hT qu hm (fn:=Tryz.f229) Tryz.func229 (c:=Tryz.f229.body.getD .skip) (by kernel_rfl) (by kernel_rfl) fun x hx=>by
 obtain ⟨N,h⟩:=q62 x.1 hx
 exact ⟨qdy N,q4w,qy _,zqm N,(zed N x.1).trans h⟩
def qeH:G:={ps:=[qr],rs:=[i4],dp:=true,pre:=fun _=>True,fn:=fun x=>(qfO x.1,())}
theorem zbA (a:Val qa): ∃N,qBd N a=some (qfO a,()):=⟨0,by
 rw [qBd,qfO]
 by_cases h1:(a.2.1:Int)<0<;>by_cases h2:(a.2.1:Int)=0<;>simp [h1,h2]⟩
theorem q31:Sound Tryz.prog 232 qeH:=qx (tt:=tt) (Γ:=q2V) hT qu hm (fn:=Tryz.f232) Tryz.func232 (c:=Tryz.f232.body.getD .skip) (by kernel_rfl) (by kernel_rfl) fun x hx=>by
 obtain ⟨N,h⟩:=zbA x.1
 exact ⟨qgk N,zoD,qy _,q9L N,(zg6 N x.1).trans h⟩
def qhA:G:={ps:=[qr],rs:=[i3],dp:=true,pre:=fun x=>qfX x.1,fn:=fun x=>(gLv x.1,())}
noncomputable def qCy (N:Nat) (v0:Val qa):Option (qc [i3]):=chk (qgs (v0.1:List (Val (.int .i64))) (0:Int)) (some (((qcy (v0.1:List (Val (.int .i64))) (0:Int)):Int),()))
def qHr:Gam:=[(231,qcS)]
theorem zii:Gam.get qHr 231=some qcS:=rfl
def qDV:Nat→Tree:=fun _=> .done
def qTR:Nat→Nm:=fun _=>⟨[],[],false⟩
def qOW:Nat→Option Jn:=fun _=>none
def qIR:Nat→Option Nm:=fun _=>none
def qRD:Nat→Option Nm:=fun _=>none
theorem zdc:qn qDV (Tryz.f319.body.getD .skip)=true:=by kernel_rfl
def qfK (N:Nat):Tab:={tr:=qDV,lp:=qTR,ex:=qIR,rg:=qRD,jn:=qOW,fuel:=N}
theorem zbD (N:Nat):(qfK N).pins=false:=rfl
theorem zjN (N:Nat):qp Tryz.prog (qfK N):=qv fun _=>rfl
theorem zmM (N:Nat) (i:Nat):(qfK N).tr i=qDV i:=rfl
theorem zqK (N:Nat) (i:Nat):(qfK N).lp i=qTR i:=rfl
theorem ziA (N:Nat) (i:Nat):(qfK N).ex i=qIR i:=rfl
theorem zlF (N:Nat) (i:Nat):(qfK N).rg i=qRD i:=rfl
theorem q6Y (N:Nat) (i:Nat):(qfK N).jn i=qOW i:=rfl
theorem ze0 (N:Nat):(qfK N).fuel=N:=rfl
theorem zc5 (N:Nat) (v0:Val qa):qe tt qHr (qfK N) (Tryz.f319.body.getD .skip) (qt tt true [i3] [.tmp 2]) (qw [qr] 6 (v0,()))=qCy N v0:=by
 rw [qCy];unfold Tryz.f319
 simp (maxSteps:=10000000) -implicitDefEqProofs [zmM,qDV,zqK,qTR,ziA,qIR,zlF,qRD,q6Y,qOW,ze0,zbD,zii,qcS]
 try rfl
theorem ziM (a:Val qa) (h:qfX a): ∃N,qCy N a=some (gLv a,()):=⟨0,by
 rw [qCy,qd (show qgs a.1 0 from ⟨(qEj h).1,by unfold inI;omega,(qEj h).2⟩)];rfl⟩
theorem q1t:Sound Tryz.prog 319 qhA:=qx (tt:=tt) (Γ:=qHr) hT (qg qTv qu) hm (fn:=Tryz.f319) Tryz.func319 (c:=Tryz.f319.body.getD .skip) (by kernel_rfl) (by kernel_rfl) fun x hx=>by
 obtain ⟨N,h⟩:=ziM x.1 hx
 exact ⟨qfK N,zdc,qy _,zjN N,(zc5 N x.1).trans h⟩
theorem qzS (a:Val qa):max (1:Int) (gLv a)=gSv a:=by unfold gLv gSv gS;omega
noncomputable def ql9 (N:Nat) (v2:Int) (v3:Int) (v5:List (Val (.int .i64))) (v6:Int) (v7:Bool) (v8:List (Val (.int .i64))) (v9:Int) (v10:Bool) (k0:Unit→Option (qc [i3])):Nat→Int→Option (qc [i3])
 | 0,_=>none
 | n+1,v4=>bif (decide (v4<(v5.length:Int)))then (bif (decide (v4<(v8.length:Int)))then (chk (0≤v4∧v4<(v5.length:Int)) (chk (v2≠0) (chk (0≤v4∧v4<(v8.length:Int)) (chk (v3≠0) (bif (!(decide ((IntKind.i64.wrap (((v5.getD v4.toNat (qb (.int .i64))):Int).tdiv v2))=(IntKind.i64.wrap (((v8.getD v4.toNat (qb (.int .i64))):Int).tdiv v3)))))then (bif (decide ((IntKind.i64.wrap (((v5.getD v4.toNat (qb (.int .i64))):Int).tdiv v2))<(IntKind.i64.wrap (((v8.getD v4.toNat (qb (.int .i64))):Int).tdiv v3))))then (some ((-1:Int),()))else (some ((1:Int),())))else (ql9 N v2 v3 v5 v6 v7 v8 v9 v10 k0 n (IntKind.i64.wrap (v4+(1:Int)))))))))else (k0 ()))else (k0 ())
noncomputable def qz9 (N:Nat) (v0:Val qa) (v1:Val qa):Option (qc [i3]):=chk (qfX v0) (chk (qfX v1) (ql9 N (max (1:Int) ((gLv v0):Int)) (max (1:Int) ((gLv v1):Int)) (v0.1:List (Val (.int .i64))) (v0.2.1:Int) (v0.2.2:Bool) (v1.1:List (Val (.int .i64))) (v1.2.1:Int) (v1.2.2:Bool) (fun (_:Unit)=>some ((0:Int),())) N (0:Int)))
def qps:Gam:=[(319,qhA)]
theorem qHa:Gam.get qps 319=some qhA:=rfl
def qr4:Nm:=⟨[false,false,true,true,false,true,true,true],[],false⟩
theorem qPh:qr4.zero=false:=rfl
theorem qXP:qr4.fix=[]:=rfl
theorem qU1:qr4.keep=[false,false,true,true,false,true,true,true]:=rfl
def qDL:Nm:=⟨[],[],false⟩
theorem qUE:qDL.zero=false:=rfl
theorem qYd:qDL.fix=[]:=rfl
theorem qFt:qDL.keep=[]:=rfl
def qo5:Nat→Tree:=fun _=> .done
def qxm:Nat→Nm:=fun i=>if i=4 then qr4 else ⟨[],[],false⟩
def qvK:Nat→Option Jn:=fun _=>none
def qrb:Nat→Option Nm:=fun i=>if i=0 then some qDL else none
def qrt:Nat→Option Nm:=fun _=>none
theorem zql:qn qo5 (Tryz.f291.body.getD .skip)=true:=by kernel_rfl
def qdM (N:Nat):Tab:={tr:=qo5,lp:=qxm,ex:=qrb,rg:=qrt,jn:=qvK,fuel:=N}
theorem qO2 (N:Nat):(qdM N).pins=false:=rfl
theorem zie (N:Nat):qp Tryz.prog (qdM N):=qv fun _=>rfl
theorem qRf (N:Nat) (i:Nat):(qdM N).tr i=qo5 i:=rfl
theorem qQy (N:Nat) (i:Nat):(qdM N).lp i=qxm i:=rfl
theorem qKh (N:Nat) (i:Nat):(qdM N).ex i=qrb i:=rfl
theorem qUO (N:Nat) (i:Nat):(qdM N).rg i=qrt i:=rfl
theorem qPk (N:Nat) (i:Nat):(qdM N).jn i=qvK i:=rfl
theorem qF3 (N:Nat):(qdM N).fuel=N:=rfl
noncomputable def q0B:Code:=cut [true,true,true,false,true,true,true] (Tryz.f291.body.getD .skip)
theorem zoB {N:Nat} {Q:X→St→Option (qc [i3])} {e:List LV} {h:List Blk}:qe tt qps (qdM N) q0B Q ⟨e,h⟩=qe tt qps (qdM N) (cut [true,true,true,false,true,true,true] (Tryz.f291.body.getD .skip)) Q ⟨e,h⟩:=rfl
theorem zq8 (N:Nat) (v2:Int) (v3:Int) (v5:List (Val (.int .i64))) (v6:Int) (v7:Bool) (v8:List (Val (.int .i64))) (v9:Int) (v10:Bool) {k0:Unit→Option (qc [i3])} {Q:X→St→Option (qc [i3])} {c:Code} (hc:c=q0B) (hret: ∀st,Q .ret st=qI tt true [i3] [.tmp 4] st) (h0:Q (.exit 0) ⟨[u,u,u,u,u,u,u,u,u,u,u,u,u,u,u,u,u,u,u,u,u,u,u,u,u,u,u,u,u,u,u,u,u,u,u,u,u,u,u,u,u,u,u,u,u,u,u,u,u,u],[]⟩=k0 ()): ∀(n:Nat) (v4:Int),qE (qe tt qps (qdM N) c) false qr4 Q n ⟨[u,u,.one (.ptr 0 0 0),.one (.ptr 1 0 0),u,.one (.int .i64 v2),.one (.int .i64 v3),.one (.int .i64 v4),u,u,u,u,u,u,u,u,u,u,u,u,u,u,u,u,u,u,u,u,u,u,u,u,u,u,u,u,u,u,u,u,u,u,u,u,u,u,u,u,u,u],[.box [.sl 3 (.int .i64) v5 2,.int .i64 v6,.bool v7],.box [.sl 3 (.int .i64) v8 2,.int .i64 v9,.bool v10]]⟩=ql9 N v2 v3 v5 v6 v7 v8 v9 v10 k0 n v4:=by
 subst hc;intro n;induction n with
 | zero=>intros;rfl
 | succ n ih=>
   intro v4
   rw [qN,zoB,ql9];unfold Tryz.f291
   simp (maxSteps:=10000000) -implicitDefEqProofs [qRf,qo5,qQy,qxm,qKh,qrb,qUO,qrt,qPk,qvK,qF3,qO2,qXP,qU1,qPh,qYd,qFt,qUE,qHa,qhA,hret,h0,ih]
theorem zl8 (N:Nat) (v0:Val qa) (v1:Val qa):qe tt qps (qdM N) (Tryz.f291.body.getD .skip) (qt tt true [i3] [.tmp 4]) (qw [qr,qr] 50 (v0,v1,()))=qz9 N v0 v1:=by
 unfold Tryz.f291
 simp (maxSteps:=10000000) -implicitDefEqProofs [qRf,qo5,qQy,qxm,qKh,qrb,qUO,qrt,qPk,qvK,qF3,qO2,qXP,qU1,qPh,qYd,qFt,qUE,qHa,qhA]
 rewrite [zq8 (k0:=(fun (_:Unit)=>some ((0:Int),()))) N _ _ _ _ _ _ _ _ ?_ ?_ ?_]
 ·rewrite [qz9];first | rfl | simp (maxSteps:=10000000) -implicitDefEqProofs []
 ·rfl
 ·intro;simp only [qJ,qL,qK,qB]
 ·simp (maxSteps:=10000000) -implicitDefEqProofs [qRf,qo5,qQy,qxm,qKh,qrb,qUO,qrt,qPk,qvK,qF3,qO2,qXP,qU1,qPh,qYd,qFt,qUE,qHa,qhA]
noncomputable def qyo (N:Nat) (v0:Val qa) (v1:Val qa):Option (qc [i4]):=chk (qfX v1) (chk (qfX v0) (bif (decide ((IntKind.i64.wrap ((v1.2.1:Int)*(max (1:Int) ((gLv v0):Int))))<(IntKind.i64.wrap ((v0.2.1:Int)*(max (1:Int) ((gLv v1):Int))))))then (some (true,()))else (bif (decide ((IntKind.i64.wrap ((v0.2.1:Int)*(max (1:Int) ((gLv v1):Int))))=(IntKind.i64.wrap ((v1.2.1:Int)*(max (1:Int) ((gLv v0):Int))))))then (bif (v0.2.2:Bool)then (some (true,()))else (some ((!(v1.2.2:Bool)),())))else (some (false,())))))
def qV9:Gam:=[(319,qhA)]
theorem q63:Gam.get qV9 319=some qhA:=rfl
def qAw:Nm:=⟨[false,false,true,true,false,true],[],false⟩
theorem zfX:qAw.zero=false:=rfl
theorem zjQ:qAw.fix=[]:=rfl
theorem q6B:qAw.keep=[false,false,true,true,false,true]:=rfl
def qA6:Nm:=⟨[false,false,true,true,false,true,true],[],false⟩
theorem zhl:qA6.zero=false:=rfl
theorem zhs:qA6.fix=[]:=rfl
theorem q6s:qA6.keep=[false,false,true,true,false,true,true]:=rfl
def qza:Nat→Tree:=fun i=>if i=1 then .quiet 2 (.alt 0 (.alt 1 (.alt 3 (.alt 4 (.quiet 5 (.quiet 6 .done)) .stop) .stop) (.alt 3 (.alt 1 (.alt 4 (.quiet 5 (.quiet 6 .done)) .stop) (.alt 4 (.quiet 1 (.quiet 5 (.quiet 6 .done))) .stop)) .stop)) (.alt 3 (.alt 0 (.alt 1 (.alt 4 (.quiet 5 (.quiet 6 .done)) .stop) (.alt 4 (.quiet 1 (.quiet 5 (.quiet 6 .done))) .stop)) (.alt 4 (.quiet 0 (.quiet 1 (.quiet 5 (.quiet 6 .done)))) .stop)) .stop))else if i=2 then .quiet 2 (.alt 0 (.alt 1 (.alt 3 (.alt 4 (.quiet 5 (.quiet 6 .done)) .stop) .stop) (.alt 3 (.alt 1 (.alt 4 (.quiet 5 (.quiet 6 .done)) .stop) (.alt 4 (.quiet 1 (.quiet 5 (.quiet 6 .done))) .stop)) .stop)) (.alt 3 (.alt 0 (.alt 1 (.alt 4 (.quiet 5 (.quiet 6 .done)) .stop) (.alt 4 (.quiet 1 (.quiet 5 (.quiet 6 .done))) .stop)) (.alt 4 (.quiet 0 (.quiet 1 (.quiet 5 (.quiet 6 .done)))) .stop)) .stop))else .done
def qLB:Nat→Nm:=fun _=>⟨[],[],false⟩
def qVf:Nat→Option Jn:=fun _=>none
def qSh:Nat→Option Nm:=fun _=>none
def qIv:Nat→Option Nm:=fun i=>if i=1 then some qAw else if i=2 then some qA6 else none
theorem q6L:qn qza (Tryz.f292.body.getD .skip)=true:=by kernel_rfl
def qft (N:Nat):Tab:={tr:=qza,lp:=qLB,ex:=qSh,rg:=qIv,jn:=qVf,fuel:=N}
theorem zpI (N:Nat):(qft N).pins=false:=rfl
theorem zd2 (N:Nat):qp Tryz.prog (qft N):=qv fun _=>rfl
theorem q9k (N:Nat) (i:Nat):(qft N).tr i=qza i:=rfl
theorem zmz (N:Nat) (i:Nat):(qft N).lp i=qLB i:=rfl
theorem zh0 (N:Nat) (i:Nat):(qft N).ex i=qSh i:=rfl
theorem zqP (N:Nat) (i:Nat):(qft N).rg i=qIv i:=rfl
theorem q45 (N:Nat) (i:Nat):(qft N).jn i=qVf i:=rfl
theorem zqx (N:Nat):(qft N).fuel=N:=rfl
theorem zfW (N:Nat) (v0:Val qa) (v1:Val qa):qe tt qV9 (qft N) (Tryz.f292.body.getD .skip) (qt tt true [i4] [.tmp 4]) (qw [qr,qr] 36 (v0,v1,()))=qyo N v0 v1:=by
 rw [qyo];unfold Tryz.f292
 simp (maxSteps:=10000000) -implicitDefEqProofs [q9k,qza,zmz,qLB,zh0,qSh,zqP,qIv,q45,qVf,zqx,zpI,zjQ,q6B,zfX,zhs,q6s,zhl,q63,qhA]
 try rfl
noncomputable def qDw (N:Nat) (v0:Val qa):Option (qc [qr]):=chk (([]:List (Val (.int .i64))).length+(v0.1:List (Val (.int .i64))).length≤1048576) (some (((([]:List (Val (.int .i64)))++(v0.1:List (Val (.int .i64)))),(v0.2.1:Int),(v0.2.2:Bool)),()))
def qZh:Gam:=[]
def qCY:Nat→Tree:=fun i=>if i=1 then .keep 1 (.keep 2 (.keep 4 (.keep 5 (.keep 6 (.keep 7 (.alt 0 (.alt 3 (.quiet 8 (.alt 9 .done .stop)) .stop) .stop))))))else .done
def qXV:Nat→Nm:=fun _=>⟨[],[],false⟩
def qVb:Nat→Option Jn:=fun _=>none
def qVo:Nat→Option Nm:=fun _=>none
def qOE:Nat→Option Nm:=fun _=>none
theorem q78:qn qCY (Tryz.f234.body.getD .skip)=true:=by kernel_rfl
def qfB (N:Nat):Tab:={tr:=qCY,lp:=qXV,ex:=qVo,rg:=qOE,jn:=qVb,fuel:=N}
theorem q6m (N:Nat):(qfB N).pins=false:=rfl
theorem zdr (N:Nat):qp Tryz.prog (qfB N):=qv fun _=>rfl
theorem q9T (N:Nat) (i:Nat):(qfB N).tr i=qCY i:=rfl
theorem zeD (N:Nat) (i:Nat):(qfB N).lp i=qXV i:=rfl
theorem zlM (N:Nat) (i:Nat):(qfB N).ex i=qVo i:=rfl
theorem zq2 (N:Nat) (i:Nat):(qfB N).rg i=qOE i:=rfl
theorem zbJ (N:Nat) (i:Nat):(qfB N).jn i=qVb i:=rfl
theorem zlJ (N:Nat):(qfB N).fuel=N:=rfl
theorem zpS (N:Nat) (v0:Val qa):qe tt qZh (qfB N) (Tryz.f234.body.getD .skip) (qt tt true [qr] [.cell 2 108]) (qw [qr] 12 (v0,()))=qDw N v0:=by
 rw [qDw];unfold Tryz.f234
 simp (maxSteps:=10000000) -implicitDefEqProofs [q9T,qCY,zeD,qXV,zlM,qVo,zq2,qOE,zbJ,qVb,zlJ,q6m]
 try rfl
noncomputable def qBL (N:Nat) (v0:Int):Option (qc [i33]):=chk (0≤v0∧v0≤v0∧v0≤1048576) (some ((v0,([((List.replicate v0.toNat (qb (.int .i64))),(1:Int),false)]:List (Val qa))),()))
def q3t:Gam:=[]
def qyr:Nat→Tree:=fun _=> .done
def qXX:Nat→Nm:=fun _=>⟨[],[],false⟩
def qRk:Nat→Option Jn:=fun _=>none
def qMw:Nat→Option Nm:=fun _=>none
def qMC:Nat→Option Nm:=fun _=>none
theorem zcF:qn qyr (Tryz.f209.body.getD .skip)=true:=by kernel_rfl
def qfA (N:Nat):Tab:={tr:=qyr,lp:=qXX,ex:=qMw,rg:=qMC,jn:=qRk,fuel:=N}
theorem q90 (N:Nat):(qfA N).pins=false:=rfl
theorem zfc (N:Nat):qp Tryz.prog (qfA N):=qv fun _=>rfl
theorem q5K (N:Nat) (i:Nat):(qfA N).tr i=qyr i:=rfl
theorem zem (N:Nat) (i:Nat):(qfA N).lp i=qXX i:=rfl
theorem q4A (N:Nat) (i:Nat):(qfA N).ex i=qMw i:=rfl
theorem q5x (N:Nat) (i:Nat):(qfA N).rg i=qMC i:=rfl
theorem zpW (N:Nat) (i:Nat):(qfA N).jn i=qRk i:=rfl
theorem zoS (N:Nat):(qfA N).fuel=N:=rfl
theorem zmx (N:Nat) (v0:Int):qe tt q3t (qfA N) (Tryz.f209.body.getD .skip) (qt tt true [i33] [.cell 2 33]) (qw [i3] 9 (v0,()))=qBL N v0:=by
 rw [qBL];unfold Tryz.f209
 simp (maxSteps:=10000000) -implicitDefEqProofs [q5K,qyr,zem,qXX,q4A,qMw,q5x,qMC,zpW,qRk,zoS,q90]
 try rfl
def qm5:G:={ps:=[qr,qr],rs:=[i3],dp:=true,pre:=fun x=>qd2 x.1 x.2.1,fn:=fun x=>(qbw x.1 x.2.1,())}
theorem q11 (N:Nat) (g h:Nat) (hg:(g:Int)≠0) (hh:(h:Int)≠0) (xs ys:List (Val (.int .i64))) (hl:xs.length=ys.length) (h4:xs.length≤1048576) (hx: ∀x∈xs,inI x) (hy: ∀x∈ys,inI x) (c c':Int) (s s':Bool): ∀(k i:Nat),xs.length - i=k→ ∀n,k<n→
 ql9 N g h xs c s ys c' s' (fun _=>some ((0:Int),())) n i=some (qbj ((List.drop (α:=Int) i xs).map fun x=>x.tdiv (g:Int)) ((List.drop (α:=Int) i ys).map fun x=>x.tdiv (h:Int)),())
 | 0,i,hi,n+1,_=>by
   rw [ql9,qj (by omega),List.drop_eq_nil_of_le (by omega),List.drop_eq_nil_of_le (by omega)]
   rfl
 | k+1,i,hi,n+1,hn=>by
   have h1:i<xs.length:=by omega
   have h2:i<ys.length:=by omega
   rw [ql9,qk (by omega),qk (by omega),qd (by omega),qd hg,qd (by omega),qd hh,qF h1,qF h2,qen (hx _ (List.getElem_mem h1)),qen (hy _ (List.getElem_mem h2)),qa2 h1 h4]
   rw [List.drop_eq_getElem_cons h1,List.drop_eq_getElem_cons h2,List.map_cons,List.map_cons,qbj]
   generalize hp:Int.tdiv xs[i] (g:Int)=p
   generalize hq:Int.tdiv ys[i] (h:Int)=q
   by_cases a1:p<q
   ·have: ¬p=q:=by omega
    simp [a1,this]
   ·by_cases a2:q<p
    ·have: ¬p=q:=by omega
     simp [a1,a2,this]
    ·have:p=q:=by omega
     rw [if_neg a1,if_neg a2,qaG,qk this]
     exact q11 N g h hg hh xs ys hl h4 hx hy c c' s s' k (i+1) (by omega) n (by omega)
theorem zig (a b:Val qa) (h:qd2 a b): ∃N,qz9 N a b=some (qbw a b,()):=⟨List.length (α:=Val (.int .i64)) a.1+1,by
 obtain ⟨ha,hb,hl⟩:=h
 rw [qz9,qd (show qfX a from ha),qd (show qfX b from hb),qzS,qzS]
 have:=q11 (List.length (α:=Val (.int .i64)) a.1+1) (gS (atm a)) (gS (atm b)) (by have:=qcI (atm a);omega) (by have:=qcI (atm b);omega) a.1 b.1 hl (by have:=(qbv ha).1;omega) (qvH ha) (qvH hb) a.2.1 b.2.1 a.2.2 b.2.2 _ 0 rfl _ (Nat.lt_succ_self _)
 simp only [List.drop_zero]at this
 exact this⟩
theorem zpU:Sound Tryz.prog 291 qm5:=qx (tt:=tt) (Γ:=qps) hT (qg q1t qu) hm (fn:=Tryz.f291) Tryz.func291 (c:=Tryz.f291.body.getD .skip) (by kernel_rfl) (by kernel_rfl) fun x hx=>by
 obtain ⟨N,h⟩:=zig x.1 x.2.1 hx
 exact ⟨qdM N,zql,qy _,zie N,(zl8 N x.1 x.2.1).trans h⟩
def qov:G:={ps:=[qr,qr],rs:=[i4],dp:=true,pre:=fun x=>qtm x.1 x.2.1,fn:=fun x=>(qk7 x.1 x.2.1,())}
theorem zqB (a b:Val qa) (h:qtm a b): ∃N,qyo N a b=some (qk7 a b,()):=⟨0,by
 obtain ⟨ha,hb,hw⟩:=h
 have h1:=qfI ha
 have h2:=qfI hb
 have g1:=qx8 ha
 have g2:=qx8 hb
 have p1:=qcI (atm a)
 have p2:=qcI (atm b)
 rw [qyo,qd (show qfX b from hb),qd (show qfX a from ha),qzS,qzS,qiK h1 ⟨by unfold gSv;omega,g2⟩,qiK h2 ⟨by unfold gSv;omega,g1⟩]
 have e:qk7 a b=(decide ((b.2.1:Int)*gSv a<a.2.1*gSv b)||(decide ((a.2.1:Int)*gSv b=b.2.1*gSv a)&&(a.2.2|| !b.2.2))):=by
  unfold qk7 qaY
  rw [if_pos hw]
  have e1:qdG (atm b) (atm a)=sgI (b.2.1*gSv a - a.2.1*gSv b):=rfl
  rw [e1]
  exact zg7 _ _ _ _
 rw [e]
 by_cases c1:(b.2.1:Int)*gSv a<a.2.1*gSv b
 ·simp [c1]
 ·by_cases c2:(a.2.1:Int)*gSv b=b.2.1*gSv a
  ·rw [qj c1,qk c2,decide_eq_false c1,decide_eq_true c2,Bool.false_or,Bool.true_and]
   cases a.2.2<;>rfl
  ·simp [c1,c2]⟩
theorem zoi:Sound Tryz.prog 292 qov:=qx (tt:=tt) (Γ:=qV9) hT (qg q1t qu) hm (fn:=Tryz.f292) Tryz.func292 (c:=Tryz.f292.body.getD .skip) (by kernel_rfl) (by kernel_rfl) fun x hx=>by
 obtain ⟨N,h⟩:=zqB x.1 x.2.1 hx
 exact ⟨qft N,q6L,qy _,zd2 N,(zfW N x.1 x.2.1).trans h⟩
def qeK:G:={ps:=[qr],rs:=[qr],dp:=true,pre:=fun x=>qbu x.1,fn:=fun x=>(idA x.1,())}
def qpa:G:={ps:=[i3],rs:=[i33],dp:=true,pre:=fun x=>qhm x.1,fn:=fun x=>(qbJ x.1,())}
theorem zgX (a:Val qa) (h:qbu a): ∃N,qDw N a=some (idA a,()):=⟨0,by
 rw [qDw,qd (by have h:List.length (α:=Val (.int .i64)) a.1≤1048576:=h;simpa using h)];rfl⟩
theorem zcv (d:Int) (h:qhm d): ∃N,qBL N d=some (qbJ d,()):=⟨0,by
 rw [qBL,qd ⟨h.1,Int.le_refl _,h.2⟩];rfl⟩
theorem qZM:Sound Tryz.prog 234 qeK:=qx (tt:=tt) (Γ:=qZh) hT qu hm (fn:=Tryz.f234) Tryz.func234 (c:=Tryz.f234.body.getD .skip) (by kernel_rfl) (by kernel_rfl) fun x hx=>by
 obtain ⟨N,h⟩:=zgX x.1 hx
 exact ⟨qfB N,q78,qy _,zdr N,(zpS N x.1).trans h⟩
theorem q5V:Sound Tryz.prog 209 qpa:=qx (tt:=tt) (Γ:=q3t) hT qu hm (fn:=Tryz.f209) Tryz.func209 (c:=Tryz.f209.body.getD .skip) (by kernel_rfl) (by kernel_rfl) fun x hx=>by
 obtain ⟨N,h⟩:=zcv x.1 hx
 exact ⟨qfA N,zcF,qy _,zfc N,(zmx N x.1).trans h⟩
noncomputable def qj1 (N:Nat) (v2:List (Val qa)) (v4:List (Val (.int .i64))) (v5:Int) (v6:Bool) (k0:Int→Option (qc [i31])):Nat→Int→Option (qc [i31])
 | 0,_=>none
 | n+1,v3=>bif (decide (v3<(v2.length:Int)))then (chk (0≤v3∧v3<(v2.length:Int)) (chk (qd2 (v2.getD v3.toNat (qb qa)) (v4,v5,v6)) (bif (decide (((qbw (v2.getD v3.toNat (qb qa)) (v4,v5,v6)):Int)<(0:Int)))then (qj1 N v2 v4 v5 v6 k0 n (IntKind.i64.wrap (v3+(1:Int))))else (k0 v3))))else (k0 v3)
noncomputable def qyj (N:Nat) (v0:List (Val qa)) (v1:Val qa):Option (qc [i31]):=qj1 N v0 (v1.1:List (Val (.int .i64))) (v1.2.1:Int) (v1.2.2:Bool) (fun (v8:Int)=>bif (decide (v8<(v0.length:Int)))then (chk (0≤v8∧v8<(v0.length:Int)) (chk (qd2 (v0.getD v8.toNat (qb qa)) v1) (bif (decide (((qbw (v0.getD v8.toNat (qb qa)) v1):Int)=(0:Int)))then (chk (0≤v8∧v8<(v0.length:Int)) (chk (qtm (v0.getD v8.toNat (qb qa)) v1) (bif ((qk7 (v0.getD v8.toNat (qb qa)) v1):Bool)then (some (v0,()))else (chk (([]:List (Val qa)).length+v0.length≤1048576) (chk (0≤v8∧v8<((([]:List (Val qa))++v0).length:Int)) (chk (v8.toNat<(([]:List (Val qa))++v0).length) (some (((([]:List (Val qa))++v0).set v8.toNat v1),()))))))))else (chk (0≤(0:Int)∧(0:Int)≤v8∧v8≤(v0.length:Int)) (chk (0≤v8∧v8≤(v0.length:Int)∧(v0.length:Int)≤(v0.length:Int)) (chk (([]:List (Val qa)).length+((v0.take v8.toNat).drop (0:Int).toNat).length≤1048576) (chk ((([]:List (Val qa))++((v0.take v8.toNat).drop (0:Int).toNat)).length+([v1]:List (Val qa)).length≤1048576) (chk (((([]:List (Val qa))++((v0.take v8.toNat).drop (0:Int).toNat))++([v1]:List (Val qa))).length+((v0.take (v0.length:Int).toNat).drop v8.toNat).length≤1048576) (some ((((([]:List (Val qa))++((v0.take v8.toNat).drop (0:Int).toNat))++([v1]:List (Val qa)))++((v0.take (v0.length:Int).toNat).drop v8.toNat)),()))))))))))else (chk (0≤(0:Int)∧(0:Int)≤v8∧v8≤(v0.length:Int)) (chk (0≤v8∧v8≤(v0.length:Int)∧(v0.length:Int)≤(v0.length:Int)) (chk (([]:List (Val qa)).length+((v0.take v8.toNat).drop (0:Int).toNat).length≤1048576) (chk ((([]:List (Val qa))++((v0.take v8.toNat).drop (0:Int).toNat)).length+([v1]:List (Val qa)).length≤1048576) (chk (((([]:List (Val qa))++((v0.take v8.toNat).drop (0:Int).toNat))++([v1]:List (Val qa))).length+((v0.take (v0.length:Int).toNat).drop v8.toNat).length≤1048576) (some ((((([]:List (Val qa))++((v0.take v8.toNat).drop (0:Int).toNat))++([v1]:List (Val qa)))++((v0.take (v0.length:Int).toNat).drop v8.toNat)),())))))))) N (0:Int)
def qjC:Gam:=[(291,qm5),(292,qov)]
theorem qYc:Gam.get qjC 291=some qm5:=rfl
theorem qSr:Gam.get qjC 292=some qov:=rfl
def qtW:Nm:=⟨[true,false,false,true,false,true],[],false⟩
theorem qRP:qtW.zero=false:=rfl
theorem qJI:qtW.fix=[]:=rfl
theorem qXl:qtW.keep=[true,false,false,true,false,true]:=rfl
def qAz:Nm:=⟨[true,false,false,true,false,true],[],false⟩
theorem qQ7:qAz.zero=false:=rfl
theorem qIT:qAz.fix=[]:=rfl
theorem qVp:qAz.keep=[true,false,false,true,false,true]:=rfl
def qyy:Nm:=⟨[false,false,false,false,true],[],false⟩
theorem qMX:qyy.zero=false:=rfl
theorem qTw:qyy.fix=[]:=rfl
theorem qID:qyy.keep=[false,false,false,false,true]:=rfl
def qnd:Nat→Tree:=fun i=>if i=2 then .quiet 0 (.quiet 1 (.quiet 2 (.quiet 3 (.quiet 4 (.quiet 5 (.quiet 6 (.quiet 7 (.quiet 8 (.quiet 9 (.alt 10 (.quiet 11 (.quiet 12 .done)) .stop))))))))))else if i=4 then .quiet 0 (.quiet 1 (.quiet 2 (.quiet 3 (.quiet 4 (.quiet 5 (.quiet 6 (.quiet 7 (.quiet 8 (.quiet 9 (.alt 10 (.quiet 11 (.quiet 12 .done)) .stop))))))))))else if i=5 then .quiet 0 (.quiet 1 (.quiet 2 (.quiet 3 (.quiet 4 (.alt 5 .done .stop)))))else if i=10 then .first 1 (.first 2 (.first 8 (.first 9 (.pure 3 (.pure 10 (.alt 0 (.alt 4 (.quiet 5 (.alt 6 (.alt 7 (.alt 11 (.quiet 12 .done) .stop) .stop) .stop)) (.alt 5 (.alt 4 (.alt 6 (.alt 7 (.alt 11 (.quiet 12 .done) .stop) .stop) .stop) (.alt 6 (.alt 4 (.alt 7 (.alt 11 (.quiet 12 .done) .stop) .stop) .stop) .stop)) .stop)) (.alt 5 (.alt 0 (.alt 4 (.alt 6 (.alt 7 (.alt 11 (.quiet 12 .done) .stop) .stop) .stop) (.alt 6 (.alt 4 (.alt 7 (.alt 11 (.quiet 12 .done) .stop) .stop) .stop) .stop)) (.alt 6 (.alt 0 (.alt 4 (.alt 7 (.alt 11 (.quiet 12 .done) .stop) .stop) .stop) .stop) .stop)) .stop)))))))else .done
def qvp:Nat→Nm:=fun i=>if i=2 then qtW else ⟨[],[],false⟩
def qrQ:Nat→Option Jn:=fun _=>none
def qwp:Nat→Option Nm:=fun i=>if i=0 then some qAz else none
def qqH:Nat→Option Nm:=fun i=>if i=10 then some qyy else none
theorem zkF:qn qnd (Tryz.f233.body.getD .skip)=true:=by kernel_rfl
def qdN (N:Nat):Tab:={tr:=qnd,lp:=qvp,ex:=qwp,rg:=qqH,jn:=qrQ,fuel:=N}
theorem qJk (N:Nat):(qdN N).pins=false:=rfl
theorem q5X (N:Nat):qp Tryz.prog (qdN N):=qv fun _=>rfl
theorem qMF (N:Nat) (i:Nat):(qdN N).tr i=qnd i:=rfl
theorem qP2 (N:Nat) (i:Nat):(qdN N).lp i=qvp i:=rfl
theorem qK4 (N:Nat) (i:Nat):(qdN N).ex i=qwp i:=rfl
theorem qPH (N:Nat) (i:Nat):(qdN N).rg i=qqH i:=rfl
theorem qIG (N:Nat) (i:Nat):(qdN N).jn i=qrQ i:=rfl
theorem qPF (N:Nat):(qdN N).fuel=N:=rfl
noncomputable def q01:Code:=cut [true,true,false,true,true] (Tryz.f233.body.getD .skip)
theorem zkr {N:Nat} {Q:X→St→Option (qc [i31])} {e:List LV} {h:List Blk}:qe tt qjC (qdN N) q01 Q ⟨e,h⟩=qe tt qjC (qdN N) (cut [true,true,false,true,true] (Tryz.f233.body.getD .skip)) Q ⟨e,h⟩:=rfl
theorem zra (N:Nat) (v2:List (Val qa)) (v4:List (Val (.int .i64))) (v5:Int) (v6:Bool) {k0:Int→Option (qc [i31])} {Q:X→St→Option (qc [i31])} {c:Code} (hc:c=q01) (hret: ∀st,Q .ret st=qI tt false [i31] [.tmp 4] st) (h0: ∀(v7:Int),Q (.exit 0) ⟨[.one (.sl 108 qa v2 1),u,u,.one (.ptr 0 0 0),u,.one (.int .i64 v7),u,u,u,u,u,u,u,u,u,u,u,u,u,u,u,u,u,u,u,u,u,u,u,u,u,u,u,u,u,u,u,u,u,u,u,u,u,u,u,u,u,u,u,u,u,u,u,u,u,u,u,u,u,u,u,u],[.box [.sl 3 (.int .i64) v4 1,.int .i64 v5,.bool v6]]⟩=k0 v7): ∀(n:Nat) (v3:Int),qE (qe tt qjC (qdN N) c) false qtW Q n ⟨[.one (.sl 108 qa v2 1),u,u,.one (.ptr 0 0 0),u,.one (.int .i64 v3),u,u,u,u,u,u,u,u,u,u,u,u,u,u,u,u,u,u,u,u,u,u,u,u,u,u,u,u,u,u,u,u,u,u,u,u,u,u,u,u,u,u,u,u,u,u,u,u,u,u,u,u,u,u,u,u],[.box [.sl 3 (.int .i64) v4 1,.int .i64 v5,.bool v6]]⟩=qj1 N v2 v4 v5 v6 k0 n v3:=by
 subst hc;intro n;induction n with
 | zero=>intros;rfl
 | succ n ih=>
   intro v3
   rw [qN,zkr,qj1];unfold Tryz.f233
   simp (maxSteps:=10000000) -implicitDefEqProofs [qMF,qnd,qP2,qvp,qK4,qwp,qPH,qqH,qIG,qrQ,qPF,qJk,qJI,qXl,qRP,qIT,qVp,qQ7,qTw,qID,qMX,qYc,qSr,qm5,qov,hret,h0,ih]
theorem zoC (N:Nat) (v0:List (Val qa)) (v1:Val qa):qe tt qjC (qdN N) (Tryz.f233.body.getD .skip) (qt tt false [i31] [.tmp 4]) (qw [i31,qr] 62 (v0,v1,()))=qyj N v0 v1:=by
 unfold Tryz.f233
 simp (maxSteps:=10000000) -implicitDefEqProofs [qMF,qnd,qP2,qvp,qK4,qwp,qPH,qqH,qIG,qrQ,qPF,qJk,qJI,qXl,qRP,qIT,qVp,qQ7,qTw,qID,qMX,qYc,qSr,qm5,qov]
 rewrite [zra (k0:=(fun (v8:Int)=>bif (decide (v8<(v0.length:Int)))then (chk (0≤v8∧v8<(v0.length:Int)) (chk (qd2 (v0.getD v8.toNat (qb qa)) v1) (bif (decide (((qbw (v0.getD v8.toNat (qb qa)) v1):Int)=(0:Int)))then (chk (0≤v8∧v8<(v0.length:Int)) (chk (qtm (v0.getD v8.toNat (qb qa)) v1) (bif ((qk7 (v0.getD v8.toNat (qb qa)) v1):Bool)then (some (v0,()))else (chk (([]:List (Val qa)).length+v0.length≤1048576) (chk (0≤v8∧v8<((([]:List (Val qa))++v0).length:Int)) (chk (v8.toNat<(([]:List (Val qa))++v0).length) (some (((([]:List (Val qa))++v0).set v8.toNat v1),()))))))))else (chk (0≤(0:Int)∧(0:Int)≤v8∧v8≤(v0.length:Int)) (chk (0≤v8∧v8≤(v0.length:Int)∧(v0.length:Int)≤(v0.length:Int)) (chk (([]:List (Val qa)).length+((v0.take v8.toNat).drop (0:Int).toNat).length≤1048576) (chk ((([]:List (Val qa))++((v0.take v8.toNat).drop (0:Int).toNat)).length+([v1]:List (Val qa)).length≤1048576) (chk (((([]:List (Val qa))++((v0.take v8.toNat).drop (0:Int).toNat))++([v1]:List (Val qa))).length+((v0.take (v0.length:Int).toNat).drop v8.toNat).length≤1048576) (some ((((([]:List (Val qa))++((v0.take v8.toNat).drop (0:Int).toNat))++([v1]:List (Val qa)))++((v0.take (v0.length:Int).toNat).drop v8.toNat)),()))))))))))else (chk (0≤(0:Int)∧(0:Int)≤v8∧v8≤(v0.length:Int)) (chk (0≤v8∧v8≤(v0.length:Int)∧(v0.length:Int)≤(v0.length:Int)) (chk (([]:List (Val qa)).length+((v0.take v8.toNat).drop (0:Int).toNat).length≤1048576) (chk ((([]:List (Val qa))++((v0.take v8.toNat).drop (0:Int).toNat)).length+([v1]:List (Val qa)).length≤1048576) (chk (((([]:List (Val qa))++((v0.take v8.toNat).drop (0:Int).toNat))++([v1]:List (Val qa))).length+((v0.take (v0.length:Int).toNat).drop v8.toNat).length≤1048576) (some ((((([]:List (Val qa))++((v0.take v8.toNat).drop (0:Int).toNat))++([v1]:List (Val qa)))++((v0.take (v0.length:Int).toNat).drop v8.toNat)),()))))))))) N _ _ _ _ ?_ ?_ ?_]
 ·rewrite [qyj];first | rfl | simp (maxSteps:=10000000) -implicitDefEqProofs []
 ·rfl
 ·intro;simp only [qJ,qL,qK,qB]
 ·intro v8;simp (maxSteps:=10000000) -implicitDefEqProofs [qMF,qnd,qP2,qvp,qK4,qwp,qPH,qqH,qIG,qrQ,qPF,qJk,qJI,qXl,qRP,qIT,qVp,qQ7,qTw,qID,qMX,qYc,qSr,qm5,qov]
def qoL:G:={ps:=[i31,qr],rs:=[i31],dp:=false,pre:=fun x=>qlJ x.1 x.2.1,fn:=fun x=>(qjc x.1 x.2.1,())}
def qbq (l:List (Val qa)) (a:Val qa):Nat:=(l.takeWhile fun b=>decide (qbw b a<0)).length
theorem zhS (l:List (Val qa)) (a:Val qa):qbq l a≤l.length:=(List.takeWhile_sublist _).length_le
theorem q35: ∀(l:List (Val qa)) (a:Val qa),qa1 l a=if h:qbq l a<l.length then (if qbw l[qbq l a] a=0 then (if qaY (atm a) (atm l[qbq l a])≤0 then l else l.set (qbq l a) a)else l.take (qbq l a)++[a]++l.drop (qbq l a))else l.take (qbq l a)++[a]++l.drop (qbq l a)
 | [],a=>rfl
 | b::r,a=>by
   have ih:=q35 r a
   by_cases h1:qbw b a<0
   ·have e:qbq (b::r) a=qbq r a+1:=by simp [qbq,List.takeWhile,h1]
    have h1':way b a<0:=h1
    simp only [qa1,h1',if_true,e,List.length_cons,Nat.add_lt_add_iff_right,List.getElem_cons_succ,List.set_cons_succ,List.take_succ_cons,List.drop_succ_cons,List.cons_append]
    rw [ih]
    split
    ·split
     ·split<;>rfl
     ·rfl
    ·rfl
   ·have e:qbq (b::r) a=0:=by simp [qbq,List.takeWhile,h1]
    have h1': ¬way b a<0:=h1
    simp only [qa1,h1',if_false,e,List.length_cons,Nat.zero_lt_succ,dif_pos,List.getElem_cons_zero,List.set_cons_zero,List.take_zero,List.drop_zero,List.nil_append]
    by_cases h2:way b a=0
    ·rw [if_pos h2,if_pos (show qbw b a=0 from h2)]
    ·rw [if_neg h2,if_neg (show ¬qbw b a=0 from h2)];rfl
theorem q29 (N:Nat) (l:List (Val qa)) (a:Val qa) (h:qlJ l a) (K:Int→Option (qc [i31])): ∀(k i:Nat),l.length - i=k→i≤l.length→ ∀n,k<n→
 qj1 N l a.1 a.2.1 a.2.2 K n i=K ((i+qbq (l.drop i) a:Nat):Int)
 | 0,i,hi,hle,n+1,_=>by
   rw [qj1,qj (by omega),List.drop_eq_nil_of_le (by omega)]
   rfl
 | k+1,i,hi,hle,n+1,hn=>by
   have h1:i<l.length:=by omega
   obtain ⟨hl,ha,hb⟩:=h
   have hb1:=hb _ (List.getElem_mem h1)
   rw [qj1,qk (by omega),qd (by omega),qF h1,qd (show qd2 _ _ from ⟨hb1.1,ha,hb1.2⟩),qa2 h1 (by omega)]
   rw [qbo h1]
   by_cases h2:qbw l[i] a<0
   ·have e:qbq (l[i]::l.drop (i+1)) a=qbq (l.drop (i+1)) a+1:=by simp [qbq,List.takeWhile,h2]
    rw [qk (show qbw l[i] (a.1,a.2.1,a.2.2)<0 from h2),e,q29 N l a ⟨hl,ha,hb⟩ K k (i+1) (by omega) (by omega) n (by omega)]
    congr 2;omega
   ·have e:qbq (l[i]::l.drop (i+1)) a=0:=by simp [qbq,List.takeWhile,h2]
    rw [qj (show ¬qbw l[i] (a.1,a.2.1,a.2.2)<0 from h2),e]
    rfl
theorem zju (l:List (Val qa)) (a:Val qa) (h:qlJ l a): ∃N,qyj N l a=some (qjc l a,()):=⟨l.length+1,by
 have t:=q29 (l.length+1) l a h
 rw [qyj]
 refine (t _ _ 0 rfl (by omega) _ (Nat.lt_succ_self _)).trans ?_
 obtain ⟨hl,ha,hb⟩:=h
 rw [List.drop_zero,Nat.zero_add]
 have hle:=zhS l a
 rw [qjc,q35]
 generalize qbq l a=j at hle ⊢
 have last:chk (0≤(0:Int)∧(0:Int)≤(j:Int)∧(j:Int)≤(l.length:Int)) (chk (0≤(j:Int)∧(j:Int)≤(l.length:Int)∧(l.length:Int)≤(l.length:Int)) (chk (([]:List (Val qa)).length+((l.take (j:Int).toNat).drop (0:Int).toNat).length≤1048576) (chk ((([]:List (Val qa))++((l.take (j:Int).toNat).drop (0:Int).toNat)).length+([a]:List (Val qa)).length≤1048576) (chk (((([]:List (Val qa))++((l.take (j:Int).toNat).drop (0:Int).toNat))++([a]:List (Val qa))).length+((l.take (l.length:Int).toNat).drop (j:Int).toNat).length≤1048576)
  (some (((([]:List (Val qa))++((l.take (j:Int).toNat).drop (0:Int).toNat))++([a]:List (Val qa)))++((l.take (l.length:Int).toNat).drop (j:Int).toNat),()))))))
  =(some (l.take j++[a]++l.drop j,()):Option (qc [i31])):=by
  have e1:(j:Int).toNat=j:=rfl
  have e2:(l.length:Int).toNat=l.length:=rfl
  have e3:(0:Int).toNat=0:=rfl
  rw [e1,e2,e3,List.drop_zero,List.take_length,List.nil_append]
  rw [qd (by omega),qd (by omega),qd (by simp;omega),qd (by simp;omega),qd (by simp;omega)]
 by_cases hj:j<l.length
 ·have hb1:=hb _ (List.getElem_mem hj)
  have e1:(j:Int).toNat=j:=rfl
  rw [dif_pos hj,qk (by omega),qd (by omega),qF hj,qd (show qd2 _ _ from ⟨hb1.1,ha,hb1.2⟩)]
  by_cases hw:qbw l[j] a=0
  ·have hw':way (atm a) (atm l[j])=0:=by have:=qbK.anti (atm a) (atm l[j]);have hw:way (atm l[j]) (atm a)=0:=hw;omega
   rw [qk hw,if_pos hw,qd (by omega),qd (show qtm _ _ from ⟨hb1.1,ha,hw'⟩)]
   unfold qk7
   by_cases hs:qaY (atm a) (atm l[j])≤0
   ·rw [qk hs,if_pos hs]
   ·rw [qj hs,if_neg hs,List.nil_append,qd (by simp;omega),qd (by omega),qd (by omega),e1]
  ·rw [qj hw,if_neg hw]
   exact last
 ·rw [dif_neg hj,qj (by omega)]
  exact last⟩
theorem zjZ:Sound Tryz.prog 233 qoL:=qx (tt:=tt) (Γ:=qjC) hT (qg zpU (qg zoi qu)) hm (fn:=Tryz.f233) Tryz.func233 (c:=Tryz.f233.body.getD .skip) (by kernel_rfl) (by kernel_rfl) fun x hx=>by
 obtain ⟨N,h⟩:=zju x.1 x.2.1 hx
 exact ⟨qdN N,zkF,qy _,q5X N,(zoC N x.1 x.2.1).trans h⟩
noncomputable def qg1 (N:Nat) (v2:Int) (v3:List (Val qa)) (v5:Int) (v6:Int) (k0:(List (Val qa))→Option (qc [i33])):Nat→Int→(List (Val qa))→Option (qc [i33])
 | 0,_,_=>none
 | n+1,v4,v7=>bif (decide (v4<(v3.length:Int)))then (chk (0≤v4∧v4<(v3.length:Int)) (chk (qnZ (v3.getD v4.toNat (qb qa))) (bif ((qcL (v3.getD v4.toNat (qb qa))):Bool)then (chk (0≤v4∧v4<(v3.length:Int)) (bif (!((qfO (v3.getD v4.toNat (qb qa))):Bool))then (chk (qhm v2) (some ((((qbJ v2).1:Int),((qbJ v2).2:List (Val qa))),())))else (qg1 N v2 v3 v5 v6 k0 n (IntKind.i64.wrap (v4+(1:Int))) v7)))else (chk (0≤v4∧v4<(v3.length:Int)) (chk (qbu (v3.getD v4.toNat (qb qa))) (chk (qlJ v7 (((idA (v3.getD v4.toNat (qb qa))).1:List (Val (.int .i64))),(((idA (v3.getD v4.toNat (qb qa))).2).1:Int),(((idA (v3.getD v4.toNat (qb qa))).2).2:Bool))) (qg1 N v2 v3 v5 v6 k0 n (IntKind.i64.wrap (v4+(1:Int))) ((qjc v7 (((idA (v3.getD v4.toNat (qb qa))).1:List (Val (.int .i64))),(((idA (v3.getD v4.toNat (qb qa))).2).1:Int),(((idA (v3.getD v4.toNat (qb qa))).2).2:Bool))):List (Val qa)))))))))else (k0 v7)
noncomputable def qDF (N:Nat) (v0:Int) (v1:List (Val qa)):Option (qc [i33]):=qg1 N v0 v1 (0:Int) v0 (fun (v9:List (Val qa))=>some ((v0,v9),())) N (0:Int) ([]:List (Val qa))
def qfC:Gam:=[(209,qpa),(229,qeM),(232,qeH),(233,qoL),(234,qeK)]
theorem qQ2:Gam.get qfC 209=some qpa:=rfl
theorem qFA:Gam.get qfC 229=some qeM:=rfl
theorem qTZ:Gam.get qfC 232=some qeH:=rfl
theorem qSs:Gam.get qfC 233=some qoL:=rfl
theorem qXa:Gam.get qfC 234=some qeK:=rfl
def qqT:Nm:=⟨[true,true,false,false,true,true,true],[.nsb 5 1 108 qa],false⟩
theorem qNr:qqT.zero=false:=rfl
theorem qQu:qqT.fix=[.nsb 5 1 108 qa]:=rfl
theorem qIq:qqT.keep=[true,true,false,false,true,true,true]:=rfl
def qy3:Nm:=⟨[false,false,false,false,true,true],[],false⟩
theorem qQC:qy3.zero=false:=rfl
theorem qRz:qy3.fix=[]:=rfl
theorem qLf:qy3.keep=[false,false,false,false,true,true]:=rfl
def qzt:Nm:=⟨[true,true,false,false,true,true,true],[],false⟩
theorem qIr:qzt.zero=false:=rfl
theorem qRq:qzt.fix=[]:=rfl
theorem qXz:qzt.keep=[true,true,false,false,true,true,true]:=rfl
def qn1:Nat→Tree:=fun i=>if i=8 then .quiet 2 (.quiet 3 (.quiet 4 (.quiet 5 (.alt 0 (.alt 1 (.alt 6 (.alt 7 (.quiet 8 (.alt 9 .done .stop)) .stop) .stop) (.alt 6 (.quiet 1 (.alt 7 (.quiet 8 (.alt 9 .done .stop)) .stop)) .stop)) (.alt 6 (.quiet 0 (.quiet 1 (.alt 7 (.quiet 8 (.alt 9 .done .stop)) .stop))) .stop)))))else .done
def qrh:Nat→Nm:=fun i=>if i=3 then qqT else ⟨[],[],false⟩
def quN:Nat→Option Jn:=fun _=>none
def qu5:Nat→Option Nm:=fun i=>if i=0 then some qy3 else none
def qsN:Nat→Option Nm:=fun i=>if i=8 then some qzt else none
theorem ziv:qn qn1 (Tryz.f150.body.getD .skip)=true:=by kernel_rfl
def qdn (N:Nat):Tab:={tr:=qn1,lp:=qrh,ex:=qu5,rg:=qsN,jn:=quN,fuel:=N}
theorem qFn (N:Nat):(qdn N).pins=false:=rfl
theorem zaF (N:Nat):qp Tryz.prog (qdn N):=qv fun _=>rfl
theorem qOn (N:Nat) (i:Nat):(qdn N).tr i=qn1 i:=rfl
theorem qL4 (N:Nat) (i:Nat):(qdn N).lp i=qrh i:=rfl
theorem qTd (N:Nat) (i:Nat):(qdn N).ex i=qu5 i:=rfl
theorem qR1 (N:Nat) (i:Nat):(qdn N).rg i=qsN i:=rfl
theorem qQl (N:Nat) (i:Nat):(qdn N).jn i=quN i:=rfl
theorem qXp (N:Nat):(qdn N).fuel=N:=rfl
noncomputable def qY9:Code:=cut [true,true,false,true,true,true] (Tryz.f150.body.getD .skip)
theorem zdM {N:Nat} {Q:X→St→Option (qc [i33])} {e:List LV} {h:List Blk}:qe tt qfC (qdn N) qY9 Q ⟨e,h⟩=qe tt qfC (qdn N) (cut [true,true,false,true,true,true] (Tryz.f150.body.getD .skip)) Q ⟨e,h⟩:=rfl
theorem zku (N:Nat) (v2:Int) (v3:List (Val qa)) (v5:Int) (v6:Int) {k0:(List (Val qa))→Option (qc [i33])} {Q:X→St→Option (qc [i33])} {c:Code} (hc:c=qY9) (hret: ∀st,Q .ret st=qI tt false [i33] [.cell 4 33] st) (h0: ∀(v8:List (Val qa)),Q (.exit 0) ⟨[u,u,u,u,.one (.ptr 0 0 0),.one (.ptr 1 0 0),u,u,u,u,u,u,u,u,u,u,u,u,u,u,u,u,u,u,u,u,u,u,u,u,u,u,u,u,u,u,u,u],[.box [.int .i64 v5,.nils],.box [.int .i64 v6,.sl 108 qa v8 2]]⟩=k0 v8): ∀(n:Nat) (v4:Int) (v7:List (Val qa)),qE (qe tt qfC (qdn N) c) false qqT Q n ⟨[.one (.int .i64 v2),.one (.sl 108 qa v3 2),u,u,.one (.ptr 0 0 0),.one (.ptr 1 0 0),.one (.int .i64 v4),u,u,u,u,u,u,u,u,u,u,u,u,u,u,u,u,u,u,u,u,u,u,u,u,u,u,u,u,u,u,u],[.box [.int .i64 v5,.nils],.box [.int .i64 v6,.sl 108 qa v7 2]]⟩=qg1 N v2 v3 v5 v6 k0 n v4 v7:=by
 subst hc;intro n;induction n with
 | zero=>intros;rfl
 | succ n ih=>
   intro v4 v7
   rw [qN,zdM,qg1];unfold Tryz.f150
   simp (maxSteps:=10000000) -implicitDefEqProofs [qOn,qn1,qL4,qrh,qTd,qu5,qR1,qsN,qQl,quN,qXp,qFn,qQu,qIq,qNr,qRz,qLf,qQC,qRq,qXz,qIr,qQ2,qFA,qTZ,qSs,qXa,qpa,qeM,qeH,qoL,qeK,hret,h0,ih]
theorem zd4 (N:Nat) (v0:Int) (v1:List (Val qa)):qe tt qfC (qdn N) (Tryz.f150.body.getD .skip) (qt tt false [i33] [.cell 4 33]) (qw [i3,i31] 38 (v0,v1,()))=qDF N v0 v1:=by
 unfold Tryz.f150
 simp (maxSteps:=10000000) -implicitDefEqProofs [qOn,qn1,qL4,qrh,qTd,qu5,qR1,qsN,qQl,quN,qXp,qFn,qQu,qIq,qNr,qRz,qLf,qQC,qRq,qXz,qIr,qQ2,qFA,qTZ,qSs,qXa,qpa,qeM,qeH,qoL,qeK]
 rewrite [zku (k0:=(fun (v9:List (Val qa))=>some ((v0,v9),()))) N _ _ _ _ ?_ ?_ ?_]
 ·rewrite [qDF];first | rfl | simp (maxSteps:=10000000) -implicitDefEqProofs []
 ·rfl
 ·intro;simp only [qJ,qL,qK,qB]
 ·intro v9;simp (maxSteps:=10000000) -implicitDefEqProofs [qOn,qn1,qL4,qrh,qTd,qu5,qR1,qsN,qQl,quN,qXp,qFn,qQu,qIq,qNr,qRz,qLf,qQC,qRq,qXz,qIr,qQ2,qFA,qTZ,qSs,qXa,qpa,qeM,qeH,qoL,qeK]
def qaW:G:={ps:=[i3,i31],rs:=[i33],dp:=false,pre:=fun x=>qbR x.1 x.2.1,fn:=fun x=>(qO x.1 x.2.1,())}
theorem qVs: ∀(l:List Atm) (a:Atm),(qa1 l a).length≤l.length+1
 | [],_=>by simp [qa1]
 | b::r,a=>by
   have:=qVs r a
   simp only [qa1]
   split
   ·simp;omega
   ·split
    ·split<;>simp
    ·simp
theorem qOH {ρ:Type} {d:Int} {r:Option ρ} {k:List (Val qa)→Option ρ}: ∀(xs:List (Val qa)) (i:Nat) (s:List (Val qa)),s.length+xs.length≤1048576→(∀b∈s,okA b∧(List.length (α:=Int) b.1:Int)=d)→(∀b∈xs,okA b∧(List.length (α:=Int) b.1:Int)=d)→
 qat (fun _ (x:Val qa) (s:List (Val qa)) K=>bif qcL x then (bif !qfO x then r else K s)else chk (qlJ s x) (K (qjc s x))) i xs s k=bif xs.any qaB then r else k ((xs.filter q8).foldl qa1 s)
 | [],_,s,_,_,_=>by rw [qat];simp
 | x::xs,i,s,h,hs,hx=>by
   simp only [List.length_cons]at h
   have hx0:=hx x (by simp)
   rw [qat,List.any_cons,qXb]
   cases hn:qcL x with
   | true=>
     have hv:q8 x=false:=by simpa [qcL] using hn
     cases ht:qfO x with
     | false=>simp
     | true=>
       simp only [cond_true,Bool.not_true,cond_false,Bool.and_false,Bool.false_or]
       rw [qOH xs (i+1) s (by omega) hs fun b hb=>hx b (by simp [hb])]
       simp [hv]
   | false=>
     have hv:q8 x=true:=by simpa [qcL] using hn
     simp only [cond_false,Bool.false_and,Bool.false_or]
     rw [qd (show qlJ s x from ⟨by omega,hx0.1,fun b hb=>⟨(hs b hb).1,by have:=(hs b hb).2;have:=hx0.2;omega⟩⟩)]
     have hl:(qjc s x).length≤s.length+1:=qVs s x
     rw [qOH xs (i+1) (qjc s x) (by omega) (fun b hb=> ?_) fun b hb=>hx b (by simp [hb])]
     ·simp only [List.filter_cons,hv,if_true,List.foldl_cons]
      rfl
     ·rcases qtV hb with rfl | hb
      ·exact hx0
      ·exact hs b hb
theorem q7U (N:Nat) (d:Int) (l:List (Val qa)) (K:List (Val qa)→Option (qc [i33])) (h:okL d l) (n:Nat) (hn:l.length<n) (s:List (Val qa)):qg1 N d l 0 d K n 0 s=qat (fun _ (x:Val qa) (s:List (Val qa)) K=>bif qcL x then (bif !qfO x then some (qbJ d,())else K s)else chk (qlJ s x) (K (qjc s x))) 0 l s K:=
 qaP (xs:=l) (F:=fun n i s=>qg1 N d l 0 d K n i s) h.2.1 (fun n i s hi=>by
  obtain ⟨ha,hlen⟩:=h.2.2 _ (List.getElem_mem hi)
  have h4:=(qbv ha).1
  have hd':=h.1
  rw [qg1,qk (by omega),qd (by omega),qF hi,qd (show qnZ _ from ha),qd (by omega),qd (show qhm d from ⟨hd'.1,by omega⟩),qd (by omega),qd (show qbu _ from by unfold qbu;omega)]
  rfl) (fun n i s hi=>by rw [qg1,qj (by omega)]) n s hn
theorem q9q (d:Int) (l:List (Val qa)) (h:qbR d l): ∃N,qDF N d l=some (qO d l,()):=⟨l.length+1,by
 rw [qDF,q7U _ _ _ _ h _ (Nat.lt_succ_self _)]
 refine (qOH (d:=d) l 0 [] (by simpa using h.2.1) (by simp) h.2.2).trans ?_
 rw [qO]
 cases l.any qaB<;>rfl⟩
theorem qOO:Sound Tryz.prog 150 qaW:=qx (tt:=tt) (Γ:=qfC) hT (qg q5V (qg q4c (qg q31 (qg zjZ (qg qZM qu))))) hm (fn:=Tryz.f150) Tryz.func150 (c:=Tryz.f150.body.getD .skip) (by kernel_rfl) (by kernel_rfl) fun x hx=>by
 obtain ⟨N,h⟩:=q9q x.1 x.2.1 hx
 exact ⟨qdn N,ziv,qy _,zaF N,(zd4 N x.1 x.2.1).trans h⟩
end Go.T
