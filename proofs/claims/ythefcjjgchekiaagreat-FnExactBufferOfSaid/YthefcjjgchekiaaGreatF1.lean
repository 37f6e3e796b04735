/- Sizes, copies and equality of regions. -/
import Derived.Test.YthefcjjgchekiaaGreatA1
set_option linter.unusedSimpArgs false
set_option linter.unusedVariables false
namespace Go.T
open Go Go.Proofs
set_option maxHeartbeats 4000000
set_option maxRecDepth 100000
def qg2 (x:List (Val (.int .i64))) (n:Int):Int:=szV (.slice 3 (.int .i64)) x n
def qxL (x:List (Val (.int .i64))) (n:Int):Prop:=qlO (.slice 3 (.int .i64)) x n
noncomputable def qyG (N:Nat) (v0:List (Val (.int .i64))) (v1:Int):Option (qb [i3]):=bif (decide ((IntKind.i64.wrap (v1 - (v0.length:Int)))<(0:Int)))then (some ((-1:Int),()))else (some ((IntKind.i64.wrap (v1 - (v0.length:Int))),()))
def qRg:Gam:=[]
def qBp:Nat→Tree:=fun _=> .done
def qDF:Nat→Nm:=fun _=>⟨[],[],false⟩
def qJ8:Nat→Option Jn:=fun _=>none
def qKj:Nat→Option Nm:=fun _=>none
def qIP:Nat→Option Nm:=fun _=>none
theorem q3j:qj qBp (Tryz.f176.body.getD .skip)=true:=by kernel_rfl
def qgt (N:Nat):Tab:={tr:=qBp,lp:=qDF,ex:=qKj,rg:=qIP,jn:=qJ8,fuel:=N}
theorem q52 (N:Nat):(qgt N).pins=false:=rfl
theorem qVw (N:Nat):qn Tryz.prog (qgt N):=qr fun _=>rfl
theorem qXg (N:Nat) (i:Nat):(qgt N).tr i=qBp i:=rfl
theorem q6Z (N:Nat) (i:Nat):(qgt N).lp i=qDF i:=rfl
theorem zdz (N:Nat) (i:Nat):(qgt N).ex i=qKj i:=rfl
theorem q9Z (N:Nat) (i:Nat):(qgt N).rg i=qIP i:=rfl
theorem q8s (N:Nat) (i:Nat):(qgt N).jn i=qJ8 i:=rfl
theorem q4K (N:Nat):(qgt N).fuel=N:=rfl
theorem q3N (N:Nat) (v0:List (Val (.int .i64))) (v1:Int):qd tt qRg (qgt N) (Tryz.f176.body.getD .skip) (qo tt true [i3] [.tmp 4]) (qt [i25,i3] 12 (v0,v1,()))=qyG N v0 v1:=by
 rw [qyG];unfold Tryz.f176
 simp (maxSteps:=10000000) -implicitDefEqProofs [qXg,qBp,q6Z,qDF,zdz,qKj,q9Z,qIP,q8s,qJ8,q4K,q52]
 try rfl
def qvI:G:={ps:=[i25,i3],rs:=[i3],dp:=true,pre:=fun x=>qxL x.1 x.2.1,fn:=fun x=>(qg2 x.1 x.2.1,())}
theorem qVP (x:List (Val (.int .i64))) (n:Int) (h:qxL x n): ∃N,qyG N x n=some (qg2 x n,()):=⟨0,by
 obtain ⟨hs,h0,h1⟩:=h
 rw [qyG,qOv h0 h1 hs.1]
 simp only [qg2,qGB]
 by_cases c:n - (List.length x:Int)<0
 ·rw [ql c,if_pos c]
 ·rw [qi c,if_neg c,qWh (fun _ _=>rfl) _ _ (by omega)]⟩
theorem q0r:Sound Tryz.prog 176 qvI:=qu (tt:=tt) (Γ:=qRg) hT qq hm (fn:=Tryz.f176) Tryz.func176 (c:=Tryz.f176.body.getD .skip) (by kernel_rfl) (by kernel_rfl) fun x hx=>by
 obtain ⟨N,h⟩:=qVP x.1 x.2.1 hx
 exact ⟨qgt N,q3j,qv _,qVw N,(q3N N x.1 x.2.1).trans h⟩
def qkq (x:Val qN) (n:Int):Int:=szV qN x n
def qwL (x:Val qN) (n:Int):Prop:=qlO qN x n
noncomputable def qAk (N:Nat) (v0:Val qN) (v1:Int):Option (qb [i3]):=chk (qxL (v0.1:List (Val (.int .i64))) v1) (bif (decide (((qg2 (v0.1:List (Val (.int .i64))) v1):Int)<(0:Int)))then (some ((-1:Int),()))else (some (((qg2 (v0.1:List (Val (.int .i64))) v1):Int),())))
def qB2:Gam:=[(176,qvI)]
theorem q0o:Gam.get qB2 176=some qvI:=rfl
def qyI:Nat→Tree:=fun _=> .done
def qPw:Nat→Nm:=fun _=>⟨[],[],false⟩
def qMk:Nat→Option Jn:=fun _=>none
def qKb:Nat→Option Nm:=fun _=>none
def qM3:Nat→Option Nm:=fun _=>none
theorem za3:qj qyI (Tryz.f175.body.getD .skip)=true:=by kernel_rfl
def qfT (N:Nat):Tab:={tr:=qyI,lp:=qPw,ex:=qKb,rg:=qM3,jn:=qMk,fuel:=N}
theorem q0g (N:Nat):(qfT N).pins=false:=rfl
theorem q1P (N:Nat):qn Tryz.prog (qfT N):=qr fun _=>rfl
theorem q7V (N:Nat) (i:Nat):(qfT N).tr i=qyI i:=rfl
theorem q2t (N:Nat) (i:Nat):(qfT N).lp i=qPw i:=rfl
theorem qV5 (N:Nat) (i:Nat):(qfT N).ex i=qKb i:=rfl
theorem qVN (N:Nat) (i:Nat):(qfT N).rg i=qM3 i:=rfl
theorem zbT (N:Nat) (i:Nat):(qfT N).jn i=qMk i:=rfl
theorem qXY (N:Nat):(qfT N).fuel=N:=rfl
theorem qWp (N:Nat) (v0:Val qN) (v1:Int):qd tt qB2 (qfT N) (Tryz.f175.body.getD .skip) (qo tt true [i3] [.tmp 4]) (qt [qhY,i3] 12 (v0,v1,()))=qAk N v0 v1:=by
 rw [qAk];unfold Tryz.f175
 simp (maxSteps:=10000000) -implicitDefEqProofs [q7V,qyI,q2t,qPw,qV5,qKb,qVN,qM3,zbT,qMk,qXY,q0g,q0o,qvI]
 try rfl
def ql1:G:={ps:=[qhY,i3],rs:=[i3],dp:=true,pre:=fun x=>qwL x.1 x.2.1,fn:=fun x=>(qkq x.1 x.2.1,())}
theorem q01 (x:Val qN) (n:Int) (h:qwL x n): ∃N,qAk N x n=some (qkq x n,()):=⟨0,by
 obtain ⟨x0,x1,x2⟩:=x
 obtain ⟨hs,h0,h1⟩:=h
 obtain ⟨s0,s1,s2⟩:=hs
 rw [qAk,qkq]
 dsimp only
 rw [qe (show qxL x0 n from ⟨s0,h0,h1⟩)]
 by_cases c0:qg2 x0 n<0
 ·rw [ql c0,qXF (show szV (.slice 3 (.int .i64)) x0 n<0 from c0)]
 ·have h00:0≤qg2 x0 n:=by omega
  have h10:qg2 x0 n≤1048576:=Int.le_trans (qde (.slice 3 (.int .i64)) x0 n h0).1 h1
  rw [qi c0,qVu (show 0≤szV (.slice 3 (.int .i64)) x0 n from h00)]
  change _=some (szV (.pair (.int .i64) .bool) _ (qg2 x0 n),())
  rw [qEN h00]
  rfl⟩
theorem zao:Sound Tryz.prog 175 ql1:=qu (tt:=tt) (Γ:=qB2) hT (qf q0r qq) hm (fn:=Tryz.f175) Tryz.func175 (c:=Tryz.f175.body.getD .skip) (by kernel_rfl) (by kernel_rfl) fun x hx=>by
 obtain ⟨N,h⟩:=q01 x.1 x.2.1 hx
 exact ⟨qfT N,za3,qv _,q1P N,(qWp N x.1 x.2.1).trans h⟩
def qnS (x:List (Val qN)) (n:Int):Int:=szV (.slice 101 qN) x n
def qvd (x:List (Val qN)) (n:Int):Prop:=qlO (.slice 101 qN) x n
noncomputable def qkF (N:Nat) (v2:List (Val qN)) (k0:Int→Option (qb [i3])):Nat→Int→Int→Option (qb [i3])
 | 0,_,_=>none
 | n+1,v3,v4=>bif (decide (v4<(v2.length:Int)))then (chk (0≤v4∧v4<(v2.length:Int)) (chk (qwL (v2.getD v4.toNat (qc qN)) v3) (bif (decide (((qkq (v2.getD v4.toNat (qc qN)) v3):Int)<(0:Int)))then (some ((-1:Int),()))else (qkF N v2 k0 n ((qkq (v2.getD v4.toNat (qc qN)) v3):Int) (IntKind.i64.wrap (v4+(1:Int)))))))else (k0 v3)
noncomputable def qvL (N:Nat) (v0:List (Val qN)) (v1:Int):Option (qb [i3]):=bif (decide ((IntKind.i64.wrap (v1 - (v0.length:Int)))<(0:Int)))then (some ((-1:Int),()))else (qkF N v0 (fun (v6:Int)=>some (v6,())) N (IntKind.i64.wrap (v1 - (v0.length:Int))) (0:Int))
def qmk:Gam:=[(175,ql1)]
theorem qKY:Gam.get qmk 175=some ql1:=rfl
def qog:Nm:=⟨[true,true,false,false,false,true],[],false⟩
theorem qFL:qog.zero=false:=rfl
theorem qOF:qog.fix=[]:=rfl
theorem qKL:qog.keep=[true,true,false,false,false,true]:=rfl
def qvq:Nm:=⟨[false,true],[],false⟩
theorem qKi:qvq.zero=false:=rfl
theorem qKN:qvq.fix=[]:=rfl
theorem qCl:qvq.keep=[false,true]:=rfl
def qlX:Nat→Tree:=fun _=> .done
def quJ:Nat→Nm:=fun i=>if i=5 then qog else ⟨[],[],false⟩
def qpg:Nat→Option Jn:=fun _=>none
def qro:Nat→Option Nm:=fun i=>if i=0 then some qvq else none
def qut:Nat→Option Nm:=fun _=>none
theorem qWA:qj qlX (Tryz.f103.body.getD .skip)=true:=by kernel_rfl
def qcZ (N:Nat):Tab:={tr:=qlX,lp:=quJ,ex:=qro,rg:=qut,jn:=qpg,fuel:=N}
theorem qEq (N:Nat):(qcZ N).pins=false:=rfl
theorem q5G (N:Nat):qn Tryz.prog (qcZ N):=qr fun _=>rfl
theorem qOH (N:Nat) (i:Nat):(qcZ N).tr i=qlX i:=rfl
theorem qC2 (N:Nat) (i:Nat):(qcZ N).lp i=quJ i:=rfl
theorem qDR (N:Nat) (i:Nat):(qcZ N).ex i=qro i:=rfl
theorem qKR (N:Nat) (i:Nat):(qcZ N).rg i=qut i:=rfl
theorem qLP (N:Nat) (i:Nat):(qcZ N).jn i=qpg i:=rfl
theorem qDV (N:Nat):(qcZ N).fuel=N:=rfl
noncomputable def qTY:Code:=cut [true,true,true,false,true,true,true] (Tryz.f103.body.getD .skip)
theorem q51 {N:Nat} {Q:X→St→Option (qb [i3])} {e:List LV} {h:List Blk}:qd tt qmk (qcZ N) qTY Q ⟨e,h⟩=qd tt qmk (qcZ N) (cut [true,true,true,false,true,true,true] (Tryz.f103.body.getD .skip)) Q ⟨e,h⟩:=rfl
theorem q9F (N:Nat) (v2:List (Val qN)) {k0:Int→Option (qb [i3])} {Q:X→St→Option (qb [i3])} {c:Code} (hc:c=qTY) (hret: ∀st,Q .ret st=qB tt true [i3] [.tmp 4] st) (h0: ∀(v5:Int),Q (.exit 0) ⟨[u,.one (.int .i64 v5),u,u,u,u,u,u,u,u,u,u,u,u,u,u,u,u,u,u,u,u,u,u,u,u,u],[]⟩=k0 v5): ∀(n:Nat) (v3:Int) (v4:Int),qC (qd tt qmk (qcZ N) c) false qog Q n ⟨[.one (.sl 101 qN v2 0),.one (.int .i64 v3),u,u,u,.one (.int .i64 v4),u,u,u,u,u,u,u,u,u,u,u,u,u,u,u,u,u,u,u,u,u],[]⟩=qkF N v2 k0 n v3 v4:=by
 subst hc;intro n;induction n with
 | zero=>intros;rfl
 | succ n ih=>
   intro v3 v4
   rw [qL,q51,qkF];unfold Tryz.f103
   simp (maxSteps:=10000000) -implicitDefEqProofs [qOH,qlX,qC2,quJ,qDR,qro,qKR,qut,qLP,qpg,qDV,qEq,qOF,qKL,qFL,qKN,qCl,qKi,qKY,ql1,hret,h0,ih]
theorem q3I (N:Nat) (v0:List (Val qN)) (v1:Int):qd tt qmk (qcZ N) (Tryz.f103.body.getD .skip) (qo tt true [i3] [.tmp 4]) (qt [i22,i3] 27 (v0,v1,()))=qvL N v0 v1:=by
 unfold Tryz.f103
 simp (maxSteps:=10000000) -implicitDefEqProofs [qOH,qlX,qC2,quJ,qDR,qro,qKR,qut,qLP,qpg,qDV,qEq,qOF,qKL,qFL,qKN,qCl,qKi,qKY,ql1]
 rewrite [q9F (k0:=(fun (v6:Int)=>some (v6,()))) N _ ?_ ?_ ?_]
 ·rewrite [qvL];first | rfl | simp (maxSteps:=10000000) -implicitDefEqProofs []
 ·rfl
 ·intro;simp only [qK,qI,qJ,qy]
 ·intro v6;simp (maxSteps:=10000000) -implicitDefEqProofs [qOH,qlX,qC2,quJ,qDR,qro,qKR,qut,qLP,qpg,qDV,qEq,qOF,qKL,qFL,qKN,qCl,qKi,qKY,ql1]
def qzs:G:={ps:=[i22,i3],rs:=[i3],dp:=true,pre:=fun x=>qvd x.1 x.2.1,fn:=fun x=>(qnS x.1 x.2.1,())}
theorem zcF (x:List (Val qN)) (n:Int) (h:qvd x n): ∃N,qvL N x n=some (qnS x n,()):=⟨List.length x+1,by
 obtain ⟨hs,h0,h1⟩:=h
 rw [qvL,qOv h0 h1 hs.1]
 simp only [qnS,qGB]
 by_cases c:n - (List.length x:Int)<0
 ·rw [ql c,if_pos c]
 ·rw [qi c,if_neg c]
  refine (qaj (F:=fun n i s=>qkF _ x _ n s i) (step:=fun _ y (s:Int) K=>chk (qwL y s) (bif decide (qkq y s<0)then some ((-1:Int),())else K (qkq y s))) (k:=fun s=>some (s,())) (by omega) (fun n i s hi=> ?_) (fun n i s hi=> ?_) _ _ (Nat.lt_succ_self _)).trans (qOG (t:=qN) x 0 _ (by omega) (by omega) hs.2)
  ·rw [qkF,ql (by omega),qe (by omega),qH hi]
  ·rw [qkF,qi (by omega)]⟩
theorem qVt:Sound Tryz.prog 103 qzs:=qu (tt:=tt) (Γ:=qmk) hT (qf zao qq) hm (fn:=Tryz.f103) Tryz.func103 (c:=Tryz.f103.body.getD .skip) (by kernel_rfl) (by kernel_rfl) fun x hx=>by
 obtain ⟨N,h⟩:=zcF x.1 x.2.1 hx
 exact ⟨qcZ N,qWA,qv _,q5G N,(q3I N x.1 x.2.1).trans h⟩
def qjh (x:Val Y24) (n:Int):Int:=szV Y24 x n
def qw3 (x:Val Y24) (n:Int):Prop:=qlO Y24 x n
noncomputable def m22 (N:Nat) (v0:Val Y24) (v1:Int):Option (qb [i3]):=chk (qvd (v0.2:List (Val qN)) v1) (bif (decide (((qnS (v0.2:List (Val qN)) v1):Int)<(0:Int)))then (some ((-1:Int),()))else (some (((qnS (v0.2:List (Val qN)) v1):Int),())))
def Γ22:Gam:=[(103,qzs)]
theorem zdG:Gam.get Γ22 103=some qzs:=rfl
def qAQ:Nat→Tree:=fun _=> .done
def qFw:Nat→Nm:=fun _=>⟨[],[],false⟩
def qHh:Nat→Option Jn:=fun _=>none
def qN0:Nat→Option Nm:=fun _=>none
def qLt:Nat→Option Nm:=fun _=>none
theorem p22:qj qAQ (Tryz.f22.body.getD .skip)=true:=by kernel_rfl
def T22 (N:Nat):Tab:={tr:=qAQ,lp:=qFw,ex:=qN0,rg:=qLt,jn:=qHh,fuel:=N}
theorem zbV (N:Nat):(T22 N).pins=false:=rfl
theorem qVX (N:Nat):qn Tryz.prog (T22 N):=qr fun _=>rfl
theorem q3p (N:Nat) (i:Nat):(T22 N).tr i=qAQ i:=rfl
theorem q1h (N:Nat) (i:Nat):(T22 N).lp i=qFw i:=rfl
theorem q3r (N:Nat) (i:Nat):(T22 N).ex i=qN0 i:=rfl
theorem qWV (N:Nat) (i:Nat):(T22 N).rg i=qLt i:=rfl
theorem q0F (N:Nat) (i:Nat):(T22 N).jn i=qHh i:=rfl
theorem qYo (N:Nat):(T22 N).fuel=N:=rfl
theorem qWO (N:Nat) (v0:Val Y24) (v1:Int):qd tt Γ22 (T22 N) (Tryz.f22.body.getD .skip) (qo tt true [i3] [.tmp 4]) (qt [i24,i3] 12 (v0,v1,()))=m22 N v0 v1:=by
 rw [m22];unfold Tryz.f22
 simp (maxSteps:=10000000) -implicitDefEqProofs [q3p,qAQ,q1h,qFw,q3r,qN0,qWV,qLt,q0F,qHh,qYo,zbV,zdG,qzs]
 try rfl
def g22:G:={ps:=[i24,i3],rs:=[i3],dp:=true,pre:=fun x=>qw3 x.1 x.2.1,fn:=fun x=>(qjh x.1 x.2.1,())}
theorem e22 (x:Val Y24) (n:Int) (h:qw3 x n): ∃N,m22 N x n=some (qjh x n,()):=⟨0,by
 obtain ⟨x0,x1⟩:=x
 obtain ⟨hs,h0,h1⟩:=h
 obtain ⟨s0,s1⟩:=hs
 rw [m22,qjh]
 dsimp only
 rw [qEN h0]
 rw [qe (show qvd x1 n from ⟨s1,h0,h1⟩)]
 by_cases c1:qnS x1 n<0
 ·rw [ql c1]
  exact congrArg (fun z=>some (z,())) ((qde (.slice 101 qN) x1 n h0).2 c1).symm
 ·rw [qi c1]
  rfl⟩
theorem s22:Sound Tryz.prog 22 g22:=qu (tt:=tt) (Γ:=Γ22) hT (qf qVt qq) hm (fn:=Tryz.f22) Tryz.func22 (c:=Tryz.f22.body.getD .skip) (by kernel_rfl) (by kernel_rfl) fun x hx=>by
 obtain ⟨N,h⟩:=e22 x.1 x.2.1 hx
 exact ⟨T22 N,p22,qv _,qVX N,(qWO N x.1 x.2.1).trans h⟩
def qnp (x:List (Val Y24)) (n:Int):Int:=szV (.slice 24 Y24) x n
def qvE (x:List (Val Y24)) (n:Int):Prop:=qlO (.slice 24 Y24) x n
noncomputable def qkJ (N:Nat) (v2:List (Val Y24)) (k0:Int→Option (qb [i3])):Nat→Int→Int→Option (qb [i3])
 | 0,_,_=>none
 | n+1,v3,v4=>bif (decide (v4<(v2.length:Int)))then (chk (0≤v4∧v4<(v2.length:Int)) (chk (qw3 (v2.getD v4.toNat (qc Y24)) v3) (bif (decide (((qjh (v2.getD v4.toNat (qc Y24)) v3):Int)<(0:Int)))then (some ((-1:Int),()))else (qkJ N v2 k0 n ((qjh (v2.getD v4.toNat (qc Y24)) v3):Int) (IntKind.i64.wrap (v4+(1:Int)))))))else (k0 v3)
noncomputable def qA0 (N:Nat) (v0:List (Val Y24)) (v1:Int):Option (qb [i3]):=bif (decide ((IntKind.i64.wrap (v1 - (v0.length:Int)))<(0:Int)))then (some ((-1:Int),()))else (qkJ N v0 (fun (v6:Int)=>some (v6,())) N (IntKind.i64.wrap (v1 - (v0.length:Int))) (0:Int))
def qmr:Gam:=[(22,g22)]
theorem qCT:Gam.get qmr 22=some g22:=rfl
def qp6:Nm:=⟨[true,true,false,false,false,true],[],false⟩
theorem qBH:qp6.zero=false:=rfl
theorem qDP:qp6.fix=[]:=rfl
theorem qCB:qp6.keep=[true,true,false,false,false,true]:=rfl
def qvS:Nm:=⟨[false,true],[],false⟩
theorem qCh:qvS.zero=false:=rfl
theorem qEu:qvS.fix=[]:=rfl
theorem qKE:qvS.keep=[false,true]:=rfl
def qnH:Nat→Tree:=fun _=> .done
def qpj:Nat→Nm:=fun i=>if i=5 then qp6 else ⟨[],[],false⟩
def qs5:Nat→Option Jn:=fun _=>none
def qrL:Nat→Option Nm:=fun i=>if i=0 then some qvS else none
def qsB:Nat→Option Nm:=fun _=>none
theorem q6J:qj qnH (Tryz.f116.body.getD .skip)=true:=by kernel_rfl
def qdi (N:Nat):Tab:={tr:=qnH,lp:=qpj,ex:=qrL,rg:=qsB,jn:=qs5,fuel:=N}
theorem qCW (N:Nat):(qdi N).pins=false:=rfl
theorem q9a (N:Nat):qn Tryz.prog (qdi N):=qr fun _=>rfl
theorem qEv (N:Nat) (i:Nat):(qdi N).tr i=qnH i:=rfl
theorem qHJ (N:Nat) (i:Nat):(qdi N).lp i=qpj i:=rfl
theorem qDl (N:Nat) (i:Nat):(qdi N).ex i=qrL i:=rfl
theorem qE6 (N:Nat) (i:Nat):(qdi N).rg i=qsB i:=rfl
theorem qDx (N:Nat) (i:Nat):(qdi N).jn i=qs5 i:=rfl
theorem qEw (N:Nat):(qdi N).fuel=N:=rfl
noncomputable def qQe:Code:=cut [true,true,true,false,true,true,true] (Tryz.f116.body.getD .skip)
theorem zb3 {N:Nat} {Q:X→St→Option (qb [i3])} {e:List LV} {h:List Blk}:qd tt qmr (qdi N) qQe Q ⟨e,h⟩=qd tt qmr (qdi N) (cut [true,true,true,false,true,true,true] (Tryz.f116.body.getD .skip)) Q ⟨e,h⟩:=rfl
theorem qVc (N:Nat) (v2:List (Val Y24)) {k0:Int→Option (qb [i3])} {Q:X→St→Option (qb [i3])} {c:Code} (hc:c=qQe) (hret: ∀st,Q .ret st=qB tt true [i3] [.tmp 4] st) (h0: ∀(v5:Int),Q (.exit 0) ⟨[u,.one (.int .i64 v5),u,u,u,u,u,u,u,u,u,u,u,u,u,u,u,u,u,u,u,u,u,u,u,u,u],[]⟩=k0 v5): ∀(n:Nat) (v3:Int) (v4:Int),qC (qd tt qmr (qdi N) c) false qp6 Q n ⟨[.one (.sl 24 Y24 v2 0),.one (.int .i64 v3),u,u,u,.one (.int .i64 v4),u,u,u,u,u,u,u,u,u,u,u,u,u,u,u,u,u,u,u,u,u],[]⟩=qkJ N v2 k0 n v3 v4:=by
 subst hc;intro n;induction n with
 | zero=>intros;rfl
 | succ n ih=>
   intro v3 v4
   rw [qL,zb3,qkJ];unfold Tryz.f116
   simp (maxSteps:=10000000) -implicitDefEqProofs [qEv,qnH,qHJ,qpj,qDl,qrL,qE6,qsB,qDx,qs5,qEw,qCW,qDP,qCB,qBH,qEu,qKE,qCh,qCT,g22,hret,h0,ih]
theorem q2H (N:Nat) (v0:List (Val Y24)) (v1:Int):qd tt qmr (qdi N) (Tryz.f116.body.getD .skip) (qo tt true [i3] [.tmp 4]) (qt [i40,i3] 27 (v0,v1,()))=qA0 N v0 v1:=by
 unfold Tryz.f116
 simp (maxSteps:=10000000) -implicitDefEqProofs [qEv,qnH,qHJ,qpj,qDl,qrL,qE6,qsB,qDx,qs5,qEw,qCW,qDP,qCB,qBH,qEu,qKE,qCh,qCT,g22]
 rewrite [qVc (k0:=(fun (v6:Int)=>some (v6,()))) N _ ?_ ?_ ?_]
 ·rewrite [qA0];first | rfl | simp (maxSteps:=10000000) -implicitDefEqProofs []
 ·rfl
 ·intro;simp only [qK,qI,qJ,qy]
 ·intro v6;simp (maxSteps:=10000000) -implicitDefEqProofs [qEv,qnH,qHJ,qpj,qDl,qrL,qE6,qsB,qDx,qs5,qEw,qCW,qDP,qCB,qBH,qEu,qKE,qCh,qCT,g22]
def qxI:G:={ps:=[i40,i3],rs:=[i3],dp:=true,pre:=fun x=>qvE x.1 x.2.1,fn:=fun x=>(qnp x.1 x.2.1,())}
theorem q5n (x:List (Val Y24)) (n:Int) (h:qvE x n): ∃N,qA0 N x n=some (qnp x n,()):=⟨List.length x+1,by
 obtain ⟨hs,h0,h1⟩:=h
 rw [qA0,qOv h0 h1 hs.1]
 simp only [qnp,qGB]
 by_cases c:n - (List.length x:Int)<0
 ·rw [ql c,if_pos c]
 ·rw [qi c,if_neg c]
  refine (qaj (F:=fun n i s=>qkJ _ x _ n s i) (step:=fun _ y (s:Int) K=>chk (qw3 y s) (bif decide (qjh y s<0)then some ((-1:Int),())else K (qjh y s))) (k:=fun s=>some (s,())) (by omega) (fun n i s hi=> ?_) (fun n i s hi=> ?_) _ _ (Nat.lt_succ_self _)).trans (qOG (t:=Y24) x 0 _ (by omega) (by omega) hs.2)
  ·rw [qkJ,ql (by omega),qe (by omega),qH hi]
  ·rw [qkJ,qi (by omega)]⟩
theorem qXR:Sound Tryz.prog 116 qxI:=qu (tt:=tt) (Γ:=qmr) hT (qf s22 qq) hm (fn:=Tryz.f116) Tryz.func116 (c:=Tryz.f116.body.getD .skip) (by kernel_rfl) (by kernel_rfl) fun x hx=>by
 obtain ⟨N,h⟩:=q5n x.1 x.2.1 hx
 exact ⟨qdi N,q6J,qv _,q9a N,(q2H N x.1 x.2.1).trans h⟩
def qp9 (x:Val Y42) (n:Int):Int:=szV Y42 x n
def qyl (x:Val Y42) (n:Int):Prop:=qlO Y42 x n
noncomputable def m30 (N:Nat) (v0:Val Y42) (v1:Int):Option (qb [i3]):=chk (qvE (v0.2:List (Val Y24)) v1) (bif (decide (((qnp (v0.2:List (Val Y24)) v1):Int)<(0:Int)))then (some ((-1:Int),()))else (some (((qnp (v0.2:List (Val Y24)) v1):Int),())))
def Γ30:Gam:=[(116,qxI)]
theorem q7I:Gam.get Γ30 116=some qxI:=rfl
def qwm:Nat→Tree:=fun _=> .done
def qG5:Nat→Nm:=fun _=>⟨[],[],false⟩
def qMQ:Nat→Option Jn:=fun _=>none
def qG3:Nat→Option Nm:=fun _=>none
def qMH:Nat→Option Nm:=fun _=>none
theorem p30:qj qwm (Tryz.f30.body.getD .skip)=true:=by kernel_rfl
def T30 (N:Nat):Tab:={tr:=qwm,lp:=qG5,ex:=qG3,rg:=qMH,jn:=qMQ,fuel:=N}
theorem q60 (N:Nat):(T30 N).pins=false:=rfl
theorem q2B (N:Nat):qn Tryz.prog (T30 N):=qr fun _=>rfl
theorem q6Q (N:Nat) (i:Nat):(T30 N).tr i=qwm i:=rfl
theorem q79 (N:Nat) (i:Nat):(T30 N).lp i=qG5 i:=rfl
theorem zdQ (N:Nat) (i:Nat):(T30 N).ex i=qG3 i:=rfl
theorem q3S (N:Nat) (i:Nat):(T30 N).rg i=qMH i:=rfl
theorem q43 (N:Nat) (i:Nat):(T30 N).jn i=qMQ i:=rfl
theorem qVV (N:Nat):(T30 N).fuel=N:=rfl
theorem qV7 (N:Nat) (v0:Val Y42) (v1:Int):qd tt Γ30 (T30 N) (Tryz.f30.body.getD .skip) (qo tt true [i3] [.tmp 4]) (qt [i42,i3] 12 (v0,v1,()))=m30 N v0 v1:=by
 rw [m30];unfold Tryz.f30
 simp (maxSteps:=10000000) -implicitDefEqProofs [q6Q,qwm,q79,qG5,zdQ,qG3,q3S,qMH,q43,qMQ,qVV,q60,q7I,qxI]
 try rfl
def g30:G:={ps:=[i42,i3],rs:=[i3],dp:=true,pre:=fun x=>qyl x.1 x.2.1,fn:=fun x=>(qp9 x.1 x.2.1,())}
theorem e30 (x:Val Y42) (n:Int) (h:qyl x n): ∃N,m30 N x n=some (qp9 x n,()):=⟨0,by
 obtain ⟨x0,x1⟩:=x
 obtain ⟨hs,h0,h1⟩:=h
 obtain ⟨s0,s1⟩:=hs
 rw [m30,qp9]
 dsimp only
 rw [qEN h0]
 rw [qe (show qvE x1 n from ⟨s1,h0,h1⟩)]
 by_cases c1:qnp x1 n<0
 ·rw [ql c1]
  exact congrArg (fun z=>some (z,())) ((qde (.slice 24 Y24) x1 n h0).2 c1).symm
 ·rw [qi c1]
  rfl⟩
theorem s30:Sound Tryz.prog 30 g30:=qu (tt:=tt) (Γ:=Γ30) hT (qf qXR qq) hm (fn:=Tryz.f30) Tryz.func30 (c:=Tryz.f30.body.getD .skip) (by kernel_rfl) (by kernel_rfl) fun x hx=>by
 obtain ⟨N,h⟩:=e30 x.1 x.2.1 hx
 exact ⟨T30 N,p30,qv _,q2B N,(qV7 N x.1 x.2.1).trans h⟩
def qCM (x:List (Val (.int .i64))):List (Val (.int .i64)):=x
def qu8 (x:List (Val (.int .i64))):Prop:=Bd (.slice 3 (.int .i64)) x
noncomputable def qjA (N:Nat) (v1:List (Val (.int .i64))) (k0:(List (Val (.int .i64)))→Option (qb [i25])):Nat→Int→(List (Val (.int .i64)))→Option (qb [i25])
 | 0,_,_=>none
 | n+1,v2,v3=>bif (decide (v2<(v1.length:Int)))then (chk (0≤v2∧v2<(v1.length:Int)) (chk (0≤v2∧v2<(v3.length:Int)) (chk (v2.toNat<v3.length) (qjA N v1 k0 n (IntKind.i64.wrap (v2+(1:Int))) (v3.set v2.toNat ((v1.getD v2.toNat (qc (.int .i64))):Int))))))else (k0 v3)
noncomputable def m25 (N:Nat) (v0:List (Val (.int .i64))):Option (qb [i25]):=chk (0≤(v0.length:Int)∧(v0.length:Int)≤(v0.length:Int)∧(v0.length:Int)≤1048576) (qjA N v0 (fun (v5:List (Val (.int .i64)))=>some (v5,())) N (0:Int) (List.replicate (v0.length:Int).toNat (qc (.int .i64))))
def Γ25:Gam:=[]
def qpX:Nm:=⟨[true,false,false,true,true],[],false⟩
theorem qOg:qpX.zero=false:=rfl
theorem qDb:qpX.fix=[]:=rfl
theorem qFk:qpX.keep=[true,false,false,true,true]:=rfl
def qwk:Nm:=⟨[false,false,false,true],[],false⟩
theorem qCf:qwk.zero=false:=rfl
theorem qOp:qwk.fix=[]:=rfl
theorem qDA:qwk.keep=[false,false,false,true]:=rfl
def qnW:Nat→Tree:=fun _=> .done
def quE:Nat→Nm:=fun i=>if i=3 then qpX else ⟨[],[],false⟩
def qua:Nat→Option Jn:=fun _=>none
def qrg:Nat→Option Nm:=fun i=>if i=0 then some qwk else none
def qos:Nat→Option Nm:=fun _=>none
theorem p25:qj qnW (Tryz.f25.body.getD .skip)=true:=by kernel_rfl
def T25 (N:Nat):Tab:={tr:=qnW,lp:=quE,ex:=qrg,rg:=qos,jn:=qua,fuel:=N}
theorem qNn (N:Nat):(T25 N).pins=false:=rfl
theorem qXv (N:Nat):qn Tryz.prog (T25 N):=qr fun _=>rfl
theorem qEP (N:Nat) (i:Nat):(T25 N).tr i=qnW i:=rfl
theorem qHM (N:Nat) (i:Nat):(T25 N).lp i=quE i:=rfl
theorem qH5 (N:Nat) (i:Nat):(T25 N).ex i=qrg i:=rfl
theorem qDY (N:Nat) (i:Nat):(T25 N).rg i=qos i:=rfl
theorem qFY (N:Nat) (i:Nat):(T25 N).jn i=qua i:=rfl
theorem qND (N:Nat):(T25 N).fuel=N:=rfl
noncomputable def qTh:Code:=cut [true,true,false,true,true,true] (Tryz.f25.body.getD .skip)
theorem q3Q {N:Nat} {Q:X→St→Option (qb [i25])} {e:List LV} {h:List Blk}:qd tt Γ25 (T25 N) qTh Q ⟨e,h⟩=qd tt Γ25 (T25 N) (cut [true,true,false,true,true,true] (Tryz.f25.body.getD .skip)) Q ⟨e,h⟩:=rfl
theorem zbN (N:Nat) (v1:List (Val (.int .i64))) {k0:(List (Val (.int .i64)))→Option (qb [i25])} {Q:X→St→Option (qb [i25])} {c:Code} (hc:c=qTh) (hret: ∀st,Q .ret st=qB tt true [i25] [.tmp 2] st) (h0: ∀(v4:List (Val (.int .i64))),Q (.exit 0) ⟨[u,u,u,.one (.own 0),u,u,u,u,u,u,u,u,u,u,u,u,u,u,u,u,u,u],[.row 3 (.int .i64) v4 true true 0]⟩=k0 v4): ∀(n:Nat) (v2:Int) (v3:List (Val (.int .i64))),qC (qd tt Γ25 (T25 N) c) false qpX Q n ⟨[.one (.sl 3 (.int .i64) v1 1),u,u,.one (.own 0),.one (.int .i64 v2),u,u,u,u,u,u,u,u,u,u,u,u,u,u,u,u,u],[.row 3 (.int .i64) v3 true true 0]⟩=qjA N v1 k0 n v2 v3:=by
 subst hc;intro n;induction n with
 | zero=>intros;rfl
 | succ n ih=>
   intro v2 v3
   rw [qL,q3Q,qjA];unfold Tryz.f25
   simp (maxSteps:=10000000) -implicitDefEqProofs [qEP,qnW,qHM,quE,qH5,qrg,qDY,qos,qFY,qua,qND,qNn,qDb,qFk,qOg,qOp,qDA,qCf,hret,h0,ih]
theorem zbL (N:Nat) (v0:List (Val (.int .i64))):qd tt Γ25 (T25 N) (Tryz.f25.body.getD .skip) (qo tt true [i25] [.tmp 2]) (qt [i25] 22 (v0,()))=m25 N v0:=by
 unfold Tryz.f25
 simp (maxSteps:=10000000) -implicitDefEqProofs [qEP,qnW,qHM,quE,qH5,qrg,qDY,qos,qFY,qua,qND,qNn,qDb,qFk,qOg,qOp,qDA,qCf]
 rewrite [zbN (k0:=(fun (v5:List (Val (.int .i64)))=>some (v5,()))) N _ ?_ ?_ ?_]
 ·rewrite [m25];first | rfl | simp (maxSteps:=10000000) -implicitDefEqProofs []
 ·rfl
 ·intro;simp only [qK,qI,qJ,qy]
 ·intro v5;simp (maxSteps:=10000000) -implicitDefEqProofs [qEP,qnW,qHM,quE,qH5,qrg,qDY,qos,qFY,qua,qND,qNn,qDb,qFk,qOg,qOp,qDA,qCf]
def g25:G:={ps:=[i25],rs:=[i25],dp:=true,pre:=fun x=>qu8 x.1,fn:=fun x=>(qCM x.1,())}
theorem e25 (x:List (Val (.int .i64))) (h:qu8 x): ∃N,m25 N x=some (qCM x,()):=⟨List.length x+1,by
 rw [m25,qe (qi1 h.1),Int.toNat_natCast]
 refine qnM (F:=fun n i s=>qjA _ x _ n i s) (k:=fun s=>some (s,())) (qc (.int .i64)) h.1 (fun n i s hi hl=> ?_) (fun n i s hi=> ?_) _ (Nat.lt_succ_self _)
 ·rw [qjA,ql (by omega),qe (by omega),qH hi,qe (by omega),qe (by omega)]
  rfl
 ·rw [qjA,qi (by omega)]⟩
theorem s25:Sound Tryz.prog 25 g25:=qu (tt:=tt) (Γ:=Γ25) hT qq hm (fn:=Tryz.f25) Tryz.func25 (c:=Tryz.f25.body.getD .skip) (by kernel_rfl) (by kernel_rfl) fun x hx=>by
 obtain ⟨N,h⟩:=e25 x.1 hx
 exact ⟨T25 N,p25,qv _,qXv N,(zbL N x.1).trans h⟩
def qrN (x:Val qN):Val qa:=x
def qx8 (x:Val qN):Prop:=Bd qN x
noncomputable def qxr (N:Nat) (v0:Val qN):Option (qb [qg]):=chk (qu8 (v0.1:List (Val (.int .i64)))) (some ((((qCM (v0.1:List (Val (.int .i64)))):List (Val (.int .i64))),(v0.2.1:Int),(v0.2.2:Bool)),()))
def qJ4:Gam:=[(25,g25)]
theorem zan:Gam.get qJ4 25=some g25:=rfl
def qzd:Nat→Tree:=fun _=> .done
def qI3:Nat→Nm:=fun _=>⟨[],[],false⟩
def qIZ:Nat→Option Jn:=fun _=>none
def qCy:Nat→Option Nm:=fun _=>none
def qFW:Nat→Option Nm:=fun _=>none
theorem q1B:qj qzd (Tryz.f179.body.getD .skip)=true:=by kernel_rfl
def qfN (N:Nat):Tab:={tr:=qzd,lp:=qI3,ex:=qCy,rg:=qFW,jn:=qIZ,fuel:=N}
theorem q9y (N:Nat):(qfN N).pins=false:=rfl
theorem q5h (N:Nat):qn Tryz.prog (qfN N):=qr fun _=>rfl
theorem q9s (N:Nat) (i:Nat):(qfN N).tr i=qzd i:=rfl
theorem q8Z (N:Nat) (i:Nat):(qfN N).lp i=qI3 i:=rfl
theorem qZW (N:Nat) (i:Nat):(qfN N).ex i=qCy i:=rfl
theorem qYE (N:Nat) (i:Nat):(qfN N).rg i=qFW i:=rfl
theorem q3b (N:Nat) (i:Nat):(qfN N).jn i=qIZ i:=rfl
theorem q0y (N:Nat):(qfN N).fuel=N:=rfl
theorem zcY (N:Nat) (v0:Val qN):qd tt qJ4 (qfN N) (Tryz.f179.body.getD .skip) (qo tt true [qg] [.cell 2 108]) (qt [qhY] 15 (v0,()))=qxr N v0:=by
 rw [qxr];unfold Tryz.f179
 simp (maxSteps:=10000000) -implicitDefEqProofs [q9s,qzd,q8Z,qI3,qZW,qCy,qYE,qFW,q3b,qIZ,q0y,q9y,zan,g25]
 try rfl
def qm7:G:={ps:=[qhY],rs:=[qg],dp:=true,pre:=fun x=>qx8 x.1,fn:=fun x=>(qrN x.1,())}
theorem zcJ (x:Val qN) (h:qx8 x): ∃N,qxr N x=some (qrN x,()):=⟨0,by
 obtain ⟨s0,s1,s2⟩:=h
 rw [qxr,qe (show qu8 _ from s0)]
 rfl⟩
theorem q5c:Sound Tryz.prog 179 qm7:=qu (tt:=tt) (Γ:=qJ4) hT (qf s25 qq) hm (fn:=Tryz.f179) Tryz.func179 (c:=Tryz.f179.body.getD .skip) (by kernel_rfl) (by kernel_rfl) fun x hx=>by
 obtain ⟨N,h⟩:=zcJ x.1 hx
 exact ⟨qfN N,q1B,qv _,q5h N,(zcY N x.1).trans h⟩
def qPS (x:List (Val qN)):List (Val qa):=x
def qze (x:List (Val qN)):Prop:=Bd (.slice 101 qN) x
noncomputable def qk9 (N:Nat) (v1:List (Val qN)) (k0:(List (Val qa))→Option (qb [i31])):Nat→Int→(List (Val qa))→Option (qb [i31])
 | 0,_,_=>none
 | n+1,v2,v3=>bif (decide (v2<(v1.length:Int)))then (chk (0≤v2∧v2<(v1.length:Int)) (chk (qx8 (v1.getD v2.toNat (qc qN))) (chk (0≤v2∧v2<(v3.length:Int)) (chk (v2.toNat<v3.length) (qk9 N v1 k0 n (IntKind.i64.wrap (v2+(1:Int))) (v3.set v2.toNat (((qrN (v1.getD v2.toNat (qc qN))).1:List (Val (.int .i64))),(((qrN (v1.getD v2.toNat (qc qN))).2).1:Int),(((qrN (v1.getD v2.toNat (qc qN))).2).2:Bool))))))))else (k0 v3)
noncomputable def qxw (N:Nat) (v0:List (Val qN)):Option (qb [i31]):=chk (0≤(v0.length:Int)∧(v0.length:Int)≤(v0.length:Int)∧(v0.length:Int)≤1048576) (qk9 N v0 (fun (v5:List (Val qa))=>some (v5,())) N (0:Int) (List.replicate (v0.length:Int).toNat (qc qa)))
def qnu:Gam:=[(179,qm7)]
theorem qKa:Gam.get qnu 179=some qm7:=rfl
def qox:Nm:=⟨[true,false,false,true,true],[],false⟩
theorem qC8:qox.zero=false:=rfl
theorem qEI:qox.fix=[]:=rfl
theorem qLN:qox.keep=[true,false,false,true,true]:=rfl
def qBv:Nm:=⟨[false,false,false,true],[],false⟩
theorem qF5:qBv.zero=false:=rfl
theorem qIn:qBv.fix=[]:=rfl
theorem qKx:qBv.keep=[false,false,false,true]:=rfl
def qlV:Nat→Tree:=fun _=> .done
def qqi:Nat→Nm:=fun i=>if i=3 then qox else ⟨[],[],false⟩
def quS:Nat→Option Jn:=fun _=>none
def qoa:Nat→Option Nm:=fun i=>if i=0 then some qBv else none
def qrY:Nat→Option Nm:=fun _=>none
theorem qZZ:qj qlV (Tryz.f110.body.getD .skip)=true:=by kernel_rfl
def qcK (N:Nat):Tab:={tr:=qlV,lp:=qqi,ex:=qoa,rg:=qrY,jn:=quS,fuel:=N}
theorem qGX (N:Nat):(qcK N).pins=false:=rfl
theorem q1b (N:Nat):qn Tryz.prog (qcK N):=qr fun _=>rfl
theorem qB6 (N:Nat) (i:Nat):(qcK N).tr i=qlV i:=rfl
theorem qH1 (N:Nat) (i:Nat):(qcK N).lp i=qqi i:=rfl
theorem qMv (N:Nat) (i:Nat):(qcK N).ex i=qoa i:=rfl
theorem qD2 (N:Nat) (i:Nat):(qcK N).rg i=qrY i:=rfl
theorem qId (N:Nat) (i:Nat):(qcK N).jn i=quS i:=rfl
theorem qMi (N:Nat):(qcK N).fuel=N:=rfl
noncomputable def qRW:Code:=cut [true,true,false,true,true,true] (Tryz.f110.body.getD .skip)
theorem q65 {N:Nat} {Q:X→St→Option (qb [i31])} {e:List LV} {h:List Blk}:qd tt qnu (qcK N) qRW Q ⟨e,h⟩=qd tt qnu (qcK N) (cut [true,true,false,true,true,true] (Tryz.f110.body.getD .skip)) Q ⟨e,h⟩:=rfl
theorem qWE (N:Nat) (v1:List (Val qN)) {k0:(List (Val qa))→Option (qb [i31])} {Q:X→St→Option (qb [i31])} {c:Code} (hc:c=qRW) (hret: ∀st,Q .ret st=qB tt true [i31] [.tmp 2] st) (h0: ∀(v4:List (Val qa)),Q (.exit 0) ⟨[u,u,u,.one (.own 0),u,u,u,u,u,u,u,u,u,u,u,u,u,u,u,u,u,u,u],[.row 108 qa v4 true true 0]⟩=k0 v4): ∀(n:Nat) (v2:Int) (v3:List (Val qa)),qC (qd tt qnu (qcK N) c) false qox Q n ⟨[.one (.sl 101 qN v1 1),u,u,.one (.own 0),.one (.int .i64 v2),u,u,u,u,u,u,u,u,u,u,u,u,u,u,u,u,u,u],[.row 108 qa v3 true true 0]⟩=qk9 N v1 k0 n v2 v3:=by
 subst hc;intro n;induction n with
 | zero=>intros;rfl
 | succ n ih=>
   intro v2 v3
   rw [qL,q65,qk9];unfold Tryz.f110
   simp (maxSteps:=10000000) -implicitDefEqProofs [qB6,qlV,qH1,qqi,qMv,qoa,qD2,qrY,qId,quS,qMi,qGX,qEI,qLN,qC8,qIn,qKx,qF5,qKa,qm7,hret,h0,ih]
theorem zdo (N:Nat) (v0:List (Val qN)):qd tt qnu (qcK N) (Tryz.f110.body.getD .skip) (qo tt true [i31] [.tmp 2]) (qt [i22] 23 (v0,()))=qxw N v0:=by
 unfold Tryz.f110
 simp (maxSteps:=10000000) -implicitDefEqProofs [qB6,qlV,qH1,qqi,qMv,qoa,qD2,qrY,qId,quS,qMi,qGX,qEI,qLN,qC8,qIn,qKx,qF5,qKa,qm7]
 rewrite [qWE (k0:=(fun (v5:List (Val qa))=>some (v5,()))) N _ ?_ ?_ ?_]
 ·rewrite [qxw];first | rfl | simp (maxSteps:=10000000) -implicitDefEqProofs []
 ·rfl
 ·intro;simp only [qK,qI,qJ,qy]
 ·intro v5;simp (maxSteps:=10000000) -implicitDefEqProofs [qB6,qlV,qH1,qqi,qMv,qoa,qD2,qrY,qId,quS,qMi,qGX,qEI,qLN,qC8,qIn,qKx,qF5,qKa,qm7]
def qvY:G:={ps:=[i22],rs:=[i31],dp:=true,pre:=fun x=>qze x.1,fn:=fun x=>(qPS x.1,())}
theorem q3y (x:List (Val qN)) (h:qze x): ∃N,qxw N x=some (qPS x,()):=⟨List.length x+1,by
 rw [qxw,qe (qi1 h.1),Int.toNat_natCast]
 refine qnM (F:=fun n i s=>qk9 _ x _ n i s) (k:=fun s=>some (s,())) (qc qa) h.1 (fun n i s hi hl=> ?_) (fun n i s hi=> ?_) _ (Nat.lt_succ_self _)
 ·rw [qk9,ql (by omega),qe (by omega),qe (show qx8 _ from by rw [qH hi];exact h.2 _ (List.getElem_mem hi)),qH hi,qe (by omega),qe (by omega)]
  rfl
 ·rw [qk9,qi (by omega)]⟩
theorem qWg:Sound Tryz.prog 110 qvY:=qu (tt:=tt) (Γ:=qnu) hT (qf q5c qq) hm (fn:=Tryz.f110) Tryz.func110 (c:=Tryz.f110.body.getD .skip) (by kernel_rfl) (by kernel_rfl) fun x hx=>by
 obtain ⟨N,h⟩:=q3y x.1 hx
 exact ⟨qcK N,qZZ,qv _,q1b N,(zdo N x.1).trans h⟩
def qzI (x:Val Y24):Val Y33:=x
def qw2 (x:Val Y24):Prop:=Bd Y24 x
noncomputable def m24 (N:Nat) (v0:Val Y24):Option (qb [i33]):=chk (qze (v0.2:List (Val qN))) (some (((v0.1:Int),((qPS (v0.2:List (Val qN))):List (Val qa))),()))
def Γ24:Gam:=[(110,qvY)]
theorem qVJ:Gam.get Γ24 110=some qvY:=rfl
def qvo:Nat→Tree:=fun _=> .done
def qHW:Nat→Nm:=fun _=>⟨[],[],false⟩
def qD9:Nat→Option Jn:=fun _=>none
def qKZ:Nat→Option Nm:=fun _=>none
def qGo:Nat→Option Nm:=fun _=>none
theorem p24:qj qvo (Tryz.f24.body.getD .skip)=true:=by kernel_rfl
def T24 (N:Nat):Tab:={tr:=qvo,lp:=qHW,ex:=qKZ,rg:=qGo,jn:=qD9,fuel:=N}
theorem zcM (N:Nat):(T24 N).pins=false:=rfl
theorem zdC (N:Nat):qn Tryz.prog (T24 N):=qr fun _=>rfl
theorem q3q (N:Nat) (i:Nat):(T24 N).tr i=qvo i:=rfl
theorem zbS (N:Nat) (i:Nat):(T24 N).lp i=qHW i:=rfl
theorem q5x (N:Nat) (i:Nat):(T24 N).ex i=qKZ i:=rfl
theorem zdq (N:Nat) (i:Nat):(T24 N).rg i=qGo i:=rfl
theorem q16 (N:Nat) (i:Nat):(T24 N).jn i=qD9 i:=rfl
theorem q6X (N:Nat):(T24 N).fuel=N:=rfl
theorem q5v (N:Nat) (v0:Val Y24):qd tt Γ24 (T24 N) (Tryz.f24.body.getD .skip) (qo tt true [i33] [.cell 2 33]) (qt [i24] 12 (v0,()))=m24 N v0:=by
 rw [m24];unfold Tryz.f24
 simp (maxSteps:=10000000) -implicitDefEqProofs [q3q,qvo,zbS,qHW,q5x,qKZ,zdq,qGo,q16,qD9,q6X,zcM,qVJ,qvY]
 try rfl
def g24:G:={ps:=[i24],rs:=[i33],dp:=true,pre:=fun x=>qw2 x.1,fn:=fun x=>(qzI x.1,())}
theorem e24 (x:Val Y24) (h:qw2 x): ∃N,m24 N x=some (qzI x,()):=⟨0,by
 obtain ⟨s0,s1⟩:=h
 rw [m24,qe (show qze _ from s1)]
 rfl⟩
theorem s24:Sound Tryz.prog 24 g24:=qu (tt:=tt) (Γ:=Γ24) hT (qf qWg qq) hm (fn:=Tryz.f24) Tryz.func24 (c:=Tryz.f24.body.getD .skip) (by kernel_rfl) (by kernel_rfl) fun x hx=>by
 obtain ⟨N,h⟩:=e24 x.1 hx
 exact ⟨T24 N,p24,qv _,zdC N,(q5v N x.1).trans h⟩
def qMe (x:List (Val Y24)):List (Val Y33):=x
def qxC (x:List (Val Y24)):Prop:=Bd (.slice 24 Y24) x
noncomputable def qlA (N:Nat) (v1:List (Val Y24)) (k0:(List (Val Y33))→Option (qb [i48])):Nat→Int→(List (Val Y33))→Option (qb [i48])
 | 0,_,_=>none
 | n+1,v2,v3=>bif (decide (v2<(v1.length:Int)))then (chk (0≤v2∧v2<(v1.length:Int)) (chk (qw2 (v1.getD v2.toNat (qc Y24))) (chk (0≤v2∧v2<(v3.length:Int)) (chk (v2.toNat<v3.length) (qlA N v1 k0 n (IntKind.i64.wrap (v2+(1:Int))) (v3.set v2.toNat (((qzI (v1.getD v2.toNat (qc Y24))).1:Int),((qzI (v1.getD v2.toNat (qc Y24))).2:List (Val qa)))))))))else (k0 v3)
noncomputable def qw4 (N:Nat) (v0:List (Val Y24)):Option (qb [i48]):=chk (0≤(v0.length:Int)∧(v0.length:Int)≤(v0.length:Int)∧(v0.length:Int)≤1048576) (qlA N v0 (fun (v5:List (Val Y33))=>some (v5,())) N (0:Int) (List.replicate (v0.length:Int).toNat (qc Y33)))
def qml:Gam:=[(24,g24)]
theorem qD0:Gam.get qml 24=some g24:=rfl
def qrn:Nm:=⟨[true,false,false,true,true],[],false⟩
theorem qEU:qrn.zero=false:=rfl
theorem qB8:qrn.fix=[]:=rfl
theorem qNa:qrn.keep=[true,false,false,true,true]:=rfl
def qy1:Nm:=⟨[false,false,false,true],[],false⟩
theorem qBV:qy1.zero=false:=rfl
theorem qIR:qy1.fix=[]:=rfl
theorem qNX:qy1.keep=[false,false,false,true]:=rfl
def qmT:Nat→Tree:=fun _=> .done
def qsv:Nat→Nm:=fun i=>if i=3 then qrn else ⟨[],[],false⟩
def qsr:Nat→Option Jn:=fun _=>none
def qsE:Nat→Option Nm:=fun i=>if i=0 then some qy1 else none
def qr4:Nat→Option Nm:=fun _=>none
theorem q0B:qj qmT (Tryz.f123.body.getD .skip)=true:=by kernel_rfl
def qc0 (N:Nat):Tab:={tr:=qmT,lp:=qsv,ex:=qsE,rg:=qr4,jn:=qsr,fuel:=N}
theorem qNO (N:Nat):(qc0 N).pins=false:=rfl
theorem qXW (N:Nat):qn Tryz.prog (qc0 N):=qr fun _=>rfl
theorem qL8 (N:Nat) (i:Nat):(qc0 N).tr i=qmT i:=rfl
theorem qB7 (N:Nat) (i:Nat):(qc0 N).lp i=qsv i:=rfl
theorem qIe (N:Nat) (i:Nat):(qc0 N).ex i=qsE i:=rfl
theorem qDf (N:Nat) (i:Nat):(qc0 N).rg i=qr4 i:=rfl
theorem qCd (N:Nat) (i:Nat):(qc0 N).jn i=qsr i:=rfl
theorem qBL (N:Nat):(qc0 N).fuel=N:=rfl
noncomputable def qR5:Code:=cut [true,true,false,true,true,true] (Tryz.f123.body.getD .skip)
theorem q76 {N:Nat} {Q:X→St→Option (qb [i48])} {e:List LV} {h:List Blk}:qd tt qml (qc0 N) qR5 Q ⟨e,h⟩=qd tt qml (qc0 N) (cut [true,true,false,true,true,true] (Tryz.f123.body.getD .skip)) Q ⟨e,h⟩:=rfl
theorem qXN (N:Nat) (v1:List (Val Y24)) {k0:(List (Val Y33))→Option (qb [i48])} {Q:X→St→Option (qb [i48])} {c:Code} (hc:c=qR5) (hret: ∀st,Q .ret st=qB tt true [i48] [.tmp 2] st) (h0: ∀(v4:List (Val Y33)),Q (.exit 0) ⟨[u,u,u,.one (.own 0),u,u,u,u,u,u,u,u,u,u,u,u,u,u,u,u,u,u,u],[.row 33 Y33 v4 true true 0]⟩=k0 v4): ∀(n:Nat) (v2:Int) (v3:List (Val Y33)),qC (qd tt qml (qc0 N) c) false qrn Q n ⟨[.one (.sl 24 Y24 v1 1),u,u,.one (.own 0),.one (.int .i64 v2),u,u,u,u,u,u,u,u,u,u,u,u,u,u,u,u,u,u],[.row 33 Y33 v3 true true 0]⟩=qlA N v1 k0 n v2 v3:=by
 subst hc;intro n;induction n with
 | zero=>intros;rfl
 | succ n ih=>
   intro v2 v3
   rw [qL,q76,qlA];unfold Tryz.f123
   simp (maxSteps:=10000000) -implicitDefEqProofs [qL8,qmT,qB7,qsv,qIe,qsE,qDf,qr4,qCd,qsr,qBL,qNO,qB8,qNa,qEU,qIR,qNX,qBV,qD0,g24,hret,h0,ih]
theorem q3V (N:Nat) (v0:List (Val Y24)):qd tt qml (qc0 N) (Tryz.f123.body.getD .skip) (qo tt true [i48] [.tmp 2]) (qt [i40] 23 (v0,()))=qw4 N v0:=by
 unfold Tryz.f123
 simp (maxSteps:=10000000) -implicitDefEqProofs [qL8,qmT,qB7,qsv,qIe,qsE,qDf,qr4,qCd,qsr,qBL,qNO,qB8,qNa,qEU,qIR,qNX,qBV,qD0,g24]
 rewrite [qXN (k0:=(fun (v5:List (Val Y33))=>some (v5,()))) N _ ?_ ?_ ?_]
 ·rewrite [qw4];first | rfl | simp (maxSteps:=10000000) -implicitDefEqProofs []
 ·rfl
 ·intro;simp only [qK,qI,qJ,qy]
 ·intro v5;simp (maxSteps:=10000000) -implicitDefEqProofs [qL8,qmT,qB7,qsv,qIe,qsE,qDf,qr4,qCd,qsr,qBL,qNO,qB8,qNa,qEU,qIR,qNX,qBV,qD0,g24]
def qxM:G:={ps:=[i40],rs:=[i48],dp:=true,pre:=fun x=>qxC x.1,fn:=fun x=>(qMe x.1,())}
theorem qVx (x:List (Val Y24)) (h:qxC x): ∃N,qw4 N x=some (qMe x,()):=⟨List.length x+1,by
 rw [qw4,qe (qi1 h.1),Int.toNat_natCast]
 refine qnM (F:=fun n i s=>qlA _ x _ n i s) (k:=fun s=>some (s,())) (qc Y33) h.1 (fun n i s hi hl=> ?_) (fun n i s hi=> ?_) _ (Nat.lt_succ_self _)
 ·rw [qlA,ql (by omega),qe (by omega),qe (show qw2 _ from by rw [qH hi];exact h.2 _ (List.getElem_mem hi)),qH hi,qe (by omega),qe (by omega)]
  rfl
 ·rw [qlA,qi (by omega)]⟩
theorem q2m:Sound Tryz.prog 123 qxM:=qu (tt:=tt) (Γ:=qml) hT (qf s24 qq) hm (fn:=Tryz.f123) Tryz.func123 (c:=Tryz.f123.body.getD .skip) (by kernel_rfl) (by kernel_rfl) fun x hx=>by
 obtain ⟨N,h⟩:=qVx x.1 hx
 exact ⟨qc0 N,q0B,qv _,qXW N,(q3V N x.1).trans h⟩
def qG (x:Val Y42):Val Y50:=x
def qfG (x:Val Y42):Prop:=Bd Y42 x
noncomputable def m33 (N:Nat) (v0:Val Y42):Option (qb [i50]):=chk (qxC (v0.2:List (Val Y24))) (some (((v0.1:Int),((qMe (v0.2:List (Val Y24))):List (Val Y33))),()))
def Γ33:Gam:=[(123,qxM)]
theorem q13:Gam.get Γ33 123=some qxM:=rfl
def qvc:Nat→Tree:=fun _=> .done
def qBX:Nat→Nm:=fun _=>⟨[],[],false⟩
def qNp:Nat→Option Jn:=fun _=>none
def qDp:Nat→Option Nm:=fun _=>none
def qG0:Nat→Option Nm:=fun _=>none
theorem p33:qj qvc (Tryz.f33.body.getD .skip)=true:=by kernel_rfl
def T33 (N:Nat):Tab:={tr:=qvc,lp:=qBX,ex:=qDp,rg:=qG0,jn:=qNp,fuel:=N}
theorem zae (N:Nat):(T33 N).pins=false:=rfl
theorem q38 (N:Nat):qn Tryz.prog (T33 N):=qr fun _=>rfl
theorem qYr (N:Nat) (i:Nat):(T33 N).tr i=qvc i:=rfl
theorem za9 (N:Nat) (i:Nat):(T33 N).lp i=qBX i:=rfl
theorem zaW (N:Nat) (i:Nat):(T33 N).ex i=qDp i:=rfl
theorem q6g (N:Nat) (i:Nat):(T33 N).rg i=qG0 i:=rfl
theorem q9b (N:Nat) (i:Nat):(T33 N).jn i=qNp i:=rfl
theorem q5e (N:Nat):(T33 N).fuel=N:=rfl
theorem zbE (N:Nat) (v0:Val Y42):qd tt Γ33 (T33 N) (Tryz.f33.body.getD .skip) (qo tt true [i50] [.cell 2 50]) (qt [i42] 12 (v0,()))=m33 N v0:=by
 rw [m33];unfold Tryz.f33
 simp (maxSteps:=10000000) -implicitDefEqProofs [qYr,qvc,za9,qBX,zaW,qDp,q6g,qG0,q9b,qNp,q5e,zae,q13,qxM]
 try rfl
def g33:G:={ps:=[i42],rs:=[i50],dp:=true,pre:=fun x=>qfG x.1,fn:=fun x=>(qG x.1,())}
theorem e33 (x:Val Y42) (h:qfG x): ∃N,m33 N x=some (qG x,()):=⟨0,by
 obtain ⟨s0,s1⟩:=h
 rw [m33,qe (show qxC _ from s1)]
 rfl⟩
theorem s33:Sound Tryz.prog 33 g33:=qu (tt:=tt) (Γ:=Γ33) hT (qf q2m qq) hm (fn:=Tryz.f33) Tryz.func33 (c:=Tryz.f33.body.getD .skip) (by kernel_rfl) (by kernel_rfl) fun x hx=>by
 obtain ⟨N,h⟩:=e33 x.1 hx
 exact ⟨T33 N,p33,qv _,q38 N,(zbE N x.1).trans h⟩
def qp3 (x y:List (Val (.int .i64))):Bool:=eqV (.slice 3 (.int .i64)) x y
def qzJ (x _:List (Val (.int .i64))):Prop:=Bd (.slice 3 (.int .i64)) x
noncomputable def qlg (N:Nat) (v2:List (Val (.int .i64))) (v3:List (Val (.int .i64))) (k0:Unit→Option (qb [i4])):Nat→Int→Option (qb [i4])
 | 0,_=>none
 | n+1,v4=>bif (decide (v4<(v2.length:Int)))then (chk (0≤v4∧v4<(v2.length:Int)) (chk (0≤v4∧v4<(v3.length:Int)) (bif (!(decide (((v2.getD v4.toNat (qc (.int .i64))):Int)=((v3.getD v4.toNat (qc (.int .i64))):Int))))then (some (false,()))else (qlg N v2 v3 k0 n (IntKind.i64.wrap (v4+(1:Int)))))))else (k0 ())
noncomputable def m29 (N:Nat) (v0:List (Val (.int .i64))) (v1:List (Val (.int .i64))):Option (qb [i4]):=bif (!(decide ((v0.length:Int)=(v1.length:Int))))then (some (false,()))else (qlg N v0 v1 (fun (_:Unit)=>some (true,())) N (0:Int))
def Γ29:Gam:=[]
def qq5:Nm:=⟨[true,true,false,false,false,true],[],false⟩
theorem qFc:qq5.zero=false:=rfl
theorem qMO:qq5.fix=[]:=rfl
theorem qN6:qq5.keep=[true,true,false,false,false,true]:=rfl
def qyn:Nm:=⟨[],[],false⟩
theorem qPj:qyn.zero=false:=rfl
theorem qK8:qyn.fix=[]:=rfl
theorem qF2:qyn.keep=[]:=rfl
def qm9:Nat→Tree:=fun i=>if i=6 then .quiet 0 (.quiet 1 (.quiet 2 (.quiet 3 (.quiet 4 (.quiet 5 (.quiet 6 (.quiet 7 (.quiet 8 .done))))))))else .done
def qn5:Nat→Nm:=fun i=>if i=4 then qq5 else ⟨[],[],false⟩
def qp2:Nat→Option Jn:=fun _=>none
def qtK:Nat→Option Nm:=fun i=>if i=0 then some qyn else none
def qr2:Nat→Option Nm:=fun _=>none
theorem p29:qj qm9 (Tryz.f29.body.getD .skip)=true:=by kernel_rfl
def T29 (N:Nat):Tab:={tr:=qm9,lp:=qn5,ex:=qtK,rg:=qr2,jn:=qp2,fuel:=N}
theorem qCG (N:Nat):(T29 N).pins=false:=rfl
theorem qVk (N:Nat):qn Tryz.prog (T29 N):=qr fun _=>rfl
theorem qPg (N:Nat) (i:Nat):(T29 N).tr i=qm9 i:=rfl
theorem qJV (N:Nat) (i:Nat):(T29 N).lp i=qn5 i:=rfl
theorem qHQ (N:Nat) (i:Nat):(T29 N).ex i=qtK i:=rfl
theorem qJQ (N:Nat) (i:Nat):(T29 N).rg i=qr2 i:=rfl
theorem qIX (N:Nat) (i:Nat):(T29 N).jn i=qp2 i:=rfl
theorem qPQ (N:Nat):(T29 N).fuel=N:=rfl
noncomputable def qQT:Code:=cut [true,true,false,true,true,true] (Tryz.f29.body.getD .skip)
theorem qZt {N:Nat} {Q:X→St→Option (qb [i4])} {e:List LV} {h:List Blk}:qd tt Γ29 (T29 N) qQT Q ⟨e,h⟩=qd tt Γ29 (T29 N) (cut [true,true,false,true,true,true] (Tryz.f29.body.getD .skip)) Q ⟨e,h⟩:=rfl
theorem q5X (N:Nat) (v2:List (Val (.int .i64))) (v3:List (Val (.int .i64))) {k0:Unit→Option (qb [i4])} {Q:X→St→Option (qb [i4])} {c:Code} (hc:c=qQT) (hret: ∀st,Q .ret st=qB tt true [i4] [.tmp 4] st) (h0:Q (.exit 0) ⟨[u,u,u,u,u,u,u,u,u,u,u,u,u,u,u,u,u,u,u,u,u,u,u,u,u,u],[]⟩=k0 ()): ∀(n:Nat) (v4:Int),qC (qd tt Γ29 (T29 N) c) false qq5 Q n ⟨[.one (.sl 3 (.int .i64) v2 0),.one (.sl 3 (.int .i64) v3 0),u,u,u,.one (.int .i64 v4),u,u,u,u,u,u,u,u,u,u,u,u,u,u,u,u,u,u,u,u],[]⟩=qlg N v2 v3 k0 n v4:=by
 subst hc;intro n;induction n with
 | zero=>intros;rfl
 | succ n ih=>
   intro v4
   rw [qL,qZt,qlg];unfold Tryz.f29
   simp (maxSteps:=10000000) -implicitDefEqProofs [qPg,qm9,qJV,qn5,qHQ,qtK,qJQ,qr2,qIX,qp2,qPQ,qCG,qMO,qN6,qFc,qK8,qF2,qPj,hret,h0,ih]
theorem zdd (N:Nat) (v0:List (Val (.int .i64))) (v1:List (Val (.int .i64))):qd tt Γ29 (T29 N) (Tryz.f29.body.getD .skip) (qo tt true [i4] [.tmp 4]) (qt [i25,i25] 26 (v0,v1,()))=m29 N v0 v1:=by
 unfold Tryz.f29
 simp (maxSteps:=10000000) -implicitDefEqProofs [qPg,qm9,qJV,qn5,qHQ,qtK,qJQ,qr2,qIX,qp2,qPQ,qCG,qMO,qN6,qFc,qK8,qF2,qPj]
 rewrite [q5X (k0:=(fun (_:Unit)=>some (true,()))) N _ _ ?_ ?_ ?_]
 ·rewrite [m29];first | rfl | simp (maxSteps:=10000000) -implicitDefEqProofs []
 ·rfl
 ·intro;simp only [qK,qI,qJ,qy]
 ·simp (maxSteps:=10000000) -implicitDefEqProofs [qPg,qm9,qJV,qn5,qHQ,qtK,qJQ,qr2,qIX,qp2,qPQ,qCG,qMO,qN6,qFc,qK8,qF2,qPj]
def g29:G:={ps:=[i25,i25],rs:=[i4],dp:=true,pre:=fun x=>qzJ x.1 x.2.1,fn:=fun x=>(qp3 x.1 x.2.1,())}
theorem e29 (x y:List (Val (.int .i64))) (h:qzJ x y): ∃N,m29 N x y=some (qp3 x y,()):=⟨List.length x+1,by
 rw [m29,qaO]
 rw [qp3,eqS]
 by_cases c:List.length x=List.length y
 ·rw [ql (by omega)]
  refine (qHL (f:=eqV (.int .i64)) (xs:=x) (ys:=y) (F:=fun n i=>qlg _ x y _ n i) (k:=fun _=>some (true,())) (r:=some (false,())) h.1 c (fun n i hi hi2=> ?_) (fun n i hi=> ?_) _ (Nat.lt_succ_self _)).trans qDj
  ·rw [qlg,ql (by omega),qe (by omega),qe (by omega),qH hi,qH hi2,qaO]
   rfl
  ·rw [qlg,qi (by omega)]
 ·rw [qi (by omega),qzz _ _ c]⟩
theorem s29:Sound Tryz.prog 29 g29:=qu (tt:=tt) (Γ:=Γ29) hT qq hm (fn:=Tryz.f29) Tryz.func29 (c:=Tryz.f29.body.getD .skip) (by kernel_rfl) (by kernel_rfl) fun x hx=>by
 obtain ⟨N,h⟩:=e29 x.1 x.2.1 hx
 exact ⟨T29 N,p29,qv _,qVk N,(zdd N x.1 x.2.1).trans h⟩
def qOK (x y:Val qa):Bool:=eqV qa x y
def qxt (x _:Val qa):Prop:=Bd qa x
noncomputable def qBc (N:Nat) (v0:Val qa) (v1:Val qa):Option (qb [i4]):=chk (qzJ (v0.1:List (Val (.int .i64))) (v1.1:List (Val (.int .i64)))) (bif (!((qp3 (v0.1:List (Val (.int .i64))) (v1.1:List (Val (.int .i64)))):Bool))then (some (false,()))else (bif (!(decide ((v0.2.1:Int)=(v1.2.1:Int))))then (some (false,()))else (bif (!((v0.2.2:Bool)==(v1.2.2:Bool)))then (some (false,()))else (some (true,())))))
def qFb:Gam:=[(29,g29)]
theorem zdH:Gam.get qFb 29=some g29:=rfl
def qAz:Nat→Tree:=fun _=> .done
def qL1:Nat→Nm:=fun _=>⟨[],[],false⟩
def qGd:Nat→Option Jn:=fun _=>none
def qME:Nat→Option Nm:=fun _=>none
def qNL:Nat→Option Nm:=fun _=>none
theorem q0C:qj qAz (Tryz.f183.body.getD .skip)=true:=by kernel_rfl
def qf4 (N:Nat):Tab:={tr:=qAz,lp:=qL1,ex:=qME,rg:=qNL,jn:=qGd,fuel:=N}
theorem q5m (N:Nat):(qf4 N).pins=false:=rfl
theorem zdB (N:Nat):qn Tryz.prog (qf4 N):=qr fun _=>rfl
theorem qYt (N:Nat) (i:Nat):(qf4 N).tr i=qAz i:=rfl
theorem q4C (N:Nat) (i:Nat):(qf4 N).lp i=qL1 i:=rfl
theorem qYl (N:Nat) (i:Nat):(qf4 N).ex i=qME i:=rfl
theorem q5N (N:Nat) (i:Nat):(qf4 N).rg i=qNL i:=rfl
theorem zdu (N:Nat) (i:Nat):(qf4 N).jn i=qGd i:=rfl
theorem q8D (N:Nat):(qf4 N).fuel=N:=rfl
theorem zca (N:Nat) (v0:Val qa) (v1:Val qa):qd tt qFb (qf4 N) (Tryz.f183.body.getD .skip) (qo tt true [i4] [.tmp 4]) (qt [qg,qg] 21 (v0,v1,()))=qBc N v0 v1:=by
 rw [qBc];unfold Tryz.f183
 simp (maxSteps:=10000000) -implicitDefEqProofs [qYt,qAz,q4C,qL1,qYl,qME,q5N,qNL,zdu,qGd,q8D,q5m,zdH,g29]
 try rfl
def qmt:G:={ps:=[qg,qg],rs:=[i4],dp:=true,pre:=fun x=>qxt x.1 x.2.1,fn:=fun x=>(qOK x.1 x.2.1,())}
theorem q8t (x y:Val qa) (h:qxt x y): ∃N,qBc N x y=some (qOK x y,()):=⟨0,by
 obtain ⟨s0,s1,s2⟩:=h
 rw [qBc,qe (show qzJ _ _ from s0)]
 obtain ⟨x0,x1,x2⟩:=x
 obtain ⟨y0,y1,y2⟩:=y
 change _=some ((eqV (.slice 3 (.int .i64)) x0 y0&&(eqV (.int .i64) x1 y1&&eqV .bool x2 y2)),())
 simp only [qaO]
 show _=_
 generalize he0:eqV (.slice 3 (.int .i64)) x0 y0=e0
 have hd0:qp3 x0 y0=e0:=he0
 generalize he1:eqV (.int .i64) x1 y1=e1
 have hd1:decide ((x1:Int)=y1)=e1:=he1
 generalize he2:eqV .bool x2 y2=e2
 have hd2:((x2:Bool)==y2)=e2:=he2
 simp only [hd0,hd1,hd2]
 cases e0<;>cases e1<;>cases e2<;>rfl⟩
theorem zb5:Sound Tryz.prog 183 qmt:=qu (tt:=tt) (Γ:=qFb) hT (qf s29 qq) hm (fn:=Tryz.f183) Tryz.func183 (c:=Tryz.f183.body.getD .skip) (by kernel_rfl) (by kernel_rfl) fun x hx=>by
 obtain ⟨N,h⟩:=q8t x.1 x.2.1 hx
 exact ⟨qf4 N,q0C,qv _,zdB N,(zca N x.1 x.2.1).trans h⟩
def qq6 (x y:List (Val qa)):Bool:=eqV (.slice 108 qa) x y
def qzq (x _:List (Val qa)):Prop:=Bd (.slice 108 qa) x
noncomputable def qiT (N:Nat) (v2:List (Val qa)) (v3:List (Val qa)) (k0:Unit→Option (qb [i4])):Nat→Int→Option (qb [i4])
 | 0,_=>none
 | n+1,v4=>bif (decide (v4<(v2.length:Int)))then (chk (0≤v4∧v4<(v2.length:Int)) (chk (0≤v4∧v4<(v3.length:Int)) (chk (qxt (v2.getD v4.toNat (qc qa)) (v3.getD v4.toNat (qc qa))) (bif (!((qOK (v2.getD v4.toNat (qc qa)) (v3.getD v4.toNat (qc qa))):Bool))then (some (false,()))else (qiT N v2 v3 k0 n (IntKind.i64.wrap (v4+(1:Int))))))))else (k0 ())
noncomputable def qyF (N:Nat) (v0:List (Val qa)) (v1:List (Val qa)):Option (qb [i4]):=bif (!(decide ((v0.length:Int)=(v1.length:Int))))then (some (false,()))else (qiT N v0 v1 (fun (_:Unit)=>some (true,())) N (0:Int))
def qmW:Gam:=[(183,qmt)]
theorem qCE:Gam.get qmW 183=some qmt:=rfl
def qp5:Nm:=⟨[true,true,false,false,false,true],[],false⟩
theorem qO6:qp5.zero=false:=rfl
theorem qDt:qp5.fix=[]:=rfl
theorem qHi:qp5.keep=[true,true,false,false,false,true]:=rfl
def qwZ:Nm:=⟨[],[],false⟩
theorem qDZ:qwZ.zero=false:=rfl
theorem qNh:qwZ.fix=[]:=rfl
theorem qGI:qwZ.keep=[]:=rfl
def qnn:Nat→Tree:=fun i=>if i=6 then .quiet 0 (.quiet 1 (.quiet 2 (.quiet 3 (.quiet 4 (.quiet 5 (.quiet 6 (.quiet 7 (.alt 8 (.quiet 9 .done) .stop))))))))else .done
def qsm:Nat→Nm:=fun i=>if i=4 then qp5 else ⟨[],[],false⟩
def qs2:Nat→Option Jn:=fun _=>none
def qsH:Nat→Option Nm:=fun i=>if i=0 then some qwZ else none
def qqf:Nat→Option Nm:=fun _=>none
theorem qXd:qj qnn (Tryz.f115.body.getD .skip)=true:=by kernel_rfl
def qd3 (N:Nat):Tab:={tr:=qnn,lp:=qsm,ex:=qsH,rg:=qqf,jn:=qs2,fuel:=N}
theorem qLG (N:Nat):(qd3 N).pins=false:=rfl
theorem q9l (N:Nat):qn Tryz.prog (qd3 N):=qr fun _=>rfl
theorem qPy (N:Nat) (i:Nat):(qd3 N).tr i=qnn i:=rfl
theorem qFs (N:Nat) (i:Nat):(qd3 N).lp i=qsm i:=rfl
theorem qII (N:Nat) (i:Nat):(qd3 N).ex i=qsH i:=rfl
theorem qJZ (N:Nat) (i:Nat):(qd3 N).rg i=qqf i:=rfl
theorem qJK (N:Nat) (i:Nat):(qd3 N).jn i=qs2 i:=rfl
theorem qCN (N:Nat):(qd3 N).fuel=N:=rfl
noncomputable def qSU:Code:=cut [true,true,false,true,true,true] (Tryz.f115.body.getD .skip)
theorem qW4 {N:Nat} {Q:X→St→Option (qb [i4])} {e:List LV} {h:List Blk}:qd tt qmW (qd3 N) qSU Q ⟨e,h⟩=qd tt qmW (qd3 N) (cut [true,true,false,true,true,true] (Tryz.f115.body.getD .skip)) Q ⟨e,h⟩:=rfl
theorem qWN (N:Nat) (v2:List (Val qa)) (v3:List (Val qa)) {k0:Unit→Option (qb [i4])} {Q:X→St→Option (qb [i4])} {c:Code} (hc:c=qSU) (hret: ∀st,Q .ret st=qB tt true [i4] [.tmp 4] st) (h0:Q (.exit 0) ⟨[u,u,u,u,u,u,u,u,u,u,u,u,u,u,u,u,u,u,u,u,u,u,u,u,u,u,u],[]⟩=k0 ()): ∀(n:Nat) (v4:Int),qC (qd tt qmW (qd3 N) c) false qp5 Q n ⟨[.one (.sl 108 qa v2 0),.one (.sl 108 qa v3 0),u,u,u,.one (.int .i64 v4),u,u,u,u,u,u,u,u,u,u,u,u,u,u,u,u,u,u,u,u,u],[]⟩=qiT N v2 v3 k0 n v4:=by
 subst hc;intro n;induction n with
 | zero=>intros;rfl
 | succ n ih=>
   intro v4
   rw [qL,qW4,qiT];unfold Tryz.f115
   simp (maxSteps:=10000000) -implicitDefEqProofs [qPy,qnn,qFs,qsm,qII,qsH,qJZ,qqf,qJK,qs2,qCN,qLG,qDt,qHi,qO6,qNh,qGI,qDZ,qCE,qmt,hret,h0,ih]
theorem q3Z (N:Nat) (v0:List (Val qa)) (v1:List (Val qa)):qd tt qmW (qd3 N) (Tryz.f115.body.getD .skip) (qo tt true [i4] [.tmp 4]) (qt [i31,i31] 27 (v0,v1,()))=qyF N v0 v1:=by
 unfold Tryz.f115
 simp (maxSteps:=10000000) -implicitDefEqProofs [qPy,qnn,qFs,qsm,qII,qsH,qJZ,qqf,qJK,qs2,qCN,qLG,qDt,qHi,qO6,qNh,qGI,qDZ,qCE,qmt]
 rewrite [qWN (k0:=(fun (_:Unit)=>some (true,()))) N _ _ ?_ ?_ ?_]
 ·rewrite [qyF];first | rfl | simp (maxSteps:=10000000) -implicitDefEqProofs []
 ·rfl
 ·intro;simp only [qK,qI,qJ,qy]
 ·simp (maxSteps:=10000000) -implicitDefEqProofs [qPy,qnn,qFs,qsm,qII,qsH,qJZ,qqf,qJK,qs2,qCN,qLG,qDt,qHi,qO6,qNh,qGI,qDZ,qCE,qmt]
def qv5:G:={ps:=[i31,i31],rs:=[i4],dp:=true,pre:=fun x=>qzq x.1 x.2.1,fn:=fun x=>(qq6 x.1 x.2.1,())}
theorem q6j (x y:List (Val qa)) (h:qzq x y): ∃N,qyF N x y=some (qq6 x y,()):=⟨List.length x+1,by
 rw [qyF,qaO]
 rw [qq6,eqS]
 by_cases c:List.length x=List.length y
 ·rw [ql (by omega)]
  refine (qHL (f:=eqV qa) (xs:=x) (ys:=y) (F:=fun n i=>qiT _ x y _ n i) (k:=fun _=>some (true,())) (r:=some (false,())) h.1 c (fun n i hi hi2=> ?_) (fun n i hi=> ?_) _ (Nat.lt_succ_self _)).trans qDj
  ·rw [qiT,ql (by omega),qe (by omega),qe (by omega),qe (show qxt _ _ from by rw [qH hi];exact h.2 _ (List.getElem_mem hi)),qH hi,qH hi2,qaO]
   rfl
  ·rw [qiT,qi (by omega)]
 ·rw [qi (by omega),qzz _ _ c]⟩
theorem zch:Sound Tryz.prog 115 qv5:=qu (tt:=tt) (Γ:=qmW) hT (qf zb5 qq) hm (fn:=Tryz.f115) Tryz.func115 (c:=Tryz.f115.body.getD .skip) (by kernel_rfl) (by kernel_rfl) fun x hx=>by
 obtain ⟨N,h⟩:=q6j x.1 x.2.1 hx
 exact ⟨qd3 N,qXd,qv _,q9l N,(q3Z N x.1 x.2.1).trans h⟩
def qBG (x y:Val Y33):Bool:=eqV Y33 x y
def qzu (x _:Val Y33):Prop:=Bd Y33 x
noncomputable def m28 (N:Nat) (v0:Val Y33) (v1:Val Y33):Option (qb [i4]):=bif (!(decide ((v0.1:Int)=(v1.1:Int))))then (some (false,()))else (chk (qzq (v0.2:List (Val qa)) (v1.2:List (Val qa))) (bif (!((qq6 (v0.2:List (Val qa)) (v1.2:List (Val qa))):Bool))then (some (false,()))else (some (true,()))))
def Γ28:Gam:=[(115,qv5)]
theorem q1J:Gam.get Γ28 115=some qv5:=rfl
def qx9:Nat→Tree:=fun _=> .done
def qN3:Nat→Nm:=fun _=>⟨[],[],false⟩
def qOT:Nat→Option Jn:=fun _=>none
def qBK:Nat→Option Nm:=fun _=>none
def qO3:Nat→Option Nm:=fun _=>none
theorem p28:qj qx9 (Tryz.f28.body.getD .skip)=true:=by kernel_rfl
def T28 (N:Nat):Tab:={tr:=qx9,lp:=qN3,ex:=qBK,rg:=qO3,jn:=qOT,fuel:=N}
theorem q0a (N:Nat):(T28 N).pins=false:=rfl
theorem qZn (N:Nat):qn Tryz.prog (T28 N):=qr fun _=>rfl
theorem qWX (N:Nat) (i:Nat):(T28 N).tr i=qx9 i:=rfl
theorem qZO (N:Nat) (i:Nat):(T28 N).lp i=qN3 i:=rfl
theorem zbi (N:Nat) (i:Nat):(T28 N).ex i=qBK i:=rfl
theorem zaG (N:Nat) (i:Nat):(T28 N).rg i=qO3 i:=rfl
theorem q5q (N:Nat) (i:Nat):(T28 N).jn i=qOT i:=rfl
theorem q7f (N:Nat):(T28 N).fuel=N:=rfl
theorem q7p (N:Nat) (v0:Val Y33) (v1:Val Y33):qd tt Γ28 (T28 N) (Tryz.f28.body.getD .skip) (qo tt true [i4] [.tmp 4]) (qt [i33,i33] 16 (v0,v1,()))=m28 N v0 v1:=by
 rw [m28];unfold Tryz.f28
 simp (maxSteps:=10000000) -implicitDefEqProofs [qWX,qx9,qZO,qN3,zbi,qBK,zaG,qO3,q5q,qOT,q7f,q0a,q1J,qv5]
 try rfl
def g28:G:={ps:=[i33,i33],rs:=[i4],dp:=true,pre:=fun x=>qzu x.1 x.2.1,fn:=fun x=>(qBG x.1 x.2.1,())}
theorem e28 (x y:Val Y33) (h:qzu x y): ∃N,m28 N x y=some (qBG x y,()):=⟨0,by
 obtain ⟨s0,s1⟩:=h
 rw [m28,qe (show qzq _ _ from s1)]
 obtain ⟨x0,x1⟩:=x
 obtain ⟨y0,y1⟩:=y
 change _=some ((eqV (.int .i64) x0 y0&&eqV (.slice 108 qa) x1 y1),())
 simp only [qaO]
 show _=_
 generalize he0:eqV (.int .i64) x0 y0=e0
 have hd0:decide ((x0:Int)=y0)=e0:=he0
 generalize he1:eqV (.slice 108 qa) x1 y1=e1
 have hd1:qq6 x1 y1=e1:=he1
 simp only [hd0,hd1]
 cases e0<;>cases e1<;>rfl⟩
theorem s28:Sound Tryz.prog 28 g28:=qu (tt:=tt) (Γ:=Γ28) hT (qf zch qq) hm (fn:=Tryz.f28) Tryz.func28 (c:=Tryz.f28.body.getD .skip) (by kernel_rfl) (by kernel_rfl) fun x hx=>by
 obtain ⟨N,h⟩:=e28 x.1 x.2.1 hx
 exact ⟨T28 N,p28,qv _,qZn N,(q7p N x.1 x.2.1).trans h⟩
def qpD (x y:List (Val Y33)):Bool:=eqV (.slice 33 Y33) x y
def qw5 (x _:List (Val Y33)):Prop:=Bd (.slice 33 Y33) x
noncomputable def qjB (N:Nat) (v2:List (Val Y33)) (v3:List (Val Y33)) (k0:Unit→Option (qb [i4])):Nat→Int→Option (qb [i4])
 | 0,_=>none
 | n+1,v4=>bif (decide (v4<(v2.length:Int)))then (chk (0≤v4∧v4<(v2.length:Int)) (chk (0≤v4∧v4<(v3.length:Int)) (chk (qzu (v2.getD v4.toNat (qc Y33)) (v3.getD v4.toNat (qc Y33))) (bif (!((qBG (v2.getD v4.toNat (qc Y33)) (v3.getD v4.toNat (qc Y33))):Bool))then (some (false,()))else (qjB N v2 v3 k0 n (IntKind.i64.wrap (v4+(1:Int))))))))else (k0 ())
noncomputable def qA1 (N:Nat) (v0:List (Val Y33)) (v1:List (Val Y33)):Option (qb [i4]):=bif (!(decide ((v0.length:Int)=(v1.length:Int))))then (some (false,()))else (qjB N v0 v1 (fun (_:Unit)=>some (true,())) N (0:Int))
def ql7:Gam:=[(28,g28)]
theorem qH9:Gam.get ql7 28=some g28:=rfl
def qn9:Nm:=⟨[true,true,false,false,false,true],[],false⟩
theorem qKA:qn9.zero=false:=rfl
theorem qOo:qn9.fix=[]:=rfl
theorem qKF:qn9.keep=[true,true,false,false,false,true]:=rfl
def qzO:Nm:=⟨[],[],false⟩
theorem qGy:qzO.zero=false:=rfl
theorem qN9:qzO.fix=[]:=rfl
theorem qIo:qzO.keep=[]:=rfl
def qnI:Nat→Tree:=fun i=>if i=6 then .quiet 0 (.quiet 1 (.quiet 2 (.quiet 3 (.quiet 4 (.quiet 5 (.quiet 6 (.quiet 7 (.alt 8 (.quiet 9 .done) .stop))))))))else .done
def quc:Nat→Nm:=fun i=>if i=4 then qn9 else ⟨[],[],false⟩
def qqs:Nat→Option Jn:=fun _=>none
def qty:Nat→Option Nm:=fun i=>if i=0 then some qzO else none
def qt9:Nat→Option Nm:=fun _=>none
theorem q4x:qj qnI (Tryz.f128.body.getD .skip)=true:=by kernel_rfl
def qcy (N:Nat):Tab:={tr:=qnI,lp:=quc,ex:=qty,rg:=qt9,jn:=qqs,fuel:=N}
theorem qMA (N:Nat):(qcy N).pins=false:=rfl
theorem za2 (N:Nat):qn Tryz.prog (qcy N):=qr fun _=>rfl
theorem qEn (N:Nat) (i:Nat):(qcy N).tr i=qnI i:=rfl
theorem qGq (N:Nat) (i:Nat):(qcy N).lp i=quc i:=rfl
theorem qOS (N:Nat) (i:Nat):(qcy N).ex i=qty i:=rfl
theorem qNK (N:Nat) (i:Nat):(qcy N).rg i=qt9 i:=rfl
theorem qGC (N:Nat) (i:Nat):(qcy N).jn i=qqs i:=rfl
theorem qFB (N:Nat):(qcy N).fuel=N:=rfl
noncomputable def qSx:Code:=cut [true,true,false,true,true,true] (Tryz.f128.body.getD .skip)
theorem qZd {N:Nat} {Q:X→St→Option (qb [i4])} {e:List LV} {h:List Blk}:qd tt ql7 (qcy N) qSx Q ⟨e,h⟩=qd tt ql7 (qcy N) (cut [true,true,false,true,true,true] (Tryz.f128.body.getD .skip)) Q ⟨e,h⟩:=rfl
theorem q6t (N:Nat) (v2:List (Val Y33)) (v3:List (Val Y33)) {k0:Unit→Option (qb [i4])} {Q:X→St→Option (qb [i4])} {c:Code} (hc:c=qSx) (hret: ∀st,Q .ret st=qB tt true [i4] [.tmp 4] st) (h0:Q (.exit 0) ⟨[u,u,u,u,u,u,u,u,u,u,u,u,u,u,u,u,u,u,u,u,u,u,u,u,u,u,u],[]⟩=k0 ()): ∀(n:Nat) (v4:Int),qC (qd tt ql7 (qcy N) c) false qn9 Q n ⟨[.one (.sl 33 Y33 v2 0),.one (.sl 33 Y33 v3 0),u,u,u,.one (.int .i64 v4),u,u,u,u,u,u,u,u,u,u,u,u,u,u,u,u,u,u,u,u,u],[]⟩=qjB N v2 v3 k0 n v4:=by
 subst hc;intro n;induction n with
 | zero=>intros;rfl
 | succ n ih=>
   intro v4
   rw [qL,qZd,qjB];unfold Tryz.f128
   simp (maxSteps:=10000000) -implicitDefEqProofs [qEn,qnI,qGq,quc,qOS,qty,qNK,qt9,qGC,qqs,qFB,qMA,qOo,qKF,qKA,qN9,qIo,qGy,qH9,g28,hret,h0,ih]
theorem zc1 (N:Nat) (v0:List (Val Y33)) (v1:List (Val Y33)):qd tt ql7 (qcy N) (Tryz.f128.body.getD .skip) (qo tt true [i4] [.tmp 4]) (qt [i48,i48] 27 (v0,v1,()))=qA1 N v0 v1:=by
 unfold Tryz.f128
 simp (maxSteps:=10000000) -implicitDefEqProofs [qEn,qnI,qGq,quc,qOS,qty,qNK,qt9,qGC,qqs,qFB,qMA,qOo,qKF,qKA,qN9,qIo,qGy,qH9,g28]
 rewrite [q6t (k0:=(fun (_:Unit)=>some (true,()))) N _ _ ?_ ?_ ?_]
 ·rewrite [qA1];first | rfl | simp (maxSteps:=10000000) -implicitDefEqProofs []
 ·rfl
 ·intro;simp only [qK,qI,qJ,qy]
 ·simp (maxSteps:=10000000) -implicitDefEqProofs [qEn,qnI,qGq,quc,qOS,qty,qNK,qt9,qGC,qqs,qFB,qMA,qOo,qKF,qKA,qN9,qIo,qGy,qH9,g28]
def qwB:G:={ps:=[i48,i48],rs:=[i4],dp:=true,pre:=fun x=>qw5 x.1 x.2.1,fn:=fun x=>(qpD x.1 x.2.1,())}
theorem q4h (x y:List (Val Y33)) (h:qw5 x y): ∃N,qA1 N x y=some (qpD x y,()):=⟨List.length x+1,by
 rw [qA1,qaO]
 rw [qpD,eqS]
 by_cases c:List.length x=List.length y
 ·rw [ql (by omega)]
  refine (qHL (f:=eqV Y33) (xs:=x) (ys:=y) (F:=fun n i=>qjB _ x y _ n i) (k:=fun _=>some (true,())) (r:=some (false,())) h.1 c (fun n i hi hi2=> ?_) (fun n i hi=> ?_) _ (Nat.lt_succ_self _)).trans qDj
  ·rw [qjB,ql (by omega),qe (by omega),qe (by omega),qe (show qzu _ _ from by rw [qH hi];exact h.2 _ (List.getElem_mem hi)),qH hi,qH hi2,qaO]
   rfl
  ·rw [qjB,qi (by omega)]
 ·rw [qi (by omega),qzz _ _ c]⟩
theorem zdN:Sound Tryz.prog 128 qwB:=qu (tt:=tt) (Γ:=ql7) hT (qf s28 qq) hm (fn:=Tryz.f128) Tryz.func128 (c:=Tryz.f128.body.getD .skip) (by kernel_rfl) (by kernel_rfl) fun x hx=>by
 obtain ⟨N,h⟩:=q4h x.1 x.2.1 hx
 exact ⟨qcy N,q4x,qv _,za2 N,(zc1 N x.1 x.2.1).trans h⟩
def qbK (x y:Val Y50):Bool:=eqV Y50 x y
def qbE (x _:Val Y50):Prop:=Bd Y50 x
noncomputable def m36 (N:Nat) (v0:Val Y50) (v1:Val Y50):Option (qb [i4]):=bif (!(decide ((v0.1:Int)=(v1.1:Int))))then (some (false,()))else (chk (qw5 (v0.2:List (Val Y33)) (v1.2:List (Val Y33))) (bif (!((qpD (v0.2:List (Val Y33)) (v1.2:List (Val Y33))):Bool))then (some (false,()))else (some (true,()))))
def Γ36:Gam:=[(128,qwB)]
theorem qVq:Gam.get Γ36 128=some qwB:=rfl
def qvh:Nat→Tree:=fun _=> .done
def qFQ:Nat→Nm:=fun _=>⟨[],[],false⟩
def qGu:Nat→Option Jn:=fun _=>none
def qEC:Nat→Option Nm:=fun _=>none
def qHo:Nat→Option Nm:=fun _=>none
theorem p36:qj qvh (Tryz.f36.body.getD .skip)=true:=by kernel_rfl
def T36 (N:Nat):Tab:={tr:=qvh,lp:=qFQ,ex:=qEC,rg:=qHo,jn:=qGu,fuel:=N}
theorem q4v (N:Nat):(T36 N).pins=false:=rfl
theorem q3K (N:Nat):qn Tryz.prog (T36 N):=qr fun _=>rfl
theorem q7H (N:Nat) (i:Nat):(T36 N).tr i=qvh i:=rfl
theorem q8w (N:Nat) (i:Nat):(T36 N).lp i=qFQ i:=rfl
theorem qWF (N:Nat) (i:Nat):(T36 N).ex i=qEC i:=rfl
theorem zdm (N:Nat) (i:Nat):(T36 N).rg i=qHo i:=rfl
theorem q1W (N:Nat) (i:Nat):(T36 N).jn i=qGu i:=rfl
theorem q8N (N:Nat):(T36 N).fuel=N:=rfl
theorem zcW (N:Nat) (v0:Val Y50) (v1:Val Y50):qd tt Γ36 (T36 N) (Tryz.f36.body.getD .skip) (qo tt true [i4] [.tmp 4]) (qt [i50,i50] 16 (v0,v1,()))=m36 N v0 v1:=by
 rw [m36];unfold Tryz.f36
 simp (maxSteps:=10000000) -implicitDefEqProofs [q7H,qvh,q8w,qFQ,qWF,qEC,zdm,qHo,q1W,qGu,q8N,q4v,qVq,qwB]
 try rfl
def g36:G:={ps:=[i50,i50],rs:=[i4],dp:=true,pre:=fun x=>qbE x.1 x.2.1,fn:=fun x=>(qbK x.1 x.2.1,())}
theorem e36 (x y:Val Y50) (h:qbE x y): ∃N,m36 N x y=some (qbK x y,()):=⟨0,by
 obtain ⟨s0,s1⟩:=h
 rw [m36,qe (show qw5 _ _ from s1)]
 obtain ⟨x0,x1⟩:=x
 obtain ⟨y0,y1⟩:=y
 change _=some ((eqV (.int .i64) x0 y0&&eqV (.slice 33 Y33) x1 y1),())
 simp only [qaO]
 show _=_
 generalize he0:eqV (.int .i64) x0 y0=e0
 have hd0:decide ((x0:Int)=y0)=e0:=he0
 generalize he1:eqV (.slice 33 Y33) x1 y1=e1
 have hd1:qpD x1 y1=e1:=he1
 simp only [hd0,hd1]
 cases e0<;>cases e1<;>rfl⟩
theorem s36:Sound Tryz.prog 36 g36:=qu (tt:=tt) (Γ:=Γ36) hT (qf zdN qq) hm (fn:=Tryz.f36) Tryz.func36 (c:=Tryz.f36.body.getD .skip) (by kernel_rfl) (by kernel_rfl) fun x hx=>by
 obtain ⟨N,h⟩:=e36 x.1 x.2.1 hx
 exact ⟨T36 N,p36,qv _,q3K N,(zcW N x.1 x.2.1).trans h⟩
end Go.T
