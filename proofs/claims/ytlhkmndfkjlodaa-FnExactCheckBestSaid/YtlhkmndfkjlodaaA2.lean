/- Whole numbers; atoms; cells; relations: what the functions compute. -/
import Derived.Test.YtlhkmndfkjlodaaA1
set_option linter.unusedSimpArgs false
set_option linter.unusedVariables false
namespace Go.T
open Go Go.Proofs
set_option maxHeartbeats 1000000
set_option maxRecDepth 100000
def inI (n:Int):Prop:= -9223372036854775807≤n∧n≤9223372036854775807
def qG (n:Int):Int:=(n.natAbs:Int)
def qan (n:Int):Prop:=inI n
def qw (a b:Int):Int:=(Nat.gcd a.natAbs b.natAbs:Nat)
def qaC (a b:Int):Prop:=inI a∧inI b
def qiS (xs:List (Val (.int .i64))) (k:Int):Int:=(gL k.natAbs xs:Nat)
def qgY (xs:List (Val (.int .i64))) (k:Int):Prop:=xs.length≤1048576∧inI k∧ ∀x∈xs,inI x
def qak (xs:List (Val (.int .i64))):Int:=(gL 0 xs:Nat)
def qe7 (xs:List (Val (.int .i64))):Prop:=xs.length≤1048576∧ ∀x∈xs,inI x
def qv (n:Int):Bool:=decide (-400000000≤n∧n≤400000000)
def inR (x a b:Int):Bool:=decide (a≤x∧x≤b)
def qgU:G:={ps:=[i3],rs:=[i3],dp:=true,pre:=fun x=>qan x.1,fn:=fun x=>(qG x.1,())}
noncomputable def qos (N:Nat) (v0:Int):Option (qa [i3]):=bif (decide (v0<(0:Int)))then (some ((IntKind.i64.wrap (0 - v0)),()))else (some (v0,()))
def qDI:Gam:=[]
def qmH:Nat→Tree:=fun _=> .done
def qw1:Nat→Nm:=fun _=>⟨[],[],false⟩
def qxE:Nat→Option Jn:=fun _=>none
def qt8:Nat→Option Nm:=fun _=>none
def qyk:Nat→Option Nm:=fun _=>none
theorem qNd:qg qmH (Try.f134.body.getD .skip)=true:=by kernel_rfl
def qbL (N:Nat):Tab:={tr:=qmH,lp:=qw1,ex:=qt8,rg:=qyk,jn:=qxE,fuel:=N}
theorem qGf (N:Nat):(qbL N).pins=false:=rfl
theorem qMH (N:Nat):qk Try.prog (qbL N):=qn fun _=>rfl
theorem qKe (N:Nat) (i:Nat):(qbL N).tr i=qmH i:=rfl
theorem qP1 (N:Nat) (i:Nat):(qbL N).lp i=qw1 i:=rfl
theorem qLL (N:Nat) (i:Nat):(qbL N).ex i=qt8 i:=rfl
theorem qRX (N:Nat) (i:Nat):(qbL N).rg i=qyk i:=rfl
theorem qNW (N:Nat) (i:Nat):(qbL N).jn i=qxE i:=rfl
theorem qGm (N:Nat):(qbL N).fuel=N:=rfl
theorem qJU (N:Nat) (v0:Int):qb tt qDI (qbL N) (Try.f134.body.getD .skip) (qh tt true [i3] [.tmp 2]) (ql [i3] 8 (v0,()))=qos N v0:=by
 rw [qos];unfold Try.f134
 simp (maxSteps:=10000000) -implicitDefEqProofs [qKe,qmH,qP1,qw1,qLL,qt8,qRX,qyk,qNW,qxE,qGm,qGf]
 try rfl
theorem qQK (n:Int) (h:inI n): ∃N,qos N n=some (qG n,()):=⟨0,by
 unfold inI at h
 simp only [qos,qG]
 by_cases h0:n<0
 ·have e:IntKind.i64.wrap (0 - n)=(n.natAbs:Int):=by rw [qbp (by omega) (by omega)];omega
  simp only [h0,decide_true,cond_true,e]
 ·have e:(n.natAbs:Int)=n:=by omega
  simp [h0,e]⟩
theorem qNJ:Sound Try.prog 134 qgU:=qq (tt:=tt) (Γ:=qDI) hT qp hm (fn:=Try.f134) Try.func134 (c:=Try.f134.body.getD .skip) (by kernel_rfl) (by kernel_rfl) fun x hx=>by
 obtain ⟨N,h⟩:=qQK x.1 hx
 exact ⟨qbL N,qNd,qm _,qMH N,(qJU N x.1).trans h⟩
noncomputable def qfJ (N:Nat) (k0:Int→Option (qa [i3])):Nat→Int→Int→Option (qa [i3])
 | 0,_,_=>none
 | n+1,v2,v3=>bif (!(decide (v3=(0:Int))))then (chk (v3≠0) (qfJ N k0 n v3 (v2.tmod v3)))else (k0 v2)
noncomputable def m94 (N:Nat) (v0:Int) (v1:Int):Option (qa [i3]):=chk (qan v0) (chk (qan v1) (qfJ N (fun (v5:Int)=>some (v5,())) N ((qG v0):Int) ((qG v1):Int)))
def Γ94:Gam:=[(134,qgU)]
theorem qAa:Gam.get Γ94 134=some qgU:=rfl
def qkr:Nm:=⟨[true,true],[],false⟩
theorem qsD:qkr.zero=false:=rfl
theorem qvg:qkr.fix=[]:=rfl
theorem quq:qkr.keep=[true,true]:=rfl
def qnF:Nm:=⟨[true],[],false⟩
theorem qqu:qnF.zero=false:=rfl
theorem qz4:qnF.fix=[]:=rfl
theorem qAG:qnF.keep=[true]:=rfl
def qgv:Nat→Tree:=fun i=>if i=3 then .quiet 0 (.quiet 1 (.quiet 2 (.quiet 3 (.quiet 4 (.quiet 5 .done)))))else .done
def qhr:Nat→Nm:=fun i=>if i=2 then qkr else ⟨[],[],false⟩
def qh6:Nat→Option Jn:=fun _=>none
def qh4:Nat→Option Nm:=fun i=>if i=0 then some qnF else none
def qkq:Nat→Option Nm:=fun _=>none
theorem p94:qg qgv (Try.f94.body.getD .skip)=true:=by kernel_rfl
def T94 (N:Nat):Tab:={tr:=qgv,lp:=qhr,ex:=qh4,rg:=qkq,jn:=qh6,fuel:=N}
theorem qsr (N:Nat):(T94 N).pins=false:=rfl
theorem qIJ (N:Nat):qk Try.prog (T94 N):=qn fun _=>rfl
theorem qA4 (N:Nat) (i:Nat):(T94 N).tr i=qgv i:=rfl
theorem qyf (N:Nat) (i:Nat):(T94 N).lp i=qhr i:=rfl
theorem qqe (N:Nat) (i:Nat):(T94 N).ex i=qh4 i:=rfl
theorem qqb (N:Nat) (i:Nat):(T94 N).rg i=qkq i:=rfl
theorem qxe (N:Nat) (i:Nat):(T94 N).jn i=qh6 i:=rfl
theorem qrs (N:Nat):(T94 N).fuel=N:=rfl
noncomputable def qC6:Code:=cut [true,true,false,true,true] (Try.f94.body.getD .skip)
theorem qKy {N:Nat} {Q:X→St→Option (qa [i3])} {e:List LV} {h:List Blk}:qb tt Γ94 (T94 N) qC6 Q ⟨e,h⟩=qb tt Γ94 (T94 N) (cut [true,true,false,true,true] (Try.f94.body.getD .skip)) Q ⟨e,h⟩:=rfl
theorem qF8 (N:Nat) {k0:Int→Option (qa [i3])} {Q:X→St→Option (qa [i3])} {c:Code} (hc:c=qC6) (hret: ∀st,Q .ret st=qy tt true [i3] [.tmp 4] st) (h0: ∀(v4:Int),Q (.exit 0) ⟨[.one (.int .i64 v4),u,u,u,u,u,u,u,u,u,u,u,u,u,u,u],[]⟩=k0 v4): ∀(n:Nat) (v2:Int) (v3:Int),qx (qb tt Γ94 (T94 N) c) false qkr Q n ⟨[.one (.int .i64 v2),.one (.int .i64 v3),u,u,u,u,u,u,u,u,u,u,u,u,u,u],[]⟩=qfJ N k0 n v2 v3:=by
 subst hc;intro n;induction n with
 | zero=>intros;rfl
 | succ n ih=>
   intro v2 v3
   rw [qI,qKy,qfJ];unfold Try.f94
   simp (maxSteps:=10000000) -implicitDefEqProofs [qA4,qgv,qyf,qhr,qqe,qh4,qqb,qkq,qxe,qh6,qrs,qsr,qvg,quq,qsD,qz4,qAG,qqu,qAa,qgU,hret,h0,ih]
theorem qK2 (N:Nat) (v0:Int) (v1:Int):qb tt Γ94 (T94 N) (Try.f94.body.getD .skip) (qh tt true [i3] [.tmp 4]) (ql [i3,i3] 16 (v0,v1,()))=m94 N v0 v1:=by
 unfold Try.f94
 simp (maxSteps:=10000000) -implicitDefEqProofs [qA4,qgv,qyf,qhr,qqe,qh4,qqb,qkq,qxe,qh6,qrs,qsr,qvg,quq,qsD,qz4,qAG,qqu,qAa,qgU]
 rewrite [qF8 (k0:=(fun (v5:Int)=>some (v5,()))) N ?_ ?_ ?_]
 ·rewrite [m94];first | rfl | simp (maxSteps:=10000000) -implicitDefEqProofs []
 ·rfl
 ·intro;simp only [qD,qE,qF,qC]
 ·intro v5;simp (maxSteps:=10000000) -implicitDefEqProofs [qA4,qgv,qyf,qhr,qqe,qh4,qqb,qkq,qxe,qh6,qrs,qsr,qvg,quq,qsD,qz4,qAG,qqu,qAa,qgU]
theorem t94 (N:Nat) (k:Int→Option (qa [i3])): ∀(n a b:Nat),b<n→qfJ N k n (a:Int) (b:Int)=k (Nat.gcd a b:Nat)
 | 0,_,_,h=>by omega
 | n+1,a,b,h=>by
   rw [qfJ]
   by_cases hb:b=0
   ·subst hb;simp
   ·have hb': ¬((b:Int)=0):=by omega
    have hlt:a % b<b:=Nat.mod_lt _ (by omega)
    have hm:((a:Int).tmod (b:Int))=((a % b:Nat):Int):=by rw [Int.tmod_eq_emod_of_nonneg (by omega)];rfl
    simp only [hb',decide_false,Bool.not_false,cond_true,ne_eq,not_false_eq_true,qCl]
    rw [hm,t94 N k n b (a % b) (by omega)]
    congr 2
    rw [Nat.gcd_comm b,←Nat.gcd_rec,Nat.gcd_comm]
def g94:G:={ps:=[i3,i3],rs:=[i3],dp:=true,pre:=fun x=>qaC x.1 x.2.1,fn:=fun x=>(qw x.1 x.2.1,())}
theorem e94 (a b:Int) (h:qaC a b): ∃N,m94 N a b=some (qw a b,()):=⟨b.natAbs+1,by
 rw [m94,qd (show qan a from h.1),qd (show qan b from h.2)]
 simp only [qG]
 rw [t94 _ _ _ _ _ (Nat.lt_succ_self _)]
 rfl⟩
theorem s94:Sound Try.prog 94 g94:=qq (tt:=tt) (Γ:=Γ94) hT (qe qNJ qp) hm (fn:=Try.f94) Try.func94 (c:=Try.f94.body.getD .skip) (by kernel_rfl) (by kernel_rfl) fun x hx=>by
 obtain ⟨N,h⟩:=e94 x.1 x.2.1 hx
 exact ⟨T94 N,p94,qm _,qIJ N,(qK2 N x.1 x.2.1).trans h⟩
theorem qCx {g:Nat} {x:Int} (hg:(g:Int)≤9223372036854775807) (hx:inI x):qaC (g:Int) x∧((Nat.gcd g x.natAbs:Nat):Int)≤9223372036854775807:=by
 refine ⟨⟨⟨by omega,hg⟩,hx⟩,?_⟩
 unfold inI at hx
 by_cases h0:x.natAbs=0
 ·rw [h0];simpa using hg
 ·have:=Nat.gcd_le_right (m:=g) (n:=x.natAbs) (by omega)
  omega
theorem qDo {ρ:Type}: ∀(xs:List Int) (i g:Nat) (k:Int→Option ρ),(g:Int)≤9223372036854775807→(∀x∈xs,inI x)→qZ (fun _ x s K=>chk (qaC s x) (K (qw s x))) i xs (g:Int) k=k (gL g xs:Nat)
 | [],_,_,_,_,_=>rfl
 | x::xs,i,g,k,hg,hx=>by
   obtain ⟨h1,h2⟩:=qCx hg (hx x (by simp))
   rw [qZ,qd h1]
   exact qDo xs (i+1) _ k h2 fun y hy=>hx y (by simp [hy])
noncomputable def qeB (N:Nat) (v2:List (Val (.int .i64))) (v3:Int) (k0:Int→Option (qa [i3])):Nat→Int→Int→Option (qa [i3])
 | 0,_,_=>none
 | n+1,v1,v4=>bif (decide (v4<v3))then (chk (0≤v4∧v4<(v2.length:Int)) (chk (qaC v1 ((v2.getD v4.toNat (qc (.int .i64))):Int)) (qeB N v2 v3 k0 n ((qw v1 ((v2.getD v4.toNat (qc (.int .i64))):Int)):Int) (IntKind.i64.wrap (v4+(1:Int))))))else (k0 v1)
noncomputable def m95 (N:Nat) (v0:List (Val (.int .i64))):Option (qa [i3]):=qeB N v0 (v0.length:Int) (fun (v6:Int)=>some (v6,())) N (0:Int) (0:Int)
def Γ95:Gam:=[(94,g94)]
theorem qxb:Gam.get Γ95 94=some g94:=rfl
def qiw:Nm:=⟨[false,false,false,true,false,false,true,true,true],[],false⟩
theorem qrR:qiw.zero=false:=rfl
theorem qAP:qiw.fix=[]:=rfl
theorem qBy:qiw.keep=[false,false,false,true,false,false,true,true,true]:=rfl
def qli:Nm:=⟨[false,false,false,true],[],false⟩
theorem qBh:qli.zero=false:=rfl
theorem qxA:qli.fix=[]:=rfl
theorem qyO:qli.keep=[false,false,false,true]:=rfl
def qg2:Nat→Tree:=fun _=> .done
def qke:Nat→Nm:=fun i=>if i=3 then qiw else ⟨[],[],false⟩
def qkL:Nat→Option Jn:=fun _=>none
def qhN:Nat→Option Nm:=fun i=>if i=0 then some qli else none
def qhP:Nat→Option Nm:=fun _=>none
theorem p95:qg qg2 (Try.f95.body.getD .skip)=true:=by kernel_rfl
def T95 (N:Nat):Tab:={tr:=qg2,lp:=qke,ex:=qhN,rg:=qhP,jn:=qkL,fuel:=N}
theorem quy (N:Nat):(T95 N).pins=false:=rfl
theorem qMe (N:Nat):qk Try.prog (T95 N):=qn fun _=>rfl
theorem qAQ (N:Nat) (i:Nat):(T95 N).tr i=qg2 i:=rfl
theorem qBu (N:Nat) (i:Nat):(T95 N).lp i=qke i:=rfl
theorem qvN (N:Nat) (i:Nat):(T95 N).ex i=qhN i:=rfl
theorem qvQ (N:Nat) (i:Nat):(T95 N).rg i=qhP i:=rfl
theorem qBF (N:Nat) (i:Nat):(T95 N).jn i=qkL i:=rfl
theorem qu1 (N:Nat):(T95 N).fuel=N:=rfl
noncomputable def qDk:Code:=cut [true,true,false,true,true,true] (Try.f95.body.getD .skip)
theorem qKU {N:Nat} {Q:X→St→Option (qa [i3])} {e:List LV} {h:List Blk}:qb tt Γ95 (T95 N) qDk Q ⟨e,h⟩=qb tt Γ95 (T95 N) (cut [true,true,false,true,true,true] (Try.f95.body.getD .skip)) Q ⟨e,h⟩:=rfl
theorem qJY (N:Nat) (v2:List (Val (.int .i64))) (v3:Int) {k0:Int→Option (qa [i3])} {Q:X→St→Option (qa [i3])} {c:Code} (hc:c=qDk) (hret: ∀st,Q .ret st=qy tt true [i3] [.tmp 2] st) (h0: ∀(v5:Int),Q (.exit 0) ⟨[u,u,u,.one (.int .i64 v5),u,u,u,u,u,u,u,u,u,u,u,u,u],[]⟩=k0 v5): ∀(n:Nat) (v1:Int) (v4:Int),qx (qb tt Γ95 (T95 N) c) false qiw Q n ⟨[u,u,u,.one (.int .i64 v1),u,u,.one (.sl 3 (.int .i64) v2 0),.one (.int .i64 v3),.one (.int .i64 v4),u,u,u,u,u,u,u,u],[]⟩=qeB N v2 v3 k0 n v1 v4:=by
 subst hc;intro n;induction n with
 | zero=>intros;rfl
 | succ n ih=>
   intro v1 v4
   rw [qI,qKU,qeB];unfold Try.f95
   simp (maxSteps:=10000000) -implicitDefEqProofs [qAQ,qg2,qBu,qke,qvN,qhN,qvQ,qhP,qBF,qkL,qu1,quy,qAP,qBy,qrR,qxA,qyO,qBh,qxb,g94,hret,h0,ih]
theorem qMR (N:Nat) (v0:List (Val (.int .i64))):qb tt Γ95 (T95 N) (Try.f95.body.getD .skip) (qh tt true [i3] [.tmp 2]) (ql [i27] 17 (v0,()))=m95 N v0:=by
 unfold Try.f95
 simp (maxSteps:=10000000) -implicitDefEqProofs [qAQ,qg2,qBu,qke,qvN,qhN,qvQ,qhP,qBF,qkL,qu1,quy,qAP,qBy,qrR,qxA,qyO,qBh,qxb,g94]
 rewrite [qJY (k0:=(fun (v6:Int)=>some (v6,()))) N _ _ ?_ ?_ ?_]
 ·rewrite [m95];first | rfl | simp (maxSteps:=10000000) -implicitDefEqProofs []
 ·rfl
 ·intro;simp only [qD,qE,qF,qC]
 ·intro v6;simp (maxSteps:=10000000) -implicitDefEqProofs [qAQ,qg2,qBu,qke,qvN,qhN,qvQ,qhP,qBF,qkL,qu1,quy,qAP,qBy,qrR,qxA,qyO,qBh,qxb,g94]
def g95:G:={ps:=[i27],rs:=[i3],dp:=true,pre:=fun x=>qe7 x.1,fn:=fun x=>(qak x.1,())}
theorem e95 (xs:List (Val (.int .i64))) (h:qe7 xs): ∃N,m95 N xs=some (qak xs,()):=⟨xs.length+1,by
 rw [m95]
 rw [q4 (F:=fun n i s=>qeB _ xs xs.length _ n s i) (step:=fun _ x s K=>chk (qaC s x) (K (qw s x))) (k:=fun s=>some (s,())) h.1 ?_ ?_ _ _ (Nat.lt_succ_self _)]
 ·exact qDo xs 0 0 _ (by omega) h.2
 ·intro n i s hi
  rw [qeB,qi (by omega),qd (by omega),qB hi]
 ·intro n i s hi
  rw [qeB,qj (by omega)]⟩
theorem s95:Sound Try.prog 95 g95:=qq (tt:=tt) (Γ:=Γ95) hT (qe s94 qp) hm (fn:=Try.f95) Try.func95 (c:=Try.f95.body.getD .skip) (by kernel_rfl) (by kernel_rfl) fun x hx=>by
 obtain ⟨N,h⟩:=e95 x.1 hx
 exact ⟨T95 N,p95,qm _,qMe N,(qMR N x.1).trans h⟩
def qav:G:={ps:=[i3],rs:=[i3],dp:=true,pre:=fun x=>qan x.1,fn:=fun x=>(qG x.1,())}
noncomputable def qcZ (N:Nat) (v0:Int):Option (qa [i3]):=some ((max v0 (IntKind.i64.wrap (0 - v0))),())
def qCH:Gam:=[]
def qnt:Nat→Tree:=fun _=> .done
def qt6:Nat→Nm:=fun _=>⟨[],[],false⟩
def qzH:Nat→Option Jn:=fun _=>none
def qAb:Nat→Option Nm:=fun _=>none
def qy1:Nat→Option Nm:=fun _=>none
theorem qIj:qg qnt (Try.f135.body.getD .skip)=true:=by kernel_rfl
def qb0 (N:Nat):Tab:={tr:=qnt,lp:=qt6,ex:=qAb,rg:=qy1,jn:=qzH,fuel:=N}
theorem qJ1 (N:Nat):(qb0 N).pins=false:=rfl
theorem qIz (N:Nat):qk Try.prog (qb0 N):=qn fun _=>rfl
theorem qM0 (N:Nat) (i:Nat):(qb0 N).tr i=qnt i:=rfl
theorem qHW (N:Nat) (i:Nat):(qb0 N).lp i=qt6 i:=rfl
theorem qM8 (N:Nat) (i:Nat):(qb0 N).ex i=qAb i:=rfl
theorem qLr (N:Nat) (i:Nat):(qb0 N).rg i=qy1 i:=rfl
theorem qMq (N:Nat) (i:Nat):(qb0 N).jn i=qzH i:=rfl
theorem qKF (N:Nat):(qb0 N).fuel=N:=rfl
theorem qMz (N:Nat) (v0:Int):qb tt qCH (qb0 N) (Try.f135.body.getD .skip) (qh tt true [i3] [.tmp 2]) (ql [i3] 7 (v0,()))=qcZ N v0:=by
 rw [qcZ];unfold Try.f135
 simp (maxSteps:=10000000) -implicitDefEqProofs [qM0,qnt,qHW,qt6,qM8,qAb,qLr,qy1,qMq,qzH,qKF,qJ1]
 try rfl
theorem qHl (n:Int) (h:inI n): ∃N,qcZ N n=some (qG n,()):=⟨0,by
 unfold inI at h
 rw [qcZ,qbp (by omega) (by omega)]
 have e:max n (0 - n)=qG n:=by unfold qG;omega
 rw [e]⟩
theorem qyJ:Sound Try.prog 135 qav:=qq (tt:=tt) (Γ:=qCH) hT qp hm (fn:=Try.f135) Try.func135 (c:=Try.f135.body.getD .skip) (by kernel_rfl) (by kernel_rfl) fun x hx=>by
 obtain ⟨N,h⟩:=qHl x.1 hx
 exact ⟨qb0 N,qIj,qm _,qIz N,(qMz N x.1).trans h⟩
noncomputable def m47 (N:Nat) (v0:Int) (v1:Int) (v2:Int):Option (qa [i4]):=bif (decide (v1≤v0))then (some ((decide (v0≤v2)),()))else (some (false,()))
def Γ47:Gam:=[]
def qlM:Nat→Tree:=fun _=> .done
def qyl:Nat→Nm:=fun _=>⟨[],[],false⟩
def qzd:Nat→Option Jn:=fun _=>none
def qpD:Nat→Option Nm:=fun _=>none
def qyQ:Nat→Option Nm:=fun _=>none
theorem p47:qg qlM (Try.f47.body.getD .skip)=true:=by kernel_rfl
def T47 (N:Nat):Tab:={tr:=qlM,lp:=qyl,ex:=qpD,rg:=qyQ,jn:=qzd,fuel:=N}
theorem qMV (N:Nat):(T47 N).pins=false:=rfl
theorem qNp (N:Nat):qk Try.prog (T47 N):=qn fun _=>rfl
theorem qM7 (N:Nat) (i:Nat):(T47 N).tr i=qlM i:=rfl
theorem qHi (N:Nat) (i:Nat):(T47 N).lp i=qyl i:=rfl
theorem qFt (N:Nat) (i:Nat):(T47 N).ex i=qpD i:=rfl
theorem qJI (N:Nat) (i:Nat):(T47 N).rg i=qyQ i:=rfl
theorem qOD (N:Nat) (i:Nat):(T47 N).jn i=qzd i:=rfl
theorem qH0 (N:Nat):(T47 N).fuel=N:=rfl
theorem qK0 (N:Nat) (v0:Int) (v1:Int) (v2:Int):qb tt Γ47 (T47 N) (Try.f47.body.getD .skip) (qh tt true [i4] [.tmp 6]) (ql [i3,i3,i3] 15 (v0,v1,v2,()))=m47 N v0 v1 v2:=by
 rw [m47];unfold Try.f47
 simp (maxSteps:=10000000) -implicitDefEqProofs [qM7,qlM,qHi,qyl,qFt,qpD,qJI,qyQ,qOD,qzd,qH0,qMV]
 try rfl
def g47:G:={ps:=[i3,i3,i3],rs:=[i4],dp:=true,pre:=fun _=>True,fn:=fun x=>(inR x.1 x.2.1 x.2.2.1,())}
theorem e47 (x a b:Int): ∃N,m47 N x a b=some (inR x a b,()):=⟨0,by
 simp only [m47,inR]
 by_cases h1:a≤x<;>by_cases h2:x≤b<;>simp [h1,h2]⟩
theorem s47:Sound Try.prog 47 g47:=qq (tt:=tt) (Γ:=Γ47) hT qp hm (fn:=Try.f47) Try.func47 (c:=Try.f47.body.getD .skip) (by kernel_rfl) (by kernel_rfl) fun x hx=>by
 obtain ⟨N,h⟩:=e47 x.1 x.2.1 x.2.2.1
 exact ⟨T47 N,p47,qm _,qNp N,(qK0 N x.1 x.2.1 x.2.2.1).trans h⟩
noncomputable def m98 (N:Nat) (v0:Int):Option (qa [i4]):=some (((inR v0 (-400000000:Int) (400000000:Int)):Bool),())
def Γ98:Gam:=[(47,g47)]
theorem qSd:Gam.get Γ98 47=some g47:=rfl
def qlf:Nat→Tree:=fun _=> .done
def qpv:Nat→Nm:=fun _=>⟨[],[],false⟩
def qtE:Nat→Option Jn:=fun _=>none
def qtM:Nat→Option Nm:=fun _=>none
def qtR:Nat→Option Nm:=fun _=>none
theorem p98:qg qlf (Try.f98.body.getD .skip)=true:=by kernel_rfl
def T98 (N:Nat):Tab:={tr:=qlf,lp:=qpv,ex:=qtM,rg:=qtR,jn:=qtE,fuel:=N}
theorem qNm (N:Nat):(T98 N).pins=false:=rfl
theorem qLB (N:Nat):qk Try.prog (T98 N):=qn fun _=>rfl
theorem qIl (N:Nat) (i:Nat):(T98 N).tr i=qlf i:=rfl
theorem qF3 (N:Nat) (i:Nat):(T98 N).lp i=qpv i:=rfl
theorem qNP (N:Nat) (i:Nat):(T98 N).ex i=qtM i:=rfl
theorem qLc (N:Nat) (i:Nat):(T98 N).rg i=qtR i:=rfl
theorem qKn (N:Nat) (i:Nat):(T98 N).jn i=qtE i:=rfl
theorem qKO (N:Nat):(T98 N).fuel=N:=rfl
theorem qRl (N:Nat) (v0:Int):qb tt Γ98 (T98 N) (Try.f98.body.getD .skip) (qh tt true [i4] [.tmp 2]) (ql [i3] 5 (v0,()))=m98 N v0:=by
 rw [m98];unfold Try.f98
 simp (maxSteps:=10000000) -implicitDefEqProofs [qIl,qlf,qF3,qpv,qNP,qtM,qLc,qtR,qKn,qtE,qKO,qNm,qSd,g47]
 try rfl
noncomputable def ql2 (N:Nat) (v0:Int):Option (qa [i4]):=bif (decide ((-400000000:Int)≤v0))then (some ((decide (v0≤(400000000:Int))),()))else (some (false,()))
def qET:Gam:=[]
def qmo:Nat→Tree:=fun _=> .done
def qyo:Nat→Nm:=fun _=>⟨[],[],false⟩
def qq1:Nat→Option Jn:=fun _=>none
def qxz:Nat→Option Nm:=fun _=>none
def qqG:Nat→Option Nm:=fun _=>none
theorem qL6:qg qmo (Try.f109.body.getD .skip)=true:=by kernel_rfl
def qbV (N:Nat):Tab:={tr:=qmo,lp:=qyo,ex:=qxz,rg:=qqG,jn:=qq1,fuel:=N}
theorem qRQ (N:Nat):(qbV N).pins=false:=rfl
theorem qFJ (N:Nat):qk Try.prog (qbV N):=qn fun _=>rfl
theorem qLZ (N:Nat) (i:Nat):(qbV N).tr i=qmo i:=rfl
theorem qMn (N:Nat) (i:Nat):(qbV N).lp i=qyo i:=rfl
theorem qL0 (N:Nat) (i:Nat):(qbV N).ex i=qxz i:=rfl
theorem qKS (N:Nat) (i:Nat):(qbV N).rg i=qqG i:=rfl
theorem qLY (N:Nat) (i:Nat):(qbV N).jn i=qq1 i:=rfl
theorem qF7 (N:Nat):(qbV N).fuel=N:=rfl
theorem qOk (N:Nat) (v0:Int):qb tt qET (qbV N) (Try.f109.body.getD .skip) (qh tt true [i4] [.tmp 2]) (ql [i3] 9 (v0,()))=ql2 N v0:=by
 rw [ql2];unfold Try.f109
 simp (maxSteps:=10000000) -implicitDefEqProofs [qLZ,qmo,qMn,qyo,qL0,qxz,qKS,qqG,qLY,qq1,qF7,qRQ]
 try rfl
def g98:G:={ps:=[i3],rs:=[i4],dp:=true,pre:=fun _=>True,fn:=fun x=>(qv x.1,())}
def qaH:G:={ps:=[i3],rs:=[i4],dp:=true,pre:=fun _=>True,fn:=fun x=>(qv x.1,())}
theorem e98 (x:Int): ∃N,m98 N x=some (qv x,()):=⟨0,by
 simp only [m98,inR,qv]⟩
theorem s98:Sound Try.prog 98 g98:=qq (tt:=tt) (Γ:=Γ98) hT (qe s47 qp) hm (fn:=Try.f98) Try.func98 (c:=Try.f98.body.getD .skip) (by kernel_rfl) (by kernel_rfl) fun x hx=>by
 obtain ⟨N,h⟩:=e98 x.1
 exact ⟨T98 N,p98,qm _,qLB N,(qRl N x.1).trans h⟩
theorem qKL (x:Int): ∃N,ql2 N x=some (qv x,()):=⟨0,by
 simp only [ql2,qv]
 by_cases h1: -400000000≤x<;>by_cases h2:x≤400000000<;>simp [h1,h2]⟩
theorem qmv:Sound Try.prog 109 qaH:=qq (tt:=tt) (Γ:=qET) hT qp hm (fn:=Try.f109) Try.func109 (c:=Try.f109.body.getD .skip) (by kernel_rfl) (by kernel_rfl) fun x hx=>by
 obtain ⟨N,h⟩:=qKL x.1
 exact ⟨qbV N,qL6,qm _,qFJ N,(qOk N x.1).trans h⟩
noncomputable def qbj (N:Nat) (v11:List (Val (.int .i64))) (v13:Int) (k2:Int→Option (qa [i3])):Nat→Int→Int→Option (qa [i3])
 | 0,_,_=>none
 | n+1,v12,v14=>bif (!(decide (v14=(0:Int))))then (chk (v14≠0) (qbj N v11 v13 k2 n v14 (v12.tmod v14)))else (k2 v12)
noncomputable def qc6 (N:Nat) (v2:List (Val (.int .i64))) (k0:Int→Option (qa [i3])):Nat→Int→Int→Option (qa [i3])
 | 0,_,_=>none
 | n+1,v3,v4=>bif (decide (v4<(v2.length:Int)))then (chk (0≤v4∧v4<(v2.length:Int)) (chk (qan ((v2.getD v4.toNat (qc (.int .i64))):Int)) (qbj N v2 v4 (fun (v16:Int)=>qc6 N v2 k0 n v16 (IntKind.i64.wrap (v4+(1:Int)))) N v3 ((qG ((v2.getD v4.toNat (qc (.int .i64))):Int)):Int))))else (k0 v3)
noncomputable def m97 (N:Nat) (v0:List (Val (.int .i64))) (v1:Int):Option (qa [i3]):=chk (qan v1) (qc6 N v0 (fun (v18:Int)=>some (v18,())) N ((qG v1):Int) (0:Int))
def Γ97:Gam:=[(135,qav)]
theorem qkV:Gam.get Γ97 135=some qav:=rfl
def qjV:Nm:=⟨[true,false,false,false,false,true,true,true],[],false⟩
theorem qjF:qjV.zero=false:=rfl
theorem qhQ:qjV.fix=[]:=rfl
theorem qhb:qjV.keep=[true,false,false,false,false,true,true,true]:=rfl
def qkj:Nm:=⟨[true,false,false,false,false,true,true],[],false⟩
theorem qhi:qkj.zero=false:=rfl
theorem qi0:qkj.fix=[]:=rfl
theorem qjb:qkj.keep=[true,false,false,false,false,true,true]:=rfl
def qnT:Nm:=⟨[false,false,false,false,false,true],[],false⟩
theorem qjw:qnT.zero=false:=rfl
theorem qkK:qnT.fix=[]:=rfl
theorem qjh:qnT.keep=[false,false,false,false,false,true]:=rfl
def qlj:Nm:=⟨[true,false,false,false,false,true,true],[],false⟩
theorem qjJ:qlj.zero=false:=rfl
theorem qjp:qlj.fix=[]:=rfl
theorem qjT:qlj.keep=[true,false,false,false,false,true,true]:=rfl
def qcO:Nat→Tree:=fun i=>if i=7 then .quiet 0 (.quiet 1 (.quiet 2 (.quiet 3 (.quiet 4 (.quiet 5 .done)))))else .done
def qfk:Nat→Nm:=fun i=>if i=6 then qjV else if i=3 then qkj else ⟨[],[],false⟩
def qdB:Nat→Option Jn:=fun _=>none
def qd2:Nat→Option Nm:=fun i=>if i=0 then some qnT else if i=2 then some qlj else none
def qdv:Nat→Option Nm:=fun _=>none
theorem p97:qg qcO (Try.f97.body.getD .skip)=true:=by kernel_rfl
def T97 (N:Nat):Tab:={tr:=qcO,lp:=qfk,ex:=qd2,rg:=qdv,jn:=qdB,fuel:=N}
theorem qhz (N:Nat):(T97 N).pins=false:=rfl
theorem qKv (N:Nat):qk Try.prog (T97 N):=qn fun _=>rfl
theorem qkc (N:Nat) (i:Nat):(T97 N).tr i=qcO i:=rfl
theorem qjB (N:Nat) (i:Nat):(T97 N).lp i=qfk i:=rfl
theorem qkx (N:Nat) (i:Nat):(T97 N).ex i=qd2 i:=rfl
theorem qiR (N:Nat) (i:Nat):(T97 N).rg i=qdv i:=rfl
theorem qik (N:Nat) (i:Nat):(T97 N).jn i=qdB i:=rfl
theorem qhU (N:Nat):(T97 N).fuel=N:=rfl
noncomputable def qDS:Code:=cut [true,true,false,true,true,true,true,false,true,true,true,true] (Try.f97.body.getD .skip)
theorem qHB {N:Nat} {Q:X→St→Option (qa [i3])} {e:List LV} {h:List Blk}:qb tt Γ97 (T97 N) qDS Q ⟨e,h⟩=qb tt Γ97 (T97 N) (cut [true,true,false,true,true,true,true,false,true,true,true,true] (Try.f97.body.getD .skip)) Q ⟨e,h⟩:=rfl
theorem qIg (N:Nat) (v11:List (Val (.int .i64))) (v13:Int) {k2:Int→Option (qa [i3])} {Q:X→St→Option (qa [i3])} {c:Code} (hc:c=qDS) (hret: ∀st,Q .ret st=qy tt true [i3] [.tmp 4] st) (h2: ∀(v15:Int),Q (.exit 2) ⟨[.one (.sl 3 (.int .i64) v11 0),u,u,u,u,.one (.int .i64 v15),.one (.int .i64 v13),u,u,u,u,u,u,u,u,u,u,u,u,u,u,u,u,u,u,u,u,u],[]⟩=k2 v15): ∀(n:Nat) (v12:Int) (v14:Int),qx (qb tt Γ97 (T97 N) c) false qjV Q n ⟨[.one (.sl 3 (.int .i64) v11 0),u,u,u,u,.one (.int .i64 v12),.one (.int .i64 v13),.one (.int .i64 v14),u,u,u,u,u,u,u,u,u,u,u,u,u,u,u,u,u,u,u,u],[]⟩=qbj N v11 v13 k2 n v12 v14:=by
 subst hc;intro n;induction n with
 | zero=>intros;rfl
 | succ n ih=>
   intro v12 v14
   rw [qI,qHB,qbj];unfold Try.f97
   simp (maxSteps:=10000000) -implicitDefEqProofs [qkc,qcO,qjB,qfk,qkx,qd2,qiR,qdv,qik,qdB,qhU,qhz,qhQ,qhb,qjF,qi0,qjb,qhi,qkK,qjh,qjw,qjp,qjT,qjJ,qkV,qav,hret,h2,ih]
noncomputable def qEW:Code:=cut [true,true,false,true,true,true] (Try.f97.body.getD .skip)
theorem qQt {N:Nat} {Q:X→St→Option (qa [i3])} {e:List LV} {h:List Blk}:qb tt Γ97 (T97 N) qEW Q ⟨e,h⟩=qb tt Γ97 (T97 N) (cut [true,true,false,true,true,true] (Try.f97.body.getD .skip)) Q ⟨e,h⟩:=rfl
theorem qFF (N:Nat) (v2:List (Val (.int .i64))) {k0:Int→Option (qa [i3])} {Q:X→St→Option (qa [i3])} {c:Code} (hc:c=qEW) (hret: ∀st,Q .ret st=qy tt true [i3] [.tmp 4] st) (h0: ∀(v17:Int),Q (.exit 0) ⟨[u,u,u,u,u,.one (.int .i64 v17),u,u,u,u,u,u,u,u,u,u,u,u,u,u,u,u,u,u,u,u,u,u],[]⟩=k0 v17): ∀(n:Nat) (v3:Int) (v4:Int),qx (qb tt Γ97 (T97 N) c) false qkj Q n ⟨[.one (.sl 3 (.int .i64) v2 0),u,u,u,u,.one (.int .i64 v3),.one (.int .i64 v4),u,u,u,u,u,u,u,u,u,u,u,u,u,u,u,u,u,u,u,u,u],[]⟩=qc6 N v2 k0 n v3 v4:=by
 subst hc;intro n;induction n with
 | zero=>intros;rfl
 | succ n ih=>
   intro v3 v4
   rw [qI,qQt];unfold Try.f97
   simp (maxSteps:=10000000) -implicitDefEqProofs [qkc,qcO,qjB,qfk,qkx,qd2,qiR,qdv,qik,qdB,qhU,qhz,qhQ,qhb,qjF,qi0,qjb,qhi,qkK,qjh,qjw,qjp,qjT,qjJ,qkV,qav,hret,h0,ih]
   rewrite [qIg (k2:=(fun (v16:Int)=>qc6 N v2 k0 n v16 (IntKind.i64.wrap (v4+(1:Int))))) N _ _ ?_ ?_ ?_]
   ·rewrite [qc6];first | rfl | simp (maxSteps:=10000000) -implicitDefEqProofs [ih]
   ·rfl
   ·intro;simp only [qD,qE,qF,qC,hret]
   ·intro v16;simp (maxSteps:=10000000) -implicitDefEqProofs [qkc,qcO,qjB,qfk,qkx,qd2,qiR,qdv,qik,qdB,qhU,qhz,qhQ,qhb,qjF,qi0,qjb,qhi,qkK,qjh,qjw,qjp,qjT,qjJ,qkV,qav,hret,h0,ih]
theorem qHU (N:Nat) (v0:List (Val (.int .i64))) (v1:Int):qb tt Γ97 (T97 N) (Try.f97.body.getD .skip) (qh tt true [i3] [.tmp 4]) (ql [i27,i3] 28 (v0,v1,()))=m97 N v0 v1:=by
 unfold Try.f97
 simp (maxSteps:=10000000) -implicitDefEqProofs [qkc,qcO,qjB,qfk,qkx,qd2,qiR,qdv,qik,qdB,qhU,qhz,qhQ,qhb,qjF,qi0,qjb,qhi,qkK,qjh,qjw,qjp,qjT,qjJ,qkV,qav]
 rewrite [qFF (k0:=(fun (v18:Int)=>some (v18,()))) N _ ?_ ?_ ?_]
 ·rewrite [m97];first | rfl | simp (maxSteps:=10000000) -implicitDefEqProofs []
 ·rfl
 ·intro;simp only [qD,qE,qF,qC]
 ·intro v18;simp (maxSteps:=10000000) -implicitDefEqProofs [qkc,qcO,qjB,qfk,qkx,qd2,qiR,qdv,qik,qdB,qhU,qhz,qhQ,qhb,qjF,qi0,qjb,qhi,qkK,qjh,qjw,qjp,qjT,qjJ,qkV,qav]
theorem qFi (N:Nat) (xs:List (Val (.int .i64))) (v:Int) (k:Int→Option (qa [i3])): ∀(n b a:Nat),b<n→qbj N xs v k n (a:Int) (b:Int)=k (Nat.gcd a b:Nat)
 | 0,_,_,h=>by omega
 | n+1,b,a,h=>by
   rw [qbj]
   by_cases hb:b=0
   ·subst hb;simp
   ·have hb': ¬((b:Int)=0):=by omega
    have hlt:a % b<b:=Nat.mod_lt _ (by omega)
    have hm:((a:Int).tmod (b:Int))=((a % b:Nat):Int):=by rw [Int.tmod_eq_emod_of_nonneg (by omega)];rfl
    simp only [hb',decide_false,Bool.not_false,cond_true,ne_eq,not_false_eq_true,qCl]
    rw [hm,qFi N xs v k n (a % b) b (by omega)]
    congr 2
    rw [Nat.gcd_comm b,←Nat.gcd_rec,Nat.gcd_comm]
theorem qEu (N:Nat) (xs:List (Val (.int .i64))) (v v':Int) (k:Int→Option (qa [i3])): ∀(n:Nat) (a b:Int),qbj N xs v k n a b=qbj N xs v' k n a b
 | 0,_,_=>rfl
 | n+1,a,b=>by rw [qbj,qbj,qEu N xs v v' k n]
theorem t97 (N:Nat) (hN:9223372036854775807<N) (ys:List (Val (.int .i64))): ∀(xs:List Int) (i g:Nat) (k:Int→Option (qa [i3])),(∀x∈xs,inI x)→qZ (fun _ x s K=>chk (qan x) (qbj N ys 0 K N s (qG x))) i xs (g:Int) k=k (gL g xs:Nat)
 | [],_,_,_,_=>rfl
 | x::xs,i,g,k,hx=>by
   have h1:=hx x (by simp)
   rw [qZ,qd (show qan x from h1)]
   simp only [qG]
   rw [qFi _ _ _ _ _ _ _ (by unfold inI at h1;omega)]
   exact t97 N hN ys xs (i+1) _ k fun y hy=>hx y (by simp [hy])
def g97:G:={ps:=[i27,i3],rs:=[i3],dp:=true,pre:=fun x=>qgY x.1 x.2.1,fn:=fun x=>(qiS x.1 x.2.1,())}
theorem e97 (xs:List (Val (.int .i64))) (k:Int) (h:qgY xs k): ∃N,m97 N xs k=some (qiS xs k,()):=⟨9223372036854775808+xs.length,by
 rw [m97,qd (show qan k from h.2.1)]
 rw [q4 (F:=fun n i s=>qc6 _ xs _ n s i) (step:=fun _ x s K=>chk (qan x) (qbj (9223372036854775808+xs.length) xs 0 K (9223372036854775808+xs.length) s (qG x))) (k:=fun s=>some (s,())) h.1 ?_ ?_ _ _ (by omega)]
 ·exact t97 _ (by omega) xs xs 0 k.natAbs _ h.2.2
 ·intro n i s hi
  rw [qc6,qi (by omega),qd (by omega),qB hi]
  congr 1
  exact qEu ..
 ·intro n i s hi
  rw [qc6,qj (by omega)]⟩
theorem s97:Sound Try.prog 97 g97:=qq (tt:=tt) (Γ:=Γ97) hT (qe qyJ qp) hm (fn:=Try.f97) Try.func97 (c:=Try.f97.body.getD .skip) (by kernel_rfl) (by kernel_rfl) fun x hx=>by
 obtain ⟨N,h⟩:=e97 x.1 x.2.1 hx
 exact ⟨T97 N,p97,qm _,qKv N,(qHU N x.1 x.2.1).trans h⟩
def qK (a:Val Y83):Bool:=decide ((a.1:List Int).length≤4)&&qv a.2.1&&(a.1:List Int).all qv&&decide (((gL (Int.natAbs a.2.1) a.1:Nat):Int)≤1)
noncomputable def qdg (N:Nat) (v2:List (Val (.int .i64))) (v3:Int) (v4:Bool) (k0:Unit→Option (qa [i4])):Nat→Int→Option (qa [i4])
 | 0,_=>none
 | n+1,v1=>bif (decide (v1<(v2.length:Int)))then (chk (0≤v1∧v1<(v2.length:Int)) (bif (!((qv ((v2.getD v1.toNat (qc (.int .i64))):Int)):Bool))then (some (false,()))else (qdg N v2 v3 v4 k0 n (IntKind.i64.wrap (v1+(1:Int))))))else (k0 ())
noncomputable def m96 (N:Nat) (v0:Val Y83):Option (qa [i4]):=bif (decide ((4:Int)<((v0.1:List (Val (.int .i64))).length:Int)))then (some (false,()))else (bif (!((qv (v0.2.1:Int)):Bool))then (some (false,()))else (qdg N (v0.1:List (Val (.int .i64))) (v0.2.1:Int) (v0.2.2:Bool) (fun (_:Unit)=>chk (qgY (v0.1:List (Val (.int .i64))) (v0.2.1:Int)) (some ((decide (((qiS (v0.1:List (Val (.int .i64))) (v0.2.1:Int)):Int)≤(1:Int))),()))) N (0:Int)))
def Γ96:Gam:=[(97,g97),(98,g98)]
theorem qBb:Gam.get Γ96 97=some g97:=rfl
theorem qx7:Gam.get Γ96 98=some g98:=rfl
def qkb:Nm:=⟨[false,true,false,true],[],false⟩
theorem qA8:qkb.zero=false:=rfl
theorem qvK:qkb.fix=[]:=rfl
theorem quF:qkb.keep=[false,true,false,true]:=rfl
def qlT:Nm:=⟨[false,true],[],false⟩
theorem qpm:qlT.zero=false:=rfl
theorem qzV:qlT.fix=[]:=rfl
theorem qyC:qlT.keep=[false,true]:=rfl
def qgJ:Nat→Tree:=fun _=> .done
def qjG:Nat→Nm:=fun i=>if i=4 then qkb else ⟨[],[],false⟩
def qkF:Nat→Option Jn:=fun _=>none
def qg9:Nat→Option Nm:=fun i=>if i=0 then some qlT else none
def qjN:Nat→Option Nm:=fun _=>none
theorem p96:qg qgJ (Try.f96.body.getD .skip)=true:=by kernel_rfl
def T96 (N:Nat):Tab:={tr:=qgJ,lp:=qjG,ex:=qg9,rg:=qjN,jn:=qkF,fuel:=N}
theorem qBv (N:Nat):(T96 N).pins=false:=rfl
theorem qO1 (N:Nat):qk Try.prog (T96 N):=qn fun _=>rfl
theorem qvp (N:Nat) (i:Nat):(T96 N).tr i=qgJ i:=rfl
theorem quR (N:Nat) (i:Nat):(T96 N).lp i=qjG i:=rfl
theorem qBe (N:Nat) (i:Nat):(T96 N).ex i=qg9 i:=rfl
theorem qu6 (N:Nat) (i:Nat):(T96 N).rg i=qjN i:=rfl
theorem qss (N:Nat) (i:Nat):(T96 N).jn i=qkF i:=rfl
theorem qvy (N:Nat):(T96 N).fuel=N:=rfl
noncomputable def qEj:Code:=cut [true,true,false,true,true,true] (Try.f96.body.getD .skip)
theorem qL1 {N:Nat} {Q:X→St→Option (qa [i4])} {e:List LV} {h:List Blk}:qb tt Γ96 (T96 N) qEj Q ⟨e,h⟩=qb tt Γ96 (T96 N) (cut [true,true,false,true,true,true] (Try.f96.body.getD .skip)) Q ⟨e,h⟩:=rfl
theorem qPa (N:Nat) (v2:List (Val (.int .i64))) (v3:Int) (v4:Bool) {k0:Unit→Option (qa [i4])} {Q:X→St→Option (qa [i4])} {c:Code} (hc:c=qEj) (hret: ∀st,Q .ret st=qy tt true [i4] [.tmp 2] st) (h0:Q (.exit 0) ⟨[u,.one (.ptr 0 0 0),u,u,u,u,u,u,u,u,u,u,u,u,u,u,u,u,u,u,u,u,u,u,u,u,u,u,u,u,u,u,u,u],[.box [.sl 3 (.int .i64) v2 1,.int .i64 v3,.bool v4]]⟩=k0 ()): ∀(n:Nat) (v1:Int),qx (qb tt Γ96 (T96 N) c) false qkb Q n ⟨[u,.one (.ptr 0 0 0),u,.one (.int .i64 v1),u,u,u,u,u,u,u,u,u,u,u,u,u,u,u,u,u,u,u,u,u,u,u,u,u,u,u,u,u,u],[.box [.sl 3 (.int .i64) v2 1,.int .i64 v3,.bool v4]]⟩=qdg N v2 v3 v4 k0 n v1:=by
 subst hc;intro n;induction n with
 | zero=>intros;rfl
 | succ n ih=>
   intro v1
   rw [qI,qL1,qdg];unfold Try.f96
   simp (maxSteps:=10000000) -implicitDefEqProofs [qvp,qgJ,quR,qjG,qBe,qg9,qu6,qjN,qss,qkF,qvy,qBv,qvK,quF,qA8,qzV,qyC,qpm,qBb,qx7,g97,g98,hret,h0,ih]
theorem qQl (N:Nat) (v0:Val Y83):qb tt Γ96 (T96 N) (Try.f96.body.getD .skip) (qh tt true [i4] [.tmp 2]) (ql [i83] 34 (v0,()))=m96 N v0:=by
 unfold Try.f96
 simp (maxSteps:=10000000) -implicitDefEqProofs [qvp,qgJ,quR,qjG,qBe,qg9,qu6,qjN,qss,qkF,qvy,qBv,qvK,quF,qA8,qzV,qyC,qpm,qBb,qx7,g97,g98]
 rewrite [qPa (k0:=(fun (_:Unit)=>chk (qgY (v0.1:List (Val (.int .i64))) (v0.2.1:Int)) (some ((decide (((qiS (v0.1:List (Val (.int .i64))) (v0.2.1:Int)):Int)≤(1:Int))),())))) N _ _ _ ?_ ?_ ?_]
 ·rewrite [m96];first | rfl | simp (maxSteps:=10000000) -implicitDefEqProofs []
 ·rfl
 ·intro;simp only [qD,qE,qF,qC]
 ·simp (maxSteps:=10000000) -implicitDefEqProofs [qvp,qgJ,quR,qjG,qBe,qg9,qu6,qjN,qss,qkF,qvy,qBv,qvK,quF,qA8,qzV,qyC,qpm,qBb,qx7,g97,g98]
noncomputable def qde (N:Nat) (v1:List (Val (.int .i64))) (v2:Int) (v4:List (Val (.int .i64))) (v5:Int) (v6:Bool) (k0:Unit→Option (qa [i4])):Nat→Int→Option (qa [i4])
 | 0,_=>none
 | n+1,v3=>bif (decide (v3<v2))then (chk (0≤v3∧v3<(v1.length:Int)) (bif (!((qv ((v1.getD v3.toNat (qc (.int .i64))):Int)):Bool))then (some (false,()))else (qde N v1 v2 v4 v5 v6 k0 n (IntKind.i64.wrap (v3+(1:Int))))))else (k0 ())
noncomputable def m93 (N:Nat) (v0:Val Y83):Option (qa [i4]):=bif (decide ((4:Int)<((v0.1:List (Val (.int .i64))).length:Int)))then (some (false,()))else (bif (!((qv (v0.2.1:Int)):Bool))then (some (false,()))else (qde N (v0.1:List (Val (.int .i64))) ((v0.1:List (Val (.int .i64))).length:Int) (v0.1:List (Val (.int .i64))) (v0.2.1:Int) (v0.2.2:Bool) (fun (_:Unit)=>chk (qe7 (v0.1:List (Val (.int .i64)))) (chk (qaC ((qak (v0.1:List (Val (.int .i64)))):Int) (v0.2.1:Int)) (some ((decide (((qw ((qak (v0.1:List (Val (.int .i64)))):Int) (v0.2.1:Int)):Int)≤(1:Int))),())))) N (0:Int)))
def Γ93:Gam:=[(94,g94),(95,g95),(109,qaH)]
theorem quz:Gam.get Γ93 94=some g94:=rfl
theorem qr5:Gam.get Γ93 95=some g95:=rfl
theorem quZ:Gam.get Γ93 109=some qaH:=rfl
def qkd:Nm:=⟨[false,true,false,false,false,false,false,false,false,false,false,false,false,false,false,false,true,true,true],[],false⟩
theorem qsZ:qkd.zero=false:=rfl
theorem qve:qkd.fix=[]:=rfl
theorem qrj:qkd.keep=[false,true,false,false,false,false,false,false,false,false,false,false,false,false,false,false,true,true,true]:=rfl
def qn4:Nm:=⟨[false,true],[],false⟩
theorem qp5:qn4.zero=false:=rfl
theorem qAn:qn4.fix=[]:=rfl
theorem qxH:qn4.keep=[false,true]:=rfl
def qn0:Nm:=⟨[false,false,true],[],false⟩
theorem qwD:qn0.zero=false:=rfl
theorem qtV:qn0.fix=[]:=rfl
theorem qzA:qn0.keep=[false,false,true]:=rfl
def qgZ:Nat→Tree:=fun i=>if i=9 then .quiet 0 (.quiet 1 (.alt 2 (.quiet 3 (.quiet 4 (.alt 5 (.quiet 6 (.quiet 7 .done)) .stop))) (.alt 3 (.alt 2 (.quiet 4 (.alt 5 (.quiet 6 (.quiet 7 .done)) .stop)) (.alt 4 (.alt 2 (.alt 5 (.quiet 6 (.quiet 7 .done)) .stop) .stop) .stop)) .stop)))else .done
def qk3:Nat→Nm:=fun i=>if i=4 then qkd else ⟨[],[],false⟩
def qiJ:Nat→Option Jn:=fun _=>none
def qg5:Nat→Option Nm:=fun i=>if i=0 then some qn4 else none
def qkg:Nat→Option Nm:=fun i=>if i=9 then some qn0 else none
theorem p93:qg qgZ (Try.f93.body.getD .skip)=true:=by kernel_rfl
def T93 (N:Nat):Tab:={tr:=qgZ,lp:=qk3,ex:=qg5,rg:=qkg,jn:=qiJ,fuel:=N}
theorem qsk (N:Nat):(T93 N).pins=false:=rfl
theorem qPL (N:Nat):qk Try.prog (T93 N):=qn fun _=>rfl
theorem qwu (N:Nat) (i:Nat):(T93 N).tr i=qgZ i:=rfl
theorem qvv (N:Nat) (i:Nat):(T93 N).lp i=qk3 i:=rfl
theorem qvl (N:Nat) (i:Nat):(T93 N).ex i=qg5 i:=rfl
theorem qp3 (N:Nat) (i:Nat):(T93 N).rg i=qkg i:=rfl
theorem qAe (N:Nat) (i:Nat):(T93 N).jn i=qiJ i:=rfl
theorem qwG (N:Nat):(T93 N).fuel=N:=rfl
noncomputable def qC1:Code:=cut [true,true,false,true,true,true] (Try.f93.body.getD .skip)
theorem qOr {N:Nat} {Q:X→St→Option (qa [i4])} {e:List LV} {h:List Blk}:qb tt Γ93 (T93 N) qC1 Q ⟨e,h⟩=qb tt Γ93 (T93 N) (cut [true,true,false,true,true,true] (Try.f93.body.getD .skip)) Q ⟨e,h⟩:=rfl
theorem qH3 (N:Nat) (v1:List (Val (.int .i64))) (v2:Int) (v4:List (Val (.int .i64))) (v5:Int) (v6:Bool) {k0:Unit→Option (qa [i4])} {Q:X→St→Option (qa [i4])} {c:Code} (hc:c=qC1) (hret: ∀st,Q .ret st=qy tt true [i4] [.tmp 2] st) (h0:Q (.exit 0) ⟨[u,.one (.ptr 0 0 0),u,u,u,u,u,u,u,u,u,u,u,u,u,u,u,u,u,u,u,u,u,u,u,u,u,u,u,u,u,u,u],[.box [.sl 3 (.int .i64) v4 1,.int .i64 v5,.bool v6]]⟩=k0 ()): ∀(n:Nat) (v3:Int),qx (qb tt Γ93 (T93 N) c) false qkd Q n ⟨[u,.one (.ptr 0 0 0),u,u,u,u,u,u,u,u,u,u,u,u,u,u,.one (.sl 3 (.int .i64) v1 1),.one (.int .i64 v2),.one (.int .i64 v3),u,u,u,u,u,u,u,u,u,u,u,u,u,u],[.box [.sl 3 (.int .i64) v4 1,.int .i64 v5,.bool v6]]⟩=qde N v1 v2 v4 v5 v6 k0 n v3:=by
 subst hc;intro n;induction n with
 | zero=>intros;rfl
 | succ n ih=>
   intro v3
   rw [qI,qOr,qde];unfold Try.f93
   simp (maxSteps:=10000000) -implicitDefEqProofs [qwu,qgZ,qvv,qk3,qvl,qg5,qp3,qkg,qAe,qiJ,qwG,qsk,qve,qrj,qsZ,qAn,qxH,qp5,qtV,qzA,qwD,quz,qr5,quZ,g94,g95,qaH,hret,h0,ih]
theorem qPm (N:Nat) (v0:Val Y83):qb tt Γ93 (T93 N) (Try.f93.body.getD .skip) (qh tt true [i4] [.tmp 2]) (ql [i83] 33 (v0,()))=m93 N v0:=by
 unfold Try.f93
 simp (maxSteps:=10000000) -implicitDefEqProofs [qwu,qgZ,qvv,qk3,qvl,qg5,qp3,qkg,qAe,qiJ,qwG,qsk,qve,qrj,qsZ,qAn,qxH,qp5,qtV,qzA,qwD,quz,qr5,quZ,g94,g95,qaH]
 rewrite [qH3 (k0:=(fun (_:Unit)=>chk (qe7 (v0.1:List (Val (.int .i64)))) (chk (qaC ((qak (v0.1:List (Val (.int .i64)))):Int) (v0.2.1:Int)) (some ((decide (((qw ((qak (v0.1:List (Val (.int .i64)))):Int) (v0.2.1:Int)):Int)≤(1:Int))),()))))) N _ _ _ _ _ ?_ ?_ ?_]
 ·rewrite [m93];first | rfl | simp (maxSteps:=10000000) -implicitDefEqProofs []
 ·rfl
 ·intro;simp only [qD,qE,qF,qC]
 ·simp (maxSteps:=10000000) -implicitDefEqProofs [qwu,qgZ,qvv,qk3,qvl,qg5,qp3,qkg,qAe,qiJ,qwG,qsk,qve,qrj,qsZ,qAn,qxH,qp5,qtV,qzA,qwD,quz,qr5,quZ,g94,g95,qaH]
theorem qct {n:Int} (h:qv n=true):inI n:=by
 unfold qv at h;unfold inI;have:=of_decide_eq_true h;omega
def g96:G:={ps:=[i83],rs:=[i4],dp:=true,pre:=fun _=>True,fn:=fun x=>(qK x.1,())}
def g93:G:={ps:=[i83],rs:=[i4],dp:=true,pre:=fun _=>True,fn:=fun x=>(qK x.1,())}
theorem t96 (N:Nat) (xs:List (Val (.int .i64))) (c:Int) (b:Bool) (K:Unit→Option (qa [i4])) (hl:xs.length≤1048576) (n:Nat) (hn:xs.length<n):qdg N xs c b K n 0=bif List.all (α:=Int) xs qv then K ()else some (false,()):=
 (q4 (F:=fun n i (_:Unit)=>qdg N xs c b K n i) (step:=fun _ x _ K=>bif qv x then K ()else some (false,())) (k:=K) hl (fun n i s hi=>by rw [qdg,qi (by omega),qd (by omega),qB hi,q9]) (fun n i s hi=>by rw [qdg,qj (by omega)]) n () hn).trans (qaZ xs 0)
theorem t93 (N:Nat) (xs ys:List (Val (.int .i64))) (c:Int) (b:Bool) (K:Unit→Option (qa [i4])) (hl:xs.length≤1048576) (n:Nat) (hn:xs.length<n):qde N xs xs.length ys c b K n 0=bif List.all (α:=Int) xs qv then K ()else some (false,()):=
 (q4 (F:=fun n i (_:Unit)=>qde N xs xs.length ys c b K n i) (step:=fun _ x _ K=>bif qv x then K ()else some (false,())) (k:=K) hl (fun n i s hi=>by rw [qde,qi (by omega),qd (by omega),qB hi,q9]) (fun n i s hi=>by rw [qde,qj (by omega)]) n () hn).trans (qaZ xs 0)
theorem e96 (a:Val Y83): ∃N,m96 N a=some (qK a,()):=⟨(a.1:List (Val (.int .i64))).length+1,by
 obtain ⟨xs,c,b⟩:=a
 change List (Val (.int .i64))at xs
 change Int at c
 change Bool at b
 rw [m96,qK]
 dsimp only
 by_cases h4:xs.length≤4
 ·rw [qj (by omega)]
  cases hc:qv c with
  | false=>simp
  | true=>
    rw [t96 _ xs _ _ _ (by omega) _ (Nat.lt_succ_self _)]
    cases ha:List.all (α:=Int) xs qv with
    | false=>simp
    | true=>
      rw [qd (show qgY xs c from ⟨by omega,qct hc,fun x hx=>qct (List.all_eq_true.1 ha x hx)⟩)]
      simp [h4,qiS]
      rfl
 ·rw [qi (by omega)]
  simp [h4]⟩
theorem s96:Sound Try.prog 96 g96:=qq (tt:=tt) (Γ:=Γ96) hT (qe s97 (qe s98 qp)) hm (fn:=Try.f96) Try.func96 (c:=Try.f96.body.getD .skip) (by kernel_rfl) (by kernel_rfl) fun x hx=>by
 obtain ⟨N,h⟩:=e96 x.1
 exact ⟨T96 N,p96,qm _,qO1 N,(qQl N x.1).trans h⟩
theorem qAV: ∀(xs:List Int) (g:Nat),(g:Int)≤9223372036854775807→(∀x∈xs,inI x)→inI (gL g xs:Nat)
 | [],g,h,_=>by unfold inI gL;omega
 | x::xs,g,h,hx=>qAV xs _ (qCx h (hx x (by simp))).2 fun y hy=>hx y (by simp [hy])
theorem e93 (a:Val Y83): ∃N,m93 N a=some (qK a,()):=⟨(a.1:List (Val (.int .i64))).length+1,by
 obtain ⟨xs,c,b⟩:=a
 change List (Val (.int .i64))at xs
 change Int at c
 change Bool at b
 rw [m93,qK]
 dsimp only
 by_cases h4:xs.length≤4
 ·rw [qj (by omega)]
  cases hc:qv c with
  | false=>simp
  | true=>
    rw [t93 _ xs _ _ _ _ (by omega) _ (Nat.lt_succ_self _)]
    cases ha:List.all (α:=Int) xs qv with
    | false=>simp
    | true=>
      have hx: ∀x∈xs,inI x:=fun x hx=>qct (List.all_eq_true.1 ha x hx)
      have e:Nat.gcd (gL 0 xs) c.natAbs=gL c.natAbs xs:=by rw [←qpP,Nat.gcd_zero_left]
      rw [qd (show qe7 xs from ⟨by omega,hx⟩),qd (show qaC (qak xs) c from ⟨qAV xs 0 (by omega) hx,qct hc⟩)]
      simp [h4,qak,qw,e]
 ·rw [qi (by omega)]
  simp [h4]⟩
theorem s93:Sound Try.prog 93 g93:=qq (tt:=tt) (Γ:=Γ93) hT (qe s94 (qe s95 (qe qmv qp))) hm (fn:=Try.f93) Try.func93 (c:=Try.f93.body.getD .skip) (by kernel_rfl) (by kernel_rfl) fun x hx=>by
 obtain ⟨N,h⟩:=e93 x.1
 exact ⟨T93 N,p93,qm _,qPL N,(qPm N x.1).trans h⟩
end Go.T
