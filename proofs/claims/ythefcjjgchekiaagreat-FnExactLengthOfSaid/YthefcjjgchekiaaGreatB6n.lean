/- Negated atoms. -/
import Derived.Test.YthefcjjgchekiaaGreatB1
set_option linter.unusedSimpArgs false
set_option linter.unusedVariables false
namespace Go.T
open Go Go.Proofs
set_option maxHeartbeats 4000000
set_option maxRecDepth 100000
def qt (a:Val qa):Val qa×Bool:=bif qP a then ((List.map (α:=Int) (fun x=> -x) a.1,(-(a.2.1:Int),!a.2.2)),true)else (([],((0:Int),false)),false)
def qoI (a:Val qa):Prop:=qbF a
def qeV:G:={ps:=[ql],rs:=[ql,i4],dp:=true,pre:=fun _=>True,fn:=fun x=>((qt x.1).1,(qt x.1).2,())}
def qeZ:G:={ps:=[ql],rs:=[ql,i4],dp:=true,pre:=fun x=>qoI x.1,fn:=fun x=>((qt x.1).1,(qt x.1).2,())}
noncomputable def qhO (N:Nat) (v1:List (Val (.int .i64))) (v2:Int) (v4:Int) (v5:Bool) (v6:Int) (v7:Bool) (k0:(List (Val (.int .i64)))→Option (qc [ql,i4])):Nat→Int→(List (Val (.int .i64)))→Option (qc [ql,i4])
 | 0,_,_=>none
 | n+1,v3,v8=>bif (decide (v3<v2))then (chk (0≤v3∧v3<(v1.length:Int)) (chk (0≤v3∧v3<(v8.length:Int)) (chk (v3.toNat<v8.length) (qhO N v1 v2 v4 v5 v6 v7 k0 n (IntKind.i64.wrap (v3+(1:Int))) (v8.set v3.toNat (IntKind.i64.wrap (0 - ((v1.getD v3.toNat (qb (.int .i64))):Int))))))))else (k0 v8)
noncomputable def qCM (N:Nat) (v0:Val qa):Option (qc [ql,i4]):=bif (!((qP v0):Bool))then (some ((([]:List (Val (.int .i64))),(0:Int),false),false,()))else (chk (0≤((v0.1:List (Val (.int .i64))).length:Int)∧((v0.1:List (Val (.int .i64))).length:Int)≤((v0.1:List (Val (.int .i64))).length:Int)∧((v0.1:List (Val (.int .i64))).length:Int)≤1048576) (qhO N (v0.1:List (Val (.int .i64))) ((v0.1:List (Val (.int .i64))).length:Int) (0:Int) false (IntKind.i64.wrap (0 - (v0.2.1:Int))) (!(v0.2.2:Bool)) (fun (v10:List (Val (.int .i64)))=>some ((v10,(IntKind.i64.wrap (0 - (v0.2.1:Int))),(!(v0.2.2:Bool))),true,())) N (0:Int) (List.replicate ((v0.1:List (Val (.int .i64))).length:Int).toNat (qb (.int .i64)))))
def qpq:Gam:=[(279,qaV)]
theorem qRw:Gam.get qpq 279=some qaV:=rfl
def quW:Nm:=⟨[false,false,true,false,true,false,false,false,false,false,false,false,false,false,false,false,false,false,false,false,false,false,false,true,true,true],[],false⟩
theorem qYr:quW.zero=false:=rfl
theorem qIb:quW.fix=[]:=rfl
theorem qQa:quW.keep=[false,false,true,false,true,false,false,false,false,false,false,false,false,false,false,false,false,false,false,false,false,false,false,true,true,true]:=rfl
def qD8:Nm:=⟨[false,false,true,false,true],[],false⟩
theorem q4f:qD8.zero=false:=rfl
theorem qOh:qD8.fix=[]:=rfl
theorem qX0:qD8.keep=[false,false,true,false,true]:=rfl
def qFh:Nm:=⟨[false,true,true,false,true],[],false⟩
theorem qRv:qFh.zero=false:=rfl
theorem q0x:qFh.fix=[]:=rfl
theorem qIx:qFh.keep=[false,true,true,false,true]:=rfl
def qns:Nat→Tree:=fun i=>if i=3 then .grow 0 (.grow 1 (.grow 2 (.grow 4 (.grow 5 (.first 6 (.grow 7 (.grow 8 (.first 9 (.alt 3 (.first 10 (.alt 11 (.alt 12 .done .stop) .stop)) (.alt 11 (.alt 3 (.quiet 10 (.alt 12 .done .stop)) .stop) .stop))))))))))else .done
def qrf:Nat→Nm:=fun i=>if i=5 then quW else ⟨[],[],false⟩
def qvg:Nat→Option Jn:=fun _=>none
def qyY:Nat→Option Nm:=fun i=>if i=0 then some qD8 else none
def qsU:Nat→Option Nm:=fun i=>if i=3 then some qFh else none
theorem zfB:qh qns (Tryz.f221.body.getD .skip)=true:=by kernel_rfl
def qd1 (N:Nat):Tab:={tr:=qns,lp:=qrf,ex:=qyY,rg:=qsU,jn:=qvg,fuel:=N}
theorem qIS (N:Nat):(qd1 N).pins=false:=rfl
theorem zqL (N:Nat):qk Tryz.prog (qd1 N):=qo fun _=>rfl
theorem q3a (N:Nat) (i:Nat):(qd1 N).tr i=qns i:=rfl
theorem qZg (N:Nat) (i:Nat):(qd1 N).lp i=qrf i:=rfl
theorem qKw (N:Nat) (i:Nat):(qd1 N).ex i=qyY i:=rfl
theorem qTE (N:Nat) (i:Nat):(qd1 N).rg i=qsU i:=rfl
theorem qIm (N:Nat) (i:Nat):(qd1 N).jn i=qvg i:=rfl
theorem qJ7 (N:Nat):(qd1 N).fuel=N:=rfl
noncomputable def q86:Code:=cut [true,true,true,false,true,true,true] (Tryz.f221.body.getD .skip)
theorem zyv {N:Nat} {Q:X→St→Option (qc [ql,i4])} {e:List LV} {h:List Blk}:qf tt qpq (qd1 N) q86 Q ⟨e,h⟩=qf tt qpq (qd1 N) (cut [true,true,true,false,true,true,true] (Tryz.f221.body.getD .skip)) Q ⟨e,h⟩:=rfl
theorem zsC (N:Nat) (v1:List (Val (.int .i64))) (v2:Int) (v4:Int) (v5:Bool) (v6:Int) (v7:Bool) {k0:(List (Val (.int .i64)))→Option (qc [ql,i4])} {Q:X→St→Option (qc [ql,i4])} {c:Code} (hc:c=q86) (hret: ∀st,Q .ret st=qC tt true [ql,i4] [.cell 2 108,.tmp 3] st) (h0: ∀(v9:List (Val (.int .i64))),Q (.exit 0) ⟨[u,u,.one (.ptr 0 0 0),u,.one (.ptr 1 0 0),u,u,u,u,u,u,u,u,u,u,u,u,u,u,u,u,u,u,u,u,u,u,u,u,u,u,u,u,u,u,u,u,u],[.box [.nils,.int .i64 v4,.bool v5],.box [.own 2,.int .i64 v6,.bool v7],.row 3 (.int .i64) v9 true true 0]⟩=k0 v9): ∀(n:Nat) (v3:Int) (v8:List (Val (.int .i64))),qD (qf tt qpq (qd1 N) c) false quW Q n ⟨[u,u,.one (.ptr 0 0 0),u,.one (.ptr 1 0 0),u,u,u,u,u,u,u,u,u,u,u,u,u,u,u,u,u,u,.one (.sl 3 (.int .i64) v1 3),.one (.int .i64 v2),.one (.int .i64 v3),u,u,u,u,u,u,u,u,u,u,u,u],[.box [.nils,.int .i64 v4,.bool v5],.box [.own 2,.int .i64 v6,.bool v7],.row 3 (.int .i64) v8 true true 0]⟩=qhO N v1 v2 v4 v5 v6 v7 k0 n v3 v8:=by
 subst hc;intro n;induction n with
 | zero=>intros;rfl
 | succ n ih=>
   intro v3 v8
   rw [qN,zyv,qhO];unfold Tryz.f221
   simp (maxSteps:=10000000) -implicitDefEqProofs [q3a,qns,qZg,qrf,qKw,qyY,qTE,qsU,qIm,qvg,qJ7,qIS,qIb,qQa,qYr,qOh,qX0,q4f,q0x,qIx,qRv,qRw,qaV,hret,h0,ih]
theorem zns (N:Nat) (v0:Val qa):qf tt qpq (qd1 N) (Tryz.f221.body.getD .skip) (qm tt true [ql,i4] [.cell 2 108,.tmp 3]) (qp [ql] 38 (v0,()))=qCM N v0:=by
 unfold Tryz.f221
 simp (maxSteps:=10000000) -implicitDefEqProofs [q3a,qns,qZg,qrf,qKw,qyY,qTE,qsU,qIm,qvg,qJ7,qIS,qIb,qQa,qYr,qOh,qX0,q4f,q0x,qIx,qRv,qRw,qaV]
 rewrite [zsC (k0:=(fun (v10:List (Val (.int .i64)))=>some ((v10,(IntKind.i64.wrap (0 - (v0.2.1:Int))),(!(v0.2.2:Bool))),true,()))) N _ _ _ _ _ _ ?_ ?_ ?_]
 ·rewrite [qCM];first | rfl | simp (maxSteps:=10000000) -implicitDefEqProofs []
 ·rfl
 ·intro;simp only [qK,qL,qJ,qB]
 ·intro v10;simp (maxSteps:=10000000) -implicitDefEqProofs [q3a,qns,qZg,qrf,qKw,qyY,qTE,qsU,qIm,qvg,qJ7,qIS,qIb,qQa,qYr,qOh,qX0,q4f,q0x,qIx,qRv,qRw,qaV]
noncomputable def qiP (N:Nat) (v2:List (Val (.int .i64))) (v3:Int) (v4:Bool) (v5:Int) (v6:Bool) (v7:Int) (v8:Bool) (k0:(List (Val (.int .i64)))→Option (qc [ql,i4])):Nat→Int→(List (Val (.int .i64)))→Option (qc [ql,i4])
 | 0,_,_=>none
 | n+1,v1,v9=>bif (decide (v1<(v2.length:Int)))then (chk (0≤v1∧v1<(v2.length:Int)) (chk (v9.length+([(IntKind.i64.wrap (0 - ((v2.getD v1.toNat (qb (.int .i64))):Int)))]:List (Val (.int .i64))).length≤1048576) (qiP N v2 v3 v4 v5 v6 v7 v8 k0 n (IntKind.i64.wrap (v1+(1:Int))) (v9++([(IntKind.i64.wrap (0 - ((v2.getD v1.toNat (qb (.int .i64))):Int)))]:List (Val (.int .i64)))))))else (k0 v9)
noncomputable def qGB (N:Nat) (v0:Val qa):Option (qc [ql,i4]):=bif (!((qP v0):Bool))then (some ((([]:List (Val (.int .i64))),(0:Int),false),false,()))else (qiP N (v0.1:List (Val (.int .i64))) (v0.2.1:Int) (v0.2.2:Bool) (0:Int) false (IntKind.i64.wrap (0 - (v0.2.1:Int))) (!(v0.2.2:Bool)) (fun (v11:List (Val (.int .i64)))=>some ((v11,(IntKind.i64.wrap (0 - (v0.2.1:Int))),(!(v0.2.2:Bool))),true,())) N (0:Int) ([]:List (Val (.int .i64))))
def qoB:Gam:=[(193,qa9)]
theorem q3A:Gam.get qoB 193=some qa9:=rfl
def qu0:Nm:=⟨[false,true,true,false,true,true],[.box 4 0 3 (.int .i64)],false⟩
theorem qKL:qu0.zero=false:=rfl
theorem qVk:qu0.fix=[.box 4 0 3 (.int .i64)]:=rfl
theorem qLU:qu0.keep=[false,true,true,false,true,true]:=rfl
def qGo:Nm:=⟨[false,false,true,false,true],[],false⟩
theorem qZb:qGo.zero=false:=rfl
theorem qMx:qGo.fix=[]:=rfl
theorem qS9:qGo.keep=[false,false,true,false,true]:=rfl
def qAy:Nm:=⟨[false,true,true,false,true,true],[],false⟩
theorem qQx:qAy.zero=false:=rfl
theorem qTq:qAy.fix=[]:=rfl
theorem qOd:qAy.keep=[false,true,true,false,true,true]:=rfl
def qmS:Nat→Tree:=fun i=>if i=7 then .quiet 2 (.quiet 3 (.quiet 4 (.quiet 5 (.quiet 6 (.quiet 7 (.alt 0 (.alt 1 (.alt 8 (.alt 9 (.quiet 10 (.alt 11 .done .stop)) .stop) .stop) (.alt 8 (.quiet 1 (.alt 9 (.quiet 10 (.alt 11 .done .stop)) .stop)) .stop)) (.alt 8 (.quiet 0 (.quiet 1 (.alt 9 (.quiet 10 (.alt 11 .done .stop)) .stop))) .stop)))))))else .done
def qxn:Nat→Nm:=fun i=>if i=5 then qu0 else ⟨[],[],false⟩
def qtA:Nat→Option Jn:=fun _=>none
def qpS:Nat→Option Nm:=fun i=>if i=0 then some qGo else none
def qxk:Nat→Option Nm:=fun i=>if i=7 then some qAy else none
theorem zdX:qh qmS (Tryz.f218.body.getD .skip)=true:=by kernel_rfl
def qdv (N:Nat):Tab:={tr:=qmS,lp:=qxn,ex:=qpS,rg:=qxk,jn:=qtA,fuel:=N}
theorem qIs (N:Nat):(qdv N).pins=false:=rfl
theorem zeH (N:Nat):qk Tryz.prog (qdv N):=qo fun _=>rfl
theorem qXQ (N:Nat) (i:Nat):(qdv N).tr i=qmS i:=rfl
theorem q3I (N:Nat) (i:Nat):(qdv N).lp i=qxn i:=rfl
theorem qWF (N:Nat) (i:Nat):(qdv N).ex i=qpS i:=rfl
theorem qZi (N:Nat) (i:Nat):(qdv N).rg i=qxk i:=rfl
theorem qKK (N:Nat) (i:Nat):(qdv N).jn i=qtA i:=rfl
theorem qTR (N:Nat):(qdv N).fuel=N:=rfl
noncomputable def q42:Code:=cut [true,true,true,false,true,true,true] (Tryz.f218.body.getD .skip)
theorem zkH {N:Nat} {Q:X→St→Option (qc [ql,i4])} {e:List LV} {h:List Blk}:qf tt qoB (qdv N) q42 Q ⟨e,h⟩=qf tt qoB (qdv N) (cut [true,true,true,false,true,true,true] (Tryz.f218.body.getD .skip)) Q ⟨e,h⟩:=rfl
theorem zoX (N:Nat) (v2:List (Val (.int .i64))) (v3:Int) (v4:Bool) (v5:Int) (v6:Bool) (v7:Int) (v8:Bool) {k0:(List (Val (.int .i64)))→Option (qc [ql,i4])} {Q:X→St→Option (qc [ql,i4])} {c:Code} (hc:c=q42) (hret: ∀st,Q .ret st=qC tt true [ql,i4] [.cell 2 108,.tmp 3] st) (h0: ∀(v10:List (Val (.int .i64))),Q (.exit 0) ⟨[u,u,.one (.ptr 0 0 0),u,.one (.ptr 1 0 0),u,u,u,u,u,u,u,u,u,u,u,u,u,u,u,u,u,u,u,u,u,u,u,u,u,u,u,u,u,u,u],[.box [.nils,.int .i64 v5,.bool v6],.box [.own 2,.int .i64 v7,.bool v8],.row 3 (.int .i64) v10 true true 0]⟩=k0 v10): ∀(n:Nat) (v1:Int) (v9:List (Val (.int .i64))),qD (qf tt qoB (qdv N) c) false qu0 Q n ⟨[u,.one (.ptr 0 0 0),.one (.ptr 1 0 0),u,.one (.ptr 2 0 0),.one (.int .i64 v1),u,u,u,u,u,u,u,u,u,u,u,u,u,u,u,u,u,u,u,u,u,u,u,u,u,u,u,u,u,u],[.box [.sl 3 (.int .i64) v2 4,.int .i64 v3,.bool v4],.box [.nils,.int .i64 v5,.bool v6],.box [.own 3,.int .i64 v7,.bool v8],.row 3 (.int .i64) v9 true true 0]⟩=qiP N v2 v3 v4 v5 v6 v7 v8 k0 n v1 v9:=by
 subst hc;intro n;induction n with
 | zero=>intros;rfl
 | succ n ih=>
   intro v1 v9
   rw [qN,zkH,qiP];unfold Tryz.f218
   simp (maxSteps:=10000000) -implicitDefEqProofs [qXQ,qmS,q3I,qxn,qWF,qpS,qZi,qxk,qKK,qtA,qTR,qIs,qVk,qLU,qKL,qMx,qS9,qZb,qTq,qOd,qQx,q3A,qa9,hret,h0,ih]
theorem zy3 (N:Nat) (v0:Val qa):qf tt qoB (qdv N) (Tryz.f218.body.getD .skip) (qm tt true [ql,i4] [.cell 2 108,.tmp 3]) (qp [ql] 36 (v0,()))=qGB N v0:=by
 unfold Tryz.f218
 simp (maxSteps:=10000000) -implicitDefEqProofs [qXQ,qmS,q3I,qxn,qWF,qpS,qZi,qxk,qKK,qtA,qTR,qIs,qVk,qLU,qKL,qMx,qS9,qZb,qTq,qOd,qQx,q3A,qa9]
 rewrite [zoX (k0:=(fun (v11:List (Val (.int .i64)))=>some ((v11,(IntKind.i64.wrap (0 - (v0.2.1:Int))),(!(v0.2.2:Bool))),true,()))) N _ _ _ _ _ _ _ ?_ ?_ ?_]
 ·rewrite [qGB];first | rfl | simp (maxSteps:=10000000) -implicitDefEqProofs []
 ·rfl
 ·intro;simp only [qK,qL,qJ,qB]
 ·intro v11;simp (maxSteps:=10000000) -implicitDefEqProofs [qXQ,qmS,q3I,qxn,qWF,qpS,qZi,qxk,qKK,qtA,qTR,qIs,qVk,qLU,qKL,qMx,qS9,qZb,qTq,qOd,qQx,q3A,qa9]
theorem qek {x:Int} (h:inI x):IntKind.i64.wrap (0 - x)= -x:=by
 unfold inI at h
 rw [qaC (by omega) (by omega)];omega
theorem zvh (N:Nat) (co:List (Val (.int .i64))) (c:Int) (s:Bool) (a:Int) (b:Bool) (c':Int) (s':Bool) (K:List (Val (.int .i64))→Option (qc [ql,i4])) (hl:co.length≤1048576) (hx: ∀x∈co,inI x) (n:Nat) (hn:co.length<n):
 qiP N co c s a b c' s' K n 0 []=K (List.map (α:=Int) (fun x=> -x) co):=by
 refine (qaZ (F:=fun n i v=>qiP N co c s a b c' s' K n i v) (step:=fun _ x (s:List (Val (.int .i64))) K=>chk (s.length+[IntKind.i64.wrap (0 - x)].length≤1048576) (K (s++[IntKind.i64.wrap (0 - x)]))) (k:=K) hl (fun n i v hi=> ?_) (fun n i v hi=> ?_) n _ hn).trans ((qzS (f:=fun x=>IntKind.i64.wrap (0 - x)) (k:=K) co 0 [] (by simpa using hl)).trans ?_)
 ·rw [qiP,qj (by omega),qe (by omega),qI hi]
 ·rw [qiP,qi (by omega)]
 ·have e:List.map (fun x=>IntKind.i64.wrap (0 - x)) co=List.map (α:=Int) (fun x=> -x) co:=List.map_congr_left fun x hx'=>qek (hx x hx')
  rw [List.nil_append,e]
theorem zqX (a:Val qa) (h:qoI a): ∃N,qGB N a=some ((qt a).1,(qt a).2,()):=⟨List.length (α:=Int) a.1+1,by
 rw [qGB]
 unfold qt
 cases ha:qP a with
 | false=>rfl
 | true=>
   have hi:=qbb ha
   have hx:=qkM ha
   have h4:List.length (α:=Int) a.1≤4:=hi.1
   have t:=zvh (List.length (α:=Int) a.1+1) a.1 a.2.1 a.2.2 0 false (IntKind.i64.wrap (0 - (a.2.1:Int))) (!(a.2.2:Bool)) (fun v=>some ((v,(IntKind.i64.wrap (0 - (a.2.1:Int))),(!(a.2.2:Bool))),true,())) (by omega) hx _ (Nat.lt_succ_self _)
   simp only [Bool.not_true,cond_false,cond_true]
   rw [t,qek hi.2.1]⟩
theorem q6Q:Sound Tryz.prog 218 qeZ:=qr (tt:=tt) (Γ:=qoB) hT (qg qrx qn) hm (fn:=Tryz.f218) Tryz.func218 (c:=Tryz.f218.body.getD .skip) (by kernel_rfl) (by kernel_rfl) fun x hx=>by
 obtain ⟨N,h⟩:=zqX x.1 hx
 exact ⟨qdv N,zdX,qu _,zeH N,(zy3 N x.1).trans h⟩
theorem zxJ (N:Nat) (co:List (Val (.int .i64))) (a:Int) (b:Bool) (c:Int) (s:Bool) (K:List (Val (.int .i64))→Option (qc [ql,i4])) (hl:co.length≤1048576) (hx: ∀x∈co,inI x) (n:Nat) (hn:co.length<n):
 qhO N co co.length a b c s K n 0 (List.replicate co.length (qb (.int .i64)))=K (List.map (α:=Int) (fun x=> -x) co):=by
 have:=qkI (xs:=List.map (α:=Int) (fun x=> -x) co) (F:=fun n i s'=>qhO N co co.length a b c s K n i s') (k:=K) (qb (.int .i64)) (by simpa using hl) (fun n i s' hi hs=> ?_) (fun n i s' hi=> ?_) n (by simpa using hn)
 ·simpa using this
 ·have hi:i<co.length:=by simpa using hi
  have hs:s'.length=co.length:=by simpa using hs
  rw [qhO,qj (by omega),qe (by omega),qe (by omega),qe (by simp;omega),qI hi,qek (hx _ (List.getElem_mem hi))]
  simp
 ·have hi:co.length≤i:=by simpa using hi
  rw [qhO,qi (by omega)]
theorem zmm (a:Val qa): ∃N,qCM N a=some ((qt a).1,(qt a).2,()):=⟨List.length (α:=Int) a.1+1,by
 rw [qCM]
 unfold qt
 cases ha:qP a with
 | false=>rfl
 | true=>
   have hi:=qbb ha
   have hx:=qkM ha
   have h4:List.length (α:=Int) a.1≤4:=hi.1
   have t:=zxJ (List.length (α:=Int) a.1+1) a.1 0 false (IntKind.i64.wrap (0 - (a.2.1:Int))) (!(a.2.2:Bool)) (fun v=>some ((v,(IntKind.i64.wrap (0 - (a.2.1:Int))),(!(a.2.2:Bool))),true,())) (by omega) hx _ (Nat.lt_succ_self _)
   simp only [Bool.not_true,cond_false,cond_true]
   rw [qe (qik (by omega)),Int.toNat_natCast,t,qek hi.2.1]⟩
theorem q7H:Sound Tryz.prog 221 qeV:=qr (tt:=tt) (Γ:=qpq) hT (qg qnv qn) hm (fn:=Tryz.f221) Tryz.func221 (c:=Tryz.f221.body.getD .skip) (by kernel_rfl) (by kernel_rfl) fun x hx=>by
 obtain ⟨N,h⟩:=zmm x.1
 exact ⟨qd1 N,zfB,qu _,zqL N,(zns N x.1).trans h⟩
end Go.T
