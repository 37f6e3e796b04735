/- Negated atoms. -/
import Derived.Test.YtlhkmndfkjlodaaB1
set_option linter.unusedSimpArgs false
set_option linter.unusedVariables false
namespace Go.T
open Go Go.Proofs
set_option maxHeartbeats 4000000
set_option maxRecDepth 100000
def qbX (a:Val Y83):Val Y83×Bool:=bif qai a then ((List.map (α:=Int) (fun x=> -x) a.1,(-(a.2.1:Int),!a.2.2)),true)else (([],((0:Int),false)),false)
def qsZ (a:Val Y83):Prop:=qeG a
def qsf:G:={ps:=[i83],rs:=[i83,i4],dp:=true,pre:=fun _=>True,fn:=fun x=>((qbX x.1).1,(qbX x.1).2,())}
def qoY:G:={ps:=[i83],rs:=[i83,i4],dp:=true,pre:=fun x=>qsZ x.1,fn:=fun x=>((qbX x.1).1,(qbX x.1).2,())}
noncomputable def qgy (N:Nat) (v1:List (Val (.int .i64))) (v2:Int) (v4:Int) (v5:Bool) (v6:Int) (v7:Bool) (k0:(List (Val (.int .i64)))→Option (qc [i83,i4])):Nat→Int→(List (Val (.int .i64)))→Option (qc [i83,i4])
 | 0,_,_=>none
 | n+1,v3,v8=>bif (decide (v3<v2))then (chk (0≤v3∧v3<(v1.length:Int)) (chk (0≤v3∧v3<(v8.length:Int)) (chk (v3.toNat<v8.length) (qgy N v1 v2 v4 v5 v6 v7 k0 n (IntKind.i64.wrap (v3+(1:Int))) (v8.set v3.toNat (IntKind.i64.wrap (0 - ((v1.getD v3.toNat (qb (.int .i64))):Int))))))))else (k0 v8)
noncomputable def qqf (N:Nat) (v0:Val Y83):Option (qc [i83,i4]):=bif (!((qai v0):Bool))then (some ((([]:List (Val (.int .i64))),(0:Int),false),false,()))else (chk (0≤((v0.1:List (Val (.int .i64))).length:Int)∧((v0.1:List (Val (.int .i64))).length:Int)≤((v0.1:List (Val (.int .i64))).length:Int)∧((v0.1:List (Val (.int .i64))).length:Int)≤1048576) (qgy N (v0.1:List (Val (.int .i64))) ((v0.1:List (Val (.int .i64))).length:Int) (0:Int) false (IntKind.i64.wrap (0 - (v0.2.1:Int))) (!(v0.2.2:Bool)) (fun (v10:List (Val (.int .i64)))=>some ((v10,(IntKind.i64.wrap (0 - (v0.2.1:Int))),(!(v0.2.2:Bool))),true,())) N (0:Int) (List.replicate ((v0.1:List (Val (.int .i64))).length:Int).toNat (qb (.int .i64)))))
def qiK:Gam:=[(93,g93)]
theorem qvU:Gam.get qiK 93=some g93:=rfl
def qkf:Nm:=⟨[false,false,true,false,true,false,false,false,false,false,false,false,false,false,false,false,false,false,false,false,false,false,false,true,true,true],[],false⟩
theorem qFt:qkf.zero=false:=rfl
theorem qvg:qkf.fix=[]:=rfl
theorem qtK:qkf.keep=[false,false,true,false,true,false,false,false,false,false,false,false,false,false,false,false,false,false,false,false,false,false,false,true,true,true]:=rfl
def qqb:Nm:=⟨[false,false,true,false,true],[],false⟩
theorem qEE:qqb.zero=false:=rfl
theorem qBK:qqb.fix=[]:=rfl
theorem qxG:qqb.keep=[false,false,true,false,true]:=rfl
def qrA:Nm:=⟨[false,true,true,false,true],[],false⟩
theorem qtO:qrA.zero=false:=rfl
theorem qzA:qrA.fix=[]:=rfl
theorem qx4:qrA.keep=[false,true,true,false,true]:=rfl
def qiZ:Nat→Tree:=fun i=>if i=3 then .grow 0 (.grow 1 (.grow 2 (.grow 4 (.grow 5 (.first 6 (.grow 7 (.grow 8 (.first 9 (.alt 3 (.first 10 (.alt 11 (.alt 12 .done .stop) .stop)) (.alt 11 (.alt 3 (.quiet 10 (.alt 12 .done .stop)) .stop) .stop))))))))))else .done
def qka:Nat→Nm:=fun i=>if i=5 then qkf else ⟨[],[],false⟩
def qoq:Nat→Option Jn:=fun _=>none
def qlT:Nat→Option Nm:=fun i=>if i=0 then some qqb else none
def qlQ:Nat→Option Nm:=fun i=>if i=3 then some qrA else none
theorem qSY:qm qiZ (Try.f129.body.getD .skip)=true:=by kernel_rfl
def qdR (N:Nat):Tab:={tr:=qiZ,lp:=qka,ex:=qlT,rg:=qlQ,jn:=qoq,fuel:=N}
theorem qAj (N:Nat):(qdR N).pins=false:=rfl
theorem qSc (N:Nat):qn Try.prog (qdR N):=qt fun _=>rfl
theorem qBM (N:Nat) (i:Nat):(qdR N).tr i=qiZ i:=rfl
theorem qBT (N:Nat) (i:Nat):(qdR N).lp i=qka i:=rfl
theorem qt9 (N:Nat) (i:Nat):(qdR N).ex i=qlT i:=rfl
theorem qxf (N:Nat) (i:Nat):(qdR N).rg i=qlQ i:=rfl
theorem qGY (N:Nat) (i:Nat):(qdR N).jn i=qoq i:=rfl
theorem qFM (N:Nat):(qdR N).fuel=N:=rfl
noncomputable def qH0:Code:=cut [true,true,true,false,true,true,true] (Try.f129.body.getD .skip)
theorem qOQ {N:Nat} {Q:X→St→Option (qc [i83,i4])} {e:List LV} {h:List Blk}:qf tt qiK (qdR N) qH0 Q ⟨e,h⟩=qf tt qiK (qdR N) (cut [true,true,true,false,true,true,true] (Try.f129.body.getD .skip)) Q ⟨e,h⟩:=rfl
theorem qXz (N:Nat) (v1:List (Val (.int .i64))) (v2:Int) (v4:Int) (v5:Bool) (v6:Int) (v7:Bool) {k0:(List (Val (.int .i64)))→Option (qc [i83,i4])} {Q:X→St→Option (qc [i83,i4])} {c:Code} (hc:c=qH0) (hret: ∀st,Q .ret st=qN tt true [i83,i4] [.cell 2 83,.tmp 3] st) (h0: ∀(v9:List (Val (.int .i64))),Q (.exit 0) ⟨[u,u,.one (.ptr 0 0 0),u,.one (.ptr 1 0 0),u,u,u,u,u,u,u,u,u,u,u,u,u,u,u,u,u,u,u,u,u,u,u,u,u,u,u,u,u,u,u,u,u],[.box [.nils,.int .i64 v4,.bool v5],.box [.own 2,.int .i64 v6,.bool v7],.row 3 (.int .i64) v9 true true 0]⟩=k0 v9): ∀(n:Nat) (v3:Int) (v8:List (Val (.int .i64))),qI (qf tt qiK (qdR N) c) false qkf Q n ⟨[u,u,.one (.ptr 0 0 0),u,.one (.ptr 1 0 0),u,u,u,u,u,u,u,u,u,u,u,u,u,u,u,u,u,u,.one (.sl 3 (.int .i64) v1 3),.one (.int .i64 v2),.one (.int .i64 v3),u,u,u,u,u,u,u,u,u,u,u,u],[.box [.nils,.int .i64 v4,.bool v5],.box [.own 2,.int .i64 v6,.bool v7],.row 3 (.int .i64) v8 true true 0]⟩=qgy N v1 v2 v4 v5 v6 v7 k0 n v3 v8:=by
 subst hc;intro n;induction n with
 | zero=>intros;rfl
 | succ n ih=>
   intro v3 v8
   rw [qS,qOQ,qgy];unfold Try.f129
   simp (maxSteps:=10000000) -implicitDefEqProofs [qBM,qiZ,qBT,qka,qt9,qlT,qxf,qlQ,qGY,qoq,qFM,qAj,qvg,qtK,qFt,qBK,qxG,qEE,qzA,qx4,qtO,qvU,g93,hret,h0,ih]
theorem qPh (N:Nat) (v0:Val Y83):qf tt qiK (qdR N) (Try.f129.body.getD .skip) (qo tt true [i83,i4] [.cell 2 83,.tmp 3]) (qv [i83] 38 (v0,()))=qqf N v0:=by
 unfold Try.f129
 simp (maxSteps:=10000000) -implicitDefEqProofs [qBM,qiZ,qBT,qka,qt9,qlT,qxf,qlQ,qGY,qoq,qFM,qAj,qvg,qtK,qFt,qBK,qxG,qEE,qzA,qx4,qtO,qvU,g93]
 rewrite [qXz (k0:=(fun (v10:List (Val (.int .i64)))=>some ((v10,(IntKind.i64.wrap (0 - (v0.2.1:Int))),(!(v0.2.2:Bool))),true,()))) N _ _ _ _ _ _ ?_ ?_ ?_]
 ·rewrite [qqf];first | rfl | simp (maxSteps:=10000000) -implicitDefEqProofs []
 ·rfl
 ·intro;simp only [qQ,qR,qT,qr]
 ·intro v10;simp (maxSteps:=10000000) -implicitDefEqProofs [qBM,qiZ,qBT,qka,qt9,qlT,qxf,qlQ,qGY,qoq,qFM,qAj,qvg,qtK,qFt,qBK,qxG,qEE,qzA,qx4,qtO,qvU,g93]
noncomputable def qgl (N:Nat) (v2:List (Val (.int .i64))) (v3:Int) (v4:Bool) (v5:Int) (v6:Bool) (v7:Int) (v8:Bool) (k0:(List (Val (.int .i64)))→Option (qc [i83,i4])):Nat→Int→(List (Val (.int .i64)))→Option (qc [i83,i4])
 | 0,_,_=>none
 | n+1,v1,v9=>bif (decide (v1<(v2.length:Int)))then (chk (0≤v1∧v1<(v2.length:Int)) (chk (v9.length+([(IntKind.i64.wrap (0 - ((v2.getD v1.toNat (qb (.int .i64))):Int)))]:List (Val (.int .i64))).length≤1048576) (qgl N v2 v3 v4 v5 v6 v7 v8 k0 n (IntKind.i64.wrap (v1+(1:Int))) (v9++([(IntKind.i64.wrap (0 - ((v2.getD v1.toNat (qb (.int .i64))):Int)))]:List (Val (.int .i64)))))))else (k0 v9)
noncomputable def qqr (N:Nat) (v0:Val Y83):Option (qc [i83,i4]):=bif (!((qai v0):Bool))then (some ((([]:List (Val (.int .i64))),(0:Int),false),false,()))else (qgl N (v0.1:List (Val (.int .i64))) (v0.2.1:Int) (v0.2.2:Bool) (0:Int) false (IntKind.i64.wrap (0 - (v0.2.1:Int))) (!(v0.2.2:Bool)) (fun (v11:List (Val (.int .i64)))=>some ((v11,(IntKind.i64.wrap (0 - (v0.2.1:Int))),(!(v0.2.2:Bool))),true,())) N (0:Int) ([]:List (Val (.int .i64))))
def qh5:Gam:=[(96,g96)]
theorem qtW:Gam.get qh5 96=some g96:=rfl
def qnH:Nm:=⟨[false,true,true,false,true,true],[.box 4 0 3 (.int .i64)],false⟩
theorem qFF:qnH.zero=false:=rfl
theorem qx5:qnH.fix=[.box 4 0 3 (.int .i64)]:=rfl
theorem qwE:qnH.keep=[false,true,true,false,true,true]:=rfl
def qr4:Nm:=⟨[false,false,true,false,true],[],false⟩
theorem qym:qr4.zero=false:=rfl
theorem qDl:qr4.fix=[]:=rfl
theorem qFG:qr4.keep=[false,false,true,false,true]:=rfl
def qrj:Nm:=⟨[false,true,true,false,true,true],[],false⟩
theorem qvp:qrj.zero=false:=rfl
theorem qG1:qrj.fix=[]:=rfl
theorem qCb:qrj.keep=[false,true,true,false,true,true]:=rfl
def qio:Nat→Tree:=fun i=>if i=7 then .quiet 2 (.quiet 3 (.quiet 4 (.quiet 5 (.quiet 6 (.quiet 7 (.alt 0 (.alt 1 (.alt 8 (.alt 9 (.quiet 10 (.alt 11 .done .stop)) .stop) .stop) (.alt 8 (.quiet 1 (.alt 9 (.quiet 10 (.alt 11 .done .stop)) .stop)) .stop)) (.alt 8 (.quiet 0 (.quiet 1 (.alt 9 (.quiet 10 (.alt 11 .done .stop)) .stop))) .stop)))))))else .done
def qlR:Nat→Nm:=fun i=>if i=5 then qnH else ⟨[],[],false⟩
def qn4:Nat→Option Jn:=fun _=>none
def qmR:Nat→Option Nm:=fun i=>if i=0 then some qr4 else none
def qmG:Nat→Option Nm:=fun i=>if i=7 then some qrj else none
theorem qTc:qm qio (Try.f126.body.getD .skip)=true:=by kernel_rfl
def qdp (N:Nat):Tab:={tr:=qio,lp:=qlR,ex:=qmR,rg:=qmG,jn:=qn4,fuel:=N}
theorem qDf (N:Nat):(qdp N).pins=false:=rfl
theorem qSz (N:Nat):qn Try.prog (qdp N):=qt fun _=>rfl
theorem qDo (N:Nat) (i:Nat):(qdp N).tr i=qio i:=rfl
theorem qva (N:Nat) (i:Nat):(qdp N).lp i=qlR i:=rfl
theorem qBu (N:Nat) (i:Nat):(qdp N).ex i=qmR i:=rfl
theorem qBo (N:Nat) (i:Nat):(qdp N).rg i=qmG i:=rfl
theorem qzN (N:Nat) (i:Nat):(qdp N).jn i=qn4 i:=rfl
theorem qE2 (N:Nat):(qdp N).fuel=N:=rfl
noncomputable def qKL:Code:=cut [true,true,true,false,true,true,true] (Try.f126.body.getD .skip)
theorem qS9 {N:Nat} {Q:X→St→Option (qc [i83,i4])} {e:List LV} {h:List Blk}:qf tt qh5 (qdp N) qKL Q ⟨e,h⟩=qf tt qh5 (qdp N) (cut [true,true,true,false,true,true,true] (Try.f126.body.getD .skip)) Q ⟨e,h⟩:=rfl
theorem qUM (N:Nat) (v2:List (Val (.int .i64))) (v3:Int) (v4:Bool) (v5:Int) (v6:Bool) (v7:Int) (v8:Bool) {k0:(List (Val (.int .i64)))→Option (qc [i83,i4])} {Q:X→St→Option (qc [i83,i4])} {c:Code} (hc:c=qKL) (hret: ∀st,Q .ret st=qN tt true [i83,i4] [.cell 2 83,.tmp 3] st) (h0: ∀(v10:List (Val (.int .i64))),Q (.exit 0) ⟨[u,u,.one (.ptr 0 0 0),u,.one (.ptr 1 0 0),u,u,u,u,u,u,u,u,u,u,u,u,u,u,u,u,u,u,u,u,u,u,u,u,u,u,u,u,u,u,u],[.box [.nils,.int .i64 v5,.bool v6],.box [.own 2,.int .i64 v7,.bool v8],.row 3 (.int .i64) v10 true true 0]⟩=k0 v10): ∀(n:Nat) (v1:Int) (v9:List (Val (.int .i64))),qI (qf tt qh5 (qdp N) c) false qnH Q n ⟨[u,.one (.ptr 0 0 0),.one (.ptr 1 0 0),u,.one (.ptr 2 0 0),.one (.int .i64 v1),u,u,u,u,u,u,u,u,u,u,u,u,u,u,u,u,u,u,u,u,u,u,u,u,u,u,u,u,u,u],[.box [.sl 3 (.int .i64) v2 4,.int .i64 v3,.bool v4],.box [.nils,.int .i64 v5,.bool v6],.box [.own 3,.int .i64 v7,.bool v8],.row 3 (.int .i64) v9 true true 0]⟩=qgl N v2 v3 v4 v5 v6 v7 v8 k0 n v1 v9:=by
 subst hc;intro n;induction n with
 | zero=>intros;rfl
 | succ n ih=>
   intro v1 v9
   rw [qS,qS9,qgl];unfold Try.f126
   simp (maxSteps:=10000000) -implicitDefEqProofs [qDo,qio,qva,qlR,qBu,qmR,qBo,qmG,qzN,qn4,qE2,qDf,qx5,qwE,qFF,qDl,qFG,qym,qG1,qCb,qvp,qtW,g96,hret,h0,ih]
theorem qWS (N:Nat) (v0:Val Y83):qf tt qh5 (qdp N) (Try.f126.body.getD .skip) (qo tt true [i83,i4] [.cell 2 83,.tmp 3]) (qv [i83] 36 (v0,()))=qqr N v0:=by
 unfold Try.f126
 simp (maxSteps:=10000000) -implicitDefEqProofs [qDo,qio,qva,qlR,qBu,qmR,qBo,qmG,qzN,qn4,qE2,qDf,qx5,qwE,qFF,qDl,qFG,qym,qG1,qCb,qvp,qtW,g96]
 rewrite [qUM (k0:=(fun (v11:List (Val (.int .i64)))=>some ((v11,(IntKind.i64.wrap (0 - (v0.2.1:Int))),(!(v0.2.2:Bool))),true,()))) N _ _ _ _ _ _ _ ?_ ?_ ?_]
 ·rewrite [qqr];first | rfl | simp (maxSteps:=10000000) -implicitDefEqProofs []
 ·rfl
 ·intro;simp only [qQ,qR,qT,qr]
 ·intro v11;simp (maxSteps:=10000000) -implicitDefEqProofs [qDo,qio,qva,qlR,qBu,qmR,qBo,qmG,qzN,qn4,qE2,qDf,qx5,qwE,qFF,qDl,qFG,qym,qG1,qCb,qvp,qtW,g96]
theorem qsg {x:Int} (h:inI x):IntKind.i64.wrap (0 - x)= -x:=by
 unfold inI at h
 rw [qax (by omega) (by omega)];omega
theorem qUV (N:Nat) (co:List (Val (.int .i64))) (c:Int) (s:Bool) (a:Int) (b:Bool) (c':Int) (s':Bool) (K:List (Val (.int .i64))→Option (qc [i83,i4])) (hl:co.length≤1048576) (hx: ∀x∈co,inI x) (n:Nat) (hn:co.length<n):
 qgl N co c s a b c' s' K n 0 []=K (List.map (α:=Int) (fun x=> -x) co):=by
 refine (qbA (F:=fun n i v=>qgl N co c s a b c' s' K n i v) (step:=fun _ x (s:List (Val (.int .i64))) K=>chk (s.length+[IntKind.i64.wrap (0 - x)].length≤1048576) (K (s++[IntKind.i64.wrap (0 - x)]))) (k:=K) hl (fun n i v hi=> ?_) (fun n i v hi=> ?_) n _ hn).trans ((qDq (f:=fun x=>IntKind.i64.wrap (0 - x)) (k:=K) co 0 [] (by simpa using hl)).trans ?_)
 ·rw [qgl,qj (by omega),qd (by omega),qE hi]
 ·rw [qgl,qh (by omega)]
 ·have e:List.map (fun x=>IntKind.i64.wrap (0 - x)) co=List.map (α:=Int) (fun x=> -x) co:=List.map_congr_left fun x hx'=>qsg (hx x hx')
  rw [List.nil_append,e]
theorem qRV (a:Val Y83) (h:qsZ a): ∃N,qqr N a=some ((qbX a).1,(qbX a).2,()):=⟨List.length (α:=Int) a.1+1,by
 rw [qqr]
 unfold qbX
 cases ha:qai a with
 | false=>rfl
 | true=>
   have hi:=qAz ha
   have hx:=qJB ha
   have h4:List.length (α:=Int) a.1≤4:=hi.1
   have t:=qUV (List.length (α:=Int) a.1+1) a.1 a.2.1 a.2.2 0 false (IntKind.i64.wrap (0 - (a.2.1:Int))) (!(a.2.2:Bool)) (fun v=>some ((v,(IntKind.i64.wrap (0 - (a.2.1:Int))),(!(a.2.2:Bool))),true,())) (by omega) hx _ (Nat.lt_succ_self _)
   simp only [Bool.not_true,cond_false,cond_true]
   rw [t,qsg hi.2.1]⟩
theorem qUy:Sound Try.prog 126 qoY:=qz (tt:=tt) (Γ:=qh5) hT (ql s96 qp) hm (fn:=Try.f126) Try.func126 (c:=Try.f126.body.getD .skip) (by kernel_rfl) (by kernel_rfl) fun x hx=>by
 obtain ⟨N,h⟩:=qRV x.1 hx
 exact ⟨qdp N,qTc,qx _,qSz N,(qWS N x.1).trans h⟩
theorem qMb (N:Nat) (co:List (Val (.int .i64))) (a:Int) (b:Bool) (c:Int) (s:Bool) (K:List (Val (.int .i64))→Option (qc [i83,i4])) (hl:co.length≤1048576) (hx: ∀x∈co,inI x) (n:Nat) (hn:co.length<n):
 qgy N co co.length a b c s K n 0 (List.replicate co.length (qb (.int .i64)))=K (List.map (α:=Int) (fun x=> -x) co):=by
 have:=qjJ (xs:=List.map (α:=Int) (fun x=> -x) co) (F:=fun n i s'=>qgy N co co.length a b c s K n i s') (k:=K) (qb (.int .i64)) (by simpa using hl) (fun n i s' hi hs=> ?_) (fun n i s' hi=> ?_) n (by simpa using hn)
 ·simpa using this
 ·have hi:i<co.length:=by simpa using hi
  have hs:s'.length=co.length:=by simpa using hs
  rw [qgy,qj (by omega),qd (by omega),qd (by omega),qd (by simp;omega),qE hi,qsg (hx _ (List.getElem_mem hi))]
  simp
 ·have hi:co.length≤i:=by simpa using hi
  rw [qgy,qh (by omega)]
theorem qXS (a:Val Y83): ∃N,qqf N a=some ((qbX a).1,(qbX a).2,()):=⟨List.length (α:=Int) a.1+1,by
 rw [qqf]
 unfold qbX
 cases ha:qai a with
 | false=>rfl
 | true=>
   have hi:=qAz ha
   have hx:=qJB ha
   have h4:List.length (α:=Int) a.1≤4:=hi.1
   have t:=qMb (List.length (α:=Int) a.1+1) a.1 0 false (IntKind.i64.wrap (0 - (a.2.1:Int))) (!(a.2.2:Bool)) (fun v=>some ((v,(IntKind.i64.wrap (0 - (a.2.1:Int))),(!(a.2.2:Bool))),true,())) (by omega) hx _ (Nat.lt_succ_self _)
   simp only [Bool.not_true,cond_false,cond_true]
   rw [qd (qiv (by omega)),Int.toNat_natCast,t,qsg hi.2.1]⟩
theorem qRs:Sound Try.prog 129 qsf:=qz (tt:=tt) (Γ:=qiK) hT (ql s93 qp) hm (fn:=Try.f129) Try.func129 (c:=Try.f129.body.getD .skip) (by kernel_rfl) (by kernel_rfl) fun x hx=>by
 obtain ⟨N,h⟩:=qXS x.1
 exact ⟨qdR N,qSY,qx _,qSc N,(qPh N x.1).trans h⟩
end Go.T
