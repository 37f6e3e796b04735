/- Negated atoms. -/
import Derived.Test.YthefcjjgchekiaaGreatB1
set_option linter.unusedSimpArgs false
set_option linter.unusedVariables false
namespace Go.T
open Go Go.Proofs
set_option maxHeartbeats 4000000
set_option maxRecDepth 100000
def qz (a:Val qa):Val qa×Bool:=bif qA a then ((List.map (α:=Int) (fun x=> -x) a.1,(-(a.2.1:Int),!a.2.2)),true)else (([],((0:Int),false)),false)
def qz8 (a:Val qa):Prop:=qa3 a
def qvk:G:={ps:=[qg],rs:=[qg,i4],dp:=true,pre:=fun _=>True,fn:=fun x=>((qz x.1).1,(qz x.1).2,())}
def qxp:G:={ps:=[qg],rs:=[qg,i4],dp:=true,pre:=fun x=>qz8 x.1,fn:=fun x=>((qz x.1).1,(qz x.1).2,())}
noncomputable def qiq (N:Nat) (v1:List (Val (.int .i64))) (v2:Int) (v4:Int) (v5:Bool) (v6:Int) (v7:Bool) (k0:(List (Val (.int .i64)))→Option (qb [qg,i4])):Nat→Int→(List (Val (.int .i64)))→Option (qb [qg,i4])
 | 0,_,_=>none
 | n+1,v3,v8=>bif (decide (v3<v2))then (chk (0≤v3∧v3<(v1.length:Int)) (chk (0≤v3∧v3<(v8.length:Int)) (chk (v3.toNat<v8.length) (qiq N v1 v2 v4 v5 v6 v7 k0 n (IntKind.i64.wrap (v3+(1:Int))) (v8.set v3.toNat (IntKind.i64.wrap (0 - ((v1.getD v3.toNat (qc (.int .i64))):Int))))))))else (k0 v8)
noncomputable def qxe (N:Nat) (v0:Val qa):Option (qb [qg,i4]):=bif (!((qA v0):Bool))then (some ((([]:List (Val (.int .i64))),(0:Int),false),false,()))else (chk (0≤((v0.1:List (Val (.int .i64))).length:Int)∧((v0.1:List (Val (.int .i64))).length:Int)≤((v0.1:List (Val (.int .i64))).length:Int)∧((v0.1:List (Val (.int .i64))).length:Int)≤1048576) (qiq N (v0.1:List (Val (.int .i64))) ((v0.1:List (Val (.int .i64))).length:Int) (0:Int) false (IntKind.i64.wrap (0 - (v0.2.1:Int))) (!(v0.2.2:Bool)) (fun (v10:List (Val (.int .i64)))=>some ((v10,(IntKind.i64.wrap (0 - (v0.2.1:Int))),(!(v0.2.2:Bool))),true,())) N (0:Int) (List.replicate ((v0.1:List (Val (.int .i64))).length:Int).toNat (qc (.int .i64)))))
def qnY:Gam:=[(279,qaA)]
theorem qHC:Gam.get qnY 279=some qaA:=rfl
def quI:Nm:=⟨[false,false,true,false,true,false,false,false,false,false,false,false,false,false,false,false,false,false,false,false,false,false,false,true,true,true],[],false⟩
theorem qJ0:quI.zero=false:=rfl
theorem qJM:quI.fix=[]:=rfl
theorem qI7:quI.keep=[false,false,true,false,true,false,false,false,false,false,false,false,false,false,false,false,false,false,false,false,false,false,false,true,true,true]:=rfl
def qvW:Nm:=⟨[false,false,true,false,true],[],false⟩
theorem qI6:qvW.zero=false:=rfl
theorem qL0:qvW.fix=[]:=rfl
theorem qEA:qvW.keep=[false,false,true,false,true]:=rfl
def qzY:Nm:=⟨[false,true,true,false,true],[],false⟩
theorem qCY:qzY.zero=false:=rfl
theorem qKu:qzY.fix=[]:=rfl
theorem qDh:qzY.keep=[false,true,true,false,true]:=rfl
def qnO:Nat→Tree:=fun i=>if i=3 then .grow 0 (.grow 1 (.grow 2 (.grow 4 (.grow 5 (.first 6 (.grow 7 (.grow 8 (.first 9 (.alt 3 (.first 10 (.alt 11 (.alt 12 .done .stop) .stop)) (.alt 11 (.alt 3 (.quiet 10 (.alt 12 .done .stop)) .stop) .stop))))))))))else .done
def qqd:Nat→Nm:=fun i=>if i=5 then quI else ⟨[],[],false⟩
def qrc:Nat→Option Jn:=fun _=>none
def qtB:Nat→Option Nm:=fun i=>if i=0 then some qvW else none
def qsx:Nat→Option Nm:=fun i=>if i=3 then some qzY else none
theorem qYR:qj qnO (Tryz.f221.body.getD .skip)=true:=by kernel_rfl
def qdU (N:Nat):Tab:={tr:=qnO,lp:=qqd,ex:=qtB,rg:=qsx,jn:=qrc,fuel:=N}
theorem qOn (N:Nat):(qdU N).pins=false:=rfl
theorem qVD (N:Nat):qn Tryz.prog (qdU N):=qr fun _=>rfl
theorem qMM (N:Nat) (i:Nat):(qdU N).tr i=qnO i:=rfl
theorem qHb (N:Nat) (i:Nat):(qdU N).lp i=qqd i:=rfl
theorem qDa (N:Nat) (i:Nat):(qdU N).ex i=qtB i:=rfl
theorem qEe (N:Nat) (i:Nat):(qdU N).rg i=qsx i:=rfl
theorem qGf (N:Nat) (i:Nat):(qdU N).jn i=qrc i:=rfl
theorem qPR (N:Nat):(qdU N).fuel=N:=rfl
noncomputable def qT5:Code:=cut [true,true,true,false,true,true,true] (Tryz.f221.body.getD .skip)
theorem q53 {N:Nat} {Q:X→St→Option (qb [qg,i4])} {e:List LV} {h:List Blk}:qd tt qnY (qdU N) qT5 Q ⟨e,h⟩=qd tt qnY (qdU N) (cut [true,true,true,false,true,true,true] (Tryz.f221.body.getD .skip)) Q ⟨e,h⟩:=rfl
theorem zbe (N:Nat) (v1:List (Val (.int .i64))) (v2:Int) (v4:Int) (v5:Bool) (v6:Int) (v7:Bool) {k0:(List (Val (.int .i64)))→Option (qb [qg,i4])} {Q:X→St→Option (qb [qg,i4])} {c:Code} (hc:c=qT5) (hret: ∀st,Q .ret st=qB tt true [qg,i4] [.cell 2 108,.tmp 3] st) (h0: ∀(v9:List (Val (.int .i64))),Q (.exit 0) ⟨[u,u,.one (.ptr 0 0 0),u,.one (.ptr 1 0 0),u,u,u,u,u,u,u,u,u,u,u,u,u,u,u,u,u,u,u,u,u,u,u,u,u,u,u,u,u,u,u,u,u],[.box [.nils,.int .i64 v4,.bool v5],.box [.own 2,.int .i64 v6,.bool v7],.row 3 (.int .i64) v9 true true 0]⟩=k0 v9): ∀(n:Nat) (v3:Int) (v8:List (Val (.int .i64))),qC (qd tt qnY (qdU N) c) false quI Q n ⟨[u,u,.one (.ptr 0 0 0),u,.one (.ptr 1 0 0),u,u,u,u,u,u,u,u,u,u,u,u,u,u,u,u,u,u,.one (.sl 3 (.int .i64) v1 3),.one (.int .i64 v2),.one (.int .i64 v3),u,u,u,u,u,u,u,u,u,u,u,u],[.box [.nils,.int .i64 v4,.bool v5],.box [.own 2,.int .i64 v6,.bool v7],.row 3 (.int .i64) v8 true true 0]⟩=qiq N v1 v2 v4 v5 v6 v7 k0 n v3 v8:=by
 subst hc;intro n;induction n with
 | zero=>intros;rfl
 | succ n ih=>
   intro v3 v8
   rw [qL,q53,qiq];unfold Tryz.f221
   simp (maxSteps:=10000000) -implicitDefEqProofs [qMM,qnO,qHb,qqd,qDa,qtB,qEe,qsx,qGf,qrc,qPR,qOn,qJM,qI7,qJ0,qL0,qEA,qI6,qKu,qDh,qCY,qHC,qaA,hret,h0,ih]
theorem zaB (N:Nat) (v0:Val qa):qd tt qnY (qdU N) (Tryz.f221.body.getD .skip) (qo tt true [qg,i4] [.cell 2 108,.tmp 3]) (qt [qg] 38 (v0,()))=qxe N v0:=by
 unfold Tryz.f221
 simp (maxSteps:=10000000) -implicitDefEqProofs [qMM,qnO,qHb,qqd,qDa,qtB,qEe,qsx,qGf,qrc,qPR,qOn,qJM,qI7,qJ0,qL0,qEA,qI6,qKu,qDh,qCY,qHC,qaA]
 rewrite [zbe (k0:=(fun (v10:List (Val (.int .i64)))=>some ((v10,(IntKind.i64.wrap (0 - (v0.2.1:Int))),(!(v0.2.2:Bool))),true,()))) N _ _ _ _ _ _ ?_ ?_ ?_]
 ·rewrite [qxe];first | rfl | simp (maxSteps:=10000000) -implicitDefEqProofs []
 ·rfl
 ·intro;simp only [qK,qI,qJ,qy]
 ·intro v10;simp (maxSteps:=10000000) -implicitDefEqProofs [qMM,qnO,qHb,qqd,qDa,qtB,qEe,qsx,qGf,qrc,qPR,qOn,qJM,qI7,qJ0,qL0,qEA,qI6,qKu,qDh,qCY,qHC,qaA]
noncomputable def qiF (N:Nat) (v2:List (Val (.int .i64))) (v3:Int) (v4:Bool) (v5:Int) (v6:Bool) (v7:Int) (v8:Bool) (k0:(List (Val (.int .i64)))→Option (qb [qg,i4])):Nat→Int→(List (Val (.int .i64)))→Option (qb [qg,i4])
 | 0,_,_=>none
 | n+1,v1,v9=>bif (decide (v1<(v2.length:Int)))then (chk (0≤v1∧v1<(v2.length:Int)) (chk (v9.length+([(IntKind.i64.wrap (0 - ((v2.getD v1.toNat (qc (.int .i64))):Int)))]:List (Val (.int .i64))).length≤1048576) (qiF N v2 v3 v4 v5 v6 v7 v8 k0 n (IntKind.i64.wrap (v1+(1:Int))) (v9++([(IntKind.i64.wrap (0 - ((v2.getD v1.toNat (qc (.int .i64))):Int)))]:List (Val (.int .i64)))))))else (k0 v9)
noncomputable def qxj (N:Nat) (v0:Val qa):Option (qb [qg,i4]):=bif (!((qA v0):Bool))then (some ((([]:List (Val (.int .i64))),(0:Int),false),false,()))else (qiF N (v0.1:List (Val (.int .i64))) (v0.2.1:Int) (v0.2.2:Bool) (0:Int) false (IntKind.i64.wrap (0 - (v0.2.1:Int))) (!(v0.2.2:Bool)) (fun (v11:List (Val (.int .i64)))=>some ((v11,(IntKind.i64.wrap (0 - (v0.2.1:Int))),(!(v0.2.2:Bool))),true,())) N (0:Int) ([]:List (Val (.int .i64))))
def qny:Gam:=[(193,qa7)]
theorem qLD:Gam.get qny 193=some qa7:=rfl
def qpZ:Nm:=⟨[false,true,true,false,true,true],[.box 4 0 3 (.int .i64)],false⟩
theorem qGp:qpZ.zero=false:=rfl
theorem qLk:qpZ.fix=[.box 4 0 3 (.int .i64)]:=rfl
theorem qOt:qpZ.keep=[false,true,true,false,true,true]:=rfl
def qvG:Nm:=⟨[false,false,true,false,true],[],false⟩
theorem qG1:qvG.zero=false:=rfl
theorem qEL:qvG.fix=[]:=rfl
theorem qOZ:qvG.keep=[false,false,true,false,true]:=rfl
def qyA:Nm:=⟨[false,true,true,false,true,true],[],false⟩
theorem qPE:qyA.zero=false:=rfl
theorem qOO:qyA.fix=[]:=rfl
theorem qC4:qyA.keep=[false,true,true,false,true,true]:=rfl
def qnJ:Nat→Tree:=fun i=>if i=7 then .quiet 2 (.quiet 3 (.quiet 4 (.quiet 5 (.quiet 6 (.quiet 7 (.alt 0 (.alt 1 (.alt 8 (.alt 9 (.quiet 10 (.alt 11 .done .stop)) .stop) .stop) (.alt 8 (.quiet 1 (.alt 9 (.quiet 10 (.alt 11 .done .stop)) .stop)) .stop)) (.alt 8 (.quiet 0 (.quiet 1 (.alt 9 (.quiet 10 (.alt 11 .done .stop)) .stop))) .stop)))))))else .done
def qsT:Nat→Nm:=fun i=>if i=5 then qpZ else ⟨[],[],false⟩
def qo1:Nat→Option Jn:=fun _=>none
def qor:Nat→Option Nm:=fun i=>if i=0 then some qvG else none
def quH:Nat→Option Nm:=fun i=>if i=7 then some qyA else none
theorem q3W:qj qnJ (Tryz.f218.body.getD .skip)=true:=by kernel_rfl
def qdm (N:Nat):Tab:={tr:=qnJ,lp:=qsT,ex:=qor,rg:=quH,jn:=qo1,fuel:=N}
theorem qDk (N:Nat):(qdm N).pins=false:=rfl
theorem q5y (N:Nat):qn Tryz.prog (qdm N):=qr fun _=>rfl
theorem qCR (N:Nat) (i:Nat):(qdm N).tr i=qnJ i:=rfl
theorem qMn (N:Nat) (i:Nat):(qdm N).lp i=qsT i:=rfl
theorem qE3 (N:Nat) (i:Nat):(qdm N).ex i=qor i:=rfl
theorem qHd (N:Nat) (i:Nat):(qdm N).rg i=quH i:=rfl
theorem qEV (N:Nat) (i:Nat):(qdm N).jn i=qo1 i:=rfl
theorem qKU (N:Nat):(qdm N).fuel=N:=rfl
noncomputable def qRe:Code:=cut [true,true,true,false,true,true,true] (Tryz.f218.body.getD .skip)
theorem q93 {N:Nat} {Q:X→St→Option (qb [qg,i4])} {e:List LV} {h:List Blk}:qd tt qny (qdm N) qRe Q ⟨e,h⟩=qd tt qny (qdm N) (cut [true,true,true,false,true,true,true] (Tryz.f218.body.getD .skip)) Q ⟨e,h⟩:=rfl
theorem q5p (N:Nat) (v2:List (Val (.int .i64))) (v3:Int) (v4:Bool) (v5:Int) (v6:Bool) (v7:Int) (v8:Bool) {k0:(List (Val (.int .i64)))→Option (qb [qg,i4])} {Q:X→St→Option (qb [qg,i4])} {c:Code} (hc:c=qRe) (hret: ∀st,Q .ret st=qB tt true [qg,i4] [.cell 2 108,.tmp 3] st) (h0: ∀(v10:List (Val (.int .i64))),Q (.exit 0) ⟨[u,u,.one (.ptr 0 0 0),u,.one (.ptr 1 0 0),u,u,u,u,u,u,u,u,u,u,u,u,u,u,u,u,u,u,u,u,u,u,u,u,u,u,u,u,u,u,u],[.box [.nils,.int .i64 v5,.bool v6],.box [.own 2,.int .i64 v7,.bool v8],.row 3 (.int .i64) v10 true true 0]⟩=k0 v10): ∀(n:Nat) (v1:Int) (v9:List (Val (.int .i64))),qC (qd tt qny (qdm N) c) false qpZ Q n ⟨[u,.one (.ptr 0 0 0),.one (.ptr 1 0 0),u,.one (.ptr 2 0 0),.one (.int .i64 v1),u,u,u,u,u,u,u,u,u,u,u,u,u,u,u,u,u,u,u,u,u,u,u,u,u,u,u,u,u,u],[.box [.sl 3 (.int .i64) v2 4,.int .i64 v3,.bool v4],.box [.nils,.int .i64 v5,.bool v6],.box [.own 3,.int .i64 v7,.bool v8],.row 3 (.int .i64) v9 true true 0]⟩=qiF N v2 v3 v4 v5 v6 v7 v8 k0 n v1 v9:=by
 subst hc;intro n;induction n with
 | zero=>intros;rfl
 | succ n ih=>
   intro v1 v9
   rw [qL,q93,qiF];unfold Tryz.f218
   simp (maxSteps:=10000000) -implicitDefEqProofs [qCR,qnJ,qMn,qsT,qE3,qor,qHd,quH,qEV,qo1,qKU,qDk,qLk,qOt,qGp,qEL,qOZ,qG1,qOO,qC4,qPE,qLD,qa7,hret,h0,ih]
theorem q1x (N:Nat) (v0:Val qa):qd tt qny (qdm N) (Tryz.f218.body.getD .skip) (qo tt true [qg,i4] [.cell 2 108,.tmp 3]) (qt [qg] 36 (v0,()))=qxj N v0:=by
 unfold Tryz.f218
 simp (maxSteps:=10000000) -implicitDefEqProofs [qCR,qnJ,qMn,qsT,qE3,qor,qHd,quH,qEV,qo1,qKU,qDk,qLk,qOt,qGp,qEL,qOZ,qG1,qOO,qC4,qPE,qLD,qa7]
 rewrite [q5p (k0:=(fun (v11:List (Val (.int .i64)))=>some ((v11,(IntKind.i64.wrap (0 - (v0.2.1:Int))),(!(v0.2.2:Bool))),true,()))) N _ _ _ _ _ _ _ ?_ ?_ ?_]
 ·rewrite [qxj];first | rfl | simp (maxSteps:=10000000) -implicitDefEqProofs []
 ·rfl
 ·intro;simp only [qK,qI,qJ,qy]
 ·intro v11;simp (maxSteps:=10000000) -implicitDefEqProofs [qCR,qnJ,qMn,qsT,qE3,qor,qHd,quH,qEV,qo1,qKU,qDk,qLk,qOt,qGp,qEL,qOZ,qG1,qOO,qC4,qPE,qLD,qa7]
theorem ql2 {x:Int} (h:inI x):IntKind.i64.wrap (0 - x)= -x:=by
 unfold inI at h
 rw [qaf (by omega) (by omega)];omega
theorem zaE (N:Nat) (co:List (Val (.int .i64))) (c:Int) (s:Bool) (a:Int) (b:Bool) (c':Int) (s':Bool) (K:List (Val (.int .i64))→Option (qb [qg,i4])) (hl:co.length≤1048576) (hx: ∀x∈co,inI x) (n:Nat) (hn:co.length<n):
 qiF N co c s a b c' s' K n 0 []=K (List.map (α:=Int) (fun x=> -x) co):=by
 refine (qaj (F:=fun n i v=>qiF N co c s a b c' s' K n i v) (step:=fun _ x (s:List (Val (.int .i64))) K=>chk (s.length+[IntKind.i64.wrap (0 - x)].length≤1048576) (K (s++[IntKind.i64.wrap (0 - x)]))) (k:=K) hl (fun n i v hi=> ?_) (fun n i v hi=> ?_) n _ hn).trans ((qxz (f:=fun x=>IntKind.i64.wrap (0 - x)) (k:=K) co 0 [] (by simpa using hl)).trans ?_)
 ·rw [qiF,ql (by omega),qe (by omega),qH hi]
 ·rw [qiF,qi (by omega)]
 ·have e:List.map (fun x=>IntKind.i64.wrap (0 - x)) co=List.map (α:=Int) (fun x=> -x) co:=List.map_congr_left fun x hx'=>ql2 (hx x hx')
  rw [List.nil_append,e]
theorem zdl (a:Val qa) (h:qz8 a): ∃N,qxj N a=some ((qz a).1,(qz a).2,()):=⟨List.length (α:=Int) a.1+1,by
 rw [qxj]
 unfold qz
 cases ha:qA a with
 | false=>rfl
 | true=>
   have hi:=qaN ha
   have hx:=qkS ha
   have h4:List.length (α:=Int) a.1≤4:=hi.1
   have t:=zaE (List.length (α:=Int) a.1+1) a.1 a.2.1 a.2.2 0 false (IntKind.i64.wrap (0 - (a.2.1:Int))) (!(a.2.2:Bool)) (fun v=>some ((v,(IntKind.i64.wrap (0 - (a.2.1:Int))),(!(a.2.2:Bool))),true,())) (by omega) hx _ (Nat.lt_succ_self _)
   simp only [Bool.not_true,cond_false,cond_true]
   rw [t,ql2 hi.2.1]⟩
theorem zci:Sound Tryz.prog 218 qxp:=qu (tt:=tt) (Γ:=qny) hT (qf qAN qq) hm (fn:=Tryz.f218) Tryz.func218 (c:=Tryz.f218.body.getD .skip) (by kernel_rfl) (by kernel_rfl) fun x hx=>by
 obtain ⟨N,h⟩:=zdl x.1 hx
 exact ⟨qdm N,q3W,qv _,q5y N,(q1x N x.1).trans h⟩
theorem qZ4 (N:Nat) (co:List (Val (.int .i64))) (a:Int) (b:Bool) (c:Int) (s:Bool) (K:List (Val (.int .i64))→Option (qb [qg,i4])) (hl:co.length≤1048576) (hx: ∀x∈co,inI x) (n:Nat) (hn:co.length<n):
 qiq N co co.length a b c s K n 0 (List.replicate co.length (qc (.int .i64)))=K (List.map (α:=Int) (fun x=> -x) co):=by
 have:=qnM (xs:=List.map (α:=Int) (fun x=> -x) co) (F:=fun n i s'=>qiq N co co.length a b c s K n i s') (k:=K) (qc (.int .i64)) (by simpa using hl) (fun n i s' hi hs=> ?_) (fun n i s' hi=> ?_) n (by simpa using hn)
 ·simpa using this
 ·have hi:i<co.length:=by simpa using hi
  have hs:s'.length=co.length:=by simpa using hs
  rw [qiq,ql (by omega),qe (by omega),qe (by omega),qe (by simp;omega),qH hi,ql2 (hx _ (List.getElem_mem hi))]
  simp
 ·have hi:co.length≤i:=by simpa using hi
  rw [qiq,qi (by omega)]
theorem q5M (a:Val qa): ∃N,qxe N a=some ((qz a).1,(qz a).2,()):=⟨List.length (α:=Int) a.1+1,by
 rw [qxe]
 unfold qz
 cases ha:qA a with
 | false=>rfl
 | true=>
   have hi:=qaN ha
   have hx:=qkS ha
   have h4:List.length (α:=Int) a.1≤4:=hi.1
   have t:=qZ4 (List.length (α:=Int) a.1+1) a.1 0 false (IntKind.i64.wrap (0 - (a.2.1:Int))) (!(a.2.2:Bool)) (fun v=>some ((v,(IntKind.i64.wrap (0 - (a.2.1:Int))),(!(a.2.2:Bool))),true,())) (by omega) hx _ (Nat.lt_succ_self _)
   simp only [Bool.not_true,cond_false,cond_true]
   rw [qe (qi1 (by omega)),Int.toNat_natCast,t,ql2 hi.2.1]⟩
theorem q7i:Sound Tryz.prog 221 qvk:=qu (tt:=tt) (Γ:=qnY) hT (qf qrQ qq) hm (fn:=Tryz.f221) Tryz.func221 (c:=Tryz.f221.body.getD .skip) (by kernel_rfl) (by kernel_rfl) fun x hx=>by
 obtain ⟨N,h⟩:=q5M x.1
 exact ⟨qdU N,qYR,qv _,qVD N,(zaB N x.1).trans h⟩
end Go.T
