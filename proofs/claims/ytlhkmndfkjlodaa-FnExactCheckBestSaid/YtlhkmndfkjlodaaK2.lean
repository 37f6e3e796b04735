/- The reference's atoms of any numbers. -/
import Derived.Test.YtlhkmndfkjlodaaA8a
set_option linter.unusedSimpArgs false
set_option linter.unusedVariables false
namespace Go.T
open Go Go.Proofs
set_option maxHeartbeats 4000000
set_option maxRecDepth 100000
def qaT (n:Int):Int:=max n (IntKind.i64.wrap (0 - n))
def qeM:Nat→Int→Int→Int
 | 0,g,_=>g
 | k+1,g,a=>if a=0 then g else qeM k a (g.tmod a)
def euc (g a:Int):Int:=qeM (a.natAbs+1) g a
def qh0:Int→List Int→Int
 | g,[]=>g
 | g,x::xs=>qh0 (euc g (qaT x)) xs
def gcX (co:List (Val (.int .i64))) (k:Int):Int:=qh0 (qaT k) co
def qm5 (co:List (Val (.int .i64))) (_:Int):Prop:=co.length≤1048576
def mkX (co:List (Val (.int .i64))) (k:Int) (s:Bool) (g:Int):Val Y83×Bool:=bif qK (List.map (α:=Int) (fun x=>IntKind.i64.wrap (x.tdiv g)) co,IntKind.i64.wrap (k.tdiv g),s)then ((List.map (α:=Int) (fun x=>IntKind.i64.wrap (x.tdiv g)) co,IntKind.i64.wrap (k.tdiv g),s),true)else (([],(0:Int),false),false)
def qaz (co:List (Val (.int .i64))) (k:Int) (s:Bool):Val Y83×Bool:=mkX co k s (max 1 (gcX co k))
def qfg (co:List (Val (.int .i64))) (_:Int) (_:Bool):Prop:=co.length≤1048576
def qcQ:G:={ps:=[i3],rs:=[i3],dp:=true,pre:=fun _=>True,fn:=fun x=>(qaT x.1,())}
def qBY:Gam:=[]
def qpf:Nat→Tree:=fun _=> .done
def qx3:Nat→Nm:=fun _=>⟨[],[],false⟩
def qrA:Nat→Option Jn:=fun _=>none
def qth:Nat→Option Nm:=fun _=>none
def qrB:Nat→Option Nm:=fun _=>none
theorem qRA:qg qpf (Try.f135.body.getD .skip)=true:=by kernel_rfl
def qb9 (N:Nat):Tab:={tr:=qpf,lp:=qx3,ex:=qth,rg:=qrB,jn:=qrA,fuel:=N}
theorem qK4 (N:Nat):(qb9 N).pins=false:=rfl
theorem qQp (N:Nat):qk Try.prog (qb9 N):=qn fun _=>rfl
theorem qPv (N:Nat) (i:Nat):(qb9 N).tr i=qpf i:=rfl
theorem qKR (N:Nat) (i:Nat):(qb9 N).lp i=qx3 i:=rfl
theorem qMD (N:Nat) (i:Nat):(qb9 N).ex i=qth i:=rfl
theorem qML (N:Nat) (i:Nat):(qb9 N).rg i=qrB i:=rfl
theorem qOd (N:Nat) (i:Nat):(qb9 N).jn i=qrA i:=rfl
theorem qNZ (N:Nat):(qb9 N).fuel=N:=rfl
theorem qFr (N:Nat) (v0:Int):qb tt qBY (qb9 N) (Try.f135.body.getD .skip) (qh tt true [i3] [.tmp 2]) (ql [i3] 7 (v0,()))=qcZ N v0:=by
 rw [qcZ];unfold Try.f135
 simp (maxSteps:=10000000) -implicitDefEqProofs [qPv,qpf,qKR,qx3,qMD,qth,qML,qrB,qOd,qrA,qNZ,qK4]
 try rfl
theorem qOS (n:Int): ∃N,qcZ N n=some (qaT n,()):=⟨0,by
 rw [qcZ]
 first | rfl | (unfold qaT;rfl)⟩
theorem qMb:Sound Try.prog 135 qcQ:=qq (tt:=tt) (Γ:=qBY) hT qp hm (fn:=Try.f135) Try.func135 (c:=Try.f135.body.getD .skip) (by kernel_rfl) (by kernel_rfl) fun x hx=>by
 obtain ⟨N,h⟩:=qOS x.1
 exact ⟨qb9 N,qRA,qm _,qQp N,(qFr N x.1).trans h⟩
def qgI:G:={ps:=[i27,i3],rs:=[i3],dp:=true,pre:=fun x=>qm5 x.1 x.2.1,fn:=fun x=>(gcX x.1 x.2.1,())}
noncomputable def qgd (N:Nat) (v11:List (Val (.int .i64))) (v13:Int) (k2:Int→Option (qa [i3])):Nat→Int→Int→Option (qa [i3])
 | 0,_,_=>none
 | n+1,v12,v14=>bif (!(decide (v14=(0:Int))))then (chk (v14≠0) (qgd N v11 v13 k2 n v14 (v12.tmod v14)))else (k2 v12)
noncomputable def qcw (N:Nat) (v2:List (Val (.int .i64))) (k0:Int→Option (qa [i3])):Nat→Int→Int→Option (qa [i3])
 | 0,_,_=>none
 | n+1,v3,v4=>bif (decide (v4<(v2.length:Int)))then (chk (0≤v4∧v4<(v2.length:Int)) (qgd N v2 v4 (fun (v16:Int)=>qcw N v2 k0 n v16 (IntKind.i64.wrap (v4+(1:Int)))) N v3 ((qaT ((v2.getD v4.toNat (qc (.int .i64))):Int)):Int)))else (k0 v3)
noncomputable def qol (N:Nat) (v0:List (Val (.int .i64))) (v1:Int):Option (qa [i3]):=qcw N v0 (fun (v18:Int)=>some (v18,())) N ((qaT v1):Int) (0:Int)
def qcq:Gam:=[(135,qcQ)]
theorem qjZ:Gam.get qcq 135=some qcQ:=rfl
def qg8:Nm:=⟨[true,false,false,false,false,true,true,true],[],true⟩
theorem qjO:qg8.zero=true:=rfl
theorem qlc:qg8.fix=[]:=rfl
theorem qkN:qg8.keep=[true,false,false,false,false,true,true,true]:=rfl
def qj9:Nm:=⟨[true,false,false,false,false,true,true],[],true⟩
theorem qhF:qj9.zero=true:=rfl
theorem qis:qj9.fix=[]:=rfl
theorem qhn:qj9.keep=[true,false,false,false,false,true,true]:=rfl
def qmR:Nm:=⟨[false,false,false,false,false,true],[],true⟩
theorem qiu:qmR.zero=true:=rfl
theorem qie:qmR.fix=[]:=rfl
theorem qj5:qmR.keep=[false,false,false,false,false,true]:=rfl
def ql1:Nm:=⟨[true,false,false,false,false,true,true],[],true⟩
theorem qjP:ql1.zero=true:=rfl
theorem qib:ql1.fix=[]:=rfl
theorem qiK:ql1.keep=[true,false,false,false,false,true,true]:=rfl
def qcP:Nat→Tree:=fun i=>if i=7 then .quiet 0 (.quiet 1 (.quiet 2 (.quiet 3 (.quiet 4 (.quiet 5 .done)))))else .done
def qfl:Nat→Nm:=fun i=>if i=6 then qg8 else if i=3 then qj9 else ⟨[],[],false⟩
def qeo:Nat→Option Jn:=fun _=>none
def qew:Nat→Option Nm:=fun i=>if i=0 then some qmR else if i=2 then some ql1 else none
def qef:Nat→Option Nm:=fun _=>none
theorem qOl:qg qcP (Try.f97.body.getD .skip)=true:=by kernel_rfl
def qaM (N:Nat):Tab:={tr:=qcP,lp:=qfl,ex:=qew,rg:=qef,jn:=qeo,fuel:=N}
theorem qiH (N:Nat):(qaM N).pins=false:=rfl
theorem qG7 (N:Nat):qk Try.prog (qaM N):=qn fun _=>rfl
theorem qiL (N:Nat) (i:Nat):(qaM N).tr i=qcP i:=rfl
theorem qho (N:Nat) (i:Nat):(qaM N).lp i=qfl i:=rfl
theorem qki (N:Nat) (i:Nat):(qaM N).ex i=qew i:=rfl
theorem qit (N:Nat) (i:Nat):(qaM N).rg i=qef i:=rfl
theorem qhH (N:Nat) (i:Nat):(qaM N).jn i=qeo i:=rfl
theorem qh3 (N:Nat):(qaM N).fuel=N:=rfl
noncomputable def qCL:Code:=cut [true,true,false,true,true,true,true,false,true,true,true,true] (Try.f97.body.getD .skip)
theorem qQk {N:Nat} {Q:X→St→Option (qa [i3])} {e:List LV} {h:List Blk}:qb tt qcq (qaM N) qCL Q ⟨e,h⟩=qb tt qcq (qaM N) (cut [true,true,false,true,true,true,true,false,true,true,true,true] (Try.f97.body.getD .skip)) Q ⟨e,h⟩:=rfl
theorem qMl (N:Nat) (v11:List (Val (.int .i64))) (v13:Int) {k2:Int→Option (qa [i3])} {Q:X→St→Option (qa [i3])} {c:Code} (hc:c=qCL) (hret: ∀st,Q .ret st=qy tt true [i3] [.tmp 4] st) (h2: ∀(v15:Int),Q (.exit 2) ⟨[.one (.sl 3 (.int .i64) v11 0),u,u,u,u,.one (.int .i64 v15),.one (.int .i64 v13),u,u,u,u,u,u,u,u,u,u,u,u,u,u,u,u,u,u,u,u,u],[]⟩=k2 v15): ∀(n:Nat) (v12:Int) (v14:Int),qx (qb tt qcq (qaM N) c) false qg8 Q n ⟨[.one (.sl 3 (.int .i64) v11 0),u,u,u,u,.one (.int .i64 v12),.one (.int .i64 v13),.one (.int .i64 v14),u,u,u,u,u,u,u,u,u,u,u,u,u,u,u,u,u,u,u,u],[]⟩=qgd N v11 v13 k2 n v12 v14:=by
 subst hc;intro n;induction n with
 | zero=>intros;rfl
 | succ n ih=>
   intro v12 v14
   rw [qI,qQk,qgd];unfold Try.f97
   simp (maxSteps:=10000000) -implicitDefEqProofs [qiL,qcP,qho,qfl,qki,qew,qit,qef,qhH,qeo,qh3,qiH,qlc,qkN,qjO,qis,qhn,qhF,qie,qj5,qiu,qib,qiK,qjP,qjZ,qcQ,hret,h2,ih]
noncomputable def qDm:Code:=cut [true,true,false,true,true,true] (Try.f97.body.getD .skip)
theorem qIZ {N:Nat} {Q:X→St→Option (qa [i3])} {e:List LV} {h:List Blk}:qb tt qcq (qaM N) qDm Q ⟨e,h⟩=qb tt qcq (qaM N) (cut [true,true,false,true,true,true] (Try.f97.body.getD .skip)) Q ⟨e,h⟩:=rfl
theorem qP0 (N:Nat) (v2:List (Val (.int .i64))) {k0:Int→Option (qa [i3])} {Q:X→St→Option (qa [i3])} {c:Code} (hc:c=qDm) (hret: ∀st,Q .ret st=qy tt true [i3] [.tmp 4] st) (h0: ∀(v17:Int),Q (.exit 0) ⟨[u,u,u,u,u,.one (.int .i64 v17),u,u,u,u,u,u,u,u,u,u,u,u,u,u,u,u,u,u,u,u,u,u],[]⟩=k0 v17): ∀(n:Nat) (v3:Int) (v4:Int),qx (qb tt qcq (qaM N) c) false qj9 Q n ⟨[.one (.sl 3 (.int .i64) v2 0),u,u,u,u,.one (.int .i64 v3),.one (.int .i64 v4),u,u,u,u,u,u,u,u,u,u,u,u,u,u,u,u,u,u,u,u,u],[]⟩=qcw N v2 k0 n v3 v4:=by
 subst hc;intro n;induction n with
 | zero=>intros;rfl
 | succ n ih=>
   intro v3 v4
   rw [qI,qIZ];unfold Try.f97
   simp (maxSteps:=10000000) -implicitDefEqProofs [qiL,qcP,qho,qfl,qki,qew,qit,qef,qhH,qeo,qh3,qiH,qlc,qkN,qjO,qis,qhn,qhF,qie,qj5,qiu,qib,qiK,qjP,qjZ,qcQ,hret,h0,ih]
   rewrite [qMl (k2:=(fun (v16:Int)=>qcw N v2 k0 n v16 (IntKind.i64.wrap (v4+(1:Int))))) N _ _ ?_ ?_ ?_]
   ·rewrite [qcw];first | rfl | simp (maxSteps:=10000000) -implicitDefEqProofs [ih]
   ·rfl
   ·intro;simp only [qD,qE,qF,qC,hret]
   ·intro v16;simp (maxSteps:=10000000) -implicitDefEqProofs [qiL,qcP,qho,qfl,qki,qew,qit,qef,qhH,qeo,qh3,qiH,qlc,qkN,qjO,qis,qhn,qhF,qie,qj5,qiu,qib,qiK,qjP,qjZ,qcQ,hret,h0,ih]
theorem qKr (N:Nat) (v0:List (Val (.int .i64))) (v1:Int):qb tt qcq (qaM N) (Try.f97.body.getD .skip) (qh tt true [i3] [.tmp 4]) (ql [i27,i3] 28 (v0,v1,()))=qol N v0 v1:=by
 unfold Try.f97
 simp (maxSteps:=10000000) -implicitDefEqProofs [qiL,qcP,qho,qfl,qki,qew,qit,qef,qhH,qeo,qh3,qiH,qlc,qkN,qjO,qis,qhn,qhF,qie,qj5,qiu,qib,qiK,qjP,qjZ,qcQ]
 rewrite [qP0 (k0:=(fun (v18:Int)=>some (v18,()))) N _ ?_ ?_ ?_]
 ·rewrite [qol];first | rfl | simp (maxSteps:=10000000) -implicitDefEqProofs []
 ·rfl
 ·intro;simp only [qD,qE,qF,qC]
 ·intro v18;simp (maxSteps:=10000000) -implicitDefEqProofs [qiL,qcP,qho,qfl,qki,qew,qit,qef,qhH,qeo,qh3,qiH,qlc,qkN,qjO,qis,qhn,qhF,qie,qj5,qiu,qib,qiK,qjP,qjZ,qcQ]
theorem qDQ: ∀(k k':Nat) (g a:Int),a.natAbs<k→a.natAbs<k'→qeM k g a=qeM k' g a
 | 0,_,_,_,h,_=>by omega
 | _+1,0,_,_,_,h=>by omega
 | k+1,k'+1,g,a,h1,h2=>by
   rw [qeM,qeM]
   by_cases h0:a=0
   ·rw [if_pos h0,if_pos h0]
   ·rw [if_neg h0,if_neg h0]
    have:(g.tmod a).natAbs<a.natAbs:=by rw [Int.natAbs_tmod];exact Nat.mod_lt _ (by omega)
    exact qDQ k k' a (g.tmod a) (by omega) (by omega)
theorem qBO {g a:Int} (h: ¬a=0):euc g a=euc a (g.tmod a):=by
 have:(g.tmod a).natAbs<a.natAbs:=by rw [Int.natAbs_tmod];exact Nat.mod_lt _ (by omega)
 rw [euc,qeM,if_neg h]
 exact qDQ _ _ _ _ this (by omega)
theorem qD8 (g:Int):euc g 0=g:=rfl
theorem qDO (N:Nat) (xs:List (Val (.int .i64))) (v:Int) (k:Int→Option (qa [i3])): ∀(n:Nat) (g a:Int),a.natAbs<n→qgd N xs v k n g a=k (euc g a)
 | 0,_,_,h=>by omega
 | n+1,g,a,h=>by
   rw [qgd]
   by_cases h0:a=0
   ·rw [h0,qD8];rfl
   ·have:(g.tmod a).natAbs<a.natAbs:=by rw [Int.natAbs_tmod];exact Nat.mod_lt _ (by omega)
    rw [q9,qj h0,qd h0,qDO N xs v k n a _ (by omega),qBO h0]
theorem qGB (n:Int):(qaT n).natAbs≤9223372036854775808∨(qaT n).natAbs≤n.natAbs:=by
 unfold qaT
 rw [IntKind.wrap_i64]
 omega
theorem qCZ: ∀(l:List Nat) (x:Nat),x∈l→x≤l.sum
 | [],x,h=>by simp at h
 | y::l,x,h=>by
   rw [List.sum_cons]
   rcases List.mem_cons.1 h with rfl | h
   ·omega
   ·have:=qCZ l x h;omega
theorem qFl {ρ:Type} {k:Int→Option ρ}: ∀(xs:List Int) (i:Nat) (g:Int),qZ (fun _ x s K=>K (euc s (qaT x))) i xs g k=k (qh0 g xs)
 | [],_,_=>rfl
 | x::xs,i,g=>by rw [qZ];dsimp only;rw [qFl xs];rfl
theorem qIh (xs:List (Val (.int .i64))) (k:Int) (h:qm5 xs k): ∃N,qol N xs k=some (gcX xs k,()):=⟨9223372036854775810+xs.length+(xs.map Int.natAbs).sum,by
 have hs: ∀x∈(xs:List Int),Int.natAbs x≤(xs.map Int.natAbs).sum:=fun x hx=>qCZ _ _ (List.mem_map.2 ⟨x,hx,rfl⟩)
 generalize hN:9223372036854775810+xs.length+(xs.map Int.natAbs).sum=N at*
 rw [qol,gcX]
 refine (q4 (F:=fun n i s=>qcw N xs _ n s i) (step:=fun _ x s K=>K (euc s (qaT x))) (k:=fun s=>some (s,())) h (fun n i s hi=> ?_) (fun n i s hi=> ?_) N _ (by omega)).trans (qFl xs 0 _)
 ·rw [qcw,qi (by omega),qd (by omega),qB hi]
  have hx:=hs xs[i] (List.getElem_mem hi)
  have h1:=qGB xs[i]
  have e:=qDO N xs (i:Int) (fun v=>qcw N xs (fun (v18:Int)=>some (v18,())) n v (IntKind.i64.wrap ((i:Int)+1))) N s (qaT xs[i]) (by
   have hx:Int.natAbs xs[i]≤(xs.map Int.natAbs).sum:=hx
   omega)
  exact e
 ·rw [qcw,qj (by omega)]⟩
theorem qPc:Sound Try.prog 97 qgI:=qq (tt:=tt) (Γ:=qcq) hT (qe qMb qp) hm (fn:=Try.f97) Try.func97 (c:=Try.f97.body.getD .skip) (by kernel_rfl) (by kernel_rfl) fun x hx=>by
 obtain ⟨N,h⟩:=qIh x.1 x.2.1 hx
 exact ⟨qaM N,qOl,qm _,qG7 N,(qKr N x.1 x.2.1).trans h⟩
def qf7:G:={ps:=[i27,i3,i4],rs:=[i83,i4],dp:=true,pre:=fun x=>qfg x.1 x.2.1 x.2.2.1,fn:=fun x=>((qaz x.1 x.2.1 x.2.2.1).1,(qaz x.1 x.2.1 x.2.2.1).2,())}
noncomputable def qe8 (N:Nat) (v3:List (Val (.int .i64))) (v4:Int) (v6:Int) (v7:Bool) (v8:Int) (v9:Bool) (k0:(List (Val (.int .i64)))→Option (qa [i83,i4])):Nat→Int→(List (Val (.int .i64)))→Option (qa [i83,i4])
 | 0,_,_=>none
 | n+1,v5,v10=>bif (decide (v5<(v3.length:Int)))then (chk (0≤v5∧v5<(v3.length:Int)) (chk (v4≠0) (chk (v10.length+([(IntKind.i64.wrap (((v3.getD v5.toNat (qc (.int .i64))):Int).tdiv v4))]:List (Val (.int .i64))).length≤1048576) (qe8 N v3 v4 v6 v7 v8 v9 k0 n (IntKind.i64.wrap (v5+(1:Int))) (v10++([(IntKind.i64.wrap (((v3.getD v5.toNat (qc (.int .i64))):Int).tdiv v4))]:List (Val (.int .i64))))))))else (k0 v10)
noncomputable def qoL (N:Nat) (v0:List (Val (.int .i64))) (v1:Int) (v2:Bool):Option (qa [i83,i4]):=chk (qm5 v0 v1) (chk ((max (1:Int) ((gcX v0 v1):Int))≠0) (qe8 N v0 (max (1:Int) ((gcX v0 v1):Int)) (0:Int) false (IntKind.i64.wrap (v1.tdiv (max (1:Int) ((gcX v0 v1):Int)))) v2 (fun (v12:List (Val (.int .i64)))=>bif (!((qK (v12,(IntKind.i64.wrap (v1.tdiv (max (1:Int) ((gcX v0 v1):Int)))),v2)):Bool))then (some ((([]:List (Val (.int .i64))),(0:Int),false),false,()))else (some ((v12,(IntKind.i64.wrap (v1.tdiv (max (1:Int) ((gcX v0 v1):Int)))),v2),true,()))) N (0:Int) ([]:List (Val (.int .i64)))))
def qet:Gam:=[(96,g96),(97,qgI)]
theorem qrb:Gam.get qet 96=some g96:=rfl
theorem qtp:Gam.get qet 97=some qgI:=rfl
def qjM:Nm:=⟨[true,false,false,false,false,false,true,false,true,true,true],[.box 9 0 3 (.int .i64)],true⟩
theorem qwF:qjM.zero=true:=rfl
theorem qqg:qjM.fix=[.box 9 0 3 (.int .i64)]:=rfl
theorem qyd:qjM.keep=[true,false,false,false,false,false,true,false,true,true,true]:=rfl
def qmn:Nm:=⟨[false,false,false,false,false,false,true,false,false,true],[],true⟩
theorem qxC:qmn.zero=true:=rfl
theorem qtw:qmn.fix=[]:=rfl
theorem qrc:qmn.keep=[false,false,false,false,false,false,true,false,false,true]:=rfl
def qn6:Nm:=⟨[true,false,false,false,false,false,true,false,true,true,true],[],true⟩
theorem qAz:qn6.zero=true:=rfl
theorem qu0:qn6.fix=[]:=rfl
theorem qtJ:qn6.keep=[true,false,false,false,false,false,true,false,true,true,true]:=rfl
def qfQ:Nat→Tree:=fun i=>if i=6 then .quiet 2 (.quiet 3 (.quiet 4 (.quiet 5 (.quiet 6 (.quiet 7 (.alt 0 (.alt 1 (.alt 8 (.alt 9 (.quiet 10 (.alt 11 .done .stop)) .stop) .stop) (.alt 8 (.quiet 1 (.alt 9 (.quiet 10 (.alt 11 .done .stop)) .stop)) .stop)) (.alt 8 (.quiet 0 (.quiet 1 (.alt 9 (.quiet 10 (.alt 11 .done .stop)) .stop))) .stop)))))))else .done
def qja:Nat→Nm:=fun i=>if i=4 then qjM else ⟨[],[],false⟩
def qkw:Nat→Option Jn:=fun _=>none
def qjn:Nat→Option Nm:=fun i=>if i=0 then some qmn else none
def qid:Nat→Option Nm:=fun i=>if i=6 then some qn6 else none
theorem qQP:qg qfQ (Try.f48.body.getD .skip)=true:=by kernel_rfl
def qa3 (N:Nat):Tab:={tr:=qfQ,lp:=qja,ex:=qjn,rg:=qid,jn:=qkw,fuel:=N}
theorem qvG (N:Nat):(qa3 N).pins=false:=rfl
theorem qNa (N:Nat):qk Try.prog (qa3 N):=qn fun _=>rfl
theorem qAm (N:Nat) (i:Nat):(qa3 N).tr i=qfQ i:=rfl
theorem qAx (N:Nat) (i:Nat):(qa3 N).lp i=qja i:=rfl
theorem qwT (N:Nat) (i:Nat):(qa3 N).ex i=qjn i:=rfl
theorem qvj (N:Nat) (i:Nat):(qa3 N).rg i=qid i:=rfl
theorem qvw (N:Nat) (i:Nat):(qa3 N).jn i=qkw i:=rfl
theorem qzl (N:Nat):(qa3 N).fuel=N:=rfl
noncomputable def qC8:Code:=cut [true,true,true,false,true,true,true] (Try.f48.body.getD .skip)
theorem qR1 {N:Nat} {Q:X→St→Option (qa [i83,i4])} {e:List LV} {h:List Blk}:qb tt qet (qa3 N) qC8 Q ⟨e,h⟩=qb tt qet (qa3 N) (cut [true,true,true,false,true,true,true] (Try.f48.body.getD .skip)) Q ⟨e,h⟩:=rfl
theorem qHG (N:Nat) (v3:List (Val (.int .i64))) (v4:Int) (v6:Int) (v7:Bool) (v8:Int) (v9:Bool) {k0:(List (Val (.int .i64)))→Option (qa [i83,i4])} {Q:X→St→Option (qa [i83,i4])} {c:Code} (hc:c=qC8) (hret: ∀st,Q .ret st=qy tt true [i83,i4] [.cell 6 83,.tmp 7] st) (h0: ∀(v11:List (Val (.int .i64))),Q (.exit 0) ⟨[u,u,u,u,u,u,.one (.ptr 0 0 0),u,u,.one (.ptr 1 0 0),u,u,u,u,u,u,u,u,u,u,u,u,u,u,u,u,u,u,u,u,u,u,u,u,u,u,u,u,u,u,u,u],[.box [.nils,.int .i64 v6,.bool v7],.box [.own 2,.int .i64 v8,.bool v9],.row 3 (.int .i64) v11 true true 0]⟩=k0 v11): ∀(n:Nat) (v5:Int) (v10:List (Val (.int .i64))),qx (qb tt qet (qa3 N) c) false qjM Q n ⟨[.one (.sl 3 (.int .i64) v3 0),u,u,u,u,u,.one (.ptr 0 0 0),u,.one (.int .i64 v4),.one (.ptr 1 0 0),.one (.int .i64 v5),u,u,u,u,u,u,u,u,u,u,u,u,u,u,u,u,u,u,u,u,u,u,u,u,u,u,u,u,u,u,u],[.box [.nils,.int .i64 v6,.bool v7],.box [.own 2,.int .i64 v8,.bool v9],.row 3 (.int .i64) v10 true true 0]⟩=qe8 N v3 v4 v6 v7 v8 v9 k0 n v5 v10:=by
 subst hc;intro n;induction n with
 | zero=>intros;rfl
 | succ n ih=>
   intro v5 v10
   rw [qI,qR1,qe8];unfold Try.f48
   simp (maxSteps:=10000000) -implicitDefEqProofs [qAm,qfQ,qAx,qja,qwT,qjn,qvj,qid,qvw,qkw,qzl,qvG,qqg,qyd,qwF,qtw,qrc,qxC,qu0,qtJ,qAz,qrb,qtp,g96,qgI,hret,h0,ih]
theorem qPB (N:Nat) (v0:List (Val (.int .i64))) (v1:Int) (v2:Bool):qb tt qet (qa3 N) (Try.f48.body.getD .skip) (qh tt true [i83,i4] [.cell 6 83,.tmp 7]) (ql [i27,i3,i4] 42 (v0,v1,v2,()))=qoL N v0 v1 v2:=by
 unfold Try.f48
 simp (maxSteps:=10000000) -implicitDefEqProofs [qAm,qfQ,qAx,qja,qwT,qjn,qvj,qid,qvw,qkw,qzl,qvG,qqg,qyd,qwF,qtw,qrc,qxC,qu0,qtJ,qAz,qrb,qtp,g96,qgI]
 rewrite [qHG (k0:=(fun (v12:List (Val (.int .i64)))=>bif (!((qK (v12,(IntKind.i64.wrap (v1.tdiv (max (1:Int) ((gcX v0 v1):Int)))),v2)):Bool))then (some ((([]:List (Val (.int .i64))),(0:Int),false),false,()))else (some ((v12,(IntKind.i64.wrap (v1.tdiv (max (1:Int) ((gcX v0 v1):Int)))),v2),true,())))) N _ _ _ _ _ _ ?_ ?_ ?_]
 ·rewrite [qoL];first | rfl | simp (maxSteps:=10000000) -implicitDefEqProofs []
 ·rfl
 ·intro;simp only [qD,qE,qF,qC]
 ·intro v12;simp (maxSteps:=10000000) -implicitDefEqProofs [qAm,qfQ,qAx,qja,qwT,qjn,qvj,qid,qvw,qkw,qzl,qvG,qqg,qyd,qwF,qtw,qrc,qxC,qu0,qtJ,qAz,qrb,qtp,g96,qgI]
theorem qPh (co:List (Val (.int .i64))) (k:Int) (s:Bool) (h:qfg co k s): ∃N,qoL N co k s=some ((qaz co k s).1,(qaz co k s).2,()):=⟨co.length+1,by
 have h:co.length≤1048576:=h
 rw [qoL,qd (show qm5 co k from h),qaz]
 generalize hg:max 1 (gcX co k)=g
 have hg1:g≠0:=by omega
 rw [qd hg1]
 refine (q4 (F:=fun n i s'=>qe8 (co.length+1) co g 0 false (IntKind.i64.wrap (k.tdiv g)) s _ n i s') (step:=fun _ x (s:List (Val (.int .i64))) K=>chk (s.length+[IntKind.i64.wrap (Int.tdiv x g)].length≤1048576) (K (s++[IntKind.i64.wrap (Int.tdiv x g)]))) (k:=fun (v12:List (Val (.int .i64)))=>bif (!qK (v12,IntKind.i64.wrap (k.tdiv g),s))then some ((([]:List (Val (.int .i64))),(0:Int),false),false,())else some ((v12,IntKind.i64.wrap (k.tdiv g),s),true,())) h (fun n i s' hi=> ?_) (fun n i s' hi=> ?_) _ [] (Nat.lt_succ_self _)).trans ((qyU (f:=fun x=>IntKind.i64.wrap (Int.tdiv x g)) co 0 [] (by simpa using h)).trans ?_)
 ·rw [qe8,qi (by omega),qd (by omega),qd hg1,qB hi]
 ·rw [qe8,qj (by omega)]
 ·unfold mkX
  rw [List.nil_append,q9]
  cases qK (List.map (α:=Int) (fun x=>IntKind.i64.wrap (x.tdiv g)) co,IntKind.i64.wrap (k.tdiv g),s)with
  | true=>simp only [cond_true]
  | false=>simp only [cond_false]⟩
theorem qGv:Sound Try.prog 48 qf7:=qq (tt:=tt) (Γ:=qet) hT (qe s96 (qe qPc qp)) hm (fn:=Try.f48) Try.func48 (c:=Try.f48.body.getD .skip) (by kernel_rfl) (by kernel_rfl) fun x hx=>by
 obtain ⟨N,h⟩:=qPh x.1 x.2.1 x.2.2.1 hx
 exact ⟨qa3 N,qQP,qm _,qNa N,(qPB N x.1 x.2.1 x.2.2.1).trans h⟩
theorem qEi {n:Int} (h:inI n):qaT n=(n.natAbs:Int):=by
 unfold inI at h
 unfold qaT
 rw [qbp (by omega) (by omega)]
 omega
theorem qDH: ∀(b a:Nat),euc (a:Int) (b:Int)=((Nat.gcd a b:Nat):Int)
 | 0,a=>by rw [show ((0:Nat):Int)=0 from rfl,qD8];simp
 | b+1,a=>by
   have hm:((a:Int).tmod ((b+1:Nat):Int))=((a % (b+1):Nat):Int):=by rw [Int.tmod_eq_emod_of_nonneg (by omega)];rfl
   have hlt:a % (b+1)<b+1:=Nat.mod_lt _ (by omega)
   rw [qBO (by omega),hm,qDH (a % (b+1)) (b+1)]
   congr 1
   rw [Nat.gcd_comm (b+1),←Nat.gcd_rec,Nat.gcd_comm]
theorem qCz: ∀(xs:List Int) (g:Nat),(∀x∈xs,inI x)→qh0 (g:Int) xs=((gL g xs:Nat):Int)
 | [],g,_=>rfl
 | x::xs,g,h=>by
   rw [qh0,qEi (h x (by simp)),qDH,qCz xs _ fun y hy=>h y (by simp [hy])]
   rfl
theorem qRV {co:List (Val (.int .i64))} {k:Int} {s:Bool} (h:qcS co k s):qaz co k s=qab co k s:=by
 obtain ⟨hl,hk,hx⟩:=h
 have eg:gcX co k=((gL k.natAbs co:Nat):Int):=by
  unfold gcX
  rw [qEi hk]
  exact qCz co k.natAbs hx
 unfold qaz qab
 rw [eg,show max (1:Int) ((gL k.natAbs co:Nat):Int)=((max 1 (gL k.natAbs co):Nat):Int) by omega]
 generalize max 1 (gL k.natAbs co)=g
 unfold mkX qlZ
 rw [qdD hk,show List.map (α:=Int) (fun x=>IntKind.i64.wrap (x.tdiv (g:Int))) co=List.map (α:=Int) (fun x=>x.tdiv (g:Int)) co from List.map_congr_left fun x hx'=>qdD (hx x hx')]
end Go.T
