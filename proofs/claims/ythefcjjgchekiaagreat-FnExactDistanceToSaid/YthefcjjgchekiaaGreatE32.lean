/- The width of a cell: what the functions compute. -/
import Derived.Test.YthefcjjgchekiaaGreatE31
import Derived.Test.YthefcjjgchekiaaGreatB18
import Derived.Test.YthefcjjgchekiaaGreatB21
set_option linter.unusedSimpArgs false
set_option linter.unusedVariables false
namespace Go.T
open Go Go.Proofs
set_option maxHeartbeats 4000000
set_option maxRecDepth 100000
def qe3 (c:Val Y33) (l:List (Val (.int .i64))):Bool:=decide ((l.length:Int)=(c.1:Int))&&l.all fun n=>qR n
def qBZ (_:Val Y33) (l:List (Val (.int .i64))):Prop:=l.length≤1048576
def qwe (l:List (Val (.int .i64))) (d:Int):Bool:=l.all (fun n=>qR n)&&(decide ((l.length:Int)=d)&&inR d 0 3)
def qAH (l:List (Val (.int .i64))) (_:Int):Prop:=l.length≤1048576
def qV (l:List (Val (.int .i64))):List (Val (.int .i64)):=l.map fun n=>IntKind.i64.wrap (0 - (n:Int))
def qEM (l:List (Val (.int .i64))):Prop:=l.length≤1048576
def upA (l:List (Val (.int .i64))):Val qa:=((l++[(-1:Int)]:List Int),(0:Int),false)
def dnA (l:List (Val (.int .i64))):Val qa:=((qV l++[(1:Int)]:List Int),(0:Int),false)
def qah (c:Val Y33) (l:List (Val qa)):Val Y33:=(c.1,c.2++l)
def qnw (c:Val Y33) (l:List (Val qa)):Prop:=qi0 c∧(∀a∈l,qbu a)∧List.length (α:=Val qa) c.2+l.length≤1048576
def qae (c:Val Y33):Val Y33:=qq c 1
def qnc (c:Val Y33):Prop:=qlv c 1
def qym (c:Val Y33) (l:List (Val (.int .i64))):Val Y33:=qah (qq c 1) [upA l,dnA l]
def qW (c:Val Y33) (l:List (Val (.int .i64))):Val qad×Bool:=qA (qym c l) c.1
def qiB (c:Val Y33) (l:List (Val (.int .i64))):Prop:=qH c=true∧qe3 c l=true∧(c.1:Int)<4
def qdD (c:Val Y33) (l:List (Val (.int .i64))):Bool:=qH c&&(decide ((List.length (α:=Val qa) c.2:Int)<16)&&(decide ((c.1:Int)<4)&&qe3 c l))
def qv2 (c:Val Y33) (l:List (Val (.int .i64))):Prop:=List.length (α:=Val qa) c.2≤1048576∧l.length≤1048576
def noW:Val Y28×Bool:=(((0:Int),(0:Int)),false)
def qKF (b:Val qad×Bool):Val Y28×Bool:=bif b.2 then (bif b.1.1 then (bif b.1.2.2.2.1 then (qdX b.1.2.2.2.2.1 b.1.2.1,qi (qdX b.1.2.2.2.2.1 b.1.2.1))else noW)else noW)else noW
def qa9 (c:Val Y33) (l:List (Val (.int .i64))):Val Y28×Bool:=bif qdD c l then qKF (qW c l)else noW
def qDs:G:={ps:=[i33,i25],rs:=[i4],dp:=true,pre:=fun x=>qBZ x.1 x.2.1,fn:=fun x=>(qe3 x.1 x.2.1,())}
noncomputable def qkC (N:Nat) (v2:List (Val (.int .i64))) (v3:Int) (k0:Unit→Option (qc [i4])):Nat→Int→Option (qc [i4])
 | 0,_=>none
 | n+1,v4=>bif (decide (v4<v3))then (chk (0≤v4∧v4<(v2.length:Int)) (bif (!((qR ((v2.getD v4.toNat (qb (.int .i64))):Int)):Bool))then (some (false,()))else (qkC N v2 v3 k0 n (IntKind.i64.wrap (v4+(1:Int))))))else (k0 ())
noncomputable def qyJ (N:Nat) (v0:Val Y33) (v1:List (Val (.int .i64))):Option (qc [i4]):=bif (!(decide ((v1.length:Int)=(v0.1:Int))))then (some (false,()))else (qkC N v1 (v1.length:Int) (fun (_:Unit)=>some (true,())) N (0:Int))
def qpi:Gam:=[(204,qb9)]
theorem qKq:Gam.get qpi 204=some qb9:=rfl
def qv3:Nm:=⟨[false,false,false,false,false,false,false,false,false,false,false,false,true,true,true],[],false⟩
theorem qXw:qv3.zero=false:=rfl
theorem qRM:qv3.fix=[]:=rfl
theorem qHn:qv3.keep=[false,false,false,false,false,false,false,false,false,false,false,false,true,true,true]:=rfl
def qCk:Nm:=⟨[],[],false⟩
theorem qRj:qCk.zero=false:=rfl
theorem qRW:qCk.fix=[]:=rfl
theorem qHQ:qCk.keep=[]:=rfl
def qoe:Nat→Tree:=fun _=> .done
def qvv:Nat→Nm:=fun i=>if i=4 then qv3 else ⟨[],[],false⟩
def qtB:Nat→Option Jn:=fun _=>none
def qsC:Nat→Option Nm:=fun i=>if i=0 then some qCk else none
def qsb:Nat→Option Nm:=fun _=>none
theorem zeh:qn qoe (Tryz.f200.body.getD .skip)=true:=by kernel_rfl
def qdF (N:Nat):Tab:={tr:=qoe,lp:=qvv,ex:=qsC,rg:=qsb,jn:=qtB,fuel:=N}
theorem qPY (N:Nat):(qdF N).pins=false:=rfl
theorem zbl (N:Nat):qp Tryz.prog (qdF N):=qv fun _=>rfl
theorem qWO (N:Nat) (i:Nat):(qdF N).tr i=qoe i:=rfl
theorem qTy (N:Nat) (i:Nat):(qdF N).lp i=qvv i:=rfl
theorem qIo (N:Nat) (i:Nat):(qdF N).ex i=qsC i:=rfl
theorem qHR (N:Nat) (i:Nat):(qdF N).rg i=qsb i:=rfl
theorem qWj (N:Nat) (i:Nat):(qdF N).jn i=qtB i:=rfl
theorem qLO (N:Nat):(qdF N).fuel=N:=rfl
noncomputable def q1c:Code:=cut [true,true,false,true,true,true] (Tryz.f200.body.getD .skip)
theorem zhn {N:Nat} {Q:X→St→Option (qc [i4])} {e:List LV} {h:List Blk}:qe tt qpi (qdF N) q1c Q ⟨e,h⟩=qe tt qpi (qdF N) (cut [true,true,false,true,true,true] (Tryz.f200.body.getD .skip)) Q ⟨e,h⟩:=rfl
theorem zlu (N:Nat) (v2:List (Val (.int .i64))) (v3:Int) {k0:Unit→Option (qc [i4])} {Q:X→St→Option (qc [i4])} {c:Code} (hc:c=q1c) (hret: ∀st,Q .ret st=qI tt true [i4] [.tmp 4] st) (h0:Q (.exit 0) ⟨[u,u,u,u,u,u,u,u,u,u,u,u,u,u,u,u,u,u,u,u,u,u],[]⟩=k0 ()): ∀(n:Nat) (v4:Int),qE (qe tt qpi (qdF N) c) false qv3 Q n ⟨[u,u,u,u,u,u,u,u,u,u,u,u,.one (.sl 3 (.int .i64) v2 0),.one (.int .i64 v3),.one (.int .i64 v4),u,u,u,u,u,u,u],[]⟩=qkC N v2 v3 k0 n v4:=by
 subst hc;intro n;induction n with
 | zero=>intros;rfl
 | succ n ih=>
   intro v4
   rw [qN,zhn,qkC];unfold Tryz.f200
   simp (maxSteps:=10000000) -implicitDefEqProofs [qWO,qoe,qTy,qvv,qIo,qsC,qHR,qsb,qWj,qtB,qLO,qPY,qRM,qHn,qXw,qRW,qHQ,qRj,qKq,qb9,hret,h0,ih]
theorem q8r (N:Nat) (v0:Val Y33) (v1:List (Val (.int .i64))):qe tt qpi (qdF N) (Tryz.f200.body.getD .skip) (qt tt true [i4] [.tmp 4]) (qw [i33,i25] 22 (v0,v1,()))=qyJ N v0 v1:=by
 unfold Tryz.f200
 simp (maxSteps:=10000000) -implicitDefEqProofs [qWO,qoe,qTy,qvv,qIo,qsC,qHR,qsb,qWj,qtB,qLO,qPY,qRM,qHn,qXw,qRW,qHQ,qRj,qKq,qb9]
 rewrite [zlu (k0:=(fun (_:Unit)=>some (true,()))) N _ _ ?_ ?_ ?_]
 ·rewrite [qyJ];first | rfl | simp (maxSteps:=10000000) -implicitDefEqProofs []
 ·rfl
 ·intro;simp only [qJ,qL,qK,qB]
 ·simp (maxSteps:=10000000) -implicitDefEqProofs [qWO,qoe,qTy,qvv,qIo,qsC,qHR,qsb,qWj,qtB,qLO,qPY,qRM,qHn,qXw,qRW,qHQ,qRj,qKq,qb9]
theorem q8a (c:Val Y33) (l:List (Val (.int .i64))) (h:qBZ c l): ∃N,qyJ N c l=some (qe3 c l,()):=⟨l.length+1,by
 rw [qyJ,qe3]
 cases decide ((l.length:Int)=(c.1:Int))with
 | false=>rfl
 | true=>
   simp only [Bool.not_true,cond_false,Bool.true_and]
   refine (qaP (F:=fun n i (_:Unit)=>qkC (l.length+1) l l.length (fun _=>some (true,())) n i) (step:=fun _ x _ K=>bif qR x then K ()else some (false,())) (k:=fun _=>some (true,())) h (fun n i s hi=>by rw [qkC,qk (by omega),qd (by omega),qF hi,qaG]) (fun n i s hi=>by rw [qkC,qj (by omega)]) _ () (Nat.lt_succ_self _)).trans ((qdd l 0).trans ?_)
   cases l.all fun n=>qR n<;>rfl⟩
theorem zfG:Sound Tryz.prog 200 qDs:=qx (tt:=tt) (Γ:=qpi) hT (qg qD3 qu) hm (fn:=Tryz.f200) Tryz.func200 (c:=Tryz.f200.body.getD .skip) (by kernel_rfl) (by kernel_rfl) fun x hx=>by
 obtain ⟨N,h⟩:=q8a x.1 x.2.1 hx
 exact ⟨qdF N,zeh,qy _,zbl N,(q8r N x.1 x.2.1).trans h⟩
def qnO:G:={ps:=[i33,i31],rs:=[i33],dp:=true,pre:=fun x=>qnw x.1 x.2.1,fn:=fun x=>(qah x.1 x.2.1,())}
noncomputable def qjr (N:Nat) (v2:List (Val qa)) (v3:Int) (v5:Int) (v6:Int) (k0:(List (Val qa))→Option (qc [i33])):Nat→Int→(List (Val qa))→Option (qc [i33])
 | 0,_,_=>none
 | n+1,v4,v7=>bif (decide (v4<v3))then (chk (0≤v4∧v4<(v2.length:Int)) (chk (qbu (v2.getD v4.toNat (qb qa))) (chk (v7.length+([(((idA (v2.getD v4.toNat (qb qa))).1:List (Val (.int .i64))),(((idA (v2.getD v4.toNat (qb qa))).2).1:Int),(((idA (v2.getD v4.toNat (qb qa))).2).2:Bool))]:List (Val qa)).length≤1048576) (qjr N v2 v3 v5 v6 k0 n (IntKind.i64.wrap (v4+(1:Int))) (v7++([(((idA (v2.getD v4.toNat (qb qa))).1:List (Val (.int .i64))),(((idA (v2.getD v4.toNat (qb qa))).2).1:Int),(((idA (v2.getD v4.toNat (qb qa))).2).2:Bool))]:List (Val qa)))))))else (k0 v7)
noncomputable def qx0 (N:Nat) (v0:Val Y33) (v1:List (Val qa)):Option (qc [i33]):=chk (qi0 v0) (qjr N v1 (v1.length:Int) (0:Int) ((cpC v0).1:Int) (fun (v9:List (Val qa))=>some ((((cpC v0).1:Int),v9),())) N (0:Int) ((cpC v0).2:List (Val qa)))
def ql5:Gam:=[(214,qbm),(236,qbU)]
theorem qTs:Gam.get ql5 214=some qbm:=rfl
theorem qE1:Gam.get ql5 236=some qbU:=rfl
def qqk:Nm:=⟨[false,false,false,false,true,true,false,false,false,false,true,true,true],[],false⟩
theorem qVk:qqk.zero=false:=rfl
theorem qLT:qqk.fix=[]:=rfl
theorem qNV:qqk.keep=[false,false,false,false,true,true,false,false,false,false,true,true,true]:=rfl
def qEr:Nm:=⟨[false,false,false,false,true,true],[],false⟩
theorem qUJ:qEr.zero=false:=rfl
theorem qJr:qEr.fix=[]:=rfl
theorem qLr:qEr.keep=[false,false,false,false,true,true]:=rfl
def qCo:Nm:=⟨[false,false,false,false,true,true,false,false,false,false,true,true,true],[],false⟩
theorem qX4:qCo.zero=false:=rfl
theorem qPW:qCo.fix=[]:=rfl
theorem qP6:qCo.keep=[false,false,false,false,true,true,false,false,false,false,true,true,true]:=rfl
def qnV:Nat→Tree:=fun i=>if i=5 then .quiet 2 (.alt 0 (.alt 1 (.alt 3 (.alt 4 (.alt 5 (.quiet 6 (.alt 7 .done .stop)) .stop) .stop) .stop) (.alt 3 (.alt 1 (.alt 4 (.alt 5 (.quiet 6 (.alt 7 .done .stop)) .stop) .stop) (.alt 4 (.quiet 1 (.alt 5 (.quiet 6 (.alt 7 .done .stop)) .stop)) .stop)) .stop)) (.alt 3 (.alt 0 (.alt 1 (.alt 4 (.alt 5 (.quiet 6 (.alt 7 .done .stop)) .stop) .stop) (.alt 4 (.quiet 1 (.alt 5 (.quiet 6 (.alt 7 .done .stop)) .stop)) .stop)) (.alt 4 (.quiet 0 (.quiet 1 (.alt 5 (.quiet 6 (.alt 7 .done .stop)) .stop))) .stop)) .stop))else .done
def qvN:Nat→Nm:=fun i=>if i=3 then qqk else ⟨[],[],false⟩
def qp7:Nat→Option Jn:=fun _=>none
def qvc:Nat→Option Nm:=fun i=>if i=0 then some qEr else none
def qwt:Nat→Option Nm:=fun i=>if i=5 then some qCo else none
theorem q7W:qn qnV (Tryz.f201.body.getD .skip)=true:=by kernel_rfl
def qdt (N:Nat):Tab:={tr:=qnV,lp:=qvN,ex:=qvc,rg:=qwt,jn:=qp7,fuel:=N}
theorem qK0 (N:Nat):(qdt N).pins=false:=rfl
theorem zoY (N:Nat):qp Tryz.prog (qdt N):=qv fun _=>rfl
theorem qQh (N:Nat) (i:Nat):(qdt N).tr i=qnV i:=rfl
theorem qE8 (N:Nat) (i:Nat):(qdt N).lp i=qvN i:=rfl
theorem qHV (N:Nat) (i:Nat):(qdt N).ex i=qvc i:=rfl
theorem qU7 (N:Nat) (i:Nat):(qdt N).rg i=qwt i:=rfl
theorem qJT (N:Nat) (i:Nat):(qdt N).jn i=qp7 i:=rfl
theorem qX8 (N:Nat):(qdt N).fuel=N:=rfl
noncomputable def qYl:Code:=cut [true,true,false,true,true,true] (Tryz.f201.body.getD .skip)
theorem zjs {N:Nat} {Q:X→St→Option (qc [i33])} {e:List LV} {h:List Blk}:qe tt ql5 (qdt N) qYl Q ⟨e,h⟩=qe tt ql5 (qdt N) (cut [true,true,false,true,true,true] (Tryz.f201.body.getD .skip)) Q ⟨e,h⟩:=rfl
theorem zjI (N:Nat) (v2:List (Val qa)) (v3:Int) (v5:Int) (v6:Int) {k0:(List (Val qa))→Option (qc [i33])} {Q:X→St→Option (qc [i33])} {c:Code} (hc:c=qYl) (hret: ∀st,Q .ret st=qI tt true [i33] [.cell 4 33] st) (h0: ∀(v8:List (Val qa)),Q (.exit 0) ⟨[u,u,u,u,.one (.ptr 0 0 0),.one (.ptr 1 0 0),u,u,u,u,u,u,u,u,u,u,u,u,u,u,u,u,u,u,u],[.box [.int .i64 v5,.nils],.box [.int .i64 v6,.own 2],.row 108 qa v8 true true 0]⟩=k0 v8): ∀(n:Nat) (v4:Int) (v7:List (Val qa)),qE (qe tt ql5 (qdt N) c) false qqk Q n ⟨[u,u,u,u,.one (.ptr 0 0 0),.one (.ptr 1 0 0),u,u,u,u,.one (.sl 108 qa v2 3),.one (.int .i64 v3),.one (.int .i64 v4),u,u,u,u,u,u,u,u,u,u,u,u],[.box [.int .i64 v5,.nils],.box [.int .i64 v6,.own 2],.row 108 qa v7 true true 0]⟩=qjr N v2 v3 v5 v6 k0 n v4 v7:=by
 subst hc;intro n;induction n with
 | zero=>intros;rfl
 | succ n ih=>
   intro v4 v7
   rw [qN,zjs,qjr];unfold Tryz.f201
   simp (maxSteps:=10000000) -implicitDefEqProofs [qQh,qnV,qE8,qvN,qHV,qvc,qU7,qwt,qJT,qp7,qX8,qK0,qLT,qNV,qVk,qJr,qLr,qUJ,qPW,qP6,qX4,qTs,qE1,qbm,qbU,hret,h0,ih]
theorem zao (N:Nat) (v0:Val Y33) (v1:List (Val qa)):qe tt ql5 (qdt N) (Tryz.f201.body.getD .skip) (qt tt true [i33] [.cell 4 33]) (qw [i33,i31] 25 (v0,v1,()))=qx0 N v0 v1:=by
 unfold Tryz.f201
 simp (maxSteps:=10000000) -implicitDefEqProofs [qQh,qnV,qE8,qvN,qHV,qvc,qU7,qwt,qJT,qp7,qX8,qK0,qLT,qNV,qVk,qJr,qLr,qUJ,qPW,qP6,qX4,qTs,qE1,qbm,qbU]
 rewrite [zjI (k0:=(fun (v9:List (Val qa))=>some ((((cpC v0).1:Int),v9),()))) N _ _ _ _ ?_ ?_ ?_]
 ·rewrite [qx0];first | rfl | simp (maxSteps:=10000000) -implicitDefEqProofs []
 ·rfl
 ·intro;simp only [qJ,qL,qK,qB]
 ·intro v9;simp (maxSteps:=10000000) -implicitDefEqProofs [qQh,qnV,qE8,qvN,qHV,qvc,qU7,qwt,qJT,qp7,qX8,qK0,qLT,qNV,qVk,qJr,qLr,qUJ,qPW,qP6,qX4,qTs,qE1,qbm,qbU]
theorem zl0 (c:Val Y33) (l:List (Val qa)) (h:qnw c l): ∃N,qx0 N c l=some (qah c l,()):=⟨l.length+1,by
 obtain ⟨d,xs⟩:=c
 change Int at d
 change List (Val qa)at xs
 obtain ⟨h1,h2,h3⟩:=h
 have h3:xs.length+l.length≤1048576:=h3
 rw [qx0,qd h1]
 refine (qaP (F:=fun n i s=>qjr _ l l.length 0 d _ n i s) (step:=fun _ x s K=>chk (s.length+[x].length≤1048576) (K (s++[x]))) (k:=fun s=>some ((d,s),())) (by omega) (fun n i s hi=> ?_) (fun n i s hi=> ?_) _ xs (Nat.lt_succ_self _)).trans ?_
 ·rw [qjr,qk (by omega),qd (by omega),qF hi,qd (h2 _ (List.getElem_mem hi))]
  rfl
 ·rw [qjr,qj (by omega)];rfl
 ·exact (quY (f:=fun x=>x) l 0 xs (by omega)).trans (by simp [qah])⟩
theorem zgv:Sound Tryz.prog 201 qnO:=qx (tt:=tt) (Γ:=ql5) hT (qg qWY (qg qOQ qu)) hm (fn:=Tryz.f201) Tryz.func201 (c:=Tryz.f201.body.getD .skip) (by kernel_rfl) (by kernel_rfl) fun x hx=>by
 obtain ⟨N,h⟩:=zl0 x.1 x.2.1 hx
 exact ⟨qdt N,q7W,qy _,zoY N,(zao N x.1 x.2.1).trans h⟩
theorem q8k {l:List (Val (.int .i64))} {i:Nat} (hi:i<l.length):qV (l.take i)++[IntKind.i64.wrap (0 - (l[i]:Int))]=qV (l.take (i+1)):=by
 unfold qV
 rw [←List.take_append_getElem hi,List.map_append];rfl
theorem qla {c:Val Y33} (h:qH c=true):(0≤(c.1:Int)∧(c.1:Int)≤4)∧List.length (α:=Val qa) c.2≤16∧ ∀a∈(c.2:List (Val qa)),okD c.1 a:=by
 unfold qH at h
 simp only [Bool.and_eq_true,decide_eq_true_eq,List.all_eq_true]at h
 refine ⟨h.1.1,by omega,fun a ha=> ?_⟩
 exact h.2 a ha
theorem qDT {c:Val Y33} (h:qH c=true):qlv c 1:=by
 obtain ⟨h1,h2,h3⟩:=qla h
 have hb:=zo8 h
 obtain ⟨d,xs⟩:=c
 change Int at d
 have h1:0≤d∧d≤4:=h1
 exact ⟨hb,fun a ha=>by have:(List.length (α:=Int) a.1:Int)=d:=(h3 a ha).2;omega,by omega,show 0≤d∧d≤100 by omega⟩
theorem qRd {c:Val Y33} {l:List (Val (.int .i64))} (h:qe3 c l=true):(l.length:Int)=(c.1:Int)∧ ∀x∈l,qR x=true:=by
 unfold qe3 at h
 simpa only [Bool.and_eq_true,decide_eq_true_eq,List.all_eq_true] using h
theorem qm9 (l:List (Val (.int .i64))):(qV l).length=l.length:=by simp [qV]
theorem q07 {l:List (Val (.int .i64))} (h: ∀x∈l,qR x=true): ∀x∈qV l,qR x=true:=fun x hx=>by
 obtain ⟨y,hy,rfl⟩:=List.mem_map.1 hx
 have:=h y hy
 unfold qR at this ⊢
 simp only [decide_eq_true_eq]at this ⊢
 rw [qaq (by omega) (by omega)];omega
theorem q1p: ∀(xs ys:List Int) (g:Nat),gL g (xs++ys)=gL (gL g xs) ys
 | [],_,_=>rfl
 | x::xs,ys,g=>by rw [List.cons_append,gL,gL];exact q1p xs ys _
theorem zoa {a:Val qa}:qG a=true↔List.length (α:=Int) a.1≤4∧qR a.2.1=true∧(∀x∈(a.1:List Int),qR x=true)∧gL (Int.natAbs a.2.1) a.1≤1:=by
 unfold qG
 simp only [Bool.and_eq_true,decide_eq_true_eq,List.all_eq_true,and_assoc]
 constructor
 ·exact fun ⟨h1,h2,h3,h4⟩=>⟨h1,h2,h3,by omega⟩
 ·exact fun ⟨h1,h2,h3,h4⟩=>⟨h1,h2,h3,by omega⟩
theorem q2n {l:List Int} {u:Int} (hu:u.natAbs=1) (hl:l.length≤3) (h: ∀x∈l,qR x=true):qh (l++[u]) 0 false=(((l++[u]:List Int),(0:Int),false),true):=by
 have hg:gL 0 (l++[u])=1:=by
  rw [q1p,gL,gL,hu,Nat.gcd_one_right]
 have hm:List.map (α:=Int) (fun x=>x.tdiv ((1:Nat):Int)) (l++[u])=l++[u]:=by simp
 have ha:qG (((l++[u]:List Int),(0:Int),false):Val qa)=true:=by
  refine zoa.2 ⟨by show (l++[u]).length≤4;simp;omega,rfl,fun x hx=> ?_,by show gL 0 (l++[u])≤1;omega⟩
  rcases List.mem_append.1 hx with hx | hx
  ·exact h x hx
  ·rw [List.mem_singleton.1 hx];unfold qR;simp only [decide_eq_true_eq];omega
 have e:max 1 (gL (Int.natAbs 0) (l++[u]))=1:=by show max 1 (gL 0 (l++[u]))=1;rw [hg];rfl
 show qjD (l++[u]) 0 false (max 1 (gL (Int.natAbs 0) (l++[u])))=_
 rw [e]
 unfold qjD
 rw [hm,show Int.tdiv 0 ((1:Nat):Int)=0 from rfl,ha];rfl
theorem q7l (c:Val Y33) (l:List (Val (.int .i64))):List.length (α:=Val qa) (qym c l).2=List.length (α:=Val qa) c.2+2:=by
 show ((c.2:List (Val qa)).map (qcx 1)++[upA l,dnA l]).length=_
 simp
def qz7:G:={ps:=[i33,i25],rs:=[qD,i4],dp:=true,pre:=fun x=>qiB x.1 x.2.1,fn:=fun x=>((qW x.1 x.2.1).1,(qW x.1 x.2.1).2,())}
noncomputable def qkl (N:Nat) (v2:List (Val (.int .i64))) (v3:Int) (v5:Int) (v6:List (Val qa)) (v7:Bool) (v8:Int) (v9:Int) (v10:Bool) (v11:Bool) (v12:Int) (v13:Int) (v14:Bool) (v15:Bool) (v16:Int) (v17:Bool) (v18:Int) (v19:Bool) (k0:(List (Val (.int .i64)))→(List (Val (.int .i64)))→Option (qc [qD,i4])):Nat→Int→(List (Val (.int .i64)))→(List (Val (.int .i64)))→Option (qc [qD,i4])
 | 0,_,_,_=>none
 | n+1,v4,v20,v21=>bif (decide (v4<v3))then (chk (0≤v4∧v4<(v2.length:Int)) (chk (v20.length+([((v2.getD v4.toNat (qb (.int .i64))):Int)]:List (Val (.int .i64))).length≤1048576) (chk (v21.length+([(IntKind.i64.wrap (0 - ((v2.getD v4.toNat (qb (.int .i64))):Int)))]:List (Val (.int .i64))).length≤1048576) (qkl N v2 v3 v5 v6 v7 v8 v9 v10 v11 v12 v13 v14 v15 v16 v17 v18 v19 k0 n (IntKind.i64.wrap (v4+(1:Int))) (v20++([((v2.getD v4.toNat (qb (.int .i64))):Int)]:List (Val (.int .i64)))) (v21++([(IntKind.i64.wrap (0 - ((v2.getD v4.toNat (qb (.int .i64))):Int)))]:List (Val (.int .i64))))))))else (k0 v20 v21)
noncomputable def qET (N:Nat) (v0:Val Y33) (v1:List (Val (.int .i64))):Option (qc [qD,i4]):=qkl N v1 (v1.length:Int) (v0.1:Int) (v0.2:List (Val qa)) false (0:Int) (0:Int) false false (0:Int) (0:Int) false false (0:Int) false (0:Int) false (fun (v24:List (Val (.int .i64))) (v25:List (Val (.int .i64)))=>chk (v24.length+([(-1:Int)]:List (Val (.int .i64))).length≤1048576) (chk (v25.length+([(1:Int)]:List (Val (.int .i64))).length≤1048576) (chk (qlv v0 (1:Int)) (chk (qnw (((qq v0 (1:Int)).1:Int),((qq v0 (1:Int)).2:List (Val qa))) ([((v24++([(-1:Int)]:List (Val (.int .i64)))),(0:Int),false),((v25++([(1:Int)]:List (Val (.int .i64)))),(0:Int),false)]:List (Val qa))) (some (((((qA (((qah (((qq v0 (1:Int)).1:Int),((qq v0 (1:Int)).2:List (Val qa))) ([((v24++([(-1:Int)]:List (Val (.int .i64)))),(0:Int),false),((v25++([(1:Int)]:List (Val (.int .i64)))),(0:Int),false)]:List (Val qa))).1:Int),((qah (((qq v0 (1:Int)).1:Int),((qq v0 (1:Int)).2:List (Val qa))) ([((v24++([(-1:Int)]:List (Val (.int .i64)))),(0:Int),false),((v25++([(1:Int)]:List (Val (.int .i64)))),(0:Int),false)]:List (Val qa))).2:List (Val qa))) (v0.1:Int)).1).1:Bool),((((((qA (((qah (((qq v0 (1:Int)).1:Int),((qq v0 (1:Int)).2:List (Val qa))) ([((v24++([(-1:Int)]:List (Val (.int .i64)))),(0:Int),false),((v25++([(1:Int)]:List (Val (.int .i64)))),(0:Int),false)]:List (Val qa))).1:Int),((qah (((qq v0 (1:Int)).1:Int),((qq v0 (1:Int)).2:List (Val qa))) ([((v24++([(-1:Int)]:List (Val (.int .i64)))),(0:Int),false),((v25++([(1:Int)]:List (Val (.int .i64)))),(0:Int),false)]:List (Val qa))).2:List (Val qa))) (v0.1:Int)).1).2).1).1:Int),(((((qA (((qah (((qq v0 (1:Int)).1:Int),((qq v0 (1:Int)).2:List (Val qa))) ([((v24++([(-1:Int)]:List (Val (.int .i64)))),(0:Int),false),((v25++([(1:Int)]:List (Val (.int .i64)))),(0:Int),false)]:List (Val qa))).1:Int),((qah (((qq v0 (1:Int)).1:Int),((qq v0 (1:Int)).2:List (Val qa))) ([((v24++([(-1:Int)]:List (Val (.int .i64)))),(0:Int),false),((v25++([(1:Int)]:List (Val (.int .i64)))),(0:Int),false)]:List (Val qa))).2:List (Val qa))) (v0.1:Int)).1).2).1).2:Int)),(((((qA (((qah (((qq v0 (1:Int)).1:Int),((qq v0 (1:Int)).2:List (Val qa))) ([((v24++([(-1:Int)]:List (Val (.int .i64)))),(0:Int),false),((v25++([(1:Int)]:List (Val (.int .i64)))),(0:Int),false)]:List (Val qa))).1:Int),((qah (((qq v0 (1:Int)).1:Int),((qq v0 (1:Int)).2:List (Val qa))) ([((v24++([(-1:Int)]:List (Val (.int .i64)))),(0:Int),false),((v25++([(1:Int)]:List (Val (.int .i64)))),(0:Int),false)]:List (Val qa))).2:List (Val qa))) (v0.1:Int)).1).2).2).1:Bool),((((((qA (((qah (((qq v0 (1:Int)).1:Int),((qq v0 (1:Int)).2:List (Val qa))) ([((v24++([(-1:Int)]:List (Val (.int .i64)))),(0:Int),false),((v25++([(1:Int)]:List (Val (.int .i64)))),(0:Int),false)]:List (Val qa))).1:Int),((qah (((qq v0 (1:Int)).1:Int),((qq v0 (1:Int)).2:List (Val qa))) ([((v24++([(-1:Int)]:List (Val (.int .i64)))),(0:Int),false),((v25++([(1:Int)]:List (Val (.int .i64)))),(0:Int),false)]:List (Val qa))).2:List (Val qa))) (v0.1:Int)).1).2).2).2).1:Bool),(((((((((qA (((qah (((qq v0 (1:Int)).1:Int),((qq v0 (1:Int)).2:List (Val qa))) ([((v24++([(-1:Int)]:List (Val (.int .i64)))),(0:Int),false),((v25++([(1:Int)]:List (Val (.int .i64)))),(0:Int),false)]:List (Val qa))).1:Int),((qah (((qq v0 (1:Int)).1:Int),((qq v0 (1:Int)).2:List (Val qa))) ([((v24++([(-1:Int)]:List (Val (.int .i64)))),(0:Int),false),((v25++([(1:Int)]:List (Val (.int .i64)))),(0:Int),false)]:List (Val qa))).2:List (Val qa))) (v0.1:Int)).1).2).2).2).2).1).1:Int),((((((((qA (((qah (((qq v0 (1:Int)).1:Int),((qq v0 (1:Int)).2:List (Val qa))) ([((v24++([(-1:Int)]:List (Val (.int .i64)))),(0:Int),false),((v25++([(1:Int)]:List (Val (.int .i64)))),(0:Int),false)]:List (Val qa))).1:Int),((qah (((qq v0 (1:Int)).1:Int),((qq v0 (1:Int)).2:List (Val qa))) ([((v24++([(-1:Int)]:List (Val (.int .i64)))),(0:Int),false),((v25++([(1:Int)]:List (Val (.int .i64)))),(0:Int),false)]:List (Val qa))).2:List (Val qa))) (v0.1:Int)).1).2).2).2).2).1).2:Int)),((((((((qA (((qah (((qq v0 (1:Int)).1:Int),((qq v0 (1:Int)).2:List (Val qa))) ([((v24++([(-1:Int)]:List (Val (.int .i64)))),(0:Int),false),((v25++([(1:Int)]:List (Val (.int .i64)))),(0:Int),false)]:List (Val qa))).1:Int),((qah (((qq v0 (1:Int)).1:Int),((qq v0 (1:Int)).2:List (Val qa))) ([((v24++([(-1:Int)]:List (Val (.int .i64)))),(0:Int),false),((v25++([(1:Int)]:List (Val (.int .i64)))),(0:Int),false)]:List (Val qa))).2:List (Val qa))) (v0.1:Int)).1).2).2).2).2).2).1:Bool),((((((((qA (((qah (((qq v0 (1:Int)).1:Int),((qq v0 (1:Int)).2:List (Val qa))) ([((v24++([(-1:Int)]:List (Val (.int .i64)))),(0:Int),false),((v25++([(1:Int)]:List (Val (.int .i64)))),(0:Int),false)]:List (Val qa))).1:Int),((qah (((qq v0 (1:Int)).1:Int),((qq v0 (1:Int)).2:List (Val qa))) ([((v24++([(-1:Int)]:List (Val (.int .i64)))),(0:Int),false),((v25++([(1:Int)]:List (Val (.int .i64)))),(0:Int),false)]:List (Val qa))).2:List (Val qa))) (v0.1:Int)).1).2).2).2).2).2).2:Bool)),((qA (((qah (((qq v0 (1:Int)).1:Int),((qq v0 (1:Int)).2:List (Val qa))) ([((v24++([(-1:Int)]:List (Val (.int .i64)))),(0:Int),false),((v25++([(1:Int)]:List (Val (.int .i64)))),(0:Int),false)]:List (Val qa))).1:Int),((qah (((qq v0 (1:Int)).1:Int),((qq v0 (1:Int)).2:List (Val qa))) ([((v24++([(-1:Int)]:List (Val (.int .i64)))),(0:Int),false),((v25++([(1:Int)]:List (Val (.int .i64)))),(0:Int),false)]:List (Val qa))).2:List (Val qa))) (v0.1:Int)).2:Bool),())))))) N (0:Int) ([]:List (Val (.int .i64))) ([]:List (Val (.int .i64)))
def qiA:Gam:=[(158,qdi),(201,qnO),(202,qdz)]
theorem qVW:Gam.get qiA 158=some qdi:=rfl
theorem qWb:Gam.get qiA 201=some qnO:=rfl
theorem qNU:Gam.get qiA 202=some qdz:=rfl
def qsd:Nm:=⟨[false,false,true,false,true,false,true,true,false,false,false,false,true,true,true],[.box 6 0 3 (.int .i64),.box 7 0 3 (.int .i64)],false⟩
theorem qUw:qsd.zero=false:=rfl
theorem qRr:qsd.fix=[.box 6 0 3 (.int .i64),.box 7 0 3 (.int .i64)]:=rfl
theorem qNz:qsd.keep=[false,false,true,false,true,false,true,true,false,false,false,false,true,true,true]:=rfl
def qAO:Nm:=⟨[false,false,true,false,true,false,true,true],[],false⟩
theorem qRZ:qAO.zero=false:=rfl
theorem qWe:qAO.fix=[]:=rfl
theorem qUI:qAO.keep=[false,false,true,false,true,false,true,true]:=rfl
def qCZ:Nm:=⟨[false,false,false,false,true,true],[],false⟩
theorem qS0:qCZ.zero=false:=rfl
theorem qFE:qCZ.fix=[]:=rfl
theorem qOl:qCZ.keep=[false,false,false,false,true,true]:=rfl
def qnp:Nat→Tree:=fun i=>if i=10 then .keep 0 (.keep 2 (.keep 3 (.keep 6 (.keep 7 (.alt 1 (.alt 4 (.alt 5 (.alt 8 (.quiet 9 (.quiet 10 (.alt 11 (.quiet 12 .done) .stop))) .stop) .stop) .stop) (.alt 4 (.alt 1 (.alt 5 (.alt 8 (.quiet 9 (.quiet 10 (.alt 11 (.quiet 12 .done) .stop))) .stop) .stop) .stop) .stop))))))else .done
def qsk:Nat→Nm:=fun i=>if i=3 then qsd else ⟨[],[],false⟩
def qqb:Nat→Option Jn:=fun _=>none
def qu2:Nat→Option Nm:=fun i=>if i=0 then some qAO else none
def qwa:Nat→Option Nm:=fun i=>if i=10 then some qCZ else none
theorem zeb:qn qnp (Tryz.f112.body.getD .skip)=true:=by kernel_rfl
def qdL (N:Nat):Tab:={tr:=qnp,lp:=qsk,ex:=qu2,rg:=qwa,jn:=qqb,fuel:=N}
theorem qFB (N:Nat):(qdL N).pins=false:=rfl
theorem zjf (N:Nat):qp Tryz.prog (qdL N):=qv fun _=>rfl
theorem qPT (N:Nat) (i:Nat):(qdL N).tr i=qnp i:=rfl
theorem qPm (N:Nat) (i:Nat):(qdL N).lp i=qsk i:=rfl
theorem qKD (N:Nat) (i:Nat):(qdL N).ex i=qu2 i:=rfl
theorem qKn (N:Nat) (i:Nat):(qdL N).rg i=qwa i:=rfl
theorem qS7 (N:Nat) (i:Nat):(qdL N).jn i=qqb i:=rfl
theorem qQa (N:Nat):(qdL N).fuel=N:=rfl
noncomputable def q3n:Code:=cut [true,true,false,true,true,true] (Tryz.f112.body.getD .skip)
theorem zcP {N:Nat} {Q:X→St→Option (qc [qD,i4])} {e:List LV} {h:List Blk}:qe tt qiA (qdL N) q3n Q ⟨e,h⟩=qe tt qiA (qdL N) (cut [true,true,false,true,true,true] (Tryz.f112.body.getD .skip)) Q ⟨e,h⟩:=rfl
theorem zh3 (N:Nat) (v2:List (Val (.int .i64))) (v3:Int) (v5:Int) (v6:List (Val qa)) (v7:Bool) (v8:Int) (v9:Int) (v10:Bool) (v11:Bool) (v12:Int) (v13:Int) (v14:Bool) (v15:Bool) (v16:Int) (v17:Bool) (v18:Int) (v19:Bool) {k0:(List (Val (.int .i64)))→(List (Val (.int .i64)))→Option (qc [qD,i4])} {Q:X→St→Option (qc [qD,i4])} {c:Code} (hc:c=q3n) (hret: ∀st,Q .ret st=qI tt true [qD,i4] [.cell 4 130,.tmp 5] st) (h0: ∀(v22:List (Val (.int .i64))) (v23:List (Val (.int .i64))),Q (.exit 0) ⟨[u,u,.one (.ptr 0 0 0),u,.one (.ptr 1 0 0),u,.one (.ptr 2 0 0),.one (.ptr 3 0 0),u,u,u,u,u,u,u,u,u,u,u,u,u,u,u,u,u,u,u,u,u,u,u,u,u,u,u,u,u,u,u,u,u,u,u,u,u,u,u,u,u,u,u,u,u],[.box [.int .i64 v5,.sl 108 qa v6 6],.box [.bool v7,.int .i64 v8,.int .i64 v9,.bool v10,.bool v11,.int .i64 v12,.int .i64 v13,.bool v14,.bool v15],.box [.own 4,.int .i64 v16,.bool v17],.box [.own 5,.int .i64 v18,.bool v19],.row 3 (.int .i64) v22 true true 0,.row 3 (.int .i64) v23 true true 0]⟩=k0 v22 v23): ∀(n:Nat) (v4:Int) (v20:List (Val (.int .i64))) (v21:List (Val (.int .i64))),qE (qe tt qiA (qdL N) c) false qsd Q n ⟨[u,u,.one (.ptr 0 0 0),u,.one (.ptr 1 0 0),u,.one (.ptr 2 0 0),.one (.ptr 3 0 0),u,u,u,u,.one (.sl 3 (.int .i64) v2 6),.one (.int .i64 v3),.one (.int .i64 v4),u,u,u,u,u,u,u,u,u,u,u,u,u,u,u,u,u,u,u,u,u,u,u,u,u,u,u,u,u,u,u,u,u,u,u,u,u,u],[.box [.int .i64 v5,.sl 108 qa v6 6],.box [.bool v7,.int .i64 v8,.int .i64 v9,.bool v10,.bool v11,.int .i64 v12,.int .i64 v13,.bool v14,.bool v15],.box [.own 4,.int .i64 v16,.bool v17],.box [.own 5,.int .i64 v18,.bool v19],.row 3 (.int .i64) v20 true true 0,.row 3 (.int .i64) v21 true true 0]⟩=qkl N v2 v3 v5 v6 v7 v8 v9 v10 v11 v12 v13 v14 v15 v16 v17 v18 v19 k0 n v4 v20 v21:=by
 subst hc;intro n;induction n with
 | zero=>intros;rfl
 | succ n ih=>
   intro v4 v20 v21
   rw [qN,zcP,qkl];unfold Tryz.f112
   simp (maxSteps:=10000000) -implicitDefEqProofs [qPT,qnp,qPm,qsk,qKD,qu2,qKn,qwa,qS7,qqb,qQa,qFB,qRr,qNz,qUw,qWe,qUI,qRZ,qFE,qOl,qS0,qVW,qWb,qNU,qdi,qnO,qdz,hret,h0,ih]
theorem zpR (N:Nat) (v0:Val Y33) (v1:List (Val (.int .i64))):qe tt qiA (qdL N) (Tryz.f112.body.getD .skip) (qt tt true [qD,i4] [.cell 4 130,.tmp 5]) (qw [i33,i25] 53 (v0,v1,()))=qET N v0 v1:=by
 unfold Tryz.f112
 simp (maxSteps:=10000000) -implicitDefEqProofs [qPT,qnp,qPm,qsk,qKD,qu2,qKn,qwa,qS7,qqb,qQa,qFB,qRr,qNz,qUw,qWe,qUI,qRZ,qFE,qOl,qS0,qVW,qWb,qNU,qdi,qnO,qdz]
 rewrite [zh3 (k0:=(fun (v24:List (Val (.int .i64))) (v25:List (Val (.int .i64)))=>chk (v24.length+([(-1:Int)]:List (Val (.int .i64))).length≤1048576) (chk (v25.length+([(1:Int)]:List (Val (.int .i64))).length≤1048576) (chk (qlv v0 (1:Int)) (chk (qnw (((qq v0 (1:Int)).1:Int),((qq v0 (1:Int)).2:List (Val qa))) ([((v24++([(-1:Int)]:List (Val (.int .i64)))),(0:Int),false),((v25++([(1:Int)]:List (Val (.int .i64)))),(0:Int),false)]:List (Val qa))) (some (((((qA (((qah (((qq v0 (1:Int)).1:Int),((qq v0 (1:Int)).2:List (Val qa))) ([((v24++([(-1:Int)]:List (Val (.int .i64)))),(0:Int),false),((v25++([(1:Int)]:List (Val (.int .i64)))),(0:Int),false)]:List (Val qa))).1:Int),((qah (((qq v0 (1:Int)).1:Int),((qq v0 (1:Int)).2:List (Val qa))) ([((v24++([(-1:Int)]:List (Val (.int .i64)))),(0:Int),false),((v25++([(1:Int)]:List (Val (.int .i64)))),(0:Int),false)]:List (Val qa))).2:List (Val qa))) (v0.1:Int)).1).1:Bool),((((((qA (((qah (((qq v0 (1:Int)).1:Int),((qq v0 (1:Int)).2:List (Val qa))) ([((v24++([(-1:Int)]:List (Val (.int .i64)))),(0:Int),false),((v25++([(1:Int)]:List (Val (.int .i64)))),(0:Int),false)]:List (Val qa))).1:Int),((qah (((qq v0 (1:Int)).1:Int),((qq v0 (1:Int)).2:List (Val qa))) ([((v24++([(-1:Int)]:List (Val (.int .i64)))),(0:Int),false),((v25++([(1:Int)]:List (Val (.int .i64)))),(0:Int),false)]:List (Val qa))).2:List (Val qa))) (v0.1:Int)).1).2).1).1:Int),(((((qA (((qah (((qq v0 (1:Int)).1:Int),((qq v0 (1:Int)).2:List (Val qa))) ([((v24++([(-1:Int)]:List (Val (.int .i64)))),(0:Int),false),((v25++([(1:Int)]:List (Val (.int .i64)))),(0:Int),false)]:List (Val qa))).1:Int),((qah (((qq v0 (1:Int)).1:Int),((qq v0 (1:Int)).2:List (Val qa))) ([((v24++([(-1:Int)]:List (Val (.int .i64)))),(0:Int),false),((v25++([(1:Int)]:List (Val (.int .i64)))),(0:Int),false)]:List (Val qa))).2:List (Val qa))) (v0.1:Int)).1).2).1).2:Int)),(((((qA (((qah (((qq v0 (1:Int)).1:Int),((qq v0 (1:Int)).2:List (Val qa))) ([((v24++([(-1:Int)]:List (Val (.int .i64)))),(0:Int),false),((v25++([(1:Int)]:List (Val (.int .i64)))),(0:Int),false)]:List (Val qa))).1:Int),((qah (((qq v0 (1:Int)).1:Int),((qq v0 (1:Int)).2:List (Val qa))) ([((v24++([(-1:Int)]:List (Val (.int .i64)))),(0:Int),false),((v25++([(1:Int)]:List (Val (.int .i64)))),(0:Int),false)]:List (Val qa))).2:List (Val qa))) (v0.1:Int)).1).2).2).1:Bool),((((((qA (((qah (((qq v0 (1:Int)).1:Int),((qq v0 (1:Int)).2:List (Val qa))) ([((v24++([(-1:Int)]:List (Val (.int .i64)))),(0:Int),false),((v25++([(1:Int)]:List (Val (.int .i64)))),(0:Int),false)]:List (Val qa))).1:Int),((qah (((qq v0 (1:Int)).1:Int),((qq v0 (1:Int)).2:List (Val qa))) ([((v24++([(-1:Int)]:List (Val (.int .i64)))),(0:Int),false),((v25++([(1:Int)]:List (Val (.int .i64)))),(0:Int),false)]:List (Val qa))).2:List (Val qa))) (v0.1:Int)).1).2).2).2).1:Bool),(((((((((qA (((qah (((qq v0 (1:Int)).1:Int),((qq v0 (1:Int)).2:List (Val qa))) ([((v24++([(-1:Int)]:List (Val (.int .i64)))),(0:Int),false),((v25++([(1:Int)]:List (Val (.int .i64)))),(0:Int),false)]:List (Val qa))).1:Int),((qah (((qq v0 (1:Int)).1:Int),((qq v0 (1:Int)).2:List (Val qa))) ([((v24++([(-1:Int)]:List (Val (.int .i64)))),(0:Int),false),((v25++([(1:Int)]:List (Val (.int .i64)))),(0:Int),false)]:List (Val qa))).2:List (Val qa))) (v0.1:Int)).1).2).2).2).2).1).1:Int),((((((((qA (((qah (((qq v0 (1:Int)).1:Int),((qq v0 (1:Int)).2:List (Val qa))) ([((v24++([(-1:Int)]:List (Val (.int .i64)))),(0:Int),false),((v25++([(1:Int)]:List (Val (.int .i64)))),(0:Int),false)]:List (Val qa))).1:Int),((qah (((qq v0 (1:Int)).1:Int),((qq v0 (1:Int)).2:List (Val qa))) ([((v24++([(-1:Int)]:List (Val (.int .i64)))),(0:Int),false),((v25++([(1:Int)]:List (Val (.int .i64)))),(0:Int),false)]:List (Val qa))).2:List (Val qa))) (v0.1:Int)).1).2).2).2).2).1).2:Int)),((((((((qA (((qah (((qq v0 (1:Int)).1:Int),((qq v0 (1:Int)).2:List (Val qa))) ([((v24++([(-1:Int)]:List (Val (.int .i64)))),(0:Int),false),((v25++([(1:Int)]:List (Val (.int .i64)))),(0:Int),false)]:List (Val qa))).1:Int),((qah (((qq v0 (1:Int)).1:Int),((qq v0 (1:Int)).2:List (Val qa))) ([((v24++([(-1:Int)]:List (Val (.int .i64)))),(0:Int),false),((v25++([(1:Int)]:List (Val (.int .i64)))),(0:Int),false)]:List (Val qa))).2:List (Val qa))) (v0.1:Int)).1).2).2).2).2).2).1:Bool),((((((((qA (((qah (((qq v0 (1:Int)).1:Int),((qq v0 (1:Int)).2:List (Val qa))) ([((v24++([(-1:Int)]:List (Val (.int .i64)))),(0:Int),false),((v25++([(1:Int)]:List (Val (.int .i64)))),(0:Int),false)]:List (Val qa))).1:Int),((qah (((qq v0 (1:Int)).1:Int),((qq v0 (1:Int)).2:List (Val qa))) ([((v24++([(-1:Int)]:List (Val (.int .i64)))),(0:Int),false),((v25++([(1:Int)]:List (Val (.int .i64)))),(0:Int),false)]:List (Val qa))).2:List (Val qa))) (v0.1:Int)).1).2).2).2).2).2).2:Bool)),((qA (((qah (((qq v0 (1:Int)).1:Int),((qq v0 (1:Int)).2:List (Val qa))) ([((v24++([(-1:Int)]:List (Val (.int .i64)))),(0:Int),false),((v25++([(1:Int)]:List (Val (.int .i64)))),(0:Int),false)]:List (Val qa))).1:Int),((qah (((qq v0 (1:Int)).1:Int),((qq v0 (1:Int)).2:List (Val qa))) ([((v24++([(-1:Int)]:List (Val (.int .i64)))),(0:Int),false),((v25++([(1:Int)]:List (Val (.int .i64)))),(0:Int),false)]:List (Val qa))).2:List (Val qa))) (v0.1:Int)).2:Bool),()))))))) N _ _ _ _ _ _ _ _ _ _ _ _ _ _ _ _ _ ?_ ?_ ?_]
 ·rewrite [qET];first | rfl | simp (maxSteps:=10000000) -implicitDefEqProofs []
 ·rfl
 ·intro;simp only [qJ,qL,qK,qB]
 ·intro v24 v25;simp (maxSteps:=10000000) -implicitDefEqProofs [qPT,qnp,qPm,qsk,qKD,qu2,qKn,qwa,qS7,qqb,qQa,qFB,qRr,qNz,qUw,qWe,qUI,qRZ,qFE,qOl,qS0,qVW,qWb,qNU,qdi,qnO,qdz]
theorem q4g (N:Nat) (l:List (Val (.int .i64))) (hl:l.length≤1000) (v5:Int) (v6:List (Val qa)) (v7:Bool) (v8 v9:Int) (v10 v11:Bool) (v12 v13:Int) (v14 v15:Bool) (v16:Int) (v17:Bool) (v18:Int) (v19:Bool) (K:List (Val (.int .i64))→List (Val (.int .i64))→Option (qc [qD,i4])):
 ∀(k i m:Nat),i+k=l.length→k<m→qkl N l l.length v5 v6 v7 v8 v9 v10 v11 v12 v13 v14 v15 v16 v17 v18 v19 K m i (l.take i) (qV (l.take i))=K l (qV l)
 | 0,i,m+1,hi,_=>by
   rw [qkl,qj (by omega),List.take_of_length_le (by omega)]
 | k+1,i,m+1,hi,hm=>by
   have h:i<l.length:=by omega
   have ht:(l.take i).length≤1000:=by rw [List.length_take];omega
   rw [qkl,qk (by omega),qd (by omega),qF h,qd (by simp;omega),qd (by rw [qm9];simp;omega),qa2 (n:=l.length) h (by omega),q8k h,List.take_append_getElem h]
   exact q4g N l hl v5 v6 v7 v8 v9 v10 v11 v12 v13 v14 v15 v16 v17 v18 v19 K k (i+1) m (by omega) (by omega)
theorem q49 {c:Val Y33} {l:List (Val (.int .i64))} (h:qiB c l):qnw (qq c 1) [upA l,dnA l]:=by
 obtain ⟨h1,h2,h3⟩:=h
 obtain ⟨g1,g2,g3⟩:=qla h1
 obtain ⟨k1,k2⟩:=qRd h2
 obtain ⟨d,xs⟩:=c
 change Int at d
 change List (Val qa)at xs
 have g1:0≤d∧d≤4:=g1
 have g2:xs.length≤16:=g2
 have k1:(l.length:Int)=d:=k1
 have hl:l.length≤4:=by omega
 refine ⟨⟨trivial,by show (List.map (qcx 1) xs).length≤1048576;rw [List.length_map];omega,fun x hx=> ?_⟩,fun a ha=> ?_,?_⟩
 ·obtain ⟨a,ha,rfl⟩:=List.mem_map.1 (show x∈List.map (qcx 1) xs from hx)
  refine ⟨⟨?_,fun _ _=>trivial⟩,trivial,trivial⟩
  have:(List.length (α:=Int) a.1:Int)=d:=(g3 a ha).2
  show ((a.1:List Int)++List.replicate (1:Int).toNat (0:Int)).length≤1048576
  rw [List.length_append,List.length_replicate]
  show List.length (α:=Int) a.1+1≤_
  omega
 ·have ha:a=upA l∨a=dnA l:=by simpa using ha
  rcases ha with rfl | rfl
  ·show (l++[(-1:Int)]).length≤_
   simp;omega
  ·show (qV l++[(1:Int)]).length≤_
   rw [List.length_append,qm9];simp;omega
 ·show (List.map (qcx 1) xs).length+2≤1048576
  rw [List.length_map];omega
theorem q8z (c:Val Y33) (l:List (Val (.int .i64))) (h:qiB c l): ∃N,qET N c l=some ((qW c l).1,(qW c l).2,()):=⟨l.length+1,by
 have hl:l.length≤4:=by
  obtain ⟨d,xs⟩:=c
  change Int at d
  have h1:(l.length:Int)=d:=(qRd h.2.1).1
  have:d<4:=h.2.2
  omega
 rw [qET]
 refine (q4g _ l (by omega) _ _ _ _ _ _ _ _ _ _ _ _ _ _ _ _ l.length 0 _ (by omega) (Nat.lt_succ_self _)).trans ?_
 rw [qd (by simp;omega),qd (by rw [qm9];simp;omega),qd (qDT h.1),qd (show qnw ((qq c 1).1,(qq c 1).2) [(l++[(-1:Int)],(0:Int),false),(qV l++[(1:Int)],(0:Int),false)] from q49 h)]
 rfl⟩
theorem zfT:Sound Tryz.prog 112 qz7:=qx (tt:=tt) (Γ:=qiA) hT (qg qZs (qg zgv (qg qYJ qu))) hm (fn:=Tryz.f112) Tryz.func112 (c:=Tryz.f112.body.getD .skip) (by kernel_rfl) (by kernel_rfl) fun x hx=>by
 obtain ⟨N,h⟩:=q8z x.1 x.2.1 hx
 exact ⟨qdL N,zeb,qy _,zjf N,(zpR N x.1 x.2.1).trans h⟩
def qzh:G:={ps:=[i25,i3],rs:=[i4],dp:=true,pre:=fun x=>qAH x.1 x.2.1,fn:=fun x=>(qwe x.1 x.2.1,())}
noncomputable def qk5 (N:Nat) (v2:List (Val (.int .i64))) (v3:Int) (k0:Unit→Option (qc [i4])):Nat→Int→Option (qc [i4])
 | 0,_=>none
 | n+1,v4=>bif (decide (v4<(v2.length:Int)))then (chk (0≤v4∧v4<(v2.length:Int)) (bif (!((qR ((v2.getD v4.toNat (qb (.int .i64))):Int)):Bool))then (some (false,()))else (qk5 N v2 v3 k0 n (IntKind.i64.wrap (v4+(1:Int))))))else (k0 ())
noncomputable def qAL (N:Nat) (v0:List (Val (.int .i64))) (v1:Int):Option (qc [i4]):=qk5 N v0 v1 (fun (_:Unit)=>bif (decide ((v0.length:Int)=v1))then (some (((inR v1 (0:Int) (3:Int)):Bool),()))else (some (false,()))) N (0:Int)
def qlK:Gam:=[(118,qam),(194,qbl)]
theorem qFp:Gam.get qlK 118=some qam:=rfl
theorem qLK:Gam.get qlK 194=some qbl:=rfl
def qsZ:Nm:=⟨[true,true,false,false,false,true],[],false⟩
theorem qT9:qsZ.zero=false:=rfl
theorem qMy:qsZ.fix=[]:=rfl
theorem qHu:qsZ.keep=[true,true,false,false,false,true]:=rfl
def qyb:Nm:=⟨[true,true],[],false⟩
theorem qFH:qyb.zero=false:=rfl
theorem qF4:qyb.fix=[]:=rfl
theorem qSl:qyb.keep=[true,true]:=rfl
def qo8:Nat→Tree:=fun _=> .done
def qtu:Nat→Nm:=fun i=>if i=2 then qsZ else ⟨[],[],false⟩
def qub:Nat→Option Jn:=fun _=>none
def qqF:Nat→Option Nm:=fun i=>if i=0 then some qyb else none
def qsa:Nat→Option Nm:=fun _=>none
theorem q54:qn qo8 (Tryz.f105.body.getD .skip)=true:=by kernel_rfl
def qc6 (N:Nat):Tab:={tr:=qo8,lp:=qtu,ex:=qqF,rg:=qsa,jn:=qub,fuel:=N}
theorem qPS (N:Nat):(qc6 N).pins=false:=rfl
theorem znJ (N:Nat):qp Tryz.prog (qc6 N):=qv fun _=>rfl
theorem qFj (N:Nat) (i:Nat):(qc6 N).tr i=qo8 i:=rfl
theorem qH6 (N:Nat) (i:Nat):(qc6 N).lp i=qtu i:=rfl
theorem qLm (N:Nat) (i:Nat):(qc6 N).ex i=qqF i:=rfl
theorem qOf (N:Nat) (i:Nat):(qc6 N).rg i=qsa i:=rfl
theorem qPb (N:Nat) (i:Nat):(qc6 N).jn i=qub i:=rfl
theorem qMD (N:Nat):(qc6 N).fuel=N:=rfl
noncomputable def q4f:Code:=cut [true,false,true,true,true] (Tryz.f105.body.getD .skip)
theorem zb5 {N:Nat} {Q:X→St→Option (qc [i4])} {e:List LV} {h:List Blk}:qe tt qlK (qc6 N) q4f Q ⟨e,h⟩=qe tt qlK (qc6 N) (cut [true,false,true,true,true] (Tryz.f105.body.getD .skip)) Q ⟨e,h⟩:=rfl
theorem zi3 (N:Nat) (v2:List (Val (.int .i64))) (v3:Int) {k0:Unit→Option (qc [i4])} {Q:X→St→Option (qc [i4])} {c:Code} (hc:c=q4f) (hret: ∀st,Q .ret st=qI tt true [i4] [.tmp 4] st) (h0:Q (.exit 0) ⟨[.one (.sl 3 (.int .i64) v2 0),.one (.int .i64 v3),u,u,u,u,u,u,u,u,u,u,u,u,u,u,u,u,u,u,u,u,u,u,u,u],[]⟩=k0 ()): ∀(n:Nat) (v4:Int),qE (qe tt qlK (qc6 N) c) false qsZ Q n ⟨[.one (.sl 3 (.int .i64) v2 0),.one (.int .i64 v3),u,u,u,.one (.int .i64 v4),u,u,u,u,u,u,u,u,u,u,u,u,u,u,u,u,u,u,u,u],[]⟩=qk5 N v2 v3 k0 n v4:=by
 subst hc;intro n;induction n with
 | zero=>intros;rfl
 | succ n ih=>
   intro v4
   rw [qN,zb5,qk5];unfold Tryz.f105
   simp (maxSteps:=10000000) -implicitDefEqProofs [qFj,qo8,qH6,qtu,qLm,qqF,qOf,qsa,qPb,qub,qMD,qPS,qMy,qHu,qT9,qF4,qSl,qFH,qFp,qLK,qam,qbl,hret,h0,ih]
theorem q4v (N:Nat) (v0:List (Val (.int .i64))) (v1:Int):qe tt qlK (qc6 N) (Tryz.f105.body.getD .skip) (qt tt true [i4] [.tmp 4]) (qw [i25,i3] 26 (v0,v1,()))=qAL N v0 v1:=by
 unfold Tryz.f105
 simp (maxSteps:=10000000) -implicitDefEqProofs [qFj,qo8,qH6,qtu,qLm,qqF,qOf,qsa,qPb,qub,qMD,qPS,qMy,qHu,qT9,qF4,qSl,qFH,qFp,qLK,qam,qbl]
 rewrite [zi3 (k0:=(fun (_:Unit)=>bif (decide ((v0.length:Int)=v1))then (some (((inR v1 (0:Int) (3:Int)):Bool),()))else (some (false,())))) N _ _ ?_ ?_ ?_]
 ·rewrite [qAL];first | rfl | simp (maxSteps:=10000000) -implicitDefEqProofs []
 ·rfl
 ·intro;simp only [qJ,qL,qK,qB]
 ·simp (maxSteps:=10000000) -implicitDefEqProofs [qFj,qo8,qH6,qtu,qLm,qqF,qOf,qsa,qPb,qub,qMD,qPS,qMy,qHu,qT9,qF4,qSl,qFH,qFp,qLK,qam,qbl]
theorem q4U (l:List (Val (.int .i64))) (d:Int) (h:qAH l d): ∃N,qAL N l d=some (qwe l d,()):=⟨l.length+1,by
 rw [qAL,qwe]
 refine (qaP (F:=fun n i (_:Unit)=>qk5 (l.length+1) l d _ n i) (step:=fun _ x _ K=>bif qR x then K ()else some (false,())) h (fun n i s hi=>by rw [qk5,qk (by omega),qd (by omega),qF hi,qaG]) (fun n i s hi=>by rw [qk5,qj (by omega)]) _ () (Nat.lt_succ_self _)).trans ((qdd l 0).trans ?_)
 cases l.all fun n=>qR n with
 | false=>rfl
 | true=>
   simp only [cond_true,Bool.true_and]
   cases decide ((l.length:Int)=d)<;>rfl⟩
theorem zjc:Sound Tryz.prog 105 qzh:=qx (tt:=tt) (Γ:=qlK) hT (qg qh1 (qg qqQ qu)) hm (fn:=Tryz.f105) Tryz.func105 (c:=Tryz.f105.body.getD .skip) (by kernel_rfl) (by kernel_rfl) fun x hx=>by
 obtain ⟨N,h⟩:=q4U x.1 x.2.1 hx
 exact ⟨qc6 N,q54,qy _,znJ N,(q4v N x.1 x.2.1).trans h⟩
def qEN:G:={ps:=[i25],rs:=[i25],dp:=true,pre:=fun x=>qEM x.1,fn:=fun x=>(qV x.1,())}
noncomputable def qmz (N:Nat) (v1:List (Val (.int .i64))) (k0:(List (Val (.int .i64)))→Option (qc [i25])):Nat→Int→(List (Val (.int .i64)))→Option (qc [i25])
 | 0,_,_=>none
 | n+1,v2,v3=>bif (decide (v2<(v1.length:Int)))then (chk (0≤v2∧v2<(v1.length:Int)) (chk (v3.length+([(IntKind.i64.wrap (0 - ((v1.getD v2.toNat (qb (.int .i64))):Int)))]:List (Val (.int .i64))).length≤1048576) (qmz N v1 k0 n (IntKind.i64.wrap (v2+(1:Int))) (v3++([(IntKind.i64.wrap (0 - ((v1.getD v2.toNat (qb (.int .i64))):Int)))]:List (Val (.int .i64)))))))else (k0 v3)
noncomputable def qyg (N:Nat) (v0:List (Val (.int .i64))):Option (qc [i25]):=qmz N v0 (fun (v5:List (Val (.int .i64)))=>some (v5,())) N (0:Int) ([]:List (Val (.int .i64)))
def qwu:Gam:=[]
def qqq:Nm:=⟨[true,false,false,true,true],[],false⟩
theorem qO6:qqq.zero=false:=rfl
theorem qPR:qqq.fix=[]:=rfl
theorem qWH:qqq.keep=[true,false,false,true,true]:=rfl
def qAE:Nm:=⟨[false,false,false,true],[],false⟩
theorem qNi:qAE.zero=false:=rfl
theorem qVl:qAE.fix=[]:=rfl
theorem qH4:qAE.keep=[false,false,false,true]:=rfl
def qos:Nat→Tree:=fun _=> .done
def qtj:Nat→Nm:=fun i=>if i=3 then qqq else ⟨[],[],false⟩
def qqO:Nat→Option Jn:=fun _=>none
def qpO:Nat→Option Nm:=fun i=>if i=0 then some qAE else none
def qvj:Nat→Option Nm:=fun _=>none
theorem q6R:qn qos (Tryz.f196.body.getD .skip)=true:=by kernel_rfl
def qdP (N:Nat):Tab:={tr:=qos,lp:=qtj,ex:=qpO,rg:=qvj,jn:=qqO,fuel:=N}
theorem qNC (N:Nat):(qdP N).pins=false:=rfl
theorem zcN (N:Nat):qp Tryz.prog (qdP N):=qv fun _=>rfl
theorem qTF (N:Nat) (i:Nat):(qdP N).tr i=qos i:=rfl
theorem qOY (N:Nat) (i:Nat):(qdP N).lp i=qtj i:=rfl
theorem qKS (N:Nat) (i:Nat):(qdP N).ex i=qpO i:=rfl
theorem qH1 (N:Nat) (i:Nat):(qdP N).rg i=qvj i:=rfl
theorem qMc (N:Nat) (i:Nat):(qdP N).jn i=qqO i:=rfl
theorem qSS (N:Nat):(qdP N).fuel=N:=rfl
noncomputable def q0b:Code:=cut [true,true,false,true,true,true] (Tryz.f196.body.getD .skip)
theorem zgj {N:Nat} {Q:X→St→Option (qc [i25])} {e:List LV} {h:List Blk}:qe tt qwu (qdP N) q0b Q ⟨e,h⟩=qe tt qwu (qdP N) (cut [true,true,false,true,true,true] (Tryz.f196.body.getD .skip)) Q ⟨e,h⟩:=rfl
theorem q5q (N:Nat) (v1:List (Val (.int .i64))) {k0:(List (Val (.int .i64)))→Option (qc [i25])} {Q:X→St→Option (qc [i25])} {c:Code} (hc:c=q0b) (hret: ∀st,Q .ret st=qI tt true [i25] [.tmp 2] st) (h0: ∀(v4:List (Val (.int .i64))),Q (.exit 0) ⟨[u,u,u,.one (.own 0),u,u,u,u,u,u,u,u,u,u,u,u,u,u,u,u,u],[.row 3 (.int .i64) v4 true true 0]⟩=k0 v4): ∀(n:Nat) (v2:Int) (v3:List (Val (.int .i64))),qE (qe tt qwu (qdP N) c) false qqq Q n ⟨[.one (.sl 3 (.int .i64) v1 1),u,u,.one (.own 0),.one (.int .i64 v2),u,u,u,u,u,u,u,u,u,u,u,u,u,u,u,u],[.row 3 (.int .i64) v3 true true 0]⟩=qmz N v1 k0 n v2 v3:=by
 subst hc;intro n;induction n with
 | zero=>intros;rfl
 | succ n ih=>
   intro v2 v3
   rw [qN,zgj,qmz];unfold Tryz.f196
   simp (maxSteps:=10000000) -implicitDefEqProofs [qTF,qos,qOY,qtj,qKS,qpO,qH1,qvj,qMc,qqO,qSS,qNC,qPR,qWH,qO6,qVl,qH4,qNi,hret,h0,ih]
theorem zcz (N:Nat) (v0:List (Val (.int .i64))):qe tt qwu (qdP N) (Tryz.f196.body.getD .skip) (qt tt true [i25] [.tmp 2]) (qw [i25] 21 (v0,()))=qyg N v0:=by
 unfold Tryz.f196
 simp (maxSteps:=10000000) -implicitDefEqProofs [qTF,qos,qOY,qtj,qKS,qpO,qH1,qvj,qMc,qqO,qSS,qNC,qPR,qWH,qO6,qVl,qH4,qNi]
 rewrite [q5q (k0:=(fun (v5:List (Val (.int .i64)))=>some (v5,()))) N _ ?_ ?_ ?_]
 ·rewrite [qyg];first | rfl | simp (maxSteps:=10000000) -implicitDefEqProofs []
 ·rfl
 ·intro;simp only [qJ,qL,qK,qB]
 ·intro v5;simp (maxSteps:=10000000) -implicitDefEqProofs [qTF,qos,qOY,qtj,qKS,qpO,qH1,qvj,qMc,qqO,qSS,qNC,qPR,qWH,qO6,qVl,qH4,qNi]
theorem znB (l:List (Val (.int .i64))) (h:qEM l): ∃N,qyg N l=some (qV l,()):=⟨l.length+1,by
 rw [qyg]
 refine (qaP (F:=fun n i s=>qmz (l.length+1) l (fun v5=>some (v5,())) n i s) (step:=fun _ x s K=>chk (s.length+[IntKind.i64.wrap (0 - (x:Int))].length≤1048576) (K (s++[IntKind.i64.wrap (0 - (x:Int))]))) (k:=fun v5=>some (v5,())) h (fun n i s hi=> ?_) (fun n i s hi=> ?_) _ [] (Nat.lt_succ_self _)).trans ?_
 ·rw [qmz,qk (by omega),qd (by omega),qF hi]
 ·rw [qmz,qj (by omega)]
 ·exact (quY (f:=fun x=>IntKind.i64.wrap (0 - (x:Int))) l 0 [] (by simpa using (show l.length≤1048576 from h))).trans (by simp [qV])⟩
theorem zb9:Sound Tryz.prog 196 qEN:=qx (tt:=tt) (Γ:=qwu) hT qu hm (fn:=Tryz.f196) Tryz.func196 (c:=Tryz.f196.body.getD .skip) (by kernel_rfl) (by kernel_rfl) fun x hx=>by
 obtain ⟨N,h⟩:=znB x.1 hx
 exact ⟨qdP N,q6R,qy _,zcN N,(zcz N x.1).trans h⟩
def qer:G:={ps:=[i33],rs:=[i33],dp:=true,pre:=fun x=>qnc x.1,fn:=fun x=>(qae x.1,())}
noncomputable def qi7 (N:Nat) (v2:Int) (v3:List (Val qa)) (v4:Int) (v5:Int) (k0:(List (Val qa))→Option (qc [i33])):Nat→Int→(List (Val qa))→Option (qc [i33])
 | 0,_,_=>none
 | n+1,v1,v6=>bif (decide (v1<(v3.length:Int)))then (chk (0≤v1∧v1<(v3.length:Int)) (chk (qbu (v3.getD v1.toNat (qb qa))) (chk (((idA (v3.getD v1.toNat (qb qa))).1:List (Val (.int .i64))).length+([(0:Int)]:List (Val (.int .i64))).length≤1048576) (chk (v6.length+([((((idA (v3.getD v1.toNat (qb qa))).1:List (Val (.int .i64)))++([(0:Int)]:List (Val (.int .i64)))),(((idA (v3.getD v1.toNat (qb qa))).2).1:Int),(((idA (v3.getD v1.toNat (qb qa))).2).2:Bool))]:List (Val qa)).length≤1048576) (qi7 N v2 v3 v4 v5 k0 n (IntKind.i64.wrap (v1+(1:Int))) (v6++([((((idA (v3.getD v1.toNat (qb qa))).1:List (Val (.int .i64)))++([(0:Int)]:List (Val (.int .i64)))),(((idA (v3.getD v1.toNat (qb qa))).2).1:Int),(((idA (v3.getD v1.toNat (qb qa))).2).2:Bool))]:List (Val qa))))))))else (k0 v6)
noncomputable def qC8 (N:Nat) (v0:Val Y33):Option (qc [i33]):=qi7 N (v0.1:Int) (v0.2:List (Val qa)) (0:Int) (IntKind.i64.wrap ((v0.1:Int)+(1:Int))) (fun (v8:List (Val qa))=>some (((IntKind.i64.wrap ((v0.1:Int)+(1:Int))),v8),())) N (0:Int) ([]:List (Val qa))
def qok:Gam:=[(234,qeK)]
theorem qE3:Gam.get qok 234=some qeK:=rfl
def qry:Nm:=⟨[false,true,true,true,true],[.box 3 1 108 qa],false⟩
theorem qUA:qry.zero=false:=rfl
theorem qRp:qry.fix=[.box 3 1 108 qa]:=rfl
theorem qGz:qry.keep=[false,true,true,true,true]:=rfl
def qC7:Nm:=⟨[false,false,true,true],[],false⟩
theorem qGq:qC7.zero=false:=rfl
theorem qXS:qC7.fix=[]:=rfl
theorem qMt:qC7.keep=[false,false,true,true]:=rfl
def qnx:Nat→Tree:=fun _=> .done
def qtN:Nat→Nm:=fun i=>if i=3 then qry else ⟨[],[],false⟩
def qxa:Nat→Option Jn:=fun _=>none
def qpW:Nat→Option Nm:=fun i=>if i=0 then some qC7 else none
def qvf:Nat→Option Nm:=fun _=>none
theorem q5W:qn qnx (Tryz.f195.body.getD .skip)=true:=by kernel_rfl
def qdW (N:Nat):Tab:={tr:=qnx,lp:=qtN,ex:=qpW,rg:=qvf,jn:=qxa,fuel:=N}
theorem qJe (N:Nat):(qdW N).pins=false:=rfl
theorem q8U (N:Nat):qp Tryz.prog (qdW N):=qv fun _=>rfl
theorem qNq (N:Nat) (i:Nat):(qdW N).tr i=qnx i:=rfl
theorem qWI (N:Nat) (i:Nat):(qdW N).lp i=qtN i:=rfl
theorem qGK (N:Nat) (i:Nat):(qdW N).ex i=qpW i:=rfl
theorem qR2 (N:Nat) (i:Nat):(qdW N).rg i=qvf i:=rfl
theorem qE9 (N:Nat) (i:Nat):(qdW N).jn i=qxa i:=rfl
theorem qIu (N:Nat):(qdW N).fuel=N:=rfl
noncomputable def q2K:Code:=cut [true,true,false,true,true,true] (Tryz.f195.body.getD .skip)
theorem zqJ {N:Nat} {Q:X→St→Option (qc [i33])} {e:List LV} {h:List Blk}:qe tt qok (qdW N) q2K Q ⟨e,h⟩=qe tt qok (qdW N) (cut [true,true,false,true,true,true] (Tryz.f195.body.getD .skip)) Q ⟨e,h⟩:=rfl
theorem zbc (N:Nat) (v2:Int) (v3:List (Val qa)) (v4:Int) (v5:Int) {k0:(List (Val qa))→Option (qc [i33])} {Q:X→St→Option (qc [i33])} {c:Code} (hc:c=q2K) (hret: ∀st,Q .ret st=qI tt true [i33] [.cell 2 33] st) (h0: ∀(v7:List (Val qa)),Q (.exit 0) ⟨[u,u,.one (.ptr 0 0 0),.one (.ptr 1 0 0),u,u,u,u,u,u,u,u,u,u,u,u,u,u,u,u,u,u,u,u,u,u,u,u,u,u,u,u,u,u,u],[.box [.int .i64 v4,.nils],.box [.int .i64 v5,.own 2],.row 108 qa v7 true true 0]⟩=k0 v7): ∀(n:Nat) (v1:Int) (v6:List (Val qa)),qE (qe tt qok (qdW N) c) false qry Q n ⟨[u,.one (.ptr 0 0 0),.one (.ptr 1 0 0),.one (.ptr 2 0 0),.one (.int .i64 v1),u,u,u,u,u,u,u,u,u,u,u,u,u,u,u,u,u,u,u,u,u,u,u,u,u,u,u,u,u,u],[.box [.int .i64 v2,.sl 108 qa v3 4],.box [.int .i64 v4,.nils],.box [.int .i64 v5,.own 3],.row 108 qa v6 true true 0]⟩=qi7 N v2 v3 v4 v5 k0 n v1 v6:=by
 subst hc;intro n;induction n with
 | zero=>intros;rfl
 | succ n ih=>
   intro v1 v6
   rw [qN,zqJ,qi7];unfold Tryz.f195
   simp (maxSteps:=10000000) -implicitDefEqProofs [qNq,qnx,qWI,qtN,qGK,qpW,qR2,qvf,qE9,qxa,qIu,qJe,qRp,qGz,qUA,qXS,qMt,qGq,qE3,qeK,hret,h0,ih]
theorem zas (N:Nat) (v0:Val Y33):qe tt qok (qdW N) (Tryz.f195.body.getD .skip) (qt tt true [i33] [.cell 2 33]) (qw [i33] 35 (v0,()))=qC8 N v0:=by
 unfold Tryz.f195
 simp (maxSteps:=10000000) -implicitDefEqProofs [qNq,qnx,qWI,qtN,qGK,qpW,qR2,qvf,qE9,qxa,qIu,qJe,qRp,qGz,qUA,qXS,qMt,qGq,qE3,qeK]
 rewrite [zbc (k0:=(fun (v8:List (Val qa))=>some (((IntKind.i64.wrap ((v0.1:Int)+(1:Int))),v8),()))) N _ _ _ _ ?_ ?_ ?_]
 ·rewrite [qC8];first | rfl | simp (maxSteps:=10000000) -implicitDefEqProofs []
 ·rfl
 ·intro;simp only [qJ,qL,qK,qB]
 ·intro v8;simp (maxSteps:=10000000) -implicitDefEqProofs [qNq,qnx,qWI,qtN,qGK,qpW,qR2,qvf,qE9,qxa,qIu,qJe,qRp,qGz,qUA,qXS,qMt,qGq,qE3,qeK]
theorem zhP (c:Val Y33) (h:qnc c): ∃N,qC8 N c=some (qae c,()):=⟨List.length (α:=Val qa) c.2+1,by
 obtain ⟨d,xs⟩:=c
 change Int at d
 change List (Val qa)at xs
 obtain ⟨hb,hx,hm,hd⟩:=h
 have hd:0≤d∧d≤100:=hd
 have hl:xs.length≤1048576:=hb.2.1
 rw [qC8]
 show qi7 _ d xs 0 (IntKind.i64.wrap (d+1)) (fun v8=>some ((IntKind.i64.wrap (d+1),v8),())) _ 0 []=_
 rw [qaq (by omega) (by omega)]
 refine (qaP (F:=fun n i s=>qi7 _ d xs 0 (d+1) (fun v8=>some ((d+1,v8),())) n i s) (step:=fun _ x s K=>chk (s.length+[qcx 1 x].length≤1048576) (K (s++[qcx 1 x]))) (k:=fun v8=>some ((d+1,v8),())) hl (fun n i s hi=> ?_) (fun n i s hi=> ?_) _ [] (Nat.lt_succ_self _)).trans ?_
 ·have:=hx _ (List.getElem_mem hi)
  rw [qi7,qk (by omega),qd (by omega),qF hi,qd (show qbu _ from by show List.length (α:=Int) _≤_;omega),qd (show List.length (α:=Int) (idA xs[i]).1+[(0:Int)].length≤1048576 from by show List.length (α:=Int) xs[i].1+1≤_;omega)]
  rfl
 ·rw [qi7,qj (by omega)]
 ·exact (quY (f:=qcx 1) xs 0 [] (by simpa using hl)).trans (by simp [qae,qq])⟩
theorem q3j:Sound Tryz.prog 195 qer:=qx (tt:=tt) (Γ:=qok) hT (qg qZM qu) hm (fn:=Tryz.f195) Tryz.func195 (c:=Tryz.f195.body.getD .skip) (by kernel_rfl) (by kernel_rfl) fun x hx=>by
 obtain ⟨N,h⟩:=zhP x.1 hx
 exact ⟨qdW N,q5W,qy _,q8U N,(zas N x.1).trans h⟩
theorem q20 {l:List (Val (.int .i64))} (h: ∀x∈l,qR x=true) {u:Int} (hu:u.natAbs=1): ∀x∈(l++[u]:List Int),inI x:=fun x hx=>by
 rcases List.mem_append.1 hx with hx | hx
 ·have:=h x hx
  unfold qR at this
  simp only [decide_eq_true_eq]at this
  unfold inI;omega
 ·rw [List.mem_singleton.1 hx];unfold inI;omega
theorem zrj {c:Val Y33} {l:List (Val (.int .i64))} (h:16<List.length (α:=Val qa) c.2+2):qW c l=(noB,false):=by
 unfold qW qA
 cases hc:qH (qym c l)with
 | false=>rfl
 | true=>
   have:=(qla hc).2.1
   rw [q7l]at this
   omega
def qAN:G:={ps:=[i33,i25],rs:=[qD,i4],dp:=true,pre:=fun x=>qiB x.1 x.2.1,fn:=fun x=>((qW x.1 x.2.1).1,(qW x.1 x.2.1).2,())}
noncomputable def qDC (N:Nat) (v0:Val Y33) (v1:List (Val (.int .i64))):Option (qc [qD,i4]):=chk (qnc v0) (chk (([]:List (Val (.int .i64))).length+v1.length≤1048576) (chk ((([]:List (Val (.int .i64)))++v1).length+([(-1:Int)]:List (Val (.int .i64))).length≤1048576) (chk (qap ((([]:List (Val (.int .i64)))++v1)++([(-1:Int)]:List (Val (.int .i64)))) (0:Int) false) (chk (qEM v1) (chk (((qV v1):List (Val (.int .i64))).length+([(1:Int)]:List (Val (.int .i64))).length≤1048576) (chk (qap (((qV v1):List (Val (.int .i64)))++([(1:Int)]:List (Val (.int .i64)))) (0:Int) false) (chk (((qae v0).2:List (Val qa)).length+([((((qh ((([]:List (Val (.int .i64)))++v1)++([(-1:Int)]:List (Val (.int .i64)))) (0:Int) false).1).1:List (Val (.int .i64))),((((qh ((([]:List (Val (.int .i64)))++v1)++([(-1:Int)]:List (Val (.int .i64)))) (0:Int) false).1).2).1:Int),((((qh ((([]:List (Val (.int .i64)))++v1)++([(-1:Int)]:List (Val (.int .i64)))) (0:Int) false).1).2).2:Bool))]:List (Val qa)).length≤1048576) (chk ((((qae v0).2:List (Val qa))++([((((qh ((([]:List (Val (.int .i64)))++v1)++([(-1:Int)]:List (Val (.int .i64)))) (0:Int) false).1).1:List (Val (.int .i64))),((((qh ((([]:List (Val (.int .i64)))++v1)++([(-1:Int)]:List (Val (.int .i64)))) (0:Int) false).1).2).1:Int),((((qh ((([]:List (Val (.int .i64)))++v1)++([(-1:Int)]:List (Val (.int .i64)))) (0:Int) false).1).2).2:Bool))]:List (Val qa))).length+([((((qh (((qV v1):List (Val (.int .i64)))++([(1:Int)]:List (Val (.int .i64)))) (0:Int) false).1).1:List (Val (.int .i64))),((((qh (((qV v1):List (Val (.int .i64)))++([(1:Int)]:List (Val (.int .i64)))) (0:Int) false).1).2).1:Int),((((qh (((qV v1):List (Val (.int .i64)))++([(1:Int)]:List (Val (.int .i64)))) (0:Int) false).1).2).2:Bool))]:List (Val qa)).length≤1048576) (bif (!((qh ((([]:List (Val (.int .i64)))++v1)++([(-1:Int)]:List (Val (.int .i64)))) (0:Int) false).2:Bool))then (some ((false,((0:Int),(0:Int)),false,false,((0:Int),(0:Int)),false,false),false,()))else (bif (!((qh (((qV v1):List (Val (.int .i64)))++([(1:Int)]:List (Val (.int .i64)))) (0:Int) false).2:Bool))then (some ((false,((0:Int),(0:Int)),false,false,((0:Int),(0:Int)),false,false),false,()))else (bif (decide ((16:Int)<(((((qae v0).2:List (Val qa))++([((((qh ((([]:List (Val (.int .i64)))++v1)++([(-1:Int)]:List (Val (.int .i64)))) (0:Int) false).1).1:List (Val (.int .i64))),((((qh ((([]:List (Val (.int .i64)))++v1)++([(-1:Int)]:List (Val (.int .i64)))) (0:Int) false).1).2).1:Int),((((qh ((([]:List (Val (.int .i64)))++v1)++([(-1:Int)]:List (Val (.int .i64)))) (0:Int) false).1).2).2:Bool))]:List (Val qa)))++([((((qh (((qV v1):List (Val (.int .i64)))++([(1:Int)]:List (Val (.int .i64)))) (0:Int) false).1).1:List (Val (.int .i64))),((((qh (((qV v1):List (Val (.int .i64)))++([(1:Int)]:List (Val (.int .i64)))) (0:Int) false).1).2).1:Int),((((qh (((qV v1):List (Val (.int .i64)))++([(1:Int)]:List (Val (.int .i64)))) (0:Int) false).1).2).2:Bool))]:List (Val qa))).length:Int)))then (some ((false,((0:Int),(0:Int)),false,false,((0:Int),(0:Int)),false,false),false,()))else (chk (qt4 (((qae v0).1:Int),((((qae v0).2:List (Val qa))++([((((qh ((([]:List (Val (.int .i64)))++v1)++([(-1:Int)]:List (Val (.int .i64)))) (0:Int) false).1).1:List (Val (.int .i64))),((((qh ((([]:List (Val (.int .i64)))++v1)++([(-1:Int)]:List (Val (.int .i64)))) (0:Int) false).1).2).1:Int),((((qh ((([]:List (Val (.int .i64)))++v1)++([(-1:Int)]:List (Val (.int .i64)))) (0:Int) false).1).2).2:Bool))]:List (Val qa)))++([((((qh (((qV v1):List (Val (.int .i64)))++([(1:Int)]:List (Val (.int .i64)))) (0:Int) false).1).1:List (Val (.int .i64))),((((qh (((qV v1):List (Val (.int .i64)))++([(1:Int)]:List (Val (.int .i64)))) (0:Int) false).1).2).1:Int),((((qh (((qV v1):List (Val (.int .i64)))++([(1:Int)]:List (Val (.int .i64)))) (0:Int) false).1).2).2:Bool))]:List (Val qa)))) (v0.1:Int)) (some (((((qA (((qae v0).1:Int),((((qae v0).2:List (Val qa))++([((((qh ((([]:List (Val (.int .i64)))++v1)++([(-1:Int)]:List (Val (.int .i64)))) (0:Int) false).1).1:List (Val (.int .i64))),((((qh ((([]:List (Val (.int .i64)))++v1)++([(-1:Int)]:List (Val (.int .i64)))) (0:Int) false).1).2).1:Int),((((qh ((([]:List (Val (.int .i64)))++v1)++([(-1:Int)]:List (Val (.int .i64)))) (0:Int) false).1).2).2:Bool))]:List (Val qa)))++([((((qh (((qV v1):List (Val (.int .i64)))++([(1:Int)]:List (Val (.int .i64)))) (0:Int) false).1).1:List (Val (.int .i64))),((((qh (((qV v1):List (Val (.int .i64)))++([(1:Int)]:List (Val (.int .i64)))) (0:Int) false).1).2).1:Int),((((qh (((qV v1):List (Val (.int .i64)))++([(1:Int)]:List (Val (.int .i64)))) (0:Int) false).1).2).2:Bool))]:List (Val qa)))) (v0.1:Int)).1).1:Bool),((((((qA (((qae v0).1:Int),((((qae v0).2:List (Val qa))++([((((qh ((([]:List (Val (.int .i64)))++v1)++([(-1:Int)]:List (Val (.int .i64)))) (0:Int) false).1).1:List (Val (.int .i64))),((((qh ((([]:List (Val (.int .i64)))++v1)++([(-1:Int)]:List (Val (.int .i64)))) (0:Int) false).1).2).1:Int),((((qh ((([]:List (Val (.int .i64)))++v1)++([(-1:Int)]:List (Val (.int .i64)))) (0:Int) false).1).2).2:Bool))]:List (Val qa)))++([((((qh (((qV v1):List (Val (.int .i64)))++([(1:Int)]:List (Val (.int .i64)))) (0:Int) false).1).1:List (Val (.int .i64))),((((qh (((qV v1):List (Val (.int .i64)))++([(1:Int)]:List (Val (.int .i64)))) (0:Int) false).1).2).1:Int),((((qh (((qV v1):List (Val (.int .i64)))++([(1:Int)]:List (Val (.int .i64)))) (0:Int) false).1).2).2:Bool))]:List (Val qa)))) (v0.1:Int)).1).2).1).1:Int),(((((qA (((qae v0).1:Int),((((qae v0).2:List (Val qa))++([((((qh ((([]:List (Val (.int .i64)))++v1)++([(-1:Int)]:List (Val (.int .i64)))) (0:Int) false).1).1:List (Val (.int .i64))),((((qh ((([]:List (Val (.int .i64)))++v1)++([(-1:Int)]:List (Val (.int .i64)))) (0:Int) false).1).2).1:Int),((((qh ((([]:List (Val (.int .i64)))++v1)++([(-1:Int)]:List (Val (.int .i64)))) (0:Int) false).1).2).2:Bool))]:List (Val qa)))++([((((qh (((qV v1):List (Val (.int .i64)))++([(1:Int)]:List (Val (.int .i64)))) (0:Int) false).1).1:List (Val (.int .i64))),((((qh (((qV v1):List (Val (.int .i64)))++([(1:Int)]:List (Val (.int .i64)))) (0:Int) false).1).2).1:Int),((((qh (((qV v1):List (Val (.int .i64)))++([(1:Int)]:List (Val (.int .i64)))) (0:Int) false).1).2).2:Bool))]:List (Val qa)))) (v0.1:Int)).1).2).1).2:Int)),(((((qA (((qae v0).1:Int),((((qae v0).2:List (Val qa))++([((((qh ((([]:List (Val (.int .i64)))++v1)++([(-1:Int)]:List (Val (.int .i64)))) (0:Int) false).1).1:List (Val (.int .i64))),((((qh ((([]:List (Val (.int .i64)))++v1)++([(-1:Int)]:List (Val (.int .i64)))) (0:Int) false).1).2).1:Int),((((qh ((([]:List (Val (.int .i64)))++v1)++([(-1:Int)]:List (Val (.int .i64)))) (0:Int) false).1).2).2:Bool))]:List (Val qa)))++([((((qh (((qV v1):List (Val (.int .i64)))++([(1:Int)]:List (Val (.int .i64)))) (0:Int) false).1).1:List (Val (.int .i64))),((((qh (((qV v1):List (Val (.int .i64)))++([(1:Int)]:List (Val (.int .i64)))) (0:Int) false).1).2).1:Int),((((qh (((qV v1):List (Val (.int .i64)))++([(1:Int)]:List (Val (.int .i64)))) (0:Int) false).1).2).2:Bool))]:List (Val qa)))) (v0.1:Int)).1).2).2).1:Bool),((((((qA (((qae v0).1:Int),((((qae v0).2:List (Val qa))++([((((qh ((([]:List (Val (.int .i64)))++v1)++([(-1:Int)]:List (Val (.int .i64)))) (0:Int) false).1).1:List (Val (.int .i64))),((((qh ((([]:List (Val (.int .i64)))++v1)++([(-1:Int)]:List (Val (.int .i64)))) (0:Int) false).1).2).1:Int),((((qh ((([]:List (Val (.int .i64)))++v1)++([(-1:Int)]:List (Val (.int .i64)))) (0:Int) false).1).2).2:Bool))]:List (Val qa)))++([((((qh (((qV v1):List (Val (.int .i64)))++([(1:Int)]:List (Val (.int .i64)))) (0:Int) false).1).1:List (Val (.int .i64))),((((qh (((qV v1):List (Val (.int .i64)))++([(1:Int)]:List (Val (.int .i64)))) (0:Int) false).1).2).1:Int),((((qh (((qV v1):List (Val (.int .i64)))++([(1:Int)]:List (Val (.int .i64)))) (0:Int) false).1).2).2:Bool))]:List (Val qa)))) (v0.1:Int)).1).2).2).2).1:Bool),(((((((((qA (((qae v0).1:Int),((((qae v0).2:List (Val qa))++([((((qh ((([]:List (Val (.int .i64)))++v1)++([(-1:Int)]:List (Val (.int .i64)))) (0:Int) false).1).1:List (Val (.int .i64))),((((qh ((([]:List (Val (.int .i64)))++v1)++([(-1:Int)]:List (Val (.int .i64)))) (0:Int) false).1).2).1:Int),((((qh ((([]:List (Val (.int .i64)))++v1)++([(-1:Int)]:List (Val (.int .i64)))) (0:Int) false).1).2).2:Bool))]:List (Val qa)))++([((((qh (((qV v1):List (Val (.int .i64)))++([(1:Int)]:List (Val (.int .i64)))) (0:Int) false).1).1:List (Val (.int .i64))),((((qh (((qV v1):List (Val (.int .i64)))++([(1:Int)]:List (Val (.int .i64)))) (0:Int) false).1).2).1:Int),((((qh (((qV v1):List (Val (.int .i64)))++([(1:Int)]:List (Val (.int .i64)))) (0:Int) false).1).2).2:Bool))]:List (Val qa)))) (v0.1:Int)).1).2).2).2).2).1).1:Int),((((((((qA (((qae v0).1:Int),((((qae v0).2:List (Val qa))++([((((qh ((([]:List (Val (.int .i64)))++v1)++([(-1:Int)]:List (Val (.int .i64)))) (0:Int) false).1).1:List (Val (.int .i64))),((((qh ((([]:List (Val (.int .i64)))++v1)++([(-1:Int)]:List (Val (.int .i64)))) (0:Int) false).1).2).1:Int),((((qh ((([]:List (Val (.int .i64)))++v1)++([(-1:Int)]:List (Val (.int .i64)))) (0:Int) false).1).2).2:Bool))]:List (Val qa)))++([((((qh (((qV v1):List (Val (.int .i64)))++([(1:Int)]:List (Val (.int .i64)))) (0:Int) false).1).1:List (Val (.int .i64))),((((qh (((qV v1):List (Val (.int .i64)))++([(1:Int)]:List (Val (.int .i64)))) (0:Int) false).1).2).1:Int),((((qh (((qV v1):List (Val (.int .i64)))++([(1:Int)]:List (Val (.int .i64)))) (0:Int) false).1).2).2:Bool))]:List (Val qa)))) (v0.1:Int)).1).2).2).2).2).1).2:Int)),((((((((qA (((qae v0).1:Int),((((qae v0).2:List (Val qa))++([((((qh ((([]:List (Val (.int .i64)))++v1)++([(-1:Int)]:List (Val (.int .i64)))) (0:Int) false).1).1:List (Val (.int .i64))),((((qh ((([]:List (Val (.int .i64)))++v1)++([(-1:Int)]:List (Val (.int .i64)))) (0:Int) false).1).2).1:Int),((((qh ((([]:List (Val (.int .i64)))++v1)++([(-1:Int)]:List (Val (.int .i64)))) (0:Int) false).1).2).2:Bool))]:List (Val qa)))++([((((qh (((qV v1):List (Val (.int .i64)))++([(1:Int)]:List (Val (.int .i64)))) (0:Int) false).1).1:List (Val (.int .i64))),((((qh (((qV v1):List (Val (.int .i64)))++([(1:Int)]:List (Val (.int .i64)))) (0:Int) false).1).2).1:Int),((((qh (((qV v1):List (Val (.int .i64)))++([(1:Int)]:List (Val (.int .i64)))) (0:Int) false).1).2).2:Bool))]:List (Val qa)))) (v0.1:Int)).1).2).2).2).2).2).1:Bool),((((((((qA (((qae v0).1:Int),((((qae v0).2:List (Val qa))++([((((qh ((([]:List (Val (.int .i64)))++v1)++([(-1:Int)]:List (Val (.int .i64)))) (0:Int) false).1).1:List (Val (.int .i64))),((((qh ((([]:List (Val (.int .i64)))++v1)++([(-1:Int)]:List (Val (.int .i64)))) (0:Int) false).1).2).1:Int),((((qh ((([]:List (Val (.int .i64)))++v1)++([(-1:Int)]:List (Val (.int .i64)))) (0:Int) false).1).2).2:Bool))]:List (Val qa)))++([((((qh (((qV v1):List (Val (.int .i64)))++([(1:Int)]:List (Val (.int .i64)))) (0:Int) false).1).1:List (Val (.int .i64))),((((qh (((qV v1):List (Val (.int .i64)))++([(1:Int)]:List (Val (.int .i64)))) (0:Int) false).1).2).1:Int),((((qh (((qV v1):List (Val (.int .i64)))++([(1:Int)]:List (Val (.int .i64)))) (0:Int) false).1).2).2:Bool))]:List (Val qa)))) (v0.1:Int)).1).2).2).2).2).2).2:Bool)),((qA (((qae v0).1:Int),((((qae v0).2:List (Val qa))++([((((qh ((([]:List (Val (.int .i64)))++v1)++([(-1:Int)]:List (Val (.int .i64)))) (0:Int) false).1).1:List (Val (.int .i64))),((((qh ((([]:List (Val (.int .i64)))++v1)++([(-1:Int)]:List (Val (.int .i64)))) (0:Int) false).1).2).1:Int),((((qh ((([]:List (Val (.int .i64)))++v1)++([(-1:Int)]:List (Val (.int .i64)))) (0:Int) false).1).2).2:Bool))]:List (Val qa)))++([((((qh (((qV v1):List (Val (.int .i64)))++([(1:Int)]:List (Val (.int .i64)))) (0:Int) false).1).1:List (Val (.int .i64))),((((qh (((qV v1):List (Val (.int .i64)))++([(1:Int)]:List (Val (.int .i64)))) (0:Int) false).1).2).1:Int),((((qh (((qV v1):List (Val (.int .i64)))++([(1:Int)]:List (Val (.int .i64)))) (0:Int) false).1).2).2:Bool))]:List (Val qa)))) (v0.1:Int)).2:Bool),()))))))))))))))
def qnf:Gam:=[(121,qgR),(149,qbt),(195,qer),(196,qEN)]
theorem zg1:Gam.get qnf 121=some qgR:=rfl
theorem zq3:Gam.get qnf 149=some qbt:=rfl
theorem q7c:Gam.get qnf 195=some qer:=rfl
theorem q8D:Gam.get qnf 196=some qEN:=rfl
def qAP:Nm:=⟨[false,false,true,false,true,false,true,false,true,false,true],[],false⟩
theorem zkv:qAP.zero=false:=rfl
theorem q9Z:qAP.fix=[]:=rfl
theorem zqL:qAP.keep=[false,false,true,false,true,false,true,false,true,false,true]:=rfl
def qxK:Nat→Tree:=fun i=>if i=4 then .keep 0 (.keep 1 (.keep 2 (.keep 5 (.alt 3 (.alt 4 (.alt 6 (.alt 7 (.quiet 8 (.alt 9 .done .stop)) .stop) .stop) (.alt 6 (.alt 4 (.alt 7 (.quiet 8 (.alt 9 .done .stop)) .stop) .stop) .stop)) (.alt 6 (.alt 3 (.alt 4 (.alt 7 (.quiet 8 (.alt 9 .done .stop)) .stop) .stop) .stop) .stop)))))else .done
def qJw:Nat→Nm:=fun _=>⟨[],[],false⟩
def qJY:Nat→Option Jn:=fun _=>none
def qKI:Nat→Option Nm:=fun _=>none
def qVe:Nat→Option Nm:=fun i=>if i=4 then some qAP else none
theorem zh5:qn qxK (Tryz.f106.body.getD .skip)=true:=by kernel_rfl
def qfa (N:Nat):Tab:={tr:=qxK,lp:=qJw,ex:=qKI,rg:=qVe,jn:=qJY,fuel:=N}
theorem zkV (N:Nat):(qfa N).pins=false:=rfl
theorem zd7 (N:Nat):qp Tryz.prog (qfa N):=qv fun _=>rfl
theorem zgn (N:Nat) (i:Nat):(qfa N).tr i=qxK i:=rfl
theorem zbX (N:Nat) (i:Nat):(qfa N).lp i=qJw i:=rfl
theorem zfK (N:Nat) (i:Nat):(qfa N).ex i=qKI i:=rfl
theorem ziy (N:Nat) (i:Nat):(qfa N).rg i=qVe i:=rfl
theorem zkG (N:Nat) (i:Nat):(qfa N).jn i=qJY i:=rfl
theorem q7q (N:Nat):(qfa N).fuel=N:=rfl
theorem zoE (N:Nat) (v0:Val Y33) (v1:List (Val (.int .i64))):qe tt qnf (qfa N) (Tryz.f106.body.getD .skip) (qt tt true [qD,i4] [.cell 4 130,.tmp 5]) (qw [i33,i25] 63 (v0,v1,()))=qDC N v0 v1:=by
 rw [qDC];unfold Tryz.f106
 simp (maxSteps:=10000000) -implicitDefEqProofs [zgn,qxK,zbX,qJw,zfK,qKI,ziy,qVe,zkG,qJY,q7q,zkV,q9Z,zqL,zkv,zg1,zq3,q7c,q8D,qgR,qbt,qer,qEN]
 try rfl
theorem zoz (c:Val Y33) (l:List (Val (.int .i64))) (h:qiB c l): ∃N,qDC N c l=some ((qW c l).1,(qW c l).2,()):=⟨0,by
 have hk:=qRd h.2.1
 have hcl:=qla h.1
 have hl:l.length≤3:=by
  obtain ⟨d,xs⟩:=c
  change Int at d
  have h1:(l.length:Int)=d:=hk.1
  have:d<4:=h.2.2
  omega
 have hxl:((qae c).2:List (Val qa)).length=List.length (α:=Val qa) c.2:=by
  show (List.map (qcx 1) (c.2:List (Val qa))).length=_
  rw [List.length_map]
 have hup:qh (([]++l)++[(-1:Int)]) 0 false=(upA l,true):=q2n (l:=l) rfl hl hk.2
 have hdn:qh (qV l++[(1:Int)]) 0 false=(dnA l,true):=q2n (l:=qV l) rfl (by rw [qm9];exact hl) (q07 hk.2)
 rw [qDC,qd (show qnc c from qDT h.1),qd (by simp;omega),qd (by simp;omega),qd (show qap (([]++l)++[(-1:Int)]) 0 false from ⟨by simp;omega,by unfold inI;omega,q20 (l:=l) hk.2 rfl⟩),qd (show qEM l from by show l.length≤_;omega),qd (by rw [qm9];simp;omega),qd (show qap (qV l++[(1:Int)]) 0 false from ⟨by rw [List.length_append,qm9];simp;omega,by unfold inI;omega,q20 (q07 hk.2) rfl⟩),
  qd (by rw [hxl,List.length_singleton];omega),qd (by rw [List.length_append,hxl,List.length_singleton,List.length_singleton];omega),hup,hdn]
 simp only [Bool.not_true,cond_false]
 by_cases hlen:16<List.length (α:=Val qa) c.2+2
 ·rw [qk (by rw [List.length_append,List.length_append,hxl,List.length_singleton,List.length_singleton];omega),zrj hlen]
  rfl
 ·rw [qj (by rw [List.length_append,List.length_append,hxl,List.length_singleton,List.length_singleton];omega),qd (by
   show (((qae c).2++[upA l])++[dnA l]:List (Val qa)).length≤1048576
   rw [List.length_append,List.length_append,hxl,List.length_singleton,List.length_singleton];omega)]
  have e:(((qae c).1,((qae c).2++[upA l])++[dnA l]):Val Y33)=qym c l:=by
   show _=(((qq c 1).1,(qq c 1).2++[upA l,dnA l]):Val Y33)
   rw [show ([upA l,dnA l]:List (Val qa))=[upA l]++[dnA l] from rfl,←List.append_assoc]
   rfl
  show some ((qA (((qae c).1,((qae c).2++[upA l])++[dnA l]):Val Y33) c.1).1,(qA (((qae c).1,((qae c).2++[upA l])++[dnA l]):Val Y33) c.1).2,())=_
  rw [e];rfl⟩
theorem zqu:Sound Tryz.prog 106 qAN:=qx (tt:=tt) (Γ:=qnf) hT (qg qYz (qg qzu (qg q3j (qg zb9 qu)))) hm (fn:=Tryz.f106) Tryz.func106 (c:=Tryz.f106.body.getD .skip) (by kernel_rfl) (by kernel_rfl) fun x hx=>by
 obtain ⟨N,h⟩:=zoz x.1 x.2.1 hx
 exact ⟨qfa N,zh5,qy _,zd7 N,(zoE N x.1 x.2.1).trans h⟩
def qCb:G:={ps:=[i33,i25],rs:=[i4],dp:=true,pre:=fun x=>qv2 x.1 x.2.1,fn:=fun x=>(qdD x.1 x.2.1,())}
noncomputable def qDi (N:Nat) (v0:Val Y33) (v1:List (Val (.int .i64))):Option (qc [i4]):=bif ((qH v0):Bool)then (bif (decide (((v0.2:List (Val qa)).length:Int)<(16:Int)))then (bif (decide ((v0.1:Int)<(4:Int)))then (chk (qBZ v0 v1) (some (((qe3 v0 v1):Bool),())))else (some (false,())))else (some (false,())))else (some (false,()))
def qzL:Gam:=[(199,qaS),(200,qDs)]
theorem q4z:Gam.get qzL 199=some qaS:=rfl
theorem ze4:Gam.get qzL 200=some qDs:=rfl
def qyR:Nat→Tree:=fun _=> .done
def qQE:Nat→Nm:=fun _=>⟨[],[],false⟩
def qIs:Nat→Option Jn:=fun _=>none
def qKT:Nat→Option Nm:=fun _=>none
def qHd:Nat→Option Nm:=fun _=>none
theorem zgy:qn qyR (Tryz.f111.body.getD .skip)=true:=by kernel_rfl
def qf7 (N:Nat):Tab:={tr:=qyR,lp:=qQE,ex:=qKT,rg:=qHd,jn:=qIs,fuel:=N}
theorem zop (N:Nat):(qf7 N).pins=false:=rfl
theorem zho (N:Nat):qp Tryz.prog (qf7 N):=qv fun _=>rfl
theorem zq5 (N:Nat) (i:Nat):(qf7 N).tr i=qyR i:=rfl
theorem zq6 (N:Nat) (i:Nat):(qf7 N).lp i=qQE i:=rfl
theorem q9V (N:Nat) (i:Nat):(qf7 N).ex i=qKT i:=rfl
theorem q6W (N:Nat) (i:Nat):(qf7 N).rg i=qHd i:=rfl
theorem zdq (N:Nat) (i:Nat):(qf7 N).jn i=qIs i:=rfl
theorem zcg (N:Nat):(qf7 N).fuel=N:=rfl
theorem q5r (N:Nat) (v0:Val Y33) (v1:List (Val (.int .i64))):qe tt qzL (qf7 N) (Tryz.f111.body.getD .skip) (qt tt true [i4] [.tmp 4]) (qw [i33,i25] 23 (v0,v1,()))=qDi N v0 v1:=by
 rw [qDi];unfold Tryz.f111
 simp (maxSteps:=10000000) -implicitDefEqProofs [zq5,qyR,zq6,qQE,q9V,qKT,q6W,qHd,zdq,qIs,zcg,zop,q4z,ze4,qaS,qDs]
 try rfl
theorem zq7 (c:Val Y33) (l:List (Val (.int .i64))) (h:qv2 c l): ∃N,qDi N c l=some (qdD c l,()):=⟨0,by
 rw [qDi,qdD]
 cases qH c with
 | false=>rfl
 | true=>
   cases decide ((List.length (α:=Val qa) c.2:Int)<16)with
   | false=>rfl
   | true=>
     cases decide ((c.1:Int)<4)with
     | false=>rfl
     | true=>
       simp only [cond_true,Bool.true_and]
       rw [qd (show qBZ c l from h.2)]⟩
theorem zkm:Sound Tryz.prog 111 qCb:=qx (tt:=tt) (Γ:=qzL) hT (qg qv0 (qg zfG qu)) hm (fn:=Tryz.f111) Tryz.func111 (c:=Tryz.f111.body.getD .skip) (by kernel_rfl) (by kernel_rfl) fun x hx=>by
 obtain ⟨N,h⟩:=zq7 x.1 x.2.1 hx
 exact ⟨qf7 N,zgy,qy _,zho N,(q5r N x.1 x.2.1).trans h⟩
def qlO (c:Val Y33) (l:List (Val (.int .i64))):Prop:=qv2 c l
theorem q3N {c:Val Y33} {l:List (Val (.int .i64))} (h:qdD c l=true):qiB c l:=by
 unfold qdD at h
 simp only [Bool.and_eq_true,decide_eq_true_eq]at h
 exact ⟨h.1,h.2.2.2,h.2.2.1⟩
theorem zhX {c:Val Y33} {l:List (Val (.int .i64))} (h:qH c=true):qwe l c.1=(decide ((c.1:Int)<4)&&qe3 c l):=by
 have:=(qla h).1
 obtain ⟨d,xs⟩:=c
 change Int at d
 have this:0≤d∧d≤4:=this
 show (l.all (fun n=>qR n)&&(decide ((l.length:Int)=d)&&decide (0≤d∧d≤3)))=(decide (d<4)&&(decide ((l.length:Int)=d)&&l.all fun n=>qR n))
 have e:decide (0≤d∧d≤3)=decide (d<4):=by
  rw [decide_eq_decide];omega
 rw [e]
 cases l.all (fun n=>qR n)<;>cases decide ((l.length:Int)=d)<;>cases decide (d<4)<;>rfl
def g26:G:={ps:=[i33,i25],rs:=[i28,i4],dp:=true,pre:=fun x=>qlO x.1 x.2.1,fn:=fun x=>((qa9 x.1 x.2.1).1,(qa9 x.1 x.2.1).2,())}
noncomputable def m26 (N:Nat) (v0:Val Y33) (v1:List (Val (.int .i64))):Option (qc [i28,i4]):=chk (qv2 v0 v1) (bif (!((qdD v0 v1):Bool))then (some (((0:Int),(0:Int)),false,()))else (chk (qiB v0 v1) (bif (!((qW v0 v1).2:Bool))then (some (((0:Int),(0:Int)),false,()))else (bif (!(((qW v0 v1).1).1:Bool))then (some (((0:Int),(0:Int)),false,()))else (bif (!((((((qW v0 v1).1).2).2).2).1:Bool))then (some (((0:Int),(0:Int)),false,()))else (some ((((qdX (((((((((qW v0 v1).1).2).2).2).2).1).1:Int),((((((((qW v0 v1).1).2).2).2).2).1).2:Int)) ((((((qW v0 v1).1).2).1).1:Int),(((((qW v0 v1).1).2).1).2:Int))).1:Int),((qdX (((((((((qW v0 v1).1).2).2).2).2).1).1:Int),((((((((qW v0 v1).1).2).2).2).2).1).2:Int)) ((((((qW v0 v1).1).2).1).1:Int),(((((qW v0 v1).1).2).1).2:Int))).2:Int)),((qi (((qdX (((((((((qW v0 v1).1).2).2).2).2).1).1:Int),((((((((qW v0 v1).1).2).2).2).2).1).2:Int)) ((((((qW v0 v1).1).2).1).1:Int),(((((qW v0 v1).1).2).1).2:Int))).1:Int),((qdX (((((((((qW v0 v1).1).2).2).2).2).1).1:Int),((((((((qW v0 v1).1).2).2).2).2).1).2:Int)) ((((((qW v0 v1).1).2).1).1:Int),(((((qW v0 v1).1).2).1).2:Int))).2:Int))):Bool),())))))))
def Γ26:Gam:=[(111,qCb),(112,qz7),(113,qkj),(114,qau)]
theorem zlH:Gam.get Γ26 111=some qCb:=rfl
theorem zjS:Gam.get Γ26 112=some qz7:=rfl
theorem zhy:Gam.get Γ26 113=some qkj:=rfl
theorem zlR:Gam.get Γ26 114=some qau:=rfl
def qyc:Nm:=⟨[false,false,false,false,true,true],[],false⟩
theorem zim:qyc.zero=false:=rfl
theorem zaz:qyc.fix=[]:=rfl
theorem znM:qyc.keep=[false,false,false,false,true,true]:=rfl
def qxH:Nat→Tree:=fun i=>if i=7 then .quiet 1 (.alt 0 (.alt 2 (.alt 3 (.quiet 4 .done) .stop) .stop) (.alt 2 (.quiet 0 (.alt 3 (.quiet 4 .done) .stop)) .stop))else .done
def qJ5:Nat→Nm:=fun _=>⟨[],[],false⟩
def qGQ:Nat→Option Jn:=fun _=>none
def qS1:Nat→Option Nm:=fun _=>none
def qXU:Nat→Option Nm:=fun i=>if i=7 then some qyc else none
theorem p26:qn qxH (Tryz.f26.body.getD .skip)=true:=by kernel_rfl
def T26 (N:Nat):Tab:={tr:=qxH,lp:=qJ5,ex:=qS1,rg:=qXU,jn:=qGQ,fuel:=N}
theorem q8j (N:Nat):(T26 N).pins=false:=rfl
theorem znx (N:Nat):qp Tryz.prog (T26 N):=qv fun _=>rfl
theorem zf7 (N:Nat) (i:Nat):(T26 N).tr i=qxH i:=rfl
theorem zpY (N:Nat) (i:Nat):(T26 N).lp i=qJ5 i:=rfl
theorem zgo (N:Nat) (i:Nat):(T26 N).ex i=qS1 i:=rfl
theorem q6k (N:Nat) (i:Nat):(T26 N).rg i=qXU i:=rfl
theorem zk3 (N:Nat) (i:Nat):(T26 N).jn i=qGQ i:=rfl
theorem zfE (N:Nat):(T26 N).fuel=N:=rfl
theorem zlk (N:Nat) (v0:Val Y33) (v1:List (Val (.int .i64))):qe tt Γ26 (T26 N) (Tryz.f26.body.getD .skip) (qt tt true [i28,i4] [.cell 4 28,.tmp 5]) (qw [i33,i25] 41 (v0,v1,()))=m26 N v0 v1:=by
 rw [m26];unfold Tryz.f26
 simp (maxSteps:=10000000) -implicitDefEqProofs [zf7,qxH,zpY,qJ5,zgo,qS1,q6k,qXU,zk3,qGQ,zfE,q8j,zaz,znM,zim,zlH,zjS,zhy,zlR,qCb,qz7,qkj,qau]
 try rfl
theorem e26 (c:Val Y33) (l:List (Val (.int .i64))) (h:qlO c l): ∃N,m26 N c l=some ((qa9 c l).1,(qa9 c l).2,()):=⟨0,by
 rw [m26,qd (show qv2 c l from h),qa9]
 cases hf:qdD c l with
 | false=>rfl
 | true=>
   simp only [Bool.not_true,cond_false,cond_true]
   rw [qd (q3N hf),qKF]
   generalize qW c l=B
   obtain ⟨⟨b1,b2,b3,b4,b5,b6,b7⟩,ok⟩:=B
   cases ok<;>cases b1<;>cases b4<;>rfl⟩
theorem s26:Sound Tryz.prog 26 g26:=qx (tt:=tt) (Γ:=Γ26) hT (qg zkm (qg zfT (qg q17 (qg qhY qu)))) hm (fn:=Tryz.f26) Tryz.func26 (c:=Tryz.f26.body.getD .skip) (by kernel_rfl) (by kernel_rfl) fun x hx=>by
 obtain ⟨N,h⟩:=e26 x.1 x.2.1 hx
 exact ⟨T26 N,p26,qy _,znx N,(zlk N x.1 x.2.1).trans h⟩
def g23:G:={ps:=[i33,i25],rs:=[i28,i4],dp:=true,pre:=fun x=>qlO x.1 x.2.1,fn:=fun x=>((qa9 x.1 x.2.1).1,(qa9 x.1 x.2.1).2,())}
noncomputable def m23 (N:Nat) (v0:Val Y33) (v1:List (Val (.int .i64))):Option (qc [i28,i4]):=chk (qci v0) (bif (!((qH v0):Bool))then (some (((0:Int),(0:Int)),false,()))else (chk (qAH v1 (v0.1:Int)) (bif (!((qwe v1 (v0.1:Int)):Bool))then (some (((0:Int),(0:Int)),false,()))else (bif (decide ((16:Int)≤((v0.2:List (Val qa)).length:Int)))then (some (((0:Int),(0:Int)),false,()))else (chk (qiB v0 v1) (bif (!((qW v0 v1).2:Bool))then (some (((0:Int),(0:Int)),false,()))else (bif (!(((qW v0 v1).1).1:Bool))then (some (((0:Int),(0:Int)),false,()))else (bif (!((((((qW v0 v1).1).2).2).2).1:Bool))then (some (((0:Int),(0:Int)),false,()))else (some ((((qaf (((((((((qW v0 v1).1).2).2).2).2).1).1:Int),((((((((qW v0 v1).1).2).2).2).2).1).2:Int)) (((qbG ((((((qW v0 v1).1).2).1).1:Int),(((((qW v0 v1).1).2).1).2:Int))).1:Int),((qbG ((((((qW v0 v1).1).2).1).1:Int),(((((qW v0 v1).1).2).1).2:Int))).2:Int))).1:Int),((qaf (((((((((qW v0 v1).1).2).2).2).2).1).1:Int),((((((((qW v0 v1).1).2).2).2).2).1).2:Int)) (((qbG ((((((qW v0 v1).1).2).1).1:Int),(((((qW v0 v1).1).2).1).2:Int))).1:Int),((qbG ((((((qW v0 v1).1).2).1).1:Int),(((((qW v0 v1).1).2).1).2:Int))).2:Int))).2:Int)),((qi (((qaf (((((((((qW v0 v1).1).2).2).2).2).1).1:Int),((((((((qW v0 v1).1).2).2).2).2).1).2:Int)) (((qbG ((((((qW v0 v1).1).2).1).1:Int),(((((qW v0 v1).1).2).1).2:Int))).1:Int),((qbG ((((((qW v0 v1).1).2).1).1:Int),(((((qW v0 v1).1).2).1).2:Int))).2:Int))).1:Int),((qaf (((((((((qW v0 v1).1).2).2).2).2).1).1:Int),((((((((qW v0 v1).1).2).2).2).2).1).2:Int)) (((qbG ((((((qW v0 v1).1).2).1).1:Int),(((((qW v0 v1).1).2).1).2:Int))).1:Int),((qbG ((((((qW v0 v1).1).2).1).1:Int),(((((qW v0 v1).1).2).1).2:Int))).2:Int))).2:Int))):Bool),()))))))))))
def Γ23:Gam:=[(104,qa8),(105,qzh),(106,qAN),(107,ql0),(108,qBh),(109,qar)]
theorem q9B:Gam.get Γ23 104=some qa8:=rfl
theorem zaw:Gam.get Γ23 105=some qzh:=rfl
theorem ziN:Gam.get Γ23 106=some qAN:=rfl
theorem zkw:Gam.get Γ23 107=some ql0:=rfl
theorem zl1:Gam.get Γ23 108=some qBh:=rfl
theorem za2:Gam.get Γ23 109=some qar:=rfl
def qy9:Nm:=⟨[false,false,false,false,true,false,false,false,true],[],false⟩
theorem zlQ:qy9.zero=false:=rfl
theorem zrg:qy9.fix=[]:=rfl
theorem zeI:qy9.keep=[false,false,false,false,true,false,false,false,true]:=rfl
def qDa:Nm:=⟨[false,false,false,false,true,true],[],false⟩
theorem zqS:qDa.zero=false:=rfl
theorem q41:qDa.fix=[]:=rfl
theorem zgE:qDa.keep=[false,false,false,false,true,true]:=rfl
def qBF:Nat→Tree:=fun i=>if i=6 then .grow 2 (.grow 3 (.alt 0 (.alt 1 (.alt 4 (.alt 5 (.alt 6 (.alt 7 .done .stop) .stop) (.alt 6 (.alt 5 (.alt 7 .done .stop) .stop) .stop)) (.alt 6 (.alt 4 (.alt 5 (.alt 7 .done .stop) .stop) .stop) .stop)) (.alt 4 (.grow 1 (.alt 5 (.alt 6 (.alt 7 .done .stop) .stop) (.alt 6 (.alt 5 (.alt 7 .done .stop) .stop) .stop))) (.alt 6 (.alt 1 (.alt 4 (.alt 5 (.alt 7 .done .stop) .stop) .stop) (.alt 4 (.quiet 1 (.alt 5 (.alt 7 .done .stop) .stop)) .stop)) .stop))) (.alt 4 (.grow 0 (.grow 1 (.alt 5 (.alt 6 (.alt 7 .done .stop) .stop) (.alt 6 (.alt 5 (.alt 7 .done .stop) .stop) .stop)))) (.alt 6 (.alt 0 (.alt 1 (.alt 4 (.alt 5 (.alt 7 .done .stop) .stop) .stop) (.alt 4 (.quiet 1 (.alt 5 (.alt 7 .done .stop) .stop)) .stop)) (.alt 4 (.quiet 0 (.quiet 1 (.alt 5 (.alt 7 .done .stop) .stop))) .stop)) .stop))))else if i=7 then .quiet 1 (.alt 0 (.alt 2 (.alt 3 (.quiet 4 .done) .stop) .stop) (.alt 2 (.quiet 0 (.alt 3 (.quiet 4 .done) .stop)) .stop))else .done
def qPQ:Nat→Nm:=fun _=>⟨[],[],false⟩
def qOZ:Nat→Option Jn:=fun _=>none
def qFv:Nat→Option Nm:=fun _=>none
def qPt:Nat→Option Nm:=fun i=>if i=6 then some qy9 else if i=7 then some qDa else none
theorem p23:qn qBF (Tryz.f23.body.getD .skip)=true:=by kernel_rfl
def T23 (N:Nat):Tab:={tr:=qBF,lp:=qPQ,ex:=qFv,rg:=qPt,jn:=qOZ,fuel:=N}
theorem zpd (N:Nat):(T23 N).pins=false:=rfl
theorem q6n (N:Nat):qp Tryz.prog (T23 N):=qv fun _=>rfl
theorem zfy (N:Nat) (i:Nat):(T23 N).tr i=qBF i:=rfl
theorem zdx (N:Nat) (i:Nat):(T23 N).lp i=qPQ i:=rfl
theorem q9u (N:Nat) (i:Nat):(T23 N).ex i=qFv i:=rfl
theorem zgN (N:Nat) (i:Nat):(T23 N).rg i=qPt i:=rfl
theorem zi0 (N:Nat) (i:Nat):(T23 N).jn i=qOZ i:=rfl
theorem zbm (N:Nat):(T23 N).fuel=N:=rfl
theorem q6p (N:Nat) (v0:Val Y33) (v1:List (Val (.int .i64))):qe tt Γ23 (T23 N) (Tryz.f23.body.getD .skip) (qt tt true [i28,i4] [.cell 4 28,.tmp 5]) (qw [i33,i25] 54 (v0,v1,()))=m23 N v0 v1:=by
 rw [m23];unfold Tryz.f23
 simp (maxSteps:=10000000) -implicitDefEqProofs [zfy,qBF,zdx,qPQ,q9u,qFv,zgN,qPt,zi0,qOZ,zbm,zpd,zrg,zeI,zlQ,q41,zgE,zqS,q9B,zaw,ziN,zkw,zl1,za2,qa8,qzh,qAN,ql0,qBh,qar]
 try rfl
theorem e23 (c:Val Y33) (l:List (Val (.int .i64))) (h:qlO c l): ∃N,m23 N c l=some ((qa9 c l).1,(qa9 c l).2,()):=⟨0,by
 rw [m23,qd (show qci c from h.1),qa9]
 cases hc:qH c with
 | false=>unfold qdD;rw [hc];rfl
 | true=>
   simp only [Bool.not_true,cond_false]
   rw [qd (show qAH l c.1 from h.2),zhX hc]
   cases hk:(decide ((c.1:Int)<4)&&qe3 c l)with
   | false=>unfold qdD;rw [hc,hk,Bool.and_false];rfl
   | true=>
     simp only [Bool.not_true,cond_false]
     by_cases hl:(List.length (α:=Val qa) c.2:Int)<16
     ·have hf:qdD c l=true:=by unfold qdD;rw [hc,hk,decide_eq_true hl];rfl
      rw [qj (show ¬(16:Int)≤(List.length (α:=Val qa) c.2:Int) by omega),qd (q3N hf),hf,cond_true,qKF]
      generalize qW c l=B
      obtain ⟨⟨b1,b2,b3,b4,b5,b6,b7⟩,ok⟩:=B
      cases ok<;>cases b1<;>cases b4<;>rfl
     ·rw [qk (show (16:Int)≤(List.length (α:=Val qa) c.2:Int) by omega)]
      unfold qdD;rw [hc,hk,decide_eq_false hl];rfl⟩
theorem s23:Sound Tryz.prog 23 g23:=qx (tt:=tt) (Γ:=Γ23) hT (qg qDI (qg zjc (qg zqu (qg q1Y (qg zeQ (qg qiS qu)))))) hm (fn:=Tryz.f23) Tryz.func23 (c:=Tryz.f23.body.getD .skip) (by kernel_rfl) (by kernel_rfl) fun x hx=>by
 obtain ⟨N,h⟩:=e23 x.1 x.2.1 hx
 exact ⟨T23 N,p23,qy _,q6n N,(q6p N x.1 x.2.1).trans h⟩
end Go.T
