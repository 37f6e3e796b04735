/- Closures. Run. -/
import Derived.Test.YthefcjjgchekiaaGreatE13
import Derived.Test.YthefcjjgchekiaaGreatE7
import Derived.Test.YthefcjjgchekiaaGreatT13
set_option linter.unusedSimpArgs false
set_option linter.unusedVariables false
namespace Go.T
open Go Go.Proofs
set_option maxHeartbeats 4000000
set_option maxRecDepth 100000
def qbm:G:={ps:=[i33],rs:=[i33],dp:=true,pre:=fun x=>qi0 x.1,fn:=fun x=>(cpC x.1,())}
noncomputable def qk8 (N:Nat) (v1:List (Val qa)) (v2:Int) (v4:Int) (v5:Int) (k0:(List (Val qa))→Option (qc [i33])):Nat→Int→(List (Val qa))→Option (qc [i33])
 | 0,_,_=>none
 | n+1,v3,v6=>bif (decide (v3<v2))then (chk (0≤v3∧v3<(v1.length:Int)) (chk (qbu (v1.getD v3.toNat (qb qa))) (chk (v6.length+([(((idA (v1.getD v3.toNat (qb qa))).1:List (Val (.int .i64))),(((idA (v1.getD v3.toNat (qb qa))).2).1:Int),(((idA (v1.getD v3.toNat (qb qa))).2).2:Bool))]:List (Val qa)).length≤1048576) (qk8 N v1 v2 v4 v5 k0 n (IntKind.i64.wrap (v3+(1:Int))) (v6++([(((idA (v1.getD v3.toNat (qb qa))).1:List (Val (.int .i64))),(((idA (v1.getD v3.toNat (qb qa))).2).1:Int),(((idA (v1.getD v3.toNat (qb qa))).2).2:Bool))]:List (Val qa)))))))else (k0 v6)
noncomputable def qEF (N:Nat) (v0:Val Y33):Option (qc [i33]):=chk (0≤(0:Int)∧(0:Int)≤((v0.2:List (Val qa)).length:Int)∧((v0.2:List (Val qa)).length:Int)≤1048576) (qk8 N (v0.2:List (Val qa)) ((v0.2:List (Val qa)).length:Int) (0:Int) (v0.1:Int) (fun (v8:List (Val qa))=>some (((v0.1:Int),v8),())) N (0:Int) (List.replicate (0:Int).toNat (qb qa)))
def qoC:Gam:=[(236,qbU)]
theorem qSR:Gam.get qoC 236=some qbU:=rfl
def qqY:Nm:=⟨[false,false,true,true,false,false,false,false,false,false,false,false,false,false,true,true,true],[],false⟩
theorem qOi:qqY.zero=false:=rfl
theorem qPo:qqY.fix=[]:=rfl
theorem qNk:qqY.keep=[false,false,true,true,false,false,false,false,false,false,false,false,false,false,true,true,true]:=rfl
def qCg:Nm:=⟨[false,false,true,true],[],false⟩
theorem qNO:qCg.zero=false:=rfl
theorem qE2:qCg.fix=[]:=rfl
theorem qFw:qCg.keep=[false,false,true,true]:=rfl
def qx9:Nm:=⟨[false,true,true,true],[],false⟩
theorem qQ9:qx9.zero=false:=rfl
theorem qQv:qx9.fix=[]:=rfl
theorem qVD:qx9.keep=[false,true,true,true]:=rfl
def qCT:Nm:=⟨[false,false,true,true,false,false,false,false,false,false,false,false,false,false,true,true,true],[],false⟩
theorem qJq:qCT.zero=false:=rfl
theorem qSv:qCT.fix=[]:=rfl
theorem qQo:qCT.keep=[false,false,true,true,false,false,false,false,false,false,false,false,false,false,true,true,true]:=rfl
def qpg:Nat→Tree:=fun i=>if i=1 then .grow 0 (.grow 1 (.grow 2 (.grow 3 (.grow 4 (.alt 5 (.first 6 (.alt 7 (.alt 8 .done .stop) .stop)) (.alt 7 (.alt 5 (.quiet 6 (.alt 8 .done .stop)) .stop) .stop))))))else if i=5 then .quiet 2 (.alt 0 (.alt 1 (.alt 3 (.alt 4 (.alt 5 (.quiet 6 (.alt 7 .done .stop)) .stop) .stop) .stop) (.alt 3 (.alt 1 (.alt 4 (.alt 5 (.quiet 6 (.alt 7 .done .stop)) .stop) .stop) (.alt 4 (.quiet 1 (.alt 5 (.quiet 6 (.alt 7 .done .stop)) .stop)) .stop)) .stop)) (.alt 3 (.alt 0 (.alt 1 (.alt 4 (.alt 5 (.quiet 6 (.alt 7 .done .stop)) .stop) .stop) (.alt 4 (.quiet 1 (.alt 5 (.quiet 6 (.alt 7 .done .stop)) .stop)) .stop)) (.alt 4 (.quiet 0 (.quiet 1 (.alt 5 (.quiet 6 (.alt 7 .done .stop)) .stop))) .stop)) .stop))else .done
def qrv:Nat→Nm:=fun i=>if i=3 then qqY else ⟨[],[],false⟩
def qqs:Nat→Option Jn:=fun _=>none
def qvV:Nat→Option Nm:=fun i=>if i=0 then some qCg else none
def qwj:Nat→Option Nm:=fun i=>if i=1 then some qx9 else if i=5 then some qCT else none
theorem zoN:qn qpg (Tryz.f214.body.getD .skip)=true:=by kernel_rfl
def qde (N:Nat):Tab:={tr:=qpg,lp:=qrv,ex:=qvV,rg:=qwj,jn:=qqs,fuel:=N}
theorem qL3 (N:Nat):(qde N).pins=false:=rfl
theorem zme (N:Nat):qp Tryz.prog (qde N):=qv fun _=>rfl
theorem qKg (N:Nat) (i:Nat):(qde N).tr i=qpg i:=rfl
theorem qMG (N:Nat) (i:Nat):(qde N).lp i=qrv i:=rfl
theorem qVB (N:Nat) (i:Nat):(qde N).ex i=qvV i:=rfl
theorem qRi (N:Nat) (i:Nat):(qde N).rg i=qwj i:=rfl
theorem qIJ (N:Nat) (i:Nat):(qde N).jn i=qqs i:=rfl
theorem qMj (N:Nat):(qde N).fuel=N:=rfl
noncomputable def q0d:Code:=cut [true,true,false,true,true,true] (Tryz.f214.body.getD .skip)
theorem ziW {N:Nat} {Q:X→St→Option (qc [i33])} {e:List LV} {h:List Blk}:qe tt qoC (qde N) q0d Q ⟨e,h⟩=qe tt qoC (qde N) (cut [true,true,false,true,true,true] (Tryz.f214.body.getD .skip)) Q ⟨e,h⟩:=rfl
theorem zol (N:Nat) (v1:List (Val qa)) (v2:Int) (v4:Int) (v5:Int) {k0:(List (Val qa))→Option (qc [i33])} {Q:X→St→Option (qc [i33])} {c:Code} (hc:c=q0d) (hret: ∀st,Q .ret st=qI tt true [i33] [.cell 2 33] st) (h0: ∀(v7:List (Val qa)),Q (.exit 0) ⟨[u,u,.one (.ptr 0 0 0),.one (.ptr 1 0 0),u,u,u,u,u,u,u,u,u,u,u,u,u,u,u,u,u,u,u,u,u,u,u,u,u],[.box [.int .i64 v4,.nils],.box [.int .i64 v5,.own 2],.row 108 qa v7 true true 0]⟩=k0 v7): ∀(n:Nat) (v3:Int) (v6:List (Val qa)),qE (qe tt qoC (qde N) c) false qqY Q n ⟨[u,u,.one (.ptr 0 0 0),.one (.ptr 1 0 0),u,u,u,u,u,u,u,u,u,u,.one (.sl 108 qa v1 3),.one (.int .i64 v2),.one (.int .i64 v3),u,u,u,u,u,u,u,u,u,u,u,u],[.box [.int .i64 v4,.nils],.box [.int .i64 v5,.own 2],.row 108 qa v6 true true 0]⟩=qk8 N v1 v2 v4 v5 k0 n v3 v6:=by
 subst hc;intro n;induction n with
 | zero=>intros;rfl
 | succ n ih=>
   intro v3 v6
   rw [qN,ziW,qk8];unfold Tryz.f214
   simp (maxSteps:=10000000) -implicitDefEqProofs [qKg,qpg,qMG,qrv,qVB,qvV,qRi,qwj,qIJ,qqs,qMj,qL3,qPo,qNk,qOi,qE2,qFw,qNO,qQv,qVD,qQ9,qSv,qQo,qJq,qSR,qbU,hret,h0,ih]
theorem zaB (N:Nat) (v0:Val Y33):qe tt qoC (qde N) (Tryz.f214.body.getD .skip) (qt tt true [i33] [.cell 2 33]) (qw [i33] 29 (v0,()))=qEF N v0:=by
 unfold Tryz.f214
 simp (maxSteps:=10000000) -implicitDefEqProofs [qKg,qpg,qMG,qrv,qVB,qvV,qRi,qwj,qIJ,qqs,qMj,qL3,qPo,qNk,qOi,qE2,qFw,qNO,qQv,qVD,qQ9,qSv,qQo,qJq,qSR,qbU]
 rewrite [zol (k0:=(fun (v8:List (Val qa))=>some (((v0.1:Int),v8),()))) N _ _ _ _ ?_ ?_ ?_]
 ·rewrite [qEF];first | rfl | simp (maxSteps:=10000000) -implicitDefEqProofs []
 ·rfl
 ·intro;simp only [qJ,qL,qK,qB]
 ·intro v8;simp (maxSteps:=10000000) -implicitDefEqProofs [qKg,qpg,qMG,qrv,qVB,qvV,qRi,qwj,qIJ,qqs,qMj,qL3,qPo,qNk,qOi,qE2,qFw,qNO,qQv,qVD,qQ9,qSv,qQo,qJq,qSR,qbU]
end Go.T
/- Closures: what the functions compute. -/
set_option linter.unusedSimpArgs false
set_option linter.unusedVariables false
namespace Go.T
open Go Go.Proofs
set_option maxHeartbeats 4000000
set_option maxRecDepth 100000
theorem q87 (c:Val Y33) (h:qi0 c): ∃N,qEF N c=some (cpC c,()):=⟨List.length (α:=Val qa) c.2+1,by
 obtain ⟨d,xs⟩:=c
 change Int at d
 change List (Val qa)at xs
 obtain ⟨-,h1,h2⟩:=h
 replace h1:xs.length≤1048576:=h1
 rw [qEF,cpC,qd (by show 0≤(0:Int)∧(0:Int)≤(xs.length:Int)∧(xs.length:Int)≤1048576;omega)]
 refine (qaP (F:=fun n i s=>qk8 _ xs xs.length 0 d _ n i s) (step:=fun _ x s K=>chk (s.length+[x].length≤1048576) (K (s++[x]))) (k:=fun s=>some ((d,s),())) h1 (fun n i s hi=> ?_) (fun n i s hi=> ?_) _ [] (Nat.lt_succ_self _)).trans ?_
 ·rw [qk8,qk (by omega),qd (by omega),qF hi,qd (show qbu _ from (h2 _ (List.getElem_mem hi)).1.1)]
  rfl
 ·rw [qk8,qj (by omega)]
 ·exact (quY (f:=fun x=>x) xs 0 [] (by simpa using h1)).trans (by simp)⟩
theorem qWY:Sound Tryz.prog 214 qbm:=qx (tt:=tt) (Γ:=qoC) hT (qg qOQ qu) hm (fn:=Tryz.f214) Tryz.func214 (c:=Tryz.f214.body.getD .skip) (by kernel_rfl) (by kernel_rfl) fun x hx=>by
 obtain ⟨N,h⟩:=q87 x.1 hx
 exact ⟨qde N,zoN,qy _,zme N,(zaB N x.1).trans h⟩
theorem zo8 {c:Val Y33} (h:qH c=true):Bd Y33 c:=by
 obtain ⟨h1,h2,h3⟩:=qaJ h
 obtain ⟨d,l⟩:=c
 exact q9m (d:=d) h3 (by have:List.length (α:=Val qa) l≤16:=h2;omega)
end Go.T
