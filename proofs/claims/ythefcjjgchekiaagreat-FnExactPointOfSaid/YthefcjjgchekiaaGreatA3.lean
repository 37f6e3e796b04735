/- Cells: whether they are valid. -/
import Derived.Test.YthefcjjgchekiaaGreatA2
set_option linter.unusedSimpArgs false
set_option linter.unusedVariables false
namespace Go.T
open Go Go.Proofs
set_option maxHeartbeats 4000000
set_option maxRecDepth 100000
def qH (c:Val Y33):Bool:=decide (0≤(c.1:Int)∧(c.1:Int)≤4)&&decide ((List.length (α:=Val qa) c.2:Int)≤16)&&List.all (α:=Val qa) c.2 fun a=>qG a&&decide ((List.length (α:=Val (.int .i64)) a.1:Int)=(c.1:Int))
def qci (c:Val Y33):Prop:=List.length (α:=Val qa) c.2≤1048576
noncomputable def qi2 (N:Nat) (v2:Int) (v3:List (Val qa)) (k0:Unit→Option (qc [i4])):Nat→Int→Option (qc [i4])
 | 0,_=>none
 | n+1,v1=>bif (decide (v1<(v3.length:Int)))then (chk (0≤v1∧v1<(v3.length:Int)) (bif (!((qG (v3.getD v1.toNat (qb qa))):Bool))then (some (false,()))else (chk (0≤v1∧v1<(v3.length:Int)) (bif (!(decide ((((v3.getD v1.toNat (qb qa)).1:List (Val (.int .i64))).length:Int)=v2)))then (some (false,()))else (qi2 N v2 v3 k0 n (IntKind.i64.wrap (v1+(1:Int))))))))else (k0 ())
noncomputable def qyx (N:Nat) (v0:Val Y33):Option (qc [i4]):=qi2 N (v0.1:Int) (v0.2:List (Val qa)) (fun (_:Unit)=>bif ((inR (v0.1:Int) (0:Int) (4:Int)):Bool)then (some ((decide (((v0.2:List (Val qa)).length:Int)≤(16:Int))),()))else (some (false,()))) N (0:Int)
def qmE:Gam:=[(118,qam),(193,qbs)]
theorem qVC:Gam.get qmE 118=some qam:=rfl
theorem qS4:Gam.get qmE 193=some qbs:=rfl
def qt3:Nm:=⟨[false,true,false,true],[],false⟩
theorem qTi:qt3.zero=false:=rfl
theorem qJ0:qt3.fix=[]:=rfl
theorem qUe:qt3.keep=[false,true,false,true]:=rfl
def qBi:Nm:=⟨[false,true],[],false⟩
theorem qGR:qBi.zero=false:=rfl
theorem qRt:qBi.fix=[]:=rfl
theorem qVN:qBi.keep=[false,true]:=rfl
def qnb:Nat→Tree:=fun i=>if i=4 then .quiet 0 (.quiet 1 (.quiet 2 (.quiet 3 (.quiet 4 (.alt 5 (.quiet 6 (.quiet 7 (.quiet 8 (.quiet 9 (.quiet 10 (.quiet 11 (.quiet 12 (.quiet 13 (.quiet 14 (.quiet 15 (.quiet 16 (.quiet 17 (.quiet 18 .done))))))))))))) .stop)))))else .done
def qqM:Nat→Nm:=fun i=>if i=2 then qt3 else ⟨[],[],false⟩
def qtt:Nat→Option Jn:=fun _=>none
def qwJ:Nat→Option Nm:=fun i=>if i=0 then some qBi else none
def qpU:Nat→Option Nm:=fun _=>none
theorem zoy:qn qnb (Tryz.f104.body.getD .skip)=true:=by kernel_rfl
def qdw (N:Nat):Tab:={tr:=qnb,lp:=qqM,ex:=qwJ,rg:=qpU,jn:=qtt,fuel:=N}
theorem qSC (N:Nat):(qdw N).pins=false:=rfl
theorem zdt (N:Nat):qp Tryz.prog (qdw N):=qv fun _=>rfl
theorem qPC (N:Nat) (i:Nat):(qdw N).tr i=qnb i:=rfl
theorem qQR (N:Nat) (i:Nat):(qdw N).lp i=qqM i:=rfl
theorem qLL (N:Nat) (i:Nat):(qdw N).ex i=qwJ i:=rfl
theorem qTj (N:Nat) (i:Nat):(qdw N).rg i=qpU i:=rfl
theorem qRR (N:Nat) (i:Nat):(qdw N).jn i=qtt i:=rfl
theorem qW1 (N:Nat):(qdw N).fuel=N:=rfl
noncomputable def q1D:Code:=cut [true,false,true,true,true] (Tryz.f104.body.getD .skip)
theorem zjX {N:Nat} {Q:X→St→Option (qc [i4])} {e:List LV} {h:List Blk}:qe tt qmE (qdw N) q1D Q ⟨e,h⟩=qe tt qmE (qdw N) (cut [true,false,true,true,true] (Tryz.f104.body.getD .skip)) Q ⟨e,h⟩:=rfl
theorem zd3 (N:Nat) (v2:Int) (v3:List (Val qa)) {k0:Unit→Option (qc [i4])} {Q:X→St→Option (qc [i4])} {c:Code} (hc:c=q1D) (hret: ∀st,Q .ret st=qI tt true [i4] [.tmp 2] st) (h0:Q (.exit 0) ⟨[u,.one (.ptr 0 0 0),u,u,u,u,u,u,u,u,u,u,u,u,u,u,u,u,u,u,u,u,u,u,u,u,u,u,u,u,u,u,u,u,u,u,u,u,u],[.box [.int .i64 v2,.sl 108 qa v3 1]]⟩=k0 ()): ∀(n:Nat) (v1:Int),qE (qe tt qmE (qdw N) c) false qt3 Q n ⟨[u,.one (.ptr 0 0 0),u,.one (.int .i64 v1),u,u,u,u,u,u,u,u,u,u,u,u,u,u,u,u,u,u,u,u,u,u,u,u,u,u,u,u,u,u,u,u,u,u,u],[.box [.int .i64 v2,.sl 108 qa v3 1]]⟩=qi2 N v2 v3 k0 n v1:=by
 subst hc;intro n;induction n with
 | zero=>intros;rfl
 | succ n ih=>
   intro v1
   rw [qN,zjX,qi2];unfold Tryz.f104
   simp (maxSteps:=10000000) -implicitDefEqProofs [qPC,qnb,qQR,qqM,qLL,qwJ,qTj,qpU,qRR,qtt,qW1,qSC,qJ0,qUe,qTi,qRt,qVN,qGR,qVC,qS4,qam,qbs,hret,h0,ih]
theorem zqv (N:Nat) (v0:Val Y33):qe tt qmE (qdw N) (Tryz.f104.body.getD .skip) (qt tt true [i4] [.tmp 2]) (qw [i33] 39 (v0,()))=qyx N v0:=by
 unfold Tryz.f104
 simp (maxSteps:=10000000) -implicitDefEqProofs [qPC,qnb,qQR,qqM,qLL,qwJ,qTj,qpU,qRR,qtt,qW1,qSC,qJ0,qUe,qTi,qRt,qVN,qGR,qVC,qS4,qam,qbs]
 rewrite [zd3 (k0:=(fun (_:Unit)=>bif ((inR (v0.1:Int) (0:Int) (4:Int)):Bool)then (some ((decide (((v0.2:List (Val qa)).length:Int)≤(16:Int))),()))else (some (false,())))) N _ _ ?_ ?_ ?_]
 ·rewrite [qyx];first | rfl | simp (maxSteps:=10000000) -implicitDefEqProofs []
 ·rfl
 ·intro;simp only [qJ,qL,qK,qB]
 ·simp (maxSteps:=10000000) -implicitDefEqProofs [qPC,qnb,qQR,qqM,qLL,qwJ,qTj,qpU,qRR,qtt,qW1,qSC,qJ0,qUe,qTi,qRt,qVN,qGR,qVC,qS4,qam,qbs]
noncomputable def qiZ (N:Nat) (v1:List (Val qa)) (v2:Int) (v4:Int) (v5:List (Val qa)) (k0:Unit→Option (qc [i4])):Nat→Int→Option (qc [i4])
 | 0,_=>none
 | n+1,v3=>bif (decide (v3<v2))then (chk (0≤v3∧v3<(v1.length:Int)) (bif (!((qG (v1.getD v3.toNat (qb qa))):Bool))then (some (false,()))else (bif (!(decide ((((v1.getD v3.toNat (qb qa)).1:List (Val (.int .i64))).length:Int)=v4)))then (some (false,()))else (qiZ N v1 v2 v4 v5 k0 n (IntKind.i64.wrap (v3+(1:Int)))))))else (k0 ())
noncomputable def qA2 (N:Nat) (v0:Val Y33):Option (qc [i4]):=bif (decide ((v0.1:Int)<(0:Int)))then (some (false,()))else (bif (decide ((4:Int)<(v0.1:Int)))then (some (false,()))else (bif (decide ((16:Int)<((v0.2:List (Val qa)).length:Int)))then (some (false,()))else (qiZ N (v0.2:List (Val qa)) ((v0.2:List (Val qa)).length:Int) (v0.1:Int) (v0.2:List (Val qa)) (fun (_:Unit)=>some (true,())) N (0:Int))))
def qno:Gam:=[(279,qa6)]
theorem qV0:Gam.get qno 279=some qa6:=rfl
def qtz:Nm:=⟨[false,true,false,false,false,false,false,false,false,false,false,false,false,false,false,false,false,false,false,false,true,true,true],[],false⟩
theorem qK1:qtz.zero=false:=rfl
theorem qWv:qtz.fix=[]:=rfl
theorem qWV:qtz.keep=[false,true,false,false,false,false,false,false,false,false,false,false,false,false,false,false,false,false,false,false,true,true,true]:=rfl
def qA3:Nm:=⟨[],[],false⟩
theorem qIj:qA3.zero=false:=rfl
theorem qHI:qA3.fix=[]:=rfl
theorem qSV:qA3.keep=[]:=rfl
def qoE:Nat→Tree:=fun _=> .done
def qxd:Nat→Nm:=fun i=>if i=4 then qtz else ⟨[],[],false⟩
def qsW:Nat→Option Jn:=fun _=>none
def quK:Nat→Option Nm:=fun i=>if i=0 then some qA3 else none
def qre:Nat→Option Nm:=fun _=>none
theorem zeL:qn qoE (Tryz.f199.body.getD .skip)=true:=by kernel_rfl
def qc3 (N:Nat):Tab:={tr:=qoE,lp:=qxd,ex:=quK,rg:=qre,jn:=qsW,fuel:=N}
theorem qXZ (N:Nat):(qc3 N).pins=false:=rfl
theorem q8R (N:Nat):qp Tryz.prog (qc3 N):=qv fun _=>rfl
theorem qFl (N:Nat) (i:Nat):(qc3 N).tr i=qoE i:=rfl
theorem qVF (N:Nat) (i:Nat):(qc3 N).lp i=qxd i:=rfl
theorem qNc (N:Nat) (i:Nat):(qc3 N).ex i=quK i:=rfl
theorem qPs (N:Nat) (i:Nat):(qc3 N).rg i=qre i:=rfl
theorem qU3 (N:Nat) (i:Nat):(qc3 N).jn i=qsW i:=rfl
theorem qQi (N:Nat):(qc3 N).fuel=N:=rfl
noncomputable def qZ4:Code:=cut [true,true,false,true,true,true] (Tryz.f199.body.getD .skip)
theorem zmP {N:Nat} {Q:X→St→Option (qc [i4])} {e:List LV} {h:List Blk}:qe tt qno (qc3 N) qZ4 Q ⟨e,h⟩=qe tt qno (qc3 N) (cut [true,true,false,true,true,true] (Tryz.f199.body.getD .skip)) Q ⟨e,h⟩:=rfl
theorem zfz (N:Nat) (v1:List (Val qa)) (v2:Int) (v4:Int) (v5:List (Val qa)) {k0:Unit→Option (qc [i4])} {Q:X→St→Option (qc [i4])} {c:Code} (hc:c=qZ4) (hret: ∀st,Q .ret st=qI tt true [i4] [.tmp 2] st) (h0:Q (.exit 0) ⟨[u,u,u,u,u,u,u,u,u,u,u,u,u,u,u,u,u,u,u,u,u,u,u,u,u,u,u,u,u,u,u,u,u,u,u,u,u,u],[]⟩=k0 ()): ∀(n:Nat) (v3:Int),qE (qe tt qno (qc3 N) c) false qtz Q n ⟨[u,.one (.ptr 0 0 0),u,u,u,u,u,u,u,u,u,u,u,u,u,u,u,u,u,u,.one (.sl 108 qa v1 1),.one (.int .i64 v2),.one (.int .i64 v3),u,u,u,u,u,u,u,u,u,u,u,u,u,u,u],[.box [.int .i64 v4,.sl 108 qa v5 1]]⟩=qiZ N v1 v2 v4 v5 k0 n v3:=by
 subst hc;intro n;induction n with
 | zero=>intros;rfl
 | succ n ih=>
   intro v3
   rw [qN,zmP,qiZ];unfold Tryz.f199
   simp (maxSteps:=10000000) -implicitDefEqProofs [qFl,qoE,qVF,qxd,qNc,quK,qPs,qre,qU3,qsW,qQi,qXZ,qWv,qWV,qK1,qHI,qSV,qIj,qV0,qa6,hret,h0,ih]
theorem q69 (N:Nat) (v0:Val Y33):qe tt qno (qc3 N) (Tryz.f199.body.getD .skip) (qt tt true [i4] [.tmp 2]) (qw [i33] 38 (v0,()))=qA2 N v0:=by
 unfold Tryz.f199
 simp (maxSteps:=10000000) -implicitDefEqProofs [qFl,qoE,qVF,qxd,qNc,quK,qPs,qre,qU3,qsW,qQi,qXZ,qWv,qWV,qK1,qHI,qSV,qIj,qV0,qa6]
 rewrite [zfz (k0:=(fun (_:Unit)=>some (true,()))) N _ _ _ _ ?_ ?_ ?_]
 ·rewrite [qA2];first | rfl | simp (maxSteps:=10000000) -implicitDefEqProofs []
 ·rfl
 ·intro;simp only [qJ,qL,qK,qB]
 ·simp (maxSteps:=10000000) -implicitDefEqProofs [qFl,qoE,qVF,qxd,qNc,quK,qPs,qre,qU3,qsW,qQi,qXZ,qWv,qWV,qK1,qHI,qSV,qIj,qV0,qa6]
theorem zbF (N:Nat) (d:Int) (xs:List (Val qa)) (K:Unit→Option (qc [i4])) (hl:xs.length≤1048576) (n:Nat) (hn:xs.length<n):qi2 N d xs K n 0=bif xs.all (fun a=>qG a&&decide ((List.length (α:=Val (.int .i64)) a.1:Int)=d))then K ()else some (false,()):=
 (qaP (F:=fun n i (_:Unit)=>qi2 N d xs K n i) (step:=fun _ x _ K=>bif (qG x&&decide ((List.length (α:=Val (.int .i64)) x.1:Int)=d))then K ()else some (false,())) (k:=K) hl (fun n i s hi=>by
   rw [qi2,qk (by omega),qd (by omega),qd (by omega),qF hi]
   cases qG xs[i]<;>simp [qaG]) (fun n i s hi=>by rw [qi2,qj (by omega)]) n () hn).trans (qdd xs 0)
theorem znE (N:Nat) (d:Int) (xs ys:List (Val qa)) (K:Unit→Option (qc [i4])) (hl:xs.length≤1048576) (n:Nat) (hn:xs.length<n):qiZ N xs xs.length d ys K n 0=bif xs.all (fun a=>qG a&&decide ((List.length (α:=Val (.int .i64)) a.1:Int)=d))then K ()else some (false,()):=
 (qaP (F:=fun n i (_:Unit)=>qiZ N xs xs.length d ys K n i) (step:=fun _ x _ K=>bif (qG x&&decide ((List.length (α:=Val (.int .i64)) x.1:Int)=d))then K ()else some (false,())) (k:=K) hl (fun n i s hi=>by
   rw [qiZ,qk (by omega),qd (by omega),qF hi]
   cases qG xs[i]<;>simp [qaG]) (fun n i s hi=>by rw [qiZ,qj (by omega)]) n () hn).trans (qdd xs 0)
def qa8:G:={ps:=[i33],rs:=[i4],dp:=true,pre:=fun x=>qci x.1,fn:=fun x=>(qH x.1,())}
def qaS:G:={ps:=[i33],rs:=[i4],dp:=true,pre:=fun _=>True,fn:=fun x=>(qH x.1,())}
theorem zbH (c:Val Y33) (h:qci c): ∃N,qyx N c=some (qH c,()):=⟨List.length (α:=Val qa) c.2+1,by
 obtain ⟨d,xs⟩:=c
 change Int at d
 change List (Val qa)at xs
 rw [qyx,qH]
 dsimp only
 rw [zbF _ _ _ _ h _ (Nat.lt_succ_self _)]
 simp only [inR]
 cases List.all xs _<;>cases decide (0≤d∧d≤4)<;>simp⟩
theorem qDI:Sound Tryz.prog 104 qa8:=qx (tt:=tt) (Γ:=qmE) hT (qg qh1 (qg qEg qu)) hm (fn:=Tryz.f104) Tryz.func104 (c:=Tryz.f104.body.getD .skip) (by kernel_rfl) (by kernel_rfl) fun x hx=>by
 obtain ⟨N,h⟩:=zbH x.1 hx
 exact ⟨qdw N,zoy,qy _,zdt N,(zqv N x.1).trans h⟩
theorem q4M (c:Val Y33): ∃N,qA2 N c=some (qH c,()):=⟨List.length (α:=Val qa) c.2+1,by
 obtain ⟨d,xs⟩:=c
 change Int at d
 change List (Val qa)at xs
 rw [qA2,qH]
 dsimp only
 by_cases h1:d<0
 ·have: ¬(0≤d∧d≤4):=by omega
  simp [h1,this]
 ·by_cases h2:4<d
  ·have: ¬(0≤d∧d≤4):=by omega
   simp [h1,h2,this]
  ·have:0≤d∧d≤4:=by omega
   by_cases h3:(16:Int)<xs.length
   ·have h3': ¬(xs.length:Int)≤16:=by omega
    simp only [h1,h2,h3,h3',decide_true,decide_false,cond_true,cond_false,Bool.and_false,Bool.false_and]
   ·have h3':(xs.length:Int)≤16:=by omega
    rw [znE _ _ _ _ _ (by omega) _ (Nat.lt_succ_self _)]
    simp only [h1,h2,h3,h3',this,decide_true,decide_false,cond_true,cond_false,Bool.true_and,and_self]
    cases List.all xs _<;>rfl⟩
theorem qv0:Sound Tryz.prog 199 qaS:=qx (tt:=tt) (Γ:=qno) hT (qg qxq qu) hm (fn:=Tryz.f199) Tryz.func199 (c:=Tryz.f199.body.getD .skip) (by kernel_rfl) (by kernel_rfl) fun x hx=>by
 obtain ⟨N,h⟩:=q4M x.1
 exact ⟨qc3 N,zeL,qy _,q8R N,(q69 N x.1).trans h⟩
end Go.T
