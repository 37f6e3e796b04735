/- Cells: whether they are valid. -/
import Derived.Test.YthefcjjgchekiaaGreatA2
set_option linter.unusedSimpArgs false
set_option linter.unusedVariables false
namespace Go.T
open Go Go.Proofs
set_option maxHeartbeats 4000000
set_option maxRecDepth 100000
def qD (c:Val Y33):Bool:=decide (0≤(c.1:Int)∧(c.1:Int)≤4)&&decide ((List.length (α:=Val qa) c.2:Int)≤16)&&List.all (α:=Val qa) c.2 fun a=>qA a&&decide ((List.length (α:=Val (.int .i64)) a.1:Int)=(c.1:Int))
def qcg (c:Val Y33):Prop:=List.length (α:=Val qa) c.2≤1048576
noncomputable def qh3 (N:Nat) (v2:Int) (v3:List (Val qa)) (k0:Unit→Option (qb [i4])):Nat→Int→Option (qb [i4])
 | 0,_=>none
 | n+1,v1=>bif (decide (v1<(v3.length:Int)))then (chk (0≤v1∧v1<(v3.length:Int)) (bif (!((qA (v3.getD v1.toNat (qc qa))):Bool))then (some (false,()))else (chk (0≤v1∧v1<(v3.length:Int)) (bif (!(decide ((((v3.getD v1.toNat (qc qa)).1:List (Val (.int .i64))).length:Int)=v2)))then (some (false,()))else (qh3 N v2 v3 k0 n (IntKind.i64.wrap (v1+(1:Int))))))))else (k0 ())
noncomputable def qvV (N:Nat) (v0:Val Y33):Option (qb [i4]):=qh3 N (v0.1:Int) (v0.2:List (Val qa)) (fun (_:Unit)=>bif ((inR (v0.1:Int) (0:Int) (4:Int)):Bool)then (some ((decide (((v0.2:List (Val qa)).length:Int)≤(16:Int))),()))else (some (false,()))) N (0:Int)
def qkt:Gam:=[(118,q5),(193,qa7)]
theorem qHu:Gam.get qkt 118=some q5:=rfl
theorem qL3:Gam.get qkt 193=some qa7:=rfl
def qqh:Nm:=⟨[false,true,false,true],[],false⟩
theorem qNP:qqh.zero=false:=rfl
theorem qMh:qqh.fix=[]:=rfl
theorem qEO:qqh.keep=[false,true,false,true]:=rfl
def qzc:Nm:=⟨[false,true],[],false⟩
theorem qIL:qzc.zero=false:=rfl
theorem qCn:qzc.fix=[]:=rfl
theorem qBM:qzc.keep=[false,true]:=rfl
def qnP:Nat→Tree:=fun i=>if i=4 then .quiet 0 (.quiet 1 (.quiet 2 (.quiet 3 (.quiet 4 (.alt 5 (.quiet 6 (.quiet 7 (.quiet 8 (.quiet 9 (.quiet 10 (.quiet 11 (.quiet 12 (.quiet 13 (.quiet 14 (.quiet 15 (.quiet 16 (.quiet 17 (.quiet 18 .done))))))))))))) .stop)))))else .done
def qq3:Nat→Nm:=fun i=>if i=2 then qqh else ⟨[],[],false⟩
def qp1:Nat→Option Jn:=fun _=>none
def qqB:Nat→Option Nm:=fun i=>if i=0 then some qzc else none
def qtn:Nat→Option Nm:=fun _=>none
theorem q7k:qj qnP (Tryz.f104.body.getD .skip)=true:=by kernel_rfl
def qdj (N:Nat):Tab:={tr:=qnP,lp:=qq3,ex:=qqB,rg:=qtn,jn:=qp1,fuel:=N}
theorem qK9 (N:Nat):(qdj N).pins=false:=rfl
theorem qZA (N:Nat):qn Tryz.prog (qdj N):=qr fun _=>rfl
theorem qGc (N:Nat) (i:Nat):(qdj N).tr i=qnP i:=rfl
theorem qEa (N:Nat) (i:Nat):(qdj N).lp i=qq3 i:=rfl
theorem qPo (N:Nat) (i:Nat):(qdj N).ex i=qqB i:=rfl
theorem qLL (N:Nat) (i:Nat):(qdj N).rg i=qtn i:=rfl
theorem qKm (N:Nat) (i:Nat):(qdj N).jn i=qp1 i:=rfl
theorem qCi (N:Nat):(qdj N).fuel=N:=rfl
noncomputable def qTv:Code:=cut [true,false,true,true,true] (Tryz.f104.body.getD .skip)
theorem q12 {N:Nat} {Q:X→St→Option (qb [i4])} {e:List LV} {h:List Blk}:qd tt qkt (qdj N) qTv Q ⟨e,h⟩=qd tt qkt (qdj N) (cut [true,false,true,true,true] (Tryz.f104.body.getD .skip)) Q ⟨e,h⟩:=rfl
theorem q8L (N:Nat) (v2:Int) (v3:List (Val qa)) {k0:Unit→Option (qb [i4])} {Q:X→St→Option (qb [i4])} {c:Code} (hc:c=qTv) (hret: ∀st,Q .ret st=qB tt true [i4] [.tmp 2] st) (h0:Q (.exit 0) ⟨[u,.one (.ptr 0 0 0),u,u,u,u,u,u,u,u,u,u,u,u,u,u,u,u,u,u,u,u,u,u,u,u,u,u,u,u,u,u,u,u,u,u,u,u,u],[.box [.int .i64 v2,.sl 108 qa v3 1]]⟩=k0 ()): ∀(n:Nat) (v1:Int),qC (qd tt qkt (qdj N) c) false qqh Q n ⟨[u,.one (.ptr 0 0 0),u,.one (.int .i64 v1),u,u,u,u,u,u,u,u,u,u,u,u,u,u,u,u,u,u,u,u,u,u,u,u,u,u,u,u,u,u,u,u,u,u,u],[.box [.int .i64 v2,.sl 108 qa v3 1]]⟩=qh3 N v2 v3 k0 n v1:=by
 subst hc;intro n;induction n with
 | zero=>intros;rfl
 | succ n ih=>
   intro v1
   rw [qL,q12,qh3];unfold Tryz.f104
   simp (maxSteps:=10000000) -implicitDefEqProofs [qGc,qnP,qEa,qq3,qPo,qqB,qLL,qtn,qKm,qp1,qCi,qK9,qMh,qEO,qNP,qCn,qBM,qIL,qHu,qL3,q5,qa7,hret,h0,ih]
theorem q5D (N:Nat) (v0:Val Y33):qd tt qkt (qdj N) (Tryz.f104.body.getD .skip) (qo tt true [i4] [.tmp 2]) (qt [i33] 39 (v0,()))=qvV N v0:=by
 unfold Tryz.f104
 simp (maxSteps:=10000000) -implicitDefEqProofs [qGc,qnP,qEa,qq3,qPo,qqB,qLL,qtn,qKm,qp1,qCi,qK9,qMh,qEO,qNP,qCn,qBM,qIL,qHu,qL3,q5,qa7]
 rewrite [q8L (k0:=(fun (_:Unit)=>bif ((inR (v0.1:Int) (0:Int) (4:Int)):Bool)then (some ((decide (((v0.2:List (Val qa)).length:Int)≤(16:Int))),()))else (some (false,())))) N _ _ ?_ ?_ ?_]
 ·rewrite [qvV];first | rfl | simp (maxSteps:=10000000) -implicitDefEqProofs []
 ·rfl
 ·intro;simp only [qK,qI,qJ,qy]
 ·simp (maxSteps:=10000000) -implicitDefEqProofs [qGc,qnP,qEa,qq3,qPo,qqB,qLL,qtn,qKm,qp1,qCi,qK9,qMh,qEO,qNP,qCn,qBM,qIL,qHu,qL3,q5,qa7]
noncomputable def qhT (N:Nat) (v1:List (Val qa)) (v2:Int) (v4:Int) (v5:List (Val qa)) (k0:Unit→Option (qb [i4])):Nat→Int→Option (qb [i4])
 | 0,_=>none
 | n+1,v3=>bif (decide (v3<v2))then (chk (0≤v3∧v3<(v1.length:Int)) (bif (!((qA (v1.getD v3.toNat (qc qa))):Bool))then (some (false,()))else (bif (!(decide ((((v1.getD v3.toNat (qc qa)).1:List (Val (.int .i64))).length:Int)=v4)))then (some (false,()))else (qhT N v1 v2 v4 v5 k0 n (IntKind.i64.wrap (v3+(1:Int)))))))else (k0 ())
noncomputable def qAo (N:Nat) (v0:Val Y33):Option (qb [i4]):=bif (decide ((v0.1:Int)<(0:Int)))then (some (false,()))else (bif (decide ((4:Int)<(v0.1:Int)))then (some (false,()))else (bif (decide ((16:Int)<((v0.2:List (Val qa)).length:Int)))then (some (false,()))else (qhT N (v0.2:List (Val qa)) ((v0.2:List (Val qa)).length:Int) (v0.1:Int) (v0.2:List (Val qa)) (fun (_:Unit)=>some (true,())) N (0:Int))))
def qmA:Gam:=[(279,qaA)]
theorem qEf:Gam.get qmA 279=some qaA:=rfl
def qpy:Nm:=⟨[false,true,false,false,false,false,false,false,false,false,false,false,false,false,false,false,false,false,false,false,true,true,true],[],false⟩
theorem qG8:qpy.zero=false:=rfl
theorem qFA:qpy.fix=[]:=rfl
theorem qH2:qpy.keep=[false,true,false,false,false,false,false,false,false,false,false,false,false,false,false,false,false,false,false,false,true,true,true]:=rfl
def qxO:Nm:=⟨[],[],false⟩
theorem qJs:qxO.zero=false:=rfl
theorem qDi:qxO.fix=[]:=rfl
theorem qNd:qxO.keep=[]:=rfl
def qnN:Nat→Tree:=fun _=> .done
def qsP:Nat→Nm:=fun i=>if i=4 then qpy else ⟨[],[],false⟩
def qol:Nat→Option Jn:=fun _=>none
def qtQ:Nat→Option Nm:=fun i=>if i=0 then some qxO else none
def qof:Nat→Option Nm:=fun _=>none
theorem qYT:qj qnN (Tryz.f199.body.getD .skip)=true:=by kernel_rfl
def qdR (N:Nat):Tab:={tr:=qnN,lp:=qsP,ex:=qtQ,rg:=qof,jn:=qol,fuel:=N}
theorem qM5 (N:Nat):(qdR N).pins=false:=rfl
theorem q8m (N:Nat):qn Tryz.prog (qdR N):=qr fun _=>rfl
theorem qMo (N:Nat) (i:Nat):(qdR N).tr i=qnN i:=rfl
theorem qPD (N:Nat) (i:Nat):(qdR N).lp i=qsP i:=rfl
theorem qMa (N:Nat) (i:Nat):(qdR N).ex i=qtQ i:=rfl
theorem qIa (N:Nat) (i:Nat):(qdR N).rg i=qof i:=rfl
theorem qNt (N:Nat) (i:Nat):(qdR N).jn i=qol i:=rfl
theorem qOM (N:Nat):(qdR N).fuel=N:=rfl
noncomputable def qS8:Code:=cut [true,true,false,true,true,true] (Tryz.f199.body.getD .skip)
theorem q9P {N:Nat} {Q:X→St→Option (qb [i4])} {e:List LV} {h:List Blk}:qd tt qmA (qdR N) qS8 Q ⟨e,h⟩=qd tt qmA (qdR N) (cut [true,true,false,true,true,true] (Tryz.f199.body.getD .skip)) Q ⟨e,h⟩:=rfl
theorem zdh (N:Nat) (v1:List (Val qa)) (v2:Int) (v4:Int) (v5:List (Val qa)) {k0:Unit→Option (qb [i4])} {Q:X→St→Option (qb [i4])} {c:Code} (hc:c=qS8) (hret: ∀st,Q .ret st=qB tt true [i4] [.tmp 2] st) (h0:Q (.exit 0) ⟨[u,u,u,u,u,u,u,u,u,u,u,u,u,u,u,u,u,u,u,u,u,u,u,u,u,u,u,u,u,u,u,u,u,u,u,u,u,u],[]⟩=k0 ()): ∀(n:Nat) (v3:Int),qC (qd tt qmA (qdR N) c) false qpy Q n ⟨[u,.one (.ptr 0 0 0),u,u,u,u,u,u,u,u,u,u,u,u,u,u,u,u,u,u,.one (.sl 108 qa v1 1),.one (.int .i64 v2),.one (.int .i64 v3),u,u,u,u,u,u,u,u,u,u,u,u,u,u,u],[.box [.int .i64 v4,.sl 108 qa v5 1]]⟩=qhT N v1 v2 v4 v5 k0 n v3:=by
 subst hc;intro n;induction n with
 | zero=>intros;rfl
 | succ n ih=>
   intro v3
   rw [qL,q9P,qhT];unfold Tryz.f199
   simp (maxSteps:=10000000) -implicitDefEqProofs [qMo,qnN,qPD,qsP,qMa,qtQ,qIa,qof,qNt,qol,qOM,qM5,qFA,qH2,qG8,qDi,qNd,qJs,qEf,qaA,hret,h0,ih]
theorem qXo (N:Nat) (v0:Val Y33):qd tt qmA (qdR N) (Tryz.f199.body.getD .skip) (qo tt true [i4] [.tmp 2]) (qt [i33] 38 (v0,()))=qAo N v0:=by
 unfold Tryz.f199
 simp (maxSteps:=10000000) -implicitDefEqProofs [qMo,qnN,qPD,qsP,qMa,qtQ,qIa,qof,qNt,qol,qOM,qM5,qFA,qH2,qG8,qDi,qNd,qJs,qEf,qaA]
 rewrite [zdh (k0:=(fun (_:Unit)=>some (true,()))) N _ _ _ _ ?_ ?_ ?_]
 ·rewrite [qAo];first | rfl | simp (maxSteps:=10000000) -implicitDefEqProofs []
 ·rfl
 ·intro;simp only [qK,qI,qJ,qy]
 ·simp (maxSteps:=10000000) -implicitDefEqProofs [qMo,qnN,qPD,qsP,qMa,qtQ,qIa,qof,qNt,qol,qOM,qM5,qFA,qH2,qG8,qDi,qNd,qJs,qEf,qaA]
theorem q4w (N:Nat) (d:Int) (xs:List (Val qa)) (K:Unit→Option (qb [i4])) (hl:xs.length≤1048576) (n:Nat) (hn:xs.length<n):qh3 N d xs K n 0=bif xs.all (fun a=>qA a&&decide ((List.length (α:=Val (.int .i64)) a.1:Int)=d))then K ()else some (false,()):=
 (qaj (F:=fun n i (_:Unit)=>qh3 N d xs K n i) (step:=fun _ x _ K=>bif (qA x&&decide ((List.length (α:=Val (.int .i64)) x.1:Int)=d))then K ()else some (false,())) (k:=K) hl (fun n i s hi=>by
   rw [qh3,ql (by omega),qe (by omega),qe (by omega),qH hi]
   cases qA xs[i]<;>simp [qaO]) (fun n i s hi=>by rw [qh3,qi (by omega)]) n () hn).trans (qhr xs 0)
theorem q9t (N:Nat) (d:Int) (xs ys:List (Val qa)) (K:Unit→Option (qb [i4])) (hl:xs.length≤1048576) (n:Nat) (hn:xs.length<n):qhT N xs xs.length d ys K n 0=bif xs.all (fun a=>qA a&&decide ((List.length (α:=Val (.int .i64)) a.1:Int)=d))then K ()else some (false,()):=
 (qaj (F:=fun n i (_:Unit)=>qhT N xs xs.length d ys K n i) (step:=fun _ x _ K=>bif (qA x&&decide ((List.length (α:=Val (.int .i64)) x.1:Int)=d))then K ()else some (false,())) (k:=K) hl (fun n i s hi=>by
   rw [qhT,ql (by omega),qe (by omega),qH hi]
   cases qA xs[i]<;>simp [qaO]) (fun n i s hi=>by rw [qhT,qi (by omega)]) n () hn).trans (qhr xs 0)
def qcv:G:={ps:=[i33],rs:=[i4],dp:=true,pre:=fun x=>qcg x.1,fn:=fun x=>(qD x.1,())}
def qaz:G:={ps:=[i33],rs:=[i4],dp:=true,pre:=fun _=>True,fn:=fun x=>(qD x.1,())}
theorem q8j (c:Val Y33) (h:qcg c): ∃N,qvV N c=some (qD c,()):=⟨List.length (α:=Val qa) c.2+1,by
 obtain ⟨d,xs⟩:=c
 change Int at d
 change List (Val qa)at xs
 rw [qvV,qD]
 dsimp only
 rw [q4w _ _ _ _ h _ (Nat.lt_succ_self _)]
 simp only [inR]
 cases List.all xs _<;>cases decide (0≤d∧d≤4)<;>simp⟩
theorem qON:Sound Tryz.prog 104 qcv:=qu (tt:=tt) (Γ:=qkt) hT (qf qmH (qf qAN qq)) hm (fn:=Tryz.f104) Tryz.func104 (c:=Tryz.f104.body.getD .skip) (by kernel_rfl) (by kernel_rfl) fun x hx=>by
 obtain ⟨N,h⟩:=q8j x.1 hx
 exact ⟨qdj N,q7k,qv _,qZA N,(q5D N x.1).trans h⟩
theorem zc3 (c:Val Y33): ∃N,qAo N c=some (qD c,()):=⟨List.length (α:=Val qa) c.2+1,by
 obtain ⟨d,xs⟩:=c
 change Int at d
 change List (Val qa)at xs
 rw [qAo,qD]
 dsimp only
 by_cases h1:d<0
 ·have: ¬(0≤d∧d≤4):=by omega
  simp [h1,this]
 ·by_cases h2:4<d
  ·have: ¬(0≤d∧d≤4):=by omega
   simp [h1,h2,this]
  ·have:0≤d∧d≤4:=by omega
   by_cases h3:(16:Int)<xs.length
   ·have h3': ¬(xs.length:Int)≤16:=by omega
    simp only [h1,h2,h3,h3',decide_true,decide_false,cond_true,cond_false,Bool.and_false,Bool.false_and]
   ·have h3':(xs.length:Int)≤16:=by omega
    rw [q9t _ _ _ _ _ (by omega) _ (Nat.lt_succ_self _)]
    simp only [h1,h2,h3,h3',this,decide_true,decide_false,cond_true,cond_false,Bool.true_and,and_self]
    cases List.all xs _<;>rfl⟩
theorem qrl:Sound Tryz.prog 199 qaz:=qu (tt:=tt) (Γ:=qmA) hT (qf qrQ qq) hm (fn:=Tryz.f199) Tryz.func199 (c:=Tryz.f199.body.getD .skip) (by kernel_rfl) (by kernel_rfl) fun x hx=>by
 obtain ⟨N,h⟩:=zc3 x.1
 exact ⟨qdR N,qYT,qv _,q8m N,(qXo N x.1).trans h⟩
end Go.T
