/- Regions: cells that are added. Run. -/
import Derived.Test.YthefcjjgchekiaaGreatE5
import Derived.Test.YthefcjjgchekiaaGreatB10n
import Derived.Test.YthefcjjgchekiaaGreatT13
set_option linter.unusedSimpArgs false
set_option linter.unusedVariables false
namespace Go.T
open Go Go.Proofs
set_option maxHeartbeats 4000000
set_option maxRecDepth 100000
abbrev qiy:Val Y50×Bool:=(((0:Int),[]),false)
def qba (r:Val Y50):Bool:=decide (0≤(r.1:Int)∧(r.1:Int)≤4)&&decide ((List.length (α:=Val Y33) r.2:Int)≤12)&&List.all (α:=Val Y33) r.2 fun c=>qH c&&decide ((c.1:Int)=(r.1:Int))
def qhO (r:Val Y50):Prop:=List.length (α:=Val Y33) r.2≤1048576∧ ∀c∈(r.2:List (Val Y33)),qci c
noncomputable def qiQ (N:Nat) (v2:Int) (v3:List (Val Y33)) (k0:Unit→Option (qc [i4])):Nat→Int→Option (qc [i4])
 | 0,_=>none
 | n+1,v1=>bif (decide (v1<(v3.length:Int)))then (chk (0≤v1∧v1<(v3.length:Int)) (chk (qci (v3.getD v1.toNat (qb Y33))) (bif (!((qH (v3.getD v1.toNat (qb Y33))):Bool))then (some (false,()))else (chk (0≤v1∧v1<(v3.length:Int)) (bif (!(decide (((v3.getD v1.toNat (qb Y33)).1:Int)=v2)))then (some (false,()))else (qiQ N v2 v3 k0 n (IntKind.i64.wrap (v1+(1:Int)))))))))else (k0 ())
noncomputable def qB4 (N:Nat) (v0:Val Y50):Option (qc [i4]):=qiQ N (v0.1:Int) (v0.2:List (Val Y33)) (fun (_:Unit)=>bif ((inR (v0.1:Int) (0:Int) (4:Int)):Bool)then (some ((decide (((v0.2:List (Val Y33)).length:Int)≤(12:Int))),()))else (some (false,()))) N (0:Int)
def qkq:Gam:=[(104,qa8),(118,qam)]
theorem qJl:Gam.get qkq 104=some qa8:=rfl
theorem qWR:Gam.get qkq 118=some qam:=rfl
def qrA:Nm:=⟨[false,true,false,true],[],false⟩
theorem qUr:qrA.zero=false:=rfl
theorem qNm:qrA.fix=[]:=rfl
theorem qTt:qrA.keep=[false,true,false,true]:=rfl
def qx1:Nm:=⟨[false,true],[],false⟩
theorem qJb:qx1.zero=false:=rfl
theorem qVL:qx1.fix=[]:=rfl
theorem qL6:qx1.keep=[false,true]:=rfl
def qnk:Nat→Tree:=fun i=>if i=4 then .quiet 0 (.quiet 1 (.quiet 2 (.quiet 3 (.quiet 4 (.alt 5 (.quiet 6 (.quiet 7 (.quiet 8 (.quiet 9 (.quiet 10 (.quiet 11 (.quiet 12 (.quiet 13 (.quiet 14 (.quiet 15 (.quiet 16 (.quiet 17 .done)))))))))))) .stop)))))else .done
def qtK:Nat→Nm:=fun i=>if i=2 then qrA else ⟨[],[],false⟩
def qv1:Nat→Option Jn:=fun _=>none
def qrj:Nat→Option Nm:=fun i=>if i=0 then some qx1 else none
def qvM:Nat→Option Nm:=fun _=>none
theorem zfR:qn qnk (Tryz.f117.body.getD .skip)=true:=by kernel_rfl
def qdj (N:Nat):Tab:={tr:=qnk,lp:=qtK,ex:=qrj,rg:=qvM,jn:=qv1,fuel:=N}
theorem qHZ (N:Nat):(qdj N).pins=false:=rfl
theorem q72 (N:Nat):qp Tryz.prog (qdj N):=qv fun _=>rfl
theorem qQ4 (N:Nat) (i:Nat):(qdj N).tr i=qnk i:=rfl
theorem qTC (N:Nat) (i:Nat):(qdj N).lp i=qtK i:=rfl
theorem qN6 (N:Nat) (i:Nat):(qdj N).ex i=qrj i:=rfl
theorem qVj (N:Nat) (i:Nat):(qdj N).rg i=qvM i:=rfl
theorem qXd (N:Nat) (i:Nat):(qdj N).jn i=qv1 i:=rfl
theorem qKw (N:Nat):(qdj N).fuel=N:=rfl
noncomputable def q3m:Code:=cut [true,false,true,true,true] (Tryz.f117.body.getD .skip)
theorem zal {N:Nat} {Q:X→St→Option (qc [i4])} {e:List LV} {h:List Blk}:qe tt qkq (qdj N) q3m Q ⟨e,h⟩=qe tt qkq (qdj N) (cut [true,false,true,true,true] (Tryz.f117.body.getD .skip)) Q ⟨e,h⟩:=rfl
theorem zi6 (N:Nat) (v2:Int) (v3:List (Val Y33)) {k0:Unit→Option (qc [i4])} {Q:X→St→Option (qc [i4])} {c:Code} (hc:c=q3m) (hret: ∀st,Q .ret st=qI tt true [i4] [.tmp 2] st) (h0:Q (.exit 0) ⟨[u,.one (.ptr 0 0 0),u,u,u,u,u,u,u,u,u,u,u,u,u,u,u,u,u,u,u,u,u,u,u,u,u,u,u,u,u,u,u,u,u,u,u,u],[.box [.int .i64 v2,.sl 33 Y33 v3 1]]⟩=k0 ()): ∀(n:Nat) (v1:Int),qE (qe tt qkq (qdj N) c) false qrA Q n ⟨[u,.one (.ptr 0 0 0),u,.one (.int .i64 v1),u,u,u,u,u,u,u,u,u,u,u,u,u,u,u,u,u,u,u,u,u,u,u,u,u,u,u,u,u,u,u,u,u,u],[.box [.int .i64 v2,.sl 33 Y33 v3 1]]⟩=qiQ N v2 v3 k0 n v1:=by
 subst hc;intro n;induction n with
 | zero=>intros;rfl
 | succ n ih=>
   intro v1
   rw [qN,zal,qiQ];unfold Tryz.f117
   simp (maxSteps:=10000000) -implicitDefEqProofs [qQ4,qnk,qTC,qtK,qN6,qrj,qVj,qvM,qXd,qv1,qKw,qHZ,qNm,qTt,qUr,qVL,qL6,qJb,qJl,qWR,qa8,qam,hret,h0,ih]
theorem zfN (N:Nat) (v0:Val Y50):qe tt qkq (qdj N) (Tryz.f117.body.getD .skip) (qt tt true [i4] [.tmp 2]) (qw [i50] 38 (v0,()))=qB4 N v0:=by
 unfold Tryz.f117
 simp (maxSteps:=10000000) -implicitDefEqProofs [qQ4,qnk,qTC,qtK,qN6,qrj,qVj,qvM,qXd,qv1,qKw,qHZ,qNm,qTt,qUr,qVL,qL6,qJb,qJl,qWR,qa8,qam]
 rewrite [zi6 (k0:=(fun (_:Unit)=>bif ((inR (v0.1:Int) (0:Int) (4:Int)):Bool)then (some ((decide (((v0.2:List (Val Y33)).length:Int)≤(12:Int))),()))else (some (false,())))) N _ _ ?_ ?_ ?_]
 ·rewrite [qB4];first | rfl | simp (maxSteps:=10000000) -implicitDefEqProofs []
 ·rfl
 ·intro;simp only [qJ,qL,qK,qB]
 ·simp (maxSteps:=10000000) -implicitDefEqProofs [qQ4,qnk,qTC,qtK,qN6,qrj,qVj,qvM,qXd,qv1,qKw,qHZ,qNm,qTt,qUr,qVL,qL6,qJb,qJl,qWR,qa8,qam]
noncomputable def qij (N:Nat) (v1:List (Val Y33)) (v2:Int) (v4:Int) (v5:List (Val Y33)) (k0:Unit→Option (qc [i4])):Nat→Int→Option (qc [i4])
 | 0,_=>none
 | n+1,v3=>bif (decide (v3<v2))then (chk (0≤v3∧v3<(v1.length:Int)) (bif (!((qH (v1.getD v3.toNat (qb Y33))):Bool))then (some (false,()))else (bif (!(decide (((v1.getD v3.toNat (qb Y33)).1:Int)=v4)))then (some (false,()))else (qij N v1 v2 v4 v5 k0 n (IntKind.i64.wrap (v3+(1:Int)))))))else (k0 ())
noncomputable def qzA (N:Nat) (v0:Val Y50):Option (qc [i4]):=bif (decide ((v0.1:Int)<(0:Int)))then (some (false,()))else (bif (decide ((4:Int)<(v0.1:Int)))then (some (false,()))else (bif (decide ((12:Int)<((v0.2:List (Val Y33)).length:Int)))then (some (false,()))else (qij N (v0.2:List (Val Y33)) ((v0.2:List (Val Y33)).length:Int) (v0.1:Int) (v0.2:List (Val Y33)) (fun (_:Unit)=>some (true,())) N (0:Int))))
def qoR:Gam:=[(199,qaS)]
theorem qJj:Gam.get qoR 199=some qaS:=rfl
def qqz:Nm:=⟨[false,true,false,false,false,false,false,false,false,false,false,false,false,false,false,false,false,false,false,false,true,true,true],[],false⟩
theorem qGS:qqz.zero=false:=rfl
theorem qXc:qqz.fix=[]:=rfl
theorem qOS:qqz.keep=[false,true,false,false,false,false,false,false,false,false,false,false,false,false,false,false,false,false,false,false,true,true,true]:=rfl
def qyP:Nm:=⟨[],[],false⟩
theorem qWn:qyP.zero=false:=rfl
theorem qWl:qyP.fix=[]:=rfl
theorem qFm:qyP.keep=[]:=rfl
def qpj:Nat→Tree:=fun _=> .done
def qtv:Nat→Nm:=fun i=>if i=4 then qqz else ⟨[],[],false⟩
def qvT:Nat→Option Jn:=fun _=>none
def qwH:Nat→Option Nm:=fun i=>if i=0 then some qyP else none
def qvA:Nat→Option Nm:=fun _=>none
theorem zj0:qn qpj (Tryz.f124.body.getD .skip)=true:=by kernel_rfl
def qdl (N:Nat):Tab:={tr:=qpj,lp:=qtv,ex:=qwH,rg:=qvA,jn:=qvT,fuel:=N}
theorem qJC (N:Nat):(qdl N).pins=false:=rfl
theorem zmL (N:Nat):qp Tryz.prog (qdl N):=qv fun _=>rfl
theorem qNh (N:Nat) (i:Nat):(qdl N).tr i=qpj i:=rfl
theorem qPi (N:Nat) (i:Nat):(qdl N).lp i=qtv i:=rfl
theorem qHy (N:Nat) (i:Nat):(qdl N).ex i=qwH i:=rfl
theorem qF6 (N:Nat) (i:Nat):(qdl N).rg i=qvA i:=rfl
theorem qYa (N:Nat) (i:Nat):(qdl N).jn i=qvT i:=rfl
theorem qMH (N:Nat):(qdl N).fuel=N:=rfl
noncomputable def q27:Code:=cut [true,true,false,true,true,true] (Tryz.f124.body.getD .skip)
theorem zd5 {N:Nat} {Q:X→St→Option (qc [i4])} {e:List LV} {h:List Blk}:qe tt qoR (qdl N) q27 Q ⟨e,h⟩=qe tt qoR (qdl N) (cut [true,true,false,true,true,true] (Tryz.f124.body.getD .skip)) Q ⟨e,h⟩:=rfl
theorem zkJ (N:Nat) (v1:List (Val Y33)) (v2:Int) (v4:Int) (v5:List (Val Y33)) {k0:Unit→Option (qc [i4])} {Q:X→St→Option (qc [i4])} {c:Code} (hc:c=q27) (hret: ∀st,Q .ret st=qI tt true [i4] [.tmp 2] st) (h0:Q (.exit 0) ⟨[u,u,u,u,u,u,u,u,u,u,u,u,u,u,u,u,u,u,u,u,u,u,u,u,u,u,u,u,u,u,u,u,u,u,u,u,u],[]⟩=k0 ()): ∀(n:Nat) (v3:Int),qE (qe tt qoR (qdl N) c) false qqz Q n ⟨[u,.one (.ptr 0 0 0),u,u,u,u,u,u,u,u,u,u,u,u,u,u,u,u,u,u,.one (.sl 33 Y33 v1 1),.one (.int .i64 v2),.one (.int .i64 v3),u,u,u,u,u,u,u,u,u,u,u,u,u,u],[.box [.int .i64 v4,.sl 33 Y33 v5 1]]⟩=qij N v1 v2 v4 v5 k0 n v3:=by
 subst hc;intro n;induction n with
 | zero=>intros;rfl
 | succ n ih=>
   intro v3
   rw [qN,zd5,qij];unfold Tryz.f124
   simp (maxSteps:=10000000) -implicitDefEqProofs [qNh,qpj,qPi,qtv,qHy,qwH,qF6,qvA,qYa,qvT,qMH,qJC,qXc,qOS,qGS,qWl,qFm,qWn,qJj,qaS,hret,h0,ih]
theorem zf3 (N:Nat) (v0:Val Y50):qe tt qoR (qdl N) (Tryz.f124.body.getD .skip) (qt tt true [i4] [.tmp 2]) (qw [i50] 37 (v0,()))=qzA N v0:=by
 unfold Tryz.f124
 simp (maxSteps:=10000000) -implicitDefEqProofs [qNh,qpj,qPi,qtv,qHy,qwH,qF6,qvA,qYa,qvT,qMH,qJC,qXc,qOS,qGS,qWl,qFm,qWn,qJj,qaS]
 rewrite [zkJ (k0:=(fun (_:Unit)=>some (true,()))) N _ _ _ _ ?_ ?_ ?_]
 ·rewrite [qzA];first | rfl | simp (maxSteps:=10000000) -implicitDefEqProofs []
 ·rfl
 ·intro;simp only [qJ,qL,qK,qB]
 ·simp (maxSteps:=10000000) -implicitDefEqProofs [qNh,qpj,qPi,qtv,qHy,qwH,qF6,qvA,qYa,qvT,qMH,qJC,qXc,qOS,qGS,qWl,qFm,qWn,qJj,qaS]
def qe2:G:={ps:=[i50],rs:=[i4],dp:=true,pre:=fun x=>qhO x.1,fn:=fun x=>(qba x.1,())}
def qeO:G:={ps:=[i50],rs:=[i4],dp:=true,pre:=fun _=>True,fn:=fun x=>(qba x.1,())}
def qcz (r:Val Y50) (c:Val Y33):Val Y50×Bool:=bif (qaD c).2 then (bif qcK (qaD c).1 then (r,true)else (bif decide (12≤(List.length (α:=Val Y33) r.2:Int))then (r,false)else ((r.1,(r.2:List (Val Y33))++[(qaD c).1]),true)))else (r,false)
def qhQ (r:Val Y50) (c:Val Y33):Val Y50×Bool:=bif (qe7 (qO c.1 c.2)).2 then (bif qcK (qe7 (qO c.1 c.2)).1 then (r,true)else ((r.1,(r.2:List (Val Y33))++[(qe7 (qO c.1 c.2)).1]),decide ((List.length (α:=Val Y33) r.2:Int)+1≤12)))else qiy
def qMa (r:Val Y50) (c:Val Y33):Prop:=qH c=true∧List.length (α:=Val Y33) r.2≤12
end Go.T
