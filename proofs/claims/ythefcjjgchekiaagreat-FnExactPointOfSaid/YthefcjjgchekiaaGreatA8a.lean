/- Atoms of numbers; cells' bounds. -/
import Derived.Test.YthefcjjgchekiaaGreatA2
import Derived.Test.YthefcjjgchekiaaGreatA3
set_option linter.unusedSimpArgs false
set_option linter.unusedVariables false
namespace Go.T
open Go Go.Proofs
set_option maxHeartbeats 4000000
set_option maxRecDepth 100000
theorem qMr {ρ α β:Type} {f:α→β} {k:List β→Option ρ}: ∀(xs:List α) (i:Nat) (s:List β),s.length+xs.length≤1048576→qat (fun _ x (s:List β) K=>chk (s.length+[f x].length≤1048576) (K (s++[f x]))) i xs s k=k (s++xs.map f)
 | [],_,s,_=>by rw [qat];simp
 | x::xs,i,s,h=>by
   simp only [List.length_cons]at h
   rw [qat,qd (by simp;omega)];dsimp only;rw [qMr xs (i+1) _ (by simp;omega)]
   simp
theorem qen {x:Int} {g:Nat} (h:inI x):IntKind.i64.wrap (x.tdiv (g:Int))=x.tdiv (g:Int):=by
 have:(x.tdiv (g:Int)).natAbs≤x.natAbs:=by
  rw [Int.natAbs_tdiv];exact Nat.div_le_self _ _
 unfold inI at h
 exact qaq (by omega) (by omega)
def qjD (co:List (Val (.int .i64))) (k:Int) (s:Bool) (g:Nat):Val qa×Bool:=
 bif qG (List.map (α:=Int) (fun x=>x.tdiv (g:Int)) co,k.tdiv (g:Int),s)then ((List.map (α:=Int) (fun x=>x.tdiv (g:Int)) co,k.tdiv (g:Int),s),true)else (([],(0:Int),false),false)
def qh (co:List (Val (.int .i64))) (k:Int) (s:Bool):Val qa×Bool:=qjD co k s (max 1 (gL k.natAbs co))
def qap (co:List (Val (.int .i64))) (k:Int) (_:Bool):Prop:=qgs co k
theorem qJB (co:List (Val (.int .i64))) (k:Int) (s:Bool) (g:Nat) (hg:g=max 1 (gL k.natAbs co)):(bif !qG (List.map (α:=Int) (fun x=>x.tdiv (g:Int)) co,k.tdiv (g:Int),s)then some ((([]:List (Val (.int .i64))),(0:Int),false),false,())else some ((List.map (α:=Int) (fun x=>x.tdiv (g:Int)) co,k.tdiv (g:Int),s),true,()))=some ((qh co k s).1,(qh co k s).2,()):=by
 rw [qh,←hg,qjD,qaG]
 cases qG (List.map (α:=Int) (fun x=>x.tdiv (g:Int)) co,k.tdiv (g:Int),s)<;>rfl
noncomputable def qiF (N:Nat) (v3:List (Val (.int .i64))) (v4:Int) (v6:Int) (v7:Bool) (v8:Int) (v9:Bool) (k0:(List (Val (.int .i64)))→Option (qc [qr,i4])):Nat→Int→(List (Val (.int .i64)))→Option (qc [qr,i4])
 | 0,_,_=>none
 | n+1,v5,v10=>bif (decide (v5<(v3.length:Int)))then (chk (0≤v5∧v5<(v3.length:Int)) (chk (v4≠0) (chk (v10.length+([(IntKind.i64.wrap (((v3.getD v5.toNat (qb (.int .i64))):Int).tdiv v4))]:List (Val (.int .i64))).length≤1048576) (qiF N v3 v4 v6 v7 v8 v9 k0 n (IntKind.i64.wrap (v5+(1:Int))) (v10++([(IntKind.i64.wrap (((v3.getD v5.toNat (qb (.int .i64))):Int).tdiv v4))]:List (Val (.int .i64))))))))else (k0 v10)
noncomputable def qAC (N:Nat) (v0:List (Val (.int .i64))) (v1:Int) (v2:Bool):Option (qc [qr,i4]):=chk (qgs v0 v1) (chk ((max (1:Int) ((qcy v0 v1):Int))≠0) (qiF N v0 (max (1:Int) ((qcy v0 v1):Int)) (0:Int) false (IntKind.i64.wrap (v1.tdiv (max (1:Int) ((qcy v0 v1):Int)))) v2 (fun (v12:List (Val (.int .i64)))=>bif (!((qG (v12,(IntKind.i64.wrap (v1.tdiv (max (1:Int) ((qcy v0 v1):Int)))),v2)):Bool))then (some ((([]:List (Val (.int .i64))),(0:Int),false),false,()))else (some ((v12,(IntKind.i64.wrap (v1.tdiv (max (1:Int) ((qcy v0 v1):Int)))),v2),true,()))) N (0:Int) ([]:List (Val (.int .i64)))))
def qmS:Gam:=[(193,qbs),(231,qcS)]
theorem qXG:Gam.get qmS 193=some qbs:=rfl
theorem qWM:Gam.get qmS 231=some qcS:=rfl
def qvw:Nm:=⟨[true,false,false,false,false,false,true,false,true,true,true],[.box 9 0 3 (.int .i64)],false⟩
theorem qOK:qvw.zero=false:=rfl
theorem qKm:qvw.fix=[.box 9 0 3 (.int .i64)]:=rfl
theorem qWQ:qvw.keep=[true,false,false,false,false,false,true,false,true,true,true]:=rfl
def qCx:Nm:=⟨[false,false,false,false,false,false,true,false,false,true],[],false⟩
theorem qSU:qCx.zero=false:=rfl
theorem qRV:qCx.fix=[]:=rfl
theorem qN9:qCx.keep=[false,false,false,false,false,false,true,false,false,true]:=rfl
def qxZ:Nm:=⟨[true,false,false,false,false,false,true,false,true,true,true],[],false⟩
theorem qNJ:qxZ.zero=false:=rfl
theorem qYg:qxZ.fix=[]:=rfl
theorem qO3:qxZ.keep=[true,false,false,false,false,false,true,false,true,true,true]:=rfl
def qmU:Nat→Tree:=fun i=>if i=6 then .quiet 2 (.quiet 3 (.quiet 4 (.quiet 5 (.quiet 6 (.quiet 7 (.alt 0 (.alt 1 (.alt 8 (.alt 9 (.quiet 10 (.alt 11 .done .stop)) .stop) .stop) (.alt 8 (.quiet 1 (.alt 9 (.quiet 10 (.alt 11 .done .stop)) .stop)) .stop)) (.alt 8 (.quiet 0 (.quiet 1 (.alt 9 (.quiet 10 (.alt 11 .done .stop)) .stop))) .stop)))))))else .done
def qve:Nat→Nm:=fun i=>if i=4 then qvw else ⟨[],[],false⟩
def qsL:Nat→Option Jn:=fun _=>none
def qxn:Nat→Option Nm:=fun i=>if i=0 then some qCx else none
def qtU:Nat→Option Nm:=fun i=>if i=6 then some qxZ else none
theorem q9f:qn qmU (Tryz.f149.body.getD .skip)=true:=by kernel_rfl
def qdI (N:Nat):Tab:={tr:=qmU,lp:=qve,ex:=qxn,rg:=qtU,jn:=qsL,fuel:=N}
theorem qIW (N:Nat):(qdI N).pins=false:=rfl
theorem zav (N:Nat):qp Tryz.prog (qdI N):=qv fun _=>rfl
theorem qV5 (N:Nat) (i:Nat):(qdI N).tr i=qmU i:=rfl
theorem qVz (N:Nat) (i:Nat):(qdI N).lp i=qve i:=rfl
theorem qS8 (N:Nat) (i:Nat):(qdI N).ex i=qxn i:=rfl
theorem qGc (N:Nat) (i:Nat):(qdI N).rg i=qtU i:=rfl
theorem qWa (N:Nat) (i:Nat):(qdI N).jn i=qsL i:=rfl
theorem qO7 (N:Nat):(qdI N).fuel=N:=rfl
noncomputable def q2y:Code:=cut [true,true,true,false,true,true,true] (Tryz.f149.body.getD .skip)
theorem zqi {N:Nat} {Q:X→St→Option (qc [qr,i4])} {e:List LV} {h:List Blk}:qe tt qmS (qdI N) q2y Q ⟨e,h⟩=qe tt qmS (qdI N) (cut [true,true,true,false,true,true,true] (Tryz.f149.body.getD .skip)) Q ⟨e,h⟩:=rfl
theorem znq (N:Nat) (v3:List (Val (.int .i64))) (v4:Int) (v6:Int) (v7:Bool) (v8:Int) (v9:Bool) {k0:(List (Val (.int .i64)))→Option (qc [qr,i4])} {Q:X→St→Option (qc [qr,i4])} {c:Code} (hc:c=q2y) (hret: ∀st,Q .ret st=qI tt true [qr,i4] [.cell 6 108,.tmp 7] st) (h0: ∀(v11:List (Val (.int .i64))),Q (.exit 0) ⟨[u,u,u,u,u,u,.one (.ptr 0 0 0),u,u,.one (.ptr 1 0 0),u,u,u,u,u,u,u,u,u,u,u,u,u,u,u,u,u,u,u,u,u,u,u,u,u,u,u,u,u,u,u,u],[.box [.nils,.int .i64 v6,.bool v7],.box [.own 2,.int .i64 v8,.bool v9],.row 3 (.int .i64) v11 true true 0]⟩=k0 v11): ∀(n:Nat) (v5:Int) (v10:List (Val (.int .i64))),qE (qe tt qmS (qdI N) c) false qvw Q n ⟨[.one (.sl 3 (.int .i64) v3 3),u,u,u,u,u,.one (.ptr 0 0 0),u,.one (.int .i64 v4),.one (.ptr 1 0 0),.one (.int .i64 v5),u,u,u,u,u,u,u,u,u,u,u,u,u,u,u,u,u,u,u,u,u,u,u,u,u,u,u,u,u,u,u],[.box [.nils,.int .i64 v6,.bool v7],.box [.own 2,.int .i64 v8,.bool v9],.row 3 (.int .i64) v10 true true 0]⟩=qiF N v3 v4 v6 v7 v8 v9 k0 n v5 v10:=by
 subst hc;intro n;induction n with
 | zero=>intros;rfl
 | succ n ih=>
   intro v5 v10
   rw [qN,zqi,qiF];unfold Tryz.f149
   simp (maxSteps:=10000000) -implicitDefEqProofs [qV5,qmU,qVz,qve,qS8,qxn,qGc,qtU,qWa,qsL,qO7,qIW,qKm,qWQ,qOK,qRV,qN9,qSU,qYg,qO3,qNJ,qXG,qWM,qbs,qcS,hret,h0,ih]
theorem zj6 (N:Nat) (v0:List (Val (.int .i64))) (v1:Int) (v2:Bool):qe tt qmS (qdI N) (Tryz.f149.body.getD .skip) (qt tt true [qr,i4] [.cell 6 108,.tmp 7]) (qw [i25,i3,i4] 42 (v0,v1,v2,()))=qAC N v0 v1 v2:=by
 unfold Tryz.f149
 simp (maxSteps:=10000000) -implicitDefEqProofs [qV5,qmU,qVz,qve,qS8,qxn,qGc,qtU,qWa,qsL,qO7,qIW,qKm,qWQ,qOK,qRV,qN9,qSU,qYg,qO3,qNJ,qXG,qWM,qbs,qcS]
 rewrite [znq (k0:=(fun (v12:List (Val (.int .i64)))=>bif (!((qG (v12,(IntKind.i64.wrap (v1.tdiv (max (1:Int) ((qcy v0 v1):Int)))),v2)):Bool))then (some ((([]:List (Val (.int .i64))),(0:Int),false),false,()))else (some ((v12,(IntKind.i64.wrap (v1.tdiv (max (1:Int) ((qcy v0 v1):Int)))),v2),true,())))) N _ _ _ _ _ _ ?_ ?_ ?_]
 ·rewrite [qAC];first | rfl | simp (maxSteps:=10000000) -implicitDefEqProofs []
 ·rfl
 ·intro;simp only [qJ,qL,qK,qB]
 ·intro v12;simp (maxSteps:=10000000) -implicitDefEqProofs [qV5,qmU,qVz,qve,qS8,qxn,qGc,qtU,qWa,qsL,qO7,qIW,qKm,qWQ,qOK,qRV,qN9,qSU,qYg,qO3,qNJ,qXG,qWM,qbs,qcS]
noncomputable def qht (N:Nat) (v3:Int) (v4:List (Val (.int .i64))) (v5:Int) (v7:Int) (v8:Bool) (v9:Int) (v10:Bool) (k0:(List (Val (.int .i64)))→Option (qc [qr,i4])):Nat→Int→(List (Val (.int .i64)))→Option (qc [qr,i4])
 | 0,_,_=>none
 | n+1,v6,v11=>bif (decide (v6<v5))then (chk (0≤v6∧v6<(v4.length:Int)) (chk (v3≠0) (chk (0≤v6∧v6<(v11.length:Int)) (chk (v6.toNat<v11.length) (qht N v3 v4 v5 v7 v8 v9 v10 k0 n (IntKind.i64.wrap (v6+(1:Int))) (v11.set v6.toNat (IntKind.i64.wrap (((v4.getD v6.toNat (qb (.int .i64))):Int).tdiv v3))))))))else (k0 v11)
noncomputable def qxX (N:Nat) (v0:List (Val (.int .i64))) (v1:Int) (v2:Bool):Option (qc [qr,i4]):=chk (qgp v0) (chk (qb5 ((qa4 v0):Int) v1) (bif (decide (((qS ((qa4 v0):Int) v1):Int)=(0:Int)))then (chk ((1:Int)≠0) (chk (0≤(v0.length:Int)∧(v0.length:Int)≤(v0.length:Int)∧(v0.length:Int)≤1048576) (qht N (1:Int) v0 (v0.length:Int) (0:Int) false (IntKind.i64.wrap (v1.tdiv (1:Int))) v2 (fun (v13:List (Val (.int .i64)))=>bif (!((qG (v13,(IntKind.i64.wrap (v1.tdiv (1:Int))),v2)):Bool))then (some ((([]:List (Val (.int .i64))),(0:Int),false),false,()))else (some ((v13,(IntKind.i64.wrap (v1.tdiv (1:Int))),v2),true,()))) N (0:Int) (List.replicate (v0.length:Int).toNat (qb (.int .i64))))))else (chk (((qS ((qa4 v0):Int) v1):Int)≠0) (chk (0≤(v0.length:Int)∧(v0.length:Int)≤(v0.length:Int)∧(v0.length:Int)≤1048576) (qht N ((qS ((qa4 v0):Int) v1):Int) v0 (v0.length:Int) (0:Int) false (IntKind.i64.wrap (v1.tdiv ((qS ((qa4 v0):Int) v1):Int))) v2 (fun (v4:List (Val (.int .i64)))=>bif (!((qG (v4,(IntKind.i64.wrap (v1.tdiv ((qS ((qa4 v0):Int) v1):Int))),v2)):Bool))then (some ((([]:List (Val (.int .i64))),(0:Int),false),false,()))else (some ((v4,(IntKind.i64.wrap (v1.tdiv ((qS ((qa4 v0):Int) v1):Int))),v2),true,()))) N (0:Int) (List.replicate (v0.length:Int).toNat (qb (.int .i64))))))))
def qiR:Gam:=[(279,qa6),(280,qbg),(282,qbZ)]
theorem qzo:Gam.get qiR 279=some qa6:=rfl
theorem qyn:Gam.get qiR 280=some qbg:=rfl
theorem qzQ:Gam.get qiR 282=some qbZ:=rfl
def qsy:Nm:=⟨[false,false,false,false,false,false,true,false,true,true,false,false,false,false,false,false,false,false,false,false,false,false,false,false,false,false,true,true,true],[],false⟩
theorem qCQ:qsy.zero=false:=rfl
theorem qDf:qsy.fix=[]:=rfl
theorem qEk:qsy.keep=[false,false,false,false,false,false,true,false,true,true,false,false,false,false,false,false,false,false,false,false,false,false,false,false,false,false,true,true,true]:=rfl
def qxB:Nm:=⟨[false,false,false,false,false,false,true,false,false,true],[],false⟩
theorem qDD:qxB.zero=false:=rfl
theorem qCS:qxB.fix=[]:=rfl
theorem qz8:qxB.keep=[false,false,false,false,false,false,true,false,false,true]:=rfl
def qBu:Nm:=⟨[true,false,false,false,false,false,true,false,true,true],[],false⟩
theorem qBV:qBu.zero=false:=rfl
theorem qxY:qBu.fix=[]:=rfl
theorem qC3:qBu.keep=[true,false,false,false,false,false,true,false,true,true]:=rfl
def qlp:Nat→Tree:=fun i=>if i=4 then .first 0 (.first 3 (.first 4 (.first 5 (.first 6 (.grow 1 (.alt 2 (.first 7 (.alt 8 (.alt 9 .done .stop) .stop)) (.alt 8 (.alt 2 (.quiet 7 (.alt 9 .done .stop)) .stop) .stop)))))))else if i=8 then .quiet 0 (.quiet 1 (.quiet 2 (.quiet 3 (.quiet 4 (.quiet 5 (.quiet 6 (.alt 7 .done .stop)))))))else .done
def qnl:Nat→Nm:=fun i=>if i=6 then qsy else ⟨[],[],false⟩
def qoF:Nat→Option Jn:=fun _=>none
def qn2:Nat→Option Nm:=fun i=>if i=0 then some qxB else none
def qoa:Nat→Option Nm:=fun i=>if i=4 then some qBu else none
theorem zo7:qn qlp (Tryz.f207.body.getD .skip)=true:=by kernel_rfl
def qdO (N:Nat):Tab:={tr:=qlp,lp:=qnl,ex:=qn2,rg:=qoa,jn:=qoF,fuel:=N}
theorem qx6 (N:Nat):(qdO N).pins=false:=rfl
theorem q8C (N:Nat):qp Tryz.prog (qdO N):=qv fun _=>rfl
theorem qBm (N:Nat) (i:Nat):(qdO N).tr i=qlp i:=rfl
theorem qD5 (N:Nat) (i:Nat):(qdO N).lp i=qnl i:=rfl
theorem qEs (N:Nat) (i:Nat):(qdO N).ex i=qn2 i:=rfl
theorem qAS (N:Nat) (i:Nat):(qdO N).rg i=qoa i:=rfl
theorem qyI (N:Nat) (i:Nat):(qdO N).jn i=qoF i:=rfl
theorem qDH (N:Nat):(qdO N).fuel=N:=rfl
noncomputable def q0s:Code:=cut [true,true,true,true,false,true,true,true] (Tryz.f207.body.getD .skip)
theorem zdC {N:Nat} {Q:X→St→Option (qc [qr,i4])} {e:List LV} {h:List Blk}:qe tt qiR (qdO N) q0s Q ⟨e,h⟩=qe tt qiR (qdO N) (cut [true,true,true,true,false,true,true,true] (Tryz.f207.body.getD .skip)) Q ⟨e,h⟩:=rfl
theorem q3O (N:Nat) (v3:Int) (v4:List (Val (.int .i64))) (v5:Int) (v7:Int) (v8:Bool) (v9:Int) (v10:Bool) {k0:(List (Val (.int .i64)))→Option (qc [qr,i4])} {Q:X→St→Option (qc [qr,i4])} {c:Code} (hc:c=q0s) (hret: ∀st,Q .ret st=qI tt true [qr,i4] [.cell 6 108,.tmp 7] st) (h0: ∀(v12:List (Val (.int .i64))),Q (.exit 0) ⟨[u,u,u,u,u,u,.one (.ptr 0 0 0),u,u,.one (.ptr 1 0 0),u,u,u,u,u,u,u,u,u,u,u,u,u,u,u,u,u,u,u,u,u,u,u,u,u,u,u,u,u,u,u,u,u,u,u,u],[.box [.nils,.int .i64 v7,.bool v8],.box [.own 2,.int .i64 v9,.bool v10],.row 3 (.int .i64) v12 true true 0]⟩=k0 v12): ∀(n:Nat) (v6:Int) (v11:List (Val (.int .i64))),qE (qe tt qiR (qdO N) c) false qsy Q n ⟨[u,u,u,u,u,u,.one (.ptr 0 0 0),u,.one (.int .i64 v3),.one (.ptr 1 0 0),u,u,u,u,u,u,u,u,u,u,u,u,u,u,u,u,.one (.sl 3 (.int .i64) v4 3),.one (.int .i64 v5),.one (.int .i64 v6),u,u,u,u,u,u,u,u,u,u,u,u,u,u,u,u,u],[.box [.nils,.int .i64 v7,.bool v8],.box [.own 2,.int .i64 v9,.bool v10],.row 3 (.int .i64) v11 true true 0]⟩=qht N v3 v4 v5 v7 v8 v9 v10 k0 n v6 v11:=by
 subst hc;intro n;induction n with
 | zero=>intros;rfl
 | succ n ih=>
   intro v6 v11
   rw [qN,zdC,qht];unfold Tryz.f207
   simp (maxSteps:=10000000) -implicitDefEqProofs [qBm,qlp,qD5,qnl,qEs,qn2,qAS,qoa,qyI,qoF,qDH,qx6,qDf,qEk,qCQ,qCS,qz8,qDD,qxY,qC3,qBV,qzo,qyn,qzQ,qa6,qbg,qbZ,hret,h0,ih]
theorem zcc (N:Nat) (v0:List (Val (.int .i64))) (v1:Int) (v2:Bool):qe tt qiR (qdO N) (Tryz.f207.body.getD .skip) (qt tt true [qr,i4] [.cell 6 108,.tmp 7]) (qw [i25,i3,i4] 46 (v0,v1,v2,()))=qxX N v0 v1 v2:=by
 unfold Tryz.f207
 simp (maxSteps:=10000000) -implicitDefEqProofs [qBm,qlp,qD5,qnl,qEs,qn2,qAS,qoa,qyI,qoF,qDH,qx6,qDf,qEk,qCQ,qCS,qz8,qDD,qxY,qC3,qBV,qzo,qyn,qzQ,qa6,qbg,qbZ]
 rewrite [q3O (k0:=(fun (v13:List (Val (.int .i64)))=>bif (!((qG (v13,(IntKind.i64.wrap (v1.tdiv (1:Int))),v2)):Bool))then (some ((([]:List (Val (.int .i64))),(0:Int),false),false,()))else (some ((v13,(IntKind.i64.wrap (v1.tdiv (1:Int))),v2),true,())))) N _ _ _ _ _ _ _ ?_ ?_ ?_]
 rewrite [q3O (k0:=(fun (v4:List (Val (.int .i64)))=>bif (!((qG (v4,(IntKind.i64.wrap (v1.tdiv ((qS ((qa4 v0):Int) v1):Int))),v2)):Bool))then (some ((([]:List (Val (.int .i64))),(0:Int),false),false,()))else (some ((v4,(IntKind.i64.wrap (v1.tdiv ((qS ((qa4 v0):Int) v1):Int))),v2),true,())))) N _ _ _ _ _ _ _ ?_ ?_ ?_]
 ·rewrite [qxX];first | rfl | simp (maxSteps:=10000000) -implicitDefEqProofs []
 ·rfl
 ·intro;simp only [qJ,qL,qK,qB]
 ·intro v4;simp (maxSteps:=10000000) -implicitDefEqProofs [qBm,qlp,qD5,qnl,qEs,qn2,qAS,qoa,qyI,qoF,qDH,qx6,qDf,qEk,qCQ,qCS,qz8,qDD,qxY,qC3,qBV,qzo,qyn,qzQ,qa6,qbg,qbZ]
 ·rfl
 ·intro;simp only [qJ,qL,qK,qB]
 ·intro v13;simp (maxSteps:=10000000) -implicitDefEqProofs [qBm,qlp,qD5,qnl,qEs,qn2,qAS,qoa,qyI,qoF,qDH,qx6,qDf,qEk,qCQ,qCS,qz8,qDD,qxY,qC3,qBV,qzo,qyn,qzQ,qa6,qbg,qbZ]
def qbt:G:={ps:=[i25,i3,i4],rs:=[qr,i4],dp:=true,pre:=fun x=>qap x.1 x.2.1 x.2.2.1,fn:=fun x=>((qh x.1 x.2.1 x.2.2.1).1,(qh x.1 x.2.1 x.2.2.1).2,())}
def qbT:G:={ps:=[i25,i3,i4],rs:=[qr,i4],dp:=true,pre:=fun x=>qap x.1 x.2.1 x.2.2.1,fn:=fun x=>((qh x.1 x.2.1 x.2.2.1).1,(qh x.1 x.2.1 x.2.2.1).2,())}
theorem q6i (N:Nat) (co:List (Val (.int .i64))) (g:Nat) (hg1:(g:Int)≠0) (a:Int) (b:Bool) (c:Int) (s:Bool) (K:List (Val (.int .i64))→Option (qc [qr,i4])) (hl:co.length≤1048576) (hx: ∀x∈co,inI x) (n:Nat) (hn:co.length<n):
 qiF N co (g:Int) a b c s K n 0 []=K (List.map (α:=Int) (fun x=>x.tdiv (g:Int)) co):=by
 refine (qaP (F:=fun n i s'=>qiF N co (g:Int) a b c s K n i s') (step:=fun _ x (s:List (Val (.int .i64))) K=>chk (s.length+[IntKind.i64.wrap (Int.tdiv x (g:Int))].length≤1048576) (K (s++[IntKind.i64.wrap (Int.tdiv x (g:Int))]))) (k:=K) hl (fun n i s' hi=> ?_) (fun n i s' hi=> ?_) n _ hn).trans ((qMr (f:=fun x=>IntKind.i64.wrap (Int.tdiv x (g:Int))) (k:=K) co 0 [] (by simpa using hl)).trans ?_)
 ·rw [qiF,qk (by omega),qd (by omega),qd hg1,qF hi]
 ·rw [qiF,qj (by omega)]
 ·have e:List.map (fun x=>IntKind.i64.wrap (Int.tdiv x (g:Int))) co=List.map (α:=Int) (fun x=>x.tdiv (g:Int)) co:=List.map_congr_left fun x hx'=>qen (hx x hx')
  rw [List.nil_append,e]
theorem q8V (co:List (Val (.int .i64))) (k:Int) (s:Bool) (h:qap co k s): ∃N,qAC N co k s=some ((qh co k s).1,(qh co k s).2,()):=⟨co.length+1,by
 obtain ⟨hl,hk,hx⟩:=h
 have hg:max (1:Int) (qcy co k)=((max 1 (gL k.natAbs co):Nat):Int):=by unfold qcy;omega
 rw [qAC,qd (show qgs co k from ⟨hl,hk,hx⟩),hg,qd (by omega),qen hk]
 generalize hG:max 1 (gL k.natAbs co)=g
 have hg1:(g:Int)≠0:=by omega
 rw [q6i _ co g hg1 0 false _ s _ hl hx _ (Nat.lt_succ_self _)]
 exact qJB co k s g hG.symm⟩
theorem qzu:Sound Tryz.prog 149 qbt:=qx (tt:=tt) (Γ:=qmS) hT (qg qEg (qg qTv qu)) hm (fn:=Tryz.f149) Tryz.func149 (c:=Tryz.f149.body.getD .skip) (by kernel_rfl) (by kernel_rfl) fun x hx=>by
 obtain ⟨N,h⟩:=q8V x.1 x.2.1 x.2.2.1 hx
 exact ⟨qdI N,q9f,qy _,zav N,(zj6 N x.1 x.2.1 x.2.2.1).trans h⟩
theorem qZ3 (N:Nat) (co:List (Val (.int .i64))) (g:Nat) (hg1:(g:Int)≠0) (a:Int) (b:Bool) (c:Int) (s:Bool) (K:List (Val (.int .i64))→Option (qc [qr,i4])) (hl:co.length≤1048576) (hx: ∀x∈co,inI x) (n:Nat) (hn:co.length<n):
 qht N (g:Int) co co.length a b c s K n 0 (List.replicate co.length (qb (.int .i64)))=K (List.map (α:=Int) (fun x=>x.tdiv (g:Int)) co):=by
 have:=qmK (xs:=List.map (α:=Int) (fun x=>x.tdiv (g:Int)) co) (F:=fun n i s'=>qht N (g:Int) co co.length a b c s K n i s') (k:=K) (qb (.int .i64)) (by simpa using hl) (fun n i s' hi hs=> ?_) (fun n i s' hi=> ?_) n (by simpa using hn)
 ·simpa using this
 ·have hi:i<co.length:=by simpa using hi
  have hs:s'.length=co.length:=by simpa using hs
  rw [qht,qk (by omega),qd (by omega),qd hg1,qd (by omega),qd (by omega),qF hi,qen (hx _ (List.getElem_mem hi))]
  simp
 ·have hi:co.length≤i:=by simpa using hi
  rw [qht,qj (by omega)]
theorem zaf (co:List (Val (.int .i64))) (k:Int) (s:Bool) (h:qap co k s): ∃N,qxX N co k s=some ((qh co k s).1,(qh co k s).2,()):=⟨co.length+1,by
 obtain ⟨hl,hk,hx⟩:=h
 have eg:qS (qa4 co) k=((gL k.natAbs co:Nat):Int):=by
  unfold qS qa4
  rw [Int.natAbs_natCast,←qxA,Nat.gcd_zero_left]
 rw [qxX,qd (show qgp co from ⟨hl,hx⟩),qd (show qb5 (qa4 co) k from ⟨qXD co 0 (by omega) hx,hk⟩),eg,Int.toNat_natCast]
 by_cases h0:gL k.natAbs co=0
 ·rw [qk (by omega),qd (by decide),qd (qiq hl)]
  have e1:((1:Nat):Int)=1:=rfl
  have:=qen (g:=1) hk
  rw [e1]at this
  rw [this]
  have t:=qZ3 (co.length+1) co 1 (by decide) 0 false (k.tdiv 1) s (fun v=>bif !qG (v,k.tdiv 1,s)then some ((([]:List (Val (.int .i64))),(0:Int),false),false,())else some ((v,k.tdiv 1,s),true,())) hl hx _ (Nat.lt_succ_self _)
  rw [e1]at t
  rw [t]
  exact qJB co k s 1 (by omega)
 ·rw [qj (by omega),qd (by omega),qd (qiq hl),qen hk]
  rw [qZ3 (co.length+1) co (gL k.natAbs co) (by omega) 0 false _ s _ hl hx _ (Nat.lt_succ_self _)]
  exact qJB co k s _ (by omega)⟩
theorem qQU:Sound Tryz.prog 207 qbT:=qx (tt:=tt) (Γ:=qiR) hT (qg qxq (qg qxg (qg qAA qu))) hm (fn:=Tryz.f207) Tryz.func207 (c:=Tryz.f207.body.getD .skip) (by kernel_rfl) (by kernel_rfl) fun x hx=>by
 obtain ⟨N,h⟩:=zaf x.1 x.2.1 x.2.2.1 hx
 exact ⟨qdO N,zo7,qy _,q8C N,(zcc N x.1 x.2.1 x.2.2.1).trans h⟩
theorem qbv {a:Val qa} (h:qG a=true):(List.length (α:=Int) a.1≤4)∧inI a.2.1∧ ∀x∈(a.1:List Int), -400000000≤x∧x≤400000000:=by
 unfold qG at h
 simp only [Bool.and_eq_true,decide_eq_true_eq]at h
 obtain ⟨⟨⟨h1,h2⟩,h3⟩,_⟩:=h
 exact ⟨h1,qeo h2,fun x hx=>of_decide_eq_true (List.all_eq_true.1 h3 x hx)⟩
theorem qaJ {c:Val Y33} (h:qH c=true):(0≤(c.1:Int)∧(c.1:Int)≤4)∧List.length (α:=Val qa) c.2≤16∧ ∀a∈(c.2:List (Val qa)),qG a=true∧(List.length (α:=Val (.int .i64)) a.1:Int)=(c.1:Int):=by
 unfold qH at h
 simp only [Bool.and_eq_true,decide_eq_true_eq]at h
 obtain ⟨⟨h1,h2⟩,h3⟩:=h
 refine ⟨h1,by omega,fun a ha=> ?_⟩
 have:=List.all_eq_true.1 h3 a ha
 simp only [Bool.and_eq_true,decide_eq_true_eq]at this
 exact this
end Go.T
