/- Atoms of numbers; cells' bounds. -/
import Derived.Test.YthefcjjgchekiaaGreatA2
import Derived.Test.YthefcjjgchekiaaGreatA3
set_option linter.unusedSimpArgs false
set_option linter.unusedVariables false
namespace Go.T
open Go Go.Proofs
set_option maxHeartbeats 4000000
set_option maxRecDepth 100000
theorem qxz {ρ α β:Type} {f:α→β} {k:List β→Option ρ}: ∀(xs:List α) (i:Nat) (s:List β),s.length+xs.length≤1048576→qO (fun _ x (s:List β) K=>chk (s.length+[f x].length≤1048576) (K (s++[f x]))) i xs s k=k (s++xs.map f)
 | [],_,s,_=>by rw [qO];simp
 | x::xs,i,s,h=>by
   simp only [List.length_cons]at h
   rw [qO,qe (by simp;omega)];dsimp only;rw [qxz xs (i+1) _ (by simp;omega)]
   simp
theorem qhE {x:Int} {g:Nat} (h:inI x):IntKind.i64.wrap (x.tdiv (g:Int))=x.tdiv (g:Int):=by
 have:(x.tdiv (g:Int)).natAbs≤x.natAbs:=by
  rw [Int.natAbs_tdiv];exact Nat.div_le_self _ _
 unfold inI at h
 exact qaf (by omega) (by omega)
def quC (co:List (Val (.int .i64))) (k:Int) (s:Bool) (g:Nat):Val qa×Bool:=
 bif qA (List.map (α:=Int) (fun x=>x.tdiv (g:Int)) co,k.tdiv (g:Int),s)then ((List.map (α:=Int) (fun x=>x.tdiv (g:Int)) co,k.tdiv (g:Int),s),true)else (([],(0:Int),false),false)
def qh (co:List (Val (.int .i64))) (k:Int) (s:Bool):Val qa×Bool:=quC co k s (max 1 (gL k.natAbs co))
def qac (co:List (Val (.int .i64))) (k:Int) (_:Bool):Prop:=qgw co k
theorem qJC (co:List (Val (.int .i64))) (k:Int) (s:Bool) (g:Nat) (hg:g=max 1 (gL k.natAbs co)):(bif !qA (List.map (α:=Int) (fun x=>x.tdiv (g:Int)) co,k.tdiv (g:Int),s)then some ((([]:List (Val (.int .i64))),(0:Int),false),false,())else some ((List.map (α:=Int) (fun x=>x.tdiv (g:Int)) co,k.tdiv (g:Int),s),true,()))=some ((qh co k s).1,(qh co k s).2,()):=by
 rw [qh,←hg,quC,qaO]
 cases qA (List.map (α:=Int) (fun x=>x.tdiv (g:Int)) co,k.tdiv (g:Int),s)<;>rfl
noncomputable def qh0 (N:Nat) (v3:List (Val (.int .i64))) (v4:Int) (v6:Int) (v7:Bool) (v8:Int) (v9:Bool) (k0:(List (Val (.int .i64)))→Option (qb [qg,i4])):Nat→Int→(List (Val (.int .i64)))→Option (qb [qg,i4])
 | 0,_,_=>none
 | n+1,v5,v10=>bif (decide (v5<(v3.length:Int)))then (chk (0≤v5∧v5<(v3.length:Int)) (chk (v4≠0) (chk (v10.length+([(IntKind.i64.wrap (((v3.getD v5.toNat (qc (.int .i64))):Int).tdiv v4))]:List (Val (.int .i64))).length≤1048576) (qh0 N v3 v4 v6 v7 v8 v9 k0 n (IntKind.i64.wrap (v5+(1:Int))) (v10++([(IntKind.i64.wrap (((v3.getD v5.toNat (qc (.int .i64))):Int).tdiv v4))]:List (Val (.int .i64))))))))else (k0 v10)
noncomputable def qyt (N:Nat) (v0:List (Val (.int .i64))) (v1:Int) (v2:Bool):Option (qb [qg,i4]):=chk (qgw v0 v1) (chk ((max (1:Int) ((qb4 v0 v1):Int))≠0) (qh0 N v0 (max (1:Int) ((qb4 v0 v1):Int)) (0:Int) false (IntKind.i64.wrap (v1.tdiv (max (1:Int) ((qb4 v0 v1):Int)))) v2 (fun (v12:List (Val (.int .i64)))=>bif (!((qA (v12,(IntKind.i64.wrap (v1.tdiv (max (1:Int) ((qb4 v0 v1):Int)))),v2)):Bool))then (some ((([]:List (Val (.int .i64))),(0:Int),false),false,()))else (some ((v12,(IntKind.i64.wrap (v1.tdiv (max (1:Int) ((qb4 v0 v1):Int)))),v2),true,()))) N (0:Int) ([]:List (Val (.int .i64)))))
def qko:Gam:=[(193,qa7),(231,qcm)]
theorem qIi:Gam.get qko 193=some qa7:=rfl
theorem qFJ:Gam.get qko 231=some qcm:=rfl
def qtl:Nm:=⟨[true,false,false,false,false,false,true,false,true,true,true],[.box 9 0 3 (.int .i64)],false⟩
theorem qGV:qtl.zero=false:=rfl
theorem qLd:qtl.fix=[.box 9 0 3 (.int .i64)]:=rfl
theorem qO1:qtl.keep=[true,false,false,false,false,false,true,false,true,true,true]:=rfl
def qwA:Nm:=⟨[false,false,false,false,false,false,true,false,false,true],[],false⟩
theorem qKl:qwA.zero=false:=rfl
theorem qFN:qwA.fix=[]:=rfl
theorem qOf:qwA.keep=[false,false,false,false,false,false,true,false,false,true]:=rfl
def qys:Nm:=⟨[true,false,false,false,false,false,true,false,true,true,true],[],false⟩
theorem qI8:qys.zero=false:=rfl
theorem qCo:qys.fix=[]:=rfl
theorem qEs:qys.keep=[true,false,false,false,false,false,true,false,true,true,true]:=rfl
def qnt:Nat→Tree:=fun i=>if i=6 then .quiet 2 (.quiet 3 (.quiet 4 (.quiet 5 (.quiet 6 (.quiet 7 (.alt 0 (.alt 1 (.alt 8 (.alt 9 (.quiet 10 (.alt 11 .done .stop)) .stop) .stop) (.alt 8 (.quiet 1 (.alt 9 (.quiet 10 (.alt 11 .done .stop)) .stop)) .stop)) (.alt 8 (.quiet 0 (.quiet 1 (.alt 9 (.quiet 10 (.alt 11 .done .stop)) .stop))) .stop)))))))else .done
def qo6:Nat→Nm:=fun i=>if i=4 then qtl else ⟨[],[],false⟩
def qqe:Nat→Option Jn:=fun _=>none
def qsj:Nat→Option Nm:=fun i=>if i=0 then some qwA else none
def qpr:Nat→Option Nm:=fun i=>if i=6 then some qys else none
theorem qYg:qj qnt (Tryz.f149.body.getD .skip)=true:=by kernel_rfl
def qc1 (N:Nat):Tab:={tr:=qnt,lp:=qo6,ex:=qsj,rg:=qpr,jn:=qqe,fuel:=N}
theorem qHf (N:Nat):(qc1 N).pins=false:=rfl
theorem qW9 (N:Nat):qn Tryz.prog (qc1 N):=qr fun _=>rfl
theorem qLJ (N:Nat) (i:Nat):(qc1 N).tr i=qnt i:=rfl
theorem qL9 (N:Nat) (i:Nat):(qc1 N).lp i=qo6 i:=rfl
theorem qOD (N:Nat) (i:Nat):(qc1 N).ex i=qsj i:=rfl
theorem qPN (N:Nat) (i:Nat):(qc1 N).rg i=qpr i:=rfl
theorem qNY (N:Nat) (i:Nat):(qc1 N).jn i=qqe i:=rfl
theorem qJi (N:Nat):(qc1 N).fuel=N:=rfl
noncomputable def qRn:Code:=cut [true,true,true,false,true,true,true] (Tryz.f149.body.getD .skip)
theorem qV1 {N:Nat} {Q:X→St→Option (qb [qg,i4])} {e:List LV} {h:List Blk}:qd tt qko (qc1 N) qRn Q ⟨e,h⟩=qd tt qko (qc1 N) (cut [true,true,true,false,true,true,true] (Tryz.f149.body.getD .skip)) Q ⟨e,h⟩:=rfl
theorem zam (N:Nat) (v3:List (Val (.int .i64))) (v4:Int) (v6:Int) (v7:Bool) (v8:Int) (v9:Bool) {k0:(List (Val (.int .i64)))→Option (qb [qg,i4])} {Q:X→St→Option (qb [qg,i4])} {c:Code} (hc:c=qRn) (hret: ∀st,Q .ret st=qB tt true [qg,i4] [.cell 6 108,.tmp 7] st) (h0: ∀(v11:List (Val (.int .i64))),Q (.exit 0) ⟨[u,u,u,u,u,u,.one (.ptr 0 0 0),u,u,.one (.ptr 1 0 0),u,u,u,u,u,u,u,u,u,u,u,u,u,u,u,u,u,u,u,u,u,u,u,u,u,u,u,u,u,u,u,u],[.box [.nils,.int .i64 v6,.bool v7],.box [.own 2,.int .i64 v8,.bool v9],.row 3 (.int .i64) v11 true true 0]⟩=k0 v11): ∀(n:Nat) (v5:Int) (v10:List (Val (.int .i64))),qC (qd tt qko (qc1 N) c) false qtl Q n ⟨[.one (.sl 3 (.int .i64) v3 3),u,u,u,u,u,.one (.ptr 0 0 0),u,.one (.int .i64 v4),.one (.ptr 1 0 0),.one (.int .i64 v5),u,u,u,u,u,u,u,u,u,u,u,u,u,u,u,u,u,u,u,u,u,u,u,u,u,u,u,u,u,u,u],[.box [.nils,.int .i64 v6,.bool v7],.box [.own 2,.int .i64 v8,.bool v9],.row 3 (.int .i64) v10 true true 0]⟩=qh0 N v3 v4 v6 v7 v8 v9 k0 n v5 v10:=by
 subst hc;intro n;induction n with
 | zero=>intros;rfl
 | succ n ih=>
   intro v5 v10
   rw [qL,qV1,qh0];unfold Tryz.f149
   simp (maxSteps:=10000000) -implicitDefEqProofs [qLJ,qnt,qL9,qo6,qOD,qsj,qPN,qpr,qNY,qqe,qJi,qHf,qLd,qO1,qGV,qFN,qOf,qKl,qCo,qEs,qI8,qIi,qFJ,qa7,qcm,hret,h0,ih]
theorem zco (N:Nat) (v0:List (Val (.int .i64))) (v1:Int) (v2:Bool):qd tt qko (qc1 N) (Tryz.f149.body.getD .skip) (qo tt true [qg,i4] [.cell 6 108,.tmp 7]) (qt [i25,i3,i4] 42 (v0,v1,v2,()))=qyt N v0 v1 v2:=by
 unfold Tryz.f149
 simp (maxSteps:=10000000) -implicitDefEqProofs [qLJ,qnt,qL9,qo6,qOD,qsj,qPN,qpr,qNY,qqe,qJi,qHf,qLd,qO1,qGV,qFN,qOf,qKl,qCo,qEs,qI8,qIi,qFJ,qa7,qcm]
 rewrite [zam (k0:=(fun (v12:List (Val (.int .i64)))=>bif (!((qA (v12,(IntKind.i64.wrap (v1.tdiv (max (1:Int) ((qb4 v0 v1):Int)))),v2)):Bool))then (some ((([]:List (Val (.int .i64))),(0:Int),false),false,()))else (some ((v12,(IntKind.i64.wrap (v1.tdiv (max (1:Int) ((qb4 v0 v1):Int)))),v2),true,())))) N _ _ _ _ _ _ ?_ ?_ ?_]
 ·rewrite [qyt];first | rfl | simp (maxSteps:=10000000) -implicitDefEqProofs []
 ·rfl
 ·intro;simp only [qK,qI,qJ,qy]
 ·intro v12;simp (maxSteps:=10000000) -implicitDefEqProofs [qLJ,qnt,qL9,qo6,qOD,qsj,qPN,qpr,qNY,qqe,qJi,qHf,qLd,qO1,qGV,qFN,qOf,qKl,qCo,qEs,qI8,qIi,qFJ,qa7,qcm]
noncomputable def qg7 (N:Nat) (v3:Int) (v4:List (Val (.int .i64))) (v5:Int) (v7:Int) (v8:Bool) (v9:Int) (v10:Bool) (k0:(List (Val (.int .i64)))→Option (qb [qg,i4])):Nat→Int→(List (Val (.int .i64)))→Option (qb [qg,i4])
 | 0,_,_=>none
 | n+1,v6,v11=>bif (decide (v6<v5))then (chk (0≤v6∧v6<(v4.length:Int)) (chk (v3≠0) (chk (0≤v6∧v6<(v11.length:Int)) (chk (v6.toNat<v11.length) (qg7 N v3 v4 v5 v7 v8 v9 v10 k0 n (IntKind.i64.wrap (v6+(1:Int))) (v11.set v6.toNat (IntKind.i64.wrap (((v4.getD v6.toNat (qc (.int .i64))):Int).tdiv v3))))))))else (k0 v11)
noncomputable def qu1 (N:Nat) (v0:List (Val (.int .i64))) (v1:Int) (v2:Bool):Option (qb [qg,i4]):=chk (qfF v0) (chk (qdb ((qaF v0):Int) v1) (bif (decide (((qaS ((qaF v0):Int) v1):Int)=(0:Int)))then (chk ((1:Int)≠0) (chk (0≤(v0.length:Int)∧(v0.length:Int)≤(v0.length:Int)∧(v0.length:Int)≤1048576) (qg7 N (1:Int) v0 (v0.length:Int) (0:Int) false (IntKind.i64.wrap (v1.tdiv (1:Int))) v2 (fun (v13:List (Val (.int .i64)))=>bif (!((qA (v13,(IntKind.i64.wrap (v1.tdiv (1:Int))),v2)):Bool))then (some ((([]:List (Val (.int .i64))),(0:Int),false),false,()))else (some ((v13,(IntKind.i64.wrap (v1.tdiv (1:Int))),v2),true,()))) N (0:Int) (List.replicate (v0.length:Int).toNat (qc (.int .i64))))))else (chk (((qaS ((qaF v0):Int) v1):Int)≠0) (chk (0≤(v0.length:Int)∧(v0.length:Int)≤(v0.length:Int)∧(v0.length:Int)≤1048576) (qg7 N ((qaS ((qaF v0):Int) v1):Int) v0 (v0.length:Int) (0:Int) false (IntKind.i64.wrap (v1.tdiv ((qaS ((qaF v0):Int) v1):Int))) v2 (fun (v4:List (Val (.int .i64)))=>bif (!((qA (v4,(IntKind.i64.wrap (v1.tdiv ((qaS ((qaF v0):Int) v1):Int))),v2)):Bool))then (some ((([]:List (Val (.int .i64))),(0:Int),false),false,()))else (some ((v4,(IntKind.i64.wrap (v1.tdiv ((qaS ((qaF v0):Int) v1):Int))),v2),true,()))) N (0:Int) (List.replicate (v0.length:Int).toNat (qc (.int .i64))))))))
def qhU:Gam:=[(279,qaA),(280,qba),(282,qbn)]
theorem qxR:Gam.get qhU 279=some qaA:=rfl
theorem qxN:Gam.get qhU 280=some qba:=rfl
theorem qwd:Gam.get qhU 282=some qbn:=rfl
def qtr:Nm:=⟨[false,false,false,false,false,false,true,false,true,true,false,false,false,false,false,false,false,false,false,false,false,false,false,false,false,false,true,true,true],[],false⟩
theorem qBs:qtr.zero=false:=rfl
theorem qwi:qtr.fix=[]:=rfl
theorem qyM:qtr.keep=[false,false,false,false,false,false,true,false,true,true,false,false,false,false,false,false,false,false,false,false,false,false,false,false,false,false,true,true,true]:=rfl
def qvv:Nm:=⟨[false,false,false,false,false,false,true,false,false,true],[],false⟩
theorem qvm:qvv.zero=false:=rfl
theorem qyz:qvv.fix=[]:=rfl
theorem qxJ:qvv.keep=[false,false,false,false,false,false,true,false,false,true]:=rfl
def qBm:Nm:=⟨[true,false,false,false,false,false,true,false,true,true],[],false⟩
theorem qA5:qBm.zero=false:=rfl
theorem qyg:qBm.fix=[]:=rfl
theorem qwf:qBm.keep=[true,false,false,false,false,false,true,false,true,true]:=rfl
def qj5:Nat→Tree:=fun i=>if i=4 then .first 0 (.first 3 (.first 4 (.first 5 (.first 6 (.grow 1 (.alt 2 (.first 7 (.alt 8 (.alt 9 .done .stop) .stop)) (.alt 8 (.alt 2 (.quiet 7 (.alt 9 .done .stop)) .stop) .stop)))))))else if i=8 then .quiet 0 (.quiet 1 (.quiet 2 (.quiet 3 (.quiet 4 (.quiet 5 (.quiet 6 (.alt 7 .done .stop)))))))else .done
def ql0:Nat→Nm:=fun i=>if i=6 then qtr else ⟨[],[],false⟩
def qmR:Nat→Option Jn:=fun _=>none
def qmv:Nat→Option Nm:=fun i=>if i=0 then some qvv else none
def qnK:Nat→Option Nm:=fun i=>if i=4 then some qBm else none
theorem qVg:qj qj5 (Tryz.f207.body.getD .skip)=true:=by kernel_rfl
def qc3 (N:Nat):Tab:={tr:=qj5,lp:=ql0,ex:=qmv,rg:=qnK,jn:=qmR,fuel:=N}
theorem qyy (N:Nat):(qc3 N).pins=false:=rfl
theorem q2Y (N:Nat):qn Tryz.prog (qc3 N):=qr fun _=>rfl
theorem qzb (N:Nat) (i:Nat):(qc3 N).tr i=qj5 i:=rfl
theorem qza (N:Nat) (i:Nat):(qc3 N).lp i=ql0 i:=rfl
theorem qwG (N:Nat) (i:Nat):(qc3 N).ex i=qmv i:=rfl
theorem qy8 (N:Nat) (i:Nat):(qc3 N).rg i=qnK i:=rfl
theorem qzw (N:Nat) (i:Nat):(qc3 N).jn i=qmR i:=rfl
theorem qxQ (N:Nat):(qc3 N).fuel=N:=rfl
noncomputable def qTw:Code:=cut [true,true,true,true,false,true,true,true] (Tryz.f207.body.getD .skip)
theorem za0 {N:Nat} {Q:X→St→Option (qb [qg,i4])} {e:List LV} {h:List Blk}:qd tt qhU (qc3 N) qTw Q ⟨e,h⟩=qd tt qhU (qc3 N) (cut [true,true,true,true,false,true,true,true] (Tryz.f207.body.getD .skip)) Q ⟨e,h⟩:=rfl
theorem qQU (N:Nat) (v3:Int) (v4:List (Val (.int .i64))) (v5:Int) (v7:Int) (v8:Bool) (v9:Int) (v10:Bool) {k0:(List (Val (.int .i64)))→Option (qb [qg,i4])} {Q:X→St→Option (qb [qg,i4])} {c:Code} (hc:c=qTw) (hret: ∀st,Q .ret st=qB tt true [qg,i4] [.cell 6 108,.tmp 7] st) (h0: ∀(v12:List (Val (.int .i64))),Q (.exit 0) ⟨[u,u,u,u,u,u,.one (.ptr 0 0 0),u,u,.one (.ptr 1 0 0),u,u,u,u,u,u,u,u,u,u,u,u,u,u,u,u,u,u,u,u,u,u,u,u,u,u,u,u,u,u,u,u,u,u,u,u],[.box [.nils,.int .i64 v7,.bool v8],.box [.own 2,.int .i64 v9,.bool v10],.row 3 (.int .i64) v12 true true 0]⟩=k0 v12): ∀(n:Nat) (v6:Int) (v11:List (Val (.int .i64))),qC (qd tt qhU (qc3 N) c) false qtr Q n ⟨[u,u,u,u,u,u,.one (.ptr 0 0 0),u,.one (.int .i64 v3),.one (.ptr 1 0 0),u,u,u,u,u,u,u,u,u,u,u,u,u,u,u,u,.one (.sl 3 (.int .i64) v4 3),.one (.int .i64 v5),.one (.int .i64 v6),u,u,u,u,u,u,u,u,u,u,u,u,u,u,u,u,u],[.box [.nils,.int .i64 v7,.bool v8],.box [.own 2,.int .i64 v9,.bool v10],.row 3 (.int .i64) v11 true true 0]⟩=qg7 N v3 v4 v5 v7 v8 v9 v10 k0 n v6 v11:=by
 subst hc;intro n;induction n with
 | zero=>intros;rfl
 | succ n ih=>
   intro v6 v11
   rw [qL,za0,qg7];unfold Tryz.f207
   simp (maxSteps:=10000000) -implicitDefEqProofs [qzb,qj5,qza,ql0,qwG,qmv,qy8,qnK,qzw,qmR,qxQ,qyy,qwi,qyM,qBs,qyz,qxJ,qvm,qyg,qwf,qA5,qxR,qxN,qwd,qaA,qba,qbn,hret,h0,ih]
theorem zcX (N:Nat) (v0:List (Val (.int .i64))) (v1:Int) (v2:Bool):qd tt qhU (qc3 N) (Tryz.f207.body.getD .skip) (qo tt true [qg,i4] [.cell 6 108,.tmp 7]) (qt [i25,i3,i4] 46 (v0,v1,v2,()))=qu1 N v0 v1 v2:=by
 unfold Tryz.f207
 simp (maxSteps:=10000000) -implicitDefEqProofs [qzb,qj5,qza,ql0,qwG,qmv,qy8,qnK,qzw,qmR,qxQ,qyy,qwi,qyM,qBs,qyz,qxJ,qvm,qyg,qwf,qA5,qxR,qxN,qwd,qaA,qba,qbn]
 rewrite [qQU (k0:=(fun (v13:List (Val (.int .i64)))=>bif (!((qA (v13,(IntKind.i64.wrap (v1.tdiv (1:Int))),v2)):Bool))then (some ((([]:List (Val (.int .i64))),(0:Int),false),false,()))else (some ((v13,(IntKind.i64.wrap (v1.tdiv (1:Int))),v2),true,())))) N _ _ _ _ _ _ _ ?_ ?_ ?_]
 rewrite [qQU (k0:=(fun (v4:List (Val (.int .i64)))=>bif (!((qA (v4,(IntKind.i64.wrap (v1.tdiv ((qaS ((qaF v0):Int) v1):Int))),v2)):Bool))then (some ((([]:List (Val (.int .i64))),(0:Int),false),false,()))else (some ((v4,(IntKind.i64.wrap (v1.tdiv ((qaS ((qaF v0):Int) v1):Int))),v2),true,())))) N _ _ _ _ _ _ _ ?_ ?_ ?_]
 ·rewrite [qu1];first | rfl | simp (maxSteps:=10000000) -implicitDefEqProofs []
 ·rfl
 ·intro;simp only [qK,qI,qJ,qy]
 ·intro v4;simp (maxSteps:=10000000) -implicitDefEqProofs [qzb,qj5,qza,ql0,qwG,qmv,qy8,qnK,qzw,qmR,qxQ,qyy,qwi,qyM,qBs,qyz,qxJ,qvm,qyg,qwf,qA5,qxR,qxN,qwd,qaA,qba,qbn]
 ·rfl
 ·intro;simp only [qK,qI,qJ,qy]
 ·intro v13;simp (maxSteps:=10000000) -implicitDefEqProofs [qzb,qj5,qza,ql0,qwG,qmv,qy8,qnK,qzw,qmR,qxQ,qyy,qwi,qyM,qBs,qyz,qxJ,qvm,qyg,qwf,qA5,qxR,qxN,qwd,qaA,qba,qbn]
def qaZ:G:={ps:=[i25,i3,i4],rs:=[qg,i4],dp:=true,pre:=fun x=>qac x.1 x.2.1 x.2.2.1,fn:=fun x=>((qh x.1 x.2.1 x.2.2.1).1,(qh x.1 x.2.1 x.2.2.1).2,())}
def qbk:G:={ps:=[i25,i3,i4],rs:=[qg,i4],dp:=true,pre:=fun x=>qac x.1 x.2.1 x.2.2.1,fn:=fun x=>((qh x.1 x.2.1 x.2.2.1).1,(qh x.1 x.2.1 x.2.2.1).2,())}
theorem zbc (N:Nat) (co:List (Val (.int .i64))) (g:Nat) (hg1:(g:Int)≠0) (a:Int) (b:Bool) (c:Int) (s:Bool) (K:List (Val (.int .i64))→Option (qb [qg,i4])) (hl:co.length≤1048576) (hx: ∀x∈co,inI x) (n:Nat) (hn:co.length<n):
 qh0 N co (g:Int) a b c s K n 0 []=K (List.map (α:=Int) (fun x=>x.tdiv (g:Int)) co):=by
 refine (qaj (F:=fun n i s'=>qh0 N co (g:Int) a b c s K n i s') (step:=fun _ x (s:List (Val (.int .i64))) K=>chk (s.length+[IntKind.i64.wrap (Int.tdiv x (g:Int))].length≤1048576) (K (s++[IntKind.i64.wrap (Int.tdiv x (g:Int))]))) (k:=K) hl (fun n i s' hi=> ?_) (fun n i s' hi=> ?_) n _ hn).trans ((qxz (f:=fun x=>IntKind.i64.wrap (Int.tdiv x (g:Int))) (k:=K) co 0 [] (by simpa using hl)).trans ?_)
 ·rw [qh0,ql (by omega),qe (by omega),qe hg1,qH hi]
 ·rw [qh0,qi (by omega)]
 ·have e:List.map (fun x=>IntKind.i64.wrap (Int.tdiv x (g:Int))) co=List.map (α:=Int) (fun x=>x.tdiv (g:Int)) co:=List.map_congr_left fun x hx'=>qhE (hx x hx')
  rw [List.nil_append,e]
theorem qVj (co:List (Val (.int .i64))) (k:Int) (s:Bool) (h:qac co k s): ∃N,qyt N co k s=some ((qh co k s).1,(qh co k s).2,()):=⟨co.length+1,by
 obtain ⟨hl,hk,hx⟩:=h
 have hg:max (1:Int) (qb4 co k)=((max 1 (gL k.natAbs co):Nat):Int):=by unfold qb4;omega
 rw [qyt,qe (show qgw co k from ⟨hl,hk,hx⟩),hg,qe (by omega),qhE hk]
 generalize hG:max 1 (gL k.natAbs co)=g
 have hg1:(g:Int)≠0:=by omega
 rw [zbc _ co g hg1 0 false _ s _ hl hx _ (Nat.lt_succ_self _)]
 exact qJC co k s g hG.symm⟩
theorem qRh:Sound Tryz.prog 149 qaZ:=qu (tt:=tt) (Γ:=qko) hT (qf qAN (qf qMZ qq)) hm (fn:=Tryz.f149) Tryz.func149 (c:=Tryz.f149.body.getD .skip) (by kernel_rfl) (by kernel_rfl) fun x hx=>by
 obtain ⟨N,h⟩:=qVj x.1 x.2.1 x.2.2.1 hx
 exact ⟨qc1 N,qYg,qv _,qW9 N,(zco N x.1 x.2.1 x.2.2.1).trans h⟩
theorem qS4 (N:Nat) (co:List (Val (.int .i64))) (g:Nat) (hg1:(g:Int)≠0) (a:Int) (b:Bool) (c:Int) (s:Bool) (K:List (Val (.int .i64))→Option (qb [qg,i4])) (hl:co.length≤1048576) (hx: ∀x∈co,inI x) (n:Nat) (hn:co.length<n):
 qg7 N (g:Int) co co.length a b c s K n 0 (List.replicate co.length (qc (.int .i64)))=K (List.map (α:=Int) (fun x=>x.tdiv (g:Int)) co):=by
 have:=qnM (xs:=List.map (α:=Int) (fun x=>x.tdiv (g:Int)) co) (F:=fun n i s'=>qg7 N (g:Int) co co.length a b c s K n i s') (k:=K) (qc (.int .i64)) (by simpa using hl) (fun n i s' hi hs=> ?_) (fun n i s' hi=> ?_) n (by simpa using hn)
 ·simpa using this
 ·have hi:i<co.length:=by simpa using hi
  have hs:s'.length=co.length:=by simpa using hs
  rw [qg7,ql (by omega),qe (by omega),qe hg1,qe (by omega),qe (by omega),qH hi,qhE (hx _ (List.getElem_mem hi))]
  simp
 ·have hi:co.length≤i:=by simpa using hi
  rw [qg7,qi (by omega)]
theorem q5f (co:List (Val (.int .i64))) (k:Int) (s:Bool) (h:qac co k s): ∃N,qu1 N co k s=some ((qh co k s).1,(qh co k s).2,()):=⟨co.length+1,by
 obtain ⟨hl,hk,hx⟩:=h
 have eg:qaS (qaF co) k=((gL k.natAbs co:Nat):Int):=by
  unfold qaS qaF
  rw [Int.natAbs_natCast,←qAE,Nat.gcd_zero_left]
 rw [qu1,qe (show qfF co from ⟨hl,hx⟩),qe (show qdb (qaF co) k from ⟨qCD co 0 (by omega) hx,hk⟩),eg,Int.toNat_natCast]
 by_cases h0:gL k.natAbs co=0
 ·rw [ql (by omega),qe (by decide),qe (qi1 hl)]
  have e1:((1:Nat):Int)=1:=rfl
  have:=qhE (g:=1) hk
  rw [e1]at this
  rw [this]
  have t:=qS4 (co.length+1) co 1 (by decide) 0 false (k.tdiv 1) s (fun v=>bif !qA (v,k.tdiv 1,s)then some ((([]:List (Val (.int .i64))),(0:Int),false),false,())else some ((v,k.tdiv 1,s),true,())) hl hx _ (Nat.lt_succ_self _)
  rw [e1]at t
  rw [t]
  exact qJC co k s 1 (by omega)
 ·rw [qi (by omega),qe (by omega),qe (qi1 hl),qhE hk]
  rw [qS4 (co.length+1) co (gL k.natAbs co) (by omega) 0 false _ s _ hl hx _ (Nat.lt_succ_self _)]
  exact qJC co k s _ (by omega)⟩
theorem qTe:Sound Tryz.prog 207 qbk:=qu (tt:=tt) (Γ:=qhU) hT (qf qrQ (qf qyH (qf qAr qq))) hm (fn:=Tryz.f207) Tryz.func207 (c:=Tryz.f207.body.getD .skip) (by kernel_rfl) (by kernel_rfl) fun x hx=>by
 obtain ⟨N,h⟩:=q5f x.1 x.2.1 x.2.2.1 hx
 exact ⟨qc3 N,qVg,qv _,q2Y N,(zcX N x.1 x.2.1 x.2.2.1).trans h⟩
theorem qaN {a:Val qa} (h:qA a=true):(List.length (α:=Int) a.1≤4)∧inI a.2.1∧ ∀x∈(a.1:List Int), -400000000≤x∧x≤400000000:=by
 unfold qA at h
 simp only [Bool.and_eq_true,decide_eq_true_eq]at h
 obtain ⟨⟨⟨h1,h2⟩,h3⟩,_⟩:=h
 exact ⟨h1,qhd h2,fun x hx=>of_decide_eq_true (List.all_eq_true.1 h3 x hx)⟩
theorem qaD {c:Val Y33} (h:qD c=true):(0≤(c.1:Int)∧(c.1:Int)≤4)∧List.length (α:=Val qa) c.2≤16∧ ∀a∈(c.2:List (Val qa)),qA a=true∧(List.length (α:=Val (.int .i64)) a.1:Int)=(c.1:Int):=by
 unfold qD at h
 simp only [Bool.and_eq_true,decide_eq_true_eq]at h
 obtain ⟨⟨h1,h2⟩,h3⟩:=h
 refine ⟨h1,by omega,fun a ha=> ?_⟩
 have:=List.all_eq_true.1 h3 a ha
 simp only [Bool.and_eq_true,decide_eq_true_eq]at this
 exact this
end Go.T
