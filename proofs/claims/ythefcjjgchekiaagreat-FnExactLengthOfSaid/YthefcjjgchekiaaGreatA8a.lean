/- Atoms of numbers; cells' bounds. -/
import Derived.Test.YthefcjjgchekiaaGreatA2
import Derived.Test.YthefcjjgchekiaaGreatA3
set_option linter.unusedSimpArgs false
set_option linter.unusedVariables false
namespace Go.T
open Go Go.Proofs
set_option maxHeartbeats 4000000
set_option maxRecDepth 100000
theorem qzS {ρ α β:Type} {f:α→β} {k:List β→Option ρ}: ∀(xs:List α) (i:Nat) (s:List β),s.length+xs.length≤1048576→qad (fun _ x (s:List β) K=>chk (s.length+[f x].length≤1048576) (K (s++[f x]))) i xs s k=k (s++xs.map f)
 | [],_,s,_=>by rw [qad];simp
 | x::xs,i,s,h=>by
   simp only [List.length_cons]at h
   rw [qad,qe (by simp;omega)];dsimp only;rw [qzS xs (i+1) _ (by simp;omega)]
   simp
theorem qeB {x:Int} {g:Nat} (h:inI x):IntKind.i64.wrap (x.tdiv (g:Int))=x.tdiv (g:Int):=by
 have:(x.tdiv (g:Int)).natAbs≤x.natAbs:=by
  rw [Int.natAbs_tdiv];exact Nat.div_le_self _ _
 unfold inI at h
 exact qaC (by omega) (by omega)
def qXN (co:List (Val (.int .i64))) (k:Int) (s:Bool) (g:Nat):Val qa×Bool:=
 bif qP (List.map (α:=Int) (fun x=>x.tdiv (g:Int)) co,k.tdiv (g:Int),s)then ((List.map (α:=Int) (fun x=>x.tdiv (g:Int)) co,k.tdiv (g:Int),s),true)else (([],(0:Int),false),false)
def qw (co:List (Val (.int .i64))) (k:Int) (s:Bool):Val qa×Bool:=qXN co k s (max 1 (gL k.natAbs co))
def qaS (co:List (Val (.int .i64))) (k:Int) (_:Bool):Prop:=qfC co k
theorem qYT (co:List (Val (.int .i64))) (k:Int) (s:Bool) (g:Nat) (hg:g=max 1 (gL k.natAbs co)):(bif !qP (List.map (α:=Int) (fun x=>x.tdiv (g:Int)) co,k.tdiv (g:Int),s)then some ((([]:List (Val (.int .i64))),(0:Int),false),false,())else some ((List.map (α:=Int) (fun x=>x.tdiv (g:Int)) co,k.tdiv (g:Int),s),true,()))=some ((qw co k s).1,(qw co k s).2,()):=by
 rw [qw,←hg,qXN,qbi]
 cases qP (List.map (α:=Int) (fun x=>x.tdiv (g:Int)) co,k.tdiv (g:Int),s)<;>rfl
noncomputable def qiC (N:Nat) (v3:List (Val (.int .i64))) (v4:Int) (v6:Int) (v7:Bool) (v8:Int) (v9:Bool) (k0:(List (Val (.int .i64)))→Option (qc [ql,i4])):Nat→Int→(List (Val (.int .i64)))→Option (qc [ql,i4])
 | 0,_,_=>none
 | n+1,v5,v10=>bif (decide (v5<(v3.length:Int)))then (chk (0≤v5∧v5<(v3.length:Int)) (chk (v4≠0) (chk (v10.length+([(IntKind.i64.wrap (((v3.getD v5.toNat (qb (.int .i64))):Int).tdiv v4))]:List (Val (.int .i64))).length≤1048576) (qiC N v3 v4 v6 v7 v8 v9 k0 n (IntKind.i64.wrap (v5+(1:Int))) (v10++([(IntKind.i64.wrap (((v3.getD v5.toNat (qb (.int .i64))):Int).tdiv v4))]:List (Val (.int .i64))))))))else (k0 v10)
noncomputable def qAT (N:Nat) (v0:List (Val (.int .i64))) (v1:Int) (v2:Bool):Option (qc [ql,i4]):=chk (qfC v0 v1) (chk ((max (1:Int) ((qcI v0 v1):Int))≠0) (qiC N v0 (max (1:Int) ((qcI v0 v1):Int)) (0:Int) false (IntKind.i64.wrap (v1.tdiv (max (1:Int) ((qcI v0 v1):Int)))) v2 (fun (v12:List (Val (.int .i64)))=>bif (!((qP (v12,(IntKind.i64.wrap (v1.tdiv (max (1:Int) ((qcI v0 v1):Int)))),v2)):Bool))then (some ((([]:List (Val (.int .i64))),(0:Int),false),false,()))else (some ((v12,(IntKind.i64.wrap (v1.tdiv (max (1:Int) ((qcI v0 v1):Int)))),v2),true,()))) N (0:Int) ([]:List (Val (.int .i64)))))
def qmq:Gam:=[(193,qa9),(231,qc0)]
theorem qYb:Gam.get qmq 193=some qa9:=rfl
theorem qHI:Gam.get qmq 231=some qc0:=rfl
def qs0:Nm:=⟨[true,false,false,false,false,false,true,false,true,true,true],[.box 9 0 3 (.int .i64)],false⟩
theorem qVt:qs0.zero=false:=rfl
theorem q2B:qs0.fix=[.box 9 0 3 (.int .i64)]:=rfl
theorem qKp:qs0.keep=[true,false,false,false,false,false,true,false,true,true,true]:=rfl
def qA8:Nm:=⟨[false,false,false,false,false,false,true,false,false,true],[],false⟩
theorem qJG:qA8.zero=false:=rfl
theorem qTJ:qA8.fix=[]:=rfl
theorem qI5:qA8.keep=[false,false,false,false,false,false,true,false,false,true]:=rfl
def qFg:Nm:=⟨[true,false,false,false,false,false,true,false,true,true,true],[],false⟩
theorem qMs:qFg.zero=false:=rfl
theorem qN3:qFg.fix=[]:=rfl
theorem qXM:qFg.keep=[true,false,false,false,false,false,true,false,true,true,true]:=rfl
def qpu:Nat→Tree:=fun i=>if i=6 then .quiet 2 (.quiet 3 (.quiet 4 (.quiet 5 (.quiet 6 (.quiet 7 (.alt 0 (.alt 1 (.alt 8 (.alt 9 (.quiet 10 (.alt 11 .done .stop)) .stop) .stop) (.alt 8 (.quiet 1 (.alt 9 (.quiet 10 (.alt 11 .done .stop)) .stop)) .stop)) (.alt 8 (.quiet 0 (.quiet 1 (.alt 9 (.quiet 10 (.alt 11 .done .stop)) .stop))) .stop)))))))else .done
def qxC:Nat→Nm:=fun i=>if i=4 then qs0 else ⟨[],[],false⟩
def qt4:Nat→Option Jn:=fun _=>none
def qso:Nat→Option Nm:=fun i=>if i=0 then some qA8 else none
def qrY:Nat→Option Nm:=fun i=>if i=6 then some qFg else none
theorem zxo:qh qpu (Tryz.f149.body.getD .skip)=true:=by kernel_rfl
def qea (N:Nat):Tab:={tr:=qpu,lp:=qxC,ex:=qso,rg:=qrY,jn:=qt4,fuel:=N}
theorem q2u (N:Nat):(qea N).pins=false:=rfl
theorem zro (N:Nat):qk Tryz.prog (qea N):=qo fun _=>rfl
theorem qQf (N:Nat) (i:Nat):(qea N).tr i=qpu i:=rfl
theorem qJi (N:Nat) (i:Nat):(qea N).lp i=qxC i:=rfl
theorem qTb (N:Nat) (i:Nat):(qea N).ex i=qso i:=rfl
theorem qXV (N:Nat) (i:Nat):(qea N).rg i=qrY i:=rfl
theorem qIF (N:Nat) (i:Nat):(qea N).jn i=qt4 i:=rfl
theorem qRO (N:Nat):(qea N).fuel=N:=rfl
noncomputable def q8r:Code:=cut [true,true,true,false,true,true,true] (Tryz.f149.body.getD .skip)
theorem zAu {N:Nat} {Q:X→St→Option (qc [ql,i4])} {e:List LV} {h:List Blk}:qf tt qmq (qea N) q8r Q ⟨e,h⟩=qf tt qmq (qea N) (cut [true,true,true,false,true,true,true] (Tryz.f149.body.getD .skip)) Q ⟨e,h⟩:=rfl
theorem zn6 (N:Nat) (v3:List (Val (.int .i64))) (v4:Int) (v6:Int) (v7:Bool) (v8:Int) (v9:Bool) {k0:(List (Val (.int .i64)))→Option (qc [ql,i4])} {Q:X→St→Option (qc [ql,i4])} {c:Code} (hc:c=q8r) (hret: ∀st,Q .ret st=qC tt true [ql,i4] [.cell 6 108,.tmp 7] st) (h0: ∀(v11:List (Val (.int .i64))),Q (.exit 0) ⟨[u,u,u,u,u,u,.one (.ptr 0 0 0),u,u,.one (.ptr 1 0 0),u,u,u,u,u,u,u,u,u,u,u,u,u,u,u,u,u,u,u,u,u,u,u,u,u,u,u,u,u,u,u,u],[.box [.nils,.int .i64 v6,.bool v7],.box [.own 2,.int .i64 v8,.bool v9],.row 3 (.int .i64) v11 true true 0]⟩=k0 v11): ∀(n:Nat) (v5:Int) (v10:List (Val (.int .i64))),qD (qf tt qmq (qea N) c) false qs0 Q n ⟨[.one (.sl 3 (.int .i64) v3 3),u,u,u,u,u,.one (.ptr 0 0 0),u,.one (.int .i64 v4),.one (.ptr 1 0 0),.one (.int .i64 v5),u,u,u,u,u,u,u,u,u,u,u,u,u,u,u,u,u,u,u,u,u,u,u,u,u,u,u,u,u,u,u],[.box [.nils,.int .i64 v6,.bool v7],.box [.own 2,.int .i64 v8,.bool v9],.row 3 (.int .i64) v10 true true 0]⟩=qiC N v3 v4 v6 v7 v8 v9 k0 n v5 v10:=by
 subst hc;intro n;induction n with
 | zero=>intros;rfl
 | succ n ih=>
   intro v5 v10
   rw [qN,zAu,qiC];unfold Tryz.f149
   simp (maxSteps:=10000000) -implicitDefEqProofs [qQf,qpu,qJi,qxC,qTb,qso,qXV,qrY,qIF,qt4,qRO,q2u,q2B,qKp,qVt,qTJ,qI5,qJG,qN3,qXM,qMs,qYb,qHI,qa9,qc0,hret,h0,ih]
theorem zyR (N:Nat) (v0:List (Val (.int .i64))) (v1:Int) (v2:Bool):qf tt qmq (qea N) (Tryz.f149.body.getD .skip) (qm tt true [ql,i4] [.cell 6 108,.tmp 7]) (qp [i25,i3,i4] 42 (v0,v1,v2,()))=qAT N v0 v1 v2:=by
 unfold Tryz.f149
 simp (maxSteps:=10000000) -implicitDefEqProofs [qQf,qpu,qJi,qxC,qTb,qso,qXV,qrY,qIF,qt4,qRO,q2u,q2B,qKp,qVt,qTJ,qI5,qJG,qN3,qXM,qMs,qYb,qHI,qa9,qc0]
 rewrite [zn6 (k0:=(fun (v12:List (Val (.int .i64)))=>bif (!((qP (v12,(IntKind.i64.wrap (v1.tdiv (max (1:Int) ((qcI v0 v1):Int)))),v2)):Bool))then (some ((([]:List (Val (.int .i64))),(0:Int),false),false,()))else (some ((v12,(IntKind.i64.wrap (v1.tdiv (max (1:Int) ((qcI v0 v1):Int)))),v2),true,())))) N _ _ _ _ _ _ ?_ ?_ ?_]
 ·rewrite [qAT];first | rfl | simp (maxSteps:=10000000) -implicitDefEqProofs []
 ·rfl
 ·intro;simp only [qK,qL,qJ,qB]
 ·intro v12;simp (maxSteps:=10000000) -implicitDefEqProofs [qQf,qpu,qJi,qxC,qTb,qso,qXV,qrY,qIF,qt4,qRO,q2u,q2B,qKp,qVt,qTJ,qI5,qJG,qN3,qXM,qMs,qYb,qHI,qa9,qc0]
noncomputable def qgB (N:Nat) (v3:Int) (v4:List (Val (.int .i64))) (v5:Int) (v7:Int) (v8:Bool) (v9:Int) (v10:Bool) (k0:(List (Val (.int .i64)))→Option (qc [ql,i4])):Nat→Int→(List (Val (.int .i64)))→Option (qc [ql,i4])
 | 0,_,_=>none
 | n+1,v6,v11=>bif (decide (v6<v5))then (chk (0≤v6∧v6<(v4.length:Int)) (chk (v3≠0) (chk (0≤v6∧v6<(v11.length:Int)) (chk (v6.toNat<v11.length) (qgB N v3 v4 v5 v7 v8 v9 v10 k0 n (IntKind.i64.wrap (v6+(1:Int))) (v11.set v6.toNat (IntKind.i64.wrap (((v4.getD v6.toNat (qb (.int .i64))):Int).tdiv v3))))))))else (k0 v11)
noncomputable def qBt (N:Nat) (v0:List (Val (.int .i64))) (v1:Int) (v2:Bool):Option (qc [ql,i4]):=chk (qfq v0) (chk (qcr ((qbd v0):Int) v1) (bif (decide (((q3 ((qbd v0):Int) v1):Int)=(0:Int)))then (chk ((1:Int)≠0) (chk (0≤(v0.length:Int)∧(v0.length:Int)≤(v0.length:Int)∧(v0.length:Int)≤1048576) (qgB N (1:Int) v0 (v0.length:Int) (0:Int) false (IntKind.i64.wrap (v1.tdiv (1:Int))) v2 (fun (v13:List (Val (.int .i64)))=>bif (!((qP (v13,(IntKind.i64.wrap (v1.tdiv (1:Int))),v2)):Bool))then (some ((([]:List (Val (.int .i64))),(0:Int),false),false,()))else (some ((v13,(IntKind.i64.wrap (v1.tdiv (1:Int))),v2),true,()))) N (0:Int) (List.replicate (v0.length:Int).toNat (qb (.int .i64))))))else (chk (((q3 ((qbd v0):Int) v1):Int)≠0) (chk (0≤(v0.length:Int)∧(v0.length:Int)≤(v0.length:Int)∧(v0.length:Int)≤1048576) (qgB N ((q3 ((qbd v0):Int) v1):Int) v0 (v0.length:Int) (0:Int) false (IntKind.i64.wrap (v1.tdiv ((q3 ((qbd v0):Int) v1):Int))) v2 (fun (v4:List (Val (.int .i64)))=>bif (!((qP (v4,(IntKind.i64.wrap (v1.tdiv ((q3 ((qbd v0):Int) v1):Int))),v2)):Bool))then (some ((([]:List (Val (.int .i64))),(0:Int),false),false,()))else (some ((v4,(IntKind.i64.wrap (v1.tdiv ((q3 ((qbd v0):Int) v1):Int))),v2),true,()))) N (0:Int) (List.replicate (v0.length:Int).toNat (qb (.int .i64))))))))
def qhN:Gam:=[(279,qaV),(280,qbx),(282,qci)]
theorem qET:Gam.get qhN 279=some qaV:=rfl
theorem qGn:Gam.get qhN 280=some qbx:=rfl
theorem qDH:Gam.get qhN 282=some qci:=rfl
def qqf:Nm:=⟨[false,false,false,false,false,false,true,false,true,true,false,false,false,false,false,false,false,false,false,false,false,false,false,false,false,false,true,true,true],[],false⟩
theorem qAN:qqf.zero=false:=rfl
theorem qzf:qqf.fix=[]:=rfl
theorem qF8:qqf.keep=[false,false,false,false,false,false,true,false,true,true,false,false,false,false,false,false,false,false,false,false,false,false,false,false,false,false,true,true,true]:=rfl
def qzY:Nm:=⟨[false,false,false,false,false,false,true,false,false,true],[],false⟩
theorem qAa:qzY.zero=false:=rfl
theorem qD9:qzY.fix=[]:=rfl
theorem qFT:qzY.keep=[false,false,false,false,false,false,true,false,false,true]:=rfl
def qGj:Nm:=⟨[true,false,false,false,false,false,true,false,true,true],[],false⟩
theorem qDP:qGj.zero=false:=rfl
theorem qCU:qGj.fix=[]:=rfl
theorem qEy:qGj.keep=[true,false,false,false,false,false,true,false,true,true]:=rfl
def qj0:Nat→Tree:=fun i=>if i=4 then .first 0 (.first 3 (.first 4 (.first 5 (.first 6 (.grow 1 (.alt 2 (.first 7 (.alt 8 (.alt 9 .done .stop) .stop)) (.alt 8 (.alt 2 (.quiet 7 (.alt 9 .done .stop)) .stop) .stop)))))))else if i=8 then .quiet 0 (.quiet 1 (.quiet 2 (.quiet 3 (.quiet 4 (.quiet 5 (.quiet 6 (.alt 7 .done .stop)))))))else .done
def qog:Nat→Nm:=fun i=>if i=6 then qqf else ⟨[],[],false⟩
def qnn:Nat→Option Jn:=fun _=>none
def qof:Nat→Option Nm:=fun i=>if i=0 then some qzY else none
def qoc:Nat→Option Nm:=fun i=>if i=4 then some qGj else none
theorem zxm:qh qj0 (Tryz.f207.body.getD .skip)=true:=by kernel_rfl
def qd9 (N:Nat):Tab:={tr:=qj0,lp:=qog,ex:=qof,rg:=qoc,jn:=qnn,fuel:=N}
theorem qHc (N:Nat):(qd9 N).pins=false:=rfl
theorem zAD (N:Nat):qk Tryz.prog (qd9 N):=qo fun _=>rfl
theorem qBR (N:Nat) (i:Nat):(qd9 N).tr i=qj0 i:=rfl
theorem qDl (N:Nat) (i:Nat):(qd9 N).lp i=qog i:=rfl
theorem qGK (N:Nat) (i:Nat):(qd9 N).ex i=qof i:=rfl
theorem qBv (N:Nat) (i:Nat):(qd9 N).rg i=qoc i:=rfl
theorem qE2 (N:Nat) (i:Nat):(qd9 N).jn i=qnn i:=rfl
theorem qC4 (N:Nat):(qd9 N).fuel=N:=rfl
noncomputable def q7s:Code:=cut [true,true,true,true,false,true,true,true] (Tryz.f207.body.getD .skip)
theorem zpO {N:Nat} {Q:X→St→Option (qc [ql,i4])} {e:List LV} {h:List Blk}:qf tt qhN (qd9 N) q7s Q ⟨e,h⟩=qf tt qhN (qd9 N) (cut [true,true,true,true,false,true,true,true] (Tryz.f207.body.getD .skip)) Q ⟨e,h⟩:=rfl
theorem q7w (N:Nat) (v3:Int) (v4:List (Val (.int .i64))) (v5:Int) (v7:Int) (v8:Bool) (v9:Int) (v10:Bool) {k0:(List (Val (.int .i64)))→Option (qc [ql,i4])} {Q:X→St→Option (qc [ql,i4])} {c:Code} (hc:c=q7s) (hret: ∀st,Q .ret st=qC tt true [ql,i4] [.cell 6 108,.tmp 7] st) (h0: ∀(v12:List (Val (.int .i64))),Q (.exit 0) ⟨[u,u,u,u,u,u,.one (.ptr 0 0 0),u,u,.one (.ptr 1 0 0),u,u,u,u,u,u,u,u,u,u,u,u,u,u,u,u,u,u,u,u,u,u,u,u,u,u,u,u,u,u,u,u,u,u,u,u],[.box [.nils,.int .i64 v7,.bool v8],.box [.own 2,.int .i64 v9,.bool v10],.row 3 (.int .i64) v12 true true 0]⟩=k0 v12): ∀(n:Nat) (v6:Int) (v11:List (Val (.int .i64))),qD (qf tt qhN (qd9 N) c) false qqf Q n ⟨[u,u,u,u,u,u,.one (.ptr 0 0 0),u,.one (.int .i64 v3),.one (.ptr 1 0 0),u,u,u,u,u,u,u,u,u,u,u,u,u,u,u,u,.one (.sl 3 (.int .i64) v4 3),.one (.int .i64 v5),.one (.int .i64 v6),u,u,u,u,u,u,u,u,u,u,u,u,u,u,u,u,u],[.box [.nils,.int .i64 v7,.bool v8],.box [.own 2,.int .i64 v9,.bool v10],.row 3 (.int .i64) v11 true true 0]⟩=qgB N v3 v4 v5 v7 v8 v9 v10 k0 n v6 v11:=by
 subst hc;intro n;induction n with
 | zero=>intros;rfl
 | succ n ih=>
   intro v6 v11
   rw [qN,zpO,qgB];unfold Tryz.f207
   simp (maxSteps:=10000000) -implicitDefEqProofs [qBR,qj0,qDl,qog,qGK,qof,qBv,qoc,qE2,qnn,qC4,qHc,qzf,qF8,qAN,qD9,qFT,qAa,qCU,qEy,qDP,qET,qGn,qDH,qaV,qbx,qci,hret,h0,ih]
theorem ztR (N:Nat) (v0:List (Val (.int .i64))) (v1:Int) (v2:Bool):qf tt qhN (qd9 N) (Tryz.f207.body.getD .skip) (qm tt true [ql,i4] [.cell 6 108,.tmp 7]) (qp [i25,i3,i4] 46 (v0,v1,v2,()))=qBt N v0 v1 v2:=by
 unfold Tryz.f207
 simp (maxSteps:=10000000) -implicitDefEqProofs [qBR,qj0,qDl,qog,qGK,qof,qBv,qoc,qE2,qnn,qC4,qHc,qzf,qF8,qAN,qD9,qFT,qAa,qCU,qEy,qDP,qET,qGn,qDH,qaV,qbx,qci]
 rewrite [q7w (k0:=(fun (v13:List (Val (.int .i64)))=>bif (!((qP (v13,(IntKind.i64.wrap (v1.tdiv (1:Int))),v2)):Bool))then (some ((([]:List (Val (.int .i64))),(0:Int),false),false,()))else (some ((v13,(IntKind.i64.wrap (v1.tdiv (1:Int))),v2),true,())))) N _ _ _ _ _ _ _ ?_ ?_ ?_]
 rewrite [q7w (k0:=(fun (v4:List (Val (.int .i64)))=>bif (!((qP (v4,(IntKind.i64.wrap (v1.tdiv ((q3 ((qbd v0):Int) v1):Int))),v2)):Bool))then (some ((([]:List (Val (.int .i64))),(0:Int),false),false,()))else (some ((v4,(IntKind.i64.wrap (v1.tdiv ((q3 ((qbd v0):Int) v1):Int))),v2),true,())))) N _ _ _ _ _ _ _ ?_ ?_ ?_]
 ·rewrite [qBt];first | rfl | simp (maxSteps:=10000000) -implicitDefEqProofs []
 ·rfl
 ·intro;simp only [qK,qL,qJ,qB]
 ·intro v4;simp (maxSteps:=10000000) -implicitDefEqProofs [qBR,qj0,qDl,qog,qGK,qof,qBv,qoc,qE2,qnn,qC4,qHc,qzf,qF8,qAN,qD9,qFT,qAa,qCU,qEy,qDP,qET,qGn,qDH,qaV,qbx,qci]
 ·rfl
 ·intro;simp only [qK,qL,qJ,qB]
 ·intro v13;simp (maxSteps:=10000000) -implicitDefEqProofs [qBR,qj0,qDl,qog,qGK,qof,qBv,qoc,qE2,qnn,qC4,qHc,qzf,qF8,qAN,qD9,qFT,qAa,qCU,qEy,qDP,qET,qGn,qDH,qaV,qbx,qci]
def qe6:G:={ps:=[i25,i3,i4],rs:=[ql,i4],dp:=true,pre:=fun x=>qaS x.1 x.2.1 x.2.2.1,fn:=fun x=>((qw x.1 x.2.1 x.2.2.1).1,(qw x.1 x.2.1 x.2.2.1).2,())}
def qeN:G:={ps:=[i25,i3,i4],rs:=[ql,i4],dp:=true,pre:=fun x=>qaS x.1 x.2.1 x.2.2.1,fn:=fun x=>((qw x.1 x.2.1 x.2.2.1).1,(qw x.1 x.2.1 x.2.2.1).2,())}
theorem zfj (N:Nat) (co:List (Val (.int .i64))) (g:Nat) (hg1:(g:Int)≠0) (a:Int) (b:Bool) (c:Int) (s:Bool) (K:List (Val (.int .i64))→Option (qc [ql,i4])) (hl:co.length≤1048576) (hx: ∀x∈co,inI x) (n:Nat) (hn:co.length<n):
 qiC N co (g:Int) a b c s K n 0 []=K (List.map (α:=Int) (fun x=>x.tdiv (g:Int)) co):=by
 refine (qaZ (F:=fun n i s'=>qiC N co (g:Int) a b c s K n i s') (step:=fun _ x (s:List (Val (.int .i64))) K=>chk (s.length+[IntKind.i64.wrap (Int.tdiv x (g:Int))].length≤1048576) (K (s++[IntKind.i64.wrap (Int.tdiv x (g:Int))]))) (k:=K) hl (fun n i s' hi=> ?_) (fun n i s' hi=> ?_) n _ hn).trans ((qzS (f:=fun x=>IntKind.i64.wrap (Int.tdiv x (g:Int))) (k:=K) co 0 [] (by simpa using hl)).trans ?_)
 ·rw [qiC,qj (by omega),qe (by omega),qe hg1,qI hi]
 ·rw [qiC,qi (by omega)]
 ·have e:List.map (fun x=>IntKind.i64.wrap (Int.tdiv x (g:Int))) co=List.map (α:=Int) (fun x=>x.tdiv (g:Int)) co:=List.map_congr_left fun x hx'=>qeB (hx x hx')
  rw [List.nil_append,e]
theorem zvZ (co:List (Val (.int .i64))) (k:Int) (s:Bool) (h:qaS co k s): ∃N,qAT N co k s=some ((qw co k s).1,(qw co k s).2,()):=⟨co.length+1,by
 obtain ⟨hl,hk,hx⟩:=h
 have hg:max (1:Int) (qcI co k)=((max 1 (gL k.natAbs co):Nat):Int):=by unfold qcI;omega
 rw [qAT,qe (show qfC co k from ⟨hl,hk,hx⟩),hg,qe (by omega),qeB hk]
 generalize hG:max 1 (gL k.natAbs co)=g
 have hg1:(g:Int)≠0:=by omega
 rw [zfj _ co g hg1 0 false _ s _ hl hx _ (Nat.lt_succ_self _)]
 exact qYT co k s g hG.symm⟩
theorem q9t:Sound Tryz.prog 149 qe6:=qr (tt:=tt) (Γ:=qmq) hT (qg qrx (qg qJV qn)) hm (fn:=Tryz.f149) Tryz.func149 (c:=Tryz.f149.body.getD .skip) (by kernel_rfl) (by kernel_rfl) fun x hx=>by
 obtain ⟨N,h⟩:=zvZ x.1 x.2.1 x.2.2.1 hx
 exact ⟨qea N,zxo,qu _,zro N,(zyR N x.1 x.2.1 x.2.2.1).trans h⟩
theorem q5h (N:Nat) (co:List (Val (.int .i64))) (g:Nat) (hg1:(g:Int)≠0) (a:Int) (b:Bool) (c:Int) (s:Bool) (K:List (Val (.int .i64))→Option (qc [ql,i4])) (hl:co.length≤1048576) (hx: ∀x∈co,inI x) (n:Nat) (hn:co.length<n):
 qgB N (g:Int) co co.length a b c s K n 0 (List.replicate co.length (qb (.int .i64)))=K (List.map (α:=Int) (fun x=>x.tdiv (g:Int)) co):=by
 have:=qkI (xs:=List.map (α:=Int) (fun x=>x.tdiv (g:Int)) co) (F:=fun n i s'=>qgB N (g:Int) co co.length a b c s K n i s') (k:=K) (qb (.int .i64)) (by simpa using hl) (fun n i s' hi hs=> ?_) (fun n i s' hi=> ?_) n (by simpa using hn)
 ·simpa using this
 ·have hi:i<co.length:=by simpa using hi
  have hs:s'.length=co.length:=by simpa using hs
  rw [qgB,qj (by omega),qe (by omega),qe hg1,qe (by omega),qe (by omega),qI hi,qeB (hx _ (List.getElem_mem hi))]
  simp
 ·have hi:co.length≤i:=by simpa using hi
  rw [qgB,qi (by omega)]
theorem zoJ (co:List (Val (.int .i64))) (k:Int) (s:Bool) (h:qaS co k s): ∃N,qBt N co k s=some ((qw co k s).1,(qw co k s).2,()):=⟨co.length+1,by
 obtain ⟨hl,hk,hx⟩:=h
 have eg:q3 (qbd co) k=((gL k.natAbs co:Nat):Int):=by
  unfold q3 qbd
  rw [Int.natAbs_natCast,←qHe,Nat.gcd_zero_left]
 rw [qBt,qe (show qfq co from ⟨hl,hx⟩),qe (show qcr (qbd co) k from ⟨q15 co 0 (by omega) hx,hk⟩),eg,Int.toNat_natCast]
 by_cases h0:gL k.natAbs co=0
 ·rw [qj (by omega),qe (by decide),qe (qik hl)]
  have e1:((1:Nat):Int)=1:=rfl
  have:=qeB (g:=1) hk
  rw [e1]at this
  rw [this]
  have t:=q5h (co.length+1) co 1 (by decide) 0 false (k.tdiv 1) s (fun v=>bif !qP (v,k.tdiv 1,s)then some ((([]:List (Val (.int .i64))),(0:Int),false),false,())else some ((v,k.tdiv 1,s),true,())) hl hx _ (Nat.lt_succ_self _)
  rw [e1]at t
  rw [t]
  exact qYT co k s 1 (by omega)
 ·rw [qi (by omega),qe (by omega),qe (qik hl),qeB hk]
  rw [q5h (co.length+1) co (gL k.natAbs co) (by omega) 0 false _ s _ hl hx _ (Nat.lt_succ_self _)]
  exact qYT co k s _ (by omega)⟩
theorem q7o:Sound Tryz.prog 207 qeN:=qr (tt:=tt) (Γ:=qhN) hT (qg qnv (qg qxl (qg qBi qn))) hm (fn:=Tryz.f207) Tryz.func207 (c:=Tryz.f207.body.getD .skip) (by kernel_rfl) (by kernel_rfl) fun x hx=>by
 obtain ⟨N,h⟩:=zoJ x.1 x.2.1 x.2.2.1 hx
 exact ⟨qd9 N,zxm,qu _,zAD N,(ztR N x.1 x.2.1 x.2.2.1).trans h⟩
theorem qbb {a:Val qa} (h:qP a=true):(List.length (α:=Int) a.1≤4)∧inI a.2.1∧ ∀x∈(a.1:List Int), -400000000≤x∧x≤400000000:=by
 unfold qP at h
 simp only [Bool.and_eq_true,decide_eq_true_eq]at h
 obtain ⟨⟨⟨h1,h2⟩,h3⟩,_⟩:=h
 exact ⟨h1,qeX h2,fun x hx=>of_decide_eq_true (List.all_eq_true.1 h3 x hx)⟩
theorem qaG {c:Val Y33} (h:qz c=true):(0≤(c.1:Int)∧(c.1:Int)≤4)∧List.length (α:=Val qa) c.2≤16∧ ∀a∈(c.2:List (Val qa)),qP a=true∧(List.length (α:=Val (.int .i64)) a.1:Int)=(c.1:Int):=by
 unfold qz at h
 simp only [Bool.and_eq_true,decide_eq_true_eq]at h
 obtain ⟨⟨h1,h2⟩,h3⟩:=h
 refine ⟨h1,by omega,fun a ha=> ?_⟩
 have:=List.all_eq_true.1 h3 a ha
 simp only [Bool.and_eq_true,decide_eq_true_eq]at this
 exact this
end Go.T
