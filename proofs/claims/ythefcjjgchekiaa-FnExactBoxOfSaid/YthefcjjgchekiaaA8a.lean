/- Atoms of numbers; cells' bounds. -/
import Derived.Test.YthefcjjgchekiaaA2
import Derived.Test.YthefcjjgchekiaaA3
set_option linter.unusedSimpArgs false
set_option linter.unusedVariables false
namespace Go.T
open Go Go.Proofs
set_option maxHeartbeats 4000000
set_option maxRecDepth 100000
theorem qzy {ρ α β:Type} {f:α→β} {k:List β→Option ρ}: ∀(xs:List α) (i:Nat) (s:List β),s.length+xs.length≤1048576→qaa (fun _ x (s:List β) K=>chk (s.length+[f x].length≤1048576) (K (s++[f x]))) i xs s k=k (s++xs.map f)
 | [],_,s,_=>by rw [qaa];simp
 | x::xs,i,s,h=>by
   simp only [List.length_cons]at h
   rw [qaa,qc (by simp;omega)];dsimp only;rw [qzy xs (i+1) _ (by simp;omega)]
   simp
theorem qc0 {x:Int} {g:Nat} (h:inI x):IntKind.i64.wrap (x.tdiv (g:Int))=x.tdiv (g:Int):=by
 have:(x.tdiv (g:Int)).natAbs≤x.natAbs:=by
  rw [Int.natAbs_tdiv];exact Nat.div_le_self _ _
 unfold inI at h
 exact qb5 (by omega) (by omega)
def qsn (co:List (Val (.int .i64))) (k:Int) (s:Bool) (g:Nat):Val Y36×Bool:=
 bif qz (List.map (α:=Int) (fun x=>x.tdiv (g:Int)) co,k.tdiv (g:Int),s)then ((List.map (α:=Int) (fun x=>x.tdiv (g:Int)) co,k.tdiv (g:Int),s),true)else (([],(0:Int),false),false)
def qk (co:List (Val (.int .i64))) (k:Int) (s:Bool):Val Y36×Bool:=qsn co k s (max 1 (gL k.natAbs co))
def qax (co:List (Val (.int .i64))) (k:Int) (_:Bool):Prop:=qdH co k
theorem qwj (co:List (Val (.int .i64))) (k:Int) (s:Bool) (g:Nat) (hg:g=max 1 (gL k.natAbs co)):(bif !qz (List.map (α:=Int) (fun x=>x.tdiv (g:Int)) co,k.tdiv (g:Int),s)then some ((([]:List (Val (.int .i64))),(0:Int),false),false,())else some ((List.map (α:=Int) (fun x=>x.tdiv (g:Int)) co,k.tdiv (g:Int),s),true,()))=some ((qk co k s).1,(qk co k s).2,()):=by
 rw [qk,←hg,qsn,qar]
 cases qz (List.map (α:=Int) (fun x=>x.tdiv (g:Int)) co,k.tdiv (g:Int),s)<;>rfl
noncomputable def qeT (N:Nat) (v3:List (Val (.int .i64))) (v4:Int) (v6:Int) (v7:Bool) (v8:Int) (v9:Bool) (k0:(List (Val (.int .i64)))→Option (qb [i36,i4])):Nat→Int→(List (Val (.int .i64)))→Option (qb [i36,i4])
 | 0,_,_=>none
 | n+1,v5,v10=>bif (decide (v5<(v3.length:Int)))then (chk (0≤v5∧v5<(v3.length:Int)) (chk (v4≠0) (chk (v10.length+([(IntKind.i64.wrap (((v3.getD v5.toNat (qa (.int .i64))):Int).tdiv v4))]:List (Val (.int .i64))).length≤1048576) (qeT N v3 v4 v6 v7 v8 v9 k0 n (IntKind.i64.wrap (v5+(1:Int))) (v10++([(IntKind.i64.wrap (((v3.getD v5.toNat (qa (.int .i64))):Int).tdiv v4))]:List (Val (.int .i64))))))))else (k0 v10)
noncomputable def m84 (N:Nat) (v0:List (Val (.int .i64))) (v1:Int) (v2:Bool):Option (qb [i36,i4]):=chk (qdH v0 v1) (chk ((max (1:Int) ((qcj v0 v1):Int))≠0) (qeT N v0 (max (1:Int) ((qcj v0 v1):Int)) (0:Int) false (IntKind.i64.wrap (v1.tdiv (max (1:Int) ((qcj v0 v1):Int)))) v2 (fun (v12:List (Val (.int .i64)))=>bif (!((qz (v12,(IntKind.i64.wrap (v1.tdiv (max (1:Int) ((qcj v0 v1):Int)))),v2)):Bool))then (some ((([]:List (Val (.int .i64))),(0:Int),false),false,()))else (some ((v12,(IntKind.i64.wrap (v1.tdiv (max (1:Int) ((qcj v0 v1):Int)))),v2),true,()))) N (0:Int) ([]:List (Val (.int .i64)))))
def Γ84:Gam:=[(43,g43),(59,g59)]
theorem qyZ:Gam.get Γ84 43=some g43:=rfl
theorem qs4:Gam.get Γ84 59=some g59:=rfl
def qlG:Nm:=⟨[true,false,false,false,false,false,true,false,true,true,true],[.box 9 0 3 (.int .i64)],false⟩
theorem qwL:qlG.zero=false:=rfl
theorem qv2:qlG.fix=[.box 9 0 3 (.int .i64)]:=rfl
theorem qr7:qlG.keep=[true,false,false,false,false,false,true,false,true,true,true]:=rfl
def qmS:Nm:=⟨[false,false,false,false,false,false,true,false,false,true],[],false⟩
theorem qyd:qmS.zero=false:=rfl
theorem qu0:qmS.fix=[]:=rfl
theorem qtb:qmS.keep=[false,false,false,false,false,false,true,false,false,true]:=rfl
def qol:Nm:=⟨[true,false,false,false,false,false,true,false,true,true,true],[],false⟩
theorem qsw:qol.zero=false:=rfl
theorem qxk:qol.fix=[]:=rfl
theorem qvk:qol.keep=[true,false,false,false,false,false,true,false,true,true,true]:=rfl
def qhf:Nat→Tree:=fun i=>if i=6 then .quiet 2 (.quiet 3 (.quiet 4 (.quiet 5 (.quiet 6 (.quiet 7 (.alt 0 (.alt 1 (.alt 8 (.alt 9 (.quiet 10 (.alt 11 .done .stop)) .stop) .stop) (.alt 8 (.quiet 1 (.alt 9 (.quiet 10 (.alt 11 .done .stop)) .stop)) .stop)) (.alt 8 (.quiet 0 (.quiet 1 (.alt 9 (.quiet 10 (.alt 11 .done .stop)) .stop))) .stop)))))))else .done
def qlU:Nat→Nm:=fun i=>if i=4 then qlG else ⟨[],[],false⟩
def qmm:Nat→Option Jn:=fun _=>none
def qkZ:Nat→Option Nm:=fun i=>if i=0 then some qmS else none
def qkQ:Nat→Option Nm:=fun i=>if i=6 then some qol else none
theorem p84:ql qhf (Try.f84.body.getD .skip)=true:=by kernel_rfl
def T84 (N:Nat):Tab:={tr:=qhf,lp:=qlU,ex:=qkZ,rg:=qkQ,jn:=qmm,fuel:=N}
theorem qr8 (N:Nat):(T84 N).pins=false:=rfl
theorem qLg (N:Nat):qm Try.prog (T84 N):=qu fun _=>rfl
theorem qtK (N:Nat) (i:Nat):(T84 N).tr i=qhf i:=rfl
theorem qsf (N:Nat) (i:Nat):(T84 N).lp i=qlU i:=rfl
theorem qBc (N:Nat) (i:Nat):(T84 N).ex i=qkZ i:=rfl
theorem qBP (N:Nat) (i:Nat):(T84 N).rg i=qkQ i:=rfl
theorem qvI (N:Nat) (i:Nat):(T84 N).jn i=qmm i:=rfl
theorem qzu (N:Nat):(T84 N).fuel=N:=rfl
noncomputable def qCK:Code:=cut [true,true,true,false,true,true,true] (Try.f84.body.getD .skip)
theorem qMv {N:Nat} {Q:X→St→Option (qb [i36,i4])} {e:List LV} {h:List Blk}:qd tt Γ84 (T84 N) qCK Q ⟨e,h⟩=qd tt Γ84 (T84 N) (cut [true,true,true,false,true,true,true] (Try.f84.body.getD .skip)) Q ⟨e,h⟩:=rfl
theorem qH4 (N:Nat) (v3:List (Val (.int .i64))) (v4:Int) (v6:Int) (v7:Bool) (v8:Int) (v9:Bool) {k0:(List (Val (.int .i64)))→Option (qb [i36,i4])} {Q:X→St→Option (qb [i36,i4])} {c:Code} (hc:c=qCK) (hret: ∀st,Q .ret st=qI tt true [i36,i4] [.cell 6 36,.tmp 7] st) (h0: ∀(v11:List (Val (.int .i64))),Q (.exit 0) ⟨[u,u,u,u,u,u,.one (.ptr 0 0 0),u,u,.one (.ptr 1 0 0),u,u,u,u,u,u,u,u,u,u,u,u,u,u,u,u,u,u,u,u,u,u,u,u,u,u,u,u,u,u,u,u],[.box [.nils,.int .i64 v6,.bool v7],.box [.own 2,.int .i64 v8,.bool v9],.row 3 (.int .i64) v11 true true 0]⟩=k0 v11): ∀(n:Nat) (v5:Int) (v10:List (Val (.int .i64))),qD (qd tt Γ84 (T84 N) c) false qlG Q n ⟨[.one (.sl 3 (.int .i64) v3 3),u,u,u,u,u,.one (.ptr 0 0 0),u,.one (.int .i64 v4),.one (.ptr 1 0 0),.one (.int .i64 v5),u,u,u,u,u,u,u,u,u,u,u,u,u,u,u,u,u,u,u,u,u,u,u,u,u,u,u,u,u,u,u],[.box [.nils,.int .i64 v6,.bool v7],.box [.own 2,.int .i64 v8,.bool v9],.row 3 (.int .i64) v10 true true 0]⟩=qeT N v3 v4 v6 v7 v8 v9 k0 n v5 v10:=by
 subst hc;intro n;induction n with
 | zero=>intros;rfl
 | succ n ih=>
   intro v5 v10
   rw [qR,qMv,qeT];unfold Try.f84
   simp (maxSteps:=10000000) -implicitDefEqProofs [qtK,qhf,qsf,qlU,qBc,qkZ,qBP,qkQ,qvI,qmm,qzu,qr8,qv2,qr7,qwL,qu0,qtb,qyd,qxk,qvk,qsw,qyZ,qs4,g43,g59,hret,h0,ih]
theorem qHH (N:Nat) (v0:List (Val (.int .i64))) (v1:Int) (v2:Bool):qd tt Γ84 (T84 N) (Try.f84.body.getD .skip) (qp tt true [i36,i4] [.cell 6 36,.tmp 7]) (qt [i25,i3,i4] 42 (v0,v1,v2,()))=m84 N v0 v1 v2:=by
 unfold Try.f84
 simp (maxSteps:=10000000) -implicitDefEqProofs [qtK,qhf,qsf,qlU,qBc,qkZ,qBP,qkQ,qvI,qmm,qzu,qr8,qv2,qr7,qwL,qu0,qtb,qyd,qxk,qvk,qsw,qyZ,qs4,g43,g59]
 rewrite [qH4 (k0:=(fun (v12:List (Val (.int .i64)))=>bif (!((qz (v12,(IntKind.i64.wrap (v1.tdiv (max (1:Int) ((qcj v0 v1):Int)))),v2)):Bool))then (some ((([]:List (Val (.int .i64))),(0:Int),false),false,()))else (some ((v12,(IntKind.i64.wrap (v1.tdiv (max (1:Int) ((qcj v0 v1):Int)))),v2),true,())))) N _ _ _ _ _ _ ?_ ?_ ?_]
 ·rewrite [m84];first | rfl | simp (maxSteps:=10000000) -implicitDefEqProofs []
 ·rfl
 ·intro;simp only [qK,qM,qO,qv]
 ·intro v12;simp (maxSteps:=10000000) -implicitDefEqProofs [qtK,qhf,qsf,qlU,qBc,qkZ,qBP,qkQ,qvI,qmm,qzu,qr8,qv2,qr7,qwL,qu0,qtb,qyd,qxk,qvk,qsw,qyZ,qs4,g43,g59]
noncomputable def qea (N:Nat) (v3:Int) (v4:List (Val (.int .i64))) (v5:Int) (v7:Int) (v8:Bool) (v9:Int) (v10:Bool) (k0:(List (Val (.int .i64)))→Option (qb [i36,i4])):Nat→Int→(List (Val (.int .i64)))→Option (qb [i36,i4])
 | 0,_,_=>none
 | n+1,v6,v11=>bif (decide (v6<v5))then (chk (0≤v6∧v6<(v4.length:Int)) (chk (v3≠0) (chk (0≤v6∧v6<(v11.length:Int)) (chk (v6.toNat<v11.length) (qea N v3 v4 v5 v7 v8 v9 v10 k0 n (IntKind.i64.wrap (v6+(1:Int))) (v11.set v6.toNat (IntKind.i64.wrap (((v4.getD v6.toNat (qa (.int .i64))):Int).tdiv v3))))))))else (k0 v11)
noncomputable def m91 (N:Nat) (v0:List (Val (.int .i64))) (v1:Int) (v2:Bool):Option (qb [i36,i4]):=chk (qdG v0) (chk (qb9 ((qaw v0):Int) v1) (bif (decide (((qB ((qaw v0):Int) v1):Int)=(0:Int)))then (chk ((1:Int)≠0) (chk (0≤(v0.length:Int)∧(v0.length:Int)≤(v0.length:Int)∧(v0.length:Int)≤1048576) (qea N (1:Int) v0 (v0.length:Int) (0:Int) false (IntKind.i64.wrap (v1.tdiv (1:Int))) v2 (fun (v13:List (Val (.int .i64)))=>bif (!((qz (v13,(IntKind.i64.wrap (v1.tdiv (1:Int))),v2)):Bool))then (some ((([]:List (Val (.int .i64))),(0:Int),false),false,()))else (some ((v13,(IntKind.i64.wrap (v1.tdiv (1:Int))),v2),true,()))) N (0:Int) (List.replicate (v0.length:Int).toNat (qa (.int .i64))))))else (chk (((qB ((qaw v0):Int) v1):Int)≠0) (chk (0≤(v0.length:Int)∧(v0.length:Int)≤(v0.length:Int)∧(v0.length:Int)≤1048576) (qea N ((qB ((qaw v0):Int) v1):Int) v0 (v0.length:Int) (0:Int) false (IntKind.i64.wrap (v1.tdiv ((qB ((qaw v0):Int) v1):Int))) v2 (fun (v4:List (Val (.int .i64)))=>bif (!((qz (v4,(IntKind.i64.wrap (v1.tdiv ((qB ((qaw v0):Int) v1):Int))),v2)):Bool))then (some ((([]:List (Val (.int .i64))),(0:Int),false),false,()))else (some ((v4,(IntKind.i64.wrap (v1.tdiv ((qB ((qaw v0):Int) v1):Int))),v2),true,()))) N (0:Int) (List.replicate (v0.length:Int).toNat (qa (.int .i64))))))))
def Γ91:Gam:=[(45,g45),(65,g65),(66,g66)]
theorem qpS:Gam.get Γ91 45=some g45:=rfl
theorem qmR:Gam.get Γ91 65=some g65:=rfl
theorem qqF:Gam.get Γ91 66=some g66:=rfl
def qjh:Nm:=⟨[false,false,false,false,false,false,true,false,true,true,false,false,false,false,false,false,false,false,false,false,false,false,false,false,false,false,true,true,true],[],false⟩
theorem qqB:qjh.zero=false:=rfl
theorem qnz:qjh.fix=[]:=rfl
theorem qot:qjh.keep=[false,false,false,false,false,false,true,false,true,true,false,false,false,false,false,false,false,false,false,false,false,false,false,false,false,false,true,true,true]:=rfl
def qnF:Nm:=⟨[false,false,false,false,false,false,true,false,false,true],[],false⟩
theorem qon:qnF.zero=false:=rfl
theorem qnr:qnF.fix=[]:=rfl
theorem qnu:qnF.keep=[false,false,false,false,false,false,true,false,false,true]:=rfl
def qn6:Nm:=⟨[true,false,false,false,false,false,true,false,true,true],[],false⟩
theorem qow:qn6.zero=false:=rfl
theorem qpe:qn6.fix=[]:=rfl
theorem qpq:qn6.keep=[true,false,false,false,false,false,true,false,true,true]:=rfl
def qfc:Nat→Tree:=fun i=>if i=4 then .first 0 (.first 3 (.first 4 (.first 5 (.first 6 (.grow 1 (.alt 2 (.first 7 (.alt 8 (.alt 9 .done .stop) .stop)) (.alt 8 (.alt 2 (.quiet 7 (.alt 9 .done .stop)) .stop) .stop)))))))else if i=8 then .quiet 0 (.quiet 1 (.quiet 2 (.quiet 3 (.quiet 4 (.quiet 5 (.quiet 6 (.alt 7 .done .stop)))))))else .done
def qhG:Nat→Nm:=fun i=>if i=6 then qjh else ⟨[],[],false⟩
def qhR:Nat→Option Jn:=fun _=>none
def qie:Nat→Option Nm:=fun i=>if i=0 then some qnF else none
def qhL:Nat→Option Nm:=fun i=>if i=4 then some qn6 else none
theorem p91:ql qfc (Try.f91.body.getD .skip)=true:=by kernel_rfl
def T91 (N:Nat):Tab:={tr:=qfc,lp:=qhG,ex:=qie,rg:=qhL,jn:=qhR,fuel:=N}
theorem qom (N:Nat):(T91 N).pins=false:=rfl
theorem qGH (N:Nat):qm Try.prog (T91 N):=qu fun _=>rfl
theorem qnO (N:Nat) (i:Nat):(T91 N).tr i=qfc i:=rfl
theorem qno (N:Nat) (i:Nat):(T91 N).lp i=qhG i:=rfl
theorem qn2 (N:Nat) (i:Nat):(T91 N).ex i=qie i:=rfl
theorem qpp (N:Nat) (i:Nat):(T91 N).rg i=qhL i:=rfl
theorem qoL (N:Nat) (i:Nat):(T91 N).jn i=qhR i:=rfl
theorem qp2 (N:Nat):(T91 N).fuel=N:=rfl
noncomputable def qER:Code:=cut [true,true,true,true,false,true,true,true] (Try.f91.body.getD .skip)
theorem qLD {N:Nat} {Q:X→St→Option (qb [i36,i4])} {e:List LV} {h:List Blk}:qd tt Γ91 (T91 N) qER Q ⟨e,h⟩=qd tt Γ91 (T91 N) (cut [true,true,true,true,false,true,true,true] (Try.f91.body.getD .skip)) Q ⟨e,h⟩:=rfl
theorem qEs (N:Nat) (v3:Int) (v4:List (Val (.int .i64))) (v5:Int) (v7:Int) (v8:Bool) (v9:Int) (v10:Bool) {k0:(List (Val (.int .i64)))→Option (qb [i36,i4])} {Q:X→St→Option (qb [i36,i4])} {c:Code} (hc:c=qER) (hret: ∀st,Q .ret st=qI tt true [i36,i4] [.cell 6 36,.tmp 7] st) (h0: ∀(v12:List (Val (.int .i64))),Q (.exit 0) ⟨[u,u,u,u,u,u,.one (.ptr 0 0 0),u,u,.one (.ptr 1 0 0),u,u,u,u,u,u,u,u,u,u,u,u,u,u,u,u,u,u,u,u,u,u,u,u,u,u,u,u,u,u,u,u,u,u,u,u],[.box [.nils,.int .i64 v7,.bool v8],.box [.own 2,.int .i64 v9,.bool v10],.row 3 (.int .i64) v12 true true 0]⟩=k0 v12): ∀(n:Nat) (v6:Int) (v11:List (Val (.int .i64))),qD (qd tt Γ91 (T91 N) c) false qjh Q n ⟨[u,u,u,u,u,u,.one (.ptr 0 0 0),u,.one (.int .i64 v3),.one (.ptr 1 0 0),u,u,u,u,u,u,u,u,u,u,u,u,u,u,u,u,.one (.sl 3 (.int .i64) v4 3),.one (.int .i64 v5),.one (.int .i64 v6),u,u,u,u,u,u,u,u,u,u,u,u,u,u,u,u,u],[.box [.nils,.int .i64 v7,.bool v8],.box [.own 2,.int .i64 v9,.bool v10],.row 3 (.int .i64) v11 true true 0]⟩=qea N v3 v4 v5 v7 v8 v9 v10 k0 n v6 v11:=by
 subst hc;intro n;induction n with
 | zero=>intros;rfl
 | succ n ih=>
   intro v6 v11
   rw [qR,qLD,qea];unfold Try.f91
   simp (maxSteps:=10000000) -implicitDefEqProofs [qnO,qfc,qno,qhG,qn2,qie,qpp,qhL,qoL,qhR,qp2,qom,qnz,qot,qqB,qnr,qnu,qon,qpe,qpq,qow,qpS,qmR,qqF,g45,g65,g66,hret,h0,ih]
theorem qKD (N:Nat) (v0:List (Val (.int .i64))) (v1:Int) (v2:Bool):qd tt Γ91 (T91 N) (Try.f91.body.getD .skip) (qp tt true [i36,i4] [.cell 6 36,.tmp 7]) (qt [i25,i3,i4] 46 (v0,v1,v2,()))=m91 N v0 v1 v2:=by
 unfold Try.f91
 simp (maxSteps:=10000000) -implicitDefEqProofs [qnO,qfc,qno,qhG,qn2,qie,qpp,qhL,qoL,qhR,qp2,qom,qnz,qot,qqB,qnr,qnu,qon,qpe,qpq,qow,qpS,qmR,qqF,g45,g65,g66]
 rewrite [qEs (k0:=(fun (v13:List (Val (.int .i64)))=>bif (!((qz (v13,(IntKind.i64.wrap (v1.tdiv (1:Int))),v2)):Bool))then (some ((([]:List (Val (.int .i64))),(0:Int),false),false,()))else (some ((v13,(IntKind.i64.wrap (v1.tdiv (1:Int))),v2),true,())))) N _ _ _ _ _ _ _ ?_ ?_ ?_]
 rewrite [qEs (k0:=(fun (v4:List (Val (.int .i64)))=>bif (!((qz (v4,(IntKind.i64.wrap (v1.tdiv ((qB ((qaw v0):Int) v1):Int))),v2)):Bool))then (some ((([]:List (Val (.int .i64))),(0:Int),false),false,()))else (some ((v4,(IntKind.i64.wrap (v1.tdiv ((qB ((qaw v0):Int) v1):Int))),v2),true,())))) N _ _ _ _ _ _ _ ?_ ?_ ?_]
 ·rewrite [m91];first | rfl | simp (maxSteps:=10000000) -implicitDefEqProofs []
 ·rfl
 ·intro;simp only [qK,qM,qO,qv]
 ·intro v4;simp (maxSteps:=10000000) -implicitDefEqProofs [qnO,qfc,qno,qhG,qn2,qie,qpp,qhL,qoL,qhR,qp2,qom,qnz,qot,qqB,qnr,qnu,qon,qpe,qpq,qow,qpS,qmR,qqF,g45,g65,g66]
 ·rfl
 ·intro;simp only [qK,qM,qO,qv]
 ·intro v13;simp (maxSteps:=10000000) -implicitDefEqProofs [qnO,qfc,qno,qhG,qn2,qie,qpp,qhL,qoL,qhR,qp2,qom,qnz,qot,qqB,qnr,qnu,qon,qpe,qpq,qow,qpS,qmR,qqF,g45,g65,g66]
def g84:G:={ps:=[i25,i3,i4],rs:=[i36,i4],dp:=true,pre:=fun x=>qax x.1 x.2.1 x.2.2.1,fn:=fun x=>((qk x.1 x.2.1 x.2.2.1).1,(qk x.1 x.2.1 x.2.2.1).2,())}
def g91:G:={ps:=[i25,i3,i4],rs:=[i36,i4],dp:=true,pre:=fun x=>qax x.1 x.2.1 x.2.2.1,fn:=fun x=>((qk x.1 x.2.1 x.2.2.1).1,(qk x.1 x.2.1 x.2.2.1).2,())}
theorem t84 (N:Nat) (co:List (Val (.int .i64))) (g:Nat) (hg1:(g:Int)≠0) (a:Int) (b:Bool) (c:Int) (s:Bool) (K:List (Val (.int .i64))→Option (qb [i36,i4])) (hl:co.length≤1048576) (hx: ∀x∈co,inI x) (n:Nat) (hn:co.length<n):
 qeT N co (g:Int) a b c s K n 0 []=K (List.map (α:=Int) (fun x=>x.tdiv (g:Int)) co):=by
 refine (qb6 (F:=fun n i s'=>qeT N co (g:Int) a b c s K n i s') (step:=fun _ x (s:List (Val (.int .i64))) K=>chk (s.length+[IntKind.i64.wrap (Int.tdiv x (g:Int))].length≤1048576) (K (s++[IntKind.i64.wrap (Int.tdiv x (g:Int))]))) (k:=K) hl (fun n i s' hi=> ?_) (fun n i s' hi=> ?_) n _ hn).trans ((qzy (f:=fun x=>IntKind.i64.wrap (Int.tdiv x (g:Int))) (k:=K) co 0 [] (by simpa using hl)).trans ?_)
 ·rw [qeT,qh (by omega),qc (by omega),qc hg1,qL hi]
 ·rw [qeT,qi (by omega)]
 ·have e:List.map (fun x=>IntKind.i64.wrap (Int.tdiv x (g:Int))) co=List.map (α:=Int) (fun x=>x.tdiv (g:Int)) co:=List.map_congr_left fun x hx'=>qc0 (hx x hx')
  rw [List.nil_append,e]
theorem e84 (co:List (Val (.int .i64))) (k:Int) (s:Bool) (h:qax co k s): ∃N,m84 N co k s=some ((qk co k s).1,(qk co k s).2,()):=⟨co.length+1,by
 obtain ⟨hl,hk,hx⟩:=h
 have hg:max (1:Int) (qcj co k)=((max 1 (gL k.natAbs co):Nat):Int):=by unfold qcj;omega
 rw [m84,qc (show qdH co k from ⟨hl,hk,hx⟩),hg,qc (by omega),qc0 hk]
 generalize hG:max 1 (gL k.natAbs co)=g
 have hg1:(g:Int)≠0:=by omega
 rw [t84 _ co g hg1 0 false _ s _ hl hx _ (Nat.lt_succ_self _)]
 exact qwj co k s g hG.symm⟩
theorem s84:Sound Try.prog 84 g84:=qw (tt:=tt) (Γ:=Γ84) hT (qf s43 (qf s59 qq)) hm (fn:=Try.f84) Try.func84 (c:=Try.f84.body.getD .skip) (by kernel_rfl) (by kernel_rfl) fun x hx=>by
 obtain ⟨N,h⟩:=e84 x.1 x.2.1 x.2.2.1 hx
 exact ⟨T84 N,p84,qx _,qLg N,(qHH N x.1 x.2.1 x.2.2.1).trans h⟩
theorem t91 (N:Nat) (co:List (Val (.int .i64))) (g:Nat) (hg1:(g:Int)≠0) (a:Int) (b:Bool) (c:Int) (s:Bool) (K:List (Val (.int .i64))→Option (qb [i36,i4])) (hl:co.length≤1048576) (hx: ∀x∈co,inI x) (n:Nat) (hn:co.length<n):
 qea N (g:Int) co co.length a b c s K n 0 (List.replicate co.length (qa (.int .i64)))=K (List.map (α:=Int) (fun x=>x.tdiv (g:Int)) co):=by
 have:=qqi (xs:=List.map (α:=Int) (fun x=>x.tdiv (g:Int)) co) (F:=fun n i s'=>qea N (g:Int) co co.length a b c s K n i s') (k:=K) (qa (.int .i64)) (by simpa using hl) (fun n i s' hi hs=> ?_) (fun n i s' hi=> ?_) n (by simpa using hn)
 ·simpa using this
 ·have hi:i<co.length:=by simpa using hi
  have hs:s'.length=co.length:=by simpa using hs
  rw [qea,qh (by omega),qc (by omega),qc hg1,qc (by omega),qc (by omega),qL hi,qc0 (hx _ (List.getElem_mem hi))]
  simp
 ·have hi:co.length≤i:=by simpa using hi
  rw [qea,qi (by omega)]
theorem e91 (co:List (Val (.int .i64))) (k:Int) (s:Bool) (h:qax co k s): ∃N,m91 N co k s=some ((qk co k s).1,(qk co k s).2,()):=⟨co.length+1,by
 obtain ⟨hl,hk,hx⟩:=h
 have eg:qB (qaw co) k=((gL k.natAbs co:Nat):Int):=by
  unfold qB qaw
  rw [Int.natAbs_natCast,←qmU,Nat.gcd_zero_left]
 rw [m91,qc (show qdG co from ⟨hl,hx⟩),qc (show qb9 (qaw co) k from ⟨qBu co 0 (by omega) hx,hk⟩),eg,Int.toNat_natCast]
 by_cases h0:gL k.natAbs co=0
 ·rw [qh (by omega),qc (by decide),qc (qjK hl)]
  have e1:((1:Nat):Int)=1:=rfl
  have:=qc0 (g:=1) hk
  rw [e1]at this
  rw [this]
  have t:=t91 (co.length+1) co 1 (by decide) 0 false (k.tdiv 1) s (fun v=>bif !qz (v,k.tdiv 1,s)then some ((([]:List (Val (.int .i64))),(0:Int),false),false,())else some ((v,k.tdiv 1,s),true,())) hl hx _ (Nat.lt_succ_self _)
  rw [e1]at t
  rw [t]
  exact qwj co k s 1 (by omega)
 ·rw [qi (by omega),qc (by omega),qc (qjK hl),qc0 hk]
  rw [t91 (co.length+1) co (gL k.natAbs co) (by omega) 0 false _ s _ hl hx _ (Nat.lt_succ_self _)]
  exact qwj co k s _ (by omega)⟩
theorem s91:Sound Try.prog 91 g91:=qw (tt:=tt) (Γ:=Γ91) hT (qf s45 (qf s65 (qf s66 qq))) hm (fn:=Try.f91) Try.func91 (c:=Try.f91.body.getD .skip) (by kernel_rfl) (by kernel_rfl) fun x hx=>by
 obtain ⟨N,h⟩:=e91 x.1 x.2.1 x.2.2.1 hx
 exact ⟨T91 N,p91,qx _,qGH N,(qKD N x.1 x.2.1 x.2.2.1).trans h⟩
theorem qcc {a:Val Y36} (h:qz a=true):(List.length (α:=Int) a.1≤4)∧inI a.2.1∧ ∀x∈(a.1:List Int), -400000000≤x∧x≤400000000:=by
 unfold qz at h
 simp only [Bool.and_eq_true,decide_eq_true_eq]at h
 obtain ⟨⟨⟨h1,h2⟩,h3⟩,_⟩:=h
 exact ⟨h1,qc3 h2,fun x hx=>of_decide_eq_true (List.all_eq_true.1 h3 x hx)⟩
theorem qcI {c:Val Y32} (h:qac c=true):(0≤(c.1:Int)∧(c.1:Int)≤4)∧List.length (α:=Val Y36) c.2≤16∧ ∀a∈(c.2:List (Val Y36)),qz a=true∧(List.length (α:=Val (.int .i64)) a.1:Int)=(c.1:Int):=by
 unfold qac at h
 simp only [Bool.and_eq_true,decide_eq_true_eq]at h
 obtain ⟨⟨h1,h2⟩,h3⟩:=h
 refine ⟨h1,by omega,fun a ha=> ?_⟩
 have:=List.all_eq_true.1 h3 a ha
 simp only [Bool.and_eq_true,decide_eq_true_eq]at this
 exact this
end Go.T
