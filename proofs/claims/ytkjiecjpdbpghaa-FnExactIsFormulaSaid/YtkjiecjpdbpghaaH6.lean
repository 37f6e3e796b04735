/- Formulas: the program's run. -/
import Derived.Test.YtkjiecjpdbpghaaH2
set_option linter.unusedSimpArgs false
set_option linter.unusedVariables false
namespace Go.T
open Go Go.Proofs
set_option maxHeartbeats 4000000
set_option maxRecDepth 100000
noncomputable def qcX (N:Nat) (v2:List (Val Y53)) (v3:List (Val qe)) (v4:List (Val qe)) (v5:Int) (k0:(List (Val (.int .i64)))→Option (qa [i4])):Nat→Int→(List (Val (.int .i64)))→Option (qa [i4])
 | 0,_,_=>none
 | n+1,v6,v7=>bif (decide (v6<v5))then (chk (0≤v6∧v6<(v4.length:Int)) (chk (qkR v2 (v4.getD v6.toNat (qb qe))) (bif (!((qdQ v2 (v4.getD v6.toNat (qb qe))):Bool))then (some (false,()))else (bif (decide (((qce ((v4.getD v6.toNat (qb qe)).1:Int)):Int)=(0:Int)))then (bif (!(decide (((((((((v4.getD v6.toNat (qb qe)).2).2).2).2).2).2).1:Int)=(0:Int))))then (some (false,()))else (bif (!(decide (((((((((v4.getD v6.toNat (qb qe)).2).2).2).2).2).2).2:Int)=(0:Int))))then (some (false,()))else (chk (0≤v6∧v6<(v7.length:Int)) (chk (v6.toNat<v7.length) (qcX N v2 v3 v4 v5 k0 n (IntKind.i64.wrap (v6+(1:Int))) (v7.set v6.toNat v6))))))else (bif (decide (((qce ((v4.getD v6.toNat (qb qe)).1:Int)):Int)=(1:Int)))then (bif (decide (v6=(0:Int)))then (some (false,()))else (bif (!(decide (((((((((v4.getD v6.toNat (qb qe)).2).2).2).2).2).2).1:Int)=(IntKind.i64.wrap (v6 - (1:Int))))))then (some (false,()))else (bif (!(decide (((((((((v4.getD v6.toNat (qb qe)).2).2).2).2).2).2).2:Int)=(0:Int))))then (some (false,()))else (chk (0≤(IntKind.i64.wrap (v6 - (1:Int)))∧(IntKind.i64.wrap (v6 - (1:Int)))<(v7.length:Int)) (chk ((IntKind.i64.wrap (v6 - (1:Int))).toNat<v7.length) (chk (0≤v6∧v6<(v7.length:Int)) (chk (v6.toNat<v7.length) (qcX N v2 v3 v4 v5 k0 n (IntKind.i64.wrap (v6+(1:Int))) (v7.set v6.toNat ((v7.getD ((IntKind.i64.wrap (v6 - (1:Int))).toNat) (qb (.int .i64))):Int))))))))))else (bif (decide (((qce ((v4.getD v6.toNat (qb qe)).1:Int)):Int)=(2:Int)))then (bif (decide (v6=(0:Int)))then (some (false,()))else (bif (!(decide (((((((((v4.getD v6.toNat (qb qe)).2).2).2).2).2).2).2:Int)=(IntKind.i64.wrap (v6 - (1:Int))))))then (some (false,()))else (chk (0≤(IntKind.i64.wrap (v6 - (1:Int)))∧(IntKind.i64.wrap (v6 - (1:Int)))<(v7.length:Int)) (chk ((IntKind.i64.wrap (v6 - (1:Int))).toNat<v7.length) (bif (decide (((v7.getD ((IntKind.i64.wrap (v6 - (1:Int))).toNat) (qb (.int .i64))):Int)=(0:Int)))then (some (false,()))else (chk (0≤(IntKind.i64.wrap (v6 - (1:Int)))∧(IntKind.i64.wrap (v6 - (1:Int)))<(v7.length:Int)) (chk ((IntKind.i64.wrap (v6 - (1:Int))).toNat<v7.length) (bif (!(decide (((((((((v4.getD v6.toNat (qb qe)).2).2).2).2).2).2).1:Int)=(IntKind.i64.wrap (((v7.getD ((IntKind.i64.wrap (v6 - (1:Int))).toNat) (qb (.int .i64))):Int) - (1:Int))))))then (some (false,()))else (chk (0≤((((((((v4.getD v6.toNat (qb qe)).2).2).2).2).2).2).1:Int)∧((((((((v4.getD v6.toNat (qb qe)).2).2).2).2).2).2).1:Int)<(v7.length:Int)) (chk (((((((((v4.getD v6.toNat (qb qe)).2).2).2).2).2).2).1:Int).toNat<v7.length) (chk (0≤v6∧v6<(v7.length:Int)) (chk (v6.toNat<v7.length) (qcX N v2 v3 v4 v5 k0 n (IntKind.i64.wrap (v6+(1:Int))) (v7.set v6.toNat ((v7.getD (((((((((v4.getD v6.toNat (qb qe)).2).2).2).2).2).2).1:Int).toNat) (qb (.int .i64))):Int)))))))))))))))else (some (false,()))))))))else (k0 v7)
noncomputable def m48 (N:Nat) (v0:List (Val Y53)) (v1:List (Val qe)):Option (qa [i4]):=bif (!((qb3 v0):Bool))then (some (false,()))else (bif (decide ((v1.length:Int)<(1:Int)))then (some (false,()))else (bif (decide ((12:Int)<(v1.length:Int)))then (some (false,()))else (chk (0≤(v1.length:Int)∧(v1.length:Int)≤(v1.length:Int)∧(v1.length:Int)≤1048576) (qcX N v0 v1 v1 (v1.length:Int) (fun (v9:List (Val (.int .i64)))=>chk (0≤(IntKind.i64.wrap ((v1.length:Int) - (1:Int)))∧(IntKind.i64.wrap ((v1.length:Int) - (1:Int)))<(v9.length:Int)) (chk ((IntKind.i64.wrap ((v1.length:Int) - (1:Int))).toNat<v9.length) (some ((decide (((v9.getD ((IntKind.i64.wrap ((v1.length:Int) - (1:Int))).toNat) (qb (.int .i64))):Int)=(0:Int))),())))) N (0:Int) (List.replicate (v1.length:Int).toNat (qb (.int .i64)))))))
def Γ48:Gam:=[(34,g34),(97,g97),(98,g98)]
theorem quQ:Gam.get Γ48 34=some g34:=rfl
theorem qp2:Gam.get Γ48 97=some g97:=rfl
theorem qo5:Gam.get Γ48 98=some g98:=rfl
def qgl:Nm:=⟨[true,true,false,false,false,true,false,false,false,false,false,false,false,false,false,false,false,false,false,false,false,false,false,false,true,true,true],[],false⟩
theorem qrd:qgl.zero=false:=rfl
theorem qwB:qgl.fix=[]:=rfl
theorem qv4:qgl.keep=[true,true,false,false,false,true,false,false,false,false,false,false,false,false,false,false,false,false,false,false,false,false,false,false,true,true,true]:=rfl
def qkY:Nm:=⟨[false,true,false,false,false,true],[],false⟩
theorem qws:qkY.zero=false:=rfl
theorem qvP:qkY.fix=[]:=rfl
theorem qmn:qkY.keep=[false,true,false,false,false,true]:=rfl
def qeL:Nat→Tree:=fun i=>if i=20 then .quiet 0 (.quiet 1 (.quiet 2 (.quiet 3 (.quiet 4 (.quiet 5 (.quiet 6 (.quiet 7 (.quiet 8 (.quiet 9 (.quiet 10 (.quiet 11 (.quiet 12 (.quiet 13 (.quiet 14 (.quiet 15 (.quiet 16 (.quiet 17 (.quiet 18 (.quiet 19 (.quiet 20 (.quiet 21 (.quiet 22 (.quiet 23 (.quiet 24 (.quiet 25 (.quiet 26 (.quiet 27 .done)))))))))))))))))))))))))))else .done
def qiz:Nat→Nm:=fun i=>if i=5 then qgl else ⟨[],[],false⟩
def qgO:Nat→Option Jn:=fun _=>none
def qhu:Nat→Option Nm:=fun i=>if i=0 then some qkY else none
def qjs:Nat→Option Nm:=fun _=>none
theorem p48:qm qeL (Try.f48.body.getD .skip)=true:=by kernel_rfl
def T48 (N:Nat):Tab:={tr:=qeL,lp:=qiz,ex:=qhu,rg:=qjs,jn:=qgO,fuel:=N}
theorem qtz (N:Nat):(T48 N).pins=false:=rfl
theorem qA7 (N:Nat):qp Try.prog (T48 N):=qv fun _=>rfl
theorem qvy (N:Nat) (i:Nat):(T48 N).tr i=qeL i:=rfl
theorem qs3 (N:Nat) (i:Nat):(T48 N).lp i=qiz i:=rfl
theorem qsl (N:Nat) (i:Nat):(T48 N).ex i=qhu i:=rfl
theorem qta (N:Nat) (i:Nat):(T48 N).rg i=qjs i:=rfl
theorem qvw (N:Nat) (i:Nat):(T48 N).jn i=qgO i:=rfl
theorem qtX (N:Nat):(T48 N).fuel=N:=rfl
noncomputable def qyk:Code:=cut [true,true,true,false,true,true,true] (Try.f48.body.getD .skip)
theorem qFy {N:Nat} {Q:X→St→Option (qa [i4])} {e:List LV} {h:List Blk}:qc tt Γ48 (T48 N) qyk Q ⟨e,h⟩=qc tt Γ48 (T48 N) (cut [true,true,true,false,true,true,true] (Try.f48.body.getD .skip)) Q ⟨e,h⟩:=rfl
theorem qCl (N:Nat) (v2:List (Val Y53)) (v3:List (Val qe)) (v4:List (Val qe)) (v5:Int) {k0:(List (Val (.int .i64)))→Option (qa [i4])} {Q:X→St→Option (qa [i4])} {c:Code} (hc:c=qyk) (hret: ∀st,Q .ret st=qG tt true [i4] [.tmp 4] st) (h0: ∀(v8:List (Val (.int .i64))),Q (.exit 0) ⟨[u,.one (.sl 139 qe v3 1),u,u,u,.one (.own 0),u,u,u,u,u,u,u,u,u,u,u,u,u,u,u,u,u,u,u,u,u,u,u,u,u,u,u,u,u,u,u,u,u,u,u,u,u,u,u,u,u,u,u,u,u,u,u,u,u,u,u,u,u,u,u,u,u,u,u,u,u,u,u,u,u,u,u,u,u,u,u,u,u,u,u,u,u,u,u,u,u,u,u,u,u,u,u,u,u,u,u,u,u,u,u,u,u,u,u,u,u,u,u,u,u,u,u,u,u,u,u,u,u,u,u,u],[.row 3 (.int .i64) v8 true true 0]⟩=k0 v8): ∀(n:Nat) (v6:Int) (v7:List (Val (.int .i64))),qE (qc tt Γ48 (T48 N) c) false qgl Q n ⟨[.one (.sl 53 Y53 v2 1),.one (.sl 139 qe v3 1),u,u,u,.one (.own 0),u,u,u,u,u,u,u,u,u,u,u,u,u,u,u,u,u,u,.one (.sl 139 qe v4 1),.one (.int .i64 v5),.one (.int .i64 v6),u,u,u,u,u,u,u,u,u,u,u,u,u,u,u,u,u,u,u,u,u,u,u,u,u,u,u,u,u,u,u,u,u,u,u,u,u,u,u,u,u,u,u,u,u,u,u,u,u,u,u,u,u,u,u,u,u,u,u,u,u,u,u,u,u,u,u,u,u,u,u,u,u,u,u,u,u,u,u,u,u,u,u,u,u,u,u,u,u,u,u,u,u,u,u],[.row 3 (.int .i64) v7 true true 0]⟩=qcX N v2 v3 v4 v5 k0 n v6 v7:=by
 subst hc;intro n;induction n with
 | zero=>intros;rfl
 | succ n ih=>
   intro v6 v7
   rw [qP,qFy,qcX];unfold Try.f48
   simp (maxSteps:=10000000) -implicitDefEqProofs [qvy,qeL,qs3,qiz,qsl,qhu,qta,qjs,qvw,qgO,qtX,qtz,qwB,qv4,qrd,qvP,qmn,qws,quQ,qp2,qo5,g34,g97,g98,hret,h0,ih]
theorem qEQ (N:Nat) (v0:List (Val Y53)) (v1:List (Val qe)):qc tt Γ48 (T48 N) (Try.f48.body.getD .skip) (qn tt true [i4] [.tmp 4]) (qq [i25,i81] 122 (v0,v1,()))=m48 N v0 v1:=by
 unfold Try.f48
 simp (maxSteps:=10000000) -implicitDefEqProofs [qvy,qeL,qs3,qiz,qsl,qhu,qta,qjs,qvw,qgO,qtX,qtz,qwB,qv4,qrd,qvP,qmn,qws,quQ,qp2,qo5,g34,g97,g98]
 rewrite [qCl (k0:=(fun (v9:List (Val (.int .i64)))=>chk (0≤(IntKind.i64.wrap ((v1.length:Int) - (1:Int)))∧(IntKind.i64.wrap ((v1.length:Int) - (1:Int)))<(v9.length:Int)) (chk ((IntKind.i64.wrap ((v1.length:Int) - (1:Int))).toNat<v9.length) (some ((decide (((v9.getD ((IntKind.i64.wrap ((v1.length:Int) - (1:Int))).toNat) (qb (.int .i64))):Int)=(0:Int))),()))))) N _ _ _ _ ?_ ?_ ?_]
 ·rewrite [m48];first | rfl | simp (maxSteps:=10000000) -implicitDefEqProofs []
 ·rfl
 ·intro;simp only [qN,qO,qQ,qM]
 ·intro v9;simp (maxSteps:=10000000) -implicitDefEqProofs [qvy,qeL,qs3,qiz,qsl,qhu,qta,qjs,qvw,qgO,qtX,qtz,qwB,qv4,qrd,qvP,qmn,qws,quQ,qp2,qo5,g34,g97,g98]
end Go.T
