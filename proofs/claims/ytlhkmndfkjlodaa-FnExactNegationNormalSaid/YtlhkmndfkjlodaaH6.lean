/- Formulas: the program's run. -/
import Derived.Test.YtlhkmndfkjlodaaH2
set_option linter.unusedSimpArgs false
set_option linter.unusedVariables false
namespace Go.T
open Go Go.Proofs
set_option maxHeartbeats 4000000
set_option maxRecDepth 100000
noncomputable def qfR (N:Nat) (v2:List (Val qe)) (v3:List (Val qa)) (v4:List (Val qa)) (v5:Int) (k0:(List (Val (.int .i64)))→Option (qc [i4])):Nat→Int→(List (Val (.int .i64)))→Option (qc [i4])
 | 0,_,_=>none
 | n+1,v6,v7=>bif (decide (v6<v5))then (chk (0≤v6∧v6<(v4.length:Int)) (chk (qqB v2 (v4.getD v6.toNat (qb qa))) (bif (!((qfA v2 (v4.getD v6.toNat (qb qa))):Bool))then (some (false,()))else (bif (decide (((qcf ((v4.getD v6.toNat (qb qa)).1:Int)):Int)=(0:Int)))then (bif (!(decide (((((((((v4.getD v6.toNat (qb qa)).2).2).2).2).2).2).1:Int)=(0:Int))))then (some (false,()))else (bif (!(decide (((((((((v4.getD v6.toNat (qb qa)).2).2).2).2).2).2).2:Int)=(0:Int))))then (some (false,()))else (chk (0≤v6∧v6<(v7.length:Int)) (chk (v6.toNat<v7.length) (qfR N v2 v3 v4 v5 k0 n (IntKind.i64.wrap (v6+(1:Int))) (v7.set v6.toNat v6))))))else (bif (decide (((qcf ((v4.getD v6.toNat (qb qa)).1:Int)):Int)=(1:Int)))then (bif (decide (v6=(0:Int)))then (some (false,()))else (bif (!(decide (((((((((v4.getD v6.toNat (qb qa)).2).2).2).2).2).2).1:Int)=(IntKind.i64.wrap (v6 - (1:Int))))))then (some (false,()))else (bif (!(decide (((((((((v4.getD v6.toNat (qb qa)).2).2).2).2).2).2).2:Int)=(0:Int))))then (some (false,()))else (chk (0≤(IntKind.i64.wrap (v6 - (1:Int)))∧(IntKind.i64.wrap (v6 - (1:Int)))<(v7.length:Int)) (chk ((IntKind.i64.wrap (v6 - (1:Int))).toNat<v7.length) (chk (0≤v6∧v6<(v7.length:Int)) (chk (v6.toNat<v7.length) (qfR N v2 v3 v4 v5 k0 n (IntKind.i64.wrap (v6+(1:Int))) (v7.set v6.toNat ((v7.getD ((IntKind.i64.wrap (v6 - (1:Int))).toNat) (qb (.int .i64))):Int))))))))))else (bif (decide (((qcf ((v4.getD v6.toNat (qb qa)).1:Int)):Int)=(2:Int)))then (bif (decide (v6=(0:Int)))then (some (false,()))else (bif (!(decide (((((((((v4.getD v6.toNat (qb qa)).2).2).2).2).2).2).2:Int)=(IntKind.i64.wrap (v6 - (1:Int))))))then (some (false,()))else (chk (0≤(IntKind.i64.wrap (v6 - (1:Int)))∧(IntKind.i64.wrap (v6 - (1:Int)))<(v7.length:Int)) (chk ((IntKind.i64.wrap (v6 - (1:Int))).toNat<v7.length) (bif (decide (((v7.getD ((IntKind.i64.wrap (v6 - (1:Int))).toNat) (qb (.int .i64))):Int)=(0:Int)))then (some (false,()))else (chk (0≤(IntKind.i64.wrap (v6 - (1:Int)))∧(IntKind.i64.wrap (v6 - (1:Int)))<(v7.length:Int)) (chk ((IntKind.i64.wrap (v6 - (1:Int))).toNat<v7.length) (bif (!(decide (((((((((v4.getD v6.toNat (qb qa)).2).2).2).2).2).2).1:Int)=(IntKind.i64.wrap (((v7.getD ((IntKind.i64.wrap (v6 - (1:Int))).toNat) (qb (.int .i64))):Int) - (1:Int))))))then (some (false,()))else (chk (0≤((((((((v4.getD v6.toNat (qb qa)).2).2).2).2).2).2).1:Int)∧((((((((v4.getD v6.toNat (qb qa)).2).2).2).2).2).2).1:Int)<(v7.length:Int)) (chk (((((((((v4.getD v6.toNat (qb qa)).2).2).2).2).2).2).1:Int).toNat<v7.length) (chk (0≤v6∧v6<(v7.length:Int)) (chk (v6.toNat<v7.length) (qfR N v2 v3 v4 v5 k0 n (IntKind.i64.wrap (v6+(1:Int))) (v7.set v6.toNat ((v7.getD (((((((((v4.getD v6.toNat (qb qa)).2).2).2).2).2).2).1:Int).toNat) (qb (.int .i64))):Int)))))))))))))))else (some (false,()))))))))else (k0 v7)
noncomputable def m82 (N:Nat) (v0:List (Val qe)) (v1:List (Val qa)):Option (qc [i4]):=bif (!((qez v0):Bool))then (some (false,()))else (bif (decide ((v1.length:Int)<(1:Int)))then (some (false,()))else (bif (decide ((12:Int)<(v1.length:Int)))then (some (false,()))else (chk (0≤(v1.length:Int)∧(v1.length:Int)≤(v1.length:Int)∧(v1.length:Int)≤1048576) (qfR N v0 v1 v1 (v1.length:Int) (fun (v9:List (Val (.int .i64)))=>chk (0≤(IntKind.i64.wrap ((v1.length:Int) - (1:Int)))∧(IntKind.i64.wrap ((v1.length:Int) - (1:Int)))<(v9.length:Int)) (chk ((IntKind.i64.wrap ((v1.length:Int) - (1:Int))).toNat<v9.length) (some ((decide (((v9.getD ((IntKind.i64.wrap ((v1.length:Int) - (1:Int))).toNat) (qb (.int .i64))):Int)=(0:Int))),())))) N (0:Int) (List.replicate (v1.length:Int).toNat (qb (.int .i64)))))))
def Γ82:Gam:=[(120,qiH),(121,qi4),(122,qfw)]
theorem qGv:Gam.get Γ82 120=some qiH:=rfl
theorem qFU:Gam.get Γ82 121=some qi4:=rfl
theorem qGS:Gam.get Γ82 122=some qfw:=rfl
def qnZ:Nm:=⟨[true,true,false,false,false,true,false,false,false,false,false,false,false,false,false,false,false,false,false,false,false,false,false,false,true,true,true],[],false⟩
theorem qu1:qnZ.zero=false:=rfl
theorem qEP:qnZ.fix=[]:=rfl
theorem qCl:qnZ.keep=[true,true,false,false,false,true,false,false,false,false,false,false,false,false,false,false,false,false,false,false,false,false,false,false,true,true,true]:=rfl
def qp3:Nm:=⟨[false,true,false,false,false,true],[],false⟩
theorem qu4:qp3.zero=false:=rfl
theorem qD0:qp3.fix=[]:=rfl
theorem quE:qp3.keep=[false,true,false,false,false,true]:=rfl
def qin:Nat→Tree:=fun i=>if i=20 then .quiet 0 (.quiet 1 (.quiet 2 (.quiet 3 (.quiet 4 (.quiet 5 (.quiet 6 (.quiet 7 (.quiet 8 (.quiet 9 (.quiet 10 (.quiet 11 (.quiet 12 (.quiet 13 (.quiet 14 (.quiet 15 (.quiet 16 (.quiet 17 (.quiet 18 (.quiet 19 (.quiet 20 (.quiet 21 (.quiet 22 (.quiet 23 (.quiet 24 (.quiet 25 (.quiet 26 (.quiet 27 .done)))))))))))))))))))))))))))else .done
def qk6:Nat→Nm:=fun i=>if i=5 then qnZ else ⟨[],[],false⟩
def qly:Nat→Option Jn:=fun _=>none
def qjY:Nat→Option Nm:=fun i=>if i=0 then some qp3 else none
def qoD:Nat→Option Nm:=fun _=>none
theorem p82:qm qin (Try.f82.body.getD .skip)=true:=by kernel_rfl
def T82 (N:Nat):Tab:={tr:=qin,lp:=qk6,ex:=qjY,rg:=qoD,jn:=qly,fuel:=N}
theorem qDy (N:Nat):(T82 N).pins=false:=rfl
theorem qRm (N:Nat):qn Try.prog (T82 N):=qt fun _=>rfl
theorem qvA (N:Nat) (i:Nat):(T82 N).tr i=qin i:=rfl
theorem qGZ (N:Nat) (i:Nat):(T82 N).lp i=qk6 i:=rfl
theorem qDx (N:Nat) (i:Nat):(T82 N).ex i=qjY i:=rfl
theorem qvX (N:Nat) (i:Nat):(T82 N).rg i=qoD i:=rfl
theorem qx1 (N:Nat) (i:Nat):(T82 N).jn i=qly i:=rfl
theorem qCU (N:Nat):(T82 N).fuel=N:=rfl
noncomputable def qIL:Code:=cut [true,true,true,false,true,true,true] (Try.f82.body.getD .skip)
theorem qWF {N:Nat} {Q:X→St→Option (qc [i4])} {e:List LV} {h:List Blk}:qf tt Γ82 (T82 N) qIL Q ⟨e,h⟩=qf tt Γ82 (T82 N) (cut [true,true,true,false,true,true,true] (Try.f82.body.getD .skip)) Q ⟨e,h⟩:=rfl
theorem qSE (N:Nat) (v2:List (Val qe)) (v3:List (Val qa)) (v4:List (Val qa)) (v5:Int) {k0:(List (Val (.int .i64)))→Option (qc [i4])} {Q:X→St→Option (qc [i4])} {c:Code} (hc:c=qIL) (hret: ∀st,Q .ret st=qN tt true [i4] [.tmp 4] st) (h0: ∀(v8:List (Val (.int .i64))),Q (.exit 0) ⟨[u,.one (.sl 120 qa v3 1),u,u,u,.one (.own 0),u,u,u,u,u,u,u,u,u,u,u,u,u,u,u,u,u,u,u,u,u,u,u,u,u,u,u,u,u,u,u,u,u,u,u,u,u,u,u,u,u,u,u,u,u,u,u,u,u,u,u,u,u,u,u,u,u,u,u,u,u,u,u,u,u,u,u,u,u,u,u,u,u,u,u,u,u,u,u,u,u,u,u,u,u,u,u,u,u,u,u,u,u,u,u,u,u,u,u,u,u,u,u,u,u,u,u,u,u,u,u,u,u,u,u,u],[.row 3 (.int .i64) v8 true true 0]⟩=k0 v8): ∀(n:Nat) (v6:Int) (v7:List (Val (.int .i64))),qI (qf tt Γ82 (T82 N) c) false qnZ Q n ⟨[.one (.sl 123 qe v2 1),.one (.sl 120 qa v3 1),u,u,u,.one (.own 0),u,u,u,u,u,u,u,u,u,u,u,u,u,u,u,u,u,u,.one (.sl 120 qa v4 1),.one (.int .i64 v5),.one (.int .i64 v6),u,u,u,u,u,u,u,u,u,u,u,u,u,u,u,u,u,u,u,u,u,u,u,u,u,u,u,u,u,u,u,u,u,u,u,u,u,u,u,u,u,u,u,u,u,u,u,u,u,u,u,u,u,u,u,u,u,u,u,u,u,u,u,u,u,u,u,u,u,u,u,u,u,u,u,u,u,u,u,u,u,u,u,u,u,u,u,u,u,u,u,u,u,u,u],[.row 3 (.int .i64) v7 true true 0]⟩=qfR N v2 v3 v4 v5 k0 n v6 v7:=by
 subst hc;intro n;induction n with
 | zero=>intros;rfl
 | succ n ih=>
   intro v6 v7
   rw [qS,qWF,qfR];unfold Try.f82
   simp (maxSteps:=10000000) -implicitDefEqProofs [qvA,qin,qGZ,qk6,qDx,qjY,qvX,qoD,qx1,qly,qCU,qDy,qEP,qCl,qu1,qD0,quE,qu4,qGv,qFU,qGS,qiH,qi4,qfw,hret,h0,ih]
theorem qLj (N:Nat) (v0:List (Val qe)) (v1:List (Val qa)):qf tt Γ82 (T82 N) (Try.f82.body.getD .skip) (qo tt true [i4] [.tmp 4]) (qv [i63,i65] 122 (v0,v1,()))=m82 N v0 v1:=by
 unfold Try.f82
 simp (maxSteps:=10000000) -implicitDefEqProofs [qvA,qin,qGZ,qk6,qDx,qjY,qvX,qoD,qx1,qly,qCU,qDy,qEP,qCl,qu1,qD0,quE,qu4,qGv,qFU,qGS,qiH,qi4,qfw]
 rewrite [qSE (k0:=(fun (v9:List (Val (.int .i64)))=>chk (0≤(IntKind.i64.wrap ((v1.length:Int) - (1:Int)))∧(IntKind.i64.wrap ((v1.length:Int) - (1:Int)))<(v9.length:Int)) (chk ((IntKind.i64.wrap ((v1.length:Int) - (1:Int))).toNat<v9.length) (some ((decide (((v9.getD ((IntKind.i64.wrap ((v1.length:Int) - (1:Int))).toNat) (qb (.int .i64))):Int)=(0:Int))),()))))) N _ _ _ _ ?_ ?_ ?_]
 ·rewrite [m82];first | rfl | simp (maxSteps:=10000000) -implicitDefEqProofs []
 ·rfl
 ·intro;simp only [qQ,qR,qT,qr]
 ·intro v9;simp (maxSteps:=10000000) -implicitDefEqProofs [qvA,qin,qGZ,qk6,qDx,qjY,qvX,qoD,qx1,qly,qCU,qDy,qEP,qCl,qu1,qD0,quE,qu4,qGv,qFU,qGS,qiH,qi4,qfw]
end Go.T
