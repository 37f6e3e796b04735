/- Formulas: the program's run. -/
import Derived.Test.YtlhkmndfkjlodaaH2
set_option linter.unusedSimpArgs false
set_option linter.unusedVariables false
namespace Go.T
open Go Go.Proofs
set_option maxHeartbeats 4000000
set_option maxRecDepth 100000
noncomputable def qgm (N:Nat) (v2:List (Val qf)) (v3:List (Val qb)) (v4:List (Val qb)) (v5:Int) (k0:(List (Val (.int .i64)))→Option (qc [i4])):Nat→Int→(List (Val (.int .i64)))→Option (qc [i4])
 | 0,_,_=>none
 | n+1,v6,v7=>bif (decide (v6<v5))then (chk (0≤v6∧v6<(v4.length:Int)) (chk (qq4 v2 (v4.getD v6.toNat (qa qb))) (bif (!((qgB v2 (v4.getD v6.toNat (qa qb))):Bool))then (some (false,()))else (bif (decide (((qfd ((v4.getD v6.toNat (qa qb)).1:Int)):Int)=(0:Int)))then (bif (!(decide (((((((((v4.getD v6.toNat (qa qb)).2).2).2).2).2).2).1:Int)=(0:Int))))then (some (false,()))else (bif (!(decide (((((((((v4.getD v6.toNat (qa qb)).2).2).2).2).2).2).2:Int)=(0:Int))))then (some (false,()))else (chk (0≤v6∧v6<(v7.length:Int)) (chk (v6.toNat<v7.length) (qgm N v2 v3 v4 v5 k0 n (IntKind.i64.wrap (v6+(1:Int))) (v7.set v6.toNat v6))))))else (bif (decide (((qfd ((v4.getD v6.toNat (qa qb)).1:Int)):Int)=(1:Int)))then (bif (decide (v6=(0:Int)))then (some (false,()))else (bif (!(decide (((((((((v4.getD v6.toNat (qa qb)).2).2).2).2).2).2).1:Int)=(IntKind.i64.wrap (v6 - (1:Int))))))then (some (false,()))else (bif (!(decide (((((((((v4.getD v6.toNat (qa qb)).2).2).2).2).2).2).2:Int)=(0:Int))))then (some (false,()))else (chk (0≤(IntKind.i64.wrap (v6 - (1:Int)))∧(IntKind.i64.wrap (v6 - (1:Int)))<(v7.length:Int)) (chk ((IntKind.i64.wrap (v6 - (1:Int))).toNat<v7.length) (chk (0≤v6∧v6<(v7.length:Int)) (chk (v6.toNat<v7.length) (qgm N v2 v3 v4 v5 k0 n (IntKind.i64.wrap (v6+(1:Int))) (v7.set v6.toNat ((v7.getD ((IntKind.i64.wrap (v6 - (1:Int))).toNat) (qa (.int .i64))):Int))))))))))else (bif (decide (((qfd ((v4.getD v6.toNat (qa qb)).1:Int)):Int)=(2:Int)))then (bif (decide (v6=(0:Int)))then (some (false,()))else (bif (!(decide (((((((((v4.getD v6.toNat (qa qb)).2).2).2).2).2).2).2:Int)=(IntKind.i64.wrap (v6 - (1:Int))))))then (some (false,()))else (chk (0≤(IntKind.i64.wrap (v6 - (1:Int)))∧(IntKind.i64.wrap (v6 - (1:Int)))<(v7.length:Int)) (chk ((IntKind.i64.wrap (v6 - (1:Int))).toNat<v7.length) (bif (decide (((v7.getD ((IntKind.i64.wrap (v6 - (1:Int))).toNat) (qa (.int .i64))):Int)=(0:Int)))then (some (false,()))else (chk (0≤(IntKind.i64.wrap (v6 - (1:Int)))∧(IntKind.i64.wrap (v6 - (1:Int)))<(v7.length:Int)) (chk ((IntKind.i64.wrap (v6 - (1:Int))).toNat<v7.length) (bif (!(decide (((((((((v4.getD v6.toNat (qa qb)).2).2).2).2).2).2).1:Int)=(IntKind.i64.wrap (((v7.getD ((IntKind.i64.wrap (v6 - (1:Int))).toNat) (qa (.int .i64))):Int) - (1:Int))))))then (some (false,()))else (chk (0≤((((((((v4.getD v6.toNat (qa qb)).2).2).2).2).2).2).1:Int)∧((((((((v4.getD v6.toNat (qa qb)).2).2).2).2).2).2).1:Int)<(v7.length:Int)) (chk (((((((((v4.getD v6.toNat (qa qb)).2).2).2).2).2).2).1:Int).toNat<v7.length) (chk (0≤v6∧v6<(v7.length:Int)) (chk (v6.toNat<v7.length) (qgm N v2 v3 v4 v5 k0 n (IntKind.i64.wrap (v6+(1:Int))) (v7.set v6.toNat ((v7.getD (((((((((v4.getD v6.toNat (qa qb)).2).2).2).2).2).2).1:Int).toNat) (qa (.int .i64))):Int)))))))))))))))else (some (false,()))))))))else (k0 v7)
noncomputable def m82 (N:Nat) (v0:List (Val qf)) (v1:List (Val qb)):Option (qc [i4]):=bif (!((qe1 v0):Bool))then (some (false,()))else (bif (decide ((v1.length:Int)<(1:Int)))then (some (false,()))else (bif (decide ((12:Int)<(v1.length:Int)))then (some (false,()))else (chk (0≤(v1.length:Int)∧(v1.length:Int)≤(v1.length:Int)∧(v1.length:Int)≤1048576) (qgm N v0 v1 v1 (v1.length:Int) (fun (v9:List (Val (.int .i64)))=>chk (0≤(IntKind.i64.wrap ((v1.length:Int) - (1:Int)))∧(IntKind.i64.wrap ((v1.length:Int) - (1:Int)))<(v9.length:Int)) (chk ((IntKind.i64.wrap ((v1.length:Int) - (1:Int))).toNat<v9.length) (some ((decide (((v9.getD ((IntKind.i64.wrap ((v1.length:Int) - (1:Int))).toNat) (qa (.int .i64))):Int)=(0:Int))),())))) N (0:Int) (List.replicate (v1.length:Int).toNat (qa (.int .i64)))))))
def Γ82:Gam:=[(120,qjw),(121,qjM),(122,qi6)]
theorem qFc:Gam.get Γ82 120=some qjw:=rfl
theorem qED:Gam.get Γ82 121=some qjM:=rfl
theorem qFx:Gam.get Γ82 122=some qi6:=rfl
def qox:Nm:=⟨[true,true,false,false,false,true,false,false,false,false,false,false,false,false,false,false,false,false,false,false,false,false,false,false,true,true,true],[],false⟩
theorem qu9:qox.zero=false:=rfl
theorem qDF:qox.fix=[]:=rfl
theorem qBx:qox.keep=[true,true,false,false,false,true,false,false,false,false,false,false,false,false,false,false,false,false,false,false,false,false,false,false,true,true,true]:=rfl
def qqw:Nm:=⟨[false,true,false,false,false,true],[],false⟩
theorem qva:qqw.zero=false:=rfl
theorem qCV:qqw.fix=[]:=rfl
theorem quM:qqw.keep=[false,true,false,false,false,true]:=rfl
def qjd:Nat→Tree:=fun i=>if i=20 then .quiet 0 (.quiet 1 (.quiet 2 (.quiet 3 (.quiet 4 (.quiet 5 (.quiet 6 (.quiet 7 (.quiet 8 (.quiet 9 (.quiet 10 (.quiet 11 (.quiet 12 (.quiet 13 (.quiet 14 (.quiet 15 (.quiet 16 (.quiet 17 (.quiet 18 (.quiet 19 (.quiet 20 (.quiet 21 (.quiet 22 (.quiet 23 (.quiet 24 (.quiet 25 (.quiet 26 (.quiet 27 .done)))))))))))))))))))))))))))else .done
def qlI:Nat→Nm:=fun i=>if i=5 then qox else ⟨[],[],false⟩
def qmb:Nat→Option Jn:=fun _=>none
def qkC:Nat→Option Nm:=fun i=>if i=0 then some qqw else none
def qo9:Nat→Option Nm:=fun _=>none
theorem p82:qn qjd (Try.f82.body.getD .skip)=true:=by kernel_rfl
def T82 (N:Nat):Tab:={tr:=qjd,lp:=qlI,ex:=qkC,rg:=qo9,jn:=qmb,fuel:=N}
theorem qCz (N:Nat):(T82 N).pins=false:=rfl
theorem qO0 (N:Nat):qp Try.prog (T82 N):=qw fun _=>rfl
theorem qvB (N:Nat) (i:Nat):(T82 N).tr i=qjd i:=rfl
theorem qFD (N:Nat) (i:Nat):(T82 N).lp i=qlI i:=rfl
theorem qCy (N:Nat) (i:Nat):(T82 N).ex i=qkC i:=rfl
theorem qvU (N:Nat) (i:Nat):(T82 N).rg i=qo9 i:=rfl
theorem qxP (N:Nat) (i:Nat):(T82 N).jn i=qmb i:=rfl
theorem qB0 (N:Nat):(T82 N).fuel=N:=rfl
noncomputable def qHm:Code:=cut [true,true,true,false,true,true,true] (Try.f82.body.getD .skip)
theorem qTA {N:Nat} {Q:X→St→Option (qc [i4])} {e:List LV} {h:List Blk}:qe tt Γ82 (T82 N) qHm Q ⟨e,h⟩=qe tt Γ82 (T82 N) (cut [true,true,true,false,true,true,true] (Try.f82.body.getD .skip)) Q ⟨e,h⟩:=rfl
theorem qP6 (N:Nat) (v2:List (Val qf)) (v3:List (Val qb)) (v4:List (Val qb)) (v5:Int) {k0:(List (Val (.int .i64)))→Option (qc [i4])} {Q:X→St→Option (qc [i4])} {c:Code} (hc:c=qHm) (hret: ∀st,Q .ret st=qI tt true [i4] [.tmp 4] st) (h0: ∀(v8:List (Val (.int .i64))),Q (.exit 0) ⟨[u,.one (.sl 120 qb v3 1),u,u,u,.one (.own 0),u,u,u,u,u,u,u,u,u,u,u,u,u,u,u,u,u,u,u,u,u,u,u,u,u,u,u,u,u,u,u,u,u,u,u,u,u,u,u,u,u,u,u,u,u,u,u,u,u,u,u,u,u,u,u,u,u,u,u,u,u,u,u,u,u,u,u,u,u,u,u,u,u,u,u,u,u,u,u,u,u,u,u,u,u,u,u,u,u,u,u,u,u,u,u,u,u,u,u,u,u,u,u,u,u,u,u,u,u,u,u,u,u,u,u,u],[.row 3 (.int .i64) v8 true true 0]⟩=k0 v8): ∀(n:Nat) (v6:Int) (v7:List (Val (.int .i64))),qC (qe tt Γ82 (T82 N) c) false qox Q n ⟨[.one (.sl 123 qf v2 1),.one (.sl 120 qb v3 1),u,u,u,.one (.own 0),u,u,u,u,u,u,u,u,u,u,u,u,u,u,u,u,u,u,.one (.sl 120 qb v4 1),.one (.int .i64 v5),.one (.int .i64 v6),u,u,u,u,u,u,u,u,u,u,u,u,u,u,u,u,u,u,u,u,u,u,u,u,u,u,u,u,u,u,u,u,u,u,u,u,u,u,u,u,u,u,u,u,u,u,u,u,u,u,u,u,u,u,u,u,u,u,u,u,u,u,u,u,u,u,u,u,u,u,u,u,u,u,u,u,u,u,u,u,u,u,u,u,u,u,u,u,u,u,u,u,u,u,u],[.row 3 (.int .i64) v7 true true 0]⟩=qgm N v2 v3 v4 v5 k0 n v6 v7:=by
 subst hc;intro n;induction n with
 | zero=>intros;rfl
 | succ n ih=>
   intro v6 v7
   rw [qM,qTA,qgm];unfold Try.f82
   simp (maxSteps:=10000000) -implicitDefEqProofs [qvB,qjd,qFD,qlI,qCy,qkC,qvU,qo9,qxP,qmb,qB0,qCz,qDF,qBx,qu9,qCV,quM,qva,qFc,qED,qFx,qjw,qjM,qi6,hret,h0,ih]
theorem qJV (N:Nat) (v0:List (Val qf)) (v1:List (Val qb)):qe tt Γ82 (T82 N) (Try.f82.body.getD .skip) (qr tt true [i4] [.tmp 4]) (qv [i63,i65] 122 (v0,v1,()))=m82 N v0 v1:=by
 unfold Try.f82
 simp (maxSteps:=10000000) -implicitDefEqProofs [qvB,qjd,qFD,qlI,qCy,qkC,qvU,qo9,qxP,qmb,qB0,qCz,qDF,qBx,qu9,qCV,quM,qva,qFc,qED,qFx,qjw,qjM,qi6]
 rewrite [qP6 (k0:=(fun (v9:List (Val (.int .i64)))=>chk (0≤(IntKind.i64.wrap ((v1.length:Int) - (1:Int)))∧(IntKind.i64.wrap ((v1.length:Int) - (1:Int)))<(v9.length:Int)) (chk ((IntKind.i64.wrap ((v1.length:Int) - (1:Int))).toNat<v9.length) (some ((decide (((v9.getD ((IntKind.i64.wrap ((v1.length:Int) - (1:Int))).toNat) (qa (.int .i64))):Int)=(0:Int))),()))))) N _ _ _ _ ?_ ?_ ?_]
 ·rewrite [m82];first | rfl | simp (maxSteps:=10000000) -implicitDefEqProofs []
 ·rfl
 ·intro;simp only [qK,qL,qN,qm]
 ·intro v9;simp (maxSteps:=10000000) -implicitDefEqProofs [qvB,qjd,qFD,qlI,qCy,qkC,qvU,qo9,qxP,qmb,qB0,qCz,qDF,qBx,qu9,qCV,quM,qva,qFc,qED,qFx,qjw,qjM,qi6]
end Go.T
