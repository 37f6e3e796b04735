/- Minimal cells: run. -/
import Derived.Test.YtlhkmndfkjlodaaB9
set_option linter.unusedSimpArgs false
set_option linter.unusedVariables false
namespace Go.T
open Go Go.Proofs
set_option maxHeartbeats 4000000
set_option maxRecDepth 100000
def cpC (c:Val Y26):Val Y26:=c
def qeh (c:Val Y26):Prop:=Bd Y26 c
def qnq:G:={ps:=[i26],rs:=[i26],dp:=true,pre:=fun x=>qeh x.1,fn:=fun x=>(cpC x.1,())}
noncomputable def qd4 (N:Nat) (v2:Int) (v3:List (Val Y83)) (v4:Int) (v5:Int) (k0:(List (Val Y83))→Option (qa [i26])):Nat→Int→(List (Val Y83))→Option (qa [i26])
 | 0,_,_=>none
 | n+1,v1,v6=>bif (decide (v1<(v3.length:Int)))then (chk (0≤v1∧v1<(v3.length:Int)) (chk (qb2 (v3.getD v1.toNat (qc Y83))) (chk (v6.length+([(((idA (v3.getD v1.toNat (qc Y83))).1:List (Val (.int .i64))),(((idA (v3.getD v1.toNat (qc Y83))).2).1:Int),(((idA (v3.getD v1.toNat (qc Y83))).2).2:Bool))]:List (Val Y83)).length≤1048576) (qd4 N v2 v3 v4 v5 k0 n (IntKind.i64.wrap (v1+(1:Int))) (v6++([(((idA (v3.getD v1.toNat (qc Y83))).1:List (Val (.int .i64))),(((idA (v3.getD v1.toNat (qc Y83))).2).1:Int),(((idA (v3.getD v1.toNat (qc Y83))).2).2:Bool))]:List (Val Y83)))))))else (k0 v6)
noncomputable def qnM (N:Nat) (v0:Val Y26):Option (qa [i26]):=qd4 N (v0.1:Int) (v0.2:List (Val Y83)) (0:Int) (v0.1:Int) (fun (v8:List (Val Y83))=>some (((v0.1:Int),v8),())) N (0:Int) ([]:List (Val Y83))
def qfT:Gam:=[(125,qgm)]
theorem qsz:Gam.get qfT 125=some qgm:=rfl
def qig:Nm:=⟨[false,true,true,true,true],[.box 3 1 83 Y83],false⟩
theorem qtD:qig.zero=false:=rfl
theorem qyv:qig.fix=[.box 3 1 83 Y83]:=rfl
theorem qzX:qig.keep=[false,true,true,true,true]:=rfl
def qpa:Nm:=⟨[false,false,true,true],[],false⟩
theorem qtU:qpa.zero=false:=rfl
theorem qAE:qpa.fix=[]:=rfl
theorem qxL:qpa.keep=[false,false,true,true]:=rfl
def qnU:Nm:=⟨[false,true,true,true,true],[],false⟩
theorem qvW:qnU.zero=false:=rfl
theorem qzz:qnU.fix=[]:=rfl
theorem qwN:qnU.keep=[false,true,true,true,true]:=rfl
def qf3:Nat→Tree:=fun i=>if i=5 then .quiet 2 (.quiet 3 (.quiet 4 (.quiet 5 (.quiet 6 (.alt 0 (.alt 1 (.alt 7 (.alt 8 (.alt 9 (.quiet 10 (.alt 11 .done .stop)) .stop) .stop) .stop) (.alt 7 (.alt 1 (.alt 8 (.alt 9 (.quiet 10 (.alt 11 .done .stop)) .stop) .stop) (.alt 8 (.quiet 1 (.alt 9 (.quiet 10 (.alt 11 .done .stop)) .stop)) .stop)) .stop)) (.alt 7 (.alt 0 (.alt 1 (.alt 8 (.alt 9 (.quiet 10 (.alt 11 .done .stop)) .stop) .stop) (.alt 8 (.quiet 1 (.alt 9 (.quiet 10 (.alt 11 .done .stop)) .stop)) .stop)) (.alt 8 (.quiet 0 (.quiet 1 (.alt 9 (.quiet 10 (.alt 11 .done .stop)) .stop))) .stop)) .stop))))))else .done
def qhm:Nat→Nm:=fun i=>if i=3 then qig else ⟨[],[],false⟩
def qiF:Nat→Option Jn:=fun _=>none
def qjg:Nat→Option Nm:=fun i=>if i=0 then some qpa else none
def qhs:Nat→Option Nm:=fun i=>if i=5 then some qnU else none
theorem qMX:qg qf3 (Try.f107.body.getD .skip)=true:=by kernel_rfl
def qbh (N:Nat):Tab:={tr:=qf3,lp:=qhm,ex:=qjg,rg:=qhs,jn:=qiF,fuel:=N}
theorem qz3 (N:Nat):(qbh N).pins=false:=rfl
theorem qOP (N:Nat):qk Try.prog (qbh N):=qn fun _=>rfl
theorem qrO (N:Nat) (i:Nat):(qbh N).tr i=qf3 i:=rfl
theorem qtu (N:Nat) (i:Nat):(qbh N).lp i=qhm i:=rfl
theorem qx4 (N:Nat) (i:Nat):(qbh N).ex i=qjg i:=rfl
theorem qy9 (N:Nat) (i:Nat):(qbh N).rg i=qhs i:=rfl
theorem qxj (N:Nat) (i:Nat):(qbh N).jn i=qiF i:=rfl
theorem qxh (N:Nat):(qbh N).fuel=N:=rfl
noncomputable def qDZ:Code:=cut [true,true,false,true,true,true] (Try.f107.body.getD .skip)
theorem qJr {N:Nat} {Q:X→St→Option (qa [i26])} {e:List LV} {h:List Blk}:qb tt qfT (qbh N) qDZ Q ⟨e,h⟩=qb tt qfT (qbh N) (cut [true,true,false,true,true,true] (Try.f107.body.getD .skip)) Q ⟨e,h⟩:=rfl
theorem qNy (N:Nat) (v2:Int) (v3:List (Val Y83)) (v4:Int) (v5:Int) {k0:(List (Val Y83))→Option (qa [i26])} {Q:X→St→Option (qa [i26])} {c:Code} (hc:c=qDZ) (hret: ∀st,Q .ret st=qy tt true [i26] [.cell 2 26] st) (h0: ∀(v7:List (Val Y83)),Q (.exit 0) ⟨[u,u,.one (.ptr 0 0 0),.one (.ptr 1 0 0),u,u,u,u,u,u,u,u,u,u,u,u,u,u,u,u,u,u,u,u,u,u,u],[.box [.int .i64 v4,.nils],.box [.int .i64 v5,.own 2],.row 83 Y83 v7 true true 0]⟩=k0 v7): ∀(n:Nat) (v1:Int) (v6:List (Val Y83)),qx (qb tt qfT (qbh N) c) false qig Q n ⟨[u,.one (.ptr 0 0 0),.one (.ptr 1 0 0),.one (.ptr 2 0 0),.one (.int .i64 v1),u,u,u,u,u,u,u,u,u,u,u,u,u,u,u,u,u,u,u,u,u,u],[.box [.int .i64 v2,.sl 83 Y83 v3 4],.box [.int .i64 v4,.nils],.box [.int .i64 v5,.own 3],.row 83 Y83 v6 true true 0]⟩=qd4 N v2 v3 v4 v5 k0 n v1 v6:=by
 subst hc;intro n;induction n with
 | zero=>intros;rfl
 | succ n ih=>
   intro v1 v6
   rw [qI,qJr,qd4];unfold Try.f107
   simp (maxSteps:=10000000) -implicitDefEqProofs [qrO,qf3,qtu,qhm,qx4,qjg,qy9,qhs,qxj,qiF,qxh,qz3,qyv,qzX,qtD,qAE,qxL,qtU,qzz,qwN,qvW,qsz,qgm,hret,h0,ih]
theorem qLW (N:Nat) (v0:Val Y26):qb tt qfT (qbh N) (Try.f107.body.getD .skip) (qh tt true [i26] [.cell 2 26]) (ql [i26] 27 (v0,()))=qnM N v0:=by
 unfold Try.f107
 simp (maxSteps:=10000000) -implicitDefEqProofs [qrO,qf3,qtu,qhm,qx4,qjg,qy9,qhs,qxj,qiF,qxh,qz3,qyv,qzX,qtD,qAE,qxL,qtU,qzz,qwN,qvW,qsz,qgm]
 rewrite [qNy (k0:=(fun (v8:List (Val Y83))=>some (((v0.1:Int),v8),()))) N _ _ _ _ ?_ ?_ ?_]
 ·rewrite [qnM];first | rfl | simp (maxSteps:=10000000) -implicitDefEqProofs []
 ·rfl
 ·intro;simp only [qD,qE,qF,qC]
 ·intro v8;simp (maxSteps:=10000000) -implicitDefEqProofs [qrO,qf3,qtu,qhm,qx4,qjg,qy9,qhs,qxj,qiF,qxh,qz3,qyv,qzX,qtD,qAE,qxL,qtU,qzz,qwN,qvW,qsz,qgm]
end Go.T
