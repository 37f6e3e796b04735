/- Emptiness; what cells imply: run. -/
import Derived.Test.YthefcjjgchekiaaGreatB10n
set_option linter.unusedSimpArgs false
set_option linter.unusedVariables false
namespace Go.T
open Go Go.Proofs
set_option maxHeartbeats 4000000
set_option maxRecDepth 100000
def qp8 (c:Val Y33):Bool×Bool:=bif qH c then (match qbp (-1) (c.1:Int).toNat (qO c.1 c.2)with
 | some y=>(decide ((0:Int)<(List.length (α:=Val qa) y.2:Int)),true)
 | none=>(false,false))else (false,false)
def qbS:Nat→Val Y33→Option (List (Val Y33))
 | 0,x=>some [x]
 | k+1,x=>bif (qU x k).2 then (match qbS k (qU x k).1 with
   | some l=>some (l++[x])
   | none=>none)else none
def qeN (c:Val Y33):List (Val Y33)×Bool:=bif qH c then (match qbS (c.1:Int).toNat (qO c.1 c.2)with
 | some l=>(l,true)
 | none=>([],false))else ([],false)
def q0l (n:Val qa) (d:Int):Val Y33:=(d,[n])
def qEZ (c:Val Y33) (a:Val qa):Bool×Bool:=bif (qEH a).2&&(qgB c (q0l (qEH a).1 (List.length (α:=Int) a.1:Int))).2 then qp8 (qgB c (q0l (qEH a).1 (List.length (α:=Int) a.1:Int))).1 else (false,false)
def qfW:G:={ps:=[i33],rs:=[i48,i4],dp:=true,pre:=fun _=>True,fn:=fun x=>((qeN x.1).1,(qeN x.1).2,())}
noncomputable def qjV (N:Nat) (k0:(List (Val Y33))→Option (qc [i48,i4])):Nat→Int→(List (Val Y33))→Option (qc [i48,i4])
 | 0,_,_=>none
 | n+1,v1,v2=>bif (decide ((0:Int)≤v1))then (chk (0≤(IntKind.i64.wrap (v1+(1:Int)))∧(IntKind.i64.wrap (v1+(1:Int)))<(v2.length:Int)) (chk ((IntKind.i64.wrap (v1+(1:Int))).toNat<v2.length) (bif (!((qcp (v2.getD ((IntKind.i64.wrap (v1+(1:Int))).toNat) (qb Y33)) v1).2:Bool))then (some (([]:List (Val Y33)),false,()))else (chk (0≤v1∧v1<(v2.length:Int)) (chk (v1.toNat<v2.length) (qjV N k0 n (IntKind.i64.wrap (v1 - (1:Int))) (v2.set v1.toNat ((((qcp (v2.getD ((IntKind.i64.wrap (v1+(1:Int))).toNat) (qb Y33)) v1).1).1:Int),(((qcp (v2.getD ((IntKind.i64.wrap (v1+(1:Int))).toNat) (qb Y33)) v1).1).2:List (Val qa))))))))))else (k0 v2)
noncomputable def qEt (N:Nat) (v0:Val Y33):Option (qc [i48,i4]):=bif (!((qH v0):Bool))then (some (([]:List (Val Y33)),false,()))else (chk (0≤(IntKind.i64.wrap ((v0.1:Int)+(1:Int)))∧(IntKind.i64.wrap ((v0.1:Int)+(1:Int)))≤(IntKind.i64.wrap ((v0.1:Int)+(1:Int)))∧(IntKind.i64.wrap ((v0.1:Int)+(1:Int)))≤1048576) (chk (qbR (v0.1:Int) (v0.2:List (Val qa))) (chk (0≤(v0.1:Int)∧(v0.1:Int)<((List.replicate (IntKind.i64.wrap ((v0.1:Int)+(1:Int))).toNat (qb Y33)).length:Int)) (chk ((v0.1:Int).toNat<(List.replicate (IntKind.i64.wrap ((v0.1:Int)+(1:Int))).toNat (qb Y33)).length) (qjV N (fun (v4:List (Val Y33))=>some (v4,true,())) N (IntKind.i64.wrap ((v0.1:Int) - (1:Int))) ((List.replicate (IntKind.i64.wrap ((v0.1:Int)+(1:Int))).toNat (qb Y33)).set ((v0.1:Int).toNat) (qO (v0.1:Int) (v0.2:List (Val qa)))))))))
def qiM:Gam:=[(199,qaS),(230,qcP),(237,qeA)]
theorem qQJ:Gam.get qiM 199=some qaS:=rfl
theorem qEY:Gam.get qiM 230=some qcP:=rfl
theorem qSy:Gam.get qiM 237=some qeA:=rfl
def qwf:Nm:=⟨[false,false,false,false,true,true],[],false⟩
theorem qJ2:qwf.zero=false:=rfl
theorem qPf:qwf.fix=[]:=rfl
theorem qWk:qwf.keep=[false,false,false,false,true,true]:=rfl
def qz0:Nm:=⟨[false,false,false,false,true],[],false⟩
theorem qFQ:qz0.zero=false:=rfl
theorem qSY:qz0.fix=[]:=rfl
theorem qUD:qz0.keep=[false,false,false,false,true]:=rfl
def qEe:Nm:=⟨[false,true,false,false,true],[],false⟩
theorem qI9:qEe.zero=false:=rfl
theorem qP5:qEe.fix=[]:=rfl
theorem qUZ:qEe.keep=[false,true,false,false,true]:=rfl
def qnW:Nat→Tree:=fun i=>if i=4 then .quiet 3 (.quiet 4 (.quiet 5 (.quiet 6 (.first 0 (.alt 1 (.alt 2 (.alt 7 (.quiet 8 (.alt 9 .done .stop)) .stop) (.alt 7 (.quiet 2 (.quiet 8 (.alt 9 .done .stop))) .stop)) (.alt 7 (.quiet 1 (.quiet 2 (.quiet 8 (.alt 9 .done .stop)))) .stop))))))else .done
def qs1:Nat→Nm:=fun i=>if i=6 then qwf else ⟨[],[],false⟩
def qtc:Nat→Option Jn:=fun _=>none
def qw2:Nat→Option Nm:=fun i=>if i=0 then some qz0 else none
def qr2:Nat→Option Nm:=fun i=>if i=4 then some qEe else none
theorem znv:qn qnW (Tryz.f225.body.getD .skip)=true:=by kernel_rfl
def qdh (N:Nat):Tab:={tr:=qnW,lp:=qs1,ex:=qw2,rg:=qr2,jn:=qtc,fuel:=N}
theorem qN1 (N:Nat):(qdh N).pins=false:=rfl
theorem q6w (N:Nat):qp Tryz.prog (qdh N):=qv fun _=>rfl
theorem qLV (N:Nat) (i:Nat):(qdh N).tr i=qnW i:=rfl
theorem qUY (N:Nat) (i:Nat):(qdh N).lp i=qs1 i:=rfl
theorem qTH (N:Nat) (i:Nat):(qdh N).ex i=qw2 i:=rfl
theorem qMM (N:Nat) (i:Nat):(qdh N).rg i=qr2 i:=rfl
theorem qUu (N:Nat) (i:Nat):(qdh N).jn i=qtc i:=rfl
theorem qPV (N:Nat):(qdh N).fuel=N:=rfl
noncomputable def q1n:Code:=cut [true,true,true,true,false,true,true,true] (Tryz.f225.body.getD .skip)
theorem zkz {N:Nat} {Q:X→St→Option (qc [i48,i4])} {e:List LV} {h:List Blk}:qe tt qiM (qdh N) q1n Q ⟨e,h⟩=qe tt qiM (qdh N) (cut [true,true,true,true,false,true,true,true] (Tryz.f225.body.getD .skip)) Q ⟨e,h⟩:=rfl
theorem zlU (N:Nat) {k0:(List (Val Y33))→Option (qc [i48,i4])} {Q:X→St→Option (qc [i48,i4])} {c:Code} (hc:c=q1n) (hret: ∀st,Q .ret st=qI tt true [i48,i4] [.tmp 2,.tmp 3] st) (h0: ∀(v3:List (Val Y33)),Q (.exit 0) ⟨[u,u,u,u,.one (.own 0),u,u,u,u,u,u,u,u,u,u,u,u,u,u,u,u,u,u,u,u,u,u,u,u,u,u,u,u,u,u,u,u,u,u,u,u,u,u,u,u,u,u,u],[.row 33 Y33 v3 true true 0]⟩=k0 v3): ∀(n:Nat) (v1:Int) (v2:List (Val Y33)),qE (qe tt qiM (qdh N) c) false qwf Q n ⟨[u,u,u,u,.one (.own 0),.one (.int .i64 v1),u,u,u,u,u,u,u,u,u,u,u,u,u,u,u,u,u,u,u,u,u,u,u,u,u,u,u,u,u,u,u,u,u,u,u,u,u,u,u,u,u,u],[.row 33 Y33 v2 true true 0]⟩=qjV N k0 n v1 v2:=by
 subst hc;intro n;induction n with
 | zero=>intros;rfl
 | succ n ih=>
   intro v1 v2
   rw [qN,zkz,qjV];unfold Tryz.f225
   simp (maxSteps:=10000000) -implicitDefEqProofs [qLV,qnW,qUY,qs1,qTH,qw2,qMM,qr2,qUu,qtc,qPV,qN1,qPf,qWk,qJ2,qSY,qUD,qFQ,qP5,qUZ,qI9,qQJ,qEY,qSy,qaS,qcP,qeA,hret,h0,ih]
theorem zgA (N:Nat) (v0:Val Y33):qe tt qiM (qdh N) (Tryz.f225.body.getD .skip) (qt tt true [i48,i4] [.tmp 2,.tmp 3]) (qw [i33] 48 (v0,()))=qEt N v0:=by
 unfold Tryz.f225
 simp (maxSteps:=10000000) -implicitDefEqProofs [qLV,qnW,qUY,qs1,qTH,qw2,qMM,qr2,qUu,qtc,qPV,qN1,qPf,qWk,qJ2,qSY,qUD,qFQ,qP5,qUZ,qI9,qQJ,qEY,qSy,qaS,qcP,qeA]
 rewrite [zlU (k0:=(fun (v4:List (Val Y33))=>some (v4,true,()))) N ?_ ?_ ?_]
 ·rewrite [qEt];first | rfl | simp (maxSteps:=10000000) -implicitDefEqProofs []
 ·rfl
 ·intro;simp only [qJ,qL,qK,qB]
 ·intro v4;simp (maxSteps:=10000000) -implicitDefEqProofs [qLV,qnW,qUY,qs1,qTH,qw2,qMM,qr2,qUu,qtc,qPV,qN1,qPf,qWk,qJ2,qSY,qUD,qFQ,qP5,qUZ,qI9,qQJ,qEY,qSy,qaS,qcP,qeA]
end Go.T
