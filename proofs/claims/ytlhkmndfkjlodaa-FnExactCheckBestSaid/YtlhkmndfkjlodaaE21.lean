/- Closures. Run. -/
import Derived.Test.YtlhkmndfkjlodaaE5
import Derived.Test.YtlhkmndfkjlodaaB9
import Derived.Test.YtlhkmndfkjlodaaT12
import Derived.Test.YtlhkmndfkjlodaaB6n
set_option linter.unusedSimpArgs false
set_option linter.unusedVariables false
namespace Go.T
open Go Go.Proofs
set_option maxHeartbeats 4000000
set_option maxRecDepth 100000
def qfM:G:={ps:=[i26],rs:=[i26],dp:=true,pre:=fun x=>qeh x.1,fn:=fun x=>(cpC x.1,())}
noncomputable def qdz (N:Nat) (v1:List (Val Y83)) (v2:Int) (v4:Int) (v5:Int) (k0:(List (Val Y83))→Option (qa [i26])):Nat→Int→(List (Val Y83))→Option (qa [i26])
 | 0,_,_=>none
 | n+1,v3,v6=>bif (decide (v3<v2))then (chk (0≤v3∧v3<(v1.length:Int)) (chk (qb2 (v1.getD v3.toNat (qc Y83))) (chk (v6.length+([(((idA (v1.getD v3.toNat (qc Y83))).1:List (Val (.int .i64))),(((idA (v1.getD v3.toNat (qc Y83))).2).1:Int),(((idA (v1.getD v3.toNat (qc Y83))).2).2:Bool))]:List (Val Y83)).length≤1048576) (qdz N v1 v2 v4 v5 k0 n (IntKind.i64.wrap (v3+(1:Int))) (v6++([(((idA (v1.getD v3.toNat (qc Y83))).1:List (Val (.int .i64))),(((idA (v1.getD v3.toNat (qc Y83))).2).1:Int),(((idA (v1.getD v3.toNat (qc Y83))).2).2:Bool))]:List (Val Y83)))))))else (k0 v6)
noncomputable def qnE (N:Nat) (v0:Val Y26):Option (qa [i26]):=chk (0≤(0:Int)∧(0:Int)≤((v0.2:List (Val Y83)).length:Int)∧((v0.2:List (Val Y83)).length:Int)≤1048576) (qdz N (v0.2:List (Val Y83)) ((v0.2:List (Val Y83)).length:Int) (0:Int) (v0.1:Int) (fun (v8:List (Val Y83))=>some (((v0.1:Int),v8),())) N (0:Int) (List.replicate (0:Int).toNat (qc Y83)))
def qgp:Gam:=[(112,qbI)]
theorem qsw:Gam.get qgp 112=some qbI:=rfl
def qjr:Nm:=⟨[false,false,true,true,false,false,false,false,false,false,false,false,false,false,true,true,true],[],false⟩
theorem qrQ:qjr.zero=false:=rfl
theorem qpL:qjr.fix=[]:=rfl
theorem qyu:qjr.keep=[false,false,true,true,false,false,false,false,false,false,false,false,false,false,true,true,true]:=rfl
def qmN:Nm:=⟨[false,false,true,true],[],false⟩
theorem qBs:qmN.zero=false:=rfl
theorem qz7:qmN.fix=[]:=rfl
theorem qxl:qmN.keep=[false,false,true,true]:=rfl
def qll:Nm:=⟨[false,true,true,true],[],false⟩
theorem qur:qll.zero=false:=rfl
theorem qA6:qll.fix=[]:=rfl
theorem qsl:qll.keep=[false,true,true,true]:=rfl
def qoP:Nm:=⟨[false,false,true,true,false,false,false,false,false,false,false,false,false,false,true,true,true],[],false⟩
theorem qyG:qoP.zero=false:=rfl
theorem qx2:qoP.fix=[]:=rfl
theorem qyg:qoP.keep=[false,false,true,true,false,false,false,false,false,false,false,false,false,false,true,true,true]:=rfl
def qfY:Nat→Tree:=fun i=>if i=1 then .grow 0 (.grow 1 (.grow 2 (.grow 3 (.grow 4 (.alt 5 (.first 6 (.alt 7 (.alt 8 .done .stop) .stop)) (.alt 7 (.alt 5 (.quiet 6 (.alt 8 .done .stop)) .stop) .stop))))))else if i=5 then .quiet 2 (.alt 0 (.alt 1 (.alt 3 (.alt 4 (.alt 5 (.quiet 6 (.alt 7 .done .stop)) .stop) .stop) .stop) (.alt 3 (.alt 1 (.alt 4 (.alt 5 (.quiet 6 (.alt 7 .done .stop)) .stop) .stop) (.alt 4 (.quiet 1 (.alt 5 (.quiet 6 (.alt 7 .done .stop)) .stop)) .stop)) .stop)) (.alt 3 (.alt 0 (.alt 1 (.alt 4 (.alt 5 (.quiet 6 (.alt 7 .done .stop)) .stop) .stop) (.alt 4 (.quiet 1 (.alt 5 (.quiet 6 (.alt 7 .done .stop)) .stop)) .stop)) (.alt 4 (.quiet 0 (.quiet 1 (.alt 5 (.quiet 6 (.alt 7 .done .stop)) .stop))) .stop)) .stop))else .done
def qhR:Nat→Nm:=fun i=>if i=3 then qjr else ⟨[],[],false⟩
def qij:Nat→Option Jn:=fun _=>none
def qjc:Nat→Option Nm:=fun i=>if i=0 then some qmN else none
def qhW:Nat→Option Nm:=fun i=>if i=1 then some qll else if i=5 then some qoP else none
theorem qFz:qg qfY (Try.f111.body.getD .skip)=true:=by kernel_rfl
def qbg (N:Nat):Tab:={tr:=qfY,lp:=qhR,ex:=qjc,rg:=qhW,jn:=qij,fuel:=N}
theorem qyp (N:Nat):(qbg N).pins=false:=rfl
theorem qGp (N:Nat):qk Try.prog (qbg N):=qn fun _=>rfl
theorem qBp (N:Nat) (i:Nat):(qbg N).tr i=qfY i:=rfl
theorem qBq (N:Nat) (i:Nat):(qbg N).lp i=qhR i:=rfl
theorem quY (N:Nat) (i:Nat):(qbg N).ex i=qjc i:=rfl
theorem qrJ (N:Nat) (i:Nat):(qbg N).rg i=qhW i:=rfl
theorem qyF (N:Nat) (i:Nat):(qbg N).jn i=qij i:=rfl
theorem qxx (N:Nat):(qbg N).fuel=N:=rfl
noncomputable def qB8:Code:=cut [true,true,false,true,true,true] (Try.f111.body.getD .skip)
theorem qLM {N:Nat} {Q:X→St→Option (qa [i26])} {e:List LV} {h:List Blk}:qb tt qgp (qbg N) qB8 Q ⟨e,h⟩=qb tt qgp (qbg N) (cut [true,true,false,true,true,true] (Try.f111.body.getD .skip)) Q ⟨e,h⟩:=rfl
theorem qIG (N:Nat) (v1:List (Val Y83)) (v2:Int) (v4:Int) (v5:Int) {k0:(List (Val Y83))→Option (qa [i26])} {Q:X→St→Option (qa [i26])} {c:Code} (hc:c=qB8) (hret: ∀st,Q .ret st=qy tt true [i26] [.cell 2 26] st) (h0: ∀(v7:List (Val Y83)),Q (.exit 0) ⟨[u,u,.one (.ptr 0 0 0),.one (.ptr 1 0 0),u,u,u,u,u,u,u,u,u,u,u,u,u,u,u,u,u,u,u,u,u,u,u,u,u],[.box [.int .i64 v4,.nils],.box [.int .i64 v5,.own 2],.row 83 Y83 v7 true true 0]⟩=k0 v7): ∀(n:Nat) (v3:Int) (v6:List (Val Y83)),qx (qb tt qgp (qbg N) c) false qjr Q n ⟨[u,u,.one (.ptr 0 0 0),.one (.ptr 1 0 0),u,u,u,u,u,u,u,u,u,u,.one (.sl 83 Y83 v1 3),.one (.int .i64 v2),.one (.int .i64 v3),u,u,u,u,u,u,u,u,u,u,u,u],[.box [.int .i64 v4,.nils],.box [.int .i64 v5,.own 2],.row 83 Y83 v6 true true 0]⟩=qdz N v1 v2 v4 v5 k0 n v3 v6:=by
 subst hc;intro n;induction n with
 | zero=>intros;rfl
 | succ n ih=>
   intro v3 v6
   rw [qI,qLM,qdz];unfold Try.f111
   simp (maxSteps:=10000000) -implicitDefEqProofs [qBp,qfY,qBq,qhR,quY,qjc,qrJ,qhW,qyF,qij,qxx,qyp,qpL,qyu,qrQ,qz7,qxl,qBs,qA6,qsl,qur,qx2,qyg,qyG,qsw,qbI,hret,h0,ih]
theorem qGs (N:Nat) (v0:Val Y26):qb tt qgp (qbg N) (Try.f111.body.getD .skip) (qh tt true [i26] [.cell 2 26]) (ql [i26] 29 (v0,()))=qnE N v0:=by
 unfold Try.f111
 simp (maxSteps:=10000000) -implicitDefEqProofs [qBp,qfY,qBq,qhR,quY,qjc,qrJ,qhW,qyF,qij,qxx,qyp,qpL,qyu,qrQ,qz7,qxl,qBs,qA6,qsl,qur,qx2,qyg,qyG,qsw,qbI]
 rewrite [qIG (k0:=(fun (v8:List (Val Y83))=>some (((v0.1:Int),v8),()))) N _ _ _ _ ?_ ?_ ?_]
 ·rewrite [qnE];first | rfl | simp (maxSteps:=10000000) -implicitDefEqProofs []
 ·rfl
 ·intro;simp only [qD,qE,qF,qC]
 ·intro v8;simp (maxSteps:=10000000) -implicitDefEqProofs [qBp,qfY,qBq,qhR,quY,qjc,qrJ,qhW,qyF,qij,qxx,qyp,qpL,qyu,qrQ,qz7,qxl,qBs,qA6,qsl,qur,qx2,qyg,qyG,qsw,qbI]
end Go.T
