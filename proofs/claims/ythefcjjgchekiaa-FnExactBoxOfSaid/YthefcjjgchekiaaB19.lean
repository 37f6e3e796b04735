/- Boxes. -/
import Derived.Test.YthefcjjgchekiaaB18
set_option linter.unusedSimpArgs false
set_option linter.unusedVariables false
namespace Go.T
open Go Go.Proofs
set_option maxHeartbeats 4000000
set_option maxRecDepth 100000
def qcS (c:Val Y32):Nat→Nat→List (Val Y66)→Option (List (Val Y66))
 | 0,_,s=>some s
 | k+1,v,s=>bif (qC c v).2 then qcS c k (v+1) (s++[(qC c v).1])else none
def qS (c:Val Y32):List (Val Y66)×Bool:=bif qac c then (match qcS c (c.1:Int).toNat 0 []with
 | some l=>(l,true)
 | none=>([],false))else ([],false)
def qpf (c:Val Y32):Prop:=qda c
def g20:G:={ps:=[i32],rs:=[i46,i4],dp:=true,pre:=fun _=>True,fn:=fun x=>((qS x.1).1,(qS x.1).2,())}
def g19:G:={ps:=[i32],rs:=[i46,i4],dp:=true,pre:=fun x=>qpf x.1,fn:=fun x=>((qS x.1).1,(qS x.1).2,())}
noncomputable def qgg (N:Nat) (v2:Int) (v3:List (Val Y36)) (k0:(List (Val Y66))→Option (qb [i46,i4])):Nat→Int→(List (Val Y66))→Option (qb [i46,i4])
 | 0,_,_=>none
 | n+1,v1,v4=>bif (decide (v1<v2))then (bif (!((qC (v2,v3) v1).2:Bool))then (some (([]:List (Val Y66)),false,()))else (chk (v4.length+([((((qC (v2,v3) v1).1).1:Bool),((((((qC (v2,v3) v1).1).2).1).1:Int),(((((qC (v2,v3) v1).1).2).1).2:Int)),(((((qC (v2,v3) v1).1).2).2).1:Bool),((((((qC (v2,v3) v1).1).2).2).2).1:Bool),(((((((((qC (v2,v3) v1).1).2).2).2).2).1).1:Int),((((((((qC (v2,v3) v1).1).2).2).2).2).1).2:Int)),((((((((qC (v2,v3) v1).1).2).2).2).2).2).1:Bool),((((((((qC (v2,v3) v1).1).2).2).2).2).2).2:Bool))]:List (Val Y66)).length≤1048576) (qgg N v2 v3 k0 n (IntKind.i64.wrap (v1+(1:Int))) (v4++([((((qC (v2,v3) v1).1).1:Bool),((((((qC (v2,v3) v1).1).2).1).1:Int),(((((qC (v2,v3) v1).1).2).1).2:Int)),(((((qC (v2,v3) v1).1).2).2).1:Bool),((((((qC (v2,v3) v1).1).2).2).2).1:Bool),(((((((((qC (v2,v3) v1).1).2).2).2).2).1).1:Int),((((((((qC (v2,v3) v1).1).2).2).2).2).1).2:Int)),((((((((qC (v2,v3) v1).1).2).2).2).2).2).1:Bool),((((((((qC (v2,v3) v1).1).2).2).2).2).2).2:Bool))]:List (Val Y66))))))else (k0 v4)
noncomputable def m20 (N:Nat) (v0:Val Y32):Option (qb [i46,i4]):=bif (!((qac v0):Bool))then (some (([]:List (Val Y66)),false,()))else (qgg N (v0.1:Int) (v0.2:List (Val Y36)) (fun (v6:List (Val Y66))=>some (v6,true,())) N (0:Int) ([]:List (Val Y66)))
def Γ20:Gam:=[(40,g40),(41,g41)]
theorem qzk:Gam.get Γ20 40=some g40:=rfl
theorem qyX:Gam.get Γ20 41=some g41:=rfl
def qjW:Nm:=⟨[false,true,false,false,true,true],[],false⟩
theorem qw3:qjW.zero=false:=rfl
theorem qtj:qjW.fix=[]:=rfl
theorem qsm:qjW.keep=[false,true,false,false,true,true]:=rfl
def qoa:Nm:=⟨[false,false,false,false,true],[],false⟩
theorem qCg:qoa.zero=false:=rfl
theorem qto:qoa.fix=[]:=rfl
theorem qtP:qoa.keep=[false,false,false,false,true]:=rfl
def qhd:Nat→Tree:=fun _=> .done
def qiF:Nat→Nm:=fun i=>if i=5 then qjW else ⟨[],[],false⟩
def qkA:Nat→Option Jn:=fun _=>none
def qjD:Nat→Option Nm:=fun i=>if i=0 then some qoa else none
def qkR:Nat→Option Nm:=fun _=>none
theorem p20:ql qhd (Try.f20.body.getD .skip)=true:=by kernel_rfl
def T20 (N:Nat):Tab:={tr:=qhd,lp:=qiF,ex:=qjD,rg:=qkR,jn:=qkA,fuel:=N}
theorem qAp (N:Nat):(T20 N).pins=false:=rfl
theorem qK5 (N:Nat):qm Try.prog (T20 N):=qu fun _=>rfl
theorem quj (N:Nat) (i:Nat):(T20 N).tr i=qhd i:=rfl
theorem qzp (N:Nat) (i:Nat):(T20 N).lp i=qiF i:=rfl
theorem qzt (N:Nat) (i:Nat):(T20 N).ex i=qjD i:=rfl
theorem quv (N:Nat) (i:Nat):(T20 N).rg i=qkR i:=rfl
theorem qsT (N:Nat) (i:Nat):(T20 N).jn i=qkA i:=rfl
theorem qwr (N:Nat):(T20 N).fuel=N:=rfl
noncomputable def qFe:Code:=cut [true,true,true,false,true,true,true] (Try.f20.body.getD .skip)
theorem qG3 {N:Nat} {Q:X→St→Option (qb [i46,i4])} {e:List LV} {h:List Blk}:qd tt Γ20 (T20 N) qFe Q ⟨e,h⟩=qd tt Γ20 (T20 N) (cut [true,true,true,false,true,true,true] (Try.f20.body.getD .skip)) Q ⟨e,h⟩:=rfl
theorem qNb (N:Nat) (v2:Int) (v3:List (Val Y36)) {k0:(List (Val Y66))→Option (qb [i46,i4])} {Q:X→St→Option (qb [i46,i4])} {c:Code} (hc:c=qFe) (hret: ∀st,Q .ret st=qI tt true [i46,i4] [.tmp 2,.tmp 3] st) (h0: ∀(v5:List (Val Y66)),Q (.exit 0) ⟨[u,u,u,u,.one (.own 0),u,u,u,u,u,u,u,u,u,u,u,u,u,u,u,u,u,u,u,u,u,u,u,u,u,u],[.row 66 Y66 v5 true true 0]⟩=k0 v5): ∀(n:Nat) (v1:Int) (v4:List (Val Y66)),qD (qd tt Γ20 (T20 N) c) false qjW Q n ⟨[u,.one (.ptr 0 0 0),u,u,.one (.own 1),.one (.int .i64 v1),u,u,u,u,u,u,u,u,u,u,u,u,u,u,u,u,u,u,u,u,u,u,u,u,u],[.box [.int .i64 v2,.sl 36 Y36 v3 2],.row 66 Y66 v4 true true 0]⟩=qgg N v2 v3 k0 n v1 v4:=by
 subst hc;intro n;induction n with
 | zero=>intros;rfl
 | succ n ih=>
   intro v1 v4
   rw [qR,qG3,qgg];unfold Try.f20
   simp (maxSteps:=10000000) -implicitDefEqProofs [quj,qhd,qzp,qiF,qzt,qjD,quv,qkR,qsT,qkA,qwr,qAp,qtj,qsm,qw3,qto,qtP,qCg,qzk,qyX,g40,g41,hret,h0,ih]
theorem qQg (N:Nat) (v0:Val Y32):qd tt Γ20 (T20 N) (Try.f20.body.getD .skip) (qp tt true [i46,i4] [.tmp 2,.tmp 3]) (qt [i32] 31 (v0,()))=m20 N v0:=by
 unfold Try.f20
 simp (maxSteps:=10000000) -implicitDefEqProofs [quj,qhd,qzp,qiF,qzt,qjD,quv,qkR,qsT,qkA,qwr,qAp,qtj,qsm,qw3,qto,qtP,qCg,qzk,qyX,g40,g41]
 rewrite [qNb (k0:=(fun (v6:List (Val Y66))=>some (v6,true,()))) N _ _ ?_ ?_ ?_]
 ·rewrite [m20];first | rfl | simp (maxSteps:=10000000) -implicitDefEqProofs []
 ·rfl
 ·intro;simp only [qK,qM,qO,qv]
 ·intro v6;simp (maxSteps:=10000000) -implicitDefEqProofs [quj,qhd,qzp,qiF,qzt,qjD,quv,qkR,qsT,qkA,qwr,qAp,qtj,qsm,qw3,qto,qtP,qCg,qzk,qyX,g40,g41]
noncomputable def qeO (N:Nat) (v2:Int) (v3:List (Val Y36)) (k0:(List (Val Y66))→Option (qb [i46,i4])):Nat→Int→(List (Val Y66))→Option (qb [i46,i4])
 | 0,_,_=>none
 | n+1,v1,v4=>bif (decide (v1<v2))then (chk (qda (v2,v3)) (bif ((qac (v2,v3)):Bool)then (chk (qnt (v2,v3) v1) (bif (!((qC (v2,v3) v1).2:Bool))then (some (([]:List (Val Y66)),false,()))else (chk (v4.length+([((((qC (v2,v3) v1).1).1:Bool),((((((qC (v2,v3) v1).1).2).1).1:Int),(((((qC (v2,v3) v1).1).2).1).2:Int)),(((((qC (v2,v3) v1).1).2).2).1:Bool),((((((qC (v2,v3) v1).1).2).2).2).1:Bool),(((((((((qC (v2,v3) v1).1).2).2).2).2).1).1:Int),((((((((qC (v2,v3) v1).1).2).2).2).2).1).2:Int)),((((((((qC (v2,v3) v1).1).2).2).2).2).2).1:Bool),((((((((qC (v2,v3) v1).1).2).2).2).2).2).2:Bool))]:List (Val Y66)).length≤1048576) (qeO N v2 v3 k0 n (IntKind.i64.wrap (v1+(1:Int))) (v4++([((((qC (v2,v3) v1).1).1:Bool),((((((qC (v2,v3) v1).1).2).1).1:Int),(((((qC (v2,v3) v1).1).2).1).2:Int)),(((((qC (v2,v3) v1).1).2).2).1:Bool),((((((qC (v2,v3) v1).1).2).2).2).1:Bool),(((((((((qC (v2,v3) v1).1).2).2).2).2).1).1:Int),((((((((qC (v2,v3) v1).1).2).2).2).2).1).2:Int)),((((((((qC (v2,v3) v1).1).2).2).2).2).2).1:Bool),((((((((qC (v2,v3) v1).1).2).2).2).2).2).2:Bool))]:List (Val Y66)))))))else (k0 v4)))else (k0 v4)
noncomputable def m19 (N:Nat) (v0:Val Y32):Option (qb [i46,i4]):=qeO N (v0.1:Int) (v0.2:List (Val Y36)) (fun (v6:List (Val Y66))=>chk (qda v0) (some (v6,((qac v0):Bool),()))) N (0:Int) ([]:List (Val Y66))
def Γ19:Gam:=[(38,g38),(39,g39)]
theorem qtp:Gam.get Γ19 38=some g38:=rfl
theorem quP:Gam.get Γ19 39=some g39:=rfl
def qmw:Nm:=⟨[false,true,false,false,true,true],[],false⟩
theorem qsI:qmw.zero=false:=rfl
theorem qtm:qmw.fix=[]:=rfl
theorem qBN:qmw.keep=[false,true,false,false,true,true]:=rfl
def qoC:Nm:=⟨[false,true,false,false,true],[],false⟩
theorem quk:qoC.zero=false:=rfl
theorem qwV:qoC.fix=[]:=rfl
theorem qrV:qoC.keep=[false,true,false,false,true]:=rfl
def qhs:Nat→Tree:=fun _=> .done
def qiJ:Nat→Nm:=fun i=>if i=3 then qmw else ⟨[],[],false⟩
def qlL:Nat→Option Jn:=fun _=>none
def qmt:Nat→Option Nm:=fun i=>if i=0 then some qoC else none
def qkN:Nat→Option Nm:=fun _=>none
theorem p19:ql qhs (Try.f19.body.getD .skip)=true:=by kernel_rfl
def T19 (N:Nat):Tab:={tr:=qhs,lp:=qiJ,ex:=qmt,rg:=qkN,jn:=qlL,fuel:=N}
theorem qts (N:Nat):(T19 N).pins=false:=rfl
theorem qJq (N:Nat):qm Try.prog (T19 N):=qu fun _=>rfl
theorem qut (N:Nat) (i:Nat):(T19 N).tr i=qhs i:=rfl
theorem quz (N:Nat) (i:Nat):(T19 N).lp i=qiJ i:=rfl
theorem qxU (N:Nat) (i:Nat):(T19 N).ex i=qmt i:=rfl
theorem qsj (N:Nat) (i:Nat):(T19 N).rg i=qkN i:=rfl
theorem qAC (N:Nat) (i:Nat):(T19 N).jn i=qlL i:=rfl
theorem qwt (N:Nat):(T19 N).fuel=N:=rfl
noncomputable def qFf:Code:=cut [true,true,false,true,true,true] (Try.f19.body.getD .skip)
theorem qPu {N:Nat} {Q:X→St→Option (qb [i46,i4])} {e:List LV} {h:List Blk}:qd tt Γ19 (T19 N) qFf Q ⟨e,h⟩=qd tt Γ19 (T19 N) (cut [true,true,false,true,true,true] (Try.f19.body.getD .skip)) Q ⟨e,h⟩:=rfl
theorem qSu (N:Nat) (v2:Int) (v3:List (Val Y36)) {k0:(List (Val Y66))→Option (qb [i46,i4])} {Q:X→St→Option (qb [i46,i4])} {c:Code} (hc:c=qFf) (hret: ∀st,Q .ret st=qI tt true [i46,i4] [.tmp 2,.tmp 3] st) (h0: ∀(v5:List (Val Y66)),Q (.exit 0) ⟨[u,.one (.ptr 0 0 0),u,u,.one (.own 1),u,u,u,u,u,u,u,u,u,u,u,u,u,u,u,u,u,u,u,u,u,u,u,u,u,u,u,u,u,u],[.box [.int .i64 v2,.sl 36 Y36 v3 2],.row 66 Y66 v5 true true 0]⟩=k0 v5): ∀(n:Nat) (v1:Int) (v4:List (Val Y66)),qD (qd tt Γ19 (T19 N) c) false qmw Q n ⟨[u,.one (.ptr 0 0 0),u,u,.one (.own 1),.one (.int .i64 v1),u,u,u,u,u,u,u,u,u,u,u,u,u,u,u,u,u,u,u,u,u,u,u,u,u,u,u,u,u],[.box [.int .i64 v2,.sl 36 Y36 v3 2],.row 66 Y66 v4 true true 0]⟩=qeO N v2 v3 k0 n v1 v4:=by
 subst hc;intro n;induction n with
 | zero=>intros;rfl
 | succ n ih=>
   intro v1 v4
   rw [qR,qPu,qeO];unfold Try.f19
   simp (maxSteps:=10000000) -implicitDefEqProofs [qut,qhs,quz,qiJ,qxU,qmt,qsj,qkN,qAC,qlL,qwt,qts,qtm,qBN,qsI,qwV,qrV,quk,qtp,quP,g38,g39,hret,h0,ih]
theorem qLw (N:Nat) (v0:Val Y32):qd tt Γ19 (T19 N) (Try.f19.body.getD .skip) (qp tt true [i46,i4] [.tmp 2,.tmp 3]) (qt [i32] 35 (v0,()))=m19 N v0:=by
 unfold Try.f19
 simp (maxSteps:=10000000) -implicitDefEqProofs [qut,qhs,quz,qiJ,qxU,qmt,qsj,qkN,qAC,qlL,qwt,qts,qtm,qBN,qsI,qwV,qrV,quk,qtp,quP,g38,g39]
 rewrite [qSu (k0:=(fun (v6:List (Val Y66))=>chk (qda v0) (some (v6,((qac v0):Bool),())))) N _ _ ?_ ?_ ?_]
 ·rewrite [m19];first | rfl | simp (maxSteps:=10000000) -implicitDefEqProofs []
 ·rfl
 ·intro;simp only [qK,qM,qO,qv]
 ·intro v6;simp (maxSteps:=10000000) -implicitDefEqProofs [qut,qhs,quz,qiJ,qxU,qmt,qsj,qkN,qAC,qlL,qwt,qts,qtm,qBN,qsI,qwV,qrV,quk,qtp,quP,g38,g39]
end Go.T
