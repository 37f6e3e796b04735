/- Regions split. Run. -/
import Derived.Test.YthefcjjgchekiaaGreatE14
set_option linter.unusedSimpArgs false
set_option linter.unusedVariables false
namespace Go.T
open Go Go.Proofs
set_option maxHeartbeats 4000000
set_option maxRecDepth 100000
def qcA (d:Int) (xs:List (Val Y33)):Nat→Nat→List (Val Y33)→Val Y50×Bool
 | 0,_,l=>((d,l),true)
 | n+1,i,l=>bif (qH (qbv (xs.getD i dC)) (d,xs.take i)).2 then (bif decide ((12:Int)<(l.length:Int)+(List.length (α:=Val Y33) (qH (qbv (xs.getD i dC)) (d,xs.take i)).1.2:Int))then qa5 else qcA d xs n (i+1) (l++(qH (qbv (xs.getD i dC)) (d,xs.take i)).1.2))else qa5
def qX (r:Val Y50):Val Y50×Bool:=bif q7 r then qcA r.1 r.2 (List.length (α:=Val Y33) r.2) 0 []else qa5
def qoh (r:Val Y50):Prop:=qbs r
def g58:G:={ps:=[i50],rs:=[i50,i4],dp:=true,pre:=fun _=>True,fn:=fun x=>((qX x.1).1,(qX x.1).2,())}
noncomputable def qlw (N:Nat) (v1:List (Val Y33)) (v2:Int) (v4:Int) (v5:List (Val Y33)) (v6:Int) (v7:Int) (k0:(List (Val Y33))→Option (qc [i50,i4])):Nat→Int→(List (Val Y33))→Option (qc [i50,i4])
 | 0,_,_=>none
 | n+1,v3,v8=>bif (decide (v3<v2))then (chk (0≤v3∧v3<(v1.length:Int)) (chk (0≤(0:Int)∧(0:Int)≤v3∧v3≤(v5.length:Int)) (bif (!((qH (qbv (v1.getD v3.toNat (qb Y33))) (v4,((v5.take v3.toNat).drop (0:Int).toNat))).2:Bool))then (some (((0:Int),([]:List (Val Y33))),false,()))else (bif (decide ((12:Int)<(IntKind.i64.wrap ((v8.length:Int)+((((qH (qbv (v1.getD v3.toNat (qb Y33))) (v4,((v5.take v3.toNat).drop (0:Int).toNat))).1).2:List (Val Y33)).length:Int)))))then (some (((0:Int),([]:List (Val Y33))),false,()))else (chk (v8.length+(((qH (qbv (v1.getD v3.toNat (qb Y33))) (v4,((v5.take v3.toNat).drop (0:Int).toNat))).1).2:List (Val Y33)).length≤1048576) (qlw N v1 v2 v4 v5 v6 v7 k0 n (IntKind.i64.wrap (v3+(1:Int))) (v8++(((qH (qbv (v1.getD v3.toNat (qb Y33))) (v4,((v5.take v3.toNat).drop (0:Int).toNat))).1).2:List (Val Y33)))))))))else (k0 v8)
noncomputable def m58 (N:Nat) (v0:Val Y50):Option (qc [i50,i4]):=bif (!((q7 v0):Bool))then (some (((0:Int),([]:List (Val Y33))),false,()))else (qlw N (v0.2:List (Val Y33)) ((v0.2:List (Val Y33)).length:Int) (v0.1:Int) (v0.2:List (Val Y33)) (0:Int) (v0.1:Int) (fun (v10:List (Val Y33))=>some (((v0.1:Int),v10),true,())) N (0:Int) ([]:List (Val Y33)))
def Γ58:Gam:=[(45,g45),(124,qbW),(148,qgG)]
theorem qPA:Gam.get Γ58 45=some g45:=rfl
theorem q4g:Gam.get Γ58 124=some qbW:=rfl
theorem qT4:Gam.get Γ58 148=some qgG:=rfl
def qrZ:Nm:=⟨[false,true,true,false,true,false,false,false,false,false,false,false,false,false,false,false,false,false,true,true,true],[],false⟩
theorem qKP:qrZ.zero=false:=rfl
theorem qW6:qrZ.fix=[]:=rfl
theorem qIe:qrZ.keep=[false,true,true,false,true,false,false,false,false,false,false,false,false,false,false,false,false,false,true,true,true]:=rfl
def qz1:Nm:=⟨[false,false,true,false,true],[],false⟩
theorem q1F:qz1.zero=false:=rfl
theorem qTa:qz1.fix=[]:=rfl
theorem q0P:qz1.keep=[false,false,true,false,true]:=rfl
def qFb:Nm:=⟨[false,true,true,false,true,false,false,true,true,false,false,false,false,false,false,false,false,false,true,true,true],[],false⟩
theorem qLf:qFb.zero=false:=rfl
theorem qZ6:qFb.fix=[]:=rfl
theorem qRl:qFb.keep=[false,true,true,false,true,false,false,true,true,false,false,false,false,false,false,false,false,false,true,true,true]:=rfl
def qnK:Nat→Tree:=fun i=>if i=7 then .first 6 (.keep 0 (.keep 2 (.keep 3 (.keep 4 (.keep 5 (.pure 7 (.first 8 (.alt 1 (.alt 9 (.first 10 (.first 11 (.first 12 (.alt 13 (.alt 14 (.quiet 15 .done) .stop) .stop)))) (.alt 13 (.alt 9 (.quiet 10 (.quiet 11 (.first 12 (.alt 14 (.quiet 15 .done) .stop)))) .stop) .stop)) (.alt 13 (.alt 1 (.alt 9 (.quiet 10 (.quiet 11 (.first 12 (.alt 14 (.quiet 15 .done) .stop)))) .stop) .stop) .stop)))))))))else .done
def qxI:Nat→Nm:=fun i=>if i=5 then qrZ else ⟨[],[],false⟩
def qtK:Nat→Option Jn:=fun _=>none
def qq9:Nat→Option Nm:=fun i=>if i=0 then some qz1 else none
def qvL:Nat→Option Nm:=fun i=>if i=7 then some qFb else none
theorem p58:qh qnK (Tryz.f58.body.getD .skip)=true:=by kernel_rfl
def T58 (N:Nat):Tab:={tr:=qnK,lp:=qxI,ex:=qq9,rg:=qvL,jn:=qtK,fuel:=N}
theorem qXv (N:Nat):(T58 N).pins=false:=rfl
theorem ztr (N:Nat):qk Tryz.prog (T58 N):=qo fun _=>rfl
theorem q4a (N:Nat) (i:Nat):(T58 N).tr i=qnK i:=rfl
theorem qYz (N:Nat) (i:Nat):(T58 N).lp i=qxI i:=rfl
theorem qOY (N:Nat) (i:Nat):(T58 N).ex i=qq9 i:=rfl
theorem q2K (N:Nat) (i:Nat):(T58 N).rg i=qvL i:=rfl
theorem qNI (N:Nat) (i:Nat):(T58 N).jn i=qtK i:=rfl
theorem q3L (N:Nat):(T58 N).fuel=N:=rfl
noncomputable def q6C:Code:=cut [true,true,true,false,true,true,true] (Tryz.f58.body.getD .skip)
theorem zmK {N:Nat} {Q:X→St→Option (qc [i50,i4])} {e:List LV} {h:List Blk}:qf tt Γ58 (T58 N) q6C Q ⟨e,h⟩=qf tt Γ58 (T58 N) (cut [true,true,true,false,true,true,true] (Tryz.f58.body.getD .skip)) Q ⟨e,h⟩:=rfl
theorem zdG (N:Nat) (v1:List (Val Y33)) (v2:Int) (v4:Int) (v5:List (Val Y33)) (v6:Int) (v7:Int) {k0:(List (Val Y33))→Option (qc [i50,i4])} {Q:X→St→Option (qc [i50,i4])} {c:Code} (hc:c=q6C) (hret: ∀st,Q .ret st=qC tt true [i50,i4] [.cell 2 50,.tmp 3] st) (h0: ∀(v9:List (Val Y33)),Q (.exit 0) ⟨[u,u,.one (.ptr 0 0 0),u,.one (.ptr 1 0 0),u,u,u,u,u,u,u,u,u,u,u,u,u,u,u,u,u,u,u,u,u,u,u,u,u,u,u,u,u,u,u,u,u,u,u,u,u,u,u,u,u,u,u,u,u,u,u,u,u,u,u,u,u,u],[.box [.int .i64 v6,.nils],.box [.int .i64 v7,.own 2],.row 33 Y33 v9 true true 0]⟩=k0 v9): ∀(n:Nat) (v3:Int) (v8:List (Val Y33)),qD (qf tt Γ58 (T58 N) c) false qrZ Q n ⟨[u,.one (.ptr 0 0 0),.one (.ptr 1 0 0),u,.one (.ptr 2 0 0),u,u,u,u,u,u,u,u,u,u,u,u,u,.one (.sl 33 Y33 v1 4),.one (.int .i64 v2),.one (.int .i64 v3),u,u,u,u,u,u,u,u,u,u,u,u,u,u,u,u,u,u,u,u,u,u,u,u,u,u,u,u,u,u,u,u,u,u,u,u,u,u],[.box [.int .i64 v4,.sl 33 Y33 v5 4],.box [.int .i64 v6,.nils],.box [.int .i64 v7,.own 3],.row 33 Y33 v8 true true 0]⟩=qlw N v1 v2 v4 v5 v6 v7 k0 n v3 v8:=by
 subst hc;intro n;induction n with
 | zero=>intros;rfl
 | succ n ih=>
   intro v3 v8
   rw [qN,zmK,qlw];unfold Tryz.f58
   simp (maxSteps:=10000000) -implicitDefEqProofs [q4a,qnK,qYz,qxI,qOY,qq9,q2K,qvL,qNI,qtK,q3L,qXv,qW6,qIe,qKP,qTa,q0P,q1F,qZ6,qRl,qLf,qPA,q4g,qT4,g45,qbW,qgG,hret,h0,ih]
theorem zfS (N:Nat) (v0:Val Y50):qf tt Γ58 (T58 N) (Tryz.f58.body.getD .skip) (qm tt true [i50,i4] [.cell 2 50,.tmp 3]) (qp [i50] 59 (v0,()))=m58 N v0:=by
 unfold Tryz.f58
 simp (maxSteps:=10000000) -implicitDefEqProofs [q4a,qnK,qYz,qxI,qOY,qq9,q2K,qvL,qNI,qtK,q3L,qXv,qW6,qIe,qKP,qTa,q0P,q1F,qZ6,qRl,qLf,qPA,q4g,qT4,g45,qbW,qgG]
 rewrite [zdG (k0:=(fun (v10:List (Val Y33))=>some (((v0.1:Int),v10),true,()))) N _ _ _ _ _ _ ?_ ?_ ?_]
 ·rewrite [m58];first | rfl | simp (maxSteps:=10000000) -implicitDefEqProofs []
 ·rfl
 ·intro;simp only [qK,qL,qJ,qB]
 ·intro v10;simp (maxSteps:=10000000) -implicitDefEqProofs [q4a,qnK,qYz,qxI,qOY,qq9,q2K,qvL,qNI,qtK,q3L,qXv,qW6,qIe,qKP,qTa,q0P,q1F,qZ6,qRl,qLf,qPA,q4g,qT4,g45,qbW,qgG]
def g57:G:={ps:=[i50],rs:=[i50,i4],dp:=false,pre:=fun x=>qoh x.1,fn:=fun x=>((qX x.1).1,(qX x.1).2,())}
noncomputable def qjp (N:Nat) (v2:Int) (v3:List (Val Y33)) (v4:Int) (v5:Int) (k0:(List (Val Y33))→Option (qc [i50,i4])):Nat→Int→(List (Val Y33))→Option (qc [i50,i4])
 | 0,_,_=>none
 | n+1,v1,v6=>bif (decide (v1<(v3.length:Int)))then (chk (0≤v1∧v1<(v3.length:Int)) (chk (0≤(0:Int)∧(0:Int)≤v1∧v1≤(v3.length:Int)) (chk (qeE (v2,([(v3.getD v1.toNat (qb Y33))]:List (Val Y33))) (v2,((v3.take v1.toNat).drop (0:Int).toNat))) (bif (!((qH (v2,([(v3.getD v1.toNat (qb Y33))]:List (Val Y33))) (v2,((v3.take v1.toNat).drop (0:Int).toNat))).2:Bool))then (some (((0:Int),([]:List (Val Y33))),false,()))else (bif (decide ((12:Int)<(IntKind.i64.wrap ((v6.length:Int)+((((qH (v2,([(v3.getD v1.toNat (qb Y33))]:List (Val Y33))) (v2,((v3.take v1.toNat).drop (0:Int).toNat))).1).2:List (Val Y33)).length:Int)))))then (some (((0:Int),([]:List (Val Y33))),false,()))else (chk (v6.length+(((qH (v2,([(v3.getD v1.toNat (qb Y33))]:List (Val Y33))) (v2,((v3.take v1.toNat).drop (0:Int).toNat))).1).2:List (Val Y33)).length≤1048576) (qjp N v2 v3 v4 v5 k0 n (IntKind.i64.wrap (v1+(1:Int))) (v6++(((qH (v2,([(v3.getD v1.toNat (qb Y33))]:List (Val Y33))) (v2,((v3.take v1.toNat).drop (0:Int).toNat))).1).2:List (Val Y33))))))))))else (k0 v6)
noncomputable def m57 (N:Nat) (v0:Val Y50):Option (qc [i50,i4]):=chk (qbs v0) (bif (!((q7 v0):Bool))then (some (((0:Int),([]:List (Val Y33))),false,()))else (qjp N (v0.1:Int) (v0.2:List (Val Y33)) (0:Int) (v0.1:Int) (fun (v8:List (Val Y33))=>some (((v0.1:Int),v8),true,())) N (0:Int) ([]:List (Val Y33))))
def Γ57:Gam:=[(44,g44),(117,qaX)]
theorem qIU:Gam.get Γ57 44=some g44:=rfl
theorem qID:Gam.get Γ57 117=some qaX:=rfl
def qxM:Nm:=⟨[false,true,true,false,true,true],[.box 4 1 33 Y33,.unb 4 1 33 Y33],false⟩
theorem qIt:qxM.zero=false:=rfl
theorem qRT:qxM.fix=[.box 4 1 33 Y33,.unb 4 1 33 Y33]:=rfl
theorem qS1:qxM.keep=[false,true,true,false,true,true]:=rfl
def qBp:Nm:=⟨[false,false,true,false,true],[],false⟩
theorem q28:qBp.zero=false:=rfl
theorem qVA:qBp.fix=[]:=rfl
theorem qZk:qBp.keep=[false,false,true,false,true]:=rfl
def qG8:Nm:=⟨[false,true,true,false,true,true,true,true],[],false⟩
theorem qPz:qG8.zero=false:=rfl
theorem qPo:qG8.fix=[]:=rfl
theorem qSn:qG8.keep=[false,true,true,false,true,true,true,true]:=rfl
def qpa:Nat→Tree:=fun i=>if i=7 then .first 4 (.first 13 (.keep 0 (.keep 1 (.keep 2 (.keep 3 (.first 5 (.first 6 (.keep 9 (.keep 10 (.keep 11 (.keep 12 (.pure 14 (.first 15 (.alt 7 (.first 8 (.alt 16 (.first 17 (.first 18 (.first 19 (.alt 20 (.alt 21 (.quiet 22 .done) .stop) .stop)))) (.alt 20 (.alt 16 (.quiet 17 (.quiet 18 (.first 19 (.alt 21 (.quiet 22 .done) .stop)))) .stop) .stop))) (.alt 20 (.alt 7 (.quiet 8 (.alt 16 (.quiet 17 (.quiet 18 (.first 19 (.alt 21 (.quiet 22 .done) .stop)))) .stop)) .stop) .stop)))))))))))))))else .done
def quI:Nat→Nm:=fun i=>if i=5 then qxM else ⟨[],[],false⟩
def qvK:Nat→Option Jn:=fun _=>none
def qsv:Nat→Option Nm:=fun i=>if i=0 then some qBp else none
def quj:Nat→Option Nm:=fun i=>if i=7 then some qG8 else none
theorem p57:qh qpa (Tryz.f57.body.getD .skip)=true:=by kernel_rfl
def T57 (N:Nat):Tab:={tr:=qpa,lp:=quI,ex:=qsv,rg:=quj,jn:=qvK,fuel:=N}
theorem q4x (N:Nat):(T57 N).pins=false:=rfl
theorem zb4 (N:Nat):qk Tryz.prog (T57 N):=qo fun _=>rfl
theorem qSo (N:Nat) (i:Nat):(T57 N).tr i=qpa i:=rfl
theorem qHZ (N:Nat) (i:Nat):(T57 N).lp i=quI i:=rfl
theorem q4i (N:Nat) (i:Nat):(T57 N).ex i=qsv i:=rfl
theorem qOQ (N:Nat) (i:Nat):(T57 N).rg i=quj i:=rfl
theorem qLT (N:Nat) (i:Nat):(T57 N).jn i=qvK i:=rfl
theorem qS0 (N:Nat):(T57 N).fuel=N:=rfl
noncomputable def q9X:Code:=cut [true,true,true,false,true,true,true] (Tryz.f57.body.getD .skip)
theorem zrb {N:Nat} {Q:X→St→Option (qc [i50,i4])} {e:List LV} {h:List Blk}:qf tt Γ57 (T57 N) q9X Q ⟨e,h⟩=qf tt Γ57 (T57 N) (cut [true,true,true,false,true,true,true] (Tryz.f57.body.getD .skip)) Q ⟨e,h⟩:=rfl
theorem zA1 (N:Nat) (v2:Int) (v3:List (Val Y33)) (v4:Int) (v5:Int) {k0:(List (Val Y33))→Option (qc [i50,i4])} {Q:X→St→Option (qc [i50,i4])} {c:Code} (hc:c=q9X) (hret: ∀st,Q .ret st=qC tt false [i50,i4] [.cell 2 50,.tmp 3] st) (h0: ∀(v7:List (Val Y33)),Q (.exit 0) ⟨[u,u,.one (.ptr 0 0 0),u,.one (.ptr 1 0 0),u,u,u,u,u,u,u,u,u,u,u,u,u,u,u,u,u,u,u,u,u,u,u,u,u,u,u,u,u,u,u,u,u,u,u,u,u,u,u,u,u,u,u,u,u,u,u,u,u,u,u,u,u,u,u,u,u],[.box [.int .i64 v4,.nils],.box [.int .i64 v5,.own 2],.row 33 Y33 v7 false true 3]⟩=k0 v7): ∀(n:Nat) (v1:Int) (v6:List (Val Y33)),qD (qf tt Γ57 (T57 N) c) false qxM Q n ⟨[u,.one (.ptr 0 0 0),.one (.ptr 1 0 0),u,.one (.ptr 2 0 0),.one (.int .i64 v1),u,u,u,u,u,u,u,u,u,u,u,u,u,u,u,u,u,u,u,u,u,u,u,u,u,u,u,u,u,u,u,u,u,u,u,u,u,u,u,u,u,u,u,u,u,u,u,u,u,u,u,u,u,u,u,u],[.box [.int .i64 v2,.sl 33 Y33 v3 4],.box [.int .i64 v4,.nils],.box [.int .i64 v5,.own 3],.row 33 Y33 v6 false true 4]⟩=qjp N v2 v3 v4 v5 k0 n v1 v6:=by
 subst hc;intro n;induction n with
 | zero=>intros;rfl
 | succ n ih=>
   intro v1 v6
   rw [qN,zrb,qjp];unfold Tryz.f57
   simp (maxSteps:=10000000) -implicitDefEqProofs [qSo,qpa,qHZ,quI,q4i,qsv,qOQ,quj,qLT,qvK,qS0,q4x,qRT,qS1,qIt,qVA,qZk,q28,qPo,qSn,qPz,qIU,qID,g44,qaX,hret,h0,ih]
theorem zdb (N:Nat) (v0:Val Y50):qf tt Γ57 (T57 N) (Tryz.f57.body.getD .skip) (qm tt false [i50,i4] [.cell 2 50,.tmp 3]) (qp [i50] 62 (v0,()))=m57 N v0:=by
 unfold Tryz.f57
 simp (maxSteps:=10000000) -implicitDefEqProofs [qSo,qpa,qHZ,quI,q4i,qsv,qOQ,quj,qLT,qvK,qS0,q4x,qRT,qS1,qIt,qVA,qZk,q28,qPo,qSn,qPz,qIU,qID,g44,qaX]
 rewrite [zA1 (k0:=(fun (v8:List (Val Y33))=>some (((v0.1:Int),v8),true,()))) N _ _ _ _ ?_ ?_ ?_]
 ·rewrite [m57];first | rfl | simp (maxSteps:=10000000) -implicitDefEqProofs []
 ·rfl
 ·intro;simp only [qK,qL,qJ,qB]
 ·intro v8;simp (maxSteps:=10000000) -implicitDefEqProofs [qSo,qpa,qHZ,quI,q4i,qsv,qOQ,quj,qLT,qvK,qS0,q4x,qRT,qS1,qIt,qVA,qZk,q28,qPo,qSn,qPz,qIU,qID,g44,qaX]
end Go.T
