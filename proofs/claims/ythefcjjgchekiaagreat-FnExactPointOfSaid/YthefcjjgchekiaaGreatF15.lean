/- The law of PointOf. -/
import Derived.Test.YthefcjjgchekiaaGreatF3
import Derived.Test.YthefcjjgchekiaaGreatE41
set_option linter.unusedSimpArgs false
set_option linter.unusedVariables false
namespace Go.T
open Go Go.Proofs
set_option maxHeartbeats 4000000
set_option maxRecDepth 100000
def qcJ (x y:Val Y28):Bool:=eqV Y28 x y
def qcj (x _:Val Y28):Prop:=Bd Y28 x
noncomputable def m27 (N:Nat) (v0:Val Y28) (v1:Val Y28):Option (qc [i4]):=bif (!(decide ((v0.1:Int)=(v1.1:Int))))then (some (false,()))else (bif (!(decide ((v0.2:Int)=(v1.2:Int))))then (some (false,()))else (some (true,())))
def Γ27:Gam:=[]
def qcN:Nat→Tree:=fun _=> .done
def qeq:Nat→Nm:=fun _=>⟨[],[],false⟩
def qew:Nat→Option Jn:=fun _=>none
def qep:Nat→Option Nm:=fun _=>none
def qeV:Nat→Option Nm:=fun _=>none
theorem p27:qn qcN (Tryz.f27.body.getD .skip)=true:=by kernel_rfl
def T27 (N:Nat):Tab:={tr:=qcN,lp:=qeq,ex:=qep,rg:=qeV,jn:=qew,fuel:=N}
theorem qpM (N:Nat):(T27 N).pins=false:=rfl
theorem qw3 (N:Nat):qp Tryz.prog (T27 N):=qv fun _=>rfl
theorem qsE (N:Nat) (i:Nat):(T27 N).tr i=qcN i:=rfl
theorem qrN (N:Nat) (i:Nat):(T27 N).lp i=qeq i:=rfl
theorem qt9 (N:Nat) (i:Nat):(T27 N).ex i=qep i:=rfl
theorem qrJ (N:Nat) (i:Nat):(T27 N).rg i=qeV i:=rfl
theorem qwq (N:Nat) (i:Nat):(T27 N).jn i=qew i:=rfl
theorem qqG (N:Nat):(T27 N).fuel=N:=rfl
theorem qqa (N:Nat) (v0:Val Y28) (v1:Val Y28):qe tt Γ27 (T27 N) (Tryz.f27.body.getD .skip) (qt tt true [i4] [.tmp 4]) (qw [i28,i28] 15 (v0,v1,()))=m27 N v0 v1:=by
 rw [m27];unfold Tryz.f27
 simp (maxSteps:=10000000) -implicitDefEqProofs [qsE,qcN,qrN,qeq,qt9,qep,qrJ,qeV,qwq,qew,qqG,qpM]
 try rfl
def g27:G:={ps:=[i28,i28],rs:=[i4],dp:=true,pre:=fun x=>qcj x.1 x.2.1,fn:=fun x=>(qcJ x.1 x.2.1,())}
theorem e27 (x y:Val Y28) (h:qcj x y): ∃N,m27 N x y=some (qcJ x y,()):=⟨0,by
 obtain ⟨s0,s1⟩:=h
 rw [m27]
 obtain ⟨x0,x1⟩:=x
 obtain ⟨y0,y1⟩:=y
 change _=some ((eqV (.int .i64) x0 y0&&eqV (.int .i64) x1 y1),())
 simp only [qaG]
 show _=_
 generalize he0:eqV (.int .i64) x0 y0=e0
 have hd0:decide ((x0:Int)=y0)=e0:=he0
 generalize he1:eqV (.int .i64) x1 y1=e1
 have hd1:decide ((x1:Int)=y1)=e1:=he1
 simp only [hd0,hd1]
 cases e0<;>cases e1<;>rfl⟩
theorem s27:Sound Tryz.prog 27 g27:=qx (tt:=tt) (Γ:=Γ27) hT qu hm (fn:=Tryz.f27) Tryz.func27 (c:=Tryz.f27.body.getD .skip) (by kernel_rfl) (by kernel_rfl) fun x hx=>by
 obtain ⟨N,h⟩:=e27 x.1 x.2.1 hx
 exact ⟨T27 N,p27,qy _,qw3 N,(qqa N x.1 x.2.1).trans h⟩
def qdK (x y:List (Val Y28)):Bool:=eqV (.slice 28 Y28) x y
def qeU (x _:List (Val Y28)):Prop:=Bd (.slice 28 Y28) x
noncomputable def qct (N:Nat) (v2:List (Val Y28)) (v3:List (Val Y28)) (k0:Unit→Option (qc [i4])):Nat→Int→Option (qc [i4])
 | 0,_=>none
 | n+1,v4=>bif (decide (v4<(v2.length:Int)))then (chk (0≤v4∧v4<(v2.length:Int)) (chk (0≤v4∧v4<(v3.length:Int)) (chk (qcj (v2.getD v4.toNat (qb Y28)) (v3.getD v4.toNat (qb Y28))) (bif (!((qcJ (v2.getD v4.toNat (qb Y28)) (v3.getD v4.toNat (qb Y28))):Bool))then (some (false,()))else (qct N v2 v3 k0 n (IntKind.i64.wrap (v4+(1:Int))))))))else (k0 ())
noncomputable def m37 (N:Nat) (v0:List (Val Y28)) (v1:List (Val Y28)):Option (qc [i4]):=bif (!(decide ((v0.length:Int)=(v1.length:Int))))then (some (false,()))else (qct N v0 v1 (fun (_:Unit)=>some (true,())) N (0:Int))
def Γ37:Gam:=[(27,g27)]
theorem qmi:Gam.get Γ37 27=some g27:=rfl
def qeE:Nm:=⟨[true,true,false,false,false,true],[],false⟩
theorem qki:qeE.zero=false:=rfl
theorem qlV:qeE.fix=[]:=rfl
theorem qkk:qeE.keep=[true,true,false,false,false,true]:=rfl
def qh0:Nm:=⟨[],[],false⟩
theorem qlz:qh0.zero=false:=rfl
theorem qkB:qh0.fix=[]:=rfl
theorem qmp:qh0.keep=[]:=rfl
def qdS:Nat→Tree:=fun i=>if i=6 then .quiet 0 (.quiet 1 (.quiet 2 (.quiet 3 (.quiet 4 (.quiet 5 (.quiet 6 (.quiet 7 (.alt 8 (.quiet 9 .done) .stop))))))))else .done
def qev:Nat→Nm:=fun i=>if i=4 then qeE else ⟨[],[],false⟩
def qe0:Nat→Option Jn:=fun _=>none
def qet:Nat→Option Nm:=fun i=>if i=0 then some qh0 else none
def qeX:Nat→Option Nm:=fun _=>none
theorem p37:qn qdS (Tryz.f37.body.getD .skip)=true:=by kernel_rfl
def T37 (N:Nat):Tab:={tr:=qdS,lp:=qev,ex:=qet,rg:=qeX,jn:=qe0,fuel:=N}
theorem qmu (N:Nat):(T37 N).pins=false:=rfl
theorem qTK (N:Nat):qp Tryz.prog (T37 N):=qv fun _=>rfl
theorem qkZ (N:Nat) (i:Nat):(T37 N).tr i=qdS i:=rfl
theorem qlX (N:Nat) (i:Nat):(T37 N).lp i=qev i:=rfl
theorem qkx (N:Nat) (i:Nat):(T37 N).ex i=qet i:=rfl
theorem qml (N:Nat) (i:Nat):(T37 N).rg i=qeX i:=rfl
theorem qkL (N:Nat) (i:Nat):(T37 N).jn i=qe0 i:=rfl
theorem qjZ (N:Nat):(T37 N).fuel=N:=rfl
noncomputable def qww:Code:=cut [true,true,false,true,true,true] (Tryz.f37.body.getD .skip)
theorem qTA {N:Nat} {Q:X→St→Option (qc [i4])} {e:List LV} {h:List Blk}:qe tt Γ37 (T37 N) qww Q ⟨e,h⟩=qe tt Γ37 (T37 N) (cut [true,true,false,true,true,true] (Tryz.f37.body.getD .skip)) Q ⟨e,h⟩:=rfl
theorem qPu (N:Nat) (v2:List (Val Y28)) (v3:List (Val Y28)) {k0:Unit→Option (qc [i4])} {Q:X→St→Option (qc [i4])} {c:Code} (hc:c=qww) (hret: ∀st,Q .ret st=qI tt true [i4] [.tmp 4] st) (h0:Q (.exit 0) ⟨[u,u,u,u,u,u,u,u,u,u,u,u,u,u,u,u,u,u,u,u,u,u,u,u,u,u,u],[]⟩=k0 ()): ∀(n:Nat) (v4:Int),qE (qe tt Γ37 (T37 N) c) false qeE Q n ⟨[.one (.sl 28 Y28 v2 0),.one (.sl 28 Y28 v3 0),u,u,u,.one (.int .i64 v4),u,u,u,u,u,u,u,u,u,u,u,u,u,u,u,u,u,u,u,u,u],[]⟩=qct N v2 v3 k0 n v4:=by
 subst hc;intro n;induction n with
 | zero=>intros;rfl
 | succ n ih=>
   intro v4
   rw [qN,qTA,qct];unfold Tryz.f37
   simp (maxSteps:=10000000) -implicitDefEqProofs [qkZ,qdS,qlX,qev,qkx,qet,qml,qeX,qkL,qe0,qjZ,qmu,qlV,qkk,qki,qkB,qmp,qlz,qmi,g27,hret,h0,ih]
theorem qNR (N:Nat) (v0:List (Val Y28)) (v1:List (Val Y28)):qe tt Γ37 (T37 N) (Tryz.f37.body.getD .skip) (qt tt true [i4] [.tmp 4]) (qw [i52,i52] 27 (v0,v1,()))=m37 N v0 v1:=by
 unfold Tryz.f37
 simp (maxSteps:=10000000) -implicitDefEqProofs [qkZ,qdS,qlX,qev,qkx,qet,qml,qeX,qkL,qe0,qjZ,qmu,qlV,qkk,qki,qkB,qmp,qlz,qmi,g27]
 rewrite [qPu (k0:=(fun (_:Unit)=>some (true,()))) N _ _ ?_ ?_ ?_]
 ·rewrite [m37];first | rfl | simp (maxSteps:=10000000) -implicitDefEqProofs []
 ·rfl
 ·intro;simp only [qJ,qL,qK,qB]
 ·simp (maxSteps:=10000000) -implicitDefEqProofs [qkZ,qdS,qlX,qev,qkx,qet,qml,qeX,qkL,qe0,qjZ,qmu,qlV,qkk,qki,qkB,qmp,qlz,qmi,g27]
def g37:G:={ps:=[i52,i52],rs:=[i4],dp:=true,pre:=fun x=>qeU x.1 x.2.1,fn:=fun x=>(qdK x.1 x.2.1,())}
theorem e37 (x y:List (Val Y28)) (h:qeU x y): ∃N,m37 N x y=some (qdK x y,()):=⟨List.length x+1,by
 rw [m37,qaG]
 rw [qdK,eqS]
 by_cases c:List.length x=List.length y
 ·rw [qk (by omega)]
  refine (qr9 (f:=eqV Y28) (xs:=x) (ys:=y) (F:=fun n i=>qct _ x y _ n i) (k:=fun _=>some (true,())) (r:=some (false,())) h.1 c (fun n i hi hi2=> ?_) (fun n i hi=> ?_) _ (Nat.lt_succ_self _)).trans qp1
  ·rw [qct,qk (by omega),qd (by omega),qd (by omega),qd (show qcj _ _ from by rw [qF hi];exact h.2 _ (List.getElem_mem hi)),qF hi,qF hi2,qaG]
   rfl
  ·rw [qct,qj (by omega)]
 ·rw [qj (by omega),qoq _ _ c]⟩
theorem s37:Sound Tryz.prog 37 g37:=qx (tt:=tt) (Γ:=Γ37) hT (qg s27 qu) hm (fn:=Tryz.f37) Tryz.func37 (c:=Tryz.f37.body.getD .skip) (by kernel_rfl) (by kernel_rfl) fun x hx=>by
 obtain ⟨N,h⟩:=e37 x.1 x.2.1 hx
 exact ⟨T37 N,p37,qy _,qTK N,(qNR N x.1 x.2.1).trans h⟩
def qeB (x:List (Val Y28)) (k:Int):List (Val Y28):=(mkT (.slice 28 Y28) x k).1
def qkY (x:List (Val Y28)) (k:Int):Int:=(mkT (.slice 28 Y28) x k).2
def qya (x:List (Val Y28)) (k:Int):Prop:=Bd (.slice 28 Y28) x∧k≤9223372036854775807
def qTY:Gms:=⟨28,Y28,qya,qeB,qkY⟩
noncomputable def qlG (N:Nat) (k0:Int→(List (Val Y28))→Option ((List (Val Y28))×Int)):Nat→Int→Int→(List (Val Y28))→Option ((List (Val Y28))×Int)
 | 0,_,_,_=>none
 | n+1,v2,v3,v4=>bif (decide (v3<(v4.length:Int)))then (chk (0≤v3∧v3<(v4.length:Int)) (chk (v3.toNat<v4.length) (chk (0≤v3∧v3<((v4.set v3.toNat (v2,((v4.getD v3.toNat (qb Y28)).2:Int))).length:Int)) (chk (v3.toNat<(v4.set v3.toNat (v2,((v4.getD v3.toNat (qb Y28)).2:Int))).length) (qlG N k0 n (IntKind.i64.wrap ((IntKind.i64.wrap (v2+(1:Int)))+(1:Int))) (IntKind.i64.wrap (v3+(1:Int))) ((v4.set v3.toNat (v2,((v4.getD v3.toNat (qb Y28)).2:Int))).set v3.toNat ((((v4.set v3.toNat (v2,((v4.getD v3.toNat (qb Y28)).2:Int))).getD v3.toNat (qb Y28)).1:Int),(IntKind.i64.wrap (v2+(1:Int))))))))))else (k0 v2 v4)
noncomputable def m48 (N:Nat) (v0:List (Val Y28)) (v1:Int):Option ((List (Val Y28))×Int):=qlG N (fun (v7:Int) (v8:List (Val Y28))=>some (v8,v7)) N v1 (0:Int) v0
def Γ48:Gam:=[]
def qv5:Nm:=⟨[true,true,false,false,false,true],[],false⟩
theorem qWJ:qv5.zero=false:=rfl
theorem qLq:qv5.fix=[]:=rfl
theorem qPw:qv5.keep=[true,true,false,false,false,true]:=rfl
def qCV:Nm:=⟨[false,true],[],false⟩
theorem qOg:qCV.zero=false:=rfl
theorem qNy:qCV.fix=[]:=rfl
theorem qEX:qCV.keep=[false,true]:=rfl
def quW:Sem:=qhg [] []
def qow:Nat→Tree:=fun _=> .done
def qsg:Nat→Nm:=fun i=>if i=2 then qv5 else ⟨[],[],false⟩
def quh:Nat→Option Jn:=fun _=>none
def qu4:Nat→Option Nm:=fun i=>if i=0 then some qCV else none
def qtb:Nat→Option Nm:=fun _=>none
theorem p48:qn qow (Tryz.f48.body.getD .skip)=true:=by kernel_rfl
def T48 (N:Nat):Tab:={tr:=qow,lp:=qsg,ex:=qu4,rg:=qtb,jn:=quh,fuel:=N,pins:=true,sem:=quW}
theorem qLH (N:Nat):(T48 N).pins=true:=rfl
theorem q5P (N:Nat):qp Tryz.prog (T48 N):=qv fun _=>rfl
theorem qRs (N:Nat):(T48 N).sem=quW:=rfl
theorem qNg (N:Nat) (i:Nat):(T48 N).tr i=qow i:=rfl
theorem qLd (N:Nat) (i:Nat):(T48 N).lp i=qsg i:=rfl
theorem qKt (N:Nat) (i:Nat):(T48 N).ex i=qu4 i:=rfl
theorem qLj (N:Nat) (i:Nat):(T48 N).rg i=qtb i:=rfl
theorem qW9 (N:Nat) (i:Nat):(T48 N).jn i=quh i:=rfl
theorem qL5 (N:Nat):(T48 N).fuel=N:=rfl
noncomputable def q2f:Code:=cut [true,false,true,true,true] (Tryz.f48.body.getD .skip)
theorem zaE {N:Nat} {Q:X→St→Option ((List (Val Y28))×Int)} {e:List LV} {h:List Blk}:qe tt Γ48 (T48 N) q2f Q ⟨e,h⟩=qe tt Γ48 (T48 N) (cut [true,false,true,true,true] (Tryz.f48.body.getD .skip)) Q ⟨e,h⟩:=rfl
theorem zly (N:Nat) {k0:Int→(List (Val Y28))→Option ((List (Val Y28))×Int)} {Q:X→St→Option ((List (Val Y28))×Int)} {c:Code} (hc:c=q2f) (hret: ∀st,Q .ret st=qe9 tt (.slice 28 Y28) [.own 0] [.tmp 4] st) (h0: ∀(v5:Int) (v6:List (Val Y28)),Q (.exit 0) ⟨[u,.one (.int .i64 v5),u,u,u,u,u,u,u,u,u,u,u,u,u,u,u,u,u,u,u,u,u,u,u,u,u],[.row 28 Y28 v6 true true 0]⟩=k0 v5 v6): ∀(n:Nat) (v2:Int) (v3:Int) (v4:List (Val Y28)),qE (qe tt Γ48 (T48 N) c) true qv5 Q n ⟨[.one (.own 0),.one (.int .i64 v2),u,u,u,.one (.int .i64 v3),u,u,u,u,u,u,u,u,u,u,u,u,u,u,u,u,u,u,u,u,u],[.row 28 Y28 v4 true true 0]⟩=qlG N k0 n v2 v3 v4:=by
 subst hc;intro n;induction n with
 | zero=>intros;rfl
 | succ n ih=>
   intro v2 v3 v4
   rw [qN,zaE,qlG];unfold Tryz.f48
   simp (maxSteps:=10000000) -implicitDefEqProofs [qNg,qow,qLd,qsg,qKt,qu4,qLj,qtb,qW9,quh,qL5,qLH,qRs,quW,qbc,qB,qbB,qLq,qPw,qWJ,qNy,qEX,qOg,hret,h0,ih]
theorem zls (N:Nat) (v0:List (Val Y28)) (v1:Int):qe tt Γ48 (T48 N) (Tryz.f48.body.getD .skip) (qef (qe9 tt (.slice 28 Y28) (q9 0 (.slice 28 Y28) v0).1 [.tmp 4])) (qbB i52 27 v0 v1)=m48 N v0 v1:=by
 unfold Tryz.f48
 simp (maxSteps:=10000000) -implicitDefEqProofs [qNg,qow,qLd,qsg,qKt,qu4,qLj,qtb,qW9,quh,qL5,qLH,qRs,quW,qbc,qB,qbB,qLq,qPw,qWJ,qNy,qEX,qOg]
 rewrite [zly (k0:=(fun (v7:Int) (v8:List (Val Y28))=>some (v8,v7))) N ?_ ?_ ?_]
 ·rewrite [m48];first | rfl | simp (maxSteps:=10000000) -implicitDefEqProofs []
 ·rfl
 ·intro;simp only [qJ,qL,qK,qB]
 ·intro v7 v8;simp (maxSteps:=10000000) -implicitDefEqProofs [qNg,qow,qLd,qsg,qKt,qu4,qLj,qtb,qW9,quh,qL5,qLH,qRs,quW,qbc,qB,qbB,qLq,qPw,qWJ,qNy,qEX,qOg]
theorem e48 (x:List (Val Y28)) (k:Int) (h:qya x k): ∃N,m48 N x k=some (qeB x k,qkY x k):=⟨x.length+1,by
 rw [m48]
 refine qYQ (f:=mkE Y28) (F:=fun n i k s=>qlG _ _ n k i s) (kf:=fun k s=>some (s,k)) x h.1.1 (qoN _) (fun n i k s hi _ hl=> ?_) (fun n i k s hl hi=> ?_) _ k h.2 (Nat.lt_succ_self _)
 ·have hle:x.length≤1048576:=h.1.1
  rw [qlG,qk (by omega),qd (by omega),qd (by omega),qd (by rw [List.length_set];omega),qd (by rw [List.length_set];omega),Int.toNat_natCast,List.set_set]
  have e:(s.set i (k,((s.getD i (qb Y28)).2:Int))).getD i (qb Y28)=((k,((s.getD i (qb Y28)).2:Int)):Val Y28):=by
   simp [List.getD,hi]
  rw [e]
  rfl
 ·rw [qlG,qj (by omega)]⟩
theorem ziq:SoundMs Tryz.prog 48 qTY:=qYx (tt:=tt) (Γ:=Γ48) hT qu hm (fn:=Tryz.f48) Tryz.func48 (c:=Tryz.f48.body.getD .skip) (by kernel_rfl) (by kernel_rfl) rfl fun x n hx=>by
 obtain ⟨N,h⟩:=e48 x n hx
 exact ⟨T48 N,rfl,p48,⟨qpm qpn qnz,q5P N⟩,(zls N x n).trans h⟩
def qmd (x:List (Val Y28)) (k:Int):Int:=(mkT (.slice 28 Y28) x k).2
def qqA (x:List (Val Y28)) (k:Int):Prop:=q5O (.slice 28 Y28) x k
noncomputable def qj7 (N:Nat) (v2:List (Val Y28)) (k0:Int→Option (qc [i3])):Nat→Int→Int→Option (qc [i3])
 | 0,_,_=>none
 | n+1,v3,v4=>bif (decide (v4<(v2.length:Int)))then (chk (0≤v4∧v4<(v2.length:Int)) (bif (!(decide (((v2.getD v4.toNat (qb Y28)).1:Int)=v3)))then (some ((-1:Int),()))else (chk (0≤v4∧v4<(v2.length:Int)) (bif (!(decide (((v2.getD v4.toNat (qb Y28)).2:Int)=(IntKind.i64.wrap (v3+(1:Int))))))then (some ((-1:Int),()))else (qj7 N v2 k0 n (IntKind.i64.wrap ((IntKind.i64.wrap (v3+(1:Int)))+(1:Int))) (IntKind.i64.wrap (v4+(1:Int))))))))else (k0 v3)
noncomputable def m49 (N:Nat) (v0:List (Val Y28)) (v1:Int):Option (qc [i3]):=qj7 N v0 (fun (v6:Int)=>some (v6,())) N v1 (0:Int)
def Γ49:Gam:=[]
def qr1:Nm:=⟨[true,true,false,false,false,true],[],false⟩
theorem qIl:qr1.zero=false:=rfl
theorem qTP:qr1.fix=[]:=rfl
theorem qU2:qr1.keep=[true,true,false,false,false,true]:=rfl
def qCt:Nm:=⟨[false,true],[],false⟩
theorem qHf:qCt.zero=false:=rfl
theorem qKO:qCt.fix=[]:=rfl
theorem qR8:qCt.keep=[false,true]:=rfl
def qox:Nat→Tree:=fun _=> .done
def qv4:Nat→Nm:=fun i=>if i=2 then qr1 else ⟨[],[],false⟩
def qvn:Nat→Option Jn:=fun _=>none
def qti:Nat→Option Nm:=fun i=>if i=0 then some qCt else none
def quw:Nat→Option Nm:=fun _=>none
theorem p49:qn qox (Tryz.f49.body.getD .skip)=true:=by kernel_rfl
def T49 (N:Nat):Tab:={tr:=qox,lp:=qv4,ex:=qti,rg:=quw,jn:=qvn,fuel:=N}
theorem qXk (N:Nat):(T49 N).pins=false:=rfl
theorem q9W (N:Nat):qp Tryz.prog (T49 N):=qv fun _=>rfl
theorem qHx (N:Nat) (i:Nat):(T49 N).tr i=qox i:=rfl
theorem qPq (N:Nat) (i:Nat):(T49 N).lp i=qv4 i:=rfl
theorem qH7 (N:Nat) (i:Nat):(T49 N).ex i=qti i:=rfl
theorem qPX (N:Nat) (i:Nat):(T49 N).rg i=quw i:=rfl
theorem qHG (N:Nat) (i:Nat):(T49 N).jn i=qvn i:=rfl
theorem qPv (N:Nat):(T49 N).fuel=N:=rfl
noncomputable def q37:Code:=cut [true,false,true,true,true] (Tryz.f49.body.getD .skip)
theorem zeY {N:Nat} {Q:X→St→Option (qc [i3])} {e:List LV} {h:List Blk}:qe tt Γ49 (T49 N) q37 Q ⟨e,h⟩=qe tt Γ49 (T49 N) (cut [true,false,true,true,true] (Tryz.f49.body.getD .skip)) Q ⟨e,h⟩:=rfl
theorem zh8 (N:Nat) (v2:List (Val Y28)) {k0:Int→Option (qc [i3])} {Q:X→St→Option (qc [i3])} {c:Code} (hc:c=q37) (hret: ∀st,Q .ret st=qI tt true [i3] [.tmp 4] st) (h0: ∀(v5:Int),Q (.exit 0) ⟨[u,.one (.int .i64 v5),u,u,u,u,u,u,u,u,u,u,u,u,u,u,u,u,u,u,u,u,u,u,u,u,u,u,u,u,u],[]⟩=k0 v5): ∀(n:Nat) (v3:Int) (v4:Int),qE (qe tt Γ49 (T49 N) c) false qr1 Q n ⟨[.one (.sl 28 Y28 v2 0),.one (.int .i64 v3),u,u,u,.one (.int .i64 v4),u,u,u,u,u,u,u,u,u,u,u,u,u,u,u,u,u,u,u,u,u,u,u,u,u],[]⟩=qj7 N v2 k0 n v3 v4:=by
 subst hc;intro n;induction n with
 | zero=>intros;rfl
 | succ n ih=>
   intro v3 v4
   rw [qN,zeY,qj7];unfold Tryz.f49
   simp (maxSteps:=10000000) -implicitDefEqProofs [qHx,qox,qPq,qv4,qH7,qti,qPX,quw,qHG,qvn,qPv,qXk,qTP,qU2,qIl,qKO,qR8,qHf,hret,h0,ih]
theorem zfp (N:Nat) (v0:List (Val Y28)) (v1:Int):qe tt Γ49 (T49 N) (Tryz.f49.body.getD .skip) (qt tt true [i3] [.tmp 4]) (qw [i52,i3] 31 (v0,v1,()))=m49 N v0 v1:=by
 unfold Tryz.f49
 simp (maxSteps:=10000000) -implicitDefEqProofs [qHx,qox,qPq,qv4,qH7,qti,qPX,quw,qHG,qvn,qPv,qXk,qTP,qU2,qIl,qKO,qR8,qHf]
 rewrite [zh8 (k0:=(fun (v6:Int)=>some (v6,()))) N _ ?_ ?_ ?_]
 ·rewrite [m49];first | rfl | simp (maxSteps:=10000000) -implicitDefEqProofs []
 ·rfl
 ·intro;simp only [qJ,qL,qK,qB]
 ·intro v6;simp (maxSteps:=10000000) -implicitDefEqProofs [qHx,qox,qPq,qv4,qH7,qti,qPX,quw,qHG,qvn,qPv,qXk,qTP,qU2,qIl,qKO,qR8,qHf]
def g49:G:={ps:=[i52,i3],rs:=[i3],dp:=true,pre:=fun x=>qqA x.1 x.2.1,fn:=fun x=>(qmd x.1 x.2.1,())}
theorem e49 (x:List (Val Y28)) (k:Int) (h:qqA x k): ∃N,m49 N x k=some (qmd x k,()):=⟨x.length+1,by
 obtain ⟨hm,hb,h0,hc⟩:=h
 rw [m49]
 refine q5y (t:=Y28) (F:=fun n i k=>qj7 _ x _ n k i) (kf:=fun k=>some (k,())) x hb.1 (fun n i k hi hx h0 hb'=> ?_) (fun n i k hi=> ?_) _ k (Nat.lt_succ_self _) hm h0 hc
 ·have hle:x.length≤1048576:=hb.1
  have h1:(k:Int)=x[i].1:=congrArg Prod.fst hx
  have h2:IntKind.i64.wrap ((k:Int)+1)=x[i].2:=congrArg Prod.snd hx
  rw [qj7,qk (by omega),qd (by omega),qF hi,qaG,qk h1.symm,qd (by omega),qaG,qk h2.symm]
  rfl
 ·have hle:x.length≤1048576:=hb.1
  rw [qj7,qj (by omega)]⟩
theorem s49:Sound Tryz.prog 49 g49:=qx (tt:=tt) (Γ:=Γ49) hT qu hm (fn:=Tryz.f49) Tryz.func49 (c:=Tryz.f49.body.getD .skip) (by kernel_rfl) (by kernel_rfl) fun x hx=>by
 obtain ⟨N,h⟩:=e49 x.1 x.2.1 hx
 exact ⟨T49 N,p49,qy _,q9W N,(zfp N x.1 x.2.1).trans h⟩
theorem zqe {l:List (Val Y28)} (h:l.length≤4):Bd (.slice 28 Y28) l∧qa0 (.slice 28 Y28) l≤8:=
 ⟨⟨Nat.le_trans h (by decide),fun _ _=>⟨trivial,trivial⟩⟩,by
   have:=qZr (f:=qaM Y28) (c:=2) l fun _ _=>Nat.le_refl _
   show qbx (qaM Y28) l≤8
   omega⟩
noncomputable def m8 (N:Nat) (v0:Val Y42):Option (qc [i4]):=chk (qm6 v0 (1048576:Int)) (bif (decide (((qeW v0 (1048576:Int)):Int)<(0:Int)))then (some (true,()))else (chk (qeD v0) (chk (qji (((qo v0).1:Int),((qo v0).2:List (Val Y33)))) (chk (qeD v0) (chk (qji (((qo v0).1:Int),((qo v0).2:List (Val Y33)))) (chk (qeU ((ptV (((qo v0).1:Int),((qo v0).2:List (Val Y33)))).1:List (Val Y28)) ((ptV (((qo v0).1:Int),((qo v0).2:List (Val Y33)))).1:List (Val Y28))) (bif (!((qdK ((ptV (((qo v0).1:Int),((qo v0).2:List (Val Y33)))).1:List (Val Y28)) ((ptV (((qo v0).1:Int),((qo v0).2:List (Val Y33)))).1:List (Val Y28))):Bool))then (some (false,()))else (bif (!(decide (((ptV (((qo v0).1:Int),((qo v0).2:List (Val Y33)))).2:Int)=((ptV (((qo v0).1:Int),((qo v0).2:List (Val Y33)))).2:Int))))then (some (false,()))else (chk (qeD v0) (chk (qoP (((qo v0).1:Int),((qo v0).2:List (Val Y33))) (((qo v0).1:Int),((qo v0).2:List (Val Y33)))) (bif (!((qoO (((qo v0).1:Int),((qo v0).2:List (Val Y33))) (((qo v0).1:Int),((qo v0).2:List (Val Y33)))):Bool))then (some (false,()))else (chk (qBN (((qo v0).1:Int),((qo v0).2:List (Val Y33))) (1:Int)) (bif (decide ((qkA (((qo v0).1:Int),((qo v0).2:List (Val Y33))) (1:Int))<(0:Int)))then (some (false,()))else (chk (qeU ((ptV (((qo v0).1:Int),((qo v0).2:List (Val Y33)))).1:List (Val Y28)) ((ptV (((qo v0).1:Int),((qo v0).2:List (Val Y33)))).1:List (Val Y28))) (bif (!((qdK ((ptV (((qo v0).1:Int),((qo v0).2:List (Val Y33)))).1:List (Val Y28)) ((ptV (((qo v0).1:Int),((qo v0).2:List (Val Y33)))).1:List (Val Y28))):Bool))then (some (false,()))else (bif (!(decide (((ptV (((qo v0).1:Int),((qo v0).2:List (Val Y33)))).2:Int)=((ptV (((qo v0).1:Int),((qo v0).2:List (Val Y33)))).2:Int))))then (some (false,()))else (chk (qya ((ptV (((qo v0).1:Int),((qo v0).2:List (Val Y33)))).1:List (Val Y28)) (1:Int)) (chk (qqA ((qeB ((ptV (((qo v0).1:Int),((qo v0).2:List (Val Y33)))).1:List (Val Y28)) (1:Int)):List (Val Y28)) (1:Int)) (bif (decide (((qmd ((qeB ((ptV (((qo v0).1:Int),((qo v0).2:List (Val Y33)))).1:List (Val Y28)) (1:Int)):List (Val Y28)) (1:Int)):Int)<(0:Int)))then (some (false,()))else (bif (!(decide (((qmd ((qeB ((ptV (((qo v0).1:Int),((qo v0).2:List (Val Y33)))).1:List (Val Y28)) (1:Int)):List (Val Y28)) (1:Int)):Int)=(qkY ((ptV (((qo v0).1:Int),((qo v0).2:List (Val Y33)))).1:List (Val Y28)) (1:Int)))))then (some (false,()))else (chk (qeD v0) (chk (qji (((qo v0).1:Int),((qo v0).2:List (Val Y33)))) (chk (qeU ((ptV (((qo v0).1:Int),((qo v0).2:List (Val Y33)))).1:List (Val Y28)) ((ptV (((qo v0).1:Int),((qo v0).2:List (Val Y33)))).1:List (Val Y28))) (bif (!((qdK ((ptV (((qo v0).1:Int),((qo v0).2:List (Val Y33)))).1:List (Val Y28)) ((ptV (((qo v0).1:Int),((qo v0).2:List (Val Y33)))).1:List (Val Y28))):Bool))then (some (false,()))else (bif (!(decide (((ptV (((qo v0).1:Int),((qo v0).2:List (Val Y33)))).2:Int)=((ptV (((qo v0).1:Int),((qo v0).2:List (Val Y33)))).2:Int))))then (some (false,()))else (chk (qqA ((qeB ((ptV (((qo v0).1:Int),((qo v0).2:List (Val Y33)))).1:List (Val Y28)) (1:Int)):List (Val Y28)) (1:Int)) (bif (decide (((qmd ((qeB ((ptV (((qo v0).1:Int),((qo v0).2:List (Val Y33)))).1:List (Val Y28)) (1:Int)):List (Val Y28)) (1:Int)):Int)<(0:Int)))then (some (false,()))else (bif (!(decide (((qmd ((qeB ((ptV (((qo v0).1:Int),((qo v0).2:List (Val Y33)))).1:List (Val Y28)) (1:Int)):List (Val Y28)) (1:Int)):Int)=(qkY ((ptV (((qo v0).1:Int),((qo v0).2:List (Val Y33)))).1:List (Val Y28)) (1:Int)))))then (some (false,()))else (some (true,()))))))))))))))))))))))))))))))
def Γ8:Gam:=[(30,g30),(33,g33),(36,g36),(37,g37),(46,g46),(47,g47),(49,g49)]
theorem zrd:Gam.get Γ8 30=some g30:=rfl
theorem q6T:Gam.get Γ8 33=some g33:=rfl
theorem q7P:Gam.get Γ8 36=some g36:=rfl
theorem zep:Gam.get Γ8 37=some g37:=rfl
theorem ziU:Gam.get Γ8 46=some g46:=rfl
theorem zf5:Gam.get Γ8 47=some g47:=rfl
theorem q97:Gam.get Γ8 49=some g49:=rfl
theorem zhL:Gam.get Γ8 42=none:=rfl
theorem zfB:Gam.get Γ8 48=none:=rfl
def qHX:Sem:=qhg [(42,qI2),(48,qTY.gm)] []
def tr8:Nat→Tree:=fun i=>if i=10 then .quiet 1 (.alt 0 (.alt 2 (.alt 3 (.quiet 4 .done) .stop) .stop) (.alt 2 (.quiet 0 (.alt 3 (.quiet 4 .done) .stop)) .stop))else .done
def lp8:Nat→Nm:=fun _=>⟨[],[],false⟩
def jn8:Nat→Option Jn:=fun _=>none
def ex8:Nat→Option Nm:=fun _=>none
def rg8:Nat→Option Nm:=fun _=>none
theorem p8:qn tr8 (Tryz.f8.body.getD .skip)=true:=by kernel_rfl
def T8 (N:Nat):Tab:={tr:=tr8,lp:=lp8,ex:=ex8,rg:=rg8,jn:=jn8,fuel:=N,sem:=qHX}
theorem q4X (N:Nat):(T8 N).pins=false:=rfl
theorem tb8 (N:Nat):qp Tryz.prog (T8 N):=qv fun _=>rfl
theorem zjA (N:Nat):(T8 N).sem=qHX:=rfl
theorem zoP (N:Nat) (i:Nat):(T8 N).tr i=tr8 i:=rfl
theorem q8Q (N:Nat) (i:Nat):(T8 N).lp i=lp8 i:=rfl
theorem zh1 (N:Nat) (i:Nat):(T8 N).ex i=ex8 i:=rfl
theorem zk9 (N:Nat) (i:Nat):(T8 N).rg i=rg8 i:=rfl
theorem ziB (N:Nat) (i:Nat):(T8 N).jn i=jn8 i:=rfl
theorem zm0 (N:Nat):(T8 N).fuel=N:=rfl
theorem q7H (N:Nat) (v0:Val Y42):qe tt Γ8 (T8 N) (Tryz.f8.body.getD .skip) (qt tt true [i4] [.tmp 2]) (qw [i42] 96 (v0,()))=m8 N v0:=by
 rw [m8];unfold Tryz.f8
 simp (maxSteps:=10000000) -implicitDefEqProofs [zoP,tr8,q8Q,lp8,zh1,ex8,zk9,rg8,ziB,jn8,zm0,q4X,zjA,qHX,qbc,zhL,zfB,qI2,qTY,zrd,q6T,q7P,zep,ziU,zf5,q97,g30,g33,g36,g37,g46,g47,g49]
 try rfl
def q3u (_:Val Y42):Bool:=true
def q1w (x0:Val Y42):Prop:=Sms [i42] (x0,())
def g8:G:={ps:=[i42],rs:=[i4],dp:=true,pre:=fun x=>q1w x.1,fn:=fun x=>(q3u x.1,())}
theorem e8 (x:Val Y42) (h:q1w x): ∃N,m8 N x=some (q3u x,()):=⟨0,by
 rw [m8,qd (show qm6 x 1048576 from ⟨h.1,by omega,by omega⟩)]
 by_cases c:qeW x 1048576<0
 ·rw [qk c];rfl
 rw [qj c]
 have hsz:0≤szV Y42 x 1048576:=by have: ¬szV Y42 x 1048576<0:=c;omega
 have hle:szV Y42 x 1048576≤1048576:=(qc0 Y42 x 1048576 (by omega)).1
 have hb:Bd Y42 x:=qms Y42 x 1048576 (by omega) (by omega) hsz
 have hcx:=qOk Y50 x 1048576 rfl (by omega) hsz
 have hcx':(qa0 Y50 x:Int)≤67108864:=by have:0≤szV Y50 x 1048576:=hsz;omega
 have hk1:qkA x 1=1+qa0 Y50 x:=qxI Y50 x 1 (by omega) (by omega)
 have eX:((((qo x).1:Int),((qo x).2:List (Val Y33))):Val Y50)=qo x:=rfl
 rw [eX]
 have hpl:=zhe (qo x)
 have hpre:qji (qo x):=q0Q hb
 generalize ptV (qo x)=p at hpl ⊢
 obtain ⟨p,b⟩:=p
 change p.length≤4 at hpl
 obtain ⟨hpb,hpn⟩:=zqe hpl
 have hK1:qkY p 1=1+qa0 (.slice 28 Y28) p:=qxI (.slice 28 Y28) p 1 (by omega) (by omega)
 have hv1:qmd (qeB p 1) 1=qkY p 1:=congrArg Prod.snd (qAU (.slice 28 Y28) p 1)
 have hh1:qqA (qeB p 1) 1:=⟨congrArg Prod.fst (qAU (.slice 28 Y28) p 1),qLc _ _ _ hpb,by omega,by
  have:qa0 (.slice 28 Y28) (qeB p 1)=qa0 (.slice 28 Y28) p:=qTD _ _ _
  omega⟩
 have rf: ∀z:List (Val Y28),qdK z z=true:=fun z=>qeJ _ _
 have rg: ∀z:Val Y50,qoO z z=true:=fun z=>qeJ _ _
 have ep:qeU p p:=hpb
 have tx:qeD x:=hb
 have exx:qoP (qo x) (qo x):=hb
 have m1:qBN (qo x) 1:=⟨hb,by omega⟩
 have e1:qkA (qo x) 1=qkA x 1:=rfl
 have m3:qya p 1:=⟨hpb,by omega⟩
 have n1: ¬qkA (qo x) 1<0:=by omega
 have n2: ¬qkY p 1<0:=by omega
 dsimp only
 simp only [hv1,qd tx,qd hpre,qd ep,qd exx,qd m1,qd m3,qd hh1,rf,rg,decide_eq_false n1,decide_eq_false n2,Bool.not_true,cond_false,beq_self_eq_true,decide_true]
 rfl⟩
theorem s8:Sound Tryz.prog 8 g8:=qx (tt:=tt) (Γ:=Γ8) hT (qg s30 (qg s33 (qg s36 (qg s37 (qg s46 (qg s47 (qg s49 qu))))))) hm (fn:=Tryz.f8) Tryz.func8 (c:=Tryz.f8.body.getD .skip) (by kernel_rfl) (by kernel_rfl) fun x hx=>by
 obtain ⟨N,h⟩:=e8 x.1 hx
 exact ⟨T8 N,p8,qpm (qSn zpv (qSn ziq.gm qpn)) qnz,tb8 N,(q7H N x.1).trans h⟩
end Go.T
