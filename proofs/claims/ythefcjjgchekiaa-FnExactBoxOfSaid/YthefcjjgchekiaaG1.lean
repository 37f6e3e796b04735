/- Marks of boxes. -/
import Derived.Test.YthefcjjgchekiaaC1
import Derived.Test.YthefcjjgchekiaaA7
set_option linter.unusedSimpArgs false
set_option linter.unusedVariables false
namespace Go.T
open Go Go.Proofs
set_option maxHeartbeats 4000000
set_option maxRecDepth 100000
def qhO (x y:Val Y64):Bool:=eqV Y64 x y
def qha (x _:Val Y64):Prop:=Bd Y64 x
noncomputable def m57 (N:Nat) (v0:Val Y64) (v1:Val Y64):Option (qb [i4]):=bif (!(decide ((v0.1:Int)=(v1.1:Int))))then (some (false,()))else (bif (!(decide ((v0.2:Int)=(v1.2:Int))))then (some (false,()))else (some (true,())))
def Γ57:Gam:=[]
def qpg:Nat→Tree:=fun _=> .done
def quy:Nat→Nm:=fun _=>⟨[],[],false⟩
def qvy:Nat→Option Jn:=fun _=>none
def qq6:Nat→Option Nm:=fun _=>none
def qrX:Nat→Option Nm:=fun _=>none
theorem p57:ql qpg (Try.f57.body.getD .skip)=true:=by kernel_rfl
def T57 (N:Nat):Tab:={tr:=qpg,lp:=quy,ex:=qq6,rg:=qrX,jn:=qvy,fuel:=N}
theorem qID (N:Nat):(T57 N).pins=false:=rfl
theorem qHr (N:Nat):qm Try.prog (T57 N):=qu fun _=>rfl
theorem qKm (N:Nat) (i:Nat):(T57 N).tr i=qpg i:=rfl
theorem qM5 (N:Nat) (i:Nat):(T57 N).lp i=quy i:=rfl
theorem qIR (N:Nat) (i:Nat):(T57 N).ex i=qq6 i:=rfl
theorem qGo (N:Nat) (i:Nat):(T57 N).rg i=qrX i:=rfl
theorem qKW (N:Nat) (i:Nat):(T57 N).jn i=qvy i:=rfl
theorem qNq (N:Nat):(T57 N).fuel=N:=rfl
theorem qJZ (N:Nat) (v0:Val Y64) (v1:Val Y64):qd tt Γ57 (T57 N) (Try.f57.body.getD .skip) (qp tt true [i4] [.tmp 4]) (qt [i64,i64] 15 (v0,v1,()))=m57 N v0 v1:=by
 rw [m57];unfold Try.f57
 simp (maxSteps:=10000000) -implicitDefEqProofs [qKm,qpg,qM5,quy,qIR,qq6,qGo,qrX,qKW,qvy,qNq,qID]
 try rfl
def g57:G:={ps:=[i64,i64],rs:=[i4],dp:=true,pre:=fun x=>qha x.1 x.2.1,fn:=fun x=>(qhO x.1 x.2.1,())}
theorem e57 (x y:Val Y64) (h:qha x y): ∃N,m57 N x y=some (qhO x y,()):=⟨0,by
 obtain ⟨s0,s1⟩:=h
 rw [m57]
 obtain ⟨x0,x1⟩:=x
 obtain ⟨y0,y1⟩:=y
 change _=some ((eqV (.int .i64) x0 y0&&eqV (.int .i64) x1 y1),())
 simp only [qar]
 show _=_
 generalize he0:eqV (.int .i64) x0 y0=e0
 have hd0:decide ((x0:Int)=y0)=e0:=he0
 generalize he1:eqV (.int .i64) x1 y1=e1
 have hd1:decide ((x1:Int)=y1)=e1:=he1
 simp only [hd0,hd1]
 cases e0<;>cases e1<;>rfl⟩
theorem s57:Sound Try.prog 57 g57:=qw (tt:=tt) (Γ:=Γ57) hT qq hm (fn:=Try.f57) Try.func57 (c:=Try.f57.body.getD .skip) (by kernel_rfl) (by kernel_rfl) fun x hx=>by
 obtain ⟨N,h⟩:=e57 x.1 x.2.1 hx
 exact ⟨T57 N,p57,qx _,qHr N,(qJZ N x.1 x.2.1).trans h⟩
def qxq (x y:Val Y66):Bool:=eqV Y66 x y
def qpn (x _:Val Y66):Prop:=Bd Y66 x
noncomputable def m42 (N:Nat) (v0:Val Y66) (v1:Val Y66):Option (qb [i4]):=bif (!((v0.1:Bool)==(v1.1:Bool)))then (some (false,()))else (chk (qha v0.2.1 v1.2.1) (bif (!((qhO v0.2.1 v1.2.1):Bool))then (some (false,()))else (bif (!((v0.2.2.1:Bool)==(v1.2.2.1:Bool)))then (some (false,()))else (bif (!((v0.2.2.2.1:Bool)==(v1.2.2.2.1:Bool)))then (some (false,()))else (chk (qha v0.2.2.2.2.1 v1.2.2.2.2.1) (bif (!((qhO v0.2.2.2.2.1 v1.2.2.2.2.1):Bool))then (some (false,()))else (bif (!((v0.2.2.2.2.2.1:Bool)==(v1.2.2.2.2.2.1:Bool)))then (some (false,()))else (bif (!((v0.2.2.2.2.2.2:Bool)==(v1.2.2.2.2.2.2:Bool)))then (some (false,()))else (some (true,()))))))))))
def Γ42:Gam:=[(57,g57)]
theorem qRR:Gam.get Γ42 57=some g57:=rfl
def qqp:Nat→Tree:=fun _=> .done
def qus:Nat→Nm:=fun _=>⟨[],[],false⟩
def qsq:Nat→Option Jn:=fun _=>none
def qzh:Nat→Option Nm:=fun _=>none
def qsD:Nat→Option Nm:=fun _=>none
theorem p42:ql qqp (Try.f42.body.getD .skip)=true:=by kernel_rfl
def T42 (N:Nat):Tab:={tr:=qqp,lp:=qus,ex:=qzh,rg:=qsD,jn:=qsq,fuel:=N}
theorem qI3 (N:Nat):(T42 N).pins=false:=rfl
theorem qLa (N:Nat):qm Try.prog (T42 N):=qu fun _=>rfl
theorem qGI (N:Nat) (i:Nat):(T42 N).tr i=qqp i:=rfl
theorem qMO (N:Nat) (i:Nat):(T42 N).lp i=qus i:=rfl
theorem qR7 (N:Nat) (i:Nat):(T42 N).ex i=qzh i:=rfl
theorem qIv (N:Nat) (i:Nat):(T42 N).rg i=qsD i:=rfl
theorem qOJ (N:Nat) (i:Nat):(T42 N).jn i=qsq i:=rfl
theorem qKM (N:Nat):(T42 N).fuel=N:=rfl
theorem qNQ (N:Nat) (v0:Val Y66) (v1:Val Y66):qd tt Γ42 (T42 N) (Try.f42.body.getD .skip) (qp tt true [i4] [.tmp 4]) (qt [i66,i66] 42 (v0,v1,()))=m42 N v0 v1:=by
 rw [m42];unfold Try.f42
 simp (maxSteps:=10000000) -implicitDefEqProofs [qGI,qqp,qMO,qus,qR7,qzh,qIv,qsD,qOJ,qsq,qKM,qI3,qRR,g57]
 try rfl
def g42:G:={ps:=[i66,i66],rs:=[i4],dp:=true,pre:=fun x=>qpn x.1 x.2.1,fn:=fun x=>(qxq x.1 x.2.1,())}
theorem e42 (x y:Val Y66) (h:qpn x y): ∃N,m42 N x y=some (qxq x y,()):=⟨0,by
 obtain ⟨s0,s1,s2,s3,s4,s5,s6⟩:=h
 rw [m42,qc (show qha _ _ from s1),qc (show qha _ _ from s4)]
 obtain ⟨x0,x1,x2,x3,x4,x5,x6⟩:=x
 obtain ⟨y0,y1,y2,y3,y4,y5,y6⟩:=y
 change _=some ((eqV .bool x0 y0&&(eqV Y64 x1 y1&&(eqV .bool x2 y2&&(eqV .bool x3 y3&&(eqV Y64 x4 y4&&(eqV .bool x5 y5&&eqV .bool x6 y6)))))),())
 simp only [qar]
 show _=_
 generalize he0:eqV .bool x0 y0=e0
 have hd0:((x0:Bool)==y0)=e0:=he0
 generalize he1:eqV Y64 x1 y1=e1
 have hd1:qhO x1 y1=e1:=he1
 generalize he2:eqV .bool x2 y2=e2
 have hd2:((x2:Bool)==y2)=e2:=he2
 generalize he3:eqV .bool x3 y3=e3
 have hd3:((x3:Bool)==y3)=e3:=he3
 generalize he4:eqV Y64 x4 y4=e4
 have hd4:qhO x4 y4=e4:=he4
 generalize he5:eqV .bool x5 y5=e5
 have hd5:((x5:Bool)==y5)=e5:=he5
 generalize he6:eqV .bool x6 y6=e6
 have hd6:((x6:Bool)==y6)=e6:=he6
 simp only [hd0,hd1,hd2,hd3,hd4,hd5,hd6]
 cases e0<;>cases e1<;>cases e2<;>cases e3<;>cases e4<;>cases e5<;>cases e6<;>rfl⟩
theorem s42:Sound Try.prog 42 g42:=qw (tt:=tt) (Γ:=Γ42) hT (qf s57 qq) hm (fn:=Try.f42) Try.func42 (c:=Try.f42.body.getD .skip) (by kernel_rfl) (by kernel_rfl) fun x hx=>by
 obtain ⟨N,h⟩:=e42 x.1 x.2.1 hx
 exact ⟨T42 N,p42,qx _,qLa N,(qNQ N x.1 x.2.1).trans h⟩
def qgA (x y:List (Val Y66)):Bool:=eqV (.slice 66 Y66) x y
def qhx (x _:List (Val Y66)):Prop:=Bd (.slice 66 Y66) x
noncomputable def qgG (N:Nat) (v2:List (Val Y66)) (v3:List (Val Y66)) (k0:Unit→Option (qb [i4])):Nat→Int→Option (qb [i4])
 | 0,_=>none
 | n+1,v4=>bif (decide (v4<(v2.length:Int)))then (chk (0≤v4∧v4<(v2.length:Int)) (chk (0≤v4∧v4<(v3.length:Int)) (chk (qpn (v2.getD v4.toNat (qa Y66)) (v3.getD v4.toNat (qa Y66))) (bif (!((qxq (v2.getD v4.toNat (qa Y66)) (v3.getD v4.toNat (qa Y66))):Bool))then (some (false,()))else (qgG N v2 v3 k0 n (IntKind.i64.wrap (v4+(1:Int))))))))else (k0 ())
noncomputable def m21 (N:Nat) (v0:List (Val Y66)) (v1:List (Val Y66)):Option (qb [i4]):=bif (!(decide ((v0.length:Int)=(v1.length:Int))))then (some (false,()))else (qgG N v0 v1 (fun (_:Unit)=>some (true,())) N (0:Int))
def Γ21:Gam:=[(42,g42)]
theorem qCe:Gam.get Γ21 42=some g42:=rfl
def qjH:Nm:=⟨[true,true,false,false,false,true],[],false⟩
theorem qxQ:qjH.zero=false:=rfl
theorem qx7:qjH.fix=[]:=rfl
theorem qBy:qjH.keep=[true,true,false,false,false,true]:=rfl
def qpO:Nm:=⟨[],[],false⟩
theorem qtU:qpO.zero=false:=rfl
theorem quJ:qpO.fix=[]:=rfl
theorem qyW:qpO.keep=[]:=rfl
def qip:Nat→Tree:=fun i=>if i=6 then .quiet 0 (.quiet 1 (.quiet 2 (.quiet 3 (.quiet 4 (.quiet 5 (.quiet 6 (.quiet 7 (.alt 8 (.quiet 9 .done) .stop))))))))else .done
def qlj:Nat→Nm:=fun i=>if i=4 then qjH else ⟨[],[],false⟩
def qjg:Nat→Option Jn:=fun _=>none
def qiA:Nat→Option Nm:=fun i=>if i=0 then some qpO else none
def qkg:Nat→Option Nm:=fun _=>none
theorem p21:ql qip (Try.f21.body.getD .skip)=true:=by kernel_rfl
def T21 (N:Nat):Tab:={tr:=qip,lp:=qlj,ex:=qiA,rg:=qkg,jn:=qjg,fuel:=N}
theorem qr4 (N:Nat):(T21 N).pins=false:=rfl
theorem qIG (N:Nat):qm Try.prog (T21 N):=qu fun _=>rfl
theorem qsJ (N:Nat) (i:Nat):(T21 N).tr i=qip i:=rfl
theorem qwX (N:Nat) (i:Nat):(T21 N).lp i=qlj i:=rfl
theorem qu3 (N:Nat) (i:Nat):(T21 N).ex i=qiA i:=rfl
theorem qza (N:Nat) (i:Nat):(T21 N).rg i=qkg i:=rfl
theorem qu4 (N:Nat) (i:Nat):(T21 N).jn i=qjg i:=rfl
theorem qsZ (N:Nat):(T21 N).fuel=N:=rfl
noncomputable def qD1:Code:=cut [true,true,false,true,true,true] (Try.f21.body.getD .skip)
theorem qII {N:Nat} {Q:X→St→Option (qb [i4])} {e:List LV} {h:List Blk}:qd tt Γ21 (T21 N) qD1 Q ⟨e,h⟩=qd tt Γ21 (T21 N) (cut [true,true,false,true,true,true] (Try.f21.body.getD .skip)) Q ⟨e,h⟩:=rfl
theorem qNn (N:Nat) (v2:List (Val Y66)) (v3:List (Val Y66)) {k0:Unit→Option (qb [i4])} {Q:X→St→Option (qb [i4])} {c:Code} (hc:c=qD1) (hret: ∀st,Q .ret st=qI tt true [i4] [.tmp 4] st) (h0:Q (.exit 0) ⟨[u,u,u,u,u,u,u,u,u,u,u,u,u,u,u,u,u,u,u,u,u,u,u,u,u,u,u],[]⟩=k0 ()): ∀(n:Nat) (v4:Int),qD (qd tt Γ21 (T21 N) c) false qjH Q n ⟨[.one (.sl 66 Y66 v2 0),.one (.sl 66 Y66 v3 0),u,u,u,.one (.int .i64 v4),u,u,u,u,u,u,u,u,u,u,u,u,u,u,u,u,u,u,u,u,u],[]⟩=qgG N v2 v3 k0 n v4:=by
 subst hc;intro n;induction n with
 | zero=>intros;rfl
 | succ n ih=>
   intro v4
   rw [qR,qII,qgG];unfold Try.f21
   simp (maxSteps:=10000000) -implicitDefEqProofs [qsJ,qip,qwX,qlj,qu3,qiA,qza,qkg,qu4,qjg,qsZ,qr4,qx7,qBy,qxQ,quJ,qyW,qtU,qCe,g42,hret,h0,ih]
theorem qSA (N:Nat) (v0:List (Val Y66)) (v1:List (Val Y66)):qd tt Γ21 (T21 N) (Try.f21.body.getD .skip) (qp tt true [i4] [.tmp 4]) (qt [i46,i46] 27 (v0,v1,()))=m21 N v0 v1:=by
 unfold Try.f21
 simp (maxSteps:=10000000) -implicitDefEqProofs [qsJ,qip,qwX,qlj,qu3,qiA,qza,qkg,qu4,qjg,qsZ,qr4,qx7,qBy,qxQ,quJ,qyW,qtU,qCe,g42]
 rewrite [qNn (k0:=(fun (_:Unit)=>some (true,()))) N _ _ ?_ ?_ ?_]
 ·rewrite [m21];first | rfl | simp (maxSteps:=10000000) -implicitDefEqProofs []
 ·rfl
 ·intro;simp only [qK,qM,qO,qv]
 ·simp (maxSteps:=10000000) -implicitDefEqProofs [qsJ,qip,qwX,qlj,qu3,qiA,qza,qkg,qu4,qjg,qsZ,qr4,qx7,qBy,qxQ,quJ,qyW,qtU,qCe,g42]
def g21:G:={ps:=[i46,i46],rs:=[i4],dp:=true,pre:=fun x=>qhx x.1 x.2.1,fn:=fun x=>(qgA x.1 x.2.1,())}
theorem e21 (x y:List (Val Y66)) (h:qhx x y): ∃N,m21 N x y=some (qgA x y,()):=⟨List.length x+1,by
 rw [m21,qar]
 rw [qgA,eqS]
 by_cases c:List.length x=List.length y
 ·rw [qh (by omega)]
  refine (qyB (f:=eqV Y66) (xs:=x) (ys:=y) (F:=fun n i=>qgG _ x y _ n i) (k:=fun _=>some (true,())) (r:=some (false,())) h.1 c (fun n i hi hi2=> ?_) (fun n i hi=> ?_) _ (Nat.lt_succ_self _)).trans qsv
  ·rw [qgG,qh (by omega),qc (by omega),qc (by omega),qc (show qpn _ _ from by rw [qL hi];exact h.2 _ (List.getElem_mem hi)),qL hi,qL hi2,qar]
   rfl
  ·rw [qgG,qi (by omega)]
 ·rw [qi (by omega),qng _ _ c]⟩
theorem s21:Sound Try.prog 21 g21:=qw (tt:=tt) (Γ:=Γ21) hT (qf s42 qq) hm (fn:=Try.f21) Try.func21 (c:=Try.f21.body.getD .skip) (by kernel_rfl) (by kernel_rfl) fun x hx=>by
 obtain ⟨N,h⟩:=e21 x.1 x.2.1 hx
 exact ⟨T21 N,p21,qx _,qIG N,(qSA N x.1 x.2.1).trans h⟩
def qc1 (x:List (Val Y66)) (k:Int):List (Val Y66):=(mkT (.slice 66 Y66) x k).1
def qgs (x:List (Val Y66)) (k:Int):Int:=(mkT (.slice 66 Y66) x k).2
def qpV (x:List (Val Y66)) (k:Int):Prop:=Bd (.slice 66 Y66) x∧k≤9223372036854775807
def qtS:Gms:=⟨66,Y66,qpV,qc1,qgs⟩
noncomputable def qp1 (N:Nat) (v5:Int) (v6:Int) (v7:List (Val Y66)) (k9004:(List (Val Y66))→Option ((List (Val Y66))×Int)) (_:Nat):Option ((List (Val Y66))×Int):=chk ((3:Int)≠0) (chk (0≤v6∧v6<(v7.length:Int)) (chk (v6.toNat<v7.length) (k9004 (v7.set v6.toNat ((decide ((v5.tmod (3:Int))=(0:Int))),(v7.getD v6.toNat (qa Y66)).2)))))
noncomputable def qmF (N:Nat) (v10:Int) (v11:Int) (v12:List (Val Y66)) (k9006:(List (Val Y66))→Option ((List (Val Y66))×Int)) (_:Nat):Option ((List (Val Y66))×Int):=chk (0≤v11∧v11<(v12.length:Int)) (chk (v11.toNat<v12.length) (k9006 (v12.set v11.toNat (((v12.getD v11.toNat (qa Y66)).1:Bool),((v10,((((v12.getD v11.toNat (qa Y66)).2).1).2:Int)),((v12.getD v11.toNat (qa Y66)).2).2)))))
noncomputable def qh6 (N:Nat) (v15:Int) (v16:Int) (v17:List (Val Y66)) (k9008:(List (Val Y66))→Option ((List (Val Y66))×Int)) (_:Nat):Option ((List (Val Y66))×Int):=chk (0≤v16∧v16<(v17.length:Int)) (chk (v16.toNat<v17.length) (k9008 (v17.set v16.toNat (((v17.getD v16.toNat (qa Y66)).1:Bool),((((((v17.getD v16.toNat (qa Y66)).2).1).1:Int),v15),((v17.getD v16.toNat (qa Y66)).2).2)))))
noncomputable def qfY (N:Nat) (v20:Int) (v21:Int) (v22:List (Val Y66)) (k9010:(List (Val Y66))→Option ((List (Val Y66))×Int)) (_:Nat):Option ((List (Val Y66))×Int):=chk ((3:Int)≠0) (chk (0≤v21∧v21<(v22.length:Int)) (chk (v21.toNat<v22.length) (k9010 (v22.set v21.toNat (((v22.getD v21.toNat (qa Y66)).1:Bool),((((v22.getD v21.toNat (qa Y66)).2).1),((decide ((v20.tmod (3:Int))=(0:Int))),(((v22.getD v21.toNat (qa Y66)).2).2).2)))))))
noncomputable def qeX (N:Nat) (v25:Int) (v26:Int) (v27:List (Val Y66)) (k9012:(List (Val Y66))→Option ((List (Val Y66))×Int)) (_:Nat):Option ((List (Val Y66))×Int):=chk ((3:Int)≠0) (chk (0≤v26∧v26<(v27.length:Int)) (chk (v26.toNat<v27.length) (k9012 (v27.set v26.toNat (((v27.getD v26.toNat (qa Y66)).1:Bool),((((v27.getD v26.toNat (qa Y66)).2).1),(((((v27.getD v26.toNat (qa Y66)).2).2).1:Bool),((decide ((v25.tmod (3:Int))=(0:Int))),((((v27.getD v26.toNat (qa Y66)).2).2).2).2))))))))
noncomputable def qed (N:Nat) (v30:Int) (v31:Int) (v32:List (Val Y66)) (k9014:(List (Val Y66))→Option ((List (Val Y66))×Int)) (_:Nat):Option ((List (Val Y66))×Int):=chk (0≤v31∧v31<(v32.length:Int)) (chk (v31.toNat<v32.length) (k9014 (v32.set v31.toNat (((v32.getD v31.toNat (qa Y66)).1:Bool),((((v32.getD v31.toNat (qa Y66)).2).1),(((((v32.getD v31.toNat (qa Y66)).2).2).1:Bool),((((((v32.getD v31.toNat (qa Y66)).2).2).2).1:Bool),((v30,(((((((v32.getD v31.toNat (qa Y66)).2).2).2).2).1).2:Int)),(((((v32.getD v31.toNat (qa Y66)).2).2).2).2).2))))))))
noncomputable def qdp (N:Nat) (v35:Int) (v36:Int) (v37:List (Val Y66)) (k9016:(List (Val Y66))→Option ((List (Val Y66))×Int)) (_:Nat):Option ((List (Val Y66))×Int):=chk (0≤v36∧v36<(v37.length:Int)) (chk (v36.toNat<v37.length) (k9016 (v37.set v36.toNat (((v37.getD v36.toNat (qa Y66)).1:Bool),((((v37.getD v36.toNat (qa Y66)).2).1),(((((v37.getD v36.toNat (qa Y66)).2).2).1:Bool),((((((v37.getD v36.toNat (qa Y66)).2).2).2).1:Bool),(((((((((v37.getD v36.toNat (qa Y66)).2).2).2).2).1).1:Int),v35),(((((v37.getD v36.toNat (qa Y66)).2).2).2).2).2))))))))
noncomputable def qcX (N:Nat) (v40:Int) (v41:Int) (v42:List (Val Y66)) (k9018:(List (Val Y66))→Option ((List (Val Y66))×Int)) (_:Nat):Option ((List (Val Y66))×Int):=chk ((3:Int)≠0) (chk (0≤v41∧v41<(v42.length:Int)) (chk (v41.toNat<v42.length) (k9018 (v42.set v41.toNat (((v42.getD v41.toNat (qa Y66)).1:Bool),((((v42.getD v41.toNat (qa Y66)).2).1),(((((v42.getD v41.toNat (qa Y66)).2).2).1:Bool),((((((v42.getD v41.toNat (qa Y66)).2).2).2).1:Bool),(((((((v42.getD v41.toNat (qa Y66)).2).2).2).2).1),((decide ((v40.tmod (3:Int))=(0:Int))),(((((((v42.getD v41.toNat (qa Y66)).2).2).2).2).2).2:Bool)))))))))))
noncomputable def qcf (N:Nat) (k0:Int→(List (Val Y66))→Option ((List (Val Y66))×Int)):Nat→Int→Int→(List (Val Y66))→Option ((List (Val Y66))×Int)
 | 0,_,_,_=>none
 | n+1,v2,v3,v4=>bif (decide (v3<(v4.length:Int)))then (qp1 N v2 v3 v4 (fun (v9:List (Val Y66))=>qmF N (IntKind.i64.wrap (v2+(1:Int))) v3 v9 (fun (v14:List (Val Y66))=>qh6 N (IntKind.i64.wrap ((IntKind.i64.wrap (v2+(1:Int)))+(1:Int))) v3 v14 (fun (v19:List (Val Y66))=>qfY N (IntKind.i64.wrap ((IntKind.i64.wrap ((IntKind.i64.wrap (v2+(1:Int)))+(1:Int)))+(1:Int))) v3 v19 (fun (v24:List (Val Y66))=>qeX N (IntKind.i64.wrap ((IntKind.i64.wrap ((IntKind.i64.wrap ((IntKind.i64.wrap (v2+(1:Int)))+(1:Int)))+(1:Int)))+(1:Int))) v3 v24 (fun (v29:List (Val Y66))=>qed N (IntKind.i64.wrap ((IntKind.i64.wrap ((IntKind.i64.wrap ((IntKind.i64.wrap ((IntKind.i64.wrap (v2+(1:Int)))+(1:Int)))+(1:Int)))+(1:Int)))+(1:Int))) v3 v29 (fun (v34:List (Val Y66))=>qdp N (IntKind.i64.wrap ((IntKind.i64.wrap ((IntKind.i64.wrap ((IntKind.i64.wrap ((IntKind.i64.wrap ((IntKind.i64.wrap (v2+(1:Int)))+(1:Int)))+(1:Int)))+(1:Int)))+(1:Int)))+(1:Int))) v3 v34 (fun (v39:List (Val Y66))=>qcX N (IntKind.i64.wrap ((IntKind.i64.wrap ((IntKind.i64.wrap ((IntKind.i64.wrap ((IntKind.i64.wrap ((IntKind.i64.wrap ((IntKind.i64.wrap (v2+(1:Int)))+(1:Int)))+(1:Int)))+(1:Int)))+(1:Int)))+(1:Int)))+(1:Int))) v3 v39 (fun (v44:List (Val Y66))=>chk ((3:Int)≠0) (chk (0≤v3∧v3<(v44.length:Int)) (chk (v3.toNat<v44.length) (qcf N k0 n (IntKind.i64.wrap ((IntKind.i64.wrap ((IntKind.i64.wrap ((IntKind.i64.wrap ((IntKind.i64.wrap ((IntKind.i64.wrap ((IntKind.i64.wrap ((IntKind.i64.wrap ((IntKind.i64.wrap (v2+(1:Int)))+(1:Int)))+(1:Int)))+(1:Int)))+(1:Int)))+(1:Int)))+(1:Int)))+(1:Int)))+(1:Int))) (IntKind.i64.wrap (v3+(1:Int))) (v44.set v3.toNat (((v44.getD v3.toNat (qa Y66)).1:Bool),((((v44.getD v3.toNat (qa Y66)).2).1),(((((v44.getD v3.toNat (qa Y66)).2).2).1:Bool),((((((v44.getD v3.toNat (qa Y66)).2).2).2).1:Bool),(((((((v44.getD v3.toNat (qa Y66)).2).2).2).2).1),((((((((v44.getD v3.toNat (qa Y66)).2).2).2).2).2).1:Bool),(decide (((IntKind.i64.wrap ((IntKind.i64.wrap ((IntKind.i64.wrap ((IntKind.i64.wrap ((IntKind.i64.wrap ((IntKind.i64.wrap ((IntKind.i64.wrap ((IntKind.i64.wrap (v2+(1:Int)))+(1:Int)))+(1:Int)))+(1:Int)))+(1:Int)))+(1:Int)))+(1:Int)))+(1:Int))).tmod (3:Int))=(0:Int)))))))))))))) N) N) N) N) N) N) N) N)else (k0 v2 v4)
noncomputable def m22 (N:Nat) (v0:List (Val Y66)) (v1:Int):Option ((List (Val Y66))×Int):=qcf N (fun (v47:Int) (v48:List (Val Y66))=>some (v48,v47)) N v1 (0:Int) v0
def Γ22:Gam:=[]
def qoi:Nm:=⟨[true,true,false,false,false,true],[],false⟩
theorem qbV:qoi.zero=false:=rfl
theorem qbP:qoi.fix=[]:=rfl
theorem qba:qoi.keep=[true,true,false,false,false,true]:=rfl
def qqa:Nm:=⟨[true,true,false,false,false,true],[],false⟩
theorem qbq:qqa.zero=false:=rfl
theorem qbu:qqa.fix=[]:=rfl
theorem qa6:qqa.keep=[true,true,false,false,false,true]:=rfl
def qpB:Nm:=⟨[true,true,false,false,false,true],[],false⟩
theorem qbr:qpB.zero=false:=rfl
theorem qbs:qpB.fix=[]:=rfl
theorem qa5:qpB.keep=[true,true,false,false,false,true]:=rfl
def qpv:Nm:=⟨[true,true,false,false,false,true],[],false⟩
theorem qa7:qpv.zero=false:=rfl
theorem qbj:qpv.fix=[]:=rfl
theorem qbC:qpv.keep=[true,true,false,false,false,true]:=rfl
def qnH:Nm:=⟨[true,true,false,false,false,true],[],false⟩
theorem qbI:qnH.zero=false:=rfl
theorem qbR:qnH.fix=[]:=rfl
theorem qbW:qnH.keep=[true,true,false,false,false,true]:=rfl
def qoR:Nm:=⟨[true,true,false,false,false,true],[],false⟩
theorem qbY:qoR.zero=false:=rfl
theorem qbv:qoR.fix=[]:=rfl
theorem qbO:qoR.keep=[true,true,false,false,false,true]:=rfl
def qqf:Nm:=⟨[true,true,false,false,false,true],[],false⟩
theorem qbX:qqf.zero=false:=rfl
theorem qbN:qqf.fix=[]:=rfl
theorem qbS:qqf.keep=[true,true,false,false,false,true]:=rfl
def qp3:Nm:=⟨[true,true,false,false,false,true],[],false⟩
theorem qbb:qp3.zero=false:=rfl
theorem qa4:qp3.fix=[]:=rfl
theorem qbx:qp3.keep=[true,true,false,false,false,true]:=rfl
def qlO:Nm:=⟨[true,true,false,false,false,true],[],false⟩
theorem qbA:qlO.zero=false:=rfl
theorem qa9:qlO.fix=[]:=rfl
theorem qbG:qlO.keep=[true,true,false,false,false,true]:=rfl
def qoE:Nm:=⟨[false,true],[],false⟩
theorem qa2:qoE.zero=false:=rfl
theorem qb1:qoE.fix=[]:=rfl
theorem qa3:qoE.keep=[false,true]:=rfl
def qnk:Nm:=⟨[true,true,false,false,false,true],[],false⟩
theorem qbZ:qnk.zero=false:=rfl
theorem qbw:qnk.fix=[]:=rfl
theorem qbk:qnk.keep=[true,true,false,false,false,true]:=rfl
def qnA:Nm:=⟨[true,true,false,false,false,true],[],false⟩
theorem qbF:qnA.zero=false:=rfl
theorem qbo:qnA.fix=[]:=rfl
theorem qbd:qnA.keep=[true,true,false,false,false,true]:=rfl
def qqe:Nm:=⟨[true,true,false,false,false,true],[],false⟩
theorem qbJ:qqe.zero=false:=rfl
theorem qa8:qqe.fix=[]:=rfl
theorem qbi:qqe.keep=[true,true,false,false,false,true]:=rfl
def qo0:Nm:=⟨[true,true,false,false,false,true],[],false⟩
theorem qbe:qo0.zero=false:=rfl
theorem qbh:qo0.fix=[]:=rfl
theorem qbL:qo0.keep=[true,true,false,false,false,true]:=rfl
def qnf:Nm:=⟨[true,true,false,false,false,true],[],false⟩
theorem qbB:qnf.zero=false:=rfl
theorem qbg:qnf.fix=[]:=rfl
theorem qbH:qnf.keep=[true,true,false,false,false,true]:=rfl
def qqm:Nm:=⟨[true,true,false,false,false,true],[],false⟩
theorem qbc:qqm.zero=false:=rfl
theorem qa0:qqm.fix=[]:=rfl
theorem qbU:qqm.keep=[true,true,false,false,false,true]:=rfl
def qnV:Nm:=⟨[true,true,false,false,false,true],[],false⟩
theorem qbD:qnV.zero=false:=rfl
theorem qbM:qnV.fix=[]:=rfl
theorem qbp:qnV.keep=[true,true,false,false,false,true]:=rfl
def qpP:Nm:=⟨[true,true,false,false,false,true],[],false⟩
theorem qbT:qpP.zero=false:=rfl
theorem qbn:qpP.fix=[]:=rfl
theorem qbm:qpP.keep=[true,true,false,false,false,true]:=rfl
def qaU:Sem:=qe0 [] []
def qaI:Nat→Tree:=fun _=> .done
def qaN:Nat→Nm:=fun i=>if i=2 then qlO else ⟨[],[],false⟩
def qaG:Nat→Option Jn:=fun i=>if i=4 then some (.nm qoi)else if i=6 then some (.nm qqa)else if i=8 then some (.nm qpB)else if i=10 then some (.nm qpv)else if i=12 then some (.nm qnH)else if i=14 then some (.nm qoR)else if i=16 then some (.nm qqf)else if i=18 then some (.nm qp3)else none
def qaO:Nat→Option Nm:=fun i=>if i=0 then some qoE else none
def qaM:Nat→Option Nm:=fun i=>if i=4 then some qnk else if i=6 then some qnA else if i=8 then some qqe else if i=10 then some qo0 else if i=12 then some qnf else if i=14 then some qqm else if i=16 then some qnV else if i=18 then some qpP else none
theorem p22:ql qaI (Try.f22.body.getD .skip)=true:=by kernel_rfl
def T22 (N:Nat):Tab:={tr:=qaI,lp:=qaN,ex:=qaO,rg:=qaM,jn:=qaG,fuel:=N,pins:=true,sem:=qaU}
theorem qbt (N:Nat):(T22 N).pins=true:=rfl
theorem qQy (N:Nat):qm Try.prog (T22 N):=fun id j t h ht=>by
 have h:qaG id=_:=h
 unfold qaG at h
 repeat' split at h
 all_goals first | (simp at h;done) | (simp only [Option.some.injEq]at h;subst h;simp [Jn.tb]at ht;done) | (simp only [Option.some.injEq]at h;subst h;simp only [Jn.tb,Option.some.injEq]at ht;subst ht;exact hTH)
theorem qbE (N:Nat):(T22 N).sem=qaU:=rfl
theorem qbQ (N:Nat) (i:Nat):(T22 N).tr i=qaI i:=rfl
theorem qby (N:Nat) (i:Nat):(T22 N).lp i=qaN i:=rfl
theorem qbK (N:Nat) (i:Nat):(T22 N).ex i=qaO i:=rfl
theorem qbz (N:Nat) (i:Nat):(T22 N).rg i=qaM i:=rfl
theorem qb0 (N:Nat) (i:Nat):(T22 N).jn i=qaG i:=rfl
theorem qbf (N:Nat):(T22 N).fuel=N:=rfl
noncomputable def qDE:Code:=cut [true,false,true,true,true,true,false,true,false] (Try.f22.body.getD .skip)
theorem qKL {N:Nat} {Q:X→St→Option ((List (Val Y66))×Int)} {e:List LV} {h:List Blk}:qJ tt Γ22 (T22 N) qDE Q ⟨e,h⟩=qJ tt Γ22 (T22 N) (cut [true,false,true,true,true,true,false,true,false] (Try.f22.body.getD .skip)) Q ⟨e,h⟩:=rfl
theorem qGB (N:Nat) (v5:Int) (v6:Int) (v7:List (Val Y66)) {k9004:(List (Val Y66))→Option ((List (Val Y66))×Int)} {Q:X→St→Option ((List (Val Y66))×Int)} {c:Code} (hc:c=qDE) (h9004: ∀(v8:List (Val Y66)),Q .normal ⟨[.one (.own 0),.one (.int .i64 v5),u,u,u,.one (.int .i64 v6),u,u,u,u,u,u,u,u,u,u,u,u,u,u,u,u,u,u,u,u,u,u,u,u,u,u,u,u,u,u,u,u,u,u,u,u,u,u,u,u,u,u,u,u,u,u,u,u,u,u,u,u,u,u,u,u,u,u,u,u,u,u,u,u,u,u,u,u,u,u,u,u,u,u,u,u,u,u,u,u,u,u,u,u],[.row 66 Y66 v8 true true 0]⟩=k9004 v8):qJ tt Γ22 (T22 N) c Q ⟨[.one (.own 0),.one (.int .i64 v5),u,u,u,.one (.int .i64 v6),u,u,u,u,u,u,u,u,u,u,u,u,u,u,u,u,u,u,u,u,u,u,u,u,u,u,u,u,u,u,u,u,u,u,u,u,u,u,u,u,u,u,u,u,u,u,u,u,u,u,u,u,u,u,u,u,u,u,u,u,u,u,u,u,u,u,u,u,u,u,u,u,u,u,u,u,u,u,u,u,u,u,u,u],[.row 66 Y66 v7 true true 0]⟩=qp1 N v5 v6 v7 k9004 N:=by
 subst hc;rw [qKL,qp1];unfold Try.f22
 simp (maxSteps:=10000000) -implicitDefEqProofs [qap (id:=4),qan (id:=4),qbQ,qaI,qby,qaN,qbK,qaO,qbz,qaM,qb0,qaG,qbf,qbt,qbE,qaU,qah,qv,qae,qbP,qba,qbV,qbu,qa6,qbq,qbs,qa5,qbr,qbj,qbC,qa7,qbR,qbW,qbI,qbv,qbO,qbY,qbN,qbS,qbX,qa4,qbx,qbb,qa9,qbG,qbA,qb1,qa3,qa2,qbw,qbk,qbZ,qbo,qbd,qbF,qa8,qbi,qbJ,qbh,qbL,qbe,qbg,qbH,qbB,qa0,qbU,qbc,qbM,qbp,qbD,qbn,qbm,qbT,h9004]
noncomputable def qEM:Code:=cut [true,false,true,true,true,true,false,true,true,true,false] (Try.f22.body.getD .skip)
theorem qOq {N:Nat} {Q:X→St→Option ((List (Val Y66))×Int)} {e:List LV} {h:List Blk}:qJ tt Γ22 (T22 N) qEM Q ⟨e,h⟩=qJ tt Γ22 (T22 N) (cut [true,false,true,true,true,true,false,true,true,true,false] (Try.f22.body.getD .skip)) Q ⟨e,h⟩:=rfl
theorem qJS (N:Nat) (v10:Int) (v11:Int) (v12:List (Val Y66)) {k9006:(List (Val Y66))→Option ((List (Val Y66))×Int)} {Q:X→St→Option ((List (Val Y66))×Int)} {c:Code} (hc:c=qEM) (h9006: ∀(v13:List (Val Y66)),Q .normal ⟨[.one (.own 0),.one (.int .i64 v10),u,u,u,.one (.int .i64 v11),u,u,u,u,u,u,u,u,u,u,u,u,u,u,u,u,u,u,u,u,u,u,u,u,u,u,u,u,u,u,u,u,u,u,u,u,u,u,u,u,u,u,u,u,u,u,u,u,u,u,u,u,u,u,u,u,u,u,u,u,u,u,u,u,u,u,u,u,u,u,u,u,u,u,u,u,u,u,u,u,u,u,u,u],[.row 66 Y66 v13 true true 0]⟩=k9006 v13):qJ tt Γ22 (T22 N) c Q ⟨[.one (.own 0),.one (.int .i64 v10),u,u,u,.one (.int .i64 v11),u,u,u,u,u,u,u,u,u,u,u,u,u,u,u,u,u,u,u,u,u,u,u,u,u,u,u,u,u,u,u,u,u,u,u,u,u,u,u,u,u,u,u,u,u,u,u,u,u,u,u,u,u,u,u,u,u,u,u,u,u,u,u,u,u,u,u,u,u,u,u,u,u,u,u,u,u,u,u,u,u,u,u,u],[.row 66 Y66 v12 true true 0]⟩=qmF N v10 v11 v12 k9006 N:=by
 subst hc;rw [qOq,qmF];unfold Try.f22
 simp (maxSteps:=10000000) -implicitDefEqProofs [qap (id:=6),qan (id:=6),qbQ,qaI,qby,qaN,qbK,qaO,qbz,qaM,qb0,qaG,qbf,qbt,qbE,qaU,qah,qv,qae,qbP,qba,qbV,qbu,qa6,qbq,qbs,qa5,qbr,qbj,qbC,qa7,qbR,qbW,qbI,qbv,qbO,qbY,qbN,qbS,qbX,qa4,qbx,qbb,qa9,qbG,qbA,qb1,qa3,qa2,qbw,qbk,qbZ,qbo,qbd,qbF,qa8,qbi,qbJ,qbh,qbL,qbe,qbg,qbH,qbB,qa0,qbU,qbc,qbM,qbp,qbD,qbn,qbm,qbT,h9006]
noncomputable def qFZ:Code:=cut [true,false,true,true,true,true,false,true,true,true,true,true,false] (Try.f22.body.getD .skip)
theorem qKU {N:Nat} {Q:X→St→Option ((List (Val Y66))×Int)} {e:List LV} {h:List Blk}:qJ tt Γ22 (T22 N) qFZ Q ⟨e,h⟩=qJ tt Γ22 (T22 N) (cut [true,false,true,true,true,true,false,true,true,true,true,true,false] (Try.f22.body.getD .skip)) Q ⟨e,h⟩:=rfl
theorem qSv (N:Nat) (v15:Int) (v16:Int) (v17:List (Val Y66)) {k9008:(List (Val Y66))→Option ((List (Val Y66))×Int)} {Q:X→St→Option ((List (Val Y66))×Int)} {c:Code} (hc:c=qFZ) (h9008: ∀(v18:List (Val Y66)),Q .normal ⟨[.one (.own 0),.one (.int .i64 v15),u,u,u,.one (.int .i64 v16),u,u,u,u,u,u,u,u,u,u,u,u,u,u,u,u,u,u,u,u,u,u,u,u,u,u,u,u,u,u,u,u,u,u,u,u,u,u,u,u,u,u,u,u,u,u,u,u,u,u,u,u,u,u,u,u,u,u,u,u,u,u,u,u,u,u,u,u,u,u,u,u,u,u,u,u,u,u,u,u,u,u,u,u],[.row 66 Y66 v18 true true 0]⟩=k9008 v18):qJ tt Γ22 (T22 N) c Q ⟨[.one (.own 0),.one (.int .i64 v15),u,u,u,.one (.int .i64 v16),u,u,u,u,u,u,u,u,u,u,u,u,u,u,u,u,u,u,u,u,u,u,u,u,u,u,u,u,u,u,u,u,u,u,u,u,u,u,u,u,u,u,u,u,u,u,u,u,u,u,u,u,u,u,u,u,u,u,u,u,u,u,u,u,u,u,u,u,u,u,u,u,u,u,u,u,u,u,u,u,u,u,u,u],[.row 66 Y66 v17 true true 0]⟩=qh6 N v15 v16 v17 k9008 N:=by
 subst hc;rw [qKU,qh6];unfold Try.f22
 simp (maxSteps:=10000000) -implicitDefEqProofs [qap (id:=8),qan (id:=8),qbQ,qaI,qby,qaN,qbK,qaO,qbz,qaM,qb0,qaG,qbf,qbt,qbE,qaU,qah,qv,qae,qbP,qba,qbV,qbu,qa6,qbq,qbs,qa5,qbr,qbj,qbC,qa7,qbR,qbW,qbI,qbv,qbO,qbY,qbN,qbS,qbX,qa4,qbx,qbb,qa9,qbG,qbA,qb1,qa3,qa2,qbw,qbk,qbZ,qbo,qbd,qbF,qa8,qbi,qbJ,qbh,qbL,qbe,qbg,qbH,qbB,qa0,qbU,qbc,qbM,qbp,qbD,qbn,qbm,qbT,h9008]
noncomputable def qFD:Code:=cut [true,false,true,true,true,true,false,true,true,true,true,true,true,true,false] (Try.f22.body.getD .skip)
theorem qG1 {N:Nat} {Q:X→St→Option ((List (Val Y66))×Int)} {e:List LV} {h:List Blk}:qJ tt Γ22 (T22 N) qFD Q ⟨e,h⟩=qJ tt Γ22 (T22 N) (cut [true,false,true,true,true,true,false,true,true,true,true,true,true,true,false] (Try.f22.body.getD .skip)) Q ⟨e,h⟩:=rfl
theorem qGf (N:Nat) (v20:Int) (v21:Int) (v22:List (Val Y66)) {k9010:(List (Val Y66))→Option ((List (Val Y66))×Int)} {Q:X→St→Option ((List (Val Y66))×Int)} {c:Code} (hc:c=qFD) (h9010: ∀(v23:List (Val Y66)),Q .normal ⟨[.one (.own 0),.one (.int .i64 v20),u,u,u,.one (.int .i64 v21),u,u,u,u,u,u,u,u,u,u,u,u,u,u,u,u,u,u,u,u,u,u,u,u,u,u,u,u,u,u,u,u,u,u,u,u,u,u,u,u,u,u,u,u,u,u,u,u,u,u,u,u,u,u,u,u,u,u,u,u,u,u,u,u,u,u,u,u,u,u,u,u,u,u,u,u,u,u,u,u,u,u,u,u],[.row 66 Y66 v23 true true 0]⟩=k9010 v23):qJ tt Γ22 (T22 N) c Q ⟨[.one (.own 0),.one (.int .i64 v20),u,u,u,.one (.int .i64 v21),u,u,u,u,u,u,u,u,u,u,u,u,u,u,u,u,u,u,u,u,u,u,u,u,u,u,u,u,u,u,u,u,u,u,u,u,u,u,u,u,u,u,u,u,u,u,u,u,u,u,u,u,u,u,u,u,u,u,u,u,u,u,u,u,u,u,u,u,u,u,u,u,u,u,u,u,u,u,u,u,u,u,u,u],[.row 66 Y66 v22 true true 0]⟩=qfY N v20 v21 v22 k9010 N:=by
 subst hc;rw [qG1,qfY];unfold Try.f22
 simp (maxSteps:=10000000) -implicitDefEqProofs [qap (id:=10),qan (id:=10),qbQ,qaI,qby,qaN,qbK,qaO,qbz,qaM,qb0,qaG,qbf,qbt,qbE,qaU,qah,qv,qae,qbP,qba,qbV,qbu,qa6,qbq,qbs,qa5,qbr,qbj,qbC,qa7,qbR,qbW,qbI,qbv,qbO,qbY,qbN,qbS,qbX,qa4,qbx,qbb,qa9,qbG,qbA,qb1,qa3,qa2,qbw,qbk,qbZ,qbo,qbd,qbF,qa8,qbi,qbJ,qbh,qbL,qbe,qbg,qbH,qbB,qa0,qbU,qbc,qbM,qbp,qbD,qbn,qbm,qbT,h9010]
noncomputable def qFs:Code:=cut [true,false,true,true,true,true,false,true,true,true,true,true,true,true,true,true,false] (Try.f22.body.getD .skip)
theorem qRE {N:Nat} {Q:X→St→Option ((List (Val Y66))×Int)} {e:List LV} {h:List Blk}:qJ tt Γ22 (T22 N) qFs Q ⟨e,h⟩=qJ tt Γ22 (T22 N) (cut [true,false,true,true,true,true,false,true,true,true,true,true,true,true,true,true,false] (Try.f22.body.getD .skip)) Q ⟨e,h⟩:=rfl
theorem qQc (N:Nat) (v25:Int) (v26:Int) (v27:List (Val Y66)) {k9012:(List (Val Y66))→Option ((List (Val Y66))×Int)} {Q:X→St→Option ((List (Val Y66))×Int)} {c:Code} (hc:c=qFs) (h9012: ∀(v28:List (Val Y66)),Q .normal ⟨[.one (.own 0),.one (.int .i64 v25),u,u,u,.one (.int .i64 v26),u,u,u,u,u,u,u,u,u,u,u,u,u,u,u,u,u,u,u,u,u,u,u,u,u,u,u,u,u,u,u,u,u,u,u,u,u,u,u,u,u,u,u,u,u,u,u,u,u,u,u,u,u,u,u,u,u,u,u,u,u,u,u,u,u,u,u,u,u,u,u,u,u,u,u,u,u,u,u,u,u,u,u,u],[.row 66 Y66 v28 true true 0]⟩=k9012 v28):qJ tt Γ22 (T22 N) c Q ⟨[.one (.own 0),.one (.int .i64 v25),u,u,u,.one (.int .i64 v26),u,u,u,u,u,u,u,u,u,u,u,u,u,u,u,u,u,u,u,u,u,u,u,u,u,u,u,u,u,u,u,u,u,u,u,u,u,u,u,u,u,u,u,u,u,u,u,u,u,u,u,u,u,u,u,u,u,u,u,u,u,u,u,u,u,u,u,u,u,u,u,u,u,u,u,u,u,u,u,u,u,u,u,u],[.row 66 Y66 v27 true true 0]⟩=qeX N v25 v26 v27 k9012 N:=by
 subst hc;rw [qRE,qeX];unfold Try.f22
 simp (maxSteps:=10000000) -implicitDefEqProofs [qap (id:=12),qan (id:=12),qbQ,qaI,qby,qaN,qbK,qaO,qbz,qaM,qb0,qaG,qbf,qbt,qbE,qaU,qah,qv,qae,qbP,qba,qbV,qbu,qa6,qbq,qbs,qa5,qbr,qbj,qbC,qa7,qbR,qbW,qbI,qbv,qbO,qbY,qbN,qbS,qbX,qa4,qbx,qbb,qa9,qbG,qbA,qb1,qa3,qa2,qbw,qbk,qbZ,qbo,qbd,qbF,qa8,qbi,qbJ,qbh,qbL,qbe,qbg,qbH,qbB,qa0,qbU,qbc,qbM,qbp,qbD,qbn,qbm,qbT,h9012]
noncomputable def qCk:Code:=cut [true,false,true,true,true,true,false,true,true,true,true,true,true,true,true,true,true,true,false] (Try.f22.body.getD .skip)
theorem qLv {N:Nat} {Q:X→St→Option ((List (Val Y66))×Int)} {e:List LV} {h:List Blk}:qJ tt Γ22 (T22 N) qCk Q ⟨e,h⟩=qJ tt Γ22 (T22 N) (cut [true,false,true,true,true,true,false,true,true,true,true,true,true,true,true,true,true,true,false] (Try.f22.body.getD .skip)) Q ⟨e,h⟩:=rfl
theorem qH3 (N:Nat) (v30:Int) (v31:Int) (v32:List (Val Y66)) {k9014:(List (Val Y66))→Option ((List (Val Y66))×Int)} {Q:X→St→Option ((List (Val Y66))×Int)} {c:Code} (hc:c=qCk) (h9014: ∀(v33:List (Val Y66)),Q .normal ⟨[.one (.own 0),.one (.int .i64 v30),u,u,u,.one (.int .i64 v31),u,u,u,u,u,u,u,u,u,u,u,u,u,u,u,u,u,u,u,u,u,u,u,u,u,u,u,u,u,u,u,u,u,u,u,u,u,u,u,u,u,u,u,u,u,u,u,u,u,u,u,u,u,u,u,u,u,u,u,u,u,u,u,u,u,u,u,u,u,u,u,u,u,u,u,u,u,u,u,u,u,u,u,u],[.row 66 Y66 v33 true true 0]⟩=k9014 v33):qJ tt Γ22 (T22 N) c Q ⟨[.one (.own 0),.one (.int .i64 v30),u,u,u,.one (.int .i64 v31),u,u,u,u,u,u,u,u,u,u,u,u,u,u,u,u,u,u,u,u,u,u,u,u,u,u,u,u,u,u,u,u,u,u,u,u,u,u,u,u,u,u,u,u,u,u,u,u,u,u,u,u,u,u,u,u,u,u,u,u,u,u,u,u,u,u,u,u,u,u,u,u,u,u,u,u,u,u,u,u,u,u,u,u],[.row 66 Y66 v32 true true 0]⟩=qed N v30 v31 v32 k9014 N:=by
 subst hc;rw [qLv,qed];unfold Try.f22
 simp (maxSteps:=10000000) -implicitDefEqProofs [qap (id:=14),qan (id:=14),qbQ,qaI,qby,qaN,qbK,qaO,qbz,qaM,qb0,qaG,qbf,qbt,qbE,qaU,qah,qv,qae,qbP,qba,qbV,qbu,qa6,qbq,qbs,qa5,qbr,qbj,qbC,qa7,qbR,qbW,qbI,qbv,qbO,qbY,qbN,qbS,qbX,qa4,qbx,qbb,qa9,qbG,qbA,qb1,qa3,qa2,qbw,qbk,qbZ,qbo,qbd,qbF,qa8,qbi,qbJ,qbh,qbL,qbe,qbg,qbH,qbB,qa0,qbU,qbc,qbM,qbp,qbD,qbn,qbm,qbT,h9014]
noncomputable def qD2:Code:=cut [true,false,true,true,true,true,false,true,true,true,true,true,true,true,true,true,true,true,true,true,false] (Try.f22.body.getD .skip)
theorem qHX {N:Nat} {Q:X→St→Option ((List (Val Y66))×Int)} {e:List LV} {h:List Blk}:qJ tt Γ22 (T22 N) qD2 Q ⟨e,h⟩=qJ tt Γ22 (T22 N) (cut [true,false,true,true,true,true,false,true,true,true,true,true,true,true,true,true,true,true,true,true,false] (Try.f22.body.getD .skip)) Q ⟨e,h⟩:=rfl
theorem qKP (N:Nat) (v35:Int) (v36:Int) (v37:List (Val Y66)) {k9016:(List (Val Y66))→Option ((List (Val Y66))×Int)} {Q:X→St→Option ((List (Val Y66))×Int)} {c:Code} (hc:c=qD2) (h9016: ∀(v38:List (Val Y66)),Q .normal ⟨[.one (.own 0),.one (.int .i64 v35),u,u,u,.one (.int .i64 v36),u,u,u,u,u,u,u,u,u,u,u,u,u,u,u,u,u,u,u,u,u,u,u,u,u,u,u,u,u,u,u,u,u,u,u,u,u,u,u,u,u,u,u,u,u,u,u,u,u,u,u,u,u,u,u,u,u,u,u,u,u,u,u,u,u,u,u,u,u,u,u,u,u,u,u,u,u,u,u,u,u,u,u,u],[.row 66 Y66 v38 true true 0]⟩=k9016 v38):qJ tt Γ22 (T22 N) c Q ⟨[.one (.own 0),.one (.int .i64 v35),u,u,u,.one (.int .i64 v36),u,u,u,u,u,u,u,u,u,u,u,u,u,u,u,u,u,u,u,u,u,u,u,u,u,u,u,u,u,u,u,u,u,u,u,u,u,u,u,u,u,u,u,u,u,u,u,u,u,u,u,u,u,u,u,u,u,u,u,u,u,u,u,u,u,u,u,u,u,u,u,u,u,u,u,u,u,u,u,u,u,u,u,u],[.row 66 Y66 v37 true true 0]⟩=qdp N v35 v36 v37 k9016 N:=by
 subst hc;rw [qHX,qdp];unfold Try.f22
 simp (maxSteps:=10000000) -implicitDefEqProofs [qap (id:=16),qan (id:=16),qbQ,qaI,qby,qaN,qbK,qaO,qbz,qaM,qb0,qaG,qbf,qbt,qbE,qaU,qah,qv,qae,qbP,qba,qbV,qbu,qa6,qbq,qbs,qa5,qbr,qbj,qbC,qa7,qbR,qbW,qbI,qbv,qbO,qbY,qbN,qbS,qbX,qa4,qbx,qbb,qa9,qbG,qbA,qb1,qa3,qa2,qbw,qbk,qbZ,qbo,qbd,qbF,qa8,qbi,qbJ,qbh,qbL,qbe,qbg,qbH,qbB,qa0,qbU,qbc,qbM,qbp,qbD,qbn,qbm,qbT,h9016]
noncomputable def qDn:Code:=cut [true,false,true,true,true,true,false,true,true,true,true,true,true,true,true,true,true,true,true,true,true,true,false] (Try.f22.body.getD .skip)
theorem qP4 {N:Nat} {Q:X→St→Option ((List (Val Y66))×Int)} {e:List LV} {h:List Blk}:qJ tt Γ22 (T22 N) qDn Q ⟨e,h⟩=qJ tt Γ22 (T22 N) (cut [true,false,true,true,true,true,false,true,true,true,true,true,true,true,true,true,true,true,true,true,true,true,false] (Try.f22.body.getD .skip)) Q ⟨e,h⟩:=rfl
theorem qF5 (N:Nat) (v40:Int) (v41:Int) (v42:List (Val Y66)) {k9018:(List (Val Y66))→Option ((List (Val Y66))×Int)} {Q:X→St→Option ((List (Val Y66))×Int)} {c:Code} (hc:c=qDn) (h9018: ∀(v43:List (Val Y66)),Q .normal ⟨[.one (.own 0),.one (.int .i64 v40),u,u,u,.one (.int .i64 v41),u,u,u,u,u,u,u,u,u,u,u,u,u,u,u,u,u,u,u,u,u,u,u,u,u,u,u,u,u,u,u,u,u,u,u,u,u,u,u,u,u,u,u,u,u,u,u,u,u,u,u,u,u,u,u,u,u,u,u,u,u,u,u,u,u,u,u,u,u,u,u,u,u,u,u,u,u,u,u,u,u,u,u,u],[.row 66 Y66 v43 true true 0]⟩=k9018 v43):qJ tt Γ22 (T22 N) c Q ⟨[.one (.own 0),.one (.int .i64 v40),u,u,u,.one (.int .i64 v41),u,u,u,u,u,u,u,u,u,u,u,u,u,u,u,u,u,u,u,u,u,u,u,u,u,u,u,u,u,u,u,u,u,u,u,u,u,u,u,u,u,u,u,u,u,u,u,u,u,u,u,u,u,u,u,u,u,u,u,u,u,u,u,u,u,u,u,u,u,u,u,u,u,u,u,u,u,u,u,u,u,u,u,u],[.row 66 Y66 v42 true true 0]⟩=qcX N v40 v41 v42 k9018 N:=by
 subst hc;rw [qP4,qcX];unfold Try.f22
 simp (maxSteps:=10000000) -implicitDefEqProofs [qap (id:=18),qan (id:=18),qbQ,qaI,qby,qaN,qbK,qaO,qbz,qaM,qb0,qaG,qbf,qbt,qbE,qaU,qah,qv,qae,qbP,qba,qbV,qbu,qa6,qbq,qbs,qa5,qbr,qbj,qbC,qa7,qbR,qbW,qbI,qbv,qbO,qbY,qbN,qbS,qbX,qa4,qbx,qbb,qa9,qbG,qbA,qb1,qa3,qa2,qbw,qbk,qbZ,qbo,qbd,qbF,qa8,qbi,qbJ,qbh,qbL,qbe,qbg,qbH,qbB,qa0,qbU,qbc,qbM,qbp,qbD,qbn,qbm,qbT,h9018]
noncomputable def qES:Code:=cut [true,false,true,true,true] (Try.f22.body.getD .skip)
theorem qRz {N:Nat} {Q:X→St→Option ((List (Val Y66))×Int)} {e:List LV} {h:List Blk}:qd tt Γ22 (T22 N) qES Q ⟨e,h⟩=qd tt Γ22 (T22 N) (cut [true,false,true,true,true] (Try.f22.body.getD .skip)) Q ⟨e,h⟩:=rfl
theorem qSl (N:Nat) {k0:Int→(List (Val Y66))→Option ((List (Val Y66))×Int)} {Q:X→St→Option ((List (Val Y66))×Int)} {c:Code} (hc:c=qES) (hret: ∀st,Q .ret st=qdl tt (.slice 66 Y66) [.own 0] [.tmp 4] st) (h0: ∀(v45:Int) (v46:List (Val Y66)),Q (.exit 0) ⟨[u,.one (.int .i64 v45),u,u,u,u,u,u,u,u,u,u,u,u,u,u,u,u,u,u,u,u,u,u,u,u,u,u,u,u,u,u,u,u,u,u,u,u,u,u,u,u,u,u,u,u,u,u,u,u,u,u,u,u,u,u,u,u,u,u,u,u,u,u,u,u,u,u,u,u,u,u,u,u,u,u,u,u,u,u,u,u,u,u,u,u,u,u,u,u],[.row 66 Y66 v46 true true 0]⟩=k0 v45 v46): ∀(n:Nat) (v2:Int) (v3:Int) (v4:List (Val Y66)),qD (qd tt Γ22 (T22 N) c) true qlO Q n ⟨[.one (.own 0),.one (.int .i64 v2),u,u,u,.one (.int .i64 v3),u,u,u,u,u,u,u,u,u,u,u,u,u,u,u,u,u,u,u,u,u,u,u,u,u,u,u,u,u,u,u,u,u,u,u,u,u,u,u,u,u,u,u,u,u,u,u,u,u,u,u,u,u,u,u,u,u,u,u,u,u,u,u,u,u,u,u,u,u,u,u,u,u,u,u,u,u,u,u,u,u,u,u,u],[.row 66 Y66 v4 true true 0]⟩=qcf N k0 n v2 v3 v4:=by
 subst hc;intro n;induction n with
 | zero=>intros;rfl
 | succ n ih=>
   intro v2 v3 v4
   rw [qR,qRz];unfold Try.f22
   simp (maxSteps:=10000000) -implicitDefEqProofs [qbQ,qaI,qby,qaN,qbK,qaO,qbz,qaM,qb0,qaG,qbf,qbt,qbE,qaU,qah,qv,qae,qbP,qba,qbV,qbu,qa6,qbq,qbs,qa5,qbr,qbj,qbC,qa7,qbR,qbW,qbI,qbv,qbO,qbY,qbN,qbS,qbX,qa4,qbx,qbb,qa9,qbG,qbA,qb1,qa3,qa2,qbw,qbk,qbZ,qbo,qbd,qbF,qa8,qbi,qbJ,qbh,qbL,qbe,qbg,qbH,qbB,qa0,qbU,qbc,qbM,qbp,qbD,qbn,qbm,qbT,hret,h0,ih]
   rewrite [qGB (k9004:=(fun (v9:List (Val Y66))=>qmF N (IntKind.i64.wrap (v2+(1:Int))) v3 v9 (fun (v14:List (Val Y66))=>qh6 N (IntKind.i64.wrap ((IntKind.i64.wrap (v2+(1:Int)))+(1:Int))) v3 v14 (fun (v19:List (Val Y66))=>qfY N (IntKind.i64.wrap ((IntKind.i64.wrap ((IntKind.i64.wrap (v2+(1:Int)))+(1:Int)))+(1:Int))) v3 v19 (fun (v24:List (Val Y66))=>qeX N (IntKind.i64.wrap ((IntKind.i64.wrap ((IntKind.i64.wrap ((IntKind.i64.wrap (v2+(1:Int)))+(1:Int)))+(1:Int)))+(1:Int))) v3 v24 (fun (v29:List (Val Y66))=>qed N (IntKind.i64.wrap ((IntKind.i64.wrap ((IntKind.i64.wrap ((IntKind.i64.wrap ((IntKind.i64.wrap (v2+(1:Int)))+(1:Int)))+(1:Int)))+(1:Int)))+(1:Int))) v3 v29 (fun (v34:List (Val Y66))=>qdp N (IntKind.i64.wrap ((IntKind.i64.wrap ((IntKind.i64.wrap ((IntKind.i64.wrap ((IntKind.i64.wrap ((IntKind.i64.wrap (v2+(1:Int)))+(1:Int)))+(1:Int)))+(1:Int)))+(1:Int)))+(1:Int))) v3 v34 (fun (v39:List (Val Y66))=>qcX N (IntKind.i64.wrap ((IntKind.i64.wrap ((IntKind.i64.wrap ((IntKind.i64.wrap ((IntKind.i64.wrap ((IntKind.i64.wrap ((IntKind.i64.wrap (v2+(1:Int)))+(1:Int)))+(1:Int)))+(1:Int)))+(1:Int)))+(1:Int)))+(1:Int))) v3 v39 (fun (v44:List (Val Y66))=>chk ((3:Int)≠0) (chk (0≤v3∧v3<(v44.length:Int)) (chk (v3.toNat<v44.length) (qcf N k0 n (IntKind.i64.wrap ((IntKind.i64.wrap ((IntKind.i64.wrap ((IntKind.i64.wrap ((IntKind.i64.wrap ((IntKind.i64.wrap ((IntKind.i64.wrap ((IntKind.i64.wrap ((IntKind.i64.wrap (v2+(1:Int)))+(1:Int)))+(1:Int)))+(1:Int)))+(1:Int)))+(1:Int)))+(1:Int)))+(1:Int)))+(1:Int))) (IntKind.i64.wrap (v3+(1:Int))) (v44.set v3.toNat (((v44.getD v3.toNat (qa Y66)).1:Bool),((((v44.getD v3.toNat (qa Y66)).2).1),(((((v44.getD v3.toNat (qa Y66)).2).2).1:Bool),((((((v44.getD v3.toNat (qa Y66)).2).2).2).1:Bool),(((((((v44.getD v3.toNat (qa Y66)).2).2).2).2).1),((((((((v44.getD v3.toNat (qa Y66)).2).2).2).2).2).1:Bool),(decide (((IntKind.i64.wrap ((IntKind.i64.wrap ((IntKind.i64.wrap ((IntKind.i64.wrap ((IntKind.i64.wrap ((IntKind.i64.wrap ((IntKind.i64.wrap ((IntKind.i64.wrap (v2+(1:Int)))+(1:Int)))+(1:Int)))+(1:Int)))+(1:Int)))+(1:Int)))+(1:Int)))+(1:Int))).tmod (3:Int))=(0:Int)))))))))))))) N) N) N) N) N) N) N)) N _ _ _ ?_ ?_]
   ·rewrite [qcf];first | rfl | simp (maxSteps:=10000000) -implicitDefEqProofs [ih]
   ·rfl
   ·intro v9;simp (maxSteps:=10000000) -implicitDefEqProofs [qbQ,qaI,qby,qaN,qbK,qaO,qbz,qaM,qb0,qaG,qbf,qbt,qbE,qaU,qah,qv,qae,qbP,qba,qbV,qbu,qa6,qbq,qbs,qa5,qbr,qbj,qbC,qa7,qbR,qbW,qbI,qbv,qbO,qbY,qbN,qbS,qbX,qa4,qbx,qbb,qa9,qbG,qbA,qb1,qa3,qa2,qbw,qbk,qbZ,qbo,qbd,qbF,qa8,qbi,qbJ,qbh,qbL,qbe,qbg,qbH,qbB,qa0,qbU,qbc,qbM,qbp,qbD,qbn,qbm,qbT,hret,h0,ih]
    rewrite [qJS (k9006:=(fun (v14:List (Val Y66))=>qh6 N (IntKind.i64.wrap ((IntKind.i64.wrap (v2+(1:Int)))+(1:Int))) v3 v14 (fun (v19:List (Val Y66))=>qfY N (IntKind.i64.wrap ((IntKind.i64.wrap ((IntKind.i64.wrap (v2+(1:Int)))+(1:Int)))+(1:Int))) v3 v19 (fun (v24:List (Val Y66))=>qeX N (IntKind.i64.wrap ((IntKind.i64.wrap ((IntKind.i64.wrap ((IntKind.i64.wrap (v2+(1:Int)))+(1:Int)))+(1:Int)))+(1:Int))) v3 v24 (fun (v29:List (Val Y66))=>qed N (IntKind.i64.wrap ((IntKind.i64.wrap ((IntKind.i64.wrap ((IntKind.i64.wrap ((IntKind.i64.wrap (v2+(1:Int)))+(1:Int)))+(1:Int)))+(1:Int)))+(1:Int))) v3 v29 (fun (v34:List (Val Y66))=>qdp N (IntKind.i64.wrap ((IntKind.i64.wrap ((IntKind.i64.wrap ((IntKind.i64.wrap ((IntKind.i64.wrap ((IntKind.i64.wrap (v2+(1:Int)))+(1:Int)))+(1:Int)))+(1:Int)))+(1:Int)))+(1:Int))) v3 v34 (fun (v39:List (Val Y66))=>qcX N (IntKind.i64.wrap ((IntKind.i64.wrap ((IntKind.i64.wrap ((IntKind.i64.wrap ((IntKind.i64.wrap ((IntKind.i64.wrap ((IntKind.i64.wrap (v2+(1:Int)))+(1:Int)))+(1:Int)))+(1:Int)))+(1:Int)))+(1:Int)))+(1:Int))) v3 v39 (fun (v44:List (Val Y66))=>chk ((3:Int)≠0) (chk (0≤v3∧v3<(v44.length:Int)) (chk (v3.toNat<v44.length) (qcf N k0 n (IntKind.i64.wrap ((IntKind.i64.wrap ((IntKind.i64.wrap ((IntKind.i64.wrap ((IntKind.i64.wrap ((IntKind.i64.wrap ((IntKind.i64.wrap ((IntKind.i64.wrap ((IntKind.i64.wrap (v2+(1:Int)))+(1:Int)))+(1:Int)))+(1:Int)))+(1:Int)))+(1:Int)))+(1:Int)))+(1:Int)))+(1:Int))) (IntKind.i64.wrap (v3+(1:Int))) (v44.set v3.toNat (((v44.getD v3.toNat (qa Y66)).1:Bool),((((v44.getD v3.toNat (qa Y66)).2).1),(((((v44.getD v3.toNat (qa Y66)).2).2).1:Bool),((((((v44.getD v3.toNat (qa Y66)).2).2).2).1:Bool),(((((((v44.getD v3.toNat (qa Y66)).2).2).2).2).1),((((((((v44.getD v3.toNat (qa Y66)).2).2).2).2).2).1:Bool),(decide (((IntKind.i64.wrap ((IntKind.i64.wrap ((IntKind.i64.wrap ((IntKind.i64.wrap ((IntKind.i64.wrap ((IntKind.i64.wrap ((IntKind.i64.wrap ((IntKind.i64.wrap (v2+(1:Int)))+(1:Int)))+(1:Int)))+(1:Int)))+(1:Int)))+(1:Int)))+(1:Int)))+(1:Int))).tmod (3:Int))=(0:Int)))))))))))))) N) N) N) N) N) N)) N _ _ _ ?_ ?_]
    ·first | rfl | simp (maxSteps:=10000000) -implicitDefEqProofs [ih]
    ·rfl
    ·intro v14;simp (maxSteps:=10000000) -implicitDefEqProofs [qbQ,qaI,qby,qaN,qbK,qaO,qbz,qaM,qb0,qaG,qbf,qbt,qbE,qaU,qah,qv,qae,qbP,qba,qbV,qbu,qa6,qbq,qbs,qa5,qbr,qbj,qbC,qa7,qbR,qbW,qbI,qbv,qbO,qbY,qbN,qbS,qbX,qa4,qbx,qbb,qa9,qbG,qbA,qb1,qa3,qa2,qbw,qbk,qbZ,qbo,qbd,qbF,qa8,qbi,qbJ,qbh,qbL,qbe,qbg,qbH,qbB,qa0,qbU,qbc,qbM,qbp,qbD,qbn,qbm,qbT,hret,h0,ih]
     rewrite [qSv (k9008:=(fun (v19:List (Val Y66))=>qfY N (IntKind.i64.wrap ((IntKind.i64.wrap ((IntKind.i64.wrap (v2+(1:Int)))+(1:Int)))+(1:Int))) v3 v19 (fun (v24:List (Val Y66))=>qeX N (IntKind.i64.wrap ((IntKind.i64.wrap ((IntKind.i64.wrap ((IntKind.i64.wrap (v2+(1:Int)))+(1:Int)))+(1:Int)))+(1:Int))) v3 v24 (fun (v29:List (Val Y66))=>qed N (IntKind.i64.wrap ((IntKind.i64.wrap ((IntKind.i64.wrap ((IntKind.i64.wrap ((IntKind.i64.wrap (v2+(1:Int)))+(1:Int)))+(1:Int)))+(1:Int)))+(1:Int))) v3 v29 (fun (v34:List (Val Y66))=>qdp N (IntKind.i64.wrap ((IntKind.i64.wrap ((IntKind.i64.wrap ((IntKind.i64.wrap ((IntKind.i64.wrap ((IntKind.i64.wrap (v2+(1:Int)))+(1:Int)))+(1:Int)))+(1:Int)))+(1:Int)))+(1:Int))) v3 v34 (fun (v39:List (Val Y66))=>qcX N (IntKind.i64.wrap ((IntKind.i64.wrap ((IntKind.i64.wrap ((IntKind.i64.wrap ((IntKind.i64.wrap ((IntKind.i64.wrap ((IntKind.i64.wrap (v2+(1:Int)))+(1:Int)))+(1:Int)))+(1:Int)))+(1:Int)))+(1:Int)))+(1:Int))) v3 v39 (fun (v44:List (Val Y66))=>chk ((3:Int)≠0) (chk (0≤v3∧v3<(v44.length:Int)) (chk (v3.toNat<v44.length) (qcf N k0 n (IntKind.i64.wrap ((IntKind.i64.wrap ((IntKind.i64.wrap ((IntKind.i64.wrap ((IntKind.i64.wrap ((IntKind.i64.wrap ((IntKind.i64.wrap ((IntKind.i64.wrap ((IntKind.i64.wrap (v2+(1:Int)))+(1:Int)))+(1:Int)))+(1:Int)))+(1:Int)))+(1:Int)))+(1:Int)))+(1:Int)))+(1:Int))) (IntKind.i64.wrap (v3+(1:Int))) (v44.set v3.toNat (((v44.getD v3.toNat (qa Y66)).1:Bool),((((v44.getD v3.toNat (qa Y66)).2).1),(((((v44.getD v3.toNat (qa Y66)).2).2).1:Bool),((((((v44.getD v3.toNat (qa Y66)).2).2).2).1:Bool),(((((((v44.getD v3.toNat (qa Y66)).2).2).2).2).1),((((((((v44.getD v3.toNat (qa Y66)).2).2).2).2).2).1:Bool),(decide (((IntKind.i64.wrap ((IntKind.i64.wrap ((IntKind.i64.wrap ((IntKind.i64.wrap ((IntKind.i64.wrap ((IntKind.i64.wrap ((IntKind.i64.wrap ((IntKind.i64.wrap (v2+(1:Int)))+(1:Int)))+(1:Int)))+(1:Int)))+(1:Int)))+(1:Int)))+(1:Int)))+(1:Int))).tmod (3:Int))=(0:Int)))))))))))))) N) N) N) N) N)) N _ _ _ ?_ ?_]
     ·first | rfl | simp (maxSteps:=10000000) -implicitDefEqProofs [ih]
     ·rfl
     ·intro v19;simp (maxSteps:=10000000) -implicitDefEqProofs [qbQ,qaI,qby,qaN,qbK,qaO,qbz,qaM,qb0,qaG,qbf,qbt,qbE,qaU,qah,qv,qae,qbP,qba,qbV,qbu,qa6,qbq,qbs,qa5,qbr,qbj,qbC,qa7,qbR,qbW,qbI,qbv,qbO,qbY,qbN,qbS,qbX,qa4,qbx,qbb,qa9,qbG,qbA,qb1,qa3,qa2,qbw,qbk,qbZ,qbo,qbd,qbF,qa8,qbi,qbJ,qbh,qbL,qbe,qbg,qbH,qbB,qa0,qbU,qbc,qbM,qbp,qbD,qbn,qbm,qbT,hret,h0,ih]
      rewrite [qGf (k9010:=(fun (v24:List (Val Y66))=>qeX N (IntKind.i64.wrap ((IntKind.i64.wrap ((IntKind.i64.wrap ((IntKind.i64.wrap (v2+(1:Int)))+(1:Int)))+(1:Int)))+(1:Int))) v3 v24 (fun (v29:List (Val Y66))=>qed N (IntKind.i64.wrap ((IntKind.i64.wrap ((IntKind.i64.wrap ((IntKind.i64.wrap ((IntKind.i64.wrap (v2+(1:Int)))+(1:Int)))+(1:Int)))+(1:Int)))+(1:Int))) v3 v29 (fun (v34:List (Val Y66))=>qdp N (IntKind.i64.wrap ((IntKind.i64.wrap ((IntKind.i64.wrap ((IntKind.i64.wrap ((IntKind.i64.wrap ((IntKind.i64.wrap (v2+(1:Int)))+(1:Int)))+(1:Int)))+(1:Int)))+(1:Int)))+(1:Int))) v3 v34 (fun (v39:List (Val Y66))=>qcX N (IntKind.i64.wrap ((IntKind.i64.wrap ((IntKind.i64.wrap ((IntKind.i64.wrap ((IntKind.i64.wrap ((IntKind.i64.wrap ((IntKind.i64.wrap (v2+(1:Int)))+(1:Int)))+(1:Int)))+(1:Int)))+(1:Int)))+(1:Int)))+(1:Int))) v3 v39 (fun (v44:List (Val Y66))=>chk ((3:Int)≠0) (chk (0≤v3∧v3<(v44.length:Int)) (chk (v3.toNat<v44.length) (qcf N k0 n (IntKind.i64.wrap ((IntKind.i64.wrap ((IntKind.i64.wrap ((IntKind.i64.wrap ((IntKind.i64.wrap ((IntKind.i64.wrap ((IntKind.i64.wrap ((IntKind.i64.wrap ((IntKind.i64.wrap (v2+(1:Int)))+(1:Int)))+(1:Int)))+(1:Int)))+(1:Int)))+(1:Int)))+(1:Int)))+(1:Int)))+(1:Int))) (IntKind.i64.wrap (v3+(1:Int))) (v44.set v3.toNat (((v44.getD v3.toNat (qa Y66)).1:Bool),((((v44.getD v3.toNat (qa Y66)).2).1),(((((v44.getD v3.toNat (qa Y66)).2).2).1:Bool),((((((v44.getD v3.toNat (qa Y66)).2).2).2).1:Bool),(((((((v44.getD v3.toNat (qa Y66)).2).2).2).2).1),((((((((v44.getD v3.toNat (qa Y66)).2).2).2).2).2).1:Bool),(decide (((IntKind.i64.wrap ((IntKind.i64.wrap ((IntKind.i64.wrap ((IntKind.i64.wrap ((IntKind.i64.wrap ((IntKind.i64.wrap ((IntKind.i64.wrap ((IntKind.i64.wrap (v2+(1:Int)))+(1:Int)))+(1:Int)))+(1:Int)))+(1:Int)))+(1:Int)))+(1:Int)))+(1:Int))).tmod (3:Int))=(0:Int)))))))))))))) N) N) N) N)) N _ _ _ ?_ ?_]
      ·first | rfl | simp (maxSteps:=10000000) -implicitDefEqProofs [ih]
      ·rfl
      ·intro v24;simp (maxSteps:=10000000) -implicitDefEqProofs [qbQ,qaI,qby,qaN,qbK,qaO,qbz,qaM,qb0,qaG,qbf,qbt,qbE,qaU,qah,qv,qae,qbP,qba,qbV,qbu,qa6,qbq,qbs,qa5,qbr,qbj,qbC,qa7,qbR,qbW,qbI,qbv,qbO,qbY,qbN,qbS,qbX,qa4,qbx,qbb,qa9,qbG,qbA,qb1,qa3,qa2,qbw,qbk,qbZ,qbo,qbd,qbF,qa8,qbi,qbJ,qbh,qbL,qbe,qbg,qbH,qbB,qa0,qbU,qbc,qbM,qbp,qbD,qbn,qbm,qbT,hret,h0,ih]
       rewrite [qQc (k9012:=(fun (v29:List (Val Y66))=>qed N (IntKind.i64.wrap ((IntKind.i64.wrap ((IntKind.i64.wrap ((IntKind.i64.wrap ((IntKind.i64.wrap (v2+(1:Int)))+(1:Int)))+(1:Int)))+(1:Int)))+(1:Int))) v3 v29 (fun (v34:List (Val Y66))=>qdp N (IntKind.i64.wrap ((IntKind.i64.wrap ((IntKind.i64.wrap ((IntKind.i64.wrap ((IntKind.i64.wrap ((IntKind.i64.wrap (v2+(1:Int)))+(1:Int)))+(1:Int)))+(1:Int)))+(1:Int)))+(1:Int))) v3 v34 (fun (v39:List (Val Y66))=>qcX N (IntKind.i64.wrap ((IntKind.i64.wrap ((IntKind.i64.wrap ((IntKind.i64.wrap ((IntKind.i64.wrap ((IntKind.i64.wrap ((IntKind.i64.wrap (v2+(1:Int)))+(1:Int)))+(1:Int)))+(1:Int)))+(1:Int)))+(1:Int)))+(1:Int))) v3 v39 (fun (v44:List (Val Y66))=>chk ((3:Int)≠0) (chk (0≤v3∧v3<(v44.length:Int)) (chk (v3.toNat<v44.length) (qcf N k0 n (IntKind.i64.wrap ((IntKind.i64.wrap ((IntKind.i64.wrap ((IntKind.i64.wrap ((IntKind.i64.wrap ((IntKind.i64.wrap ((IntKind.i64.wrap ((IntKind.i64.wrap ((IntKind.i64.wrap (v2+(1:Int)))+(1:Int)))+(1:Int)))+(1:Int)))+(1:Int)))+(1:Int)))+(1:Int)))+(1:Int)))+(1:Int))) (IntKind.i64.wrap (v3+(1:Int))) (v44.set v3.toNat (((v44.getD v3.toNat (qa Y66)).1:Bool),((((v44.getD v3.toNat (qa Y66)).2).1),(((((v44.getD v3.toNat (qa Y66)).2).2).1:Bool),((((((v44.getD v3.toNat (qa Y66)).2).2).2).1:Bool),(((((((v44.getD v3.toNat (qa Y66)).2).2).2).2).1),((((((((v44.getD v3.toNat (qa Y66)).2).2).2).2).2).1:Bool),(decide (((IntKind.i64.wrap ((IntKind.i64.wrap ((IntKind.i64.wrap ((IntKind.i64.wrap ((IntKind.i64.wrap ((IntKind.i64.wrap ((IntKind.i64.wrap ((IntKind.i64.wrap (v2+(1:Int)))+(1:Int)))+(1:Int)))+(1:Int)))+(1:Int)))+(1:Int)))+(1:Int)))+(1:Int))).tmod (3:Int))=(0:Int)))))))))))))) N) N) N)) N _ _ _ ?_ ?_]
       ·first | rfl | simp (maxSteps:=10000000) -implicitDefEqProofs [ih]
       ·rfl
       ·intro v29;simp (maxSteps:=10000000) -implicitDefEqProofs [qbQ,qaI,qby,qaN,qbK,qaO,qbz,qaM,qb0,qaG,qbf,qbt,qbE,qaU,qah,qv,qae,qbP,qba,qbV,qbu,qa6,qbq,qbs,qa5,qbr,qbj,qbC,qa7,qbR,qbW,qbI,qbv,qbO,qbY,qbN,qbS,qbX,qa4,qbx,qbb,qa9,qbG,qbA,qb1,qa3,qa2,qbw,qbk,qbZ,qbo,qbd,qbF,qa8,qbi,qbJ,qbh,qbL,qbe,qbg,qbH,qbB,qa0,qbU,qbc,qbM,qbp,qbD,qbn,qbm,qbT,hret,h0,ih]
        rewrite [qH3 (k9014:=(fun (v34:List (Val Y66))=>qdp N (IntKind.i64.wrap ((IntKind.i64.wrap ((IntKind.i64.wrap ((IntKind.i64.wrap ((IntKind.i64.wrap ((IntKind.i64.wrap (v2+(1:Int)))+(1:Int)))+(1:Int)))+(1:Int)))+(1:Int)))+(1:Int))) v3 v34 (fun (v39:List (Val Y66))=>qcX N (IntKind.i64.wrap ((IntKind.i64.wrap ((IntKind.i64.wrap ((IntKind.i64.wrap ((IntKind.i64.wrap ((IntKind.i64.wrap ((IntKind.i64.wrap (v2+(1:Int)))+(1:Int)))+(1:Int)))+(1:Int)))+(1:Int)))+(1:Int)))+(1:Int))) v3 v39 (fun (v44:List (Val Y66))=>chk ((3:Int)≠0) (chk (0≤v3∧v3<(v44.length:Int)) (chk (v3.toNat<v44.length) (qcf N k0 n (IntKind.i64.wrap ((IntKind.i64.wrap ((IntKind.i64.wrap ((IntKind.i64.wrap ((IntKind.i64.wrap ((IntKind.i64.wrap ((IntKind.i64.wrap ((IntKind.i64.wrap ((IntKind.i64.wrap (v2+(1:Int)))+(1:Int)))+(1:Int)))+(1:Int)))+(1:Int)))+(1:Int)))+(1:Int)))+(1:Int)))+(1:Int))) (IntKind.i64.wrap (v3+(1:Int))) (v44.set v3.toNat (((v44.getD v3.toNat (qa Y66)).1:Bool),((((v44.getD v3.toNat (qa Y66)).2).1),(((((v44.getD v3.toNat (qa Y66)).2).2).1:Bool),((((((v44.getD v3.toNat (qa Y66)).2).2).2).1:Bool),(((((((v44.getD v3.toNat (qa Y66)).2).2).2).2).1),((((((((v44.getD v3.toNat (qa Y66)).2).2).2).2).2).1:Bool),(decide (((IntKind.i64.wrap ((IntKind.i64.wrap ((IntKind.i64.wrap ((IntKind.i64.wrap ((IntKind.i64.wrap ((IntKind.i64.wrap ((IntKind.i64.wrap ((IntKind.i64.wrap (v2+(1:Int)))+(1:Int)))+(1:Int)))+(1:Int)))+(1:Int)))+(1:Int)))+(1:Int)))+(1:Int))).tmod (3:Int))=(0:Int)))))))))))))) N) N)) N _ _ _ ?_ ?_]
        ·first | rfl | simp (maxSteps:=10000000) -implicitDefEqProofs [ih]
        ·rfl
        ·intro v34;simp (maxSteps:=10000000) -implicitDefEqProofs [qbQ,qaI,qby,qaN,qbK,qaO,qbz,qaM,qb0,qaG,qbf,qbt,qbE,qaU,qah,qv,qae,qbP,qba,qbV,qbu,qa6,qbq,qbs,qa5,qbr,qbj,qbC,qa7,qbR,qbW,qbI,qbv,qbO,qbY,qbN,qbS,qbX,qa4,qbx,qbb,qa9,qbG,qbA,qb1,qa3,qa2,qbw,qbk,qbZ,qbo,qbd,qbF,qa8,qbi,qbJ,qbh,qbL,qbe,qbg,qbH,qbB,qa0,qbU,qbc,qbM,qbp,qbD,qbn,qbm,qbT,hret,h0,ih]
         rewrite [qKP (k9016:=(fun (v39:List (Val Y66))=>qcX N (IntKind.i64.wrap ((IntKind.i64.wrap ((IntKind.i64.wrap ((IntKind.i64.wrap ((IntKind.i64.wrap ((IntKind.i64.wrap ((IntKind.i64.wrap (v2+(1:Int)))+(1:Int)))+(1:Int)))+(1:Int)))+(1:Int)))+(1:Int)))+(1:Int))) v3 v39 (fun (v44:List (Val Y66))=>chk ((3:Int)≠0) (chk (0≤v3∧v3<(v44.length:Int)) (chk (v3.toNat<v44.length) (qcf N k0 n (IntKind.i64.wrap ((IntKind.i64.wrap ((IntKind.i64.wrap ((IntKind.i64.wrap ((IntKind.i64.wrap ((IntKind.i64.wrap ((IntKind.i64.wrap ((IntKind.i64.wrap ((IntKind.i64.wrap (v2+(1:Int)))+(1:Int)))+(1:Int)))+(1:Int)))+(1:Int)))+(1:Int)))+(1:Int)))+(1:Int)))+(1:Int))) (IntKind.i64.wrap (v3+(1:Int))) (v44.set v3.toNat (((v44.getD v3.toNat (qa Y66)).1:Bool),((((v44.getD v3.toNat (qa Y66)).2).1),(((((v44.getD v3.toNat (qa Y66)).2).2).1:Bool),((((((v44.getD v3.toNat (qa Y66)).2).2).2).1:Bool),(((((((v44.getD v3.toNat (qa Y66)).2).2).2).2).1),((((((((v44.getD v3.toNat (qa Y66)).2).2).2).2).2).1:Bool),(decide (((IntKind.i64.wrap ((IntKind.i64.wrap ((IntKind.i64.wrap ((IntKind.i64.wrap ((IntKind.i64.wrap ((IntKind.i64.wrap ((IntKind.i64.wrap ((IntKind.i64.wrap (v2+(1:Int)))+(1:Int)))+(1:Int)))+(1:Int)))+(1:Int)))+(1:Int)))+(1:Int)))+(1:Int))).tmod (3:Int))=(0:Int)))))))))))))) N)) N _ _ _ ?_ ?_]
         ·first | rfl | simp (maxSteps:=10000000) -implicitDefEqProofs [ih]
         ·rfl
         ·intro v39;simp (maxSteps:=10000000) -implicitDefEqProofs [qbQ,qaI,qby,qaN,qbK,qaO,qbz,qaM,qb0,qaG,qbf,qbt,qbE,qaU,qah,qv,qae,qbP,qba,qbV,qbu,qa6,qbq,qbs,qa5,qbr,qbj,qbC,qa7,qbR,qbW,qbI,qbv,qbO,qbY,qbN,qbS,qbX,qa4,qbx,qbb,qa9,qbG,qbA,qb1,qa3,qa2,qbw,qbk,qbZ,qbo,qbd,qbF,qa8,qbi,qbJ,qbh,qbL,qbe,qbg,qbH,qbB,qa0,qbU,qbc,qbM,qbp,qbD,qbn,qbm,qbT,hret,h0,ih]
          rewrite [qF5 (k9018:=(fun (v44:List (Val Y66))=>chk ((3:Int)≠0) (chk (0≤v3∧v3<(v44.length:Int)) (chk (v3.toNat<v44.length) (qcf N k0 n (IntKind.i64.wrap ((IntKind.i64.wrap ((IntKind.i64.wrap ((IntKind.i64.wrap ((IntKind.i64.wrap ((IntKind.i64.wrap ((IntKind.i64.wrap ((IntKind.i64.wrap ((IntKind.i64.wrap (v2+(1:Int)))+(1:Int)))+(1:Int)))+(1:Int)))+(1:Int)))+(1:Int)))+(1:Int)))+(1:Int)))+(1:Int))) (IntKind.i64.wrap (v3+(1:Int))) (v44.set v3.toNat (((v44.getD v3.toNat (qa Y66)).1:Bool),((((v44.getD v3.toNat (qa Y66)).2).1),(((((v44.getD v3.toNat (qa Y66)).2).2).1:Bool),((((((v44.getD v3.toNat (qa Y66)).2).2).2).1:Bool),(((((((v44.getD v3.toNat (qa Y66)).2).2).2).2).1),((((((((v44.getD v3.toNat (qa Y66)).2).2).2).2).2).1:Bool),(decide (((IntKind.i64.wrap ((IntKind.i64.wrap ((IntKind.i64.wrap ((IntKind.i64.wrap ((IntKind.i64.wrap ((IntKind.i64.wrap ((IntKind.i64.wrap ((IntKind.i64.wrap (v2+(1:Int)))+(1:Int)))+(1:Int)))+(1:Int)))+(1:Int)))+(1:Int)))+(1:Int)))+(1:Int))).tmod (3:Int))=(0:Int))))))))))))))) N _ _ _ ?_ ?_]
          ·first | rfl | simp (maxSteps:=10000000) -implicitDefEqProofs [ih]
          ·rfl
          ·intro v44;simp (maxSteps:=10000000) -implicitDefEqProofs [qbQ,qaI,qby,qaN,qbK,qaO,qbz,qaM,qb0,qaG,qbf,qbt,qbE,qaU,qah,qv,qae,qbP,qba,qbV,qbu,qa6,qbq,qbs,qa5,qbr,qbj,qbC,qa7,qbR,qbW,qbI,qbv,qbO,qbY,qbN,qbS,qbX,qa4,qbx,qbb,qa9,qbG,qbA,qb1,qa3,qa2,qbw,qbk,qbZ,qbo,qbd,qbF,qa8,qbi,qbJ,qbh,qbL,qbe,qbg,qbH,qbB,qa0,qbU,qbc,qbM,qbp,qbD,qbn,qbm,qbT,hret,h0,ih]
theorem qKl (N:Nat) (v0:List (Val Y66)) (v1:Int):qd tt Γ22 (T22 N) (Try.f22.body.getD .skip) (qc7 (qdl tt (.slice 66 Y66) (qF 0 (.slice 66 Y66) v0).1 [.tmp 4])) (qae i46 90 v0 v1)=m22 N v0 v1:=by
 unfold Try.f22
 simp (maxSteps:=10000000) -implicitDefEqProofs [qbQ,qaI,qby,qaN,qbK,qaO,qbz,qaM,qb0,qaG,qbf,qbt,qbE,qaU,qah,qv,qae,qbP,qba,qbV,qbu,qa6,qbq,qbs,qa5,qbr,qbj,qbC,qa7,qbR,qbW,qbI,qbv,qbO,qbY,qbN,qbS,qbX,qa4,qbx,qbb,qa9,qbG,qbA,qb1,qa3,qa2,qbw,qbk,qbZ,qbo,qbd,qbF,qa8,qbi,qbJ,qbh,qbL,qbe,qbg,qbH,qbB,qa0,qbU,qbc,qbM,qbp,qbD,qbn,qbm,qbT]
 rewrite [qSl (k0:=(fun (v47:Int) (v48:List (Val Y66))=>some (v48,v47))) N ?_ ?_ ?_]
 ·rewrite [m22];first | rfl | simp (maxSteps:=10000000) -implicitDefEqProofs []
 ·rfl
 ·intro;simp only [qK,qM,qO,qv]
 ·intro v47 v48;simp (maxSteps:=10000000) -implicitDefEqProofs [qbQ,qaI,qby,qaN,qbK,qaO,qbz,qaM,qb0,qaG,qbf,qbt,qbE,qaU,qah,qv,qae,qbP,qba,qbV,qbu,qa6,qbq,qbs,qa5,qbr,qbj,qbC,qa7,qbR,qbW,qbI,qbv,qbO,qbY,qbN,qbS,qbX,qa4,qbx,qbb,qa9,qbG,qbA,qb1,qa3,qa2,qbw,qbk,qbZ,qbo,qbd,qbF,qa8,qbi,qbJ,qbh,qbL,qbe,qbg,qbH,qbB,qa0,qbU,qbc,qbM,qbp,qbD,qbn,qbm,qbT]
theorem qeF {α:Type} {s:List α} {i:Nat} {a d:α} (h:i<s.length):(s.set i a).getD i d=a:=by simp [List.getD,h]
theorem e22 (x:List (Val Y66)) (k:Int) (h:qpV x k): ∃N,m22 N x k=some (qc1 x k,qgs x k):=⟨x.length+1,by
 rw [m22]
 refine qCX (f:=mkE Y66) (F:=fun n i k s=>qcf _ _ n k i s) (kf:=fun k s=>some (s,k)) x h.1.1 (qhF _) (fun n i k s hi _ hl=> ?_) (fun n i k s hl hi=> ?_) _ k h.2 (Nat.lt_succ_self _)
 ·have hle:x.length≤1048576:=h.1.1
  have hs: ∀a:Val Y66,(0:Int)≤(i:Int)∧(i:Int)<((s.set i a).length:Int):=fun a=>by rw [List.length_set];omega
  have ht: ∀a:Val Y66,i<(s.set i a).length:=fun a=>by rw [List.length_set];exact hi
  rw [qcf,qh (by omega),qp1,qc (by decide),qc (by omega),qc (by omega),Int.toNat_natCast]
  rw [qmF,qc (hs _),Int.toNat_natCast,qc (ht _),List.set_set,qeF hi]
  dsimp only
  rw [qh6,qc (hs _),Int.toNat_natCast,qc (ht _),List.set_set,qeF hi]
  dsimp only
  rw [qfY,qc (by decide),qc (hs _),Int.toNat_natCast,qc (ht _),List.set_set,qeF hi]
  dsimp only
  rw [qeX,qc (by decide),qc (hs _),Int.toNat_natCast,qc (ht _),List.set_set,qeF hi]
  dsimp only
  rw [qed,qc (hs _),Int.toNat_natCast,qc (ht _),List.set_set,qeF hi]
  dsimp only
  rw [qdp,qc (hs _),Int.toNat_natCast,qc (ht _),List.set_set,qeF hi]
  dsimp only
  rw [qcX,qc (by decide),qc (hs _),Int.toNat_natCast,qc (ht _),List.set_set,qeF hi]
  dsimp only
  rw [qc (by decide),qc (hs _),qc (ht _),List.set_set,qeF hi]
  rfl
 ·rw [qcf,qi (by omega)]⟩
theorem qRk:SoundMs Try.prog 22 qtS:=qCx (tt:=tt) (Γ:=Γ22) hT qq hm (fn:=Try.f22) Try.func22 (c:=Try.f22.body.getD .skip) (by kernel_rfl) (by kernel_rfl) rfl fun x n hx=>by
 obtain ⟨N,h⟩:=e22 x n hx
 exact ⟨T22 N,rfl,p22,⟨ql4 ql6 qkD,qQy N⟩,(qKl N x n).trans h⟩
def qgT (x:List (Val Y66)) (k:Int):Int:=(mkT (.slice 66 Y66) x k).2
def qll (x:List (Val Y66)) (k:Int):Prop:=qHF (.slice 66 Y66) x k
noncomputable def qfh (N:Nat) (v2:List (Val Y66)) (k0:Int→Option (qb [i3])):Nat→Int→Int→Option (qb [i3])
 | 0,_,_=>none
 | n+1,v3,v4=>bif (decide (v4<(v2.length:Int)))then (chk (0≤v4∧v4<(v2.length:Int)) (chk ((3:Int)≠0) (bif (!(((v2.getD v4.toNat (qa Y66)).1:Bool)==(decide ((v3.tmod (3:Int))=(0:Int)))))then (some ((-1:Int),()))else (chk (0≤v4∧v4<(v2.length:Int)) (bif (!(decide (((((v2.getD v4.toNat (qa Y66)).2).1).1:Int)=(IntKind.i64.wrap (v3+(1:Int))))))then (some ((-1:Int),()))else (chk (0≤v4∧v4<(v2.length:Int)) (bif (!(decide (((((v2.getD v4.toNat (qa Y66)).2).1).2:Int)=(IntKind.i64.wrap ((IntKind.i64.wrap (v3+(1:Int)))+(1:Int))))))then (some ((-1:Int),()))else (chk (0≤v4∧v4<(v2.length:Int)) (chk ((3:Int)≠0) (bif (!(((((v2.getD v4.toNat (qa Y66)).2).2).1:Bool)==(decide (((IntKind.i64.wrap ((IntKind.i64.wrap ((IntKind.i64.wrap (v3+(1:Int)))+(1:Int)))+(1:Int))).tmod (3:Int))=(0:Int)))))then (some ((-1:Int),()))else (chk (0≤v4∧v4<(v2.length:Int)) (chk ((3:Int)≠0) (bif (!((((((v2.getD v4.toNat (qa Y66)).2).2).2).1:Bool)==(decide (((IntKind.i64.wrap ((IntKind.i64.wrap ((IntKind.i64.wrap ((IntKind.i64.wrap (v3+(1:Int)))+(1:Int)))+(1:Int)))+(1:Int))).tmod (3:Int))=(0:Int)))))then (some ((-1:Int),()))else (chk (0≤v4∧v4<(v2.length:Int)) (bif (!(decide ((((((((v2.getD v4.toNat (qa Y66)).2).2).2).2).1).1:Int)=(IntKind.i64.wrap ((IntKind.i64.wrap ((IntKind.i64.wrap ((IntKind.i64.wrap ((IntKind.i64.wrap (v3+(1:Int)))+(1:Int)))+(1:Int)))+(1:Int)))+(1:Int))))))then (some ((-1:Int),()))else (chk (0≤v4∧v4<(v2.length:Int)) (bif (!(decide ((((((((v2.getD v4.toNat (qa Y66)).2).2).2).2).1).2:Int)=(IntKind.i64.wrap ((IntKind.i64.wrap ((IntKind.i64.wrap ((IntKind.i64.wrap ((IntKind.i64.wrap ((IntKind.i64.wrap (v3+(1:Int)))+(1:Int)))+(1:Int)))+(1:Int)))+(1:Int)))+(1:Int))))))then (some ((-1:Int),()))else (chk (0≤v4∧v4<(v2.length:Int)) (chk ((3:Int)≠0) (bif (!((((((((v2.getD v4.toNat (qa Y66)).2).2).2).2).2).1:Bool)==(decide (((IntKind.i64.wrap ((IntKind.i64.wrap ((IntKind.i64.wrap ((IntKind.i64.wrap ((IntKind.i64.wrap ((IntKind.i64.wrap ((IntKind.i64.wrap (v3+(1:Int)))+(1:Int)))+(1:Int)))+(1:Int)))+(1:Int)))+(1:Int)))+(1:Int))).tmod (3:Int))=(0:Int)))))then (some ((-1:Int),()))else (chk (0≤v4∧v4<(v2.length:Int)) (chk ((3:Int)≠0) (bif (!((((((((v2.getD v4.toNat (qa Y66)).2).2).2).2).2).2:Bool)==(decide (((IntKind.i64.wrap ((IntKind.i64.wrap ((IntKind.i64.wrap ((IntKind.i64.wrap ((IntKind.i64.wrap ((IntKind.i64.wrap ((IntKind.i64.wrap ((IntKind.i64.wrap (v3+(1:Int)))+(1:Int)))+(1:Int)))+(1:Int)))+(1:Int)))+(1:Int)))+(1:Int)))+(1:Int))).tmod (3:Int))=(0:Int)))))then (some ((-1:Int),()))else (qfh N v2 k0 n (IntKind.i64.wrap ((IntKind.i64.wrap ((IntKind.i64.wrap ((IntKind.i64.wrap ((IntKind.i64.wrap ((IntKind.i64.wrap ((IntKind.i64.wrap ((IntKind.i64.wrap ((IntKind.i64.wrap (v3+(1:Int)))+(1:Int)))+(1:Int)))+(1:Int)))+(1:Int)))+(1:Int)))+(1:Int)))+(1:Int)))+(1:Int))) (IntKind.i64.wrap (v4+(1:Int)))))))))))))))))))))))))))else (k0 v3)
noncomputable def m23 (N:Nat) (v0:List (Val Y66)) (v1:Int):Option (qb [i3]):=qfh N v0 (fun (v6:Int)=>some (v6,())) N v1 (0:Int)
def Γ23:Gam:=[]
def qkj:Nm:=⟨[true,true,false,false,false,true],[],false⟩
theorem qx6:qkj.zero=false:=rfl
theorem qyk:qkj.fix=[]:=rfl
theorem qw6:qkj.keep=[true,true,false,false,false,true]:=rfl
def qqn:Nm:=⟨[false,true],[],false⟩
theorem qro:qqn.zero=false:=rfl
theorem qxM:qqn.fix=[]:=rfl
theorem qBe:qqn.keep=[false,true]:=rfl
def qhj:Nat→Tree:=fun _=> .done
def qiW:Nat→Nm:=fun i=>if i=2 then qkj else ⟨[],[],false⟩
def qiB:Nat→Option Jn:=fun _=>none
def qiL:Nat→Option Nm:=fun i=>if i=0 then some qqn else none
def qiN:Nat→Option Nm:=fun _=>none
theorem p23:ql qhj (Try.f23.body.getD .skip)=true:=by kernel_rfl
def T23 (N:Nat):Tab:={tr:=qhj,lp:=qiW,ex:=qiL,rg:=qiN,jn:=qiB,fuel:=N}
theorem qz9 (N:Nat):(T23 N).pins=false:=rfl
theorem qIf (N:Nat):qm Try.prog (T23 N):=qu fun _=>rfl
theorem qBp (N:Nat) (i:Nat):(T23 N).tr i=qhj i:=rfl
theorem qzo (N:Nat) (i:Nat):(T23 N).lp i=qiW i:=rfl
theorem qvG (N:Nat) (i:Nat):(T23 N).ex i=qiL i:=rfl
theorem qre (N:Nat) (i:Nat):(T23 N).rg i=qiN i:=rfl
theorem qtu (N:Nat) (i:Nat):(T23 N).jn i=qiB i:=rfl
theorem qxm (N:Nat):(T23 N).fuel=N:=rfl
noncomputable def qFN:Code:=cut [true,false,true,true,true] (Try.f23.body.getD .skip)
theorem qO5 {N:Nat} {Q:X→St→Option (qb [i3])} {e:List LV} {h:List Blk}:qd tt Γ23 (T23 N) qFN Q ⟨e,h⟩=qd tt Γ23 (T23 N) (cut [true,false,true,true,true] (Try.f23.body.getD .skip)) Q ⟨e,h⟩:=rfl
theorem qJk (N:Nat) (v2:List (Val Y66)) {k0:Int→Option (qb [i3])} {Q:X→St→Option (qb [i3])} {c:Code} (hc:c=qFN) (hret: ∀st,Q .ret st=qI tt true [i3] [.tmp 4] st) (h0: ∀(v5:Int),Q (.exit 0) ⟨[u,.one (.int .i64 v5),u,u,u,u,u,u,u,u,u,u,u,u,u,u,u,u,u,u,u,u,u,u,u,u,u,u,u,u,u,u,u,u,u,u,u,u,u,u,u,u,u,u,u,u,u,u,u,u,u,u,u,u,u,u,u,u,u,u,u,u,u,u,u,u,u,u,u,u,u,u,u,u,u,u,u,u,u,u,u,u,u,u,u,u,u,u,u,u,u,u,u,u,u,u,u,u,u,u,u,u,u,u,u,u,u,u],[]⟩=k0 v5): ∀(n:Nat) (v3:Int) (v4:Int),qD (qd tt Γ23 (T23 N) c) false qkj Q n ⟨[.one (.sl 66 Y66 v2 0),.one (.int .i64 v3),u,u,u,.one (.int .i64 v4),u,u,u,u,u,u,u,u,u,u,u,u,u,u,u,u,u,u,u,u,u,u,u,u,u,u,u,u,u,u,u,u,u,u,u,u,u,u,u,u,u,u,u,u,u,u,u,u,u,u,u,u,u,u,u,u,u,u,u,u,u,u,u,u,u,u,u,u,u,u,u,u,u,u,u,u,u,u,u,u,u,u,u,u,u,u,u,u,u,u,u,u,u,u,u,u,u,u,u,u,u,u],[]⟩=qfh N v2 k0 n v3 v4:=by
 subst hc;intro n;induction n with
 | zero=>intros;rfl
 | succ n ih=>
   intro v3 v4
   rw [qR,qO5,qfh];unfold Try.f23
   simp (maxSteps:=10000000) -implicitDefEqProofs [qBp,qhj,qzo,qiW,qvG,qiL,qre,qiN,qtu,qiB,qxm,qz9,qyk,qw6,qx6,qxM,qBe,qro,hret,h0,ih]
theorem qIh (N:Nat) (v0:List (Val Y66)) (v1:Int):qd tt Γ23 (T23 N) (Try.f23.body.getD .skip) (qp tt true [i3] [.tmp 4]) (qt [i46,i3] 108 (v0,v1,()))=m23 N v0 v1:=by
 unfold Try.f23
 simp (maxSteps:=10000000) -implicitDefEqProofs [qBp,qhj,qzo,qiW,qvG,qiL,qre,qiN,qtu,qiB,qxm,qz9,qyk,qw6,qx6,qxM,qBe,qro]
 rewrite [qJk (k0:=(fun (v6:Int)=>some (v6,()))) N _ ?_ ?_ ?_]
 ·rewrite [m23];first | rfl | simp (maxSteps:=10000000) -implicitDefEqProofs []
 ·rfl
 ·intro;simp only [qK,qM,qO,qv]
 ·intro v6;simp (maxSteps:=10000000) -implicitDefEqProofs [qBp,qhj,qzo,qiW,qvG,qiL,qre,qiN,qtu,qiB,qxm,qz9,qyk,qw6,qx6,qxM,qBe,qro]
def g23:G:={ps:=[i46,i3],rs:=[i3],dp:=true,pre:=fun x=>qll x.1 x.2.1,fn:=fun x=>(qgT x.1 x.2.1,())}
theorem e23 (x:List (Val Y66)) (k:Int) (h:qll x k): ∃N,m23 N x k=some (qgT x k,()):=⟨x.length+1,by
 obtain ⟨hm,hb,h0,hc⟩:=h
 rw [m23]
 refine qHs (t:=Y66) (F:=fun n i k=>qfh _ x _ n k i) (kf:=fun k=>some (k,())) x hb.1 (fun n i k hi hx h0 hb'=> ?_) (fun n i k hi=> ?_) _ k (Nat.lt_succ_self _) hm h0 hc
 ·have hle:x.length≤1048576:=hb.1
  have q1:decide (Int.tmod k 3=0)=x[i].1:=congrArg (fun z:Bool×(Int×Int)×Bool×Bool×(Int×Int)×Bool×Bool=>z.1) hx
  have q2:IntKind.i64.wrap (k+1)=x[i].2.1.1:=congrArg (fun z:Bool×(Int×Int)×Bool×Bool×(Int×Int)×Bool×Bool=>z.2.1.1) hx
  have q3:IntKind.i64.wrap ((IntKind.i64.wrap (k+1))+1)=x[i].2.1.2:=congrArg (fun z:Bool×(Int×Int)×Bool×Bool×(Int×Int)×Bool×Bool=>z.2.1.2) hx
  have q4:decide (Int.tmod (IntKind.i64.wrap ((IntKind.i64.wrap ((IntKind.i64.wrap (k+1))+1))+1)) 3=0)=x[i].2.2.1:=congrArg (fun z:Bool×(Int×Int)×Bool×Bool×(Int×Int)×Bool×Bool=>z.2.2.1) hx
  have q5:decide (Int.tmod (IntKind.i64.wrap ((IntKind.i64.wrap ((IntKind.i64.wrap ((IntKind.i64.wrap (k+1))+1))+1))+1)) 3=0)=x[i].2.2.2.1:=congrArg (fun z:Bool×(Int×Int)×Bool×Bool×(Int×Int)×Bool×Bool=>z.2.2.2.1) hx
  have q6:IntKind.i64.wrap ((IntKind.i64.wrap ((IntKind.i64.wrap ((IntKind.i64.wrap ((IntKind.i64.wrap (k+1))+1))+1))+1))+1)=x[i].2.2.2.2.1.1:=congrArg (fun z:Bool×(Int×Int)×Bool×Bool×(Int×Int)×Bool×Bool=>z.2.2.2.2.1.1) hx
  have q7:IntKind.i64.wrap ((IntKind.i64.wrap ((IntKind.i64.wrap ((IntKind.i64.wrap ((IntKind.i64.wrap ((IntKind.i64.wrap (k+1))+1))+1))+1))+1))+1)=x[i].2.2.2.2.1.2:=congrArg (fun z:Bool×(Int×Int)×Bool×Bool×(Int×Int)×Bool×Bool=>z.2.2.2.2.1.2) hx
  have q8:decide (Int.tmod (IntKind.i64.wrap ((IntKind.i64.wrap ((IntKind.i64.wrap ((IntKind.i64.wrap ((IntKind.i64.wrap ((IntKind.i64.wrap ((IntKind.i64.wrap (k+1))+1))+1))+1))+1))+1))+1)) 3=0)=x[i].2.2.2.2.2.1:=congrArg (fun z:Bool×(Int×Int)×Bool×Bool×(Int×Int)×Bool×Bool=>z.2.2.2.2.2.1) hx
  have q9:decide (Int.tmod (IntKind.i64.wrap ((IntKind.i64.wrap ((IntKind.i64.wrap ((IntKind.i64.wrap ((IntKind.i64.wrap ((IntKind.i64.wrap ((IntKind.i64.wrap ((IntKind.i64.wrap (k+1))+1))+1))+1))+1))+1))+1))+1)) 3=0)=x[i].2.2.2.2.2.2:=congrArg (fun z:Bool×(Int×Int)×Bool×Bool×(Int×Int)×Bool×Bool=>z.2.2.2.2.2.2) hx
  rw [qfh,qh (by omega),qL hi,qc (by omega),qc (by decide),qar,qk9 (by rw [←q1];exact beq_self_eq_true _),qc (by omega),qar,qh q2.symm,qc (by omega),qar,qh q3.symm,qc (by omega),qc (by decide),qar,qk9 (by rw [←q4];exact beq_self_eq_true _),qc (by omega),qc (by decide),qar,qk9 (by rw [←q5];exact beq_self_eq_true _),qc (by omega),qar,qh q6.symm,qc (by omega),qar,qh q7.symm,qc (by omega),qc (by decide),qar,qk9 (by rw [←q8];exact beq_self_eq_true _),qc (by omega),qc (by decide),qar,qk9 (by rw [←q9];exact beq_self_eq_true _)]
  rfl
 ·have hle:x.length≤1048576:=hb.1
  rw [qfh,qi (by omega)]⟩
theorem s23:Sound Try.prog 23 g23:=qw (tt:=tt) (Γ:=Γ23) hT qq hm (fn:=Try.f23) Try.func23 (c:=Try.f23.body.getD .skip) (by kernel_rfl) (by kernel_rfl) fun x hx=>by
 obtain ⟨N,h⟩:=e23 x.1 x.2.1 hx
 exact ⟨T23 N,p23,qx _,qIf N,(qIh N x.1 x.2.1).trans h⟩
end Go.T
