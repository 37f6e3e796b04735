/- Sums of ratios. -/
import Derived.Test.YthefcjjgchekiaaGreatB10
set_option linter.unusedSimpArgs false
set_option linter.unusedVariables false
namespace Go.T
open Go Go.Proofs
set_option maxHeartbeats 4000000
set_option maxRecDepth 100000
abbrev noR:Val Y28:=((0:Int),(0:Int))
def qbR (a b:Val Y28):Val Y28:=bif qE a&&qE b then q6 ((a.1:Int)*b.2+(b.1:Int)*a.2) ((a.2:Int)*b.2)else noR
def qhq:G:={ps:=[i28,i28],rs:=[i28],dp:=true,pre:=fun _=>True,fn:=fun x=>(qbR x.1 x.2.1,())}
def qmK:G:={ps:=[i28,i28],rs:=[i28],dp:=true,pre:=fun _=>True,fn:=fun x=>(qbR x.1 x.2.1,())}
noncomputable def qFB (N:Nat) (v0:Val Y28) (v1:Val Y28):Option (qc [i28]):=bif (!((qE v0):Bool))then (some (((0:Int),(0:Int)),()))else (bif (!((qE v1):Bool))then (some (((0:Int),(0:Int)),()))else (chk (qc9 (IntKind.i64.wrap ((IntKind.i64.wrap ((v0.1:Int)*(v1.2:Int)))+(IntKind.i64.wrap ((v1.1:Int)*(v0.2:Int))))) (IntKind.i64.wrap ((v0.2:Int)*(v1.2:Int)))) (some ((((q6 (IntKind.i64.wrap ((IntKind.i64.wrap ((v0.1:Int)*(v1.2:Int)))+(IntKind.i64.wrap ((v1.1:Int)*(v0.2:Int))))) (IntKind.i64.wrap ((v0.2:Int)*(v1.2:Int)))).1:Int),((q6 (IntKind.i64.wrap ((IntKind.i64.wrap ((v0.1:Int)*(v1.2:Int)))+(IntKind.i64.wrap ((v1.1:Int)*(v0.2:Int))))) (IntKind.i64.wrap ((v0.2:Int)*(v1.2:Int)))).2:Int)),()))))
def qGA:Gam:=[(114,qaR),(241,qhB)]
theorem zsf:Gam.get qGA 114=some qaR:=rfl
theorem zjT:Gam.get qGA 241=some qhB:=rfl
def qFl:Nat→Tree:=fun _=> .done
def qWx:Nat→Nm:=fun _=>⟨[],[],false⟩
def q2d:Nat→Option Jn:=fun _=>none
def qV7:Nat→Option Nm:=fun _=>none
def qQ3:Nat→Option Nm:=fun _=>none
theorem znk:qh qFl (Tryz.f159.body.getD .skip)=true:=by kernel_rfl
def qgb (N:Nat):Tab:={tr:=qFl,lp:=qWx,ex:=qV7,rg:=qQ3,jn:=q2d,fuel:=N}
theorem zj1 (N:Nat):(qgb N).pins=false:=rfl
theorem zs3 (N:Nat):qk Tryz.prog (qgb N):=qo fun _=>rfl
theorem zti (N:Nat) (i:Nat):(qgb N).tr i=qFl i:=rfl
theorem zk6 (N:Nat) (i:Nat):(qgb N).lp i=qWx i:=rfl
theorem zd8 (N:Nat) (i:Nat):(qgb N).ex i=qV7 i:=rfl
theorem zlX (N:Nat) (i:Nat):(qgb N).rg i=qQ3 i:=rfl
theorem zpM (N:Nat) (i:Nat):(qgb N).jn i=q2d i:=rfl
theorem zrN (N:Nat):(qgb N).fuel=N:=rfl
theorem zs6 (N:Nat) (v0:Val Y28) (v1:Val Y28):qf tt qGA (qgb N) (Tryz.f159.body.getD .skip) (qm tt true [i28] [.cell 4 28]) (qp [i28,i28] 31 (v0,v1,()))=qFB N v0 v1:=by
 rw [qFB];unfold Tryz.f159
 simp (maxSteps:=10000000) -implicitDefEqProofs [zti,qFl,zk6,qWx,zd8,qV7,zlX,qQ3,zpM,q2d,zrN,zj1,zsf,zjT,qaR,qhB]
 try rfl
noncomputable def qAs (N:Nat) (v0:Val Y28) (v1:Val Y28):Option (qc [i28]):=bif (!((qE v0):Bool))then (some (((0:Int),(0:Int)),()))else (bif (!((qE v1):Bool))then (some (((0:Int),(0:Int)),()))else (chk (qc9 (IntKind.i64.wrap ((IntKind.i64.wrap ((v0.1:Int)*(v1.2:Int)))+(IntKind.i64.wrap ((v1.1:Int)*(v0.2:Int))))) (IntKind.i64.wrap ((v0.2:Int)*(v1.2:Int)))) (some ((((q6 (IntKind.i64.wrap ((IntKind.i64.wrap ((v0.1:Int)*(v1.2:Int)))+(IntKind.i64.wrap ((v1.1:Int)*(v0.2:Int))))) (IntKind.i64.wrap ((v0.2:Int)*(v1.2:Int)))).1:Int),((q6 (IntKind.i64.wrap ((IntKind.i64.wrap ((v0.1:Int)*(v1.2:Int)))+(IntKind.i64.wrap ((v1.1:Int)*(v0.2:Int))))) (IntKind.i64.wrap ((v0.2:Int)*(v1.2:Int)))).2:Int)),()))))
def qCA:Gam:=[(109,qaK),(197,ql7)]
theorem zvR:Gam.get qCA 109=some qaK:=rfl
theorem zpV:Gam.get qCA 197=some ql7:=rfl
def qz4:Nat→Tree:=fun _=> .done
def qNT:Nat→Nm:=fun _=>⟨[],[],false⟩
def qNL:Nat→Option Jn:=fun _=>none
def qNc:Nat→Option Nm:=fun _=>none
def q1j:Nat→Option Nm:=fun _=>none
theorem zdh:qh qz4 (Tryz.f107.body.getD .skip)=true:=by kernel_rfl
def qfm (N:Nat):Tab:={tr:=qz4,lp:=qNT,ex:=qNc,rg:=q1j,jn:=qNL,fuel:=N}
theorem zkF (N:Nat):(qfm N).pins=false:=rfl
theorem zxg (N:Nat):qk Tryz.prog (qfm N):=qo fun _=>rfl
theorem zb7 (N:Nat) (i:Nat):(qfm N).tr i=qz4 i:=rfl
theorem zy2 (N:Nat) (i:Nat):(qfm N).lp i=qNT i:=rfl
theorem zBm (N:Nat) (i:Nat):(qfm N).ex i=qNc i:=rfl
theorem zqJ (N:Nat) (i:Nat):(qfm N).rg i=q1j i:=rfl
theorem zty (N:Nat) (i:Nat):(qfm N).jn i=qNL i:=rfl
theorem ziS (N:Nat):(qfm N).fuel=N:=rfl
theorem ztf (N:Nat) (v0:Val Y28) (v1:Val Y28):qf tt qCA (qfm N) (Tryz.f107.body.getD .skip) (qm tt true [i28] [.cell 4 28]) (qp [i28,i28] 31 (v0,v1,()))=qAs N v0 v1:=by
 rw [qAs];unfold Tryz.f107
 simp (maxSteps:=10000000) -implicitDefEqProofs [zb7,qz4,zy2,qNT,zBm,qNc,zqJ,q1j,zty,qNL,ziS,zkF,zvR,zpV,qaK,ql7]
 try rfl
def qb0 (a:Val Y28):Val Y28:=bif qE a then (-(a.1:Int),(a.2:Int))else noR
def qzK:G:={ps:=[i28],rs:=[i28],dp:=true,pre:=fun _=>True,fn:=fun x=>(qb0 x.1,())}
def qpo:G:={ps:=[i28],rs:=[i28],dp:=true,pre:=fun _=>True,fn:=fun x=>(qb0 x.1,())}
noncomputable def qHu (N:Nat) (v0:Val Y28):Option (qc [i28]):=bif (!((qE v0):Bool))then (some (((0:Int),(0:Int)),()))else (some (((IntKind.i64.wrap (0 - (v0.1:Int))),(v0.2:Int)),()))
def qZE:Gam:=[(114,qaR)]
theorem zmI:Gam.get qZE 114=some qaR:=rfl
def qEn:Nat→Tree:=fun _=> .done
def qSa:Nat→Nm:=fun _=>⟨[],[],false⟩
def qUt:Nat→Option Jn:=fun _=>none
def qRg:Nat→Option Nm:=fun _=>none
def q2x:Nat→Option Nm:=fun _=>none
theorem zqm:qh qEn (Tryz.f203.body.getD .skip)=true:=by kernel_rfl
def qfr (N:Nat):Tab:={tr:=qEn,lp:=qSa,ex:=qRg,rg:=q2x,jn:=qUt,fuel:=N}
theorem zyo (N:Nat):(qfr N).pins=false:=rfl
theorem zyV (N:Nat):qk Tryz.prog (qfr N):=qo fun _=>rfl
theorem zw8 (N:Nat) (i:Nat):(qfr N).tr i=qEn i:=rfl
theorem ztb (N:Nat) (i:Nat):(qfr N).lp i=qSa i:=rfl
theorem zd5 (N:Nat) (i:Nat):(qfr N).ex i=qRg i:=rfl
theorem zf8 (N:Nat) (i:Nat):(qfr N).rg i=q2x i:=rfl
theorem zAO (N:Nat) (i:Nat):(qfr N).jn i=qUt i:=rfl
theorem zvU (N:Nat):(qfr N).fuel=N:=rfl
theorem zv0 (N:Nat) (v0:Val Y28):qf tt qZE (qfr N) (Tryz.f203.body.getD .skip) (qm tt true [i28] [.cell 2 28]) (qp [i28] 13 (v0,()))=qHu N v0:=by
 rw [qHu];unfold Tryz.f203
 simp (maxSteps:=10000000) -implicitDefEqProofs [zw8,qEn,ztb,qSa,zd5,qRg,zf8,q2x,zAO,qUt,zvU,zyo,zmI,qaR]
 try rfl
noncomputable def qAA (N:Nat) (v0:Val Y28):Option (qc [i28]):=bif (!((qE v0):Bool))then (some (((0:Int),(0:Int)),()))else (some (((IntKind.i64.wrap (0 - (v0.1:Int))),(v0.2:Int)),()))
def qPh:Gam:=[(109,qaK)]
theorem zus:Gam.get qPh 109=some qaK:=rfl
def qEQ:Nat→Tree:=fun _=> .done
def qOB:Nat→Nm:=fun _=>⟨[],[],false⟩
def qQV:Nat→Option Jn:=fun _=>none
def qIZ:Nat→Option Nm:=fun _=>none
def qWY:Nat→Option Nm:=fun _=>none
theorem zya:qh qEQ (Tryz.f108.body.getD .skip)=true:=by kernel_rfl
def qf6 (N:Nat):Tab:={tr:=qEQ,lp:=qOB,ex:=qIZ,rg:=qWY,jn:=qQV,fuel:=N}
theorem zfF (N:Nat):(qf6 N).pins=false:=rfl
theorem zeu (N:Nat):qk Tryz.prog (qf6 N):=qo fun _=>rfl
theorem zqC (N:Nat) (i:Nat):(qf6 N).tr i=qEQ i:=rfl
theorem zci (N:Nat) (i:Nat):(qf6 N).lp i=qOB i:=rfl
theorem zjP (N:Nat) (i:Nat):(qf6 N).ex i=qIZ i:=rfl
theorem zg3 (N:Nat) (i:Nat):(qf6 N).rg i=qWY i:=rfl
theorem zbw (N:Nat) (i:Nat):(qf6 N).jn i=qQV i:=rfl
theorem zlW (N:Nat):(qf6 N).fuel=N:=rfl
theorem zcu (N:Nat) (v0:Val Y28):qf tt qPh (qf6 N) (Tryz.f108.body.getD .skip) (qm tt true [i28] [.cell 2 28]) (qp [i28] 13 (v0,()))=qAA N v0:=by
 rw [qAA];unfold Tryz.f108
 simp (maxSteps:=10000000) -implicitDefEqProofs [zqC,qEQ,zci,qOB,zjP,qIZ,zg3,qWY,zbw,qQV,zlW,zfF,zus,qaK]
 try rfl
def qhF (a b:Val Y28):Val Y28:=qbR a (qb0 b)
def qnr:G:={ps:=[i28,i28],rs:=[i28],dp:=true,pre:=fun _=>True,fn:=fun x=>(qhF x.1 x.2.1,())}
noncomputable def qNo (N:Nat) (v0:Val Y28) (v1:Val Y28):Option (qc [i28]):=some ((((qbR v0 (((qb0 v1).1:Int),((qb0 v1).2:Int))).1:Int),((qbR v0 (((qb0 v1).1:Int),((qb0 v1).2:Int))).2:Int)),())
def qDt:Gam:=[(159,qhq),(203,qzK)]
theorem zre:Gam.get qDt 159=some qhq:=rfl
theorem zxU:Gam.get qDt 203=some qzK:=rfl
def qGD:Nm:=⟨[false,false,false,false,true],[],false⟩
theorem zqv:qGD.zero=false:=rfl
theorem zhe:qGD.fix=[]:=rfl
theorem zhP:qGD.keep=[false,false,false,false,true]:=rfl
def qCy:Nat→Tree:=fun i=>if i=1 then .quiet 1 (.alt 0 (.alt 2 (.alt 3 (.alt 4 .done .stop) .stop) .stop) (.alt 2 (.quiet 0 (.alt 3 (.alt 4 .done .stop) .stop)) .stop))else .done
def qHM:Nat→Nm:=fun _=>⟨[],[],false⟩
def qQh:Nat→Option Jn:=fun _=>none
def qRp:Nat→Option Nm:=fun _=>none
def qZJ:Nat→Option Nm:=fun i=>if i=1 then some qGD else none
theorem zeS:qh qCy (Tryz.f113.body.getD .skip)=true:=by kernel_rfl
def qfL (N:Nat):Tab:={tr:=qCy,lp:=qHM,ex:=qRp,rg:=qZJ,jn:=qQh,fuel:=N}
theorem zi8 (N:Nat):(qfL N).pins=false:=rfl
theorem zdj (N:Nat):qk Tryz.prog (qfL N):=qo fun _=>rfl
theorem zhR (N:Nat) (i:Nat):(qfL N).tr i=qCy i:=rfl
theorem zfX (N:Nat) (i:Nat):(qfL N).lp i=qHM i:=rfl
theorem zsZ (N:Nat) (i:Nat):(qfL N).ex i=qRp i:=rfl
theorem zeJ (N:Nat) (i:Nat):(qfL N).rg i=qZJ i:=rfl
theorem zwK (N:Nat) (i:Nat):(qfL N).jn i=qQh i:=rfl
theorem zoP (N:Nat):(qfL N).fuel=N:=rfl
theorem zlb (N:Nat) (v0:Val Y28) (v1:Val Y28):qf tt qDt (qfL N) (Tryz.f113.body.getD .skip) (qm tt true [i28] [.cell 4 28]) (qp [i28,i28] 9 (v0,v1,()))=qNo N v0 v1:=by
 rw [qNo];unfold Tryz.f113
 simp (maxSteps:=10000000) -implicitDefEqProofs [zhR,qCy,zfX,qHM,zsZ,qRp,zeJ,qZJ,zwK,qQh,zoP,zi8,zhe,zhP,zqv,zre,zxU,qhq,qzK]
 try rfl
def qHr (n:Int):Val Y28:=(n,(1:Int))
def qmR:G:={ps:=[i3],rs:=[i28],dp:=true,pre:=fun _=>True,fn:=fun x=>(qHr x.1,())}
noncomputable def q1l (N:Nat) (v0:Int):Option (qc [i28]):=some ((v0,(1:Int)),())
def q7O:Gam:=[]
def qCh:Nat→Tree:=fun _=> .done
def qNd:Nat→Nm:=fun _=>⟨[],[],false⟩
def qNn:Nat→Option Jn:=fun _=>none
def qRm:Nat→Option Nm:=fun _=>none
def qWr:Nat→Option Nm:=fun _=>none
theorem zrH:qh qCh (Tryz.f157.body.getD .skip)=true:=by kernel_rfl
def qgu (N:Nat):Tab:={tr:=qCh,lp:=qNd,ex:=qRm,rg:=qWr,jn:=qNn,fuel:=N}
theorem zga (N:Nat):(qgu N).pins=false:=rfl
theorem zfd (N:Nat):qk Tryz.prog (qgu N):=qo fun _=>rfl
theorem zm9 (N:Nat) (i:Nat):(qgu N).tr i=qCh i:=rfl
theorem zmM (N:Nat) (i:Nat):(qgu N).lp i=qNd i:=rfl
theorem zAY (N:Nat) (i:Nat):(qgu N).ex i=qRm i:=rfl
theorem ztS (N:Nat) (i:Nat):(qgu N).rg i=qWr i:=rfl
theorem zfh (N:Nat) (i:Nat):(qgu N).jn i=qNn i:=rfl
theorem zpC (N:Nat):(qgu N).fuel=N:=rfl
theorem zrI (N:Nat) (v0:Int):qf tt q7O (qgu N) (Tryz.f157.body.getD .skip) (qm tt true [i28] [.cell 2 28]) (qp [i3] 5 (v0,()))=q1l N v0:=by
 rw [q1l];unfold Tryz.f157
 simp (maxSteps:=10000000) -implicitDefEqProofs [zm9,qCh,zmM,qNd,zAY,qRm,ztS,qWr,zfh,qNn,zpC,zga]
 try rfl
theorem qiU {r:Val Y28} (h:qE r=true): -400000000≤(r.2:Int)∧ @LE.le Int _ r.2 400000000:=⟨Int.le_trans (by decide) (qct h).2.1,(qct h).2.2⟩
theorem q5d {a b:Val Y28} (ha:qE a=true) (hb:qE b=true):IntKind.i64.wrap (IntKind.i64.wrap ((a.1:Int)*(b.2:Int))+IntKind.i64.wrap ((b.1:Int)*(a.2:Int)))=(a.1:Int)*b.2+(b.1:Int)*a.2∧IntKind.i64.wrap ((a.2:Int)*(b.2:Int))=(a.2:Int)*b.2∧qc9 ((a.1:Int)*b.2+(b.1:Int)*a.2) ((a.2:Int)*b.2):=by
 have m1:=qlM (qct ha).1 (qiU hb)
 have m2:=qlM (qct hb).1 (qiU ha)
 have m3:=qlM (qiU ha) (qiU hb)
 rw [qj6 (qct ha).1 (qiU hb),qj6 (qct hb).1 (qiU ha),qj6 (qiU ha) (qiU hb)]
 unfold qc9 inI
 generalize (a.1:Int)*b.2=x at*
 generalize (b.1:Int)*a.2=y at*
 generalize (a.2:Int)*b.2=z at*
 exact ⟨qaC (by omega) (by omega),rfl,⟨by omega,by omega⟩,⟨by omega,by omega⟩⟩
theorem zq7 {x:Int} (h: -400000000≤x∧x≤400000000):IntKind.i64.wrap (0 - x)= -x:=by
 rw [Int.zero_sub]
 exact qaC (by omega) (by omega)
theorem q9m {a:Val Y28} (ha:qE a=true):IntKind.i64.wrap (0 - (a.1:Int))= -(a.1:Int):=by
 have h:=(qct ha).1
 exact zq7 h
theorem zeF (a b:Val Y28): ∃N,qFB N a b=some (qbR a b,()):=⟨0,by
 rw [qFB]
 unfold qbR
 cases ha:qE a with
 | false=>rfl
 | true=>
   cases hb:qE b with
   | false=>rfl
   | true=>
     simp only [Bool.not_true,cond_false,Bool.and_self,cond_true]
     obtain ⟨e1,e2,hp⟩:=q5d ha hb
     rw [e1,e2]
     exact qe hp⟩
theorem q7C:Sound Tryz.prog 159 qhq:=qr (tt:=tt) (Γ:=qGA) hT (qg qiK (qg q5R qn)) hm (fn:=Tryz.f159) Tryz.func159 (c:=Tryz.f159.body.getD .skip) (by kernel_rfl) (by kernel_rfl) fun x hx=>by
 obtain ⟨N,h⟩:=zeF x.1 x.2.1
 exact ⟨qgb N,znk,qu _,zs3 N,(zs6 N x.1 x.2.1).trans h⟩
theorem zh0 (a b:Val Y28): ∃N,qAs N a b=some (qbR a b,()):=⟨0,by
 rw [qAs]
 unfold qbR
 cases ha:qE a with
 | false=>rfl
 | true=>
   cases hb:qE b with
   | false=>rfl
   | true=>
     simp only [Bool.not_true,cond_false,Bool.and_self,cond_true]
     obtain ⟨e1,e2,hp⟩:=q5d ha hb
     rw [e1,e2]
     exact qe hp⟩
theorem zfz:Sound Tryz.prog 107 qmK:=qr (tt:=tt) (Γ:=qCA) hT (qg qms (qg q7I qn)) hm (fn:=Tryz.f107) Tryz.func107 (c:=Tryz.f107.body.getD .skip) (by kernel_rfl) (by kernel_rfl) fun x hx=>by
 obtain ⟨N,h⟩:=zh0 x.1 x.2.1
 exact ⟨qfm N,zdh,qu _,zxg N,(ztf N x.1 x.2.1).trans h⟩
theorem zg4 (a:Val Y28): ∃N,qHu N a=some (qb0 a,()):=⟨0,by
 rw [qHu]
 unfold qb0
 cases ha:qE a with
 | false=>rfl
 | true=>
   simp only [Bool.not_true,cond_false,cond_true]
   rw [q9m ha]⟩
theorem zxe:Sound Tryz.prog 203 qzK:=qr (tt:=tt) (Γ:=qZE) hT (qg qiK qn) hm (fn:=Tryz.f203) Tryz.func203 (c:=Tryz.f203.body.getD .skip) (by kernel_rfl) (by kernel_rfl) fun x hx=>by
 obtain ⟨N,h⟩:=zg4 x.1
 exact ⟨qfr N,zqm,qu _,zyV N,(zv0 N x.1).trans h⟩
theorem zoi (a:Val Y28): ∃N,qAA N a=some (qb0 a,()):=⟨0,by
 rw [qAA]
 unfold qb0
 cases ha:qE a with
 | false=>rfl
 | true=>
   simp only [Bool.not_true,cond_false,cond_true]
   rw [q9m ha]⟩
theorem zue:Sound Tryz.prog 108 qpo:=qr (tt:=tt) (Γ:=qPh) hT (qg qms qn) hm (fn:=Tryz.f108) Tryz.func108 (c:=Tryz.f108.body.getD .skip) (by kernel_rfl) (by kernel_rfl) fun x hx=>by
 obtain ⟨N,h⟩:=zoi x.1
 exact ⟨qf6 N,zya,qu _,zeu N,(zcu N x.1).trans h⟩
theorem zwY (a b:Val Y28): ∃N,qNo N a b=some (qhF a b,()):=⟨0,rfl⟩
theorem zzu:Sound Tryz.prog 113 qnr:=qr (tt:=tt) (Γ:=qDt) hT (qg q7C (qg zxe qn)) hm (fn:=Tryz.f113) Tryz.func113 (c:=Tryz.f113.body.getD .skip) (by kernel_rfl) (by kernel_rfl) fun x hx=>by
 obtain ⟨N,h⟩:=zwY x.1 x.2.1
 exact ⟨qfL N,zeS,qu _,zdj N,(zlb N x.1 x.2.1).trans h⟩
theorem zsm (n:Int): ∃N,q1l N n=some (qHr n,()):=⟨0,rfl⟩
theorem zz8:Sound Tryz.prog 157 qmR:=qr (tt:=tt) (Γ:=q7O) hT qn hm (fn:=Tryz.f157) Tryz.func157 (c:=Tryz.f157.body.getD .skip) (by kernel_rfl) (by kernel_rfl) fun x hx=>by
 obtain ⟨N,h⟩:=zsm x.1
 exact ⟨qgu N,zrH,qu _,zfd N,(zrI N x.1).trans h⟩
end Go.T
