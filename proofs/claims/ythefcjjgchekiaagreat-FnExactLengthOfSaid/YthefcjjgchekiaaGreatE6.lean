/- Regions: cells that are added. Run. -/
import Derived.Test.YthefcjjgchekiaaGreatE5
import Derived.Test.YthefcjjgchekiaaGreatB10n
import Derived.Test.YthefcjjgchekiaaGreatT11
set_option linter.unusedSimpArgs false
set_option linter.unusedVariables false
namespace Go.T
open Go Go.Proofs
set_option maxHeartbeats 4000000
set_option maxRecDepth 100000
abbrev qa5:Val Y50×Bool:=(((0:Int),[]),false)
def q7 (r:Val Y50):Bool:=decide (0≤(r.1:Int)∧(r.1:Int)≤4)&&decide ((List.length (α:=Val Y33) r.2:Int)≤12)&&List.all (α:=Val Y33) r.2 fun c=>qz c&&decide ((c.1:Int)=(r.1:Int))
def qbs (r:Val Y50):Prop:=List.length (α:=Val Y33) r.2≤1048576∧ ∀c∈(r.2:List (Val Y33)),qbf c
noncomputable def qiN (N:Nat) (v2:Int) (v3:List (Val Y33)) (k0:Unit→Option (qc [i4])):Nat→Int→Option (qc [i4])
 | 0,_=>none
 | n+1,v1=>bif (decide (v1<(v3.length:Int)))then (chk (0≤v1∧v1<(v3.length:Int)) (chk (qbf (v3.getD v1.toNat (qb Y33))) (bif (!((qz (v3.getD v1.toNat (qb Y33))):Bool))then (some (false,()))else (chk (0≤v1∧v1<(v3.length:Int)) (bif (!(decide (((v3.getD v1.toNat (qb Y33)).1:Int)=v2)))then (some (false,()))else (qiN N v2 v3 k0 n (IntKind.i64.wrap (v1+(1:Int)))))))))else (k0 ())
noncomputable def qzF (N:Nat) (v0:Val Y50):Option (qc [i4]):=qiN N (v0.1:Int) (v0.2:List (Val Y33)) (fun (_:Unit)=>bif ((inR (v0.1:Int) (0:Int) (4:Int)):Bool)then (some ((decide (((v0.2:List (Val Y33)).length:Int)≤(12:Int))),()))else (some (false,()))) N (0:Int)
def qjv:Gam:=[(104,qbt),(118,qao)]
theorem q22:Gam.get qjv 104=some qbt:=rfl
theorem qVs:Gam.get qjv 118=some qao:=rfl
def qsd:Nm:=⟨[false,true,false,true],[],false⟩
theorem q4V:qsd.zero=false:=rfl
theorem qXg:qsd.fix=[]:=rfl
theorem qWE:qsd.keep=[false,true,false,true]:=rfl
def qCD:Nm:=⟨[false,true],[],false⟩
theorem qY4:qCD.zero=false:=rfl
theorem qSJ:qCD.fix=[]:=rfl
theorem qLY:qCD.keep=[false,true]:=rfl
def qnd:Nat→Tree:=fun i=>if i=4 then .quiet 0 (.quiet 1 (.quiet 2 (.quiet 3 (.quiet 4 (.alt 5 (.quiet 6 (.quiet 7 (.quiet 8 (.quiet 9 (.quiet 10 (.quiet 11 (.quiet 12 (.quiet 13 (.quiet 14 (.quiet 15 (.quiet 16 (.quiet 17 .done)))))))))))) .stop)))))else .done
def qtG:Nat→Nm:=fun i=>if i=2 then qsd else ⟨[],[],false⟩
def qtf:Nat→Option Jn:=fun _=>none
def qvT:Nat→Option Nm:=fun i=>if i=0 then some qCD else none
def qqW:Nat→Option Nm:=fun _=>none
theorem zgX:qh qnd (Tryz.f117.body.getD .skip)=true:=by kernel_rfl
def qee (N:Nat):Tab:={tr:=qnd,lp:=qtG,ex:=qvT,rg:=qqW,jn:=qtf,fuel:=N}
theorem q0d (N:Nat):(qee N).pins=false:=rfl
theorem zcq (N:Nat):qk Tryz.prog (qee N):=qo fun _=>rfl
theorem qH9 (N:Nat) (i:Nat):(qee N).tr i=qnd i:=rfl
theorem qZ7 (N:Nat) (i:Nat):(qee N).lp i=qtG i:=rfl
theorem qUV (N:Nat) (i:Nat):(qee N).ex i=qvT i:=rfl
theorem qI1 (N:Nat) (i:Nat):(qee N).rg i=qqW i:=rfl
theorem q3J (N:Nat) (i:Nat):(qee N).jn i=qtf i:=rfl
theorem qRe (N:Nat):(qee N).fuel=N:=rfl
noncomputable def q61:Code:=cut [true,false,true,true,true] (Tryz.f117.body.getD .skip)
theorem zqR {N:Nat} {Q:X→St→Option (qc [i4])} {e:List LV} {h:List Blk}:qf tt qjv (qee N) q61 Q ⟨e,h⟩=qf tt qjv (qee N) (cut [true,false,true,true,true] (Tryz.f117.body.getD .skip)) Q ⟨e,h⟩:=rfl
theorem zo6 (N:Nat) (v2:Int) (v3:List (Val Y33)) {k0:Unit→Option (qc [i4])} {Q:X→St→Option (qc [i4])} {c:Code} (hc:c=q61) (hret: ∀st,Q .ret st=qC tt true [i4] [.tmp 2] st) (h0:Q (.exit 0) ⟨[u,.one (.ptr 0 0 0),u,u,u,u,u,u,u,u,u,u,u,u,u,u,u,u,u,u,u,u,u,u,u,u,u,u,u,u,u,u,u,u,u,u,u,u],[.box [.int .i64 v2,.sl 33 Y33 v3 1]]⟩=k0 ()): ∀(n:Nat) (v1:Int),qD (qf tt qjv (qee N) c) false qsd Q n ⟨[u,.one (.ptr 0 0 0),u,.one (.int .i64 v1),u,u,u,u,u,u,u,u,u,u,u,u,u,u,u,u,u,u,u,u,u,u,u,u,u,u,u,u,u,u,u,u,u,u],[.box [.int .i64 v2,.sl 33 Y33 v3 1]]⟩=qiN N v2 v3 k0 n v1:=by
 subst hc;intro n;induction n with
 | zero=>intros;rfl
 | succ n ih=>
   intro v1
   rw [qN,zqR,qiN];unfold Tryz.f117
   simp (maxSteps:=10000000) -implicitDefEqProofs [qH9,qnd,qZ7,qtG,qUV,qvT,qI1,qqW,q3J,qtf,qRe,q0d,qXg,qWE,q4V,qSJ,qLY,qY4,q22,qVs,qbt,qao,hret,h0,ih]
theorem zrx (N:Nat) (v0:Val Y50):qf tt qjv (qee N) (Tryz.f117.body.getD .skip) (qm tt true [i4] [.tmp 2]) (qp [i50] 38 (v0,()))=qzF N v0:=by
 unfold Tryz.f117
 simp (maxSteps:=10000000) -implicitDefEqProofs [qH9,qnd,qZ7,qtG,qUV,qvT,qI1,qqW,q3J,qtf,qRe,q0d,qXg,qWE,q4V,qSJ,qLY,qY4,q22,qVs,qbt,qao]
 rewrite [zo6 (k0:=(fun (_:Unit)=>bif ((inR (v0.1:Int) (0:Int) (4:Int)):Bool)then (some ((decide (((v0.2:List (Val Y33)).length:Int)≤(12:Int))),()))else (some (false,())))) N _ _ ?_ ?_ ?_]
 ·rewrite [qzF];first | rfl | simp (maxSteps:=10000000) -implicitDefEqProofs []
 ·rfl
 ·intro;simp only [qK,qL,qJ,qB]
 ·simp (maxSteps:=10000000) -implicitDefEqProofs [qH9,qnd,qZ7,qtG,qUV,qvT,qI1,qqW,q3J,qtf,qRe,q0d,qXg,qWE,q4V,qSJ,qLY,qY4,q22,qVs,qbt,qao]
noncomputable def qh0 (N:Nat) (v1:List (Val Y33)) (v2:Int) (v4:Int) (v5:List (Val Y33)) (k0:Unit→Option (qc [i4])):Nat→Int→Option (qc [i4])
 | 0,_=>none
 | n+1,v3=>bif (decide (v3<v2))then (chk (0≤v3∧v3<(v1.length:Int)) (bif (!((qz (v1.getD v3.toNat (qb Y33))):Bool))then (some (false,()))else (bif (!(decide (((v1.getD v3.toNat (qb Y33)).1:Int)=v4)))then (some (false,()))else (qh0 N v1 v2 v4 v5 k0 n (IntKind.i64.wrap (v3+(1:Int)))))))else (k0 ())
noncomputable def qzT (N:Nat) (v0:Val Y50):Option (qc [i4]):=bif (decide ((v0.1:Int)<(0:Int)))then (some (false,()))else (bif (decide ((4:Int)<(v0.1:Int)))then (some (false,()))else (bif (decide ((12:Int)<((v0.2:List (Val Y33)).length:Int)))then (some (false,()))else (qh0 N (v0.2:List (Val Y33)) ((v0.2:List (Val Y33)).length:Int) (v0.1:Int) (v0.2:List (Val Y33)) (fun (_:Unit)=>some (true,())) N (0:Int))))
def qpC:Gam:=[(199,qaB)]
theorem qVS:Gam.get qpC 199=some qaB:=rfl
def qui:Nm:=⟨[false,true,false,false,false,false,false,false,false,false,false,false,false,false,false,false,false,false,false,false,true,true,true],[],false⟩
theorem qIo:qui.zero=false:=rfl
theorem qNs:qui.fix=[]:=rfl
theorem q3i:qui.keep=[false,true,false,false,false,false,false,false,false,false,false,false,false,false,false,false,false,false,false,false,true,true,true]:=rfl
def qDS:Nm:=⟨[],[],false⟩
theorem qUL:qDS.zero=false:=rfl
theorem qVe:qDS.fix=[]:=rfl
theorem qZA:qDS.keep=[]:=rfl
def qnq:Nat→Tree:=fun _=> .done
def qtt:Nat→Nm:=fun i=>if i=4 then qui else ⟨[],[],false⟩
def quc:Nat→Option Jn:=fun _=>none
def qwe:Nat→Option Nm:=fun i=>if i=0 then some qDS else none
def qvl:Nat→Option Nm:=fun _=>none
theorem zi1:qh qnq (Tryz.f124.body.getD .skip)=true:=by kernel_rfl
def qdj (N:Nat):Tab:={tr:=qnq,lp:=qtt,ex:=qwe,rg:=qvl,jn:=quc,fuel:=N}
theorem qWm (N:Nat):(qdj N).pins=false:=rfl
theorem zwJ (N:Nat):qk Tryz.prog (qdj N):=qo fun _=>rfl
theorem qRx (N:Nat) (i:Nat):(qdj N).tr i=qnq i:=rfl
theorem qJY (N:Nat) (i:Nat):(qdj N).lp i=qtt i:=rfl
theorem qUU (N:Nat) (i:Nat):(qdj N).ex i=qwe i:=rfl
theorem qLu (N:Nat) (i:Nat):(qdj N).rg i=qvl i:=rfl
theorem qLy (N:Nat) (i:Nat):(qdj N).jn i=quc i:=rfl
theorem qP4 (N:Nat):(qdj N).fuel=N:=rfl
noncomputable def q9T:Code:=cut [true,true,false,true,true,true] (Tryz.f124.body.getD .skip)
theorem zmy {N:Nat} {Q:X→St→Option (qc [i4])} {e:List LV} {h:List Blk}:qf tt qpC (qdj N) q9T Q ⟨e,h⟩=qf tt qpC (qdj N) (cut [true,true,false,true,true,true] (Tryz.f124.body.getD .skip)) Q ⟨e,h⟩:=rfl
theorem zqS (N:Nat) (v1:List (Val Y33)) (v2:Int) (v4:Int) (v5:List (Val Y33)) {k0:Unit→Option (qc [i4])} {Q:X→St→Option (qc [i4])} {c:Code} (hc:c=q9T) (hret: ∀st,Q .ret st=qC tt true [i4] [.tmp 2] st) (h0:Q (.exit 0) ⟨[u,u,u,u,u,u,u,u,u,u,u,u,u,u,u,u,u,u,u,u,u,u,u,u,u,u,u,u,u,u,u,u,u,u,u,u,u],[]⟩=k0 ()): ∀(n:Nat) (v3:Int),qD (qf tt qpC (qdj N) c) false qui Q n ⟨[u,.one (.ptr 0 0 0),u,u,u,u,u,u,u,u,u,u,u,u,u,u,u,u,u,u,.one (.sl 33 Y33 v1 1),.one (.int .i64 v2),.one (.int .i64 v3),u,u,u,u,u,u,u,u,u,u,u,u,u,u],[.box [.int .i64 v4,.sl 33 Y33 v5 1]]⟩=qh0 N v1 v2 v4 v5 k0 n v3:=by
 subst hc;intro n;induction n with
 | zero=>intros;rfl
 | succ n ih=>
   intro v3
   rw [qN,zmy,qh0];unfold Tryz.f124
   simp (maxSteps:=10000000) -implicitDefEqProofs [qRx,qnq,qJY,qtt,qUU,qwe,qLu,qvl,qLy,quc,qP4,qWm,qNs,q3i,qIo,qVe,qZA,qUL,qVS,qaB,hret,h0,ih]
theorem zdI (N:Nat) (v0:Val Y50):qf tt qpC (qdj N) (Tryz.f124.body.getD .skip) (qm tt true [i4] [.tmp 2]) (qp [i50] 37 (v0,()))=qzT N v0:=by
 unfold Tryz.f124
 simp (maxSteps:=10000000) -implicitDefEqProofs [qRx,qnq,qJY,qtt,qUU,qwe,qLu,qvl,qLy,quc,qP4,qWm,qNs,q3i,qIo,qVe,qZA,qUL,qVS,qaB]
 rewrite [zqS (k0:=(fun (_:Unit)=>some (true,()))) N _ _ _ _ ?_ ?_ ?_]
 ·rewrite [qzT];first | rfl | simp (maxSteps:=10000000) -implicitDefEqProofs []
 ·rfl
 ·intro;simp only [qK,qL,qJ,qB]
 ·simp (maxSteps:=10000000) -implicitDefEqProofs [qRx,qnq,qJY,qtt,qUU,qwe,qLu,qvl,qLy,quc,qP4,qWm,qNs,q3i,qIo,qVe,qZA,qUL,qVS,qaB]
def qaX:G:={ps:=[i50],rs:=[i4],dp:=true,pre:=fun x=>qbs x.1,fn:=fun x=>(q7 x.1,())}
def qbW:G:={ps:=[i50],rs:=[i4],dp:=true,pre:=fun _=>True,fn:=fun x=>(q7 x.1,())}
def qag (r:Val Y50) (c:Val Y33):Val Y50×Bool:=bif (qU c).2 then (bif qbM (qU c).1 then (r,true)else (bif decide (12≤(List.length (α:=Val Y33) r.2:Int))then (r,false)else ((r.1,(r.2:List (Val Y33))++[(qU c).1]),true)))else (r,false)
def qkt (r:Val Y50) (c:Val Y33):Val Y50:=(qag r c).1
def qyj (r:Val Y50) (c:Val Y33):Bool:=(qag r c).2
def qkD (r:Val Y50) (_:Val Y33):Prop:=List.length (α:=Val Y33) r.2≤12
def qeP:Gb:={t:=i50,ps:=[i33],rs:=[i4],pre:=fun v x=>qkD v x.1,fv:=fun v x=>qkt v x.1,fn:=fun v x=>(qyj v x.1,())}
noncomputable def qAV (N:Nat) (v0:Val Y50) (v1:Val Y33):Option (Val Y50×qc [i4]):=bif (!((qU v1).2:Bool))then (some (v0,(false,())))else (chk (qlW ((((qU v1).1).1:Int),(((qU v1).1).2:List (Val qa)))) (bif ((qbM ((((qU v1).1).1:Int),(((qU v1).1).2:List (Val qa)))):Bool)then (some (v0,(true,())))else (bif (decide ((12:Int)≤((v0.2:List (Val Y33)).length:Int)))then (some (v0,(false,())))else (chk ((v0.2:List (Val Y33)).length+([((((qU v1).1).1:Int),(((qU v1).1).2:List (Val qa)))]:List (Val Y33)).length≤1048576) (some (((v0.1:Int),((v0.2:List (Val Y33))++([((((qU v1).1).1:Int),(((qU v1).1).2:List (Val qa)))]:List (Val Y33)))),(true,())))))))
def qCK:Gam:=[(138,qg7),(240,qgK)]
theorem zyM:Gam.get qCK 138=some qg7:=rfl
theorem zkW:Gam.get qCK 240=some qgK:=rfl
def qAc:Nm:=⟨[],[],false⟩
theorem zyj:qAc.zero=false:=rfl
theorem zf3:qAc.fix=[]:=rfl
theorem ziV:qAc.keep=[]:=rfl
def qEz:Nat→Tree:=fun i=>if i=8 then .quiet 5 (.first 0 (.first 1 (.alt 2 (.alt 3 (.alt 4 (.alt 6 (.alt 7 (.quiet 8 (.quiet 9 (.alt 10 .done .stop))) .stop) .stop) (.alt 6 (.quiet 4 (.alt 7 (.quiet 8 (.quiet 9 (.alt 10 .done .stop))) .stop)) .stop)) (.alt 6 (.quiet 3 (.quiet 4 (.alt 7 (.quiet 8 (.quiet 9 (.alt 10 .done .stop))) .stop))) .stop)) (.alt 6 (.quiet 2 (.quiet 3 (.quiet 4 (.alt 7 (.quiet 8 (.quiet 9 (.alt 10 .done .stop))) .stop)))) .stop))))else .done
def qVX:Nat→Nm:=fun _=>⟨[],[],false⟩
def qIw:Nat→Option Jn:=fun _=>none
def qKI:Nat→Option Nm:=fun _=>none
def q4J:Nat→Option Nm:=fun i=>if i=8 then some qAc else none
theorem zwF:qh qEz (Tryz.f222.body.getD .skip)=true:=by kernel_rfl
def qfD (N:Nat):Tab:={tr:=qEz,lp:=qVX,ex:=qKI,rg:=q4J,jn:=qIw,fuel:=N,pins:=true}
theorem zrB (N:Nat):(qfD N).pins=true:=rfl
theorem zia (N:Nat):qk Tryz.prog (qfD N):=qo fun _=>rfl
theorem zlU (N:Nat) (i:Nat):(qfD N).tr i=qEz i:=rfl
theorem zl7 (N:Nat) (i:Nat):(qfD N).lp i=qVX i:=rfl
theorem zkN (N:Nat) (i:Nat):(qfD N).ex i=qKI i:=rfl
theorem zjR (N:Nat) (i:Nat):(qfD N).rg i=q4J i:=rfl
theorem zl2 (N:Nat) (i:Nat):(qfD N).jn i=qIw i:=rfl
theorem zwn (N:Nat):(qfD N).fuel=N:=rfl
theorem zgT (N:Nat) (v0:Val Y50) (v1:Val Y33):qf tt qCK (qfD N) (Tryz.f222.body.getD .skip) (qc8 (qub tt i50 [i4] [.tmp 4])) (qwG i50 [i33] 32 v0 (v1,()))=qAV N v0 v1:=by
 rw [qAV];unfold Tryz.f222
 simp (maxSteps:=10000000) -implicitDefEqProofs [zlU,qEz,zl7,qVX,zkN,qKI,zjR,q4J,zl2,qIw,zwn,zrB,qB,zvu,zf3,ziV,zyj,zyM,zkW,qg7,qgK]
 try rfl
def qa1 (r:Val Y50) (c:Val Y33):Val Y50×Bool:=bif (qaj (qv c.1 c.2)).2 then (bif qbM (qaj (qv c.1 c.2)).1 then (r,true)else ((r.1,(r.2:List (Val Y33))++[(qaj (qv c.1 c.2)).1]),decide ((List.length (α:=Val Y33) r.2:Int)+1≤12)))else qa5
def qfp (r:Val Y50) (c:Val Y33):Prop:=qz c=true∧List.length (α:=Val Y33) r.2≤12
def qdM:G:={ps:=[i50,i33],rs:=[i50,i4],dp:=false,pre:=fun x=>qfp x.1 x.2.1,fn:=fun x=>((qa1 x.1 x.2.1).1,(qa1 x.1 x.2.1).2,())}
noncomputable def qoJ (N:Nat) (v0:Val Y50) (v1:Val Y33):Option (qc [i50,i4]):=chk (qaF (v1.1:Int) (v1.2:List (Val qa))) (chk (qne (qv (v1.1:Int) (v1.2:List (Val qa)))) (bif (!((qaj (qv (v1.1:Int) (v1.2:List (Val qa)))).2:Bool))then (some (((0:Int),([]:List (Val Y33))),false,()))else (bif (decide ((16:Int)<((((qaj (qv (v1.1:Int) (v1.2:List (Val qa)))).1).2:List (Val qa)).length:Int)))then (some (((0:Int),([]:List (Val Y33))),false,()))else (bif (decide (((((qaj (qv (v1.1:Int) (v1.2:List (Val qa)))).1).2:List (Val qa)).length:Int)=(1:Int)))then (chk (0≤(0:Int)∧(0:Int)<((((qaj (qv (v1.1:Int) (v1.2:List (Val qa)))).1).2:List (Val qa)).length:Int)) (chk ((0:Int).toNat<(((qaj (qv (v1.1:Int) (v1.2:List (Val qa)))).1).2:List (Val qa)).length) (chk (qgY ((((qaj (qv (v1.1:Int) (v1.2:List (Val qa)))).1).2:List (Val qa)).getD ((0:Int).toNat) (qb qa))) (bif ((qbJ ((((qaj (qv (v1.1:Int) (v1.2:List (Val qa)))).1).2:List (Val qa)).getD ((0:Int).toNat) (qb qa))):Bool)then (some (v0,true,()))else (chk (([]:List (Val Y33)).length+(v0.2:List (Val Y33)).length≤1048576) (chk ((([]:List (Val Y33))++(v0.2:List (Val Y33))).length+([((((qaj (qv (v1.1:Int) (v1.2:List (Val qa)))).1).1:Int),(((qaj (qv (v1.1:Int) (v1.2:List (Val qa)))).1).2:List (Val qa)))]:List (Val Y33)).length≤1048576) (some (((v0.1:Int),((([]:List (Val Y33))++(v0.2:List (Val Y33)))++([((((qaj (qv (v1.1:Int) (v1.2:List (Val qa)))).1).1:Int),(((qaj (qv (v1.1:Int) (v1.2:List (Val qa)))).1).2:List (Val qa)))]:List (Val Y33)))),(decide ((((([]:List (Val Y33))++(v0.2:List (Val Y33)))++([((((qaj (qv (v1.1:Int) (v1.2:List (Val qa)))).1).1:Int),(((qaj (qv (v1.1:Int) (v1.2:List (Val qa)))).1).2:List (Val qa)))]:List (Val Y33))).length:Int)≤(12:Int))),()))))))))else (chk (([]:List (Val Y33)).length+(v0.2:List (Val Y33)).length≤1048576) (chk ((([]:List (Val Y33))++(v0.2:List (Val Y33))).length+([((((qaj (qv (v1.1:Int) (v1.2:List (Val qa)))).1).1:Int),(((qaj (qv (v1.1:Int) (v1.2:List (Val qa)))).1).2:List (Val qa)))]:List (Val Y33)).length≤1048576) (some (((v0.1:Int),((([]:List (Val Y33))++(v0.2:List (Val Y33)))++([((((qaj (qv (v1.1:Int) (v1.2:List (Val qa)))).1).1:Int),(((qaj (qv (v1.1:Int) (v1.2:List (Val qa)))).1).2:List (Val qa)))]:List (Val Y33)))),(decide ((((([]:List (Val Y33))++(v0.2:List (Val Y33)))++([((((qaj (qv (v1.1:Int) (v1.2:List (Val qa)))).1).1:Int),(((qaj (qv (v1.1:Int) (v1.2:List (Val qa)))).1).2:List (Val qa)))]:List (Val Y33))).length:Int)≤(12:Int))),()))))))))
def qyi:Gam:=[(150,qai),(217,qcS),(229,qcj)]
theorem zn3:Gam.get qyi 150=some qai:=rfl
theorem zAL:Gam.get qyi 217=some qcS:=rfl
theorem zjt:Gam.get qyi 229=some qcj:=rfl
def qzB:Nm:=⟨[false,false,false,false,true,false,false,false,true],[],false⟩
theorem zdw:qzB.zero=false:=rfl
theorem zvD:qzB.fix=[]:=rfl
theorem zo1:qzB.keep=[false,false,false,false,true,false,false,false,true]:=rfl
def qF7:Nm:=⟨[false,false,false,false,true,true],[],false⟩
theorem zmo:qF7.zero=false:=rfl
theorem zzJ:qF7.fix=[]:=rfl
theorem zj0:qF7.keep=[false,false,false,false,true,true]:=rfl
def qHo:Nat→Tree:=fun i=>if i=6 then .keep 0 (.keep 1 (.keep 3 (.keep 4 (.keep 6 (.alt 2 (.alt 5 (.alt 7 (.alt 8 (.first 9 (.alt 10 (.alt 11 .done .stop) .stop)) (.alt 10 (.alt 8 (.quiet 9 (.alt 11 .done .stop)) .stop) .stop)) (.alt 10 (.alt 7 (.alt 8 (.quiet 9 (.alt 11 .done .stop)) .stop) .stop) .stop)) (.alt 7 (.alt 5 (.alt 8 (.first 9 (.alt 10 (.alt 11 .done .stop) .stop)) (.alt 10 (.alt 8 (.quiet 9 (.alt 11 .done .stop)) .stop) .stop)) (.alt 10 (.alt 5 (.alt 8 (.quiet 9 (.alt 11 .done .stop)) .stop) .stop) .stop)) (.alt 10 (.alt 5 (.alt 7 (.alt 8 (.quiet 9 (.alt 11 .done .stop)) .stop) .stop) (.alt 7 (.alt 5 (.alt 8 (.quiet 9 (.alt 11 .done .stop)) .stop) .stop) .stop)) .stop))) (.alt 7 (.alt 2 (.alt 5 (.alt 8 (.first 9 (.alt 10 (.alt 11 .done .stop) .stop)) (.alt 10 (.alt 8 (.quiet 9 (.alt 11 .done .stop)) .stop) .stop)) (.alt 10 (.alt 5 (.alt 8 (.quiet 9 (.alt 11 .done .stop)) .stop) .stop) .stop)) (.alt 10 (.alt 2 (.alt 5 (.alt 8 (.quiet 9 (.alt 11 .done .stop)) .stop) .stop) .stop) .stop)) (.alt 10 (.alt 2 (.alt 5 (.alt 7 (.alt 8 (.quiet 9 (.alt 11 .done .stop)) .stop) .stop) (.alt 7 (.alt 5 (.alt 8 (.quiet 9 (.alt 11 .done .stop)) .stop) .stop) .stop)) (.alt 7 (.alt 2 (.alt 5 (.alt 8 (.quiet 9 (.alt 11 .done .stop)) .stop) .stop) .stop) .stop)) .stop)))))))else if i=7 then .quiet 0 (.alt 1 (.alt 2 (.alt 3 (.first 4 (.alt 5 (.quiet 6 .done) .stop)) (.alt 5 (.quiet 3 (.quiet 4 (.quiet 6 .done))) .stop)) (.alt 5 (.quiet 2 (.quiet 3 (.quiet 4 (.quiet 6 .done)))) .stop)) (.alt 5 (.quiet 1 (.quiet 2 (.quiet 3 (.quiet 4 (.quiet 6 .done))))) .stop))else .done
def qTy:Nat→Nm:=fun _=>⟨[],[],false⟩
def qNy:Nat→Option Jn:=fun _=>none
def qYC:Nat→Option Nm:=fun _=>none
def qWA:Nat→Option Nm:=fun i=>if i=6 then some qzB else if i=7 then some qF7 else none
theorem zxs:qh qHo (Tryz.f143.body.getD .skip)=true:=by kernel_rfl
def qfh (N:Nat):Tab:={tr:=qHo,lp:=qTy,ex:=qYC,rg:=qWA,jn:=qNy,fuel:=N}
theorem zkT (N:Nat):(qfh N).pins=false:=rfl
theorem zkb (N:Nat):qk Tryz.prog (qfh N):=qo fun _=>rfl
theorem zgl (N:Nat) (i:Nat):(qfh N).tr i=qHo i:=rfl
theorem ztL (N:Nat) (i:Nat):(qfh N).lp i=qTy i:=rfl
theorem zfP (N:Nat) (i:Nat):(qfh N).ex i=qYC i:=rfl
theorem zpn (N:Nat) (i:Nat):(qfh N).rg i=qWA i:=rfl
theorem zcc (N:Nat) (i:Nat):(qfh N).jn i=qNy i:=rfl
theorem zlt (N:Nat):(qfh N).fuel=N:=rfl
theorem zyt (N:Nat) (v0:Val Y50) (v1:Val Y33):qf tt qyi (qfh N) (Tryz.f143.body.getD .skip) (qm tt false [i50,i4] [.cell 4 50,.tmp 5]) (qp [i50,i33] 54 (v0,v1,()))=qoJ N v0 v1:=by
 rw [qoJ];unfold Tryz.f143
 simp (maxSteps:=10000000) -implicitDefEqProofs [zgl,qHo,ztL,qTy,zfP,qYC,zpn,qWA,zcc,qNy,zlt,zkT,zvD,zo1,zdw,zzJ,zj0,zmo,zn3,zAL,zjt,qai,qcS,qcj]
 try rfl
end Go.T
