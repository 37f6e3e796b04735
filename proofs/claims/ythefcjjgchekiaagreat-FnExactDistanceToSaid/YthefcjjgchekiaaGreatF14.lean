/- The law of DistanceTo. -/
import Derived.Test.YthefcjjgchekiaaGreatF1
import Derived.Test.YthefcjjgchekiaaGreatE37
set_option linter.unusedSimpArgs false
set_option linter.unusedVariables false
namespace Go.T
open Go Go.Proofs
set_option maxHeartbeats 4000000
set_option maxRecDepth 100000
def qvt (x:List (Val Y68)) (n:Int):Int:=szV (.slice 68 Y68) x n
def qD2 (x:List (Val Y68)) (n:Int):Prop:=qiE (.slice 68 Y68) x n
noncomputable def m31 (N:Nat) (v0:List (Val Y68)) (v1:Int):Option (qc [i3]):=bif (decide ((IntKind.i64.wrap (v1 - (v0.length:Int)))<(0:Int)))then (some ((-1:Int),()))else (some ((IntKind.i64.wrap (v1 - (v0.length:Int))),()))
def Γ31:Gam:=[]
def qzx:Nat→Tree:=fun _=> .done
def qFx:Nat→Nm:=fun _=>⟨[],[],false⟩
def qIf:Nat→Option Jn:=fun _=>none
def qG2:Nat→Option Nm:=fun _=>none
def qRU:Nat→Option Nm:=fun _=>none
theorem p31:qn qzx (Tryz.f31.body.getD .skip)=true:=by kernel_rfl
def T31 (N:Nat):Tab:={tr:=qzx,lp:=qFx,ex:=qG2,rg:=qRU,jn:=qIf,fuel:=N}
theorem zne (N:Nat):(T31 N).pins=false:=rfl
theorem zlr (N:Nat):qp Tryz.prog (T31 N):=qv fun _=>rfl
theorem zja (N:Nat) (i:Nat):(T31 N).tr i=qzx i:=rfl
theorem zeK (N:Nat) (i:Nat):(T31 N).lp i=qFx i:=rfl
theorem zmg (N:Nat) (i:Nat):(T31 N).ex i=qG2 i:=rfl
theorem zkf (N:Nat) (i:Nat):(T31 N).rg i=qRU i:=rfl
theorem zdz (N:Nat) (i:Nat):(T31 N).jn i=qIf i:=rfl
theorem zlq (N:Nat):(T31 N).fuel=N:=rfl
theorem zhJ (N:Nat) (v0:List (Val Y68)) (v1:Int):qe tt Γ31 (T31 N) (Tryz.f31.body.getD .skip) (qt tt true [i3] [.tmp 4]) (qw [i43,i3] 12 (v0,v1,()))=m31 N v0 v1:=by
 rw [m31];unfold Tryz.f31
 simp (maxSteps:=10000000) -implicitDefEqProofs [zja,qzx,zeK,qFx,zmg,qG2,zkf,qRU,zdz,qIf,zlq,zne]
 try rfl
def g31:G:={ps:=[i43,i3],rs:=[i3],dp:=true,pre:=fun x=>qD2 x.1 x.2.1,fn:=fun x=>(qvt x.1 x.2.1,())}
theorem q2e: ∀(xs:List (Val Y68)) (n:Int),0≤n→szL (szV Y68) xs n=n
 | [],_,_=>rfl
 | x::r,n,h=>by
   have e:szV Y68 x n=n:=by
    obtain ⟨x0,x1⟩:=x
    rw [qyY h]
    rfl
   simp only [szL,e]
   rw [if_neg (by omega)]
   exact q2e r n h
theorem e31 (x:List (Val Y68)) (n:Int) (h:qD2 x n): ∃N,m31 N x n=some (qvt x n,()):=⟨0,by
 obtain ⟨hs,h0,h1⟩:=h
 rw [m31,qB7 h0 h1 hs.1]
 simp only [qvt,qxy]
 by_cases c:n - (List.length x:Int)<0
 ·rw [qk c,if_pos c]
 ·rw [qj c,if_neg c,q2e _ _ (by omega)]⟩
theorem s31:Sound Tryz.prog 31 g31:=qx (tt:=tt) (Γ:=Γ31) hT qu hm (fn:=Tryz.f31) Tryz.func31 (c:=Tryz.f31.body.getD .skip) (by kernel_rfl) (by kernel_rfl) fun x hx=>by
 obtain ⟨N,h⟩:=e31 x.1 x.2.1 hx
 exact ⟨T31 N,p31,qy _,zlr N,(zhJ N x.1 x.2.1).trans h⟩
def qC4 (x:Val Y68):Val Y28:=x
def qzD (x:Val Y68):Prop:=Bd Y68 x
noncomputable def m51 (N:Nat) (v0:Val Y68):Option (qc [i28]):=some (v0,())
def Γ51:Gam:=[]
def qB2:Nat→Tree:=fun _=> .done
def qJy:Nat→Nm:=fun _=>⟨[],[],false⟩
def qQe:Nat→Option Jn:=fun _=>none
def qNe:Nat→Option Nm:=fun _=>none
def qJQ:Nat→Option Nm:=fun _=>none
theorem p51:qn qB2 (Tryz.f51.body.getD .skip)=true:=by kernel_rfl
def T51 (N:Nat):Tab:={tr:=qB2,lp:=qJy,ex:=qNe,rg:=qJQ,jn:=qQe,fuel:=N}
theorem zlt (N:Nat):(T51 N).pins=false:=rfl
theorem zje (N:Nat):qp Tryz.prog (T51 N):=qv fun _=>rfl
theorem zqR (N:Nat) (i:Nat):(T51 N).tr i=qB2 i:=rfl
theorem zmH (N:Nat) (i:Nat):(T51 N).lp i=qJy i:=rfl
theorem zqF (N:Nat) (i:Nat):(T51 N).ex i=qNe i:=rfl
theorem zaM (N:Nat) (i:Nat):(T51 N).rg i=qJQ i:=rfl
theorem zqt (N:Nat) (i:Nat):(T51 N).jn i=qQe i:=rfl
theorem zhN (N:Nat):(T51 N).fuel=N:=rfl
theorem zcC (N:Nat) (v0:Val Y68):qe tt Γ51 (T51 N) (Tryz.f51.body.getD .skip) (qt tt true [i28] [.cell 2 28]) (qw [i68] 11 (v0,()))=m51 N v0:=by
 rw [m51];unfold Tryz.f51
 simp (maxSteps:=10000000) -implicitDefEqProofs [zqR,qB2,zmH,qJy,zqF,qNe,zaM,qJQ,zqt,qQe,zhN,zlt]
 try rfl
def g51:G:={ps:=[i68],rs:=[i28],dp:=true,pre:=fun x=>qzD x.1,fn:=fun x=>(qC4 x.1,())}
theorem e51 (x:Val Y68) (h:qzD x): ∃N,m51 N x=some (qC4 x,()):=⟨0,by
 obtain ⟨s0,s1⟩:=h
 rw [m51]
 rfl⟩
theorem s51:Sound Tryz.prog 51 g51:=qx (tt:=tt) (Γ:=Γ51) hT qu hm (fn:=Tryz.f51) Tryz.func51 (c:=Tryz.f51.body.getD .skip) (by kernel_rfl) (by kernel_rfl) fun x hx=>by
 obtain ⟨N,h⟩:=e51 x.1 hx
 exact ⟨T51 N,p51,qy _,zje N,(zcC N x.1).trans h⟩
def qaL (x:List (Val Y68)):List (Val Y28):=x
def qnj (x:List (Val Y68)):Prop:=Bd (.slice 68 Y68) x
noncomputable def qjt (N:Nat) (v1:List (Val Y68)) (k0:(List (Val Y28))→Option (qc [i52])):Nat→Int→(List (Val Y28))→Option (qc [i52])
 | 0,_,_=>none
 | n+1,v2,v3=>bif (decide (v2<(v1.length:Int)))then (chk (0≤v2∧v2<(v1.length:Int)) (chk (qzD (v1.getD v2.toNat (qb Y68))) (chk (0≤v2∧v2<(v3.length:Int)) (chk (v2.toNat<v3.length) (qjt N v1 k0 n (IntKind.i64.wrap (v2+(1:Int))) (v3.set v2.toNat (((qC4 (v1.getD v2.toNat (qb Y68))).1:Int),((qC4 (v1.getD v2.toNat (qb Y68))).2:Int))))))))else (k0 v3)
noncomputable def m34 (N:Nat) (v0:List (Val Y68)):Option (qc [i52]):=chk (0≤(v0.length:Int)∧(v0.length:Int)≤(v0.length:Int)∧(v0.length:Int)≤1048576) (qjt N v0 (fun (v5:List (Val Y28))=>some (v5,())) N (0:Int) (List.replicate (v0.length:Int).toNat (qb Y28)))
def Γ34:Gam:=[(51,g51)]
theorem qNa:Gam.get Γ34 51=some g51:=rfl
def qtR:Nm:=⟨[true,false,false,true,true],[],false⟩
theorem qVm:qtR.zero=false:=rfl
theorem qRB:qtR.fix=[]:=rfl
theorem qIi:qtR.keep=[true,false,false,true,true]:=rfl
def qyH:Nm:=⟨[false,false,false,true],[],false⟩
theorem qUW:qyH.zero=false:=rfl
theorem qLF:qyH.fix=[]:=rfl
theorem qG9:qyH.keep=[false,false,false,true]:=rfl
def qoz:Nat→Tree:=fun _=> .done
def qvr:Nat→Nm:=fun i=>if i=3 then qtR else ⟨[],[],false⟩
def qwn:Nat→Option Jn:=fun _=>none
def qrF:Nat→Option Nm:=fun i=>if i=0 then some qyH else none
def qpT:Nat→Option Nm:=fun _=>none
theorem p34:qn qoz (Tryz.f34.body.getD .skip)=true:=by kernel_rfl
def T34 (N:Nat):Tab:={tr:=qoz,lp:=qvr,ex:=qrF,rg:=qpT,jn:=qwn,fuel:=N}
theorem qF2 (N:Nat):(T34 N).pins=false:=rfl
theorem q9C (N:Nat):qp Tryz.prog (T34 N):=qv fun _=>rfl
theorem qGC (N:Nat) (i:Nat):(T34 N).tr i=qoz i:=rfl
theorem qVI (N:Nat) (i:Nat):(T34 N).lp i=qvr i:=rfl
theorem qNL (N:Nat) (i:Nat):(T34 N).ex i=qrF i:=rfl
theorem qWp (N:Nat) (i:Nat):(T34 N).rg i=qpT i:=rfl
theorem qKk (N:Nat) (i:Nat):(T34 N).jn i=qwn i:=rfl
theorem qXx (N:Nat):(T34 N).fuel=N:=rfl
noncomputable def q3k:Code:=cut [true,true,false,true,true,true] (Tryz.f34.body.getD .skip)
theorem q7r {N:Nat} {Q:X→St→Option (qc [i52])} {e:List LV} {h:List Blk}:qe tt Γ34 (T34 N) q3k Q ⟨e,h⟩=qe tt Γ34 (T34 N) (cut [true,true,false,true,true,true] (Tryz.f34.body.getD .skip)) Q ⟨e,h⟩:=rfl
theorem zqo (N:Nat) (v1:List (Val Y68)) {k0:(List (Val Y28))→Option (qc [i52])} {Q:X→St→Option (qc [i52])} {c:Code} (hc:c=q3k) (hret: ∀st,Q .ret st=qI tt true [i52] [.tmp 2] st) (h0: ∀(v4:List (Val Y28)),Q (.exit 0) ⟨[u,u,u,.one (.own 0),u,u,u,u,u,u,u,u,u,u,u,u,u,u,u,u,u,u,u],[.row 28 Y28 v4 true true 0]⟩=k0 v4): ∀(n:Nat) (v2:Int) (v3:List (Val Y28)),qE (qe tt Γ34 (T34 N) c) false qtR Q n ⟨[.one (.sl 68 Y68 v1 1),u,u,.one (.own 0),.one (.int .i64 v2),u,u,u,u,u,u,u,u,u,u,u,u,u,u,u,u,u,u],[.row 28 Y28 v3 true true 0]⟩=qjt N v1 k0 n v2 v3:=by
 subst hc;intro n;induction n with
 | zero=>intros;rfl
 | succ n ih=>
   intro v2 v3
   rw [qN,q7r,qjt];unfold Tryz.f34
   simp (maxSteps:=10000000) -implicitDefEqProofs [qGC,qoz,qVI,qvr,qNL,qrF,qWp,qpT,qKk,qwn,qXx,qF2,qRB,qIi,qVm,qLF,qG9,qUW,qNa,g51,hret,h0,ih]
theorem q5m (N:Nat) (v0:List (Val Y68)):qe tt Γ34 (T34 N) (Tryz.f34.body.getD .skip) (qt tt true [i52] [.tmp 2]) (qw [i43] 23 (v0,()))=m34 N v0:=by
 unfold Tryz.f34
 simp (maxSteps:=10000000) -implicitDefEqProofs [qGC,qoz,qVI,qvr,qNL,qrF,qWp,qpT,qKk,qwn,qXx,qF2,qRB,qIi,qVm,qLF,qG9,qUW,qNa,g51]
 rewrite [zqo (k0:=(fun (v5:List (Val Y28))=>some (v5,()))) N _ ?_ ?_ ?_]
 ·rewrite [m34];first | rfl | simp (maxSteps:=10000000) -implicitDefEqProofs []
 ·rfl
 ·intro;simp only [qJ,qL,qK,qB]
 ·intro v5;simp (maxSteps:=10000000) -implicitDefEqProofs [qGC,qoz,qVI,qvr,qNL,qrF,qWp,qpT,qKk,qwn,qXx,qF2,qRB,qIi,qVm,qLF,qG9,qUW,qNa,g51]
def g34:G:={ps:=[i43],rs:=[i52],dp:=true,pre:=fun x=>qnj x.1,fn:=fun x=>(qaL x.1,())}
theorem e34 (x:List (Val Y68)) (h:qnj x): ∃N,m34 N x=some (qaL x,()):=⟨List.length x+1,by
 rw [m34,qd (qiq h.1),Int.toNat_natCast]
 refine qmK (F:=fun n i s=>qjt _ x _ n i s) (k:=fun s=>some (s,())) (qb Y28) h.1 (fun n i s hi hl=> ?_) (fun n i s hi=> ?_) _ (Nat.lt_succ_self _)
 ·rw [qjt,qk (by omega),qd (by omega),qd (show qzD _ from by rw [qF hi];exact h.2 _ (List.getElem_mem hi)),qF hi,qd (by omega),qd (by omega)]
  rfl
 ·rw [qjt,qj (by omega)]⟩
theorem s34:Sound Tryz.prog 34 g34:=qx (tt:=tt) (Γ:=Γ34) hT (qg s51 qu) hm (fn:=Tryz.f34) Tryz.func34 (c:=Tryz.f34.body.getD .skip) (by kernel_rfl) (by kernel_rfl) fun x hx=>by
 obtain ⟨N,h⟩:=e34 x.1 hx
 exact ⟨T34 N,p34,qy _,q9C N,(q5m N x.1).trans h⟩
def qcJ (x y:Val Y28):Bool:=eqV Y28 x y
def qcj (x _:Val Y28):Prop:=Bd Y28 x
noncomputable def m27 (N:Nat) (v0:Val Y28) (v1:Val Y28):Option (qc [i4]):=bif (!(decide ((v0.1:Int)=(v1.1:Int))))then (some (false,()))else (bif (!(decide ((v0.2:Int)=(v1.2:Int))))then (some (false,()))else (some (true,())))
def Γ27:Gam:=[]
def qcN:Nat→Tree:=fun _=> .done
def qeq:Nat→Nm:=fun _=>⟨[],[],false⟩
def qew:Nat→Option Jn:=fun _=>none
def qep:Nat→Option Nm:=fun _=>none
def qeV:Nat→Option Nm:=fun _=>none
theorem p27:qn qcN (Tryz.f27.body.getD .skip)=true:=by kernel_rfl
def T27 (N:Nat):Tab:={tr:=qcN,lp:=qeq,ex:=qep,rg:=qeV,jn:=qew,fuel:=N}
theorem qpM (N:Nat):(T27 N).pins=false:=rfl
theorem qw3 (N:Nat):qp Tryz.prog (T27 N):=qv fun _=>rfl
theorem qsE (N:Nat) (i:Nat):(T27 N).tr i=qcN i:=rfl
theorem qrN (N:Nat) (i:Nat):(T27 N).lp i=qeq i:=rfl
theorem qt9 (N:Nat) (i:Nat):(T27 N).ex i=qep i:=rfl
theorem qrJ (N:Nat) (i:Nat):(T27 N).rg i=qeV i:=rfl
theorem qwq (N:Nat) (i:Nat):(T27 N).jn i=qew i:=rfl
theorem qqG (N:Nat):(T27 N).fuel=N:=rfl
theorem qqa (N:Nat) (v0:Val Y28) (v1:Val Y28):qe tt Γ27 (T27 N) (Tryz.f27.body.getD .skip) (qt tt true [i4] [.tmp 4]) (qw [i28,i28] 15 (v0,v1,()))=m27 N v0 v1:=by
 rw [m27];unfold Tryz.f27
 simp (maxSteps:=10000000) -implicitDefEqProofs [qsE,qcN,qrN,qeq,qt9,qep,qrJ,qeV,qwq,qew,qqG,qpM]
 try rfl
def g27:G:={ps:=[i28,i28],rs:=[i4],dp:=true,pre:=fun x=>qcj x.1 x.2.1,fn:=fun x=>(qcJ x.1 x.2.1,())}
theorem e27 (x y:Val Y28) (h:qcj x y): ∃N,m27 N x y=some (qcJ x y,()):=⟨0,by
 obtain ⟨s0,s1⟩:=h
 rw [m27]
 obtain ⟨x0,x1⟩:=x
 obtain ⟨y0,y1⟩:=y
 change _=some ((eqV (.int .i64) x0 y0&&eqV (.int .i64) x1 y1),())
 simp only [qaG]
 show _=_
 generalize he0:eqV (.int .i64) x0 y0=e0
 have hd0:decide ((x0:Int)=y0)=e0:=he0
 generalize he1:eqV (.int .i64) x1 y1=e1
 have hd1:decide ((x1:Int)=y1)=e1:=he1
 simp only [hd0,hd1]
 cases e0<;>cases e1<;>rfl⟩
theorem s27:Sound Tryz.prog 27 g27:=qx (tt:=tt) (Γ:=Γ27) hT qu hm (fn:=Tryz.f27) Tryz.func27 (c:=Tryz.f27.body.getD .skip) (by kernel_rfl) (by kernel_rfl) fun x hx=>by
 obtain ⟨N,h⟩:=e27 x.1 x.2.1 hx
 exact ⟨T27 N,p27,qy _,qw3 N,(qqa N x.1 x.2.1).trans h⟩
def qdK (x y:List (Val Y28)):Bool:=eqV (.slice 28 Y28) x y
def qeU (x _:List (Val Y28)):Prop:=Bd (.slice 28 Y28) x
noncomputable def qct (N:Nat) (v2:List (Val Y28)) (v3:List (Val Y28)) (k0:Unit→Option (qc [i4])):Nat→Int→Option (qc [i4])
 | 0,_=>none
 | n+1,v4=>bif (decide (v4<(v2.length:Int)))then (chk (0≤v4∧v4<(v2.length:Int)) (chk (0≤v4∧v4<(v3.length:Int)) (chk (qcj (v2.getD v4.toNat (qb Y28)) (v3.getD v4.toNat (qb Y28))) (bif (!((qcJ (v2.getD v4.toNat (qb Y28)) (v3.getD v4.toNat (qb Y28))):Bool))then (some (false,()))else (qct N v2 v3 k0 n (IntKind.i64.wrap (v4+(1:Int))))))))else (k0 ())
noncomputable def m37 (N:Nat) (v0:List (Val Y28)) (v1:List (Val Y28)):Option (qc [i4]):=bif (!(decide ((v0.length:Int)=(v1.length:Int))))then (some (false,()))else (qct N v0 v1 (fun (_:Unit)=>some (true,())) N (0:Int))
def Γ37:Gam:=[(27,g27)]
theorem qmi:Gam.get Γ37 27=some g27:=rfl
def qeE:Nm:=⟨[true,true,false,false,false,true],[],false⟩
theorem qki:qeE.zero=false:=rfl
theorem qlV:qeE.fix=[]:=rfl
theorem qkk:qeE.keep=[true,true,false,false,false,true]:=rfl
def qh0:Nm:=⟨[],[],false⟩
theorem qlz:qh0.zero=false:=rfl
theorem qkB:qh0.fix=[]:=rfl
theorem qmp:qh0.keep=[]:=rfl
def qdS:Nat→Tree:=fun i=>if i=6 then .quiet 0 (.quiet 1 (.quiet 2 (.quiet 3 (.quiet 4 (.quiet 5 (.quiet 6 (.quiet 7 (.alt 8 (.quiet 9 .done) .stop))))))))else .done
def qev:Nat→Nm:=fun i=>if i=4 then qeE else ⟨[],[],false⟩
def qe0:Nat→Option Jn:=fun _=>none
def qet:Nat→Option Nm:=fun i=>if i=0 then some qh0 else none
def qeX:Nat→Option Nm:=fun _=>none
theorem p37:qn qdS (Tryz.f37.body.getD .skip)=true:=by kernel_rfl
def T37 (N:Nat):Tab:={tr:=qdS,lp:=qev,ex:=qet,rg:=qeX,jn:=qe0,fuel:=N}
theorem qmu (N:Nat):(T37 N).pins=false:=rfl
theorem qTK (N:Nat):qp Tryz.prog (T37 N):=qv fun _=>rfl
theorem qkZ (N:Nat) (i:Nat):(T37 N).tr i=qdS i:=rfl
theorem qlX (N:Nat) (i:Nat):(T37 N).lp i=qev i:=rfl
theorem qkx (N:Nat) (i:Nat):(T37 N).ex i=qet i:=rfl
theorem qml (N:Nat) (i:Nat):(T37 N).rg i=qeX i:=rfl
theorem qkL (N:Nat) (i:Nat):(T37 N).jn i=qe0 i:=rfl
theorem qjZ (N:Nat):(T37 N).fuel=N:=rfl
noncomputable def qww:Code:=cut [true,true,false,true,true,true] (Tryz.f37.body.getD .skip)
theorem qTA {N:Nat} {Q:X→St→Option (qc [i4])} {e:List LV} {h:List Blk}:qe tt Γ37 (T37 N) qww Q ⟨e,h⟩=qe tt Γ37 (T37 N) (cut [true,true,false,true,true,true] (Tryz.f37.body.getD .skip)) Q ⟨e,h⟩:=rfl
theorem qPu (N:Nat) (v2:List (Val Y28)) (v3:List (Val Y28)) {k0:Unit→Option (qc [i4])} {Q:X→St→Option (qc [i4])} {c:Code} (hc:c=qww) (hret: ∀st,Q .ret st=qI tt true [i4] [.tmp 4] st) (h0:Q (.exit 0) ⟨[u,u,u,u,u,u,u,u,u,u,u,u,u,u,u,u,u,u,u,u,u,u,u,u,u,u,u],[]⟩=k0 ()): ∀(n:Nat) (v4:Int),qE (qe tt Γ37 (T37 N) c) false qeE Q n ⟨[.one (.sl 28 Y28 v2 0),.one (.sl 28 Y28 v3 0),u,u,u,.one (.int .i64 v4),u,u,u,u,u,u,u,u,u,u,u,u,u,u,u,u,u,u,u,u,u],[]⟩=qct N v2 v3 k0 n v4:=by
 subst hc;intro n;induction n with
 | zero=>intros;rfl
 | succ n ih=>
   intro v4
   rw [qN,qTA,qct];unfold Tryz.f37
   simp (maxSteps:=10000000) -implicitDefEqProofs [qkZ,qdS,qlX,qev,qkx,qet,qml,qeX,qkL,qe0,qjZ,qmu,qlV,qkk,qki,qkB,qmp,qlz,qmi,g27,hret,h0,ih]
theorem qNR (N:Nat) (v0:List (Val Y28)) (v1:List (Val Y28)):qe tt Γ37 (T37 N) (Tryz.f37.body.getD .skip) (qt tt true [i4] [.tmp 4]) (qw [i52,i52] 27 (v0,v1,()))=m37 N v0 v1:=by
 unfold Tryz.f37
 simp (maxSteps:=10000000) -implicitDefEqProofs [qkZ,qdS,qlX,qev,qkx,qet,qml,qeX,qkL,qe0,qjZ,qmu,qlV,qkk,qki,qkB,qmp,qlz,qmi,g27]
 rewrite [qPu (k0:=(fun (_:Unit)=>some (true,()))) N _ _ ?_ ?_ ?_]
 ·rewrite [m37];first | rfl | simp (maxSteps:=10000000) -implicitDefEqProofs []
 ·rfl
 ·intro;simp only [qJ,qL,qK,qB]
 ·simp (maxSteps:=10000000) -implicitDefEqProofs [qkZ,qdS,qlX,qev,qkx,qet,qml,qeX,qkL,qe0,qjZ,qmu,qlV,qkk,qki,qkB,qmp,qlz,qmi,g27]
def g37:G:={ps:=[i52,i52],rs:=[i4],dp:=true,pre:=fun x=>qeU x.1 x.2.1,fn:=fun x=>(qdK x.1 x.2.1,())}
theorem e37 (x y:List (Val Y28)) (h:qeU x y): ∃N,m37 N x y=some (qdK x y,()):=⟨List.length x+1,by
 rw [m37,qaG]
 rw [qdK,eqS]
 by_cases c:List.length x=List.length y
 ·rw [qk (by omega)]
  refine (qr9 (f:=eqV Y28) (xs:=x) (ys:=y) (F:=fun n i=>qct _ x y _ n i) (k:=fun _=>some (true,())) (r:=some (false,())) h.1 c (fun n i hi hi2=> ?_) (fun n i hi=> ?_) _ (Nat.lt_succ_self _)).trans qp1
  ·rw [qct,qk (by omega),qd (by omega),qd (by omega),qd (show qcj _ _ from by rw [qF hi];exact h.2 _ (List.getElem_mem hi)),qF hi,qF hi2,qaG]
   rfl
  ·rw [qct,qj (by omega)]
 ·rw [qj (by omega),qoq _ _ c]⟩
theorem s37:Sound Tryz.prog 37 g37:=qx (tt:=tt) (Γ:=Γ37) hT (qg s27 qu) hm (fn:=Tryz.f37) Tryz.func37 (c:=Tryz.f37.body.getD .skip) (by kernel_rfl) (by kernel_rfl) fun x hx=>by
 obtain ⟨N,h⟩:=e37 x.1 x.2.1 hx
 exact ⟨T37 N,p37,qy _,qTK N,(qNR N x.1 x.2.1).trans h⟩
noncomputable def m4 (N:Nat) (v0:Val Y42) (v1:List (Val Y68)):Option (qc [i4]):=chk (qm6 v0 (1048576:Int)) (bif (decide (((qeW v0 (1048576:Int)):Int)<(0:Int)))then (some (true,()))else (chk (qD2 v1 ((qeW v0 (1048576:Int)):Int)) (bif (decide (((qvt v1 ((qeW v0 (1048576:Int)):Int)):Int)<(0:Int)))then (some (true,()))else (chk (qeD v0) (chk (qnj v1) (chk (qlb (((qo v0).1:Int),((qo v0).2:List (Val Y33))) ((qaL v1):List (Val Y28))) (chk (qeD v0) (chk (qnj v1) (chk (qlb (((qo v0).1:Int),((qo v0).2:List (Val Y33))) ((qaL v1):List (Val Y28))) (chk (qcj ((((qaK (((qo v0).1:Int),((qo v0).2:List (Val Y33))) ((qaL v1):List (Val Y28))).1).1:Int),(((qaK (((qo v0).1:Int),((qo v0).2:List (Val Y33))) ((qaL v1):List (Val Y28))).1).2:Int)) ((((qaK (((qo v0).1:Int),((qo v0).2:List (Val Y33))) ((qaL v1):List (Val Y28))).1).1:Int),(((qaK (((qo v0).1:Int),((qo v0).2:List (Val Y33))) ((qaL v1):List (Val Y28))).1).2:Int))) (bif (!((qcJ ((((qaK (((qo v0).1:Int),((qo v0).2:List (Val Y33))) ((qaL v1):List (Val Y28))).1).1:Int),(((qaK (((qo v0).1:Int),((qo v0).2:List (Val Y33))) ((qaL v1):List (Val Y28))).1).2:Int)) ((((qaK (((qo v0).1:Int),((qo v0).2:List (Val Y33))) ((qaL v1):List (Val Y28))).1).1:Int),(((qaK (((qo v0).1:Int),((qo v0).2:List (Val Y33))) ((qaL v1):List (Val Y28))).1).2:Int))):Bool))then (some (false,()))else (bif (!(((qaK (((qo v0).1:Int),((qo v0).2:List (Val Y33))) ((qaL v1):List (Val Y28))).2.1:Bool)==((qaK (((qo v0).1:Int),((qo v0).2:List (Val Y33))) ((qaL v1):List (Val Y28))).2.1:Bool)))then (some (false,()))else (bif (!(((qaK (((qo v0).1:Int),((qo v0).2:List (Val Y33))) ((qaL v1):List (Val Y28))).2.2:Bool)==((qaK (((qo v0).1:Int),((qo v0).2:List (Val Y33))) ((qaL v1):List (Val Y28))).2.2:Bool)))then (some (false,()))else (chk (qeD v0) (chk (qoP (((qo v0).1:Int),((qo v0).2:List (Val Y33))) (((qo v0).1:Int),((qo v0).2:List (Val Y33)))) (bif (!((qoO (((qo v0).1:Int),((qo v0).2:List (Val Y33))) (((qo v0).1:Int),((qo v0).2:List (Val Y33)))):Bool))then (some (false,()))else (chk (qnj v1) (chk (qeU ((qaL v1):List (Val Y28)) ((qaL v1):List (Val Y28))) (bif (!((qdK ((qaL v1):List (Val Y28)) ((qaL v1):List (Val Y28))):Bool))then (some (false,()))else (some (true,())))))))))))))))))))))
def Γ4:Gam:=[(27,g27),(30,g30),(31,g31),(32,g32),(33,g33),(34,g34),(35,g35),(36,g36),(37,g37)]
theorem znu:Gam.get Γ4 27=some g27:=rfl
theorem q6x:Gam.get Γ4 30=some g30:=rfl
theorem zcV:Gam.get Γ4 31=some g31:=rfl
theorem zby:Gam.get Γ4 32=some g32:=rfl
theorem q9F:Gam.get Γ4 33=some g33:=rfl
theorem zfs:Gam.get Γ4 34=some g34:=rfl
theorem ziE:Gam.get Γ4 35=some g35:=rfl
theorem zlC:Gam.get Γ4 36=some g36:=rfl
theorem q7C:Gam.get Γ4 37=some g37:=rfl
def tr4:Nat→Tree:=fun i=>if i=14 then .quiet 1 (.alt 0 (.alt 2 (.alt 3 (.quiet 4 .done) .stop) .stop) (.alt 2 (.quiet 0 (.alt 3 (.quiet 4 .done) .stop)) .stop))else .done
def lp4:Nat→Nm:=fun _=>⟨[],[],false⟩
def jn4:Nat→Option Jn:=fun _=>none
def ex4:Nat→Option Nm:=fun _=>none
def rg4:Nat→Option Nm:=fun _=>none
theorem p4:qn tr4 (Tryz.f4.body.getD .skip)=true:=by kernel_rfl
def T4 (N:Nat):Tab:={tr:=tr4,lp:=lp4,ex:=ex4,rg:=rg4,jn:=jn4,fuel:=N}
theorem zaI (N:Nat):(T4 N).pins=false:=rfl
theorem tb4 (N:Nat):qp Tryz.prog (T4 N):=qv fun _=>rfl
theorem zqA (N:Nat) (i:Nat):(T4 N).tr i=tr4 i:=rfl
theorem q4E (N:Nat) (i:Nat):(T4 N).lp i=lp4 i:=rfl
theorem zeF (N:Nat) (i:Nat):(T4 N).ex i=ex4 i:=rfl
theorem q5a (N:Nat) (i:Nat):(T4 N).rg i=rg4 i:=rfl
theorem q4N (N:Nat) (i:Nat):(T4 N).jn i=jn4 i:=rfl
theorem zaQ (N:Nat):(T4 N).fuel=N:=rfl
theorem zcj (N:Nat) (v0:Val Y42) (v1:List (Val Y68)):qe tt Γ4 (T4 N) (Tryz.f4.body.getD .skip) (qt tt true [i4] [.tmp 4]) (qw [i42,i43] 68 (v0,v1,()))=m4 N v0 v1:=by
 rw [m4];unfold Tryz.f4
 simp (maxSteps:=10000000) -implicitDefEqProofs [zqA,tr4,q4E,lp4,zeF,ex4,q5a,rg4,q4N,jn4,zaQ,zaI,znu,q6x,zcV,zby,q9F,zfs,ziE,zlC,q7C,g27,g30,g31,g32,g33,g34,g35,g36,g37]
 try rfl
def q0f (_:Val Y42) (_:List (Val Y68)):Bool:=true
def qZJ (x0:Val Y42) (x1:List (Val Y68)):Prop:=Sms [i42,i43] (x0,x1,())
def g4:G:={ps:=[i42,i43],rs:=[i4],dp:=true,pre:=fun x=>qZJ x.1 x.2.1,fn:=fun x=>(q0f x.1 x.2.1,())}
theorem e4 (x:Val Y42) (y:List (Val Y68)) (h:qZJ x y): ∃N,m4 N x y=some (q0f x y,()):=⟨0,by
 rw [m4,qd (show qm6 x 1048576 from ⟨h.1,by omega,by omega⟩)]
 by_cases c:qeW x 1048576<0
 ·rw [qk c];rfl
 rw [qj c]
 have hsz:0≤szV Y42 x 1048576:=by have: ¬szV Y42 x 1048576<0:=c;omega
 have hle:szV Y42 x 1048576≤1048576:=(qc0 Y42 x 1048576 (by omega)).1
 have hb:Bd Y42 x:=qms Y42 x 1048576 (by omega) (by omega) hsz
 rw [qd (show qD2 y (qeW x 1048576) from ⟨h.2.1,hsz,hle⟩)]
 generalize hr:qeW x 1048576=r at*
 by_cases c2:qvt y r<0
 ·rw [qk c2];rfl
 rw [qj c2]
 have hr0:0≤r:=by omega
 have hr1:r≤1048576:=by have:szV Y42 x 1048576=r:=hr;omega
 have hy:Bd (.slice 68 Y68) y:=qms (.slice 68 Y68) y r hr0 hr1 (by have: ¬szV (.slice 68 Y68) y r<0:=c2;omega)
 have eX:((((qo x).1:Int),((qo x).2:List (Val Y33))):Val Y50)=qo x:=rfl
 have tx:qeD x:=hb
 have ty:qnj y:=hy
 have hp:qlb (qo x) (qaL y):=⟨q0Q hb,hy.1⟩
 have ex:qoP (qo x) (qo x):=hb
 have ey:qeU (qaL y) (qaL y):=hy
 have rx:qoO (qo x) (qo x)=true:=qeJ _ _
 have ry:qdK (qaL y) (qaL y)=true:=qeJ _ _
 have eq:qcj (qaK (qo x) (qaL y)).1 (qaK (qo x) (qaL y)).1:=⟨trivial,trivial⟩
 have rq:qcJ (qaK (qo x) (qaL y)).1 (qaK (qo x) (qaL y)).1=true:=qeJ _ _
 try rw [eX]
 simp only [qd tx,qd ty,qd hp,qd ex,qd ey,qd eq,rx,ry,rq,Bool.not_true,cond_false,beq_self_eq_true]
 rfl⟩
theorem s4:Sound Tryz.prog 4 g4:=qx (tt:=tt) (Γ:=Γ4) hT (qg s27 (qg s30 (qg s31 (qg s32 (qg s33 (qg s34 (qg s35 (qg s36 (qg s37 qu))))))))) hm (fn:=Tryz.f4) Tryz.func4 (c:=Tryz.f4.body.getD .skip) (by kernel_rfl) (by kernel_rfl) fun x hx=>by
 obtain ⟨N,h⟩:=e4 x.1 x.2.1 hx
 exact ⟨T4 N,p4,qy _,tb4 N,(zcj N x.1 x.2.1).trans h⟩
end Go.T
