/- Atoms: their directions, their order. -/
import Derived.Test.YthefcjjgchekiaaGreatA8a
set_option linter.unusedSimpArgs false
set_option linter.unusedVariables false
namespace Go.T
open Go Go.Proofs
set_option maxHeartbeats 4000000
set_option maxRecDepth 100000
abbrev atm (a:Val qa):Atm:=a
def okA (a:Val qa):Prop:=qG a=true
def q8 (a:Val qa):Bool:=decide (gL 0 (atm a).1≠0)
def qmV (a:Val qa):Prop:=okA a
def gSv (a:Val qa):Int:=(gS (atm a):Int)
def qf1 (a:Val qa):Prop:=okA a
def sgn (a b:Int):Int:=if a<b then -1 else if b<a then 1 else 0
def qbw (a b:Val qa):Int:=way (atm a) (atm b)
def qd2 (a b:Val qa):Prop:=okA a∧okA b∧List.length (α:=Int) a.1=List.length (α:=Int) b.1
def qmb (a b:Val qa):Int:=bif qG a&&qG b&&decide (List.length (α:=Int) a.1=List.length (α:=Int) b.1)then qaY (atm a) (atm b)else 2
theorem qvH {a:Val qa} (h:okA a): ∀x∈(a.1:List Int),inI x:=fun x hx=>by
 have h1: @LE.le Int _ (-400000000) x∧ @LE.le Int _ x 400000000:=(qbv h).2.2 x hx
 unfold inI;omega
theorem qEj {a:Val qa} (h:okA a):qgp a.1:=⟨by have:=(qbv h).1;omega,qvH h⟩
theorem qfI {a:Val qa} (h:okA a): -400000000≤(a.2.1:Int)∧ @LE.le Int _ a.2.1 400000000:=by
 have h:qG a=true:=h
 unfold qG at h
 simp only [Bool.and_eq_true,decide_eq_true_eq]at h
 exact of_decide_eq_true h.1.1.2
theorem q2O {a:Val qa} (h:okA a) (hv:q8 a=true):qjo (atm a):=by
 have h:qG a=true:=h
 unfold qG at h
 simp only [Bool.and_eq_true,decide_eq_true_eq]at h
 have h2:=h.2
 exact ⟨of_decide_eq_true hv,by have h2:((gL (Int.natAbs a.2.1) a.1:Nat):Int)≤1:=h2;show gL (Int.natAbs a.2.1) a.1≤1;omega⟩
theorem qx8 {a:Val qa} (h:okA a):gSv a≤400000000:=by
 unfold gSv gS
 by_cases h0:gL 0 (atm a).1=0
 ·rw [h0];decide
 ·obtain ⟨x,hx,hne⟩: ∃x∈(atm a).1,x≠0:=by
   apply Classical.byContradiction
   intro hn
   exact h0 (qpr.2 fun x hx=>Classical.byContradiction fun hne=>hn ⟨x,hx,hne⟩)
  have h1:=(qkJ (atm a).1 0).2 x hx
  have h2:=Nat.le_of_dvd (by omega) h1
  have h3: @LE.le Int _ (-400000000) x∧ @LE.le Int _ x 400000000:=(qbv h).2.2 x hx
  omega
theorem q9J (p q:Int):sgn p q=sgI (p - q):=by
 unfold sgn sgI
 split<;>split<;>(try split)<;>omega
theorem qiK {x y:Int} (h1: -400000000≤x∧x≤400000000) (h2:0≤y∧y≤400000000):IntKind.i64.wrap (x*y)=x*y:=by
 have h:(x*y).natAbs≤400000000*400000000:=by
  rw [Int.natAbs_mul];exact Nat.mul_le_mul (by omega) (by omega)
 exact qaq (by omega) (by omega)
def qeP:G:={ps:=[qr],rs:=[i4],dp:=true,pre:=fun x=>qmV x.1,fn:=fun x=>(q8 x.1,())}
def qhe:G:={ps:=[qr],rs:=[i3],dp:=true,pre:=fun x=>qf1 x.1,fn:=fun x=>(gSv x.1,())}
def qgZ:G:={ps:=[i3,i3],rs:=[i3],dp:=true,pre:=fun _=>True,fn:=fun x=>(sgn x.1 x.2.1,())}
noncomputable def qD1 (N:Nat) (v0:Val qa):Option (qc [i4]):=chk (qgp (v0.1:List (Val (.int .i64)))) (some ((!(decide (((qa4 (v0.1:List (Val (.int .i64)))):Int)=(0:Int)))),()))
def qKY:Gam:=[(282,qbZ)]
theorem zeo:Gam.get qKY 282=some qbZ:=rfl
def qyh:Nat→Tree:=fun _=> .done
def qVY:Nat→Nm:=fun _=>⟨[],[],false⟩
def qIK:Nat→Option Jn:=fun _=>none
def qJn:Nat→Option Nm:=fun _=>none
def qGW:Nat→Option Nm:=fun _=>none
theorem znP:qn qyh (Tryz.f287.body.getD .skip)=true:=by kernel_rfl
def qge (N:Nat):Tab:={tr:=qyh,lp:=qVY,ex:=qJn,rg:=qGW,jn:=qIK,fuel:=N}
theorem zo4 (N:Nat):(qge N).pins=false:=rfl
theorem zm1 (N:Nat):qp Tryz.prog (qge N):=qv fun _=>rfl
theorem zc8 (N:Nat) (i:Nat):(qge N).tr i=qyh i:=rfl
theorem q9y (N:Nat) (i:Nat):(qge N).lp i=qVY i:=rfl
theorem zqy (N:Nat) (i:Nat):(qge N).ex i=qJn i:=rfl
theorem zhD (N:Nat) (i:Nat):(qge N).rg i=qGW i:=rfl
theorem zik (N:Nat) (i:Nat):(qge N).jn i=qIK i:=rfl
theorem zpm (N:Nat):(qge N).fuel=N:=rfl
theorem zko (N:Nat) (v0:Val qa):qe tt qKY (qge N) (Tryz.f287.body.getD .skip) (qt tt true [i4] [.tmp 2]) (qw [qr] 7 (v0,()))=qD1 N v0:=by
 rw [qD1];unfold Tryz.f287
 simp (maxSteps:=10000000) -implicitDefEqProofs [zc8,qyh,q9y,qVY,zqy,qJn,zhD,qGW,zik,qIK,zpm,zo4,zeo,qbZ]
 try rfl
noncomputable def qDG (N:Nat) (v0:Val qa):Option (qc [i3]):=chk (qgp (v0.1:List (Val (.int .i64)))) (bif (decide (((qa4 (v0.1:List (Val (.int .i64)))):Int)=(0:Int)))then (some ((1:Int),()))else (some (((qa4 (v0.1:List (Val (.int .i64)))):Int),())))
def qF7:Gam:=[(282,qbZ)]
theorem znC:Gam.get qF7 282=some qbZ:=rfl
def qDx:Nat→Tree:=fun _=> .done
def qXM:Nat→Nm:=fun _=>⟨[],[],false⟩
def qP0:Nat→Option Jn:=fun _=>none
def qVr:Nat→Option Nm:=fun _=>none
def qTk:Nat→Option Nm:=fun _=>none
theorem zgt:qn qDx (Tryz.f318.body.getD .skip)=true:=by kernel_rfl
def qf6 (N:Nat):Tab:={tr:=qDx,lp:=qXM,ex:=qVr,rg:=qTk,jn:=qP0,fuel:=N}
theorem ziu (N:Nat):(qf6 N).pins=false:=rfl
theorem q8B (N:Nat):qp Tryz.prog (qf6 N):=qv fun _=>rfl
theorem znb (N:Nat) (i:Nat):(qf6 N).tr i=qDx i:=rfl
theorem zfu (N:Nat) (i:Nat):(qf6 N).lp i=qXM i:=rfl
theorem q7t (N:Nat) (i:Nat):(qf6 N).ex i=qVr i:=rfl
theorem zdY (N:Nat) (i:Nat):(qf6 N).rg i=qTk i:=rfl
theorem zmh (N:Nat) (i:Nat):(qf6 N).jn i=qP0 i:=rfl
theorem zci (N:Nat):(qf6 N).fuel=N:=rfl
theorem zmE (N:Nat) (v0:Val qa):qe tt qF7 (qf6 N) (Tryz.f318.body.getD .skip) (qt tt true [i3] [.tmp 2]) (qw [qr] 10 (v0,()))=qDG N v0:=by
 rw [qDG];unfold Tryz.f318
 simp (maxSteps:=10000000) -implicitDefEqProofs [znb,qDx,zfu,qXM,q7t,qVr,zdY,qTk,zmh,qP0,zci,ziu,znC,qbZ]
 try rfl
noncomputable def qEm (N:Nat) (v0:Int) (v1:Int):Option (qc [i3]):=bif (decide (v0<v1))then (some ((-1:Int),()))else (bif (decide (v1<v0))then (some ((1:Int),()))else (some ((0:Int),())))
def q38:Gam:=[]
def qzw:Nat→Tree:=fun _=> .done
def qSP:Nat→Nm:=fun _=>⟨[],[],false⟩
def qU0:Nat→Option Jn:=fun _=>none
def qRn:Nat→Option Nm:=fun _=>none
def qIH:Nat→Option Nm:=fun _=>none
theorem zq4:qn qzw (Tryz.f317.body.getD .skip)=true:=by kernel_rfl
def qgl (N:Nat):Tab:={tr:=qzw,lp:=qSP,ex:=qRn,rg:=qIH,jn:=qU0,fuel:=N}
theorem zaZ (N:Nat):(qgl N).pins=false:=rfl
theorem zpk (N:Nat):qp Tryz.prog (qgl N):=qv fun _=>rfl
theorem zgU (N:Nat) (i:Nat):(qgl N).tr i=qzw i:=rfl
theorem zdI (N:Nat) (i:Nat):(qgl N).lp i=qSP i:=rfl
theorem zaO (N:Nat) (i:Nat):(qgl N).ex i=qRn i:=rfl
theorem zeu (N:Nat) (i:Nat):(qgl N).rg i=qIH i:=rfl
theorem zid (N:Nat) (i:Nat):(qgl N).jn i=qU0 i:=rfl
theorem zhU (N:Nat):(qgl N).fuel=N:=rfl
theorem zqb (N:Nat) (v0:Int) (v1:Int):qe tt q38 (qgl N) (Tryz.f317.body.getD .skip) (qt tt true [i3] [.tmp 4]) (qw [i3,i3] 11 (v0,v1,()))=qEm N v0 v1:=by
 rw [qEm];unfold Tryz.f317
 simp (maxSteps:=10000000) -implicitDefEqProofs [zgU,qzw,zdI,qSP,zaO,qRn,zeu,qIH,zid,qU0,zhU,zaZ]
 try rfl
theorem zd9 (a:Val qa) (h:qmV a): ∃N,qD1 N a=some (q8 a,()):=⟨0,by
 rw [qD1,qd (qEj h)]
 unfold q8 qa4
 have e:(((gL 0 (atm a).1:Nat):Int)=0)↔(gL 0 (atm a).1=0):=by omega
 by_cases h0:gL 0 (atm a).1=0
 ·simp [h0]
 ·simp [h0]⟩
theorem q4L (a:Val qa) (h:qf1 a): ∃N,qDG N a=some (gSv a,()):=⟨0,by
 rw [qDG,qd (qEj h)]
 unfold gSv gS qa4
 by_cases h0:gL 0 (atm a).1=0
 ·rw [qk (by show ((gL 0 (atm a).1:Nat):Int)=0;omega),h0];rfl
 ·rw [qj (by show ¬((gL 0 (atm a).1:Nat):Int)=0;omega)]
  rw [Nat.max_eq_right (by omega)]⟩
theorem zpr (a b:Int): ∃N,qEm N a b=some (sgn a b,()):=⟨0,by
 rw [qEm,sgn]
 by_cases h1:a<b<;>by_cases h2:b<a<;>simp [h1,h2]⟩
theorem qY1:Sound Tryz.prog 287 qeP:=qx (tt:=tt) (Γ:=qKY) hT (qg qAA qu) hm (fn:=Tryz.f287) Tryz.func287 (c:=Tryz.f287.body.getD .skip) (by kernel_rfl) (by kernel_rfl) fun x hx=>by
 obtain ⟨N,h⟩:=zd9 x.1 hx
 exact ⟨qge N,znP,qy _,zm1 N,(zko N x.1).trans h⟩
theorem qY0:Sound Tryz.prog 318 qhe:=qx (tt:=tt) (Γ:=qF7) hT (qg qAA qu) hm (fn:=Tryz.f318) Tryz.func318 (c:=Tryz.f318.body.getD .skip) (by kernel_rfl) (by kernel_rfl) fun x hx=>by
 obtain ⟨N,h⟩:=q4L x.1 hx
 exact ⟨qf6 N,zgt,qy _,q8B N,(zmE N x.1).trans h⟩
theorem q0A:Sound Tryz.prog 317 qgZ:=qx (tt:=tt) (Γ:=q38) hT qu hm (fn:=Tryz.f317) Tryz.func317 (c:=Tryz.f317.body.getD .skip) (by kernel_rfl) (by kernel_rfl) fun x hx=>by
 obtain ⟨N,h⟩:=zpr x.1 x.2.1
 exact ⟨qgl N,zq4,qy _,zpk N,(zqb N x.1 x.2.1).trans h⟩
def qe1:G:={ps:=[qr,qr],rs:=[i3],dp:=true,pre:=fun x=>qd2 x.1 x.2.1,fn:=fun x=>(qbw x.1 x.2.1,())}
noncomputable def qmg (N:Nat) (v2:Int) (v3:Int) (v4:Int) (v6:List (Val (.int .i64))) (v7:Int) (v8:Bool) (v9:List (Val (.int .i64))) (v10:Int) (v11:Bool) (k0:Unit→Option (qc [i3])):Nat→Int→Option (qc [i3])
 | 0,_=>none
 | n+1,v5=>bif (decide (v5<v4))then (chk (0≤v5∧v5<(v6.length:Int)) (chk (v2≠0) (chk (0≤v5∧v5<(v9.length:Int)) (chk (v3≠0) (bif (!(decide (((sgn (IntKind.i64.wrap (((v6.getD v5.toNat (qb (.int .i64))):Int).tdiv v2)) (IntKind.i64.wrap (((v9.getD v5.toNat (qb (.int .i64))):Int).tdiv v3))):Int)=(0:Int))))then (some (((sgn (IntKind.i64.wrap (((v6.getD v5.toNat (qb (.int .i64))):Int).tdiv v2)) (IntKind.i64.wrap (((v9.getD v5.toNat (qb (.int .i64))):Int).tdiv v3))):Int),()))else (qmg N v2 v3 v4 v6 v7 v8 v9 v10 v11 k0 n (IntKind.i64.wrap (v5+(1:Int)))))))))else (k0 ())
noncomputable def qzW (N:Nat) (v0:Val qa) (v1:Val qa):Option (qc [i3]):=chk (qf1 v0) (chk (qf1 v1) (qmg N ((gSv v0):Int) ((gSv v1):Int) ((v0.1:List (Val (.int .i64))).length:Int) (v0.1:List (Val (.int .i64))) (v0.2.1:Int) (v0.2.2:Bool) (v1.1:List (Val (.int .i64))) (v1.2.1:Int) (v1.2.2:Bool) (fun (_:Unit)=>some ((0:Int),())) N (0:Int)))
def qjI:Gam:=[(317,qgZ),(318,qhe)]
theorem qKu:Gam.get qjI 317=some qgZ:=rfl
theorem qKi:Gam.get qjI 318=some qhe:=rfl
def qqB:Nm:=⟨[false,false,true,true,false,true,true,false,false,false,false,false,false,false,false,true,true],[],false⟩
theorem qVv:qqB.zero=false:=rfl
theorem qLX:qqB.fix=[]:=rfl
theorem qLQ:qqB.keep=[false,false,true,true,false,true,true,false,false,false,false,false,false,false,false,true,true]:=rfl
def qEL:Nm:=⟨[],[],false⟩
theorem qNT:qEL.zero=false:=rfl
theorem qJH:qEL.fix=[]:=rfl
theorem qIy:qEL.keep=[]:=rfl
def qER:Nm:=⟨[false,false,true,true,false,true,true],[],false⟩
theorem qXe:qER.zero=false:=rfl
theorem qMT:qER.fix=[]:=rfl
theorem qQQ:qER.keep=[false,false,true,true,false,true,true]:=rfl
def qo3:Nat→Tree:=fun i=>if i=1 then .quiet 0 (.alt 1 (.quiet 2 (.alt 3 (.quiet 4 (.quiet 5 .done)) .stop)) (.alt 2 (.alt 1 (.alt 3 (.quiet 4 (.quiet 5 .done)) .stop) .stop) .stop))else if i=5 then .quiet 0 (.quiet 1 (.quiet 2 (.quiet 3 (.quiet 4 (.quiet 5 (.quiet 6 (.quiet 7 (.quiet 8 (.quiet 9 (.quiet 10 (.quiet 11 (.quiet 12 (.quiet 13 (.alt 14 (.quiet 15 .done) .stop))))))))))))))else .done
def qp4:Nat→Nm:=fun i=>if i=3 then qqB else ⟨[],[],false⟩
def qwk:Nat→Option Jn:=fun _=>none
def qpN:Nat→Option Nm:=fun i=>if i=0 then some qEL else none
def qqR:Nat→Option Nm:=fun i=>if i=1 then some qER else none
theorem zdi:qn qo3 (Tryz.f290.body.getD .skip)=true:=by kernel_rfl
def qc1 (N:Nat):Tab:={tr:=qo3,lp:=qp4,ex:=qpN,rg:=qqR,jn:=qwk,fuel:=N}
theorem qH5 (N:Nat):(qc1 N).pins=false:=rfl
theorem zdA (N:Nat):qp Tryz.prog (qc1 N):=qv fun _=>rfl
theorem qLt (N:Nat) (i:Nat):(qc1 N).tr i=qo3 i:=rfl
theorem qMq (N:Nat) (i:Nat):(qc1 N).lp i=qp4 i:=rfl
theorem qM9 (N:Nat) (i:Nat):(qc1 N).ex i=qpN i:=rfl
theorem qUd (N:Nat) (i:Nat):(qc1 N).rg i=qqR i:=rfl
theorem qRS (N:Nat) (i:Nat):(qc1 N).jn i=qwk i:=rfl
theorem qXv (N:Nat):(qc1 N).fuel=N:=rfl
noncomputable def q14:Code:=cut [true,true,false,true,true,true] (Tryz.f290.body.getD .skip)
theorem zpq {N:Nat} {Q:X→St→Option (qc [i3])} {e:List LV} {h:List Blk}:qe tt qjI (qc1 N) q14 Q ⟨e,h⟩=qe tt qjI (qc1 N) (cut [true,true,false,true,true,true] (Tryz.f290.body.getD .skip)) Q ⟨e,h⟩:=rfl
theorem zgQ (N:Nat) (v2:Int) (v3:Int) (v4:Int) (v6:List (Val (.int .i64))) (v7:Int) (v8:Bool) (v9:List (Val (.int .i64))) (v10:Int) (v11:Bool) {k0:Unit→Option (qc [i3])} {Q:X→St→Option (qc [i3])} {c:Code} (hc:c=q14) (hret: ∀st,Q .ret st=qI tt true [i3] [.tmp 4] st) (h0:Q (.exit 0) ⟨[u,u,u,u,u,u,u,u,u,u,u,u,u,u,u,u,u,u,u,u,u,u,u,u,u,u,u,u,u,u,u,u,u,u,u,u,u,u],[]⟩=k0 ()): ∀(n:Nat) (v5:Int),qE (qe tt qjI (qc1 N) c) false qqB Q n ⟨[u,u,.one (.ptr 0 0 0),.one (.ptr 1 0 0),u,.one (.int .i64 v2),.one (.int .i64 v3),u,u,u,u,u,u,u,u,.one (.int .i64 v4),.one (.int .i64 v5),u,u,u,u,u,u,u,u,u,u,u,u,u,u,u,u,u,u,u,u,u],[.box [.sl 3 (.int .i64) v6 2,.int .i64 v7,.bool v8],.box [.sl 3 (.int .i64) v9 2,.int .i64 v10,.bool v11]]⟩=qmg N v2 v3 v4 v6 v7 v8 v9 v10 v11 k0 n v5:=by
 subst hc;intro n;induction n with
 | zero=>intros;rfl
 | succ n ih=>
   intro v5
   rw [qN,zpq,qmg];unfold Tryz.f290
   simp (maxSteps:=10000000) -implicitDefEqProofs [qLt,qo3,qMq,qp4,qM9,qpN,qUd,qqR,qRS,qwk,qXv,qH5,qLX,qLQ,qVv,qJH,qIy,qNT,qMT,qQQ,qXe,qKu,qKi,qgZ,qhe,hret,h0,ih]
theorem zg9 (N:Nat) (v0:Val qa) (v1:Val qa):qe tt qjI (qc1 N) (Tryz.f290.body.getD .skip) (qt tt true [i3] [.tmp 4]) (qw [qr,qr] 38 (v0,v1,()))=qzW N v0 v1:=by
 unfold Tryz.f290
 simp (maxSteps:=10000000) -implicitDefEqProofs [qLt,qo3,qMq,qp4,qM9,qpN,qUd,qqR,qRS,qwk,qXv,qH5,qLX,qLQ,qVv,qJH,qIy,qNT,qMT,qQQ,qXe,qKu,qKi,qgZ,qhe]
 rewrite [zgQ (k0:=(fun (_:Unit)=>some ((0:Int),()))) N _ _ _ _ _ _ _ _ _ ?_ ?_ ?_]
 ·rewrite [qzW];first | rfl | simp (maxSteps:=10000000) -implicitDefEqProofs []
 ·rfl
 ·intro;simp only [qJ,qL,qK,qB]
 ·simp (maxSteps:=10000000) -implicitDefEqProofs [qLt,qo3,qMq,qp4,qM9,qpN,qUd,qqR,qRS,qwk,qXv,qH5,qLX,qLQ,qVv,qJH,qIy,qNT,qMT,qQQ,qXe,qKu,qKi,qgZ,qhe]
theorem q2x (N:Nat) (g h:Nat) (hg:(g:Int)≠0) (hh:(h:Int)≠0) (xs ys:List (Val (.int .i64))) (hl:xs.length=ys.length) (h4:xs.length≤1048576) (hx: ∀x∈xs,inI x) (hy: ∀x∈ys,inI x) (c c':Int) (s s':Bool): ∀(k i:Nat),xs.length - i=k→ ∀n,k<n→
 qmg N g h xs.length xs c s ys c' s' (fun _=>some ((0:Int),())) n i=some (qbj ((List.drop (α:=Int) i xs).map fun x=>x.tdiv (g:Int)) ((List.drop (α:=Int) i ys).map fun x=>x.tdiv (h:Int)),())
 | 0,i,hi,n+1,_=>by
   rw [qmg,qj (by omega),List.drop_eq_nil_of_le (by omega),List.drop_eq_nil_of_le (by omega)]
   rfl
 | k+1,i,hi,n+1,hn=>by
   have h1:i<xs.length:=by omega
   have h2:i<ys.length:=by omega
   rw [qmg,qk (by omega),qd (by omega),qd hg,qd (by omega),qd hh,qF h1,qF h2,qen (hx _ (List.getElem_mem h1)),qen (hy _ (List.getElem_mem h2)),qa2 h1 h4]
   rw [List.drop_eq_getElem_cons h1,List.drop_eq_getElem_cons h2,List.map_cons,List.map_cons,qbj]
   generalize hp:Int.tdiv xs[i] (g:Int)=p
   generalize hq:Int.tdiv ys[i] (h:Int)=q
   unfold sgn
   by_cases a1:p<q
   ·simp [a1]
   ·by_cases a2:q<p
    ·simp [a1,a2]
    ·rw [if_neg a1,if_neg a2,if_neg a1,if_neg a2]
     simp only [decide_true,Bool.not_true,cond_false]
     exact q2x N g h hg hh xs ys hl h4 hx hy c c' s s' k (i+1) (by omega) n (by omega)
theorem zlo (a b:Val qa) (h:qd2 a b): ∃N,qzW N a b=some (qbw a b,()):=⟨List.length (α:=Val (.int .i64)) a.1+1,by
 obtain ⟨ha,hb,hl⟩:=h
 rw [qzW,qd (show qf1 a from ha),qd (show qf1 b from hb)]
 have:=q2x (List.length (α:=Val (.int .i64)) a.1+1) (gS (atm a)) (gS (atm b)) (by have:=qcI (atm a);omega) (by have:=qcI (atm b);omega) a.1 b.1 hl (by have:=(qbv ha).1;omega) (qvH ha) (qvH hb) a.2.1 b.2.1 a.2.2 b.2.2 _ 0 rfl _ (Nat.lt_succ_self _)
 simp only [List.drop_zero]at this
 exact this⟩
theorem q0V:Sound Tryz.prog 290 qe1:=qx (tt:=tt) (Γ:=qjI) hT (qg q0A (qg qY0 qu)) hm (fn:=Tryz.f290) Tryz.func290 (c:=Tryz.f290.body.getD .skip) (by kernel_rfl) (by kernel_rfl) fun x hx=>by
 obtain ⟨N,h⟩:=zlo x.1 x.2.1 hx
 exact ⟨qc1 N,zdi,qy _,zdA N,(zg9 N x.1 x.2.1).trans h⟩
def zfa:G:={ps:=[qr,qr],rs:=[i3],dp:=true,pre:=fun _=>True,fn:=fun x=>(qmb x.1 x.2.1,())}
noncomputable def qDX (N:Nat) (v0:Val qa) (v1:Val qa):Option (qc [i3]):=bif (!((qG v0):Bool))then (some ((2:Int),()))else (bif (!((qG v1):Bool))then (some ((2:Int),()))else (bif (!(decide (((v0.1:List (Val (.int .i64))).length:Int)=((v1.1:List (Val (.int .i64))).length:Int))))then (some ((2:Int),()))else (chk (qd2 v0 v1) (bif (!(decide (((qbw v0 v1):Int)=(0:Int))))then (some (((qbw v0 v1):Int),()))else (chk (qf1 v1) (chk (qf1 v0) (bif (!(decide (((sgn (IntKind.i64.wrap ((v0.2.1:Int)*((gSv v1):Int))) (IntKind.i64.wrap ((v1.2.1:Int)*((gSv v0):Int)))):Int)=(0:Int))))then (some (((sgn (IntKind.i64.wrap ((v0.2.1:Int)*((gSv v1):Int))) (IntKind.i64.wrap ((v1.2.1:Int)*((gSv v0):Int)))):Int),()))else (bif ((v0.2.2:Bool)==(v1.2.2:Bool))then (some ((0:Int),()))else (bif (v0.2.2:Bool)then (some ((1:Int),()))else (some ((-1:Int),())))))))))))
def qnG:Gam:=[(279,qa6),(290,qe1),(317,qgZ),(318,qhe)]
theorem zdv:Gam.get qnG 279=some qa6:=rfl
theorem zex:Gam.get qnG 290=some qe1:=rfl
theorem zeR:Gam.get qnG 317=some qgZ:=rfl
theorem zlz:Gam.get qnG 318=some qhe:=rfl
def qxD:Nat→Tree:=fun i=>if i=6 then .quiet 2 (.keep 0 (.keep 1 (.keep 5 (.keep 6 (.keep 7 (.alt 3 (.first 4 (.alt 8 (.quiet 9 (.alt 10 (.quiet 11 .done) .stop)) .stop)) .stop))))))else .done
def qLl:Nat→Nm:=fun _=>⟨[],[],false⟩
def qJv:Nat→Option Jn:=fun _=>none
def qOq:Nat→Option Nm:=fun _=>none
def qHW:Nat→Option Nm:=fun _=>none
theorem zh2:qn qxD (Tryz.f289.body.getD .skip)=true:=by kernel_rfl
def qff (N:Nat):Tab:={tr:=qxD,lp:=qLl,ex:=qOq,rg:=qHW,jn:=qJv,fuel:=N}
theorem zf9 (N:Nat):(qff N).pins=false:=rfl
theorem zhk (N:Nat):qp Tryz.prog (qff N):=qv fun _=>rfl
theorem znh (N:Nat) (i:Nat):(qff N).tr i=qxD i:=rfl
theorem q73 (N:Nat) (i:Nat):(qff N).lp i=qLl i:=rfl
theorem q8A (N:Nat) (i:Nat):(qff N).ex i=qOq i:=rfl
theorem zn0 (N:Nat) (i:Nat):(qff N).rg i=qHW i:=rfl
theorem q5h (N:Nat) (i:Nat):(qff N).jn i=qJv i:=rfl
theorem zeB (N:Nat):(qff N).fuel=N:=rfl
theorem zg2 (N:Nat) (v0:Val qa) (v1:Val qa):qe tt qnG (qff N) (Tryz.f289.body.getD .skip) (qt tt true [i3] [.tmp 4]) (qw [qr,qr] 51 (v0,v1,()))=qDX N v0 v1:=by
 rw [qDX];unfold Tryz.f289
 simp (maxSteps:=10000000) -implicitDefEqProofs [znh,qxD,q73,qLl,q8A,qOq,zn0,qHW,q5h,qJv,zeB,zf9,zdv,zex,zeR,zlz,qa6,qe1,qgZ,qhe]
 try rfl
theorem zk5 (a b:Val qa): ∃N,qDX N a b=some (qmb a b,()):=⟨0,by
 rw [qDX,qmb]
 cases ha:qG a with
 | false=>simp
 | true=>
   cases hb:qG b with
   | false=>simp
   | true=>
     by_cases hl:List.length (α:=Int) a.1=List.length (α:=Int) b.1
     ·have hl':((List.length (α:=Val (.int .i64)) a.1:Nat):Int)=(List.length (α:=Val (.int .i64)) b.1:Nat):=by exact_mod_cast hl
      have h1:=qfI ha
      have h2:=qfI hb
      have g1:=qx8 ha
      have g2:=qx8 hb
      have p1:=qcI (atm a)
      have p2:=qcI (atm b)
      simp only [hl,decide_true,Bool.and_self,cond_true,Bool.not_true,cond_false]
      rw [qd (show qd2 a b from ⟨ha,hb,hl⟩),qd (show qf1 b from hb),qd (show qf1 a from ha)]
      rw [qiK h1 ⟨by unfold gSv;omega,g2⟩,qiK h2 ⟨by unfold gSv;omega,g1⟩,q9J]
      have e1:sgI (a.2.1*gSv b - b.2.1*gSv a)=qdG (atm a) (atm b):=rfl
      rw [e1]
      unfold qaY qbw
      by_cases w0:way (atm a) (atm b)=0
      ·by_cases s0:qdG (atm a) (atm b)=0
       ·simp only [w0,s0,decide_true,Bool.not_true,cond_false,if_true]
        unfold stc
        cases a.2.2<;>cases b.2.2<;>rfl
       ·simp [w0,s0]
      ·simp [w0]
     ·have hl': ¬((List.length (α:=Val (.int .i64)) a.1:Nat):Int)=(List.length (α:=Val (.int .i64)) b.1:Nat):=by exact_mod_cast hl
      simp only [hl,decide_false,Bool.and_false,cond_false,Bool.not_true]
      rw [qaG,qj hl']⟩
theorem zoK:Sound Tryz.prog 289 zfa:=qx (tt:=tt) (Γ:=qnG) hT (qg qxq (qg q0V (qg q0A (qg qY0 qu)))) hm (fn:=Tryz.f289) Tryz.func289 (c:=Tryz.f289.body.getD .skip) (by kernel_rfl) (by kernel_rfl) fun x hx=>by
 obtain ⟨N,h⟩:=zk5 x.1 x.2.1
 exact ⟨qff N,zh2,qy _,zhk N,(zg2 N x.1 x.2.1).trans h⟩
def qbJ (d:Int):Val Y33:=(d,[(List.replicate d.toNat (0:Int),(1:Int),false)])
def qhm (d:Int):Prop:=0≤d∧d≤1048576
def idL (l:List (Val (.int .i64))):List (Val (.int .i64)):=l
def qvO (l:List (Val (.int .i64))):Prop:=l.length≤1048576
def idA (a:Val qa):Val qa:=a
def qbu (a:Val qa):Prop:=List.length (α:=Val (.int .i64)) a.1≤1048576
def qjg:G:={ps:=[i3],rs:=[i33],dp:=true,pre:=fun x=>qhm x.1,fn:=fun x=>(qbJ x.1,())}
def qyN:G:={ps:=[i25],rs:=[i25],dp:=true,pre:=fun x=>qvO x.1,fn:=fun x=>(idL x.1,())}
noncomputable def qDu (N:Nat) (v0:Int):Option (qc [i33]):=chk (0≤v0∧v0≤v0∧v0≤1048576) (some ((v0,([((List.replicate v0.toNat (qb (.int .i64))),(1:Int),false)]:List (Val qa))),()))
def q1G:Gam:=[]
def qAt:Nat→Tree:=fun _=> .done
def qLx:Nat→Nm:=fun _=>⟨[],[],false⟩
def qME:Nat→Option Jn:=fun _=>none
def qWh:Nat→Option Nm:=fun _=>none
def qMd:Nat→Option Nm:=fun _=>none
theorem zdD:qn qAt (Tryz.f213.body.getD .skip)=true:=by kernel_rfl
def qfZ (N:Nat):Tab:={tr:=qAt,lp:=qLx,ex:=qWh,rg:=qMd,jn:=qME,fuel:=N}
theorem q8i (N:Nat):(qfZ N).pins=false:=rfl
theorem znl (N:Nat):qp Tryz.prog (qfZ N):=qv fun _=>rfl
theorem zcD (N:Nat) (i:Nat):(qfZ N).tr i=qAt i:=rfl
theorem q58 (N:Nat) (i:Nat):(qfZ N).lp i=qLx i:=rfl
theorem znK (N:Nat) (i:Nat):(qfZ N).ex i=qWh i:=rfl
theorem zkk (N:Nat) (i:Nat):(qfZ N).rg i=qMd i:=rfl
theorem zmt (N:Nat) (i:Nat):(qfZ N).jn i=qME i:=rfl
theorem znn (N:Nat):(qfZ N).fuel=N:=rfl
theorem q7X (N:Nat) (v0:Int):qe tt q1G (qfZ N) (Tryz.f213.body.getD .skip) (qt tt true [i33] [.cell 2 33]) (qw [i3] 9 (v0,()))=qDu N v0:=by
 rw [qDu];unfold Tryz.f213
 simp (maxSteps:=10000000) -implicitDefEqProofs [zcD,qAt,q58,qLx,znK,qWh,zkk,qMd,zmt,qME,znn,q8i]
 try rfl
noncomputable def qEx (N:Nat) (v0:List (Val (.int .i64))):Option (qc [i25]):=chk (([]:List (Val (.int .i64))).length+v0.length≤1048576) (some ((([]:List (Val (.int .i64)))++v0),()))
def q3o:Gam:=[]
def qBT:Nat→Tree:=fun _=> .done
def qVJ:Nat→Nm:=fun _=>⟨[],[],false⟩
def qM2:Nat→Option Jn:=fun _=>none
def qWU:Nat→Option Nm:=fun _=>none
def qQW:Nat→Option Nm:=fun _=>none
theorem zde:qn qBT (Tryz.f238.body.getD .skip)=true:=by kernel_rfl
def qfk (N:Nat):Tab:={tr:=qBT,lp:=qVJ,ex:=qWU,rg:=qQW,jn:=qM2,fuel:=N}
theorem zjW (N:Nat):(qfk N).pins=false:=rfl
theorem zpV (N:Nat):qp Tryz.prog (qfk N):=qv fun _=>rfl
theorem znG (N:Nat) (i:Nat):(qfk N).tr i=qBT i:=rfl
theorem q5J (N:Nat) (i:Nat):(qfk N).lp i=qVJ i:=rfl
theorem zmT (N:Nat) (i:Nat):(qfk N).ex i=qWU i:=rfl
theorem zlA (N:Nat) (i:Nat):(qfk N).rg i=qQW i:=rfl
theorem q99 (N:Nat) (i:Nat):(qfk N).jn i=qM2 i:=rfl
theorem zax (N:Nat):(qfk N).fuel=N:=rfl
theorem q6E (N:Nat) (v0:List (Val (.int .i64))):qe tt q3o (qfk N) (Tryz.f238.body.getD .skip) (qt tt true [i25] [.tmp 2]) (qw [i25] 6 (v0,()))=qEx N v0:=by
 rw [qEx];unfold Tryz.f238
 simp (maxSteps:=10000000) -implicitDefEqProofs [znG,qBT,q5J,qVJ,zmT,qWU,zlA,qQW,q99,qM2,zax,zjW]
 try rfl
theorem zeZ (d:Int) (h:qhm d): ∃N,qDu N d=some (qbJ d,()):=⟨0,by
 rw [qDu,qd ⟨h.1,Int.le_refl _,h.2⟩];rfl⟩
theorem zam (l:List (Val (.int .i64))) (h:qvO l): ∃N,qEx N l=some (idL l,()):=⟨0,by
 rw [qEx,qd (by simpa [qvO] using h)];rfl⟩
theorem zhb:Sound Tryz.prog 213 qjg:=qx (tt:=tt) (Γ:=q1G) hT qu hm (fn:=Tryz.f213) Tryz.func213 (c:=Tryz.f213.body.getD .skip) (by kernel_rfl) (by kernel_rfl) fun x hx=>by
 obtain ⟨N,h⟩:=zeZ x.1 hx
 exact ⟨qfZ N,zdD,qy _,znl N,(q7X N x.1).trans h⟩
theorem zki:Sound Tryz.prog 238 qyN:=qx (tt:=tt) (Γ:=q3o) hT qu hm (fn:=Tryz.f238) Tryz.func238 (c:=Tryz.f238.body.getD .skip) (by kernel_rfl) (by kernel_rfl) fun x hx=>by
 obtain ⟨N,h⟩:=zam x.1 hx
 exact ⟨qfk N,zde,qy _,zpV N,(q6E N x.1).trans h⟩
def qbU:G:={ps:=[qr],rs:=[qr],dp:=true,pre:=fun x=>qbu x.1,fn:=fun x=>(idA x.1,())}
noncomputable def qyp (N:Nat) (v0:Val qa):Option (qc [qr]):=chk (qvO (v0.1:List (Val (.int .i64)))) (some ((((idL (v0.1:List (Val (.int .i64)))):List (Val (.int .i64))),(v0.2.1:Int),(v0.2.2:Bool)),()))
def qFX:Gam:=[(238,qyN)]
theorem zj3:Gam.get qFX 238=some qyN:=rfl
def qCU:Nm:=⟨[false,false,true],[],false⟩
theorem q8y:qCU.zero=false:=rfl
theorem q9G:qCU.fix=[]:=rfl
theorem zbn:qCU.keep=[false,false,true]:=rfl
def qze:Nat→Tree:=fun i=>if i=1 then .quiet 0 (.quiet 1 (.alt 2 (.quiet 3 (.quiet 4 (.quiet 5 (.quiet 6 (.quiet 7 (.alt 8 .done .stop)))))) (.alt 3 (.alt 2 (.quiet 4 (.quiet 5 (.quiet 6 (.quiet 7 (.alt 8 .done .stop))))) (.alt 4 (.alt 2 (.quiet 5 (.quiet 6 (.quiet 7 (.alt 8 .done .stop)))) (.alt 5 (.alt 2 (.quiet 6 (.quiet 7 (.alt 8 .done .stop))) (.alt 6 (.alt 2 (.quiet 7 (.alt 8 .done .stop)) .stop) .stop)) .stop)) (.alt 5 (.alt 2 (.quiet 4 (.quiet 6 (.quiet 7 (.alt 8 .done .stop)))) (.alt 4 (.alt 2 (.quiet 6 (.quiet 7 (.alt 8 .done .stop))) (.alt 6 (.alt 2 (.quiet 7 (.alt 8 .done .stop)) .stop) .stop)) (.alt 6 (.alt 2 (.quiet 4 (.quiet 7 (.alt 8 .done .stop))) (.alt 4 (.alt 2 (.quiet 7 (.alt 8 .done .stop)) .stop) .stop)) .stop))) .stop))) (.alt 5 (.alt 2 (.quiet 3 (.quiet 4 (.quiet 6 (.quiet 7 (.alt 8 .done .stop))))) (.alt 3 (.alt 2 (.quiet 4 (.quiet 6 (.quiet 7 (.alt 8 .done .stop)))) (.alt 4 (.alt 2 (.quiet 6 (.quiet 7 (.alt 8 .done .stop))) (.alt 6 (.alt 2 (.quiet 7 (.alt 8 .done .stop)) .stop) .stop)) (.alt 6 (.alt 2 (.quiet 4 (.quiet 7 (.alt 8 .done .stop))) (.alt 4 (.alt 2 (.quiet 7 (.alt 8 .done .stop)) .stop) .stop)) .stop))) (.alt 6 (.alt 2 (.quiet 3 (.quiet 4 (.quiet 7 (.alt 8 .done .stop)))) (.alt 3 (.alt 2 (.quiet 4 (.quiet 7 (.alt 8 .done .stop))) (.alt 4 (.alt 2 (.quiet 7 (.alt 8 .done .stop)) .stop) .stop)) .stop)) .stop))) .stop))))else .done
def qIc:Nat→Nm:=fun _=>⟨[],[],false⟩
def qFy:Nat→Option Jn:=fun _=>none
def qU9:Nat→Option Nm:=fun _=>none
def qOJ:Nat→Option Nm:=fun i=>if i=1 then some qCU else none
theorem zib:qn qze (Tryz.f236.body.getD .skip)=true:=by kernel_rfl
def qfz (N:Nat):Tab:={tr:=qze,lp:=qIc,ex:=qU9,rg:=qOJ,jn:=qFy,fuel:=N}
theorem q65 (N:Nat):(qfz N).pins=false:=rfl
theorem zbf (N:Nat):qp Tryz.prog (qfz N):=qv fun _=>rfl
theorem znQ (N:Nat) (i:Nat):(qfz N).tr i=qze i:=rfl
theorem zco (N:Nat) (i:Nat):(qfz N).lp i=qIc i:=rfl
theorem q5p (N:Nat) (i:Nat):(qfz N).ex i=qU9 i:=rfl
theorem q8K (N:Nat) (i:Nat):(qfz N).rg i=qOJ i:=rfl
theorem q6Q (N:Nat) (i:Nat):(qfz N).jn i=qFy i:=rfl
theorem zni (N:Nat):(qfz N).fuel=N:=rfl
theorem zmR (N:Nat) (v0:Val qa):qe tt qFX (qfz N) (Tryz.f236.body.getD .skip) (qt tt true [qr] [.cell 2 108]) (qw [qr] 11 (v0,()))=qyp N v0:=by
 rw [qyp];unfold Tryz.f236
 simp (maxSteps:=10000000) -implicitDefEqProofs [znQ,qze,zco,qIc,q5p,qU9,q8K,qOJ,q6Q,qFy,zni,q65,q9G,zbn,q8y,zj3,qyN]
 try rfl
theorem zjp (a:Val qa) (h:qbu a): ∃N,qyp N a=some (idA a,()):=⟨0,by
 rw [qyp,qd (show qvO a.1 from h)];rfl⟩
theorem qOQ:Sound Tryz.prog 236 qbU:=qx (tt:=tt) (Γ:=qFX) hT (qg zki qu) hm (fn:=Tryz.f236) Tryz.func236 (c:=Tryz.f236.body.getD .skip) (by kernel_rfl) (by kernel_rfl) fun x hx=>by
 obtain ⟨N,h⟩:=zjp x.1 hx
 exact ⟨qfz N,zib,qy _,zbf N,(zmR N x.1).trans h⟩
end Go.T
