/- Atoms: their directions, their order. -/
import Derived.Test.YthefcjjgchekiaaGreatA8a
set_option linter.unusedSimpArgs false
set_option linter.unusedVariables false
namespace Go.T
open Go Go.Proofs
set_option maxHeartbeats 4000000
set_option maxRecDepth 100000
abbrev atm (a:Val qa):Atm:=a
def okA (a:Val qa):Prop:=qP a=true
def qaz (a:Val qa):Bool:=decide (gL 0 (atm a).1≠0)
def qn4 (a:Val qa):Prop:=okA a
def gSv (a:Val qa):Int:=(gS (atm a):Int)
def qga (a:Val qa):Prop:=okA a
def sgn (a b:Int):Int:=if a<b then -1 else if b<a then 1 else 0
def qbK (a b:Val qa):Int:=way (atm a) (atm b)
def qeq (a b:Val qa):Prop:=okA a∧okA b∧List.length (α:=Int) a.1=List.length (α:=Int) b.1
def ql8 (a b:Val qa):Int:=bif qP a&&qP b&&decide (List.length (α:=Int) a.1=List.length (α:=Int) b.1)then qbp (atm a) (atm b)else 2
theorem qkM {a:Val qa} (h:okA a): ∀x∈(a.1:List Int),inI x:=fun x hx=>by
 have h1: @LE.le Int _ (-400000000) x∧ @LE.le Int _ x 400000000:=(qbb h).2.2 x hx
 unfold inI;omega
theorem qGL {a:Val qa} (h:okA a):qfq a.1:=⟨by have:=(qbb h).1;omega,qkM h⟩
theorem qgR {a:Val qa} (h:okA a): -400000000≤(a.2.1:Int)∧ @LE.le Int _ a.2.1 400000000:=by
 have h:qP a=true:=h
 unfold qP at h
 simp only [Bool.and_eq_true,decide_eq_true_eq]at h
 exact of_decide_eq_true h.1.1.2
theorem zau {a:Val qa} (h:okA a) (hv:qaz a=true):qk5 (atm a):=by
 have h:qP a=true:=h
 unfold qP at h
 simp only [Bool.and_eq_true,decide_eq_true_eq]at h
 have h2:=h.2
 exact ⟨of_decide_eq_true hv,by have h2:((gL (Int.natAbs a.2.1) a.1:Nat):Int)≤1:=h2;show gL (Int.natAbs a.2.1) a.1≤1;omega⟩
theorem qEB {a:Val qa} (h:okA a):gSv a≤400000000:=by
 unfold gSv gS
 by_cases h0:gL 0 (atm a).1=0
 ·rw [h0];decide
 ·obtain ⟨x,hx,hne⟩: ∃x∈(atm a).1,x≠0:=by
   apply Classical.byContradiction
   intro hn
   exact h0 (q1w.2 fun x hx=>Classical.byContradiction fun hne=>hn ⟨x,hx,hne⟩)
  have h1:=(qt2 (atm a).1 0).2 x hx
  have h2:=Nat.le_of_dvd (by omega) h1
  have h3: @LE.le Int _ (-400000000) x∧ @LE.le Int _ x 400000000:=(qbb h).2.2 x hx
  omega
theorem zl5 (p q:Int):sgn p q=sgI (p - q):=by
 unfold sgn sgI
 split<;>split<;>(try split)<;>omega
theorem qiy {x y:Int} (h1: -400000000≤x∧x≤400000000) (h2:0≤y∧y≤400000000):IntKind.i64.wrap (x*y)=x*y:=by
 have h:(x*y).natAbs≤400000000*400000000:=by
  rw [Int.natAbs_mul];exact Nat.mul_le_mul (by omega) (by omega)
 exact qaC (by omega) (by omega)
def qeF:G:={ps:=[ql],rs:=[i4],dp:=true,pre:=fun x=>qn4 x.1,fn:=fun x=>(qaz x.1,())}
def qhn:G:={ps:=[ql],rs:=[i3],dp:=true,pre:=fun x=>qga x.1,fn:=fun x=>(gSv x.1,())}
def qhm:G:={ps:=[i3,i3],rs:=[i3],dp:=true,pre:=fun _=>True,fn:=fun x=>(sgn x.1 x.2.1,())}
noncomputable def qzQ (N:Nat) (v0:Val qa):Option (qc [i4]):=chk (qfq (v0.1:List (Val (.int .i64)))) (some ((!(decide (((qbd (v0.1:List (Val (.int .i64)))):Int)=(0:Int)))),()))
def qJn:Gam:=[(282,qci)]
theorem zlC:Gam.get qJn 282=some qci:=rfl
def qE5:Nat→Tree:=fun _=> .done
def qOW:Nat→Nm:=fun _=>⟨[],[],false⟩
def qP9:Nat→Option Jn:=fun _=>none
def qKu:Nat→Option Nm:=fun _=>none
def qK2:Nat→Option Nm:=fun _=>none
theorem zxR:qh qE5 (Tryz.f287.body.getD .skip)=true:=by kernel_rfl
def qfu (N:Nat):Tab:={tr:=qE5,lp:=qOW,ex:=qKu,rg:=qK2,jn:=qP9,fuel:=N}
theorem zoB (N:Nat):(qfu N).pins=false:=rfl
theorem zvG (N:Nat):qk Tryz.prog (qfu N):=qo fun _=>rfl
theorem zc9 (N:Nat) (i:Nat):(qfu N).tr i=qE5 i:=rfl
theorem zbI (N:Nat) (i:Nat):(qfu N).lp i=qOW i:=rfl
theorem zzf (N:Nat) (i:Nat):(qfu N).ex i=qKu i:=rfl
theorem zeh (N:Nat) (i:Nat):(qfu N).rg i=qK2 i:=rfl
theorem zd4 (N:Nat) (i:Nat):(qfu N).jn i=qP9 i:=rfl
theorem znf (N:Nat):(qfu N).fuel=N:=rfl
theorem zwE (N:Nat) (v0:Val qa):qf tt qJn (qfu N) (Tryz.f287.body.getD .skip) (qm tt true [i4] [.tmp 2]) (qp [ql] 7 (v0,()))=qzQ N v0:=by
 rw [qzQ];unfold Tryz.f287
 simp (maxSteps:=10000000) -implicitDefEqProofs [zc9,qE5,zbI,qOW,zzf,qKu,zeh,qK2,zd4,qP9,znf,zoB,zlC,qci]
 try rfl
noncomputable def qz9 (N:Nat) (v0:Val qa):Option (qc [i3]):=chk (qfq (v0.1:List (Val (.int .i64)))) (bif (decide (((qbd (v0.1:List (Val (.int .i64)))):Int)=(0:Int)))then (some ((1:Int),()))else (some (((qbd (v0.1:List (Val (.int .i64)))):Int),())))
def qXO:Gam:=[(282,qci)]
theorem zrT:Gam.get qXO 282=some qci:=rfl
def qF3:Nat→Tree:=fun _=> .done
def q1S:Nat→Nm:=fun _=>⟨[],[],false⟩
def q4T:Nat→Option Jn:=fun _=>none
def qKs:Nat→Option Nm:=fun _=>none
def qRZ:Nat→Option Nm:=fun _=>none
theorem zkR:qh qF3 (Tryz.f318.body.getD .skip)=true:=by kernel_rfl
def qgh (N:Nat):Tab:={tr:=qF3,lp:=q1S,ex:=qKs,rg:=qRZ,jn:=q4T,fuel:=N}
theorem zoQ (N:Nat):(qgh N).pins=false:=rfl
theorem zlB (N:Nat):qk Tryz.prog (qgh N):=qo fun _=>rfl
theorem zt8 (N:Nat) (i:Nat):(qgh N).tr i=qF3 i:=rfl
theorem zhq (N:Nat) (i:Nat):(qgh N).lp i=q1S i:=rfl
theorem zBf (N:Nat) (i:Nat):(qgh N).ex i=qKs i:=rfl
theorem zfA (N:Nat) (i:Nat):(qgh N).rg i=qRZ i:=rfl
theorem zuA (N:Nat) (i:Nat):(qgh N).jn i=q4T i:=rfl
theorem zs8 (N:Nat):(qgh N).fuel=N:=rfl
theorem zsv (N:Nat) (v0:Val qa):qf tt qXO (qgh N) (Tryz.f318.body.getD .skip) (qm tt true [i3] [.tmp 2]) (qp [ql] 10 (v0,()))=qz9 N v0:=by
 rw [qz9];unfold Tryz.f318
 simp (maxSteps:=10000000) -implicitDefEqProofs [zt8,qF3,zhq,q1S,zBf,qKs,zfA,qRZ,zuA,q4T,zs8,zoQ,zrT,qci]
 try rfl
noncomputable def qDc (N:Nat) (v0:Int) (v1:Int):Option (qc [i3]):=bif (decide (v0<v1))then (some ((-1:Int),()))else (bif (decide (v1<v0))then (some ((1:Int),()))else (some ((0:Int),())))
def zab:Gam:=[]
def qEE:Nat→Tree:=fun _=> .done
def qW1:Nat→Nm:=fun _=>⟨[],[],false⟩
def qTp:Nat→Option Jn:=fun _=>none
def qIR:Nat→Option Nm:=fun _=>none
def qXu:Nat→Option Nm:=fun _=>none
theorem zpx:qh qEE (Tryz.f317.body.getD .skip)=true:=by kernel_rfl
def qfK (N:Nat):Tab:={tr:=qEE,lp:=qW1,ex:=qIR,rg:=qXu,jn:=qTp,fuel:=N}
theorem zuk (N:Nat):(qfK N).pins=false:=rfl
theorem zbc (N:Nat):qk Tryz.prog (qfK N):=qo fun _=>rfl
theorem zva (N:Nat) (i:Nat):(qfK N).tr i=qEE i:=rfl
theorem zof (N:Nat) (i:Nat):(qfK N).lp i=qW1 i:=rfl
theorem zq3 (N:Nat) (i:Nat):(qfK N).ex i=qIR i:=rfl
theorem ztz (N:Nat) (i:Nat):(qfK N).rg i=qXu i:=rfl
theorem zk0 (N:Nat) (i:Nat):(qfK N).jn i=qTp i:=rfl
theorem zmc (N:Nat):(qfK N).fuel=N:=rfl
theorem zlk (N:Nat) (v0:Int) (v1:Int):qf tt zab (qfK N) (Tryz.f317.body.getD .skip) (qm tt true [i3] [.tmp 4]) (qp [i3,i3] 11 (v0,v1,()))=qDc N v0 v1:=by
 rw [qDc];unfold Tryz.f317
 simp (maxSteps:=10000000) -implicitDefEqProofs [zva,qEE,zof,qW1,zq3,qIR,ztz,qXu,zk0,qTp,zmc,zuk]
 try rfl
theorem zvS (a:Val qa) (h:qn4 a): ∃N,qzQ N a=some (qaz a,()):=⟨0,by
 rw [qzQ,qe (qGL h)]
 unfold qaz qbd
 have e:(((gL 0 (atm a).1:Nat):Int)=0)↔(gL 0 (atm a).1=0):=by omega
 by_cases h0:gL 0 (atm a).1=0
 ·simp [h0]
 ·simp [h0]⟩
theorem zl4 (a:Val qa) (h:qga a): ∃N,qz9 N a=some (gSv a,()):=⟨0,by
 rw [qz9,qe (qGL h)]
 unfold gSv gS qbd
 by_cases h0:gL 0 (atm a).1=0
 ·rw [qj (by show ((gL 0 (atm a).1:Nat):Int)=0;omega),h0];rfl
 ·rw [qi (by show ¬((gL 0 (atm a).1:Nat):Int)=0;omega)]
  rw [Nat.max_eq_right (by omega)]⟩
theorem zv4 (a b:Int): ∃N,qDc N a b=some (sgn a b,()):=⟨0,by
 rw [qDc,sgn]
 by_cases h1:a<b<;>by_cases h2:b<a<;>simp [h1,h2]⟩
theorem q8B:Sound Tryz.prog 287 qeF:=qr (tt:=tt) (Γ:=qJn) hT (qg qBi qn) hm (fn:=Tryz.f287) Tryz.func287 (c:=Tryz.f287.body.getD .skip) (by kernel_rfl) (by kernel_rfl) fun x hx=>by
 obtain ⟨N,h⟩:=zvS x.1 hx
 exact ⟨qfu N,zxR,qu _,zvG N,(zwE N x.1).trans h⟩
theorem q6i:Sound Tryz.prog 318 qhn:=qr (tt:=tt) (Γ:=qXO) hT (qg qBi qn) hm (fn:=Tryz.f318) Tryz.func318 (c:=Tryz.f318.body.getD .skip) (by kernel_rfl) (by kernel_rfl) fun x hx=>by
 obtain ⟨N,h⟩:=zl4 x.1 hx
 exact ⟨qgh N,zkR,qu _,zlB N,(zsv N x.1).trans h⟩
theorem q73:Sound Tryz.prog 317 qhm:=qr (tt:=tt) (Γ:=zab) hT qn hm (fn:=Tryz.f317) Tryz.func317 (c:=Tryz.f317.body.getD .skip) (by kernel_rfl) (by kernel_rfl) fun x hx=>by
 obtain ⟨N,h⟩:=zv4 x.1 x.2.1
 exact ⟨qfK N,zpx,qu _,zbc N,(zlk N x.1 x.2.1).trans h⟩
def qeQ:G:={ps:=[ql,ql],rs:=[i3],dp:=true,pre:=fun x=>qeq x.1 x.2.1,fn:=fun x=>(qbK x.1 x.2.1,())}
noncomputable def qmy (N:Nat) (v2:Int) (v3:Int) (v4:Int) (v6:List (Val (.int .i64))) (v7:Int) (v8:Bool) (v9:List (Val (.int .i64))) (v10:Int) (v11:Bool) (k0:Unit→Option (qc [i3])):Nat→Int→Option (qc [i3])
 | 0,_=>none
 | n+1,v5=>bif (decide (v5<v4))then (chk (0≤v5∧v5<(v6.length:Int)) (chk (v2≠0) (chk (0≤v5∧v5<(v9.length:Int)) (chk (v3≠0) (bif (!(decide (((sgn (IntKind.i64.wrap (((v6.getD v5.toNat (qb (.int .i64))):Int).tdiv v2)) (IntKind.i64.wrap (((v9.getD v5.toNat (qb (.int .i64))):Int).tdiv v3))):Int)=(0:Int))))then (some (((sgn (IntKind.i64.wrap (((v6.getD v5.toNat (qb (.int .i64))):Int).tdiv v2)) (IntKind.i64.wrap (((v9.getD v5.toNat (qb (.int .i64))):Int).tdiv v3))):Int),()))else (qmy N v2 v3 v4 v6 v7 v8 v9 v10 v11 k0 n (IntKind.i64.wrap (v5+(1:Int)))))))))else (k0 ())
noncomputable def qF2 (N:Nat) (v0:Val qa) (v1:Val qa):Option (qc [i3]):=chk (qga v0) (chk (qga v1) (qmy N ((gSv v0):Int) ((gSv v1):Int) ((v0.1:List (Val (.int .i64))).length:Int) (v0.1:List (Val (.int .i64))) (v0.2.1:Int) (v0.2.2:Bool) (v1.1:List (Val (.int .i64))) (v1.2.1:Int) (v1.2.2:Bool) (fun (_:Unit)=>some ((0:Int),())) N (0:Int)))
def qma:Gam:=[(317,qhm),(318,qhn)]
theorem qXy:Gam.get qma 317=some qhm:=rfl
theorem qZy:Gam.get qma 318=some qhn:=rfl
def qwW:Nm:=⟨[false,false,true,true,false,true,true,false,false,false,false,false,false,false,false,true,true],[],false⟩
theorem qRj:qwW.zero=false:=rfl
theorem qVl:qwW.fix=[]:=rfl
theorem q2N:qwW.keep=[false,false,true,true,false,true,true,false,false,false,false,false,false,false,false,true,true]:=rfl
def qHl:Nm:=⟨[],[],false⟩
theorem qKg:qHl.zero=false:=rfl
theorem qVY:qHl.fix=[]:=rfl
theorem qV5:qHl.keep=[]:=rfl
def qGw:Nm:=⟨[false,false,true,true,false,true,true],[],false⟩
theorem qVv:qGw.zero=false:=rfl
theorem qJm:qGw.fix=[]:=rfl
theorem qNu:qGw.keep=[false,false,true,true,false,true,true]:=rfl
def qoe:Nat→Tree:=fun i=>if i=1 then .quiet 0 (.alt 1 (.quiet 2 (.alt 3 (.quiet 4 (.quiet 5 .done)) .stop)) (.alt 2 (.alt 1 (.alt 3 (.quiet 4 (.quiet 5 .done)) .stop) .stop) .stop))else if i=5 then .quiet 0 (.quiet 1 (.quiet 2 (.quiet 3 (.quiet 4 (.quiet 5 (.quiet 6 (.quiet 7 (.quiet 8 (.quiet 9 (.quiet 10 (.quiet 11 (.quiet 12 (.quiet 13 (.alt 14 (.quiet 15 .done) .stop))))))))))))))else .done
def qxy:Nat→Nm:=fun i=>if i=3 then qwW else ⟨[],[],false⟩
def qpX:Nat→Option Jn:=fun _=>none
def qr9:Nat→Option Nm:=fun i=>if i=0 then some qHl else none
def qxW:Nat→Option Nm:=fun i=>if i=1 then some qGw else none
theorem zfq:qh qoe (Tryz.f290.body.getD .skip)=true:=by kernel_rfl
def qdG (N:Nat):Tab:={tr:=qoe,lp:=qxy,ex:=qr9,rg:=qxW,jn:=qpX,fuel:=N}
theorem q0K (N:Nat):(qdG N).pins=false:=rfl
theorem zfG (N:Nat):qk Tryz.prog (qdG N):=qo fun _=>rfl
theorem qUP (N:Nat) (i:Nat):(qdG N).tr i=qoe i:=rfl
theorem qVR (N:Nat) (i:Nat):(qdG N).lp i=qxy i:=rfl
theorem qNm (N:Nat) (i:Nat):(qdG N).ex i=qr9 i:=rfl
theorem qQY (N:Nat) (i:Nat):(qdG N).rg i=qxW i:=rfl
theorem qJJ (N:Nat) (i:Nat):(qdG N).jn i=qpX i:=rfl
theorem qHH (N:Nat):(qdG N).fuel=N:=rfl
noncomputable def q6I:Code:=cut [true,true,false,true,true,true] (Tryz.f290.body.getD .skip)
theorem zjL {N:Nat} {Q:X→St→Option (qc [i3])} {e:List LV} {h:List Blk}:qf tt qma (qdG N) q6I Q ⟨e,h⟩=qf tt qma (qdG N) (cut [true,true,false,true,true,true] (Tryz.f290.body.getD .skip)) Q ⟨e,h⟩:=rfl
theorem zgu (N:Nat) (v2:Int) (v3:Int) (v4:Int) (v6:List (Val (.int .i64))) (v7:Int) (v8:Bool) (v9:List (Val (.int .i64))) (v10:Int) (v11:Bool) {k0:Unit→Option (qc [i3])} {Q:X→St→Option (qc [i3])} {c:Code} (hc:c=q6I) (hret: ∀st,Q .ret st=qC tt true [i3] [.tmp 4] st) (h0:Q (.exit 0) ⟨[u,u,u,u,u,u,u,u,u,u,u,u,u,u,u,u,u,u,u,u,u,u,u,u,u,u,u,u,u,u,u,u,u,u,u,u,u,u],[]⟩=k0 ()): ∀(n:Nat) (v5:Int),qD (qf tt qma (qdG N) c) false qwW Q n ⟨[u,u,.one (.ptr 0 0 0),.one (.ptr 1 0 0),u,.one (.int .i64 v2),.one (.int .i64 v3),u,u,u,u,u,u,u,u,.one (.int .i64 v4),.one (.int .i64 v5),u,u,u,u,u,u,u,u,u,u,u,u,u,u,u,u,u,u,u,u,u],[.box [.sl 3 (.int .i64) v6 2,.int .i64 v7,.bool v8],.box [.sl 3 (.int .i64) v9 2,.int .i64 v10,.bool v11]]⟩=qmy N v2 v3 v4 v6 v7 v8 v9 v10 v11 k0 n v5:=by
 subst hc;intro n;induction n with
 | zero=>intros;rfl
 | succ n ih=>
   intro v5
   rw [qN,zjL,qmy];unfold Tryz.f290
   simp (maxSteps:=10000000) -implicitDefEqProofs [qUP,qoe,qVR,qxy,qNm,qr9,qQY,qxW,qJJ,qpX,qHH,q0K,qVl,q2N,qRj,qVY,qV5,qKg,qJm,qNu,qVv,qXy,qZy,qhm,qhn,hret,h0,ih]
theorem zff (N:Nat) (v0:Val qa) (v1:Val qa):qf tt qma (qdG N) (Tryz.f290.body.getD .skip) (qm tt true [i3] [.tmp 4]) (qp [ql,ql] 38 (v0,v1,()))=qF2 N v0 v1:=by
 unfold Tryz.f290
 simp (maxSteps:=10000000) -implicitDefEqProofs [qUP,qoe,qVR,qxy,qNm,qr9,qQY,qxW,qJJ,qpX,qHH,q0K,qVl,q2N,qRj,qVY,qV5,qKg,qJm,qNu,qVv,qXy,qZy,qhm,qhn]
 rewrite [zgu (k0:=(fun (_:Unit)=>some ((0:Int),()))) N _ _ _ _ _ _ _ _ _ ?_ ?_ ?_]
 ·rewrite [qF2];first | rfl | simp (maxSteps:=10000000) -implicitDefEqProofs []
 ·rfl
 ·intro;simp only [qK,qL,qJ,qB]
 ·simp (maxSteps:=10000000) -implicitDefEqProofs [qUP,qoe,qVR,qxy,qNm,qr9,qQY,qxW,qJJ,qpX,qHH,q0K,qVl,q2N,qRj,qVY,qV5,qKg,qJm,qNu,qVv,qXy,qZy,qhm,qhn]
theorem q6v (N:Nat) (g h:Nat) (hg:(g:Int)≠0) (hh:(h:Int)≠0) (xs ys:List (Val (.int .i64))) (hl:xs.length=ys.length) (h4:xs.length≤1048576) (hx: ∀x∈xs,inI x) (hy: ∀x∈ys,inI x) (c c':Int) (s s':Bool): ∀(k i:Nat),xs.length - i=k→ ∀n,k<n→
 qmy N g h xs.length xs c s ys c' s' (fun _=>some ((0:Int),())) n i=some (qbA ((List.drop (α:=Int) i xs).map fun x=>x.tdiv (g:Int)) ((List.drop (α:=Int) i ys).map fun x=>x.tdiv (h:Int)),())
 | 0,i,hi,n+1,_=>by
   rw [qmy,qi (by omega),List.drop_eq_nil_of_le (by omega),List.drop_eq_nil_of_le (by omega)]
   rfl
 | k+1,i,hi,n+1,hn=>by
   have h1:i<xs.length:=by omega
   have h2:i<ys.length:=by omega
   rw [qmy,qj (by omega),qe (by omega),qe hg,qe (by omega),qe hh,qI h1,qI h2,qeB (hx _ (List.getElem_mem h1)),qeB (hy _ (List.getElem_mem h2)),qbr h1 h4]
   rw [List.drop_eq_getElem_cons h1,List.drop_eq_getElem_cons h2,List.map_cons,List.map_cons,qbA]
   generalize hp:Int.tdiv xs[i] (g:Int)=p
   generalize hq:Int.tdiv ys[i] (h:Int)=q
   unfold sgn
   by_cases a1:p<q
   ·simp [a1]
   ·by_cases a2:q<p
    ·simp [a1,a2]
    ·rw [if_neg a1,if_neg a2,if_neg a1,if_neg a2]
     simp only [decide_true,Bool.not_true,cond_false]
     exact q6v N g h hg hh xs ys hl h4 hx hy c c' s s' k (i+1) (by omega) n (by omega)
theorem ztM (a b:Val qa) (h:qeq a b): ∃N,qF2 N a b=some (qbK a b,()):=⟨List.length (α:=Val (.int .i64)) a.1+1,by
 obtain ⟨ha,hb,hl⟩:=h
 rw [qF2,qe (show qga a from ha),qe (show qga b from hb)]
 have:=q6v (List.length (α:=Val (.int .i64)) a.1+1) (gS (atm a)) (gS (atm b)) (by have:=qeh (atm a);omega) (by have:=qeh (atm b);omega) a.1 b.1 hl (by have:=(qbb ha).1;omega) (qkM ha) (qkM hb) a.2.1 b.2.1 a.2.2 b.2.2 _ 0 rfl _ (Nat.lt_succ_self _)
 simp only [List.drop_zero]at this
 exact this⟩
theorem q7F:Sound Tryz.prog 290 qeQ:=qr (tt:=tt) (Γ:=qma) hT (qg q73 (qg q6i qn)) hm (fn:=Tryz.f290) Tryz.func290 (c:=Tryz.f290.body.getD .skip) (by kernel_rfl) (by kernel_rfl) fun x hx=>by
 obtain ⟨N,h⟩:=ztM x.1 x.2.1 hx
 exact ⟨qdG N,zfq,qu _,zfG N,(zff N x.1 x.2.1).trans h⟩
def zqj:G:={ps:=[ql,ql],rs:=[i3],dp:=true,pre:=fun _=>True,fn:=fun x=>(ql8 x.1 x.2.1,())}
noncomputable def qF9 (N:Nat) (v0:Val qa) (v1:Val qa):Option (qc [i3]):=bif (!((qP v0):Bool))then (some ((2:Int),()))else (bif (!((qP v1):Bool))then (some ((2:Int),()))else (bif (!(decide (((v0.1:List (Val (.int .i64))).length:Int)=((v1.1:List (Val (.int .i64))).length:Int))))then (some ((2:Int),()))else (chk (qeq v0 v1) (bif (!(decide (((qbK v0 v1):Int)=(0:Int))))then (some (((qbK v0 v1):Int),()))else (chk (qga v1) (chk (qga v0) (bif (!(decide (((sgn (IntKind.i64.wrap ((v0.2.1:Int)*((gSv v1):Int))) (IntKind.i64.wrap ((v1.2.1:Int)*((gSv v0):Int)))):Int)=(0:Int))))then (some (((sgn (IntKind.i64.wrap ((v0.2.1:Int)*((gSv v1):Int))) (IntKind.i64.wrap ((v1.2.1:Int)*((gSv v0):Int)))):Int),()))else (bif ((v0.2.2:Bool)==(v1.2.2:Bool))then (some ((0:Int),()))else (bif (v0.2.2:Bool)then (some ((1:Int),()))else (some ((-1:Int),())))))))))))
def qpn:Gam:=[(279,qaV),(290,qeQ),(317,qhm),(318,qhn)]
theorem zb9:Gam.get qpn 279=some qaV:=rfl
theorem zwr:Gam.get qpn 290=some qeQ:=rfl
theorem zmZ:Gam.get qpn 317=some qhm:=rfl
theorem zzW:Gam.get qpn 318=some qhn:=rfl
def qC2:Nat→Tree:=fun i=>if i=6 then .quiet 2 (.keep 0 (.keep 1 (.keep 5 (.keep 6 (.keep 7 (.alt 3 (.first 4 (.alt 8 (.quiet 9 (.alt 10 (.quiet 11 .done) .stop)) .stop)) .stop))))))else .done
def qJI:Nat→Nm:=fun _=>⟨[],[],false⟩
def qWH:Nat→Option Jn:=fun _=>none
def qLM:Nat→Option Nm:=fun _=>none
def q2H:Nat→Option Nm:=fun _=>none
theorem zvO:qh qC2 (Tryz.f289.body.getD .skip)=true:=by kernel_rfl
def qfg (N:Nat):Tab:={tr:=qC2,lp:=qJI,ex:=qLM,rg:=q2H,jn:=qWH,fuel:=N}
theorem zhh (N:Nat):(qfg N).pins=false:=rfl
theorem zjr (N:Nat):qk Tryz.prog (qfg N):=qo fun _=>rfl
theorem zkU (N:Nat) (i:Nat):(qfg N).tr i=qC2 i:=rfl
theorem zcU (N:Nat) (i:Nat):(qfg N).lp i=qJI i:=rfl
theorem zwG (N:Nat) (i:Nat):(qfg N).ex i=qLM i:=rfl
theorem zhI (N:Nat) (i:Nat):(qfg N).rg i=q2H i:=rfl
theorem zqI (N:Nat) (i:Nat):(qfg N).jn i=qWH i:=rfl
theorem zzG (N:Nat):(qfg N).fuel=N:=rfl
theorem zkZ (N:Nat) (v0:Val qa) (v1:Val qa):qf tt qpn (qfg N) (Tryz.f289.body.getD .skip) (qm tt true [i3] [.tmp 4]) (qp [ql,ql] 51 (v0,v1,()))=qF9 N v0 v1:=by
 rw [qF9];unfold Tryz.f289
 simp (maxSteps:=10000000) -implicitDefEqProofs [zkU,qC2,zcU,qJI,zwG,qLM,zhI,q2H,zqI,qWH,zzG,zhh,zb9,zwr,zmZ,zzW,qaV,qeQ,qhm,qhn]
 try rfl
theorem zkC (a b:Val qa): ∃N,qF9 N a b=some (ql8 a b,()):=⟨0,by
 rw [qF9,ql8]
 cases ha:qP a with
 | false=>simp
 | true=>
   cases hb:qP b with
   | false=>simp
   | true=>
     by_cases hl:List.length (α:=Int) a.1=List.length (α:=Int) b.1
     ·have hl':((List.length (α:=Val (.int .i64)) a.1:Nat):Int)=(List.length (α:=Val (.int .i64)) b.1:Nat):=by exact_mod_cast hl
      have h1:=qgR ha
      have h2:=qgR hb
      have g1:=qEB ha
      have g2:=qEB hb
      have p1:=qeh (atm a)
      have p2:=qeh (atm b)
      simp only [hl,decide_true,Bool.and_self,cond_true,Bool.not_true,cond_false]
      rw [qe (show qeq a b from ⟨ha,hb,hl⟩),qe (show qga b from hb),qe (show qga a from ha)]
      rw [qiy h1 ⟨by unfold gSv;omega,g2⟩,qiy h2 ⟨by unfold gSv;omega,g1⟩,zl5]
      have e1:sgI (a.2.1*gSv b - b.2.1*gSv a)=qhy (atm a) (atm b):=rfl
      rw [e1]
      unfold qbp qbK
      by_cases w0:way (atm a) (atm b)=0
      ·by_cases s0:qhy (atm a) (atm b)=0
       ·simp only [w0,s0,decide_true,Bool.not_true,cond_false,if_true]
        unfold stc
        cases a.2.2<;>cases b.2.2<;>rfl
       ·simp [w0,s0]
      ·simp [w0]
     ·have hl': ¬((List.length (α:=Val (.int .i64)) a.1:Nat):Int)=(List.length (α:=Val (.int .i64)) b.1:Nat):=by exact_mod_cast hl
      simp only [hl,decide_false,Bool.and_false,cond_false,Bool.not_true]
      rw [qbi,qi hl']⟩
theorem zxy:Sound Tryz.prog 289 zqj:=qr (tt:=tt) (Γ:=qpn) hT (qg qnv (qg q7F (qg q73 (qg q6i qn)))) hm (fn:=Tryz.f289) Tryz.func289 (c:=Tryz.f289.body.getD .skip) (by kernel_rfl) (by kernel_rfl) fun x hx=>by
 obtain ⟨N,h⟩:=zkC x.1 x.2.1
 exact ⟨qfg N,zvO,qu _,zjr N,(zkZ N x.1 x.2.1).trans h⟩
def qa8 (d:Int):Val Y33:=(d,[(List.replicate d.toNat (0:Int),(1:Int),false)])
def qcy (d:Int):Prop:=0≤d∧d≤1048576
def idL (l:List (Val (.int .i64))):List (Val (.int .i64)):=l
def qwV (l:List (Val (.int .i64))):Prop:=l.length≤1048576
def idA (a:Val qa):Val qa:=a
def qbF (a:Val qa):Prop:=List.length (α:=Val (.int .i64)) a.1≤1048576
def qbT:G:={ps:=[i3],rs:=[i33],dp:=true,pre:=fun x=>qcy x.1,fn:=fun x=>(qa8 x.1,())}
def qzx:G:={ps:=[i25],rs:=[i25],dp:=true,pre:=fun x=>qwV x.1,fn:=fun x=>(idL x.1,())}
noncomputable def qGN (N:Nat) (v0:Int):Option (qc [i33]):=chk (0≤v0∧v0≤v0∧v0≤1048576) (some ((v0,([((List.replicate v0.toNat (qb (.int .i64))),(1:Int),false)]:List (Val qa))),()))
def q9s:Gam:=[]
def qB3:Nat→Tree:=fun _=> .done
def qM4:Nat→Nm:=fun _=>⟨[],[],false⟩
def q1o:Nat→Option Jn:=fun _=>none
def qZQ:Nat→Option Nm:=fun _=>none
def q1Q:Nat→Option Nm:=fun _=>none
theorem zpg:qh qB3 (Tryz.f213.body.getD .skip)=true:=by kernel_rfl
def qgi (N:Nat):Tab:={tr:=qB3,lp:=qM4,ex:=qZQ,rg:=q1Q,jn:=q1o,fuel:=N}
theorem zzY (N:Nat):(qgi N).pins=false:=rfl
theorem zjJ (N:Nat):qk Tryz.prog (qgi N):=qo fun _=>rfl
theorem zlq (N:Nat) (i:Nat):(qgi N).tr i=qB3 i:=rfl
theorem zlf (N:Nat) (i:Nat):(qgi N).lp i=qM4 i:=rfl
theorem ztx (N:Nat) (i:Nat):(qgi N).ex i=qZQ i:=rfl
theorem zoK (N:Nat) (i:Nat):(qgi N).rg i=q1Q i:=rfl
theorem zbC (N:Nat) (i:Nat):(qgi N).jn i=q1o i:=rfl
theorem zwg (N:Nat):(qgi N).fuel=N:=rfl
theorem zl3 (N:Nat) (v0:Int):qf tt q9s (qgi N) (Tryz.f213.body.getD .skip) (qm tt true [i33] [.cell 2 33]) (qp [i3] 9 (v0,()))=qGN N v0:=by
 rw [qGN];unfold Tryz.f213
 simp (maxSteps:=10000000) -implicitDefEqProofs [zlq,qB3,zlf,qM4,ztx,qZQ,zoK,q1Q,zbC,q1o,zwg,zzY]
 try rfl
noncomputable def qzE (N:Nat) (v0:List (Val (.int .i64))):Option (qc [i25]):=chk (([]:List (Val (.int .i64))).length+v0.length≤1048576) (some ((([]:List (Val (.int .i64)))++v0),()))
def q9v:Gam:=[]
def qG5:Nat→Tree:=fun _=> .done
def q0e:Nat→Nm:=fun _=>⟨[],[],false⟩
def q4d:Nat→Option Jn:=fun _=>none
def qRV:Nat→Option Nm:=fun _=>none
def qPr:Nat→Option Nm:=fun _=>none
theorem zzU:qh qG5 (Tryz.f238.body.getD .skip)=true:=by kernel_rfl
def qfd (N:Nat):Tab:={tr:=qG5,lp:=q0e,ex:=qRV,rg:=qPr,jn:=q4d,fuel:=N}
theorem zb1 (N:Nat):(qfd N).pins=false:=rfl
theorem zqU (N:Nat):qk Tryz.prog (qfd N):=qo fun _=>rfl
theorem zlP (N:Nat) (i:Nat):(qfd N).tr i=qG5 i:=rfl
theorem zdS (N:Nat) (i:Nat):(qfd N).lp i=q0e i:=rfl
theorem zhO (N:Nat) (i:Nat):(qfd N).ex i=qRV i:=rfl
theorem zeN (N:Nat) (i:Nat):(qfd N).rg i=qPr i:=rfl
theorem zfx (N:Nat) (i:Nat):(qfd N).jn i=q4d i:=rfl
theorem zoU (N:Nat):(qfd N).fuel=N:=rfl
theorem zlA (N:Nat) (v0:List (Val (.int .i64))):qf tt q9v (qfd N) (Tryz.f238.body.getD .skip) (qm tt true [i25] [.tmp 2]) (qp [i25] 6 (v0,()))=qzE N v0:=by
 rw [qzE];unfold Tryz.f238
 simp (maxSteps:=10000000) -implicitDefEqProofs [zlP,qG5,zdS,q0e,zhO,qRV,zeN,qPr,zfx,q4d,zoU,zb1]
 try rfl
theorem zsM (d:Int) (h:qcy d): ∃N,qGN N d=some (qa8 d,()):=⟨0,by
 rw [qGN,qe ⟨h.1,Int.le_refl _,h.2⟩];rfl⟩
theorem zbV (l:List (Val (.int .i64))) (h:qwV l): ∃N,qzE N l=some (idL l,()):=⟨0,by
 rw [qzE,qe (by simpa [qwV] using h)];rfl⟩
theorem q2S:Sound Tryz.prog 213 qbT:=qr (tt:=tt) (Γ:=q9s) hT qn hm (fn:=Tryz.f213) Tryz.func213 (c:=Tryz.f213.body.getD .skip) (by kernel_rfl) (by kernel_rfl) fun x hx=>by
 obtain ⟨N,h⟩:=zsM x.1 hx
 exact ⟨qgi N,zpg,qu _,zjJ N,(zl3 N x.1).trans h⟩
theorem zjs:Sound Tryz.prog 238 qzx:=qr (tt:=tt) (Γ:=q9v) hT qn hm (fn:=Tryz.f238) Tryz.func238 (c:=Tryz.f238.body.getD .skip) (by kernel_rfl) (by kernel_rfl) fun x hx=>by
 obtain ⟨N,h⟩:=zbV x.1 hx
 exact ⟨qfd N,zzU,qu _,zqU N,(zlA N x.1).trans h⟩
def qdH:G:={ps:=[ql],rs:=[ql],dp:=true,pre:=fun x=>qbF x.1,fn:=fun x=>(idA x.1,())}
noncomputable def qDE (N:Nat) (v0:Val qa):Option (qc [ql]):=chk (qwV (v0.1:List (Val (.int .i64)))) (some ((((idL (v0.1:List (Val (.int .i64)))):List (Val (.int .i64))),(v0.2.1:Int),(v0.2.2:Bool)),()))
def qOo:Gam:=[(238,qzx)]
theorem znr:Gam.get qOo 238=some qzx:=rfl
def qzJ:Nm:=⟨[false,false,true],[],false⟩
theorem zBu:qzJ.zero=false:=rfl
theorem zkV:qzJ.fix=[]:=rfl
theorem zvn:qzJ.keep=[false,false,true]:=rfl
def qHd:Nat→Tree:=fun i=>if i=1 then .quiet 0 (.quiet 1 (.alt 2 (.quiet 3 (.quiet 4 (.quiet 5 (.quiet 6 (.quiet 7 (.alt 8 .done .stop)))))) (.alt 3 (.alt 2 (.quiet 4 (.quiet 5 (.quiet 6 (.quiet 7 (.alt 8 .done .stop))))) (.alt 4 (.alt 2 (.quiet 5 (.quiet 6 (.quiet 7 (.alt 8 .done .stop)))) (.alt 5 (.alt 2 (.quiet 6 (.quiet 7 (.alt 8 .done .stop))) (.alt 6 (.alt 2 (.quiet 7 (.alt 8 .done .stop)) .stop) .stop)) .stop)) (.alt 5 (.alt 2 (.quiet 4 (.quiet 6 (.quiet 7 (.alt 8 .done .stop)))) (.alt 4 (.alt 2 (.quiet 6 (.quiet 7 (.alt 8 .done .stop))) (.alt 6 (.alt 2 (.quiet 7 (.alt 8 .done .stop)) .stop) .stop)) (.alt 6 (.alt 2 (.quiet 4 (.quiet 7 (.alt 8 .done .stop))) (.alt 4 (.alt 2 (.quiet 7 (.alt 8 .done .stop)) .stop) .stop)) .stop))) .stop))) (.alt 5 (.alt 2 (.quiet 3 (.quiet 4 (.quiet 6 (.quiet 7 (.alt 8 .done .stop))))) (.alt 3 (.alt 2 (.quiet 4 (.quiet 6 (.quiet 7 (.alt 8 .done .stop)))) (.alt 4 (.alt 2 (.quiet 6 (.quiet 7 (.alt 8 .done .stop))) (.alt 6 (.alt 2 (.quiet 7 (.alt 8 .done .stop)) .stop) .stop)) (.alt 6 (.alt 2 (.quiet 4 (.quiet 7 (.alt 8 .done .stop))) (.alt 4 (.alt 2 (.quiet 7 (.alt 8 .done .stop)) .stop) .stop)) .stop))) (.alt 6 (.alt 2 (.quiet 3 (.quiet 4 (.quiet 7 (.alt 8 .done .stop)))) (.alt 3 (.alt 2 (.quiet 4 (.quiet 7 (.alt 8 .done .stop))) (.alt 4 (.alt 2 (.quiet 7 (.alt 8 .done .stop)) .stop) .stop)) .stop)) .stop))) .stop))))else .done
def qWS:Nat→Nm:=fun _=>⟨[],[],false⟩
def qJX:Nat→Option Jn:=fun _=>none
def q4B:Nat→Option Nm:=fun _=>none
def qIq:Nat→Option Nm:=fun i=>if i=1 then some qzJ else none
theorem zse:qh qHd (Tryz.f236.body.getD .skip)=true:=by kernel_rfl
def qfR (N:Nat):Tab:={tr:=qHd,lp:=qWS,ex:=q4B,rg:=qIq,jn:=qJX,fuel:=N}
theorem znv (N:Nat):(qfR N).pins=false:=rfl
theorem zBd (N:Nat):qk Tryz.prog (qfR N):=qo fun _=>rfl
theorem zol (N:Nat) (i:Nat):(qfR N).tr i=qHd i:=rfl
theorem za9 (N:Nat) (i:Nat):(qfR N).lp i=qWS i:=rfl
theorem zBy (N:Nat) (i:Nat):(qfR N).ex i=q4B i:=rfl
theorem zcD (N:Nat) (i:Nat):(qfR N).rg i=qIq i:=rfl
theorem zze (N:Nat) (i:Nat):(qfR N).jn i=qJX i:=rfl
theorem zwl (N:Nat):(qfR N).fuel=N:=rfl
theorem zhj (N:Nat) (v0:Val qa):qf tt qOo (qfR N) (Tryz.f236.body.getD .skip) (qm tt true [ql] [.cell 2 108]) (qp [ql] 11 (v0,()))=qDE N v0:=by
 rw [qDE];unfold Tryz.f236
 simp (maxSteps:=10000000) -implicitDefEqProofs [zol,qHd,za9,qWS,zBy,q4B,zcD,qIq,zze,qJX,zwl,znv,zkV,zvn,zBu,znr,qzx]
 try rfl
theorem zzZ (a:Val qa) (h:qbF a): ∃N,qDE N a=some (idA a,()):=⟨0,by
 rw [qDE,qe (show qwV a.1 from h)];rfl⟩
theorem q7m:Sound Tryz.prog 236 qdH:=qr (tt:=tt) (Γ:=qOo) hT (qg zjs qn) hm (fn:=Tryz.f236) Tryz.func236 (c:=Tryz.f236.body.getD .skip) (by kernel_rfl) (by kernel_rfl) fun x hx=>by
 obtain ⟨N,h⟩:=zzZ x.1 hx
 exact ⟨qfR N,zse,qu _,zBd N,(zhj N x.1).trans h⟩
end Go.T
