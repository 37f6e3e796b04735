/- Atoms: their directions, their order. -/
import Derived.Test.YthefcjjgchekiaaGreatA8a
set_option linter.unusedSimpArgs false
set_option linter.unusedVariables false
namespace Go.T
open Go Go.Proofs
set_option maxHeartbeats 4000000
set_option maxRecDepth 100000
abbrev atm (a:Val qa):Atm:=a
def okA (a:Val qa):Prop:=qA a=true
def q6 (a:Val qa):Bool:=decide (gL 0 (atm a).1≠0)
def qmj (a:Val qa):Prop:=okA a
def gSv (a:Val qa):Int:=(gS (atm a):Int)
def qfZ (a:Val qa):Prop:=okA a
def sgn (a b:Int):Int:=if a<b then -1 else if b<a then 1 else 0
def qa1 (a b:Val qa):Int:=way (atm a) (atm b)
def qeh (a b:Val qa):Prop:=okA a∧okA b∧List.length (α:=Int) a.1=List.length (α:=Int) b.1
def qlm (a b:Val qa):Int:=bif qA a&&qA b&&decide (List.length (α:=Int) a.1=List.length (α:=Int) b.1)then qaG (atm a) (atm b)else 2
theorem qkS {a:Val qa} (h:okA a): ∀x∈(a.1:List Int),inI x:=fun x hx=>by
 have h1: @LE.le Int _ (-400000000) x∧ @LE.le Int _ x 400000000:=(qaN h).2.2 x hx
 unfold inI;omega
theorem qyJ {a:Val qa} (h:okA a):qfF a.1:=⟨by have:=(qaN h).1;omega,qkS h⟩
theorem qmc {a:Val qa} (h:okA a): -400000000≤(a.2.1:Int)∧ @LE.le Int _ a.2.1 400000000:=by
 have h:qA a=true:=h
 unfold qA at h
 simp only [Bool.and_eq_true,decide_eq_true_eq]at h
 exact of_decide_eq_true h.1.1.2
theorem qTa {a:Val qa} (h:okA a) (hv:q6 a=true):qlf (atm a):=by
 have h:qA a=true:=h
 unfold qA at h
 simp only [Bool.and_eq_true,decide_eq_true_eq]at h
 have h2:=h.2
 exact ⟨of_decide_eq_true hv,by have h2:((gL (Int.natAbs a.2.1) a.1:Nat):Int)≤1:=h2;show gL (Int.natAbs a.2.1) a.1≤1;omega⟩
theorem qzN {a:Val qa} (h:okA a):gSv a≤400000000:=by
 unfold gSv gS
 by_cases h0:gL 0 (atm a).1=0
 ·rw [h0];decide
 ·obtain ⟨x,hx,hne⟩: ∃x∈(atm a).1,x≠0:=by
   apply Classical.byContradiction
   intro hn
   exact h0 (qJu.2 fun x hx=>Classical.byContradiction fun hne=>hn ⟨x,hx,hne⟩)
  have h1:=(qpU (atm a).1 0).2 x hx
  have h2:=Nat.le_of_dvd (by omega) h1
  have h3: @LE.le Int _ (-400000000) x∧ @LE.le Int _ x 400000000:=(qaN h).2.2 x hx
  omega
theorem q54 (p q:Int):sgn p q=sgI (p - q):=by
 unfold sgn sgI
 split<;>split<;>(try split)<;>omega
theorem qyq {x y:Int} (h1: -400000000≤x∧x≤400000000) (h2:0≤y∧y≤400000000):IntKind.i64.wrap (x*y)=x*y:=by
 have h:(x*y).natAbs≤400000000*400000000:=by
  rw [Int.natAbs_mul];exact Nat.mul_le_mul (by omega) (by omega)
 exact qaf (by omega) (by omega)
def qfq:G:={ps:=[qg],rs:=[i4],dp:=true,pre:=fun x=>qmj x.1,fn:=fun x=>(q6 x.1,())}
def qgX:G:={ps:=[qg],rs:=[i3],dp:=true,pre:=fun x=>qfZ x.1,fn:=fun x=>(gSv x.1,())}
def qg9:G:={ps:=[i3,i3],rs:=[i3],dp:=true,pre:=fun _=>True,fn:=fun x=>(sgn x.1 x.2.1,())}
noncomputable def qvT (N:Nat) (v0:Val qa):Option (qb [i4]):=chk (qfF (v0.1:List (Val (.int .i64)))) (some ((!(decide (((qaF (v0.1:List (Val (.int .i64)))):Int)=(0:Int)))),()))
def qM6:Gam:=[(282,qbn)]
theorem q35:Gam.get qM6 282=some qbn:=rfl
def qv4:Nat→Tree:=fun _=> .done
def qIl:Nat→Nm:=fun _=>⟨[],[],false⟩
def qGG:Nat→Option Jn:=fun _=>none
def qNT:Nat→Option Nm:=fun _=>none
def qKc:Nat→Option Nm:=fun _=>none
theorem q9g:qj qv4 (Tryz.f287.body.getD .skip)=true:=by kernel_rfl
def qfR (N:Nat):Tab:={tr:=qv4,lp:=qIl,ex:=qNT,rg:=qKc,jn:=qGG,fuel:=N}
theorem qYy (N:Nat):(qfR N).pins=false:=rfl
theorem q85 (N:Nat):qn Tryz.prog (qfR N):=qr fun _=>rfl
theorem q2w (N:Nat) (i:Nat):(qfR N).tr i=qv4 i:=rfl
theorem qXf (N:Nat) (i:Nat):(qfR N).lp i=qIl i:=rfl
theorem zdx (N:Nat) (i:Nat):(qfR N).ex i=qNT i:=rfl
theorem q8G (N:Nat) (i:Nat):(qfR N).rg i=qKc i:=rfl
theorem q6L (N:Nat) (i:Nat):(qfR N).jn i=qGG i:=rfl
theorem qZ7 (N:Nat):(qfR N).fuel=N:=rfl
theorem zau (N:Nat) (v0:Val qa):qd tt qM6 (qfR N) (Tryz.f287.body.getD .skip) (qo tt true [i4] [.tmp 2]) (qt [qg] 7 (v0,()))=qvT N v0:=by
 rw [qvT];unfold Tryz.f287
 simp (maxSteps:=10000000) -implicitDefEqProofs [q2w,qv4,qXf,qIl,zdx,qNT,q8G,qKc,q6L,qGG,qZ7,qYy,q35,qbn]
 try rfl
noncomputable def qwD (N:Nat) (v0:Val qa):Option (qb [i3]):=chk (qfF (v0.1:List (Val (.int .i64)))) (bif (decide (((qaF (v0.1:List (Val (.int .i64)))):Int)=(0:Int)))then (some ((1:Int),()))else (some (((qaF (v0.1:List (Val (.int .i64)))):Int),())))
def qJ5:Gam:=[(282,qbn)]
theorem q0v:Gam.get qJ5 282=some qbn:=rfl
def qx1:Nat→Tree:=fun _=> .done
def qIC:Nat→Nm:=fun _=>⟨[],[],false⟩
def qCa:Nat→Option Jn:=fun _=>none
def qHs:Nat→Option Nm:=fun _=>none
def qGx:Nat→Option Nm:=fun _=>none
theorem qZg:qj qx1 (Tryz.f318.body.getD .skip)=true:=by kernel_rfl
def qgD (N:Nat):Tab:={tr:=qx1,lp:=qIC,ex:=qHs,rg:=qGx,jn:=qCa,fuel:=N}
theorem q7U (N:Nat):(qgD N).pins=false:=rfl
theorem zaL (N:Nat):qn Tryz.prog (qgD N):=qr fun _=>rfl
theorem zc6 (N:Nat) (i:Nat):(qgD N).tr i=qx1 i:=rfl
theorem zaU (N:Nat) (i:Nat):(qgD N).lp i=qIC i:=rfl
theorem qVm (N:Nat) (i:Nat):(qgD N).ex i=qHs i:=rfl
theorem q07 (N:Nat) (i:Nat):(qgD N).rg i=qGx i:=rfl
theorem qZD (N:Nat) (i:Nat):(qgD N).jn i=qCa i:=rfl
theorem qW2 (N:Nat):(qgD N).fuel=N:=rfl
theorem qV6 (N:Nat) (v0:Val qa):qd tt qJ5 (qgD N) (Tryz.f318.body.getD .skip) (qo tt true [i3] [.tmp 2]) (qt [qg] 10 (v0,()))=qwD N v0:=by
 rw [qwD];unfold Tryz.f318
 simp (maxSteps:=10000000) -implicitDefEqProofs [zc6,qx1,zaU,qIC,qVm,qHs,q07,qGx,qZD,qCa,qW2,q7U,q0v,qbn]
 try rfl
noncomputable def qwM (N:Nat) (v0:Int) (v1:Int):Option (qb [i3]):=bif (decide (v0<v1))then (some ((-1:Int),()))else (bif (decide (v1<v0))then (some ((1:Int),()))else (some ((0:Int),())))
def qRl:Gam:=[]
def qAh:Nat→Tree:=fun _=> .done
def qBR:Nat→Nm:=fun _=>⟨[],[],false⟩
def qIA:Nat→Option Jn:=fun _=>none
def qDC:Nat→Option Nm:=fun _=>none
def qKG:Nat→Option Nm:=fun _=>none
theorem zbm:qj qAh (Tryz.f317.body.getD .skip)=true:=by kernel_rfl
def qgq (N:Nat):Tab:={tr:=qAh,lp:=qBR,ex:=qDC,rg:=qKG,jn:=qIA,fuel:=N}
theorem q1F (N:Nat):(qgq N).pins=false:=rfl
theorem q4y (N:Nat):qn Tryz.prog (qgq N):=qr fun _=>rfl
theorem q6u (N:Nat) (i:Nat):(qgq N).tr i=qAh i:=rfl
theorem q9V (N:Nat) (i:Nat):(qgq N).lp i=qBR i:=rfl
theorem zbr (N:Nat) (i:Nat):(qgq N).ex i=qDC i:=rfl
theorem q9G (N:Nat) (i:Nat):(qgq N).rg i=qKG i:=rfl
theorem q1s (N:Nat) (i:Nat):(qgq N).jn i=qIA i:=rfl
theorem q4S (N:Nat):(qgq N).fuel=N:=rfl
theorem q9e (N:Nat) (v0:Int) (v1:Int):qd tt qRl (qgq N) (Tryz.f317.body.getD .skip) (qo tt true [i3] [.tmp 4]) (qt [i3,i3] 11 (v0,v1,()))=qwM N v0 v1:=by
 rw [qwM];unfold Tryz.f317
 simp (maxSteps:=10000000) -implicitDefEqProofs [q6u,qAh,q9V,qBR,zbr,qDC,q9G,qKG,q1s,qIA,q4S,q1F]
 try rfl
theorem q6e (a:Val qa) (h:qmj a): ∃N,qvT N a=some (q6 a,()):=⟨0,by
 rw [qvT,qe (qyJ h)]
 unfold q6 qaF
 have e:(((gL 0 (atm a).1:Nat):Int)=0)↔(gL 0 (atm a).1=0):=by omega
 by_cases h0:gL 0 (atm a).1=0
 ·simp [h0]
 ·simp [h0]⟩
theorem zbg (a:Val qa) (h:qfZ a): ∃N,qwD N a=some (gSv a,()):=⟨0,by
 rw [qwD,qe (qyJ h)]
 unfold gSv gS qaF
 by_cases h0:gL 0 (atm a).1=0
 ·rw [ql (by show ((gL 0 (atm a).1:Nat):Int)=0;omega),h0];rfl
 ·rw [qi (by show ¬((gL 0 (atm a).1:Nat):Int)=0;omega)]
  rw [Nat.max_eq_right (by omega)]⟩
theorem qYq (a b:Int): ∃N,qwM N a b=some (sgn a b,()):=⟨0,by
 rw [qwM,sgn]
 by_cases h1:a<b<;>by_cases h2:b<a<;>simp [h1,h2]⟩
theorem qQ7:Sound Tryz.prog 287 qfq:=qu (tt:=tt) (Γ:=qM6) hT (qf qAr qq) hm (fn:=Tryz.f287) Tryz.func287 (c:=Tryz.f287.body.getD .skip) (by kernel_rfl) (by kernel_rfl) fun x hx=>by
 obtain ⟨N,h⟩:=q6e x.1 hx
 exact ⟨qfR N,q9g,qv _,q85 N,(zau N x.1).trans h⟩
theorem qTR:Sound Tryz.prog 318 qgX:=qu (tt:=tt) (Γ:=qJ5) hT (qf qAr qq) hm (fn:=Tryz.f318) Tryz.func318 (c:=Tryz.f318.body.getD .skip) (by kernel_rfl) (by kernel_rfl) fun x hx=>by
 obtain ⟨N,h⟩:=zbg x.1 hx
 exact ⟨qgD N,qZg,qv _,zaL N,(qV6 N x.1).trans h⟩
theorem qRL:Sound Tryz.prog 317 qg9:=qu (tt:=tt) (Γ:=qRl) hT qq hm (fn:=Tryz.f317) Tryz.func317 (c:=Tryz.f317.body.getD .skip) (by kernel_rfl) (by kernel_rfl) fun x hx=>by
 obtain ⟨N,h⟩:=qYq x.1 x.2.1
 exact ⟨qgq N,zbm,qv _,q4y N,(q9e N x.1 x.2.1).trans h⟩
def qfu:G:={ps:=[qg,qg],rs:=[i3],dp:=true,pre:=fun x=>qeh x.1 x.2.1,fn:=fun x=>(qa1 x.1 x.2.1,())}
noncomputable def qkY (N:Nat) (v2:Int) (v3:Int) (v4:Int) (v6:List (Val (.int .i64))) (v7:Int) (v8:Bool) (v9:List (Val (.int .i64))) (v10:Int) (v11:Bool) (k0:Unit→Option (qb [i3])):Nat→Int→Option (qb [i3])
 | 0,_=>none
 | n+1,v5=>bif (decide (v5<v4))then (chk (0≤v5∧v5<(v6.length:Int)) (chk (v2≠0) (chk (0≤v5∧v5<(v9.length:Int)) (chk (v3≠0) (bif (!(decide (((sgn (IntKind.i64.wrap (((v6.getD v5.toNat (qc (.int .i64))):Int).tdiv v2)) (IntKind.i64.wrap (((v9.getD v5.toNat (qc (.int .i64))):Int).tdiv v3))):Int)=(0:Int))))then (some (((sgn (IntKind.i64.wrap (((v6.getD v5.toNat (qc (.int .i64))):Int).tdiv v2)) (IntKind.i64.wrap (((v9.getD v5.toNat (qc (.int .i64))):Int).tdiv v3))):Int),()))else (qkY N v2 v3 v4 v6 v7 v8 v9 v10 v11 k0 n (IntKind.i64.wrap (v5+(1:Int)))))))))else (k0 ())
noncomputable def qzi (N:Nat) (v0:Val qa) (v1:Val qa):Option (qb [i3]):=chk (qfZ v0) (chk (qfZ v1) (qkY N ((gSv v0):Int) ((gSv v1):Int) ((v0.1:List (Val (.int .i64))).length:Int) (v0.1:List (Val (.int .i64))) (v0.2.1:Int) (v0.2.2:Bool) (v1.1:List (Val (.int .i64))) (v1.2.1:Int) (v1.2.2:Bool) (fun (_:Unit)=>some ((0:Int),())) N (0:Int)))
def qjw:Gam:=[(317,qg9),(318,qgX)]
theorem qMW:Gam.get qjw 317=some qg9:=rfl
theorem qJc:Gam.get qjw 318=some qgX:=rfl
def qoB:Nm:=⟨[false,false,true,true,false,true,true,false,false,false,false,false,false,false,false,true,true],[],false⟩
theorem qG6:qoB.zero=false:=rfl
theorem qER:qoB.fix=[]:=rfl
theorem qFm:qoB.keep=[false,false,true,true,false,true,true,false,false,false,false,false,false,false,false,true,true]:=rfl
def qvP:Nm:=⟨[],[],false⟩
theorem qG4:qvP.zero=false:=rfl
theorem qE9:qvP.fix=[]:=rfl
theorem qBB:qvP.keep=[]:=rfl
def qwV:Nm:=⟨[false,false,true,true,false,true,true],[],false⟩
theorem qKf:qwV.zero=false:=rfl
theorem qHZ:qwV.fix=[]:=rfl
theorem qD8:qwV.keep=[false,false,true,true,false,true,true]:=rfl
def qlZ:Nat→Tree:=fun i=>if i=1 then .quiet 0 (.alt 1 (.quiet 2 (.alt 3 (.quiet 4 (.quiet 5 .done)) .stop)) (.alt 2 (.alt 1 (.alt 3 (.quiet 4 (.quiet 5 .done)) .stop) .stop) .stop))else if i=5 then .quiet 0 (.quiet 1 (.quiet 2 (.quiet 3 (.quiet 4 (.quiet 5 (.quiet 6 (.quiet 7 (.quiet 8 (.quiet 9 (.quiet 10 (.quiet 11 (.quiet 12 (.quiet 13 (.alt 14 (.quiet 15 .done) .stop))))))))))))))else .done
def qry:Nat→Nm:=fun i=>if i=3 then qoB else ⟨[],[],false⟩
def qq9:Nat→Option Jn:=fun _=>none
def quj:Nat→Option Nm:=fun i=>if i=0 then some qvP else none
def qrR:Nat→Option Nm:=fun i=>if i=1 then some qwV else none
theorem qVi:qj qlZ (Tryz.f290.body.getD .skip)=true:=by kernel_rfl
def qcH (N:Nat):Tab:={tr:=qlZ,lp:=qry,ex:=quj,rg:=qrR,jn:=qq9,fuel:=N}
theorem qD5 (N:Nat):(qcH N).pins=false:=rfl
theorem qXU (N:Nat):qn Tryz.prog (qcH N):=qr fun _=>rfl
theorem qO2 (N:Nat) (i:Nat):(qcH N).tr i=qlZ i:=rfl
theorem qJg (N:Nat) (i:Nat):(qcH N).lp i=qry i:=rfl
theorem qGh (N:Nat) (i:Nat):(qcH N).ex i=quj i:=rfl
theorem qB3 (N:Nat) (i:Nat):(qcH N).rg i=qrR i:=rfl
theorem qH8 (N:Nat) (i:Nat):(qcH N).jn i=qq9 i:=rfl
theorem qIc (N:Nat):(qcH N).fuel=N:=rfl
noncomputable def qRI:Code:=cut [true,true,false,true,true,true] (Tryz.f290.body.getD .skip)
theorem zax {N:Nat} {Q:X→St→Option (qb [i3])} {e:List LV} {h:List Blk}:qd tt qjw (qcH N) qRI Q ⟨e,h⟩=qd tt qjw (qcH N) (cut [true,true,false,true,true,true] (Tryz.f290.body.getD .skip)) Q ⟨e,h⟩:=rfl
theorem q9E (N:Nat) (v2:Int) (v3:Int) (v4:Int) (v6:List (Val (.int .i64))) (v7:Int) (v8:Bool) (v9:List (Val (.int .i64))) (v10:Int) (v11:Bool) {k0:Unit→Option (qb [i3])} {Q:X→St→Option (qb [i3])} {c:Code} (hc:c=qRI) (hret: ∀st,Q .ret st=qB tt true [i3] [.tmp 4] st) (h0:Q (.exit 0) ⟨[u,u,u,u,u,u,u,u,u,u,u,u,u,u,u,u,u,u,u,u,u,u,u,u,u,u,u,u,u,u,u,u,u,u,u,u,u,u],[]⟩=k0 ()): ∀(n:Nat) (v5:Int),qC (qd tt qjw (qcH N) c) false qoB Q n ⟨[u,u,.one (.ptr 0 0 0),.one (.ptr 1 0 0),u,.one (.int .i64 v2),.one (.int .i64 v3),u,u,u,u,u,u,u,u,.one (.int .i64 v4),.one (.int .i64 v5),u,u,u,u,u,u,u,u,u,u,u,u,u,u,u,u,u,u,u,u,u],[.box [.sl 3 (.int .i64) v6 2,.int .i64 v7,.bool v8],.box [.sl 3 (.int .i64) v9 2,.int .i64 v10,.bool v11]]⟩=qkY N v2 v3 v4 v6 v7 v8 v9 v10 v11 k0 n v5:=by
 subst hc;intro n;induction n with
 | zero=>intros;rfl
 | succ n ih=>
   intro v5
   rw [qL,zax,qkY];unfold Tryz.f290
   simp (maxSteps:=10000000) -implicitDefEqProofs [qO2,qlZ,qJg,qry,qGh,quj,qB3,qrR,qH8,qq9,qIc,qD5,qER,qFm,qG6,qE9,qBB,qG4,qHZ,qD8,qKf,qMW,qJc,qg9,qgX,hret,h0,ih]
theorem q83 (N:Nat) (v0:Val qa) (v1:Val qa):qd tt qjw (qcH N) (Tryz.f290.body.getD .skip) (qo tt true [i3] [.tmp 4]) (qt [qg,qg] 38 (v0,v1,()))=qzi N v0 v1:=by
 unfold Tryz.f290
 simp (maxSteps:=10000000) -implicitDefEqProofs [qO2,qlZ,qJg,qry,qGh,quj,qB3,qrR,qH8,qq9,qIc,qD5,qER,qFm,qG6,qE9,qBB,qG4,qHZ,qD8,qKf,qMW,qJc,qg9,qgX]
 rewrite [q9E (k0:=(fun (_:Unit)=>some ((0:Int),()))) N _ _ _ _ _ _ _ _ _ ?_ ?_ ?_]
 ·rewrite [qzi];first | rfl | simp (maxSteps:=10000000) -implicitDefEqProofs []
 ·rfl
 ·intro;simp only [qK,qI,qJ,qy]
 ·simp (maxSteps:=10000000) -implicitDefEqProofs [qO2,qlZ,qJg,qry,qGh,quj,qB3,qrR,qH8,qq9,qIc,qD5,qER,qFm,qG6,qE9,qBB,qG4,qHZ,qD8,qKf,qMW,qJc,qg9,qgX]
theorem qSq (N:Nat) (g h:Nat) (hg:(g:Int)≠0) (hh:(h:Int)≠0) (xs ys:List (Val (.int .i64))) (hl:xs.length=ys.length) (h4:xs.length≤1048576) (hx: ∀x∈xs,inI x) (hy: ∀x∈ys,inI x) (c c':Int) (s s':Bool): ∀(k i:Nat),xs.length - i=k→ ∀n,k<n→
 qkY N g h xs.length xs c s ys c' s' (fun _=>some ((0:Int),())) n i=some (qaT ((List.drop (α:=Int) i xs).map fun x=>x.tdiv (g:Int)) ((List.drop (α:=Int) i ys).map fun x=>x.tdiv (h:Int)),())
 | 0,i,hi,n+1,_=>by
   rw [qkY,qi (by omega),List.drop_eq_nil_of_le (by omega),List.drop_eq_nil_of_le (by omega)]
   rfl
 | k+1,i,hi,n+1,hn=>by
   have h1:i<xs.length:=by omega
   have h2:i<ys.length:=by omega
   rw [qkY,ql (by omega),qe (by omega),qe hg,qe (by omega),qe hh,qH h1,qH h2,qhE (hx _ (List.getElem_mem h1)),qhE (hy _ (List.getElem_mem h2)),qfh h1 h4]
   rw [List.drop_eq_getElem_cons h1,List.drop_eq_getElem_cons h2,List.map_cons,List.map_cons,qaT]
   generalize hp:Int.tdiv xs[i] (g:Int)=p
   generalize hq:Int.tdiv ys[i] (h:Int)=q
   unfold sgn
   by_cases a1:p<q
   ·simp [a1]
   ·by_cases a2:q<p
    ·simp [a1,a2]
    ·rw [if_neg a1,if_neg a2,if_neg a1,if_neg a2]
     simp only [decide_true,Bool.not_true,cond_false]
     exact qSq N g h hg hh xs ys hl h4 hx hy c c' s s' k (i+1) (by omega) n (by omega)
theorem qZz (a b:Val qa) (h:qeh a b): ∃N,qzi N a b=some (qa1 a b,()):=⟨List.length (α:=Val (.int .i64)) a.1+1,by
 obtain ⟨ha,hb,hl⟩:=h
 rw [qzi,qe (show qfZ a from ha),qe (show qfZ b from hb)]
 have:=qSq (List.length (α:=Val (.int .i64)) a.1+1) (gS (atm a)) (gS (atm b)) (by have:=qew (atm a);omega) (by have:=qew (atm b);omega) a.1 b.1 hl (by have:=(qaN ha).1;omega) (qkS ha) (qkS hb) a.2.1 b.2.1 a.2.2 b.2.2 _ 0 rfl _ (Nat.lt_succ_self _)
 simp only [List.drop_zero]at this
 exact this⟩
theorem qQB:Sound Tryz.prog 290 qfu:=qu (tt:=tt) (Γ:=qjw) hT (qf qRL (qf qTR qq)) hm (fn:=Tryz.f290) Tryz.func290 (c:=Tryz.f290.body.getD .skip) (by kernel_rfl) (by kernel_rfl) fun x hx=>by
 obtain ⟨N,h⟩:=qZz x.1 x.2.1 hx
 exact ⟨qcH N,qVi,qv _,qXU N,(q83 N x.1 x.2.1).trans h⟩
def zad:G:={ps:=[qg,qg],rs:=[i3],dp:=true,pre:=fun _=>True,fn:=fun x=>(qlm x.1 x.2.1,())}
noncomputable def qwE (N:Nat) (v0:Val qa) (v1:Val qa):Option (qb [i3]):=bif (!((qA v0):Bool))then (some ((2:Int),()))else (bif (!((qA v1):Bool))then (some ((2:Int),()))else (bif (!(decide (((v0.1:List (Val (.int .i64))).length:Int)=((v1.1:List (Val (.int .i64))).length:Int))))then (some ((2:Int),()))else (chk (qeh v0 v1) (bif (!(decide (((qa1 v0 v1):Int)=(0:Int))))then (some (((qa1 v0 v1):Int),()))else (chk (qfZ v1) (chk (qfZ v0) (bif (!(decide (((sgn (IntKind.i64.wrap ((v0.2.1:Int)*((gSv v1):Int))) (IntKind.i64.wrap ((v1.2.1:Int)*((gSv v0):Int)))):Int)=(0:Int))))then (some (((sgn (IntKind.i64.wrap ((v0.2.1:Int)*((gSv v1):Int))) (IntKind.i64.wrap ((v1.2.1:Int)*((gSv v0):Int)))):Int),()))else (bif ((v0.2.2:Bool)==(v1.2.2:Bool))then (some ((0:Int),()))else (bif (v0.2.2:Bool)then (some ((1:Int),()))else (some ((-1:Int),())))))))))))
def qmD:Gam:=[(279,qaA),(290,qfu),(317,qg9),(318,qgX)]
theorem qYW:Gam.get qmD 279=some qaA:=rfl
theorem q28:Gam.get qmD 290=some qfu:=rfl
theorem q5Z:Gam.get qmD 317=some qg9:=rfl
theorem qZ5:Gam.get qmD 318=some qgX:=rfl
def qwU:Nat→Tree:=fun i=>if i=6 then .quiet 2 (.keep 0 (.keep 1 (.keep 5 (.keep 6 (.keep 7 (.alt 3 (.first 4 (.alt 8 (.quiet 9 (.alt 10 (.quiet 11 .done) .stop)) .stop)) .stop))))))else .done
def qJv:Nat→Nm:=fun _=>⟨[],[],false⟩
def qPB:Nat→Option Jn:=fun _=>none
def qOX:Nat→Option Nm:=fun _=>none
def qOR:Nat→Option Nm:=fun _=>none
theorem zaA:qj qwU (Tryz.f289.body.getD .skip)=true:=by kernel_rfl
def qfX (N:Nat):Tab:={tr:=qwU,lp:=qJv,ex:=qOX,rg:=qOR,jn:=qPB,fuel:=N}
theorem qYc (N:Nat):(qfX N).pins=false:=rfl
theorem qYF (N:Nat):qn Tryz.prog (qfX N):=qr fun _=>rfl
theorem qYV (N:Nat) (i:Nat):(qfX N).tr i=qwU i:=rfl
theorem zdr (N:Nat) (i:Nat):(qfX N).lp i=qJv i:=rfl
theorem q6q (N:Nat) (i:Nat):(qfX N).ex i=qOX i:=rfl
theorem qVM (N:Nat) (i:Nat):(qfX N).rg i=qOR i:=rfl
theorem zdi (N:Nat) (i:Nat):(qfX N).jn i=qPB i:=rfl
theorem zcn (N:Nat):(qfX N).fuel=N:=rfl
theorem qWW (N:Nat) (v0:Val qa) (v1:Val qa):qd tt qmD (qfX N) (Tryz.f289.body.getD .skip) (qo tt true [i3] [.tmp 4]) (qt [qg,qg] 51 (v0,v1,()))=qwE N v0 v1:=by
 rw [qwE];unfold Tryz.f289
 simp (maxSteps:=10000000) -implicitDefEqProofs [qYV,qwU,zdr,qJv,q6q,qOX,qVM,qOR,zdi,qPB,zcn,qYc,qYW,q28,q5Z,qZ5,qaA,qfu,qg9,qgX]
 try rfl
theorem qYB (a b:Val qa): ∃N,qwE N a b=some (qlm a b,()):=⟨0,by
 rw [qwE,qlm]
 cases ha:qA a with
 | false=>simp
 | true=>
   cases hb:qA b with
   | false=>simp
   | true=>
     by_cases hl:List.length (α:=Int) a.1=List.length (α:=Int) b.1
     ·have hl':((List.length (α:=Val (.int .i64)) a.1:Nat):Int)=(List.length (α:=Val (.int .i64)) b.1:Nat):=by exact_mod_cast hl
      have h1:=qmc ha
      have h2:=qmc hb
      have g1:=qzN ha
      have g2:=qzN hb
      have p1:=qew (atm a)
      have p2:=qew (atm b)
      simp only [hl,decide_true,Bool.and_self,cond_true,Bool.not_true,cond_false]
      rw [qe (show qeh a b from ⟨ha,hb,hl⟩),qe (show qfZ b from hb),qe (show qfZ a from ha)]
      rw [qyq h1 ⟨by unfold gSv;omega,g2⟩,qyq h2 ⟨by unfold gSv;omega,g1⟩,q54]
      have e1:sgI (a.2.1*gSv b - b.2.1*gSv a)=qhv (atm a) (atm b):=rfl
      rw [e1]
      unfold qaG qa1
      by_cases w0:way (atm a) (atm b)=0
      ·by_cases s0:qhv (atm a) (atm b)=0
       ·simp only [w0,s0,decide_true,Bool.not_true,cond_false,if_true]
        unfold stc
        cases a.2.2<;>cases b.2.2<;>rfl
       ·simp [w0,s0]
      ·simp [w0]
     ·have hl': ¬((List.length (α:=Val (.int .i64)) a.1:Nat):Int)=(List.length (α:=Val (.int .i64)) b.1:Nat):=by exact_mod_cast hl
      simp only [hl,decide_false,Bool.and_false,cond_false,Bool.not_true]
      rw [qaO,qi hl']⟩
theorem q7G:Sound Tryz.prog 289 zad:=qu (tt:=tt) (Γ:=qmD) hT (qf qrQ (qf qQB (qf qRL (qf qTR qq)))) hm (fn:=Tryz.f289) Tryz.func289 (c:=Tryz.f289.body.getD .skip) (by kernel_rfl) (by kernel_rfl) fun x hx=>by
 obtain ⟨N,h⟩:=qYB x.1 x.2.1
 exact ⟨qfX N,zaA,qv _,qYF N,(qWW N x.1 x.2.1).trans h⟩
def qaW (d:Int):Val Y33:=(d,[(List.replicate d.toNat (0:Int),(1:Int),false)])
def qc8 (d:Int):Prop:=0≤d∧d≤1048576
def idL (l:List (Val (.int .i64))):List (Val (.int .i64)):=l
def qkl (l:List (Val (.int .i64))):Prop:=l.length≤1048576
def idA (a:Val qa):Val qa:=a
def qa3 (a:Val qa):Prop:=List.length (α:=Val (.int .i64)) a.1≤1048576
def qbT:G:={ps:=[i3],rs:=[i33],dp:=true,pre:=fun x=>qc8 x.1,fn:=fun x=>(qaW x.1,())}
def qbB:G:={ps:=[i25],rs:=[i25],dp:=true,pre:=fun x=>qkl x.1,fn:=fun x=>(idL x.1,())}
noncomputable def qvw (N:Nat) (v0:Int):Option (qb [i33]):=chk (0≤v0∧v0≤v0∧v0≤1048576) (some ((v0,([((List.replicate v0.toNat (qc (.int .i64))),(1:Int),false)]:List (Val qa))),()))
def qUc:Gam:=[]
def qzr:Nat→Tree:=fun _=> .done
def qEz:Nat→Nm:=fun _=>⟨[],[],false⟩
def qCg:Nat→Option Jn:=fun _=>none
def qFt:Nat→Option Nm:=fun _=>none
def qFj:Nat→Option Nm:=fun _=>none
theorem q9D:qj qzr (Tryz.f213.body.getD .skip)=true:=by kernel_rfl
def qfH (N:Nat):Tab:={tr:=qzr,lp:=qEz,ex:=qFt,rg:=qFj,jn:=qCg,fuel:=N}
theorem qYu (N:Nat):(qfH N).pins=false:=rfl
theorem q2W (N:Nat):qn Tryz.prog (qfH N):=qr fun _=>rfl
theorem q5R (N:Nat) (i:Nat):(qfH N).tr i=qzr i:=rfl
theorem q6N (N:Nat) (i:Nat):(qfH N).lp i=qEz i:=rfl
theorem qZS (N:Nat) (i:Nat):(qfH N).ex i=qFt i:=rfl
theorem za1 (N:Nat) (i:Nat):(qfH N).rg i=qFj i:=rfl
theorem qU4 (N:Nat) (i:Nat):(qfH N).jn i=qCg i:=rfl
theorem q7a (N:Nat):(qfH N).fuel=N:=rfl
theorem zdw (N:Nat) (v0:Int):qd tt qUc (qfH N) (Tryz.f213.body.getD .skip) (qo tt true [i33] [.cell 2 33]) (qt [i3] 9 (v0,()))=qvw N v0:=by
 rw [qvw];unfold Tryz.f213
 simp (maxSteps:=10000000) -implicitDefEqProofs [q5R,qzr,q6N,qEz,qZS,qFt,za1,qFj,qU4,qCg,q7a,qYu]
 try rfl
noncomputable def qBd (N:Nat) (v0:List (Val (.int .i64))):Option (qb [i25]):=chk (([]:List (Val (.int .i64))).length+v0.length≤1048576) (some ((([]:List (Val (.int .i64)))++v0),()))
def qP9:Gam:=[]
def qzM:Nat→Tree:=fun _=> .done
def qHg:Nat→Nm:=fun _=>⟨[],[],false⟩
def qMj:Nat→Option Jn:=fun _=>none
def qKv:Nat→Option Nm:=fun _=>none
def qDU:Nat→Option Nm:=fun _=>none
theorem q66:qj qzM (Tryz.f238.body.getD .skip)=true:=by kernel_rfl
def qgz (N:Nat):Tab:={tr:=qzM,lp:=qHg,ex:=qKv,rg:=qDU,jn:=qMj,fuel:=N}
theorem qZP (N:Nat):(qgz N).pins=false:=rfl
theorem qX6 (N:Nat):qn Tryz.prog (qgz N):=qr fun _=>rfl
theorem q36 (N:Nat) (i:Nat):(qgz N).tr i=qzM i:=rfl
theorem qWe (N:Nat) (i:Nat):(qgz N).lp i=qHg i:=rfl
theorem q8e (N:Nat) (i:Nat):(qgz N).ex i=qKv i:=rfl
theorem q3A (N:Nat) (i:Nat):(qgz N).rg i=qDU i:=rfl
theorem qWK (N:Nat) (i:Nat):(qgz N).jn i=qMj i:=rfl
theorem qVb (N:Nat):(qgz N).fuel=N:=rfl
theorem q86 (N:Nat) (v0:List (Val (.int .i64))):qd tt qP9 (qgz N) (Tryz.f238.body.getD .skip) (qo tt true [i25] [.tmp 2]) (qt [i25] 6 (v0,()))=qBd N v0:=by
 rw [qBd];unfold Tryz.f238
 simp (maxSteps:=10000000) -implicitDefEqProofs [q36,qzM,qWe,qHg,q8e,qKv,q3A,qDU,qWK,qMj,qVb,qZP]
 try rfl
theorem qXw (d:Int) (h:qc8 d): ∃N,qvw N d=some (qaW d,()):=⟨0,by
 rw [qvw,qe ⟨h.1,Int.le_refl _,h.2⟩];rfl⟩
theorem qXa (l:List (Val (.int .i64))) (h:qkl l): ∃N,qBd N l=some (idL l,()):=⟨0,by
 rw [qBd,qe (by simpa [qkl] using h)];rfl⟩
theorem qT1:Sound Tryz.prog 213 qbT:=qu (tt:=tt) (Γ:=qUc) hT qq hm (fn:=Tryz.f213) Tryz.func213 (c:=Tryz.f213.body.getD .skip) (by kernel_rfl) (by kernel_rfl) fun x hx=>by
 obtain ⟨N,h⟩:=qXw x.1 hx
 exact ⟨qfH N,q9D,qv _,q2W N,(zdw N x.1).trans h⟩
theorem qRz:Sound Tryz.prog 238 qbB:=qu (tt:=tt) (Γ:=qP9) hT qq hm (fn:=Tryz.f238) Tryz.func238 (c:=Tryz.f238.body.getD .skip) (by kernel_rfl) (by kernel_rfl) fun x hx=>by
 obtain ⟨N,h⟩:=qXa x.1 hx
 exact ⟨qgz N,q66,qv _,qX6 N,(q86 N x.1).trans h⟩
def qa2:G:={ps:=[qg],rs:=[qg],dp:=true,pre:=fun x=>qa3 x.1,fn:=fun x=>(idA x.1,())}
noncomputable def qBq (N:Nat) (v0:Val qa):Option (qb [qg]):=chk (qkl (v0.1:List (Val (.int .i64)))) (some ((((idL (v0.1:List (Val (.int .i64)))):List (Val (.int .i64))),(v0.2.1:Int),(v0.2.2:Bool)),()))
def qNe:Gam:=[(238,qbB)]
theorem qY2:Gam.get qNe 238=some qbB:=rfl
def qyd:Nm:=⟨[false,false,true],[],false⟩
theorem q8h:qyd.zero=false:=rfl
theorem q8U:qyd.fix=[]:=rfl
theorem q6f:qyd.keep=[false,false,true]:=rfl
def qAu:Nat→Tree:=fun i=>if i=1 then .quiet 0 (.quiet 1 (.alt 2 (.quiet 3 (.quiet 4 (.quiet 5 (.quiet 6 (.quiet 7 (.alt 8 .done .stop)))))) (.alt 3 (.alt 2 (.quiet 4 (.quiet 5 (.quiet 6 (.quiet 7 (.alt 8 .done .stop))))) (.alt 4 (.alt 2 (.quiet 5 (.quiet 6 (.quiet 7 (.alt 8 .done .stop)))) (.alt 5 (.alt 2 (.quiet 6 (.quiet 7 (.alt 8 .done .stop))) (.alt 6 (.alt 2 (.quiet 7 (.alt 8 .done .stop)) .stop) .stop)) .stop)) (.alt 5 (.alt 2 (.quiet 4 (.quiet 6 (.quiet 7 (.alt 8 .done .stop)))) (.alt 4 (.alt 2 (.quiet 6 (.quiet 7 (.alt 8 .done .stop))) (.alt 6 (.alt 2 (.quiet 7 (.alt 8 .done .stop)) .stop) .stop)) (.alt 6 (.alt 2 (.quiet 4 (.quiet 7 (.alt 8 .done .stop))) (.alt 4 (.alt 2 (.quiet 7 (.alt 8 .done .stop)) .stop) .stop)) .stop))) .stop))) (.alt 5 (.alt 2 (.quiet 3 (.quiet 4 (.quiet 6 (.quiet 7 (.alt 8 .done .stop))))) (.alt 3 (.alt 2 (.quiet 4 (.quiet 6 (.quiet 7 (.alt 8 .done .stop)))) (.alt 4 (.alt 2 (.quiet 6 (.quiet 7 (.alt 8 .done .stop))) (.alt 6 (.alt 2 (.quiet 7 (.alt 8 .done .stop)) .stop) .stop)) (.alt 6 (.alt 2 (.quiet 4 (.quiet 7 (.alt 8 .done .stop))) (.alt 4 (.alt 2 (.quiet 7 (.alt 8 .done .stop)) .stop) .stop)) .stop))) (.alt 6 (.alt 2 (.quiet 3 (.quiet 4 (.quiet 7 (.alt 8 .done .stop)))) (.alt 3 (.alt 2 (.quiet 4 (.quiet 7 (.alt 8 .done .stop))) (.alt 4 (.alt 2 (.quiet 7 (.alt 8 .done .stop)) .stop) .stop)) .stop)) .stop))) .stop))))else .done
def qDg:Nat→Nm:=fun _=>⟨[],[],false⟩
def qMC:Nat→Option Jn:=fun _=>none
def qMY:Nat→Option Nm:=fun _=>none
def qHy:Nat→Option Nm:=fun i=>if i=1 then some qyd else none
theorem qV8:qj qAu (Tryz.f236.body.getD .skip)=true:=by kernel_rfl
def qf5 (N:Nat):Tab:={tr:=qAu,lp:=qDg,ex:=qMY,rg:=qHy,jn:=qMC,fuel:=N}
theorem qXb (N:Nat):(qf5 N).pins=false:=rfl
theorem q1R (N:Nat):qn Tryz.prog (qf5 N):=qr fun _=>rfl
theorem q5S (N:Nat) (i:Nat):(qf5 N).tr i=qAu i:=rfl
theorem qXn (N:Nat) (i:Nat):(qf5 N).lp i=qDg i:=rfl
theorem qZk (N:Nat) (i:Nat):(qf5 N).ex i=qMY i:=rfl
theorem qZ8 (N:Nat) (i:Nat):(qf5 N).rg i=qHy i:=rfl
theorem q7w (N:Nat) (i:Nat):(qf5 N).jn i=qMC i:=rfl
theorem q1u (N:Nat):(qf5 N).fuel=N:=rfl
theorem q0I (N:Nat) (v0:Val qa):qd tt qNe (qf5 N) (Tryz.f236.body.getD .skip) (qo tt true [qg] [.cell 2 108]) (qt [qg] 11 (v0,()))=qBq N v0:=by
 rw [qBq];unfold Tryz.f236
 simp (maxSteps:=10000000) -implicitDefEqProofs [q5S,qAu,qXn,qDg,qZk,qMY,qZ8,qHy,q7w,qMC,q1u,qXb,q8U,q6f,q8h,qY2,qbB]
 try rfl
theorem zdt (a:Val qa) (h:qa3 a): ∃N,qBq N a=some (idA a,()):=⟨0,by
 rw [qBq,qe (show qkl a.1 from h)];rfl⟩
theorem qRo:Sound Tryz.prog 236 qa2:=qu (tt:=tt) (Γ:=qNe) hT (qf qRz qq) hm (fn:=Tryz.f236) Tryz.func236 (c:=Tryz.f236.body.getD .skip) (by kernel_rfl) (by kernel_rfl) fun x hx=>by
 obtain ⟨N,h⟩:=zdt x.1 hx
 exact ⟨qf5 N,qV8,qv _,q1R N,(q0I N x.1).trans h⟩
end Go.T
