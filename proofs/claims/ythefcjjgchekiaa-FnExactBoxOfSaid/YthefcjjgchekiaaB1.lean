/- Atoms: their directions, their order. -/
import Derived.Test.YthefcjjgchekiaaA8a
set_option linter.unusedSimpArgs false
set_option linter.unusedVariables false
namespace Go.T
open Go Go.Proofs
set_option maxHeartbeats 4000000
set_option maxRecDepth 100000
abbrev atm (a:Val Y36):Atm:=a
def okA (a:Val Y36):Prop:=qz a=true
def qZ (a:Val Y36):Bool:=decide (gL 0 (atm a).1≠0)
def qg7 (a:Val Y36):Prop:=okA a
def gSv (a:Val Y36):Int:=(gS (atm a):Int)
def qdv (a:Val Y36):Prop:=okA a
def sgn (a b:Int):Int:=if a<b then -1 else if b<a then 1 else 0
def qaQ (a b:Val Y36):Int:=way (atm a) (atm b)
def qcQ (a b:Val Y36):Prop:=okA a∧okA b∧List.length (α:=Int) a.1=List.length (α:=Int) b.1
def qgq (a b:Val Y36):Int:=bif qz a&&qz b&&decide (List.length (α:=Int) a.1=List.length (α:=Int) b.1)then qaA (atm a) (atm b)else 2
theorem qk4 {a:Val Y36} (h:okA a): ∀x∈(a.1:List Int),inI x:=fun x hx=>by
 have h1: @LE.le Int _ (-400000000) x∧ @LE.le Int _ x 400000000:=(qcc h).2.2 x hx
 unfold inI;omega
theorem qpY {a:Val Y36} (h:okA a):qdG a.1:=⟨by have:=(qcc h).1;omega,qk4 h⟩
theorem qel {a:Val Y36} (h:okA a): -400000000≤(a.2.1:Int)∧ @LE.le Int _ a.2.1 400000000:=by
 have h:qz a=true:=h
 unfold qz at h
 simp only [Bool.and_eq_true,decide_eq_true_eq]at h
 exact of_decide_eq_true h.1.1.2
theorem qEd {a:Val Y36} (h:okA a) (hv:qZ a=true):qe4 (atm a):=by
 have h:qz a=true:=h
 unfold qz at h
 simp only [Bool.and_eq_true,decide_eq_true_eq]at h
 have h2:=h.2
 exact ⟨of_decide_eq_true hv,by have h2:((gL (Int.natAbs a.2.1) a.1:Nat):Int)≤1:=h2;show gL (Int.natAbs a.2.1) a.1≤1;omega⟩
theorem qnp {a:Val Y36} (h:okA a):gSv a≤400000000:=by
 unfold gSv gS
 by_cases h0:gL 0 (atm a).1=0
 ·rw [h0];decide
 ·obtain ⟨x,hx,hne⟩: ∃x∈(atm a).1,x≠0:=by
   apply Classical.byContradiction
   intro hn
   exact h0 (qqE.2 fun x hx=>Classical.byContradiction fun hne=>hn ⟨x,hx,hne⟩)
  have h1:=(qlt (atm a).1 0).2 x hx
  have h2:=Nat.le_of_dvd (by omega) h1
  have h3: @LE.le Int _ (-400000000) x∧ @LE.le Int _ x 400000000:=(qcc h).2.2 x hx
  omega
theorem qLJ (p q:Int):sgn p q=sgI (p - q):=by
 unfold sgn sgI
 split<;>split<;>(try split)<;>omega
theorem qeo {x y:Int} (h1: -400000000≤x∧x≤400000000) (h2:0≤y∧y≤400000000):IntKind.i64.wrap (x*y)=x*y:=by
 have h:(x*y).natAbs≤400000000*400000000:=by
  rw [Int.natAbs_mul];exact Nat.mul_le_mul (by omega) (by omega)
 exact qb5 (by omega) (by omega)
def g71:G:={ps:=[i36],rs:=[i4],dp:=true,pre:=fun x=>qg7 x.1,fn:=fun x=>(qZ x.1,())}
def g90:G:={ps:=[i36],rs:=[i3],dp:=true,pre:=fun x=>qdv x.1,fn:=fun x=>(gSv x.1,())}
def g89:G:={ps:=[i3,i3],rs:=[i3],dp:=true,pre:=fun _=>True,fn:=fun x=>(sgn x.1 x.2.1,())}
noncomputable def m71 (N:Nat) (v0:Val Y36):Option (qb [i4]):=chk (qdG (v0.1:List (Val (.int .i64)))) (some ((!(decide (((qaw (v0.1:List (Val (.int .i64)))):Int)=(0:Int)))),()))
def Γ71:Gam:=[(66,g66)]
theorem qGs:Gam.get Γ71 66=some g66:=rfl
def qo9:Nat→Tree:=fun _=> .done
def qsW:Nat→Nm:=fun _=>⟨[],[],false⟩
def qzf:Nat→Option Jn:=fun _=>none
def qrF:Nat→Option Nm:=fun _=>none
def qB4:Nat→Option Nm:=fun _=>none
theorem p71:ql qo9 (Try.f71.body.getD .skip)=true:=by kernel_rfl
def T71 (N:Nat):Tab:={tr:=qo9,lp:=qsW,ex:=qrF,rg:=qB4,jn:=qzf,fuel:=N}
theorem qHp (N:Nat):(T71 N).pins=false:=rfl
theorem qIP (N:Nat):qm Try.prog (T71 N):=qu fun _=>rfl
theorem qN8 (N:Nat) (i:Nat):(T71 N).tr i=qo9 i:=rfl
theorem qI5 (N:Nat) (i:Nat):(T71 N).lp i=qsW i:=rfl
theorem qNk (N:Nat) (i:Nat):(T71 N).ex i=qrF i:=rfl
theorem qL3 (N:Nat) (i:Nat):(T71 N).rg i=qB4 i:=rfl
theorem qNs (N:Nat) (i:Nat):(T71 N).jn i=qzf i:=rfl
theorem qNY (N:Nat):(T71 N).fuel=N:=rfl
theorem qGZ (N:Nat) (v0:Val Y36):qd tt Γ71 (T71 N) (Try.f71.body.getD .skip) (qp tt true [i4] [.tmp 2]) (qt [i36] 7 (v0,()))=m71 N v0:=by
 rw [m71];unfold Try.f71
 simp (maxSteps:=10000000) -implicitDefEqProofs [qN8,qo9,qI5,qsW,qNk,qrF,qL3,qB4,qNs,qzf,qNY,qHp,qGs,g66]
 try rfl
noncomputable def m90 (N:Nat) (v0:Val Y36):Option (qb [i3]):=chk (qdG (v0.1:List (Val (.int .i64)))) (bif (decide (((qaw (v0.1:List (Val (.int .i64)))):Int)=(0:Int)))then (some ((1:Int),()))else (some (((qaw (v0.1:List (Val (.int .i64)))):Int),())))
def Γ90:Gam:=[(66,g66)]
theorem qPo:Gam.get Γ90 66=some g66:=rfl
def qnP:Nat→Tree:=fun _=> .done
def qui:Nat→Nm:=fun _=>⟨[],[],false⟩
def qAP:Nat→Option Jn:=fun _=>none
def qth:Nat→Option Nm:=fun _=>none
def qxg:Nat→Option Nm:=fun _=>none
theorem p90:ql qnP (Try.f90.body.getD .skip)=true:=by kernel_rfl
def T90 (N:Nat):Tab:={tr:=qnP,lp:=qui,ex:=qth,rg:=qxg,jn:=qAP,fuel:=N}
theorem qPY (N:Nat):(T90 N).pins=false:=rfl
theorem qPj (N:Nat):qm Try.prog (T90 N):=qu fun _=>rfl
theorem qLP (N:Nat) (i:Nat):(T90 N).tr i=qnP i:=rfl
theorem qLF (N:Nat) (i:Nat):(T90 N).lp i=qui i:=rfl
theorem qRG (N:Nat) (i:Nat):(T90 N).ex i=qth i:=rfl
theorem qG2 (N:Nat) (i:Nat):(T90 N).rg i=qxg i:=rfl
theorem qH7 (N:Nat) (i:Nat):(T90 N).jn i=qAP i:=rfl
theorem qR2 (N:Nat):(T90 N).fuel=N:=rfl
theorem qNi (N:Nat) (v0:Val Y36):qd tt Γ90 (T90 N) (Try.f90.body.getD .skip) (qp tt true [i3] [.tmp 2]) (qt [i36] 10 (v0,()))=m90 N v0:=by
 rw [m90];unfold Try.f90
 simp (maxSteps:=10000000) -implicitDefEqProofs [qLP,qnP,qLF,qui,qRG,qth,qG2,qxg,qH7,qAP,qR2,qPY,qPo,g66]
 try rfl
noncomputable def m89 (N:Nat) (v0:Int) (v1:Int):Option (qb [i3]):=bif (decide (v0<v1))then (some ((-1:Int),()))else (bif (decide (v1<v0))then (some ((1:Int),()))else (some ((0:Int),())))
def Γ89:Gam:=[]
def qo4:Nat→Tree:=fun _=> .done
def qrk:Nat→Nm:=fun _=>⟨[],[],false⟩
def qsG:Nat→Option Jn:=fun _=>none
def qA0:Nat→Option Nm:=fun _=>none
def qsK:Nat→Option Nm:=fun _=>none
theorem p89:ql qo4 (Try.f89.body.getD .skip)=true:=by kernel_rfl
def T89 (N:Nat):Tab:={tr:=qo4,lp:=qrk,ex:=qA0,rg:=qsK,jn:=qsG,fuel:=N}
theorem qLG (N:Nat):(T89 N).pins=false:=rfl
theorem qHD (N:Nat):qm Try.prog (T89 N):=qu fun _=>rfl
theorem qNz (N:Nat) (i:Nat):(T89 N).tr i=qo4 i:=rfl
theorem qLi (N:Nat) (i:Nat):(T89 N).lp i=qrk i:=rfl
theorem qHz (N:Nat) (i:Nat):(T89 N).ex i=qA0 i:=rfl
theorem qQG (N:Nat) (i:Nat):(T89 N).rg i=qsK i:=rfl
theorem qKE (N:Nat) (i:Nat):(T89 N).jn i=qsG i:=rfl
theorem qLq (N:Nat):(T89 N).fuel=N:=rfl
theorem qGx (N:Nat) (v0:Int) (v1:Int):qd tt Γ89 (T89 N) (Try.f89.body.getD .skip) (qp tt true [i3] [.tmp 4]) (qt [i3,i3] 11 (v0,v1,()))=m89 N v0 v1:=by
 rw [m89];unfold Try.f89
 simp (maxSteps:=10000000) -implicitDefEqProofs [qNz,qo4,qLi,qrk,qHz,qA0,qQG,qsK,qKE,qsG,qLq,qLG]
 try rfl
theorem e71 (a:Val Y36) (h:qg7 a): ∃N,m71 N a=some (qZ a,()):=⟨0,by
 rw [m71,qc (qpY h)]
 unfold qZ qaw
 have e:(((gL 0 (atm a).1:Nat):Int)=0)↔(gL 0 (atm a).1=0):=by omega
 by_cases h0:gL 0 (atm a).1=0
 ·simp [h0]
 ·simp [h0]⟩
theorem e90 (a:Val Y36) (h:qdv a): ∃N,m90 N a=some (gSv a,()):=⟨0,by
 rw [m90,qc (qpY h)]
 unfold gSv gS qaw
 by_cases h0:gL 0 (atm a).1=0
 ·rw [qh (by show ((gL 0 (atm a).1:Nat):Int)=0;omega),h0];rfl
 ·rw [qi (by show ¬((gL 0 (atm a).1:Nat):Int)=0;omega)]
  rw [Nat.max_eq_right (by omega)]⟩
theorem e89 (a b:Int): ∃N,m89 N a b=some (sgn a b,()):=⟨0,by
 rw [m89,sgn]
 by_cases h1:a<b<;>by_cases h2:b<a<;>simp [h1,h2]⟩
theorem s71:Sound Try.prog 71 g71:=qw (tt:=tt) (Γ:=Γ71) hT (qf s66 qq) hm (fn:=Try.f71) Try.func71 (c:=Try.f71.body.getD .skip) (by kernel_rfl) (by kernel_rfl) fun x hx=>by
 obtain ⟨N,h⟩:=e71 x.1 hx
 exact ⟨T71 N,p71,qx _,qIP N,(qGZ N x.1).trans h⟩
theorem s90:Sound Try.prog 90 g90:=qw (tt:=tt) (Γ:=Γ90) hT (qf s66 qq) hm (fn:=Try.f90) Try.func90 (c:=Try.f90.body.getD .skip) (by kernel_rfl) (by kernel_rfl) fun x hx=>by
 obtain ⟨N,h⟩:=e90 x.1 hx
 exact ⟨T90 N,p90,qx _,qPj N,(qNi N x.1).trans h⟩
theorem s89:Sound Try.prog 89 g89:=qw (tt:=tt) (Γ:=Γ89) hT qq hm (fn:=Try.f89) Try.func89 (c:=Try.f89.body.getD .skip) (by kernel_rfl) (by kernel_rfl) fun x hx=>by
 obtain ⟨N,h⟩:=e89 x.1 x.2.1
 exact ⟨T89 N,p89,qx _,qHD N,(qGx N x.1 x.2.1).trans h⟩
def g76:G:={ps:=[i36,i36],rs:=[i3],dp:=true,pre:=fun x=>qcQ x.1 x.2.1,fn:=fun x=>(qaQ x.1 x.2.1,())}
noncomputable def qgL (N:Nat) (v2:Int) (v3:Int) (v4:Int) (v6:List (Val (.int .i64))) (v7:Int) (v8:Bool) (v9:List (Val (.int .i64))) (v10:Int) (v11:Bool) (k0:Unit→Option (qb [i3])):Nat→Int→Option (qb [i3])
 | 0,_=>none
 | n+1,v5=>bif (decide (v5<v4))then (chk (0≤v5∧v5<(v6.length:Int)) (chk (v2≠0) (chk (0≤v5∧v5<(v9.length:Int)) (chk (v3≠0) (bif (!(decide (((sgn (IntKind.i64.wrap (((v6.getD v5.toNat (qa (.int .i64))):Int).tdiv v2)) (IntKind.i64.wrap (((v9.getD v5.toNat (qa (.int .i64))):Int).tdiv v3))):Int)=(0:Int))))then (some (((sgn (IntKind.i64.wrap (((v6.getD v5.toNat (qa (.int .i64))):Int).tdiv v2)) (IntKind.i64.wrap (((v9.getD v5.toNat (qa (.int .i64))):Int).tdiv v3))):Int),()))else (qgL N v2 v3 v4 v6 v7 v8 v9 v10 v11 k0 n (IntKind.i64.wrap (v5+(1:Int)))))))))else (k0 ())
noncomputable def m76 (N:Nat) (v0:Val Y36) (v1:Val Y36):Option (qb [i3]):=chk (qdv v0) (chk (qdv v1) (qgL N ((gSv v0):Int) ((gSv v1):Int) ((v0.1:List (Val (.int .i64))).length:Int) (v0.1:List (Val (.int .i64))) (v0.2.1:Int) (v0.2.2:Bool) (v1.1:List (Val (.int .i64))) (v1.2.1:Int) (v1.2.2:Bool) (fun (_:Unit)=>some ((0:Int),())) N (0:Int)))
def Γ76:Gam:=[(89,g89),(90,g90)]
theorem qrb:Gam.get Γ76 89=some g89:=rfl
theorem qA2:Gam.get Γ76 90=some g90:=rfl
def qjJ:Nm:=⟨[false,false,true,true,false,true,true,false,false,false,false,false,false,false,false,true,true],[],false⟩
theorem qx0:qjJ.zero=false:=rfl
theorem qwO:qjJ.fix=[]:=rfl
theorem qAo:qjJ.keep=[false,false,true,true,false,true,true,false,false,false,false,false,false,false,false,true,true]:=rfl
def qnW:Nm:=⟨[],[],false⟩
theorem qrI:qnW.zero=false:=rfl
theorem qAs:qnW.fix=[]:=rfl
theorem qvC:qnW.keep=[]:=rfl
def qnc:Nm:=⟨[false,false,true,true,false,true,true],[],false⟩
theorem qyU:qnc.zero=false:=rfl
theorem qwb:qnc.fix=[]:=rfl
theorem qBB:qnc.keep=[false,false,true,true,false,true,true]:=rfl
def qhz:Nat→Tree:=fun i=>if i=1 then .quiet 0 (.alt 1 (.quiet 2 (.alt 3 (.quiet 4 (.quiet 5 .done)) .stop)) (.alt 2 (.alt 1 (.alt 3 (.quiet 4 (.quiet 5 .done)) .stop) .stop) .stop))else if i=5 then .quiet 0 (.quiet 1 (.quiet 2 (.quiet 3 (.quiet 4 (.quiet 5 (.quiet 6 (.quiet 7 (.quiet 8 (.quiet 9 (.quiet 10 (.quiet 11 (.quiet 12 (.quiet 13 (.alt 14 (.quiet 15 .done) .stop))))))))))))))else .done
def qka:Nat→Nm:=fun i=>if i=3 then qjJ else ⟨[],[],false⟩
def ql0:Nat→Option Jn:=fun _=>none
def qmz:Nat→Option Nm:=fun i=>if i=0 then some qnW else none
def qmk:Nat→Option Nm:=fun i=>if i=1 then some qnc else none
theorem p76:ql qhz (Try.f76.body.getD .skip)=true:=by kernel_rfl
def T76 (N:Nat):Tab:={tr:=qhz,lp:=qka,ex:=qmz,rg:=qmk,jn:=ql0,fuel:=N}
theorem qqW (N:Nat):(T76 N).pins=false:=rfl
theorem qKB (N:Nat):qm Try.prog (T76 N):=qu fun _=>rfl
theorem qy7 (N:Nat) (i:Nat):(T76 N).tr i=qhz i:=rfl
theorem qtI (N:Nat) (i:Nat):(T76 N).lp i=qka i:=rfl
theorem qtT (N:Nat) (i:Nat):(T76 N).ex i=qmz i:=rfl
theorem qwo (N:Nat) (i:Nat):(T76 N).rg i=qmk i:=rfl
theorem qzw (N:Nat) (i:Nat):(T76 N).jn i=ql0 i:=rfl
theorem qyi (N:Nat):(T76 N).fuel=N:=rfl
noncomputable def qEK:Code:=cut [true,true,false,true,true,true] (Try.f76.body.getD .skip)
theorem qNd {N:Nat} {Q:X→St→Option (qb [i3])} {e:List LV} {h:List Blk}:qd tt Γ76 (T76 N) qEK Q ⟨e,h⟩=qd tt Γ76 (T76 N) (cut [true,true,false,true,true,true] (Try.f76.body.getD .skip)) Q ⟨e,h⟩:=rfl
theorem qIJ (N:Nat) (v2:Int) (v3:Int) (v4:Int) (v6:List (Val (.int .i64))) (v7:Int) (v8:Bool) (v9:List (Val (.int .i64))) (v10:Int) (v11:Bool) {k0:Unit→Option (qb [i3])} {Q:X→St→Option (qb [i3])} {c:Code} (hc:c=qEK) (hret: ∀st,Q .ret st=qI tt true [i3] [.tmp 4] st) (h0:Q (.exit 0) ⟨[u,u,u,u,u,u,u,u,u,u,u,u,u,u,u,u,u,u,u,u,u,u,u,u,u,u,u,u,u,u,u,u,u,u,u,u,u,u],[]⟩=k0 ()): ∀(n:Nat) (v5:Int),qD (qd tt Γ76 (T76 N) c) false qjJ Q n ⟨[u,u,.one (.ptr 0 0 0),.one (.ptr 1 0 0),u,.one (.int .i64 v2),.one (.int .i64 v3),u,u,u,u,u,u,u,u,.one (.int .i64 v4),.one (.int .i64 v5),u,u,u,u,u,u,u,u,u,u,u,u,u,u,u,u,u,u,u,u,u],[.box [.sl 3 (.int .i64) v6 2,.int .i64 v7,.bool v8],.box [.sl 3 (.int .i64) v9 2,.int .i64 v10,.bool v11]]⟩=qgL N v2 v3 v4 v6 v7 v8 v9 v10 v11 k0 n v5:=by
 subst hc;intro n;induction n with
 | zero=>intros;rfl
 | succ n ih=>
   intro v5
   rw [qR,qNd,qgL];unfold Try.f76
   simp (maxSteps:=10000000) -implicitDefEqProofs [qy7,qhz,qtI,qka,qtT,qmz,qwo,qmk,qzw,ql0,qyi,qqW,qwO,qAo,qx0,qAs,qvC,qrI,qwb,qBB,qyU,qrb,qA2,g89,g90,hret,h0,ih]
theorem qKn (N:Nat) (v0:Val Y36) (v1:Val Y36):qd tt Γ76 (T76 N) (Try.f76.body.getD .skip) (qp tt true [i3] [.tmp 4]) (qt [i36,i36] 38 (v0,v1,()))=m76 N v0 v1:=by
 unfold Try.f76
 simp (maxSteps:=10000000) -implicitDefEqProofs [qy7,qhz,qtI,qka,qtT,qmz,qwo,qmk,qzw,ql0,qyi,qqW,qwO,qAo,qx0,qAs,qvC,qrI,qwb,qBB,qyU,qrb,qA2,g89,g90]
 rewrite [qIJ (k0:=(fun (_:Unit)=>some ((0:Int),()))) N _ _ _ _ _ _ _ _ _ ?_ ?_ ?_]
 ·rewrite [m76];first | rfl | simp (maxSteps:=10000000) -implicitDefEqProofs []
 ·rfl
 ·intro;simp only [qK,qM,qO,qv]
 ·simp (maxSteps:=10000000) -implicitDefEqProofs [qy7,qhz,qtI,qka,qtT,qmz,qwo,qmk,qzw,ql0,qyi,qqW,qwO,qAo,qx0,qAs,qvC,qrI,qwb,qBB,qyU,qrb,qA2,g89,g90]
theorem t76 (N:Nat) (g h:Nat) (hg:(g:Int)≠0) (hh:(h:Int)≠0) (xs ys:List (Val (.int .i64))) (hl:xs.length=ys.length) (h4:xs.length≤1048576) (hx: ∀x∈xs,inI x) (hy: ∀x∈ys,inI x) (c c':Int) (s s':Bool): ∀(k i:Nat),xs.length - i=k→ ∀n,k<n→
 qgL N g h xs.length xs c s ys c' s' (fun _=>some ((0:Int),())) n i=some (qaJ ((List.drop (α:=Int) i xs).map fun x=>x.tdiv (g:Int)) ((List.drop (α:=Int) i ys).map fun x=>x.tdiv (h:Int)),())
 | 0,i,hi,n+1,_=>by
   rw [qgL,qi (by omega),List.drop_eq_nil_of_le (by omega),List.drop_eq_nil_of_le (by omega)]
   rfl
 | k+1,i,hi,n+1,hn=>by
   have h1:i<xs.length:=by omega
   have h2:i<ys.length:=by omega
   rw [qgL,qh (by omega),qc (by omega),qc hg,qc (by omega),qc hh,qL h1,qL h2,qc0 (hx _ (List.getElem_mem h1)),qc0 (hy _ (List.getElem_mem h2)),qeD h1 h4]
   rw [List.drop_eq_getElem_cons h1,List.drop_eq_getElem_cons h2,List.map_cons,List.map_cons,qaJ]
   generalize hp:Int.tdiv xs[i] (g:Int)=p
   generalize hq:Int.tdiv ys[i] (h:Int)=q
   unfold sgn
   by_cases a1:p<q
   ·simp [a1]
   ·by_cases a2:q<p
    ·simp [a1,a2]
    ·rw [if_neg a1,if_neg a2,if_neg a1,if_neg a2]
     simp only [decide_true,Bool.not_true,cond_false]
     exact t76 N g h hg hh xs ys hl h4 hx hy c c' s s' k (i+1) (by omega) n (by omega)
theorem e76 (a b:Val Y36) (h:qcQ a b): ∃N,m76 N a b=some (qaQ a b,()):=⟨List.length (α:=Val (.int .i64)) a.1+1,by
 obtain ⟨ha,hb,hl⟩:=h
 rw [m76,qc (show qdv a from ha),qc (show qdv b from hb)]
 have:=t76 (List.length (α:=Val (.int .i64)) a.1+1) (gS (atm a)) (gS (atm b)) (by have:=qcR (atm a);omega) (by have:=qcR (atm b);omega) a.1 b.1 hl (by have:=(qcc ha).1;omega) (qk4 ha) (qk4 hb) a.2.1 b.2.1 a.2.2 b.2.2 _ 0 rfl _ (Nat.lt_succ_self _)
 simp only [List.drop_zero]at this
 exact this⟩
theorem s76:Sound Try.prog 76 g76:=qw (tt:=tt) (Γ:=Γ76) hT (qf s89 (qf s90 qq)) hm (fn:=Try.f76) Try.func76 (c:=Try.f76.body.getD .skip) (by kernel_rfl) (by kernel_rfl) fun x hx=>by
 obtain ⟨N,h⟩:=e76 x.1 x.2.1 hx
 exact ⟨T76 N,p76,qx _,qKB N,(qKn N x.1 x.2.1).trans h⟩
def g75:G:={ps:=[i36,i36],rs:=[i3],dp:=true,pre:=fun _=>True,fn:=fun x=>(qgq x.1 x.2.1,())}
noncomputable def m75 (N:Nat) (v0:Val Y36) (v1:Val Y36):Option (qb [i3]):=bif (!((qz v0):Bool))then (some ((2:Int),()))else (bif (!((qz v1):Bool))then (some ((2:Int),()))else (bif (!(decide (((v0.1:List (Val (.int .i64))).length:Int)=((v1.1:List (Val (.int .i64))).length:Int))))then (some ((2:Int),()))else (chk (qcQ v0 v1) (bif (!(decide (((qaQ v0 v1):Int)=(0:Int))))then (some (((qaQ v0 v1):Int),()))else (chk (qdv v1) (chk (qdv v0) (bif (!(decide (((sgn (IntKind.i64.wrap ((v0.2.1:Int)*((gSv v1):Int))) (IntKind.i64.wrap ((v1.2.1:Int)*((gSv v0):Int)))):Int)=(0:Int))))then (some (((sgn (IntKind.i64.wrap ((v0.2.1:Int)*((gSv v1):Int))) (IntKind.i64.wrap ((v1.2.1:Int)*((gSv v0):Int)))):Int),()))else (bif ((v0.2.2:Bool)==(v1.2.2:Bool))then (some ((0:Int),()))else (bif (v0.2.2:Bool)then (some ((1:Int),()))else (some ((-1:Int),())))))))))))
def Γ75:Gam:=[(45,g45),(76,g76),(89,g89),(90,g90)]
theorem qIB:Gam.get Γ75 45=some g45:=rfl
theorem qHL:Gam.get Γ75 76=some g76:=rfl
theorem qIs:Gam.get Γ75 89=some g89:=rfl
theorem qIp:Gam.get Γ75 90=some g90:=rfl
def qoq:Nat→Tree:=fun i=>if i=6 then .quiet 2 (.keep 0 (.keep 1 (.keep 5 (.keep 6 (.keep 7 (.alt 3 (.first 4 (.alt 8 (.quiet 9 (.alt 10 (.quiet 11 .done) .stop)) .stop)) .stop))))))else .done
def qAu:Nat→Nm:=fun _=>⟨[],[],false⟩
def qvc:Nat→Option Jn:=fun _=>none
def qz6:Nat→Option Nm:=fun _=>none
def qvb:Nat→Option Nm:=fun _=>none
theorem p75:ql qoq (Try.f75.body.getD .skip)=true:=by kernel_rfl
def T75 (N:Nat):Tab:={tr:=qoq,lp:=qAu,ex:=qz6,rg:=qvb,jn:=qvc,fuel:=N}
theorem qRf (N:Nat):(T75 N).pins=false:=rfl
theorem qMC (N:Nat):qm Try.prog (T75 N):=qu fun _=>rfl
theorem qIa (N:Nat) (i:Nat):(T75 N).tr i=qoq i:=rfl
theorem qOo (N:Nat) (i:Nat):(T75 N).lp i=qAu i:=rfl
theorem qJh (N:Nat) (i:Nat):(T75 N).ex i=qz6 i:=rfl
theorem qGn (N:Nat) (i:Nat):(T75 N).rg i=qvb i:=rfl
theorem qO7 (N:Nat) (i:Nat):(T75 N).jn i=qvc i:=rfl
theorem qOM (N:Nat):(T75 N).fuel=N:=rfl
theorem qPR (N:Nat) (v0:Val Y36) (v1:Val Y36):qd tt Γ75 (T75 N) (Try.f75.body.getD .skip) (qp tt true [i3] [.tmp 4]) (qt [i36,i36] 51 (v0,v1,()))=m75 N v0 v1:=by
 rw [m75];unfold Try.f75
 simp (maxSteps:=10000000) -implicitDefEqProofs [qIa,qoq,qOo,qAu,qJh,qz6,qGn,qvb,qO7,qvc,qOM,qRf,qIB,qHL,qIs,qIp,g45,g76,g89,g90]
 try rfl
theorem e75 (a b:Val Y36): ∃N,m75 N a b=some (qgq a b,()):=⟨0,by
 rw [m75,qgq]
 cases ha:qz a with
 | false=>simp
 | true=>
   cases hb:qz b with
   | false=>simp
   | true=>
     by_cases hl:List.length (α:=Int) a.1=List.length (α:=Int) b.1
     ·have hl':((List.length (α:=Val (.int .i64)) a.1:Nat):Int)=(List.length (α:=Val (.int .i64)) b.1:Nat):=by exact_mod_cast hl
      have h1:=qel ha
      have h2:=qel hb
      have g1:=qnp ha
      have g2:=qnp hb
      have p1:=qcR (atm a)
      have p2:=qcR (atm b)
      simp only [hl,decide_true,Bool.and_self,cond_true,Bool.not_true,cond_false]
      rw [qc (show qcQ a b from ⟨ha,hb,hl⟩),qc (show qdv b from hb),qc (show qdv a from ha)]
      rw [qeo h1 ⟨by unfold gSv;omega,g2⟩,qeo h2 ⟨by unfold gSv;omega,g1⟩,qLJ]
      have e1:sgI (a.2.1*gSv b - b.2.1*gSv a)=qd8 (atm a) (atm b):=rfl
      rw [e1]
      unfold qaA qaQ
      by_cases w0:way (atm a) (atm b)=0
      ·by_cases s0:qd8 (atm a) (atm b)=0
       ·simp only [w0,s0,decide_true,Bool.not_true,cond_false,if_true]
        unfold stc
        cases a.2.2<;>cases b.2.2<;>rfl
       ·simp [w0,s0]
      ·simp [w0]
     ·have hl': ¬((List.length (α:=Val (.int .i64)) a.1:Nat):Int)=(List.length (α:=Val (.int .i64)) b.1:Nat):=by exact_mod_cast hl
      simp only [hl,decide_false,Bool.and_false,cond_false,Bool.not_true]
      rw [qar,qi hl']⟩
theorem s75:Sound Try.prog 75 g75:=qw (tt:=tt) (Γ:=Γ75) hT (qf s45 (qf s76 (qf s89 (qf s90 qq)))) hm (fn:=Try.f75) Try.func75 (c:=Try.f75.body.getD .skip) (by kernel_rfl) (by kernel_rfl) fun x hx=>by
 obtain ⟨N,h⟩:=e75 x.1 x.2.1
 exact ⟨T75 N,p75,qx _,qMC N,(qPR N x.1 x.2.1).trans h⟩
def qce (d:Int):Val Y32:=(d,[(List.replicate d.toNat (0:Int),(1:Int),false)])
def qdP (d:Int):Prop:=0≤d∧d≤1048576
def idL (l:List (Val (.int .i64))):List (Val (.int .i64)):=l
def qlp (l:List (Val (.int .i64))):Prop:=l.length≤1048576
def idA (a:Val Y36):Val Y36:=a
def qcu (a:Val Y36):Prop:=List.length (α:=Val (.int .i64)) a.1≤1048576
def g72:G:={ps:=[i3],rs:=[i32],dp:=true,pre:=fun x=>qdP x.1,fn:=fun x=>(qce x.1,())}
def g86:G:={ps:=[i25],rs:=[i25],dp:=true,pre:=fun x=>qlp x.1,fn:=fun x=>(idL x.1,())}
noncomputable def m72 (N:Nat) (v0:Int):Option (qb [i32]):=chk (0≤v0∧v0≤v0∧v0≤1048576) (some ((v0,([((List.replicate v0.toNat (qa (.int .i64))),(1:Int),false)]:List (Val Y36))),()))
def Γ72:Gam:=[]
def qoX:Nat→Tree:=fun _=> .done
def qvH:Nat→Nm:=fun _=>⟨[],[],false⟩
def qrA:Nat→Option Jn:=fun _=>none
def qBK:Nat→Option Nm:=fun _=>none
def qra:Nat→Option Nm:=fun _=>none
theorem p72:ql qoX (Try.f72.body.getD .skip)=true:=by kernel_rfl
def T72 (N:Nat):Tab:={tr:=qoX,lp:=qvH,ex:=qBK,rg:=qra,jn:=qrA,fuel:=N}
theorem qMZ (N:Nat):(T72 N).pins=false:=rfl
theorem qP2 (N:Nat):qm Try.prog (T72 N):=qu fun _=>rfl
theorem qRL (N:Nat) (i:Nat):(T72 N).tr i=qoX i:=rfl
theorem qPd (N:Nat) (i:Nat):(T72 N).lp i=qvH i:=rfl
theorem qPW (N:Nat) (i:Nat):(T72 N).ex i=qBK i:=rfl
theorem qRS (N:Nat) (i:Nat):(T72 N).rg i=qra i:=rfl
theorem qRq (N:Nat) (i:Nat):(T72 N).jn i=qrA i:=rfl
theorem qSd (N:Nat):(T72 N).fuel=N:=rfl
theorem qLN (N:Nat) (v0:Int):qd tt Γ72 (T72 N) (Try.f72.body.getD .skip) (qp tt true [i32] [.cell 2 32]) (qt [i3] 9 (v0,()))=m72 N v0:=by
 rw [m72];unfold Try.f72
 simp (maxSteps:=10000000) -implicitDefEqProofs [qRL,qoX,qPd,qvH,qPW,qBK,qRS,qra,qRq,qrA,qSd,qMZ]
 try rfl
noncomputable def m86 (N:Nat) (v0:List (Val (.int .i64))):Option (qb [i25]):=chk (([]:List (Val (.int .i64))).length+v0.length≤1048576) (some ((([]:List (Val (.int .i64)))++v0),()))
def Γ86:Gam:=[]
def qpk:Nat→Tree:=fun _=> .done
def qzL:Nat→Nm:=fun _=>⟨[],[],false⟩
def qAk:Nat→Option Jn:=fun _=>none
def qq4:Nat→Option Nm:=fun _=>none
def qCb:Nat→Option Nm:=fun _=>none
theorem p86:ql qpk (Try.f86.body.getD .skip)=true:=by kernel_rfl
def T86 (N:Nat):Tab:={tr:=qpk,lp:=qzL,ex:=qq4,rg:=qCb,jn:=qAk,fuel:=N}
theorem qOC (N:Nat):(T86 N).pins=false:=rfl
theorem qPX (N:Nat):qm Try.prog (T86 N):=qu fun _=>rfl
theorem qQZ (N:Nat) (i:Nat):(T86 N).tr i=qpk i:=rfl
theorem qR5 (N:Nat) (i:Nat):(T86 N).lp i=qzL i:=rfl
theorem qPs (N:Nat) (i:Nat):(T86 N).ex i=qq4 i:=rfl
theorem qLu (N:Nat) (i:Nat):(T86 N).rg i=qCb i:=rfl
theorem qOO (N:Nat) (i:Nat):(T86 N).jn i=qAk i:=rfl
theorem qKb (N:Nat):(T86 N).fuel=N:=rfl
theorem qLS (N:Nat) (v0:List (Val (.int .i64))):qd tt Γ86 (T86 N) (Try.f86.body.getD .skip) (qp tt true [i25] [.tmp 2]) (qt [i25] 6 (v0,()))=m86 N v0:=by
 rw [m86];unfold Try.f86
 simp (maxSteps:=10000000) -implicitDefEqProofs [qQZ,qpk,qR5,qzL,qPs,qq4,qLu,qCb,qOO,qAk,qKb,qOC]
 try rfl
theorem e72 (d:Int) (h:qdP d): ∃N,m72 N d=some (qce d,()):=⟨0,by
 rw [m72,qc ⟨h.1,Int.le_refl _,h.2⟩];rfl⟩
theorem e86 (l:List (Val (.int .i64))) (h:qlp l): ∃N,m86 N l=some (idL l,()):=⟨0,by
 rw [m86,qc (by simpa [qlp] using h)];rfl⟩
theorem s72:Sound Try.prog 72 g72:=qw (tt:=tt) (Γ:=Γ72) hT qq hm (fn:=Try.f72) Try.func72 (c:=Try.f72.body.getD .skip) (by kernel_rfl) (by kernel_rfl) fun x hx=>by
 obtain ⟨N,h⟩:=e72 x.1 hx
 exact ⟨T72 N,p72,qx _,qP2 N,(qLN N x.1).trans h⟩
theorem s86:Sound Try.prog 86 g86:=qw (tt:=tt) (Γ:=Γ86) hT qq hm (fn:=Try.f86) Try.func86 (c:=Try.f86.body.getD .skip) (by kernel_rfl) (by kernel_rfl) fun x hx=>by
 obtain ⟨N,h⟩:=e86 x.1 hx
 exact ⟨T86 N,p86,qx _,qPX N,(qLS N x.1).trans h⟩
def g73:G:={ps:=[i36],rs:=[i36],dp:=true,pre:=fun x=>qcu x.1,fn:=fun x=>(idA x.1,())}
noncomputable def m73 (N:Nat) (v0:Val Y36):Option (qb [i36]):=chk (qlp (v0.1:List (Val (.int .i64)))) (some ((((idL (v0.1:List (Val (.int .i64)))):List (Val (.int .i64))),(v0.2.1:Int),(v0.2.2:Bool)),()))
def Γ73:Gam:=[(86,g86)]
theorem qHi:Gam.get Γ73 86=some g86:=rfl
def qnC:Nm:=⟨[false,false,true],[],false⟩
theorem qSb:qnC.zero=false:=rfl
theorem qIz:qnC.fix=[]:=rfl
theorem qKv:qnC.keep=[false,false,true]:=rfl
def qoM:Nat→Tree:=fun i=>if i=1 then .quiet 0 (.quiet 1 (.alt 2 (.quiet 3 (.quiet 4 (.quiet 5 (.quiet 6 (.quiet 7 (.alt 8 .done .stop)))))) (.alt 3 (.alt 2 (.quiet 4 (.quiet 5 (.quiet 6 (.quiet 7 (.alt 8 .done .stop))))) (.alt 4 (.alt 2 (.quiet 5 (.quiet 6 (.quiet 7 (.alt 8 .done .stop)))) (.alt 5 (.alt 2 (.quiet 6 (.quiet 7 (.alt 8 .done .stop))) (.alt 6 (.alt 2 (.quiet 7 (.alt 8 .done .stop)) .stop) .stop)) .stop)) (.alt 5 (.alt 2 (.quiet 4 (.quiet 6 (.quiet 7 (.alt 8 .done .stop)))) (.alt 4 (.alt 2 (.quiet 6 (.quiet 7 (.alt 8 .done .stop))) (.alt 6 (.alt 2 (.quiet 7 (.alt 8 .done .stop)) .stop) .stop)) (.alt 6 (.alt 2 (.quiet 4 (.quiet 7 (.alt 8 .done .stop))) (.alt 4 (.alt 2 (.quiet 7 (.alt 8 .done .stop)) .stop) .stop)) .stop))) .stop))) (.alt 5 (.alt 2 (.quiet 3 (.quiet 4 (.quiet 6 (.quiet 7 (.alt 8 .done .stop))))) (.alt 3 (.alt 2 (.quiet 4 (.quiet 6 (.quiet 7 (.alt 8 .done .stop)))) (.alt 4 (.alt 2 (.quiet 6 (.quiet 7 (.alt 8 .done .stop))) (.alt 6 (.alt 2 (.quiet 7 (.alt 8 .done .stop)) .stop) .stop)) (.alt 6 (.alt 2 (.quiet 4 (.quiet 7 (.alt 8 .done .stop))) (.alt 4 (.alt 2 (.quiet 7 (.alt 8 .done .stop)) .stop) .stop)) .stop))) (.alt 6 (.alt 2 (.quiet 3 (.quiet 4 (.quiet 7 (.alt 8 .done .stop)))) (.alt 3 (.alt 2 (.quiet 4 (.quiet 7 (.alt 8 .done .stop))) (.alt 4 (.alt 2 (.quiet 7 (.alt 8 .done .stop)) .stop) .stop)) .stop)) .stop))) .stop))))else .done
def qyO:Nat→Nm:=fun _=>⟨[],[],false⟩
def qAw:Nat→Option Jn:=fun _=>none
def qBD:Nat→Option Nm:=fun _=>none
def quK:Nat→Option Nm:=fun i=>if i=1 then some qnC else none
theorem p73:ql qoM (Try.f73.body.getD .skip)=true:=by kernel_rfl
def T73 (N:Nat):Tab:={tr:=qoM,lp:=qyO,ex:=qBD,rg:=quK,jn:=qAw,fuel:=N}
theorem qJa (N:Nat):(T73 N).pins=false:=rfl
theorem qHn (N:Nat):qm Try.prog (T73 N):=qu fun _=>rfl
theorem qNR (N:Nat) (i:Nat):(T73 N).tr i=qoM i:=rfl
theorem qPk (N:Nat) (i:Nat):(T73 N).lp i=qyO i:=rfl
theorem qOX (N:Nat) (i:Nat):(T73 N).ex i=qBD i:=rfl
theorem qLp (N:Nat) (i:Nat):(T73 N).rg i=quK i:=rfl
theorem qPy (N:Nat) (i:Nat):(T73 N).jn i=qAw i:=rfl
theorem qGh (N:Nat):(T73 N).fuel=N:=rfl
theorem qHY (N:Nat) (v0:Val Y36):qd tt Γ73 (T73 N) (Try.f73.body.getD .skip) (qp tt true [i36] [.cell 2 36]) (qt [i36] 11 (v0,()))=m73 N v0:=by
 rw [m73];unfold Try.f73
 simp (maxSteps:=10000000) -implicitDefEqProofs [qNR,qoM,qPk,qyO,qOX,qBD,qLp,quK,qPy,qAw,qGh,qJa,qIz,qKv,qSb,qHi,g86]
 try rfl
theorem e73 (a:Val Y36) (h:qcu a): ∃N,m73 N a=some (idA a,()):=⟨0,by
 rw [m73,qc (show qlp a.1 from h)];rfl⟩
theorem s73:Sound Try.prog 73 g73:=qw (tt:=tt) (Γ:=Γ73) hT (qf s86 qq) hm (fn:=Try.f73) Try.func73 (c:=Try.f73.body.getD .skip) (by kernel_rfl) (by kernel_rfl) fun x hx=>by
 obtain ⟨N,h⟩:=e73 x.1 hx
 exact ⟨T73 N,p73,qx _,qHn N,(qHY N x.1).trans h⟩
end Go.T
