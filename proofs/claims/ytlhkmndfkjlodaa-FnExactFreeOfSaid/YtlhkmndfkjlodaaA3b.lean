/- Words, relations: whether they are valid. -/
import Derived.Test.YtlhkmndfkjlodaaA3
set_option linter.unusedSimpArgs false
set_option linter.unusedVariables false
namespace Go.T
open Go Go.Proofs
set_option maxHeartbeats 4000000
set_option maxRecDepth 100000
def qan (s:ByteArray) (lo hi:Int):Bool:=decide (1≤(s.size:Int)∧(s.size:Int)≤6)&&(List.range s.size).all fun i=>decide (lo≤qad s i∧qad s i≤hi)
def qfN (s:ByteArray) (_ _:Int):Prop:=s.size≤1048576
def qeI (r:Val qf):Bool:=qan r.1 65 90&&decide (0≤(r.2.1:Int)∧(r.2.1:Int)≤4)&&decide ((List.length (α:=Val qi) r.2.2:Int)≤8)&&
 List.all (α:=Val qi) r.2.2 fun x=>qan x.1 97 122&&qeL x.2&&decide ((x.2.1:Int)=(r.2.1:Int))
def qsG (r:Val qf):Prop:=Bd (.pair .str (.pair (.int .i64) (.slice 158 qi))) r
noncomputable def qhc (N:Nat) (v3:ByteArray) (v4:Int) (v5:Int) (k0:Unit→Option (qc [i4])):Nat→Int→Option (qc [i4])
 | 0,_=>none
 | n+1,v6=>bif (decide (v6<(v3.size:Int)))then (chk (0≤v6∧v6<(v3.size:Int)) (bif (decide ((qad v3 v6.toNat)<v4))then (some (false,()))else (chk (0≤v6∧v6<(v3.size:Int)) (bif (decide (v5<(qad v3 v6.toNat)))then (some (false,()))else (qhc N v3 v4 v5 k0 n (IntKind.i64.wrap (v6+(1:Int))))))))else (k0 ())
noncomputable def qsU (N:Nat) (v0:ByteArray) (v1:Int) (v2:Int):Option (qc [i4]):=qhc N v0 v1 v2 (fun (_:Unit)=>some (((inR (v0.size:Int) (1:Int) (6:Int)):Bool),())) N (0:Int)
def qji:Gam:=[(47,g47)]
theorem qFB:Gam.get qji 47=some g47:=rfl
def qoM:Nm:=⟨[true,true,true,false,false,false,false,true],[],false⟩
theorem qt2:qoM.zero=false:=rfl
theorem qtk:qoM.fix=[]:=rfl
theorem qBs:qoM.keep=[true,true,true,false,false,false,false,true]:=rfl
def qp6:Nm:=⟨[true],[],false⟩
theorem qDu:qp6.zero=false:=rfl
theorem qwj:qp6.fix=[]:=rfl
theorem qE9:qp6.keep=[true]:=rfl
def qiT:Nat→Tree:=fun _=> .done
def qlA:Nat→Nm:=fun i=>if i=2 then qoM else ⟨[],[],false⟩
def qnz:Nat→Option Jn:=fun _=>none
def qmM:Nat→Option Nm:=fun i=>if i=0 then some qp6 else none
def qlt:Nat→Option Nm:=fun _=>none
theorem qKS:qn qiT (Try.f143.body.getD .skip)=true:=by kernel_rfl
def qdD (N:Nat):Tab:={tr:=qiT,lp:=qlA,ex:=qmM,rg:=qlt,jn:=qnz,fuel:=N}
theorem qtl (N:Nat):(qdD N).pins=false:=rfl
theorem qNt (N:Nat):qp Try.prog (qdD N):=qw fun _=>rfl
theorem qAC (N:Nat) (i:Nat):(qdD N).tr i=qiT i:=rfl
theorem qt9 (N:Nat) (i:Nat):(qdD N).lp i=qlA i:=rfl
theorem qCB (N:Nat) (i:Nat):(qdD N).ex i=qmM i:=rfl
theorem qyJ (N:Nat) (i:Nat):(qdD N).rg i=qlt i:=rfl
theorem qxe (N:Nat) (i:Nat):(qdD N).jn i=qnz i:=rfl
theorem qA0 (N:Nat):(qdD N).fuel=N:=rfl
noncomputable def qFR:Code:=cut [true,false,true,true,true] (Try.f143.body.getD .skip)
theorem qLs {N:Nat} {Q:X→St→Option (qc [i4])} {e:List LV} {h:List Blk}:qe tt qji (qdD N) qFR Q ⟨e,h⟩=qe tt qji (qdD N) (cut [true,false,true,true,true] (Try.f143.body.getD .skip)) Q ⟨e,h⟩:=rfl
theorem qTL (N:Nat) (v3:ByteArray) (v4:Int) (v5:Int) {k0:Unit→Option (qc [i4])} {Q:X→St→Option (qc [i4])} {c:Code} (hc:c=qFR) (hret: ∀st,Q .ret st=qI tt true [i4] [.tmp 6] st) (h0:Q (.exit 0) ⟨[.one (.str v3),u,u,u,u,u,u,u,u,u,u,u,u,u,u,u,u,u,u,u,u,u,u,u,u,u,u,u,u],[]⟩=k0 ()): ∀(n:Nat) (v6:Int),qC (qe tt qji (qdD N) c) false qoM Q n ⟨[.one (.str v3),.one (.int .u8 v4),.one (.int .u8 v5),u,u,u,u,.one (.int .i64 v6),u,u,u,u,u,u,u,u,u,u,u,u,u,u,u,u,u,u,u,u,u],[]⟩=qhc N v3 v4 v5 k0 n v6:=by
 subst hc;intro n;induction n with
 | zero=>intros;rfl
 | succ n ih=>
   intro v6
   rw [qM,qLs,qhc];unfold Try.f143
   simp (maxSteps:=10000000) -implicitDefEqProofs [qAC,qiT,qt9,qlA,qCB,qmM,qyJ,qlt,qxe,qnz,qA0,qtl,qtk,qBs,qt2,qwj,qE9,qDu,qFB,g47,hret,h0,ih]
theorem qMy (N:Nat) (v0:ByteArray) (v1:Int) (v2:Int):qe tt qji (qdD N) (Try.f143.body.getD .skip) (qr tt true [i4] [.tmp 6]) (qv [i9,i5,i5] 29 (v0,v1,v2,()))=qsU N v0 v1 v2:=by
 unfold Try.f143
 simp (maxSteps:=10000000) -implicitDefEqProofs [qAC,qiT,qt9,qlA,qCB,qmM,qyJ,qlt,qxe,qnz,qA0,qtl,qtk,qBs,qt2,qwj,qE9,qDu,qFB,g47]
 rewrite [qTL (k0:=(fun (_:Unit)=>some (((inR (v0.size:Int) (1:Int) (6:Int)):Bool),()))) N _ _ _ ?_ ?_ ?_]
 ·rewrite [qsU];first | rfl | simp (maxSteps:=10000000) -implicitDefEqProofs []
 ·rfl
 ·intro;simp only [qK,qL,qN,qm]
 ·simp (maxSteps:=10000000) -implicitDefEqProofs [qAC,qiT,qt9,qlA,qCB,qmM,qyJ,qlt,qxe,qnz,qA0,qtl,qtk,qBs,qt2,qwj,qE9,qDu,qFB,g47]
noncomputable def qgZ (N:Nat) (v3:ByteArray) (v4:Int) (v5:Int) (k0:Unit→Option (qc [i4])):Nat→Int→Option (qc [i4])
 | 0,_=>none
 | n+1,v6=>bif (decide (v6<(v3.size:Int)))then (chk (0≤v6∧v6<(v3.size:Int)) (bif (decide ((qad v3 v6.toNat)<v4))then (some (false,()))else (chk (0≤v6∧v6<(v3.size:Int)) (bif (decide (v5<(qad v3 v6.toNat)))then (some (false,()))else (qgZ N v3 v4 v5 k0 n (IntKind.i64.wrap (v6+(1:Int))))))))else (k0 ())
noncomputable def qsE (N:Nat) (v0:ByteArray) (v1:Int) (v2:Int):Option (qc [i4]):=bif (decide ((v0.size:Int)<(1:Int)))then (some (false,()))else (bif (decide ((6:Int)<(v0.size:Int)))then (some (false,()))else (qgZ N v0 v1 v2 (fun (_:Unit)=>some (true,())) N (0:Int)))
def qm7:Gam:=[]
def qon:Nm:=⟨[true,true,true,false,false,false,false,true],[],false⟩
theorem qz1:qon.zero=false:=rfl
theorem qwr:qon.fix=[]:=rfl
theorem qCe:qon.keep=[true,true,true,false,false,false,false,true]:=rfl
def qps:Nm:=⟨[],[],false⟩
theorem qFm:qps.zero=false:=rfl
theorem qBZ:qps.fix=[]:=rfl
theorem qCj:qps.keep=[]:=rfl
def qjh:Nat→Tree:=fun _=> .done
def qoN:Nat→Nm:=fun i=>if i=4 then qon else ⟨[],[],false⟩
def qmE:Nat→Option Jn:=fun _=>none
def qo0:Nat→Option Nm:=fun i=>if i=0 then some qps else none
def qn1:Nat→Option Nm:=fun _=>none
theorem qVJ:qn qjh (Try.f152.body.getD .skip)=true:=by kernel_rfl
def qc2 (N:Nat):Tab:={tr:=qjh,lp:=qoN,ex:=qo0,rg:=qn1,jn:=qmE,fuel:=N}
theorem quj (N:Nat):(qc2 N).pins=false:=rfl
theorem qRW (N:Nat):qp Try.prog (qc2 N):=qw fun _=>rfl
theorem qyf (N:Nat) (i:Nat):(qc2 N).tr i=qjh i:=rfl
theorem qxy (N:Nat) (i:Nat):(qc2 N).lp i=qoN i:=rfl
theorem qDX (N:Nat) (i:Nat):(qc2 N).ex i=qo0 i:=rfl
theorem qBj (N:Nat) (i:Nat):(qc2 N).rg i=qn1 i:=rfl
theorem qtI (N:Nat) (i:Nat):(qc2 N).jn i=qmE i:=rfl
theorem quI (N:Nat):(qc2 N).fuel=N:=rfl
noncomputable def qJj:Code:=cut [true,true,false,true,true,true] (Try.f152.body.getD .skip)
theorem qSQ {N:Nat} {Q:X→St→Option (qc [i4])} {e:List LV} {h:List Blk}:qe tt qm7 (qc2 N) qJj Q ⟨e,h⟩=qe tt qm7 (qc2 N) (cut [true,true,false,true,true,true] (Try.f152.body.getD .skip)) Q ⟨e,h⟩:=rfl
theorem qNk (N:Nat) (v3:ByteArray) (v4:Int) (v5:Int) {k0:Unit→Option (qc [i4])} {Q:X→St→Option (qc [i4])} {c:Code} (hc:c=qJj) (hret: ∀st,Q .ret st=qI tt true [i4] [.tmp 6] st) (h0:Q (.exit 0) ⟨[u,u,u,u,u,u,u,u,u,u,u,u,u,u,u,u,u,u,u,u,u,u,u,u,u,u,u,u,u,u,u,u,u,u],[]⟩=k0 ()): ∀(n:Nat) (v6:Int),qC (qe tt qm7 (qc2 N) c) false qon Q n ⟨[.one (.str v3),.one (.int .u8 v4),.one (.int .u8 v5),u,u,u,u,.one (.int .i64 v6),u,u,u,u,u,u,u,u,u,u,u,u,u,u,u,u,u,u,u,u,u,u,u,u,u,u],[]⟩=qgZ N v3 v4 v5 k0 n v6:=by
 subst hc;intro n;induction n with
 | zero=>intros;rfl
 | succ n ih=>
   intro v6
   rw [qM,qSQ,qgZ];unfold Try.f152
   simp (maxSteps:=10000000) -implicitDefEqProofs [qyf,qjh,qxy,qoN,qDX,qo0,qBj,qn1,qtI,qmE,quI,quj,qwr,qCe,qz1,qBZ,qCj,qFm,hret,h0,ih]
theorem qVD (N:Nat) (v0:ByteArray) (v1:Int) (v2:Int):qe tt qm7 (qc2 N) (Try.f152.body.getD .skip) (qr tt true [i4] [.tmp 6]) (qv [i9,i5,i5] 34 (v0,v1,v2,()))=qsE N v0 v1 v2:=by
 unfold Try.f152
 simp (maxSteps:=10000000) -implicitDefEqProofs [qyf,qjh,qxy,qoN,qDX,qo0,qBj,qn1,qtI,qmE,quI,quj,qwr,qCe,qz1,qBZ,qCj,qFm]
 rewrite [qNk (k0:=(fun (_:Unit)=>some (true,()))) N _ _ _ ?_ ?_ ?_]
 ·rewrite [qsE];first | rfl | simp (maxSteps:=10000000) -implicitDefEqProofs []
 ·rfl
 ·intro;simp only [qK,qL,qN,qm]
 ·simp (maxSteps:=10000000) -implicitDefEqProofs [qyf,qjh,qxy,qoN,qDX,qo0,qBj,qn1,qtI,qmE,quI,quj,qwr,qCe,qz1,qBZ,qCj,qFm]
theorem qFI {n i:Nat} (h:(List.range n).length≤i): ¬((i:Int)<(n:Int)):=by
 have:n≤i:=by simpa using h
 omega
theorem qSt (N:Nat) (s:ByteArray) (a b:Int) (K:Unit→Option (qc [i4])) (hl:s.size≤1048576) (n:Nat) (hn:s.size<n):qhc N s a b K n 0=bif (List.range s.size).all (fun i=>decide (a≤qad s i∧qad s i≤b))then K ()else some (false,()):=
 (qam (F:=fun n i (_:Unit)=>qhc N s a b K n i) (xs:=List.range s.size) (step:=fun _ x _ K=>bif decide (a≤qad s x∧qad s x≤b)then K ()else some (false,())) (k:=K) (by simpa using hl) (fun n i u hi=>by
   have hi:i<s.size:=by simpa using hi
   rw [qhc,qj (by omega),qd (by omega),qd (by omega),Int.toNat_natCast,List.getElem_range]
   by_cases h1:qad s i<a<;>by_cases h2:b<qad s i
   ·simp [h1,show ¬(a≤qad s i) by omega]
   ·simp [h1,show ¬(a≤qad s i) by omega]
   ·simp [h1,h2,show ¬(qad s i≤b) by omega]
   ·simp [h1,h2,show a≤qad s i by omega,show qad s i≤b by omega]) (fun n i u hi=>by rw [qhc,qh (qFI hi)]) n () (by simpa using hn)).trans (qeU _ 0)
theorem qJz (N:Nat) (s:ByteArray) (a b:Int) (K:Unit→Option (qc [i4])) (hl:s.size≤1048576) (n:Nat) (hn:s.size<n):qgZ N s a b K n 0=bif (List.range s.size).all (fun i=>decide (a≤qad s i∧qad s i≤b))then K ()else some (false,()):=
 (qam (F:=fun n i (_:Unit)=>qgZ N s a b K n i) (xs:=List.range s.size) (step:=fun _ x _ K=>bif decide (a≤qad s x∧qad s x≤b)then K ()else some (false,())) (k:=K) (by simpa using hl) (fun n i u hi=>by
   have hi:i<s.size:=by simpa using hi
   rw [qgZ,qj (by omega),qd (by omega),qd (by omega),Int.toNat_natCast,List.getElem_range]
   by_cases h1:qad s i<a<;>by_cases h2:b<qad s i
   ·simp [h1,show ¬(a≤qad s i) by omega]
   ·simp [h1,show ¬(a≤qad s i) by omega]
   ·simp [h1,h2,show ¬(qad s i≤b) by omega]
   ·simp [h1,h2,show a≤qad s i by omega,show qad s i≤b by omega]) (fun n i u hi=>by rw [qgZ,qh (qFI hi)]) n () (by simpa using hn)).trans (qeU _ 0)
def qb0:G:={ps:=[i9,i5,i5],rs:=[i4],dp:=true,pre:=fun x=>qfN x.1 x.2.1 x.2.2.1,fn:=fun x=>(qan x.1 x.2.1 x.2.2.1,())}
def qhV:G:={ps:=[i9,i5,i5],rs:=[i4],dp:=true,pre:=fun _=>True,fn:=fun x=>(qan x.1 x.2.1 x.2.2.1,())}
theorem qSD (s:ByteArray) (a b:Int) (h:qfN s a b): ∃N,qsU N s a b=some (qan s a b,()):=⟨s.size+1,by
 rw [qsU,qan,qSt _ _ _ _ _ h _ (Nat.lt_succ_self _)]
 simp only [inR]
 cases (List.range s.size).all _<;>simp⟩
theorem qGW:Sound Try.prog 143 qb0:=qz (tt:=tt) (Γ:=qji) hT (ql s47 qt) hm (fn:=Try.f143) Try.func143 (c:=Try.f143.body.getD .skip) (by kernel_rfl) (by kernel_rfl) fun x hx=>by
 obtain ⟨N,h⟩:=qSD x.1 x.2.1 x.2.2.1 hx
 exact ⟨qdD N,qKS,qy _,qNt N,(qMy N x.1 x.2.1 x.2.2.1).trans h⟩
theorem qRv (s:ByteArray) (a b:Int): ∃N,qsE N s a b=some (qan s a b,()):=⟨s.size+1,by
 rw [qsE,qan]
 by_cases h1:(s.size:Int)<1
 ·rw [qj h1]
  simp only [show ¬((1:Int)≤s.size∧(s.size:Int)≤6) by omega,decide_false,Bool.false_and]
 ·rw [qh h1]
  by_cases h2:(6:Int)<s.size
  ·rw [qj h2]
   simp only [show ¬((1:Int)≤s.size∧(s.size:Int)≤6) by omega,decide_false,Bool.false_and]
  ·rw [qh h2,qJz _ _ _ _ _ (by omega) _ (Nat.lt_succ_self _)]
   simp only [show ((1:Int)≤s.size∧(s.size:Int)≤6) by omega,decide_true,Bool.true_and]
   cases (List.range s.size).all _<;>rfl⟩
theorem qGg:Sound Try.prog 152 qhV:=qz (tt:=tt) (Γ:=qm7) hT qt hm (fn:=Try.f152) Try.func152 (c:=Try.f152.body.getD .skip) (by kernel_rfl) (by kernel_rfl) fun x hx=>by
 obtain ⟨N,h⟩:=qRv x.1 x.2.1 x.2.2.1
 exact ⟨qc2 N,qVJ,qy _,qRW N,(qVD N x.1 x.2.1 x.2.2.1).trans h⟩
def qrm (s:ByteArray):Bool:=qan s 65 90
def qgp (s:ByteArray):Bool:=qan s 97 122
noncomputable def qDj (N:Nat) (v0:ByteArray):Option (qc [i4]):=some (((qan v0 (65:Int) (90:Int)):Bool),())
def qBV:Gam:=[(152,qhV)]
theorem qOW:Gam.get qBV 152=some qhV:=rfl
def qsu:Nat→Tree:=fun _=> .done
def qyr:Nat→Nm:=fun _=>⟨[],[],false⟩
def qEj:Nat→Option Jn:=fun _=>none
def qAA:Nat→Option Nm:=fun _=>none
def qyM:Nat→Option Nm:=fun _=>none
theorem qT4:qn qsu (Try.f151.body.getD .skip)=true:=by kernel_rfl
def qfM (N:Nat):Tab:={tr:=qsu,lp:=qyr,ex:=qAA,rg:=qyM,jn:=qEj,fuel:=N}
theorem qRc (N:Nat):(qfM N).pins=false:=rfl
theorem qLN (N:Nat):qp Try.prog (qfM N):=qw fun _=>rfl
theorem qKz (N:Nat) (i:Nat):(qfM N).tr i=qsu i:=rfl
theorem qP4 (N:Nat) (i:Nat):(qfM N).lp i=qyr i:=rfl
theorem qTn (N:Nat) (i:Nat):(qfM N).ex i=qAA i:=rfl
theorem qPk (N:Nat) (i:Nat):(qfM N).rg i=qyM i:=rfl
theorem qKp (N:Nat) (i:Nat):(qfM N).jn i=qEj i:=rfl
theorem qP9 (N:Nat):(qfM N).fuel=N:=rfl
theorem qK1 (N:Nat) (v0:ByteArray):qe tt qBV (qfM N) (Try.f151.body.getD .skip) (qr tt true [i4] [.tmp 2]) (qv [i9] 5 (v0,()))=qDj N v0:=by
 rw [qDj];unfold Try.f151
 simp (maxSteps:=10000000) -implicitDefEqProofs [qKz,qsu,qP4,qyr,qTn,qAA,qPk,qyM,qKp,qEj,qP9,qRc,qOW,qhV]
 try rfl
noncomputable def qFp (N:Nat) (v0:ByteArray):Option (qc [i4]):=some (((qan v0 (97:Int) (122:Int)):Bool),())
def qDy:Gam:=[(152,qhV)]
theorem qQL:Gam.get qDy 152=some qhV:=rfl
def qsI:Nat→Tree:=fun _=> .done
def qvz:Nat→Nm:=fun _=>⟨[],[],false⟩
def qA6:Nat→Option Jn:=fun _=>none
def qto:Nat→Option Nm:=fun _=>none
def qy1:Nat→Option Nm:=fun _=>none
theorem qS9:qn qsI (Try.f148.body.getD .skip)=true:=by kernel_rfl
def qfS (N:Nat):Tab:={tr:=qsI,lp:=qvz,ex:=qto,rg:=qy1,jn:=qA6,fuel:=N}
theorem qMm (N:Nat):(qfS N).pins=false:=rfl
theorem qJO (N:Nat):qp Try.prog (qfS N):=qw fun _=>rfl
theorem qRt (N:Nat) (i:Nat):(qfS N).tr i=qsI i:=rfl
theorem qKF (N:Nat) (i:Nat):(qfS N).lp i=qvz i:=rfl
theorem qUL (N:Nat) (i:Nat):(qfS N).ex i=qto i:=rfl
theorem qLn (N:Nat) (i:Nat):(qfS N).rg i=qy1 i:=rfl
theorem qLg (N:Nat) (i:Nat):(qfS N).jn i=qA6 i:=rfl
theorem qLY (N:Nat):(qfS N).fuel=N:=rfl
theorem qJM (N:Nat) (v0:ByteArray):qe tt qDy (qfS N) (Try.f148.body.getD .skip) (qr tt true [i4] [.tmp 2]) (qv [i9] 5 (v0,()))=qFp N v0:=by
 rw [qFp];unfold Try.f148
 simp (maxSteps:=10000000) -implicitDefEqProofs [qRt,qsI,qKF,qvz,qUL,qto,qLn,qy1,qLg,qA6,qLY,qMm,qQL,qhV]
 try rfl
def qjq:G:={ps:=[i9],rs:=[i4],dp:=true,pre:=fun _=>True,fn:=fun x=>(qrm x.1,())}
def qe0:G:={ps:=[i9],rs:=[i4],dp:=true,pre:=fun _=>True,fn:=fun x=>(qgp x.1,())}
theorem qQs (s:ByteArray): ∃N,qDj N s=some (qrm s,()):=⟨0,rfl⟩
theorem qQ5 (s:ByteArray): ∃N,qFp N s=some (qgp s,()):=⟨0,rfl⟩
theorem qOG:Sound Try.prog 151 qjq:=qz (tt:=tt) (Γ:=qBV) hT (ql qGg qt) hm (fn:=Try.f151) Try.func151 (c:=Try.f151.body.getD .skip) (by kernel_rfl) (by kernel_rfl) fun x hx=>by
 obtain ⟨N,h⟩:=qQs x.1
 exact ⟨qfM N,qT4,qy _,qLN N,(qK1 N x.1).trans h⟩
theorem qJh:Sound Try.prog 148 qe0:=qz (tt:=tt) (Γ:=qDy) hT (ql qGg qt) hm (fn:=Try.f148) Try.func148 (c:=Try.f148.body.getD .skip) (by kernel_rfl) (by kernel_rfl) fun x hx=>by
 obtain ⟨N,h⟩:=qQ5 x.1
 exact ⟨qfS N,qS9,qy _,qJO N,(qJM N x.1).trans h⟩
noncomputable def qgv (N:Nat) (v2:ByteArray) (v3:Int) (v4:List (Val qi)) (k0:Unit→Option (qc [i4])):Nat→Int→Option (qc [i4])
 | 0,_=>none
 | n+1,v1=>bif (decide (v1<(v4.length:Int)))then (chk (0≤v1∧v1<(v4.length:Int)) (chk (qfN ((v4.getD v1.toNat (qa qi)).1:ByteArray) (97:Int) (122:Int)) (bif (!((qan ((v4.getD v1.toNat (qa qi)).1:ByteArray) (97:Int) (122:Int)):Bool))then (some (false,()))else (chk (0≤v1∧v1<(v4.length:Int)) (chk (qr5 ((v4.getD v1.toNat (qa qi)).2)) (bif (!((qeL ((v4.getD v1.toNat (qa qi)).2)):Bool))then (some (false,()))else (chk (0≤v1∧v1<(v4.length:Int)) (bif (!(decide ((((v4.getD v1.toNat (qa qi)).2).1:Int)=v3)))then (some (false,()))else (qgv N v2 v3 v4 k0 n (IntKind.i64.wrap (v1+(1:Int))))))))))))else (k0 ())
noncomputable def qrh (N:Nat) (v0:Val qf):Option (qc [i4]):=qgv N (v0.1:ByteArray) (v0.2.1:Int) (v0.2.2:List (Val qi)) (fun (_:Unit)=>chk (qfN (v0.1:ByteArray) (65:Int) (90:Int)) (bif ((qan (v0.1:ByteArray) (65:Int) (90:Int)):Bool)then (bif ((inR (v0.2.1:Int) (0:Int) (4:Int)):Bool)then (some ((decide (((v0.2.2:List (Val qi)).length:Int)≤(8:Int))),()))else (some (false,())))else (some (false,())))) N (0:Int)
def qhd:Gam:=[(46,g46),(47,g47),(143,qb0)]
theorem qum:Gam.get qhd 46=some g46:=rfl
theorem qwy:Gam.get qhd 47=some g47:=rfl
theorem qBK:Gam.get qhd 143=some qb0:=rfl
def qn9:Nm:=⟨[false,true,false,true],[],false⟩
theorem qw7:qn9.zero=false:=rfl
theorem qEu:qn9.fix=[]:=rfl
theorem qtu:qn9.keep=[false,true,false,true]:=rfl
def qql:Nm:=⟨[false,true],[],false⟩
theorem quT:qql.zero=false:=rfl
theorem quD:qql.fix=[]:=rfl
theorem quC:qql.keep=[false,true]:=rfl
def qjN:Nat→Tree:=fun i=>if i=4 then .quiet 0 (.quiet 1 (.quiet 2 (.quiet 3 (.quiet 4 (.quiet 5 (.alt 6 (.quiet 7 (.quiet 8 (.quiet 9 (.quiet 10 (.quiet 11 (.quiet 12 (.quiet 13 (.quiet 14 (.alt 15 (.quiet 16 (.quiet 17 (.quiet 18 (.quiet 19 (.quiet 20 (.quiet 21 (.quiet 22 (.quiet 23 (.quiet 24 (.quiet 25 (.quiet 26 (.quiet 27 (.quiet 28 (.quiet 29 .done)))))))))))))) .stop))))))))) .stop))))))else .done
def qm9:Nat→Nm:=fun i=>if i=2 then qn9 else ⟨[],[],false⟩
def qnu:Nat→Option Jn:=fun _=>none
def qnE:Nat→Option Nm:=fun i=>if i=0 then some qql else none
def qnI:Nat→Option Nm:=fun _=>none
theorem qKG:qn qjN (Try.f140.body.getD .skip)=true:=by kernel_rfl
def qd6 (N:Nat):Tab:={tr:=qjN,lp:=qm9,ex:=qnE,rg:=qnI,jn:=qnu,fuel:=N}
theorem qtK (N:Nat):(qd6 N).pins=false:=rfl
theorem qUh (N:Nat):qp Try.prog (qd6 N):=qw fun _=>rfl
theorem qEC (N:Nat) (i:Nat):(qd6 N).tr i=qjN i:=rfl
theorem quV (N:Nat) (i:Nat):(qd6 N).lp i=qm9 i:=rfl
theorem qBq (N:Nat) (i:Nat):(qd6 N).ex i=qnE i:=rfl
theorem qw1 (N:Nat) (i:Nat):(qd6 N).rg i=qnI i:=rfl
theorem qFr (N:Nat) (i:Nat):(qd6 N).jn i=qnu i:=rfl
theorem qya (N:Nat):(qd6 N).fuel=N:=rfl
noncomputable def qH1:Code:=cut [true,false,true,true,true] (Try.f140.body.getD .skip)
theorem qKE {N:Nat} {Q:X→St→Option (qc [i4])} {e:List LV} {h:List Blk}:qe tt qhd (qd6 N) qH1 Q ⟨e,h⟩=qe tt qhd (qd6 N) (cut [true,false,true,true,true] (Try.f140.body.getD .skip)) Q ⟨e,h⟩:=rfl
theorem qTC (N:Nat) (v2:ByteArray) (v3:Int) (v4:List (Val qi)) {k0:Unit→Option (qc [i4])} {Q:X→St→Option (qc [i4])} {c:Code} (hc:c=qH1) (hret: ∀st,Q .ret st=qI tt true [i4] [.tmp 2] st) (h0:Q (.exit 0) ⟨[u,.one (.ptr 0 0 0),u,u,u,u,u,u,u,u,u,u,u,u,u,u,u,u,u,u,u,u,u,u,u,u,u,u,u,u,u,u,u,u,u,u,u,u,u,u,u,u,u,u,u,u,u,u,u,u,u,u,u,u,u],[.box [.str v2,.int .i64 v3,.sl 158 qi v4 1]]⟩=k0 ()): ∀(n:Nat) (v1:Int),qC (qe tt qhd (qd6 N) c) false qn9 Q n ⟨[u,.one (.ptr 0 0 0),u,.one (.int .i64 v1),u,u,u,u,u,u,u,u,u,u,u,u,u,u,u,u,u,u,u,u,u,u,u,u,u,u,u,u,u,u,u,u,u,u,u,u,u,u,u,u,u,u,u,u,u,u,u,u,u,u,u],[.box [.str v2,.int .i64 v3,.sl 158 qi v4 1]]⟩=qgv N v2 v3 v4 k0 n v1:=by
 subst hc;intro n;induction n with
 | zero=>intros;rfl
 | succ n ih=>
   intro v1
   rw [qM,qKE,qgv];unfold Try.f140
   simp (maxSteps:=10000000) -implicitDefEqProofs [qEC,qjN,quV,qm9,qBq,qnE,qw1,qnI,qFr,qnu,qya,qtK,qEu,qtu,qw7,quD,quC,quT,qum,qwy,qBK,g46,g47,qb0,hret,h0,ih]
theorem qKX (N:Nat) (v0:Val qf):qe tt qhd (qd6 N) (Try.f140.body.getD .skip) (qr tt true [i4] [.tmp 2]) (qv [qcu] 55 (v0,()))=qrh N v0:=by
 unfold Try.f140
 simp (maxSteps:=10000000) -implicitDefEqProofs [qEC,qjN,quV,qm9,qBq,qnE,qw1,qnI,qFr,qnu,qya,qtK,qEu,qtu,qw7,quD,quC,quT,qum,qwy,qBK,g46,g47,qb0]
 rewrite [qTC (k0:=(fun (_:Unit)=>chk (qfN (v0.1:ByteArray) (65:Int) (90:Int)) (bif ((qan (v0.1:ByteArray) (65:Int) (90:Int)):Bool)then (bif ((inR (v0.2.1:Int) (0:Int) (4:Int)):Bool)then (some ((decide (((v0.2.2:List (Val qi)).length:Int)≤(8:Int))),()))else (some (false,())))else (some (false,()))))) N _ _ _ ?_ ?_ ?_]
 ·rewrite [qrh];first | rfl | simp (maxSteps:=10000000) -implicitDefEqProofs []
 ·rfl
 ·intro;simp only [qK,qL,qN,qm]
 ·simp (maxSteps:=10000000) -implicitDefEqProofs [qEC,qjN,quV,qm9,qBq,qnE,qw1,qnI,qFr,qnu,qya,qtK,qEu,qtu,qw7,quD,quC,quT,qum,qwy,qBK,g46,g47,qb0]
noncomputable def qgz (N:Nat) (v1:List (Val qi)) (v2:Int) (v4:ByteArray) (v5:Int) (v6:List (Val qi)) (k0:Unit→Option (qc [i4])):Nat→Int→Option (qc [i4])
 | 0,_=>none
 | n+1,v3=>bif (decide (v3<v2))then (chk (0≤v3∧v3<(v1.length:Int)) (bif (!((qgp ((v1.getD v3.toNat (qa qi)).1:ByteArray)):Bool))then (some (false,()))else (bif (!((qeL ((v1.getD v3.toNat (qa qi)).2)):Bool))then (some (false,()))else (bif (!(decide ((((v1.getD v3.toNat (qa qi)).2).1:Int)=v5)))then (some (false,()))else (qgz N v1 v2 v4 v5 v6 k0 n (IntKind.i64.wrap (v3+(1:Int))))))))else (k0 ())
noncomputable def qrX (N:Nat) (v0:Val qf):Option (qc [i4]):=bif (!((qrm (v0.1:ByteArray)):Bool))then (some (false,()))else (bif (decide ((v0.2.1:Int)<(0:Int)))then (some (false,()))else (bif (decide ((4:Int)<(v0.2.1:Int)))then (some (false,()))else (bif (decide ((8:Int)<((v0.2.2:List (Val qi)).length:Int)))then (some (false,()))else (qgz N (v0.2.2:List (Val qi)) ((v0.2.2:List (Val qi)).length:Int) (v0.1:ByteArray) (v0.2.1:Int) (v0.2.2:List (Val qi)) (fun (_:Unit)=>some (true,())) N (0:Int)))))
def qgR:Gam:=[(43,g43),(148,qe0),(151,qjq)]
theorem qFn:Gam.get qgR 43=some g43:=rfl
theorem qCH:Gam.get qgR 148=some qe0:=rfl
theorem qxW:Gam.get qgR 151=some qjq:=rfl
def qnw:Nm:=⟨[false,true,false,false,false,false,false,false,false,false,false,false,false,false,false,false,false,false,false,false,false,false,false,false,false,false,true,true,true],[],false⟩
theorem qzu:qnw.zero=false:=rfl
theorem qz7:qnw.fix=[]:=rfl
theorem qzW:qnw.keep=[false,true,false,false,false,false,false,false,false,false,false,false,false,false,false,false,false,false,false,false,false,false,false,false,false,false,true,true,true]:=rfl
def qs4:Nm:=⟨[],[],false⟩
theorem qxq:qs4.zero=false:=rfl
theorem qxJ:qs4.fix=[]:=rfl
theorem qyS:qs4.keep=[]:=rfl
def qiP:Nat→Tree:=fun _=> .done
def qmN:Nat→Nm:=fun i=>if i=4 then qnw else ⟨[],[],false⟩
def qoI:Nat→Option Jn:=fun _=>none
def qnb:Nat→Option Nm:=fun i=>if i=0 then some qs4 else none
def ql0:Nat→Option Nm:=fun _=>none
theorem qT6:qn qiP (Try.f145.body.getD .skip)=true:=by kernel_rfl
def qc8 (N:Nat):Tab:={tr:=qiP,lp:=qmN,ex:=qnb,rg:=ql0,jn:=qoI,fuel:=N}
theorem qD7 (N:Nat):(qc8 N).pins=false:=rfl
theorem qS3 (N:Nat):qp Try.prog (qc8 N):=qw fun _=>rfl
theorem qtG (N:Nat) (i:Nat):(qc8 N).tr i=qiP i:=rfl
theorem qwU (N:Nat) (i:Nat):(qc8 N).lp i=qmN i:=rfl
theorem qyv (N:Nat) (i:Nat):(qc8 N).ex i=qnb i:=rfl
theorem qx7 (N:Nat) (i:Nat):(qc8 N).rg i=ql0 i:=rfl
theorem qDM (N:Nat) (i:Nat):(qc8 N).jn i=qoI i:=rfl
theorem qFl (N:Nat):(qc8 N).fuel=N:=rfl
noncomputable def qFO:Code:=cut [true,true,false,true,true,true] (Try.f145.body.getD .skip)
theorem qLP {N:Nat} {Q:X→St→Option (qc [i4])} {e:List LV} {h:List Blk}:qe tt qgR (qc8 N) qFO Q ⟨e,h⟩=qe tt qgR (qc8 N) (cut [true,true,false,true,true,true] (Try.f145.body.getD .skip)) Q ⟨e,h⟩:=rfl
theorem qLZ (N:Nat) (v1:List (Val qi)) (v2:Int) (v4:ByteArray) (v5:Int) (v6:List (Val qi)) {k0:Unit→Option (qc [i4])} {Q:X→St→Option (qc [i4])} {c:Code} (hc:c=qFO) (hret: ∀st,Q .ret st=qI tt true [i4] [.tmp 2] st) (h0:Q (.exit 0) ⟨[u,u,u,u,u,u,u,u,u,u,u,u,u,u,u,u,u,u,u,u,u,u,u,u,u,u,u,u,u,u,u,u,u,u,u,u,u,u,u,u,u,u,u,u,u,u,u,u,u,u,u],[]⟩=k0 ()): ∀(n:Nat) (v3:Int),qC (qe tt qgR (qc8 N) c) false qnw Q n ⟨[u,.one (.ptr 0 0 0),u,u,u,u,u,u,u,u,u,u,u,u,u,u,u,u,u,u,u,u,u,u,u,u,.one (.sl 158 qi v1 1),.one (.int .i64 v2),.one (.int .i64 v3),u,u,u,u,u,u,u,u,u,u,u,u,u,u,u,u,u,u,u,u,u,u],[.box [.str v4,.int .i64 v5,.sl 158 qi v6 1]]⟩=qgz N v1 v2 v4 v5 v6 k0 n v3:=by
 subst hc;intro n;induction n with
 | zero=>intros;rfl
 | succ n ih=>
   intro v3
   rw [qM,qLP,qgz];unfold Try.f145
   simp (maxSteps:=10000000) -implicitDefEqProofs [qtG,qiP,qwU,qmN,qyv,qnb,qx7,ql0,qDM,qoI,qFl,qD7,qz7,qzW,qzu,qxJ,qyS,qxq,qFn,qCH,qxW,g43,qe0,qjq,hret,h0,ih]
theorem qNf (N:Nat) (v0:Val qf):qe tt qgR (qc8 N) (Try.f145.body.getD .skip) (qr tt true [i4] [.tmp 2]) (qv [qcu] 51 (v0,()))=qrX N v0:=by
 unfold Try.f145
 simp (maxSteps:=10000000) -implicitDefEqProofs [qtG,qiP,qwU,qmN,qyv,qnb,qx7,ql0,qDM,qoI,qFl,qD7,qz7,qzW,qzu,qxJ,qyS,qxq,qFn,qCH,qxW,g43,qe0,qjq]
 rewrite [qLZ (k0:=(fun (_:Unit)=>some (true,()))) N _ _ _ _ _ ?_ ?_ ?_]
 ·rewrite [qrX];first | rfl | simp (maxSteps:=10000000) -implicitDefEqProofs []
 ·rfl
 ·intro;simp only [qK,qL,qN,qm]
 ·simp (maxSteps:=10000000) -implicitDefEqProofs [qtG,qiP,qwU,qmN,qyv,qnb,qx7,ql0,qDM,qoI,qFl,qD7,qz7,qzW,qzu,qxJ,qyS,qxq,qFn,qCH,qxW,g43,qe0,qjq]
def qiM (d:Int) (x:Val qi):Bool:=qan x.1 97 122&&qeL x.2&&decide ((x.2.1:Int)=d)
theorem qMG (N:Nat) (nm:ByteArray) (d:Int) (xs:List (Val qi)) (K:Unit→Option (qc [i4])) (hl:xs.length≤1048576) (hx: ∀x∈xs,Bd qi x) (n:Nat) (hn:xs.length<n):qgv N nm d xs K n 0=bif xs.all (qiM d)then K ()else some (false,()):=
 (qam (F:=fun n i (_:Unit)=>qgv N nm d xs K n i) (step:=fun _ x _ K=>bif qiM d x then K ()else some (false,())) (k:=K) hl (fun n i s hi=>by
   have hb:=hx _ (List.getElem_mem hi)
   rw [qgv,qj (by omega),qd (by omega),qA hi,qd (show qfN _ _ _ from hb.1),qd (by omega),qd (show qr5 _ from hb.2.2.1),qd (by omega),qiM]
   cases qan _ 97 122<;>cases qeL _<;>simp [qX]) (fun n i s hi=>by rw [qgv,qh (by omega)]) n () hn).trans (qeU xs 0)
theorem qNF (N:Nat) (nm:ByteArray) (d:Int) (xs ys:List (Val qi)) (K:Unit→Option (qc [i4])) (hl:xs.length≤1048576) (n:Nat) (hn:xs.length<n):qgz N xs xs.length nm d ys K n 0=bif xs.all (qiM d)then K ()else some (false,()):=
 (qam (F:=fun n i (_:Unit)=>qgz N xs xs.length nm d ys K n i) (step:=fun _ x _ K=>bif qiM d x then K ()else some (false,())) (k:=K) hl (fun n i s hi=>by
   rw [qgz,qj (by omega),qd (by omega),qA hi,qiM]
   simp only [qgp]
   cases qan _ 97 122<;>cases qeL _<;>simp [qX]) (fun n i s hi=>by rw [qgz,qh (by omega)]) n () hn).trans (qeU xs 0)
def qj1:G:={ps:=[qcu],rs:=[i4],dp:=true,pre:=fun x=>qsG x.1,fn:=fun x=>(qeI x.1,())}
def qke:G:={ps:=[qcu],rs:=[i4],dp:=true,pre:=fun _=>True,fn:=fun x=>(qeI x.1,())}
theorem qI7 (nm:ByteArray) (d:Int) (xs:List (Val qi)):qeI (nm,d,xs)=(qan nm 65 90&&decide (0≤d∧d≤4)&&decide ((xs.length:Int)≤8)&&xs.all (qiM d)):=rfl
theorem qTS (r:Val qf) (h:qsG r): ∃N,qrh N r=some (qeI r,()):=⟨List.length (α:=Val qi) r.2.2+1,by
 obtain ⟨nm,d,xs⟩:=r
 change Int at d
 change List (Val qi)at xs
 obtain ⟨h1, -,h2,h3⟩:=h
 rw [qrh,qI7]
 dsimp only
 rw [qMG _ _ _ _ _ h2 h3 _ (Nat.lt_succ_self _),qd (show qfN _ _ _ from h1)]
 simp only [inR]
 cases List.all xs _<;>cases qan nm 65 90<;>cases decide (0≤d∧d≤4)<;>simp⟩
theorem qSE:Sound Try.prog 140 qj1:=qz (tt:=tt) (Γ:=qhd) hT (ql s46 (ql s47 (ql qGW qt))) hm (fn:=Try.f140) Try.func140 (c:=Try.f140.body.getD .skip) (by kernel_rfl) (by kernel_rfl) fun x hx=>by
 obtain ⟨N,h⟩:=qTS x.1 hx
 exact ⟨qd6 N,qKG,qy _,qUh N,(qKX N x.1).trans h⟩
theorem qKb (r:Val qf): ∃N,qrX N r=some (qeI r,()):=⟨List.length (α:=Val qi) r.2.2+1,by
 obtain ⟨nm,d,xs⟩:=r
 change Int at d
 change List (Val qi)at xs
 rw [qrX,qI7]
 dsimp only
 simp only [qrm]
 cases qan nm 65 90 with
 | false=>simp
 | true=>
   by_cases h1:d<0
   ·have: ¬(0≤d∧d≤4):=by omega
    simp [h1,this]
   ·by_cases h2:4<d
    ·have: ¬(0≤d∧d≤4):=by omega
     simp [h1,h2,this]
    ·have:0≤d∧d≤4:=by omega
     by_cases h3:(8:Int)<xs.length
     ·have h3': ¬(xs.length:Int)≤8:=by omega
      simp only [h1,h2,h3,h3',decide_true,decide_false,cond_true,cond_false,Bool.and_false,Bool.false_and,Bool.not_true]
     ·have h3':(xs.length:Int)≤8:=by omega
      rw [qNF _ _ _ _ _ _ (by omega) _ (Nat.lt_succ_self _)]
      simp only [h1,h2,h3,h3',this,decide_true,decide_false,cond_true,cond_false,Bool.true_and,and_self,Bool.not_true]
      cases List.all xs _<;>rfl⟩
theorem qMg:Sound Try.prog 145 qke:=qz (tt:=tt) (Γ:=qgR) hT (ql s43 (ql qJh (ql qOG qt))) hm (fn:=Try.f145) Try.func145 (c:=Try.f145.body.getD .skip) (by kernel_rfl) (by kernel_rfl) fun x hx=>by
 obtain ⟨N,h⟩:=qKb x.1
 exact ⟨qc8 N,qT6,qy _,qS3 N,(qNf N x.1).trans h⟩
end Go.T
