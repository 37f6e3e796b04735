/- Words, relations: whether they are valid. -/
import Derived.Test.YtlhkmndfkjlodaaA3
set_option linter.unusedSimpArgs false
set_option linter.unusedVariables false
namespace Go.T
open Go Go.Proofs
set_option maxHeartbeats 4000000
set_option maxRecDepth 100000
def qau (s:ByteArray) (lo hi:Int):Bool:=decide (1≤(s.size:Int)∧(s.size:Int)≤6)&&(List.range s.size).all fun i=>decide (lo≤qal s i∧qal s i≤hi)
def qfc (s:ByteArray) (_ _:Int):Prop:=s.size≤1048576
def qee (r:Val qe):Bool:=qau r.1 65 90&&decide (0≤(r.2.1:Int)∧(r.2.1:Int)≤4)&&decide ((List.length (α:=Val qi) r.2.2:Int)≤8)&&
 List.all (α:=Val qi) r.2.2 fun x=>qau x.1 97 122&&qeg x.2&&decide ((x.2.1:Int)=(r.2.1:Int))
def qsn (r:Val qe):Prop:=Bd (.pair .str (.pair (.int .i64) (.slice 158 qi))) r
noncomputable def qgC (N:Nat) (v3:ByteArray) (v4:Int) (v5:Int) (k0:Unit→Option (qc [i4])):Nat→Int→Option (qc [i4])
 | 0,_=>none
 | n+1,v6=>bif (decide (v6<(v3.size:Int)))then (chk (0≤v6∧v6<(v3.size:Int)) (bif (decide ((qal v3 v6.toNat)<v4))then (some (false,()))else (chk (0≤v6∧v6<(v3.size:Int)) (bif (decide (v5<(qal v3 v6.toNat)))then (some (false,()))else (qgC N v3 v4 v5 k0 n (IntKind.i64.wrap (v6+(1:Int))))))))else (k0 ())
noncomputable def qsz (N:Nat) (v0:ByteArray) (v1:Int) (v2:Int):Option (qc [i4]):=qgC N v0 v1 v2 (fun (_:Unit)=>some (((inR (v0.size:Int) (1:Int) (6:Int)):Bool),())) N (0:Int)
def qit:Gam:=[(47,g47)]
theorem qGW:Gam.get qit 47=some g47:=rfl
def qog:Nm:=⟨[true,true,true,false,false,false,false,true],[],false⟩
theorem qtP:qog.zero=false:=rfl
theorem qs6:qog.fix=[]:=rfl
theorem qCf:qog.keep=[true,true,true,false,false,false,false,true]:=rfl
def qpE:Nm:=⟨[true],[],false⟩
theorem qEC:qpE.zero=false:=rfl
theorem qwo:qpE.fix=[]:=rfl
theorem qGs:qpE.keep=[true]:=rfl
def qh4:Nat→Tree:=fun _=> .done
def qkY:Nat→Nm:=fun i=>if i=2 then qog else ⟨[],[],false⟩
def qm0:Nat→Option Jn:=fun _=>none
def qmc:Nat→Option Nm:=fun i=>if i=0 then some qpE else none
def qkR:Nat→Option Nm:=fun _=>none
theorem qMC:qm qh4 (Try.f143.body.getD .skip)=true:=by kernel_rfl
def qdx (N:Nat):Tab:={tr:=qh4,lp:=qkY,ex:=qmc,rg:=qkR,jn:=qm0,fuel:=N}
theorem qs7 (N:Nat):(qdx N).pins=false:=rfl
theorem qPB (N:Nat):qn Try.prog (qdx N):=qt fun _=>rfl
theorem qBf (N:Nat) (i:Nat):(qdx N).tr i=qh4 i:=rfl
theorem qtZ (N:Nat) (i:Nat):(qdx N).lp i=qkY i:=rfl
theorem qDA (N:Nat) (i:Nat):(qdx N).ex i=qmc i:=rfl
theorem qy4 (N:Nat) (i:Nat):(qdx N).rg i=qkR i:=rfl
theorem qxr (N:Nat) (i:Nat):(qdx N).jn i=qm0 i:=rfl
theorem qBH (N:Nat):(qdx N).fuel=N:=rfl
noncomputable def qHe:Code:=cut [true,false,true,true,true] (Try.f143.body.getD .skip)
theorem qNg {N:Nat} {Q:X→St→Option (qc [i4])} {e:List LV} {h:List Blk}:qf tt qit (qdx N) qHe Q ⟨e,h⟩=qf tt qit (qdx N) (cut [true,false,true,true,true] (Try.f143.body.getD .skip)) Q ⟨e,h⟩:=rfl
theorem qWR (N:Nat) (v3:ByteArray) (v4:Int) (v5:Int) {k0:Unit→Option (qc [i4])} {Q:X→St→Option (qc [i4])} {c:Code} (hc:c=qHe) (hret: ∀st,Q .ret st=qN tt true [i4] [.tmp 6] st) (h0:Q (.exit 0) ⟨[.one (.str v3),u,u,u,u,u,u,u,u,u,u,u,u,u,u,u,u,u,u,u,u,u,u,u,u,u,u,u,u],[]⟩=k0 ()): ∀(n:Nat) (v6:Int),qI (qf tt qit (qdx N) c) false qog Q n ⟨[.one (.str v3),.one (.int .u8 v4),.one (.int .u8 v5),u,u,u,u,.one (.int .i64 v6),u,u,u,u,u,u,u,u,u,u,u,u,u,u,u,u,u,u,u,u,u],[]⟩=qgC N v3 v4 v5 k0 n v6:=by
 subst hc;intro n;induction n with
 | zero=>intros;rfl
 | succ n ih=>
   intro v6
   rw [qS,qNg,qgC];unfold Try.f143
   simp (maxSteps:=10000000) -implicitDefEqProofs [qBf,qh4,qtZ,qkY,qDA,qmc,qy4,qkR,qxr,qm0,qBH,qs7,qs6,qCf,qtP,qwo,qGs,qEC,qGW,g47,hret,h0,ih]
theorem qOw (N:Nat) (v0:ByteArray) (v1:Int) (v2:Int):qf tt qit (qdx N) (Try.f143.body.getD .skip) (qo tt true [i4] [.tmp 6]) (qv [i9,i5,i5] 29 (v0,v1,v2,()))=qsz N v0 v1 v2:=by
 unfold Try.f143
 simp (maxSteps:=10000000) -implicitDefEqProofs [qBf,qh4,qtZ,qkY,qDA,qmc,qy4,qkR,qxr,qm0,qBH,qs7,qs6,qCf,qtP,qwo,qGs,qEC,qGW,g47]
 rewrite [qWR (k0:=(fun (_:Unit)=>some (((inR (v0.size:Int) (1:Int) (6:Int)):Bool),()))) N _ _ _ ?_ ?_ ?_]
 ·rewrite [qsz];first | rfl | simp (maxSteps:=10000000) -implicitDefEqProofs []
 ·rfl
 ·intro;simp only [qQ,qR,qT,qr]
 ·simp (maxSteps:=10000000) -implicitDefEqProofs [qBf,qh4,qtZ,qkY,qDA,qmc,qy4,qkR,qxr,qm0,qBH,qs7,qs6,qCf,qtP,qwo,qGs,qEC,qGW,g47]
noncomputable def qgq (N:Nat) (v3:ByteArray) (v4:Int) (v5:Int) (k0:Unit→Option (qc [i4])):Nat→Int→Option (qc [i4])
 | 0,_=>none
 | n+1,v6=>bif (decide (v6<(v3.size:Int)))then (chk (0≤v6∧v6<(v3.size:Int)) (bif (decide ((qal v3 v6.toNat)<v4))then (some (false,()))else (chk (0≤v6∧v6<(v3.size:Int)) (bif (decide (v5<(qal v3 v6.toNat)))then (some (false,()))else (qgq N v3 v4 v5 k0 n (IntKind.i64.wrap (v6+(1:Int))))))))else (k0 ())
noncomputable def qsm (N:Nat) (v0:ByteArray) (v1:Int) (v2:Int):Option (qc [i4]):=bif (decide ((v0.size:Int)<(1:Int)))then (some (false,()))else (bif (decide ((6:Int)<(v0.size:Int)))then (some (false,()))else (qgq N v0 v1 v2 (fun (_:Unit)=>some (true,())) N (0:Int)))
def qmw:Gam:=[]
def qnO:Nm:=⟨[true,true,true,false,false,false,false,true],[],false⟩
theorem qAD:qnO.zero=false:=rfl
theorem qww:qnO.fix=[]:=rfl
theorem qC7:qnO.keep=[true,true,true,false,false,false,false,true]:=rfl
def qoW:Nm:=⟨[],[],false⟩
theorem qGG:qoW.zero=false:=rfl
theorem qCT:qoW.fix=[]:=rfl
theorem qDc:qoW.keep=[]:=rfl
def qis:Nat→Tree:=fun _=> .done
def qoh:Nat→Nm:=fun i=>if i=4 then qnO else ⟨[],[],false⟩
def ql5:Nat→Option Jn:=fun _=>none
def qou:Nat→Option Nm:=fun i=>if i=0 then some qoW else none
def qnr:Nat→Option Nm:=fun _=>none
theorem qZa:qm qis (Try.f152.body.getD .skip)=true:=by kernel_rfl
def qc6 (N:Nat):Tab:={tr:=qis,lp:=qoh,ex:=qou,rg:=qnr,jn:=ql5,fuel:=N}
theorem qt8 (N:Nat):(qc6 N).pins=false:=rfl
theorem qUL (N:Nat):qn Try.prog (qc6 N):=qt fun _=>rfl
theorem qyx (N:Nat) (i:Nat):(qc6 N).tr i=qis i:=rfl
theorem qxM (N:Nat) (i:Nat):(qc6 N).lp i=qoh i:=rfl
theorem qE9 (N:Nat) (i:Nat):(qc6 N).ex i=qou i:=rfl
theorem qB3 (N:Nat) (i:Nat):(qc6 N).rg i=qnr i:=rfl
theorem qtv (N:Nat) (i:Nat):(qc6 N).jn i=ql5 i:=rfl
theorem quz (N:Nat):(qc6 N).fuel=N:=rfl
noncomputable def qKF:Code:=cut [true,true,false,true,true,true] (Try.f152.body.getD .skip)
theorem qVS {N:Nat} {Q:X→St→Option (qc [i4])} {e:List LV} {h:List Blk}:qf tt qmw (qc6 N) qKF Q ⟨e,h⟩=qf tt qmw (qc6 N) (cut [true,true,false,true,true,true] (Try.f152.body.getD .skip)) Q ⟨e,h⟩:=rfl
theorem qPr (N:Nat) (v3:ByteArray) (v4:Int) (v5:Int) {k0:Unit→Option (qc [i4])} {Q:X→St→Option (qc [i4])} {c:Code} (hc:c=qKF) (hret: ∀st,Q .ret st=qN tt true [i4] [.tmp 6] st) (h0:Q (.exit 0) ⟨[u,u,u,u,u,u,u,u,u,u,u,u,u,u,u,u,u,u,u,u,u,u,u,u,u,u,u,u,u,u,u,u,u,u],[]⟩=k0 ()): ∀(n:Nat) (v6:Int),qI (qf tt qmw (qc6 N) c) false qnO Q n ⟨[.one (.str v3),.one (.int .u8 v4),.one (.int .u8 v5),u,u,u,u,.one (.int .i64 v6),u,u,u,u,u,u,u,u,u,u,u,u,u,u,u,u,u,u,u,u,u,u,u,u,u,u],[]⟩=qgq N v3 v4 v5 k0 n v6:=by
 subst hc;intro n;induction n with
 | zero=>intros;rfl
 | succ n ih=>
   intro v6
   rw [qS,qVS,qgq];unfold Try.f152
   simp (maxSteps:=10000000) -implicitDefEqProofs [qyx,qis,qxM,qoh,qE9,qou,qB3,qnr,qtv,ql5,quz,qt8,qww,qC7,qAD,qCT,qDc,qGG,hret,h0,ih]
theorem qY5 (N:Nat) (v0:ByteArray) (v1:Int) (v2:Int):qf tt qmw (qc6 N) (Try.f152.body.getD .skip) (qo tt true [i4] [.tmp 6]) (qv [i9,i5,i5] 34 (v0,v1,v2,()))=qsm N v0 v1 v2:=by
 unfold Try.f152
 simp (maxSteps:=10000000) -implicitDefEqProofs [qyx,qis,qxM,qoh,qE9,qou,qB3,qnr,qtv,ql5,quz,qt8,qww,qC7,qAD,qCT,qDc,qGG]
 rewrite [qPr (k0:=(fun (_:Unit)=>some (true,()))) N _ _ _ ?_ ?_ ?_]
 ·rewrite [qsm];first | rfl | simp (maxSteps:=10000000) -implicitDefEqProofs []
 ·rfl
 ·intro;simp only [qQ,qR,qT,qr]
 ·simp (maxSteps:=10000000) -implicitDefEqProofs [qyx,qis,qxM,qoh,qE9,qou,qB3,qnr,qtv,ql5,quz,qt8,qww,qC7,qAD,qCT,qDc,qGG]
theorem qG6 {n i:Nat} (h:(List.range n).length≤i): ¬((i:Int)<(n:Int)):=by
 have:n≤i:=by simpa using h
 omega
theorem qVq (N:Nat) (s:ByteArray) (a b:Int) (K:Unit→Option (qc [i4])) (hl:s.size≤1048576) (n:Nat) (hn:s.size<n):qgC N s a b K n 0=bif (List.range s.size).all (fun i=>decide (a≤qal s i∧qal s i≤b))then K ()else some (false,()):=
 (qbA (F:=fun n i (_:Unit)=>qgC N s a b K n i) (xs:=List.range s.size) (step:=fun _ x _ K=>bif decide (a≤qal s x∧qal s x≤b)then K ()else some (false,())) (k:=K) (by simpa using hl) (fun n i u hi=>by
   have hi:i<s.size:=by simpa using hi
   rw [qgC,qj (by omega),qd (by omega),qd (by omega),Int.toNat_natCast,List.getElem_range]
   by_cases h1:qal s i<a<;>by_cases h2:b<qal s i
   ·simp [h1,show ¬(a≤qal s i) by omega]
   ·simp [h1,show ¬(a≤qal s i) by omega]
   ·simp [h1,h2,show ¬(qal s i≤b) by omega]
   ·simp [h1,h2,show a≤qal s i by omega,show qal s i≤b by omega]) (fun n i u hi=>by rw [qgC,qh (qG6 hi)]) n () (by simpa using hn)).trans (qes _ 0)
theorem qKV (N:Nat) (s:ByteArray) (a b:Int) (K:Unit→Option (qc [i4])) (hl:s.size≤1048576) (n:Nat) (hn:s.size<n):qgq N s a b K n 0=bif (List.range s.size).all (fun i=>decide (a≤qal s i∧qal s i≤b))then K ()else some (false,()):=
 (qbA (F:=fun n i (_:Unit)=>qgq N s a b K n i) (xs:=List.range s.size) (step:=fun _ x _ K=>bif decide (a≤qal s x∧qal s x≤b)then K ()else some (false,())) (k:=K) (by simpa using hl) (fun n i u hi=>by
   have hi:i<s.size:=by simpa using hi
   rw [qgq,qj (by omega),qd (by omega),qd (by omega),Int.toNat_natCast,List.getElem_range]
   by_cases h1:qal s i<a<;>by_cases h2:b<qal s i
   ·simp [h1,show ¬(a≤qal s i) by omega]
   ·simp [h1,show ¬(a≤qal s i) by omega]
   ·simp [h1,h2,show ¬(qal s i≤b) by omega]
   ·simp [h1,h2,show a≤qal s i by omega,show qal s i≤b by omega]) (fun n i u hi=>by rw [qgq,qh (qG6 hi)]) n () (by simpa using hn)).trans (qes _ 0)
def qb8:G:={ps:=[i9,i5,i5],rs:=[i4],dp:=true,pre:=fun x=>qfc x.1 x.2.1 x.2.2.1,fn:=fun x=>(qau x.1 x.2.1 x.2.2.1,())}
def qhh:G:={ps:=[i9,i5,i5],rs:=[i4],dp:=true,pre:=fun _=>True,fn:=fun x=>(qau x.1 x.2.1 x.2.2.1,())}
theorem qVE (s:ByteArray) (a b:Int) (h:qfc s a b): ∃N,qsz N s a b=some (qau s a b,()):=⟨s.size+1,by
 rw [qsz,qau,qVq _ _ _ _ _ h _ (Nat.lt_succ_self _)]
 simp only [inR]
 cases (List.range s.size).all _<;>simp⟩
theorem qIl:Sound Try.prog 143 qb8:=qz (tt:=tt) (Γ:=qit) hT (ql s47 qp) hm (fn:=Try.f143) Try.func143 (c:=Try.f143.body.getD .skip) (by kernel_rfl) (by kernel_rfl) fun x hx=>by
 obtain ⟨N,h⟩:=qVE x.1 x.2.1 x.2.2.1 hx
 exact ⟨qdx N,qMC,qx _,qPB N,(qOw N x.1 x.2.1 x.2.2.1).trans h⟩
theorem qUb (s:ByteArray) (a b:Int): ∃N,qsm N s a b=some (qau s a b,()):=⟨s.size+1,by
 rw [qsm,qau]
 by_cases h1:(s.size:Int)<1
 ·rw [qj h1]
  simp only [show ¬((1:Int)≤s.size∧(s.size:Int)≤6) by omega,decide_false,Bool.false_and]
 ·rw [qh h1]
  by_cases h2:(6:Int)<s.size
  ·rw [qj h2]
   simp only [show ¬((1:Int)≤s.size∧(s.size:Int)≤6) by omega,decide_false,Bool.false_and]
  ·rw [qh h2,qKV _ _ _ _ _ (by omega) _ (Nat.lt_succ_self _)]
   simp only [show ((1:Int)≤s.size∧(s.size:Int)≤6) by omega,decide_true,Bool.true_and]
   cases (List.range s.size).all _<;>rfl⟩
theorem qHG:Sound Try.prog 152 qhh:=qz (tt:=tt) (Γ:=qmw) hT qp hm (fn:=Try.f152) Try.func152 (c:=Try.f152.body.getD .skip) (by kernel_rfl) (by kernel_rfl) fun x hx=>by
 obtain ⟨N,h⟩:=qUb x.1 x.2.1 x.2.2.1
 exact ⟨qc6 N,qZa,qx _,qUL N,(qY5 N x.1 x.2.1 x.2.2.1).trans h⟩
def qqV (s:ByteArray):Bool:=qau s 65 90
def qfV (s:ByteArray):Bool:=qau s 97 122
noncomputable def qEp (N:Nat) (v0:ByteArray):Option (qc [i4]):=some (((qau v0 (65:Int) (90:Int)):Bool),())
def qCO:Gam:=[(152,qhh)]
theorem qRg:Gam.get qCO 152=some qhh:=rfl
def qsb:Nat→Tree:=fun _=> .done
def qyJ:Nat→Nm:=fun _=>⟨[],[],false⟩
def qFx:Nat→Option Jn:=fun _=>none
def qBd:Nat→Option Nm:=fun _=>none
def qy7:Nat→Option Nm:=fun _=>none
theorem qXe:qm qsb (Try.f151.body.getD .skip)=true:=by kernel_rfl
def qfb (N:Nat):Tab:={tr:=qsb,lp:=qyJ,ex:=qBd,rg:=qy7,jn:=qFx,fuel:=N}
theorem qTS (N:Nat):(qfb N).pins=false:=rfl
theorem qNG (N:Nat):qn Try.prog (qfb N):=qt fun _=>rfl
theorem qMa (N:Nat) (i:Nat):(qfb N).tr i=qsb i:=rfl
theorem qSB (N:Nat) (i:Nat):(qfb N).lp i=qyJ i:=rfl
theorem qWr (N:Nat) (i:Nat):(qfb N).ex i=qBd i:=rfl
theorem qRF (N:Nat) (i:Nat):(qfb N).rg i=qy7 i:=rfl
theorem qLU (N:Nat) (i:Nat):(qfb N).jn i=qFx i:=rfl
theorem qSH (N:Nat):(qfb N).fuel=N:=rfl
theorem qML (N:Nat) (v0:ByteArray):qf tt qCO (qfb N) (Try.f151.body.getD .skip) (qo tt true [i4] [.tmp 2]) (qv [i9] 5 (v0,()))=qEp N v0:=by
 rw [qEp];unfold Try.f151
 simp (maxSteps:=10000000) -implicitDefEqProofs [qMa,qsb,qSB,qyJ,qWr,qBd,qRF,qy7,qLU,qFx,qSH,qTS,qRg,qhh]
 try rfl
noncomputable def qGJ (N:Nat) (v0:ByteArray):Option (qc [i4]):=some (((qau v0 (97:Int) (122:Int)):Bool),())
def qEI:Gam:=[(152,qhh)]
theorem qTp:Gam.get qEI 152=some qhh:=rfl
def qso:Nat→Tree:=fun _=> .done
def qvy:Nat→Nm:=fun _=>⟨[],[],false⟩
def qBQ:Nat→Option Jn:=fun _=>none
def qta:Nat→Option Nm:=fun _=>none
def qzo:Nat→Option Nm:=fun _=>none
theorem qWd:qm qso (Try.f148.body.getD .skip)=true:=by kernel_rfl
def qfi (N:Nat):Tab:={tr:=qso,lp:=qvy,ex:=qta,rg:=qzo,jn:=qBQ,fuel:=N}
theorem qOj (N:Nat):(qfi N).pins=false:=rfl
theorem qLb (N:Nat):qn Try.prog (qfi N):=qt fun _=>rfl
theorem qT9 (N:Nat) (i:Nat):(qfi N).tr i=qso i:=rfl
theorem qMi (N:Nat) (i:Nat):(qfi N).lp i=qvy i:=rfl
theorem qX2 (N:Nat) (i:Nat):(qfi N).ex i=qta i:=rfl
theorem qNc (N:Nat) (i:Nat):(qfi N).rg i=qzo i:=rfl
theorem qM3 (N:Nat) (i:Nat):(qfi N).jn i=qBQ i:=rfl
theorem qNU (N:Nat):(qfi N).fuel=N:=rfl
theorem qK9 (N:Nat) (v0:ByteArray):qf tt qEI (qfi N) (Try.f148.body.getD .skip) (qo tt true [i4] [.tmp 2]) (qv [i9] 5 (v0,()))=qGJ N v0:=by
 rw [qGJ];unfold Try.f148
 simp (maxSteps:=10000000) -implicitDefEqProofs [qT9,qso,qMi,qvy,qX2,qta,qNc,qzo,qM3,qBQ,qNU,qOj,qTp,qhh]
 try rfl
def qiB:G:={ps:=[i9],rs:=[i4],dp:=true,pre:=fun _=>True,fn:=fun x=>(qqV x.1,())}
def qey:G:={ps:=[i9],rs:=[i4],dp:=true,pre:=fun _=>True,fn:=fun x=>(qfV x.1,())}
theorem qSX (s:ByteArray): ∃N,qEp N s=some (qqV s,()):=⟨0,rfl⟩
theorem qTJ (s:ByteArray): ∃N,qGJ N s=some (qfV s,()):=⟨0,rfl⟩
theorem qQ0:Sound Try.prog 151 qiB:=qz (tt:=tt) (Γ:=qCO) hT (ql qHG qp) hm (fn:=Try.f151) Try.func151 (c:=Try.f151.body.getD .skip) (by kernel_rfl) (by kernel_rfl) fun x hx=>by
 obtain ⟨N,h⟩:=qSX x.1
 exact ⟨qfb N,qXe,qx _,qNG N,(qML N x.1).trans h⟩
theorem qKD:Sound Try.prog 148 qey:=qz (tt:=tt) (Γ:=qEI) hT (ql qHG qp) hm (fn:=Try.f148) Try.func148 (c:=Try.f148.body.getD .skip) (by kernel_rfl) (by kernel_rfl) fun x hx=>by
 obtain ⟨N,h⟩:=qTJ x.1
 exact ⟨qfi N,qWd,qx _,qLb N,(qK9 N x.1).trans h⟩
noncomputable def qf1 (N:Nat) (v2:ByteArray) (v3:Int) (v4:List (Val qi)) (k0:Unit→Option (qc [i4])):Nat→Int→Option (qc [i4])
 | 0,_=>none
 | n+1,v1=>bif (decide (v1<(v4.length:Int)))then (chk (0≤v1∧v1<(v4.length:Int)) (chk (qfc ((v4.getD v1.toNat (qb qi)).1:ByteArray) (97:Int) (122:Int)) (bif (!((qau ((v4.getD v1.toNat (qb qi)).1:ByteArray) (97:Int) (122:Int)):Bool))then (some (false,()))else (chk (0≤v1∧v1<(v4.length:Int)) (chk (qrI ((v4.getD v1.toNat (qb qi)).2)) (bif (!((qeg ((v4.getD v1.toNat (qb qi)).2)):Bool))then (some (false,()))else (chk (0≤v1∧v1<(v4.length:Int)) (bif (!(decide ((((v4.getD v1.toNat (qb qi)).2).1:Int)=v3)))then (some (false,()))else (qf1 N v2 v3 v4 k0 n (IntKind.i64.wrap (v1+(1:Int))))))))))))else (k0 ())
noncomputable def qqP (N:Nat) (v0:Val qe):Option (qc [i4]):=qf1 N (v0.1:ByteArray) (v0.2.1:Int) (v0.2.2:List (Val qi)) (fun (_:Unit)=>chk (qfc (v0.1:ByteArray) (65:Int) (90:Int)) (bif ((qau (v0.1:ByteArray) (65:Int) (90:Int)):Bool)then (bif ((inR (v0.2.1:Int) (0:Int) (4:Int)):Bool)then (some ((decide (((v0.2.2:List (Val qi)).length:Int)≤(8:Int))),()))else (some (false,())))else (some (false,())))) N (0:Int)
def qgD:Gam:=[(46,g46),(47,g47),(143,qb8)]
theorem qud:Gam.get qgD 46=some g46:=rfl
theorem qwD:Gam.get qgD 47=some g47:=rfl
theorem qCz:Gam.get qgD 143=some qb8:=rfl
def qnz:Nm:=⟨[false,true,false,true],[],false⟩
theorem qxi:qnz.zero=false:=rfl
theorem qFK:qnz.fix=[]:=rfl
theorem qtf:qnz.keep=[false,true,false,true]:=rfl
def qpU:Nm:=⟨[false,true],[],false⟩
theorem quK:qpU.zero=false:=rfl
theorem quu:qpU.fix=[]:=rfl
theorem qut:qpU.keep=[false,true]:=rfl
def qi5:Nat→Tree:=fun i=>if i=4 then .quiet 0 (.quiet 1 (.quiet 2 (.quiet 3 (.quiet 4 (.quiet 5 (.alt 6 (.quiet 7 (.quiet 8 (.quiet 9 (.quiet 10 (.quiet 11 (.quiet 12 (.quiet 13 (.quiet 14 (.alt 15 (.quiet 16 (.quiet 17 (.quiet 18 (.quiet 19 (.quiet 20 (.quiet 21 (.quiet 22 (.quiet 23 (.quiet 24 (.quiet 25 (.quiet 26 (.quiet 27 (.quiet 28 (.quiet 29 .done)))))))))))))) .stop))))))))) .stop))))))else .done
def qmy:Nat→Nm:=fun i=>if i=2 then qnz else ⟨[],[],false⟩
def qmV:Nat→Option Jn:=fun _=>none
def qm5:Nat→Option Nm:=fun i=>if i=0 then some qpU else none
def qm9:Nat→Option Nm:=fun _=>none
theorem qMk:qm qi5 (Try.f140.body.getD .skip)=true:=by kernel_rfl
def qdP (N:Nat):Tab:={tr:=qi5,lp:=qmy,ex:=qm5,rg:=qm9,jn:=qmV,fuel:=N}
theorem qtx (N:Nat):(qdP N).pins=false:=rfl
theorem qXs (N:Nat):qn Try.prog (qdP N):=qt fun _=>rfl
theorem qFT (N:Nat) (i:Nat):(qdP N).tr i=qi5 i:=rfl
theorem quL (N:Nat) (i:Nat):(qdP N).lp i=qmy i:=rfl
theorem qCd (N:Nat) (i:Nat):(qdP N).ex i=qm5 i:=rfl
theorem qxb (N:Nat) (i:Nat):(qdP N).rg i=qm9 i:=rfl
theorem qGL (N:Nat) (i:Nat):(qdP N).jn i=qmV i:=rfl
theorem qys (N:Nat):(qdP N).fuel=N:=rfl
noncomputable def qJr:Code:=cut [true,false,true,true,true] (Try.f140.body.getD .skip)
theorem qMh {N:Nat} {Q:X→St→Option (qc [i4])} {e:List LV} {h:List Blk}:qf tt qgD (qdP N) qJr Q ⟨e,h⟩=qf tt qgD (qdP N) (cut [true,false,true,true,true] (Try.f140.body.getD .skip)) Q ⟨e,h⟩:=rfl
theorem qWH (N:Nat) (v2:ByteArray) (v3:Int) (v4:List (Val qi)) {k0:Unit→Option (qc [i4])} {Q:X→St→Option (qc [i4])} {c:Code} (hc:c=qJr) (hret: ∀st,Q .ret st=qN tt true [i4] [.tmp 2] st) (h0:Q (.exit 0) ⟨[u,.one (.ptr 0 0 0),u,u,u,u,u,u,u,u,u,u,u,u,u,u,u,u,u,u,u,u,u,u,u,u,u,u,u,u,u,u,u,u,u,u,u,u,u,u,u,u,u,u,u,u,u,u,u,u,u,u,u,u,u],[.box [.str v2,.int .i64 v3,.sl 158 qi v4 1]]⟩=k0 ()): ∀(n:Nat) (v1:Int),qI (qf tt qgD (qdP N) c) false qnz Q n ⟨[u,.one (.ptr 0 0 0),u,.one (.int .i64 v1),u,u,u,u,u,u,u,u,u,u,u,u,u,u,u,u,u,u,u,u,u,u,u,u,u,u,u,u,u,u,u,u,u,u,u,u,u,u,u,u,u,u,u,u,u,u,u,u,u,u,u],[.box [.str v2,.int .i64 v3,.sl 158 qi v4 1]]⟩=qf1 N v2 v3 v4 k0 n v1:=by
 subst hc;intro n;induction n with
 | zero=>intros;rfl
 | succ n ih=>
   intro v1
   rw [qS,qMh,qf1];unfold Try.f140
   simp (maxSteps:=10000000) -implicitDefEqProofs [qFT,qi5,quL,qmy,qCd,qm5,qxb,qm9,qGL,qmV,qys,qtx,qFK,qtf,qxi,quu,qut,quK,qud,qwD,qCz,g46,g47,qb8,hret,h0,ih]
theorem qMI (N:Nat) (v0:Val qe):qf tt qgD (qdP N) (Try.f140.body.getD .skip) (qo tt true [i4] [.tmp 2]) (qv [qcC] 55 (v0,()))=qqP N v0:=by
 unfold Try.f140
 simp (maxSteps:=10000000) -implicitDefEqProofs [qFT,qi5,quL,qmy,qCd,qm5,qxb,qm9,qGL,qmV,qys,qtx,qFK,qtf,qxi,quu,qut,quK,qud,qwD,qCz,g46,g47,qb8]
 rewrite [qWH (k0:=(fun (_:Unit)=>chk (qfc (v0.1:ByteArray) (65:Int) (90:Int)) (bif ((qau (v0.1:ByteArray) (65:Int) (90:Int)):Bool)then (bif ((inR (v0.2.1:Int) (0:Int) (4:Int)):Bool)then (some ((decide (((v0.2.2:List (Val qi)).length:Int)≤(8:Int))),()))else (some (false,())))else (some (false,()))))) N _ _ _ ?_ ?_ ?_]
 ·rewrite [qqP];first | rfl | simp (maxSteps:=10000000) -implicitDefEqProofs []
 ·rfl
 ·intro;simp only [qQ,qR,qT,qr]
 ·simp (maxSteps:=10000000) -implicitDefEqProofs [qFT,qi5,quL,qmy,qCd,qm5,qxb,qm9,qGL,qmV,qys,qtx,qFK,qtf,qxi,quu,qut,quK,qud,qwD,qCz,g46,g47,qb8]
noncomputable def qf3 (N:Nat) (v1:List (Val qi)) (v2:Int) (v4:ByteArray) (v5:Int) (v6:List (Val qi)) (k0:Unit→Option (qc [i4])):Nat→Int→Option (qc [i4])
 | 0,_=>none
 | n+1,v3=>bif (decide (v3<v2))then (chk (0≤v3∧v3<(v1.length:Int)) (bif (!((qfV ((v1.getD v3.toNat (qb qi)).1:ByteArray)):Bool))then (some (false,()))else (bif (!((qeg ((v1.getD v3.toNat (qb qi)).2)):Bool))then (some (false,()))else (bif (!(decide ((((v1.getD v3.toNat (qb qi)).2).1:Int)=v5)))then (some (false,()))else (qf3 N v1 v2 v4 v5 v6 k0 n (IntKind.i64.wrap (v3+(1:Int))))))))else (k0 ())
noncomputable def qry (N:Nat) (v0:Val qe):Option (qc [i4]):=bif (!((qqV (v0.1:ByteArray)):Bool))then (some (false,()))else (bif (decide ((v0.2.1:Int)<(0:Int)))then (some (false,()))else (bif (decide ((4:Int)<(v0.2.1:Int)))then (some (false,()))else (bif (decide ((8:Int)<((v0.2.2:List (Val qi)).length:Int)))then (some (false,()))else (qf3 N (v0.2.2:List (Val qi)) ((v0.2.2:List (Val qi)).length:Int) (v0.1:ByteArray) (v0.2.1:Int) (v0.2.2:List (Val qi)) (fun (_:Unit)=>some (true,())) N (0:Int)))))
def qgi:Gam:=[(43,g43),(148,qey),(151,qiB)]
theorem qGH:Gam.get qgi 43=some g43:=rfl
theorem qDH:Gam.get qgi 148=some qey:=rfl
theorem qyb:Gam.get qgi 151=some qiB:=rfl
def qmX:Nm:=⟨[false,true,false,false,false,false,false,false,false,false,false,false,false,false,false,false,false,false,false,false,false,false,false,false,false,false,true,true,true],[],false⟩
theorem qz0:qmX.zero=false:=rfl
theorem qAJ:qmX.fix=[]:=rfl
theorem qAx:qmX.keep=[false,true,false,false,false,false,false,false,false,false,false,false,false,false,false,false,false,false,false,false,false,false,false,false,false,false,true,true,true]:=rfl
def qsM:Nm:=⟨[],[],false⟩
theorem qxE:qsM.zero=false:=rfl
theorem qxV:qsM.fix=[]:=rfl
theorem qzd:qsM.keep=[]:=rfl
def qh0:Nat→Tree:=fun _=> .done
def qmd:Nat→Nm:=fun i=>if i=4 then qmX else ⟨[],[],false⟩
def qoc:Nat→Option Jn:=fun _=>none
def qmA:Nat→Option Nm:=fun i=>if i=0 then some qsM else none
def qlo:Nat→Option Nm:=fun _=>none
theorem qXg:qm qh0 (Try.f145.body.getD .skip)=true:=by kernel_rfl
def qda (N:Nat):Tab:={tr:=qh0,lp:=qmd,ex:=qmA,rg:=qlo,jn:=qoc,fuel:=N}
theorem qFk (N:Nat):(qda N).pins=false:=rfl
theorem qV6 (N:Nat):qn Try.prog (qda N):=qt fun _=>rfl
theorem qtt (N:Nat) (i:Nat):(qda N).tr i=qh0 i:=rfl
theorem qw4 (N:Nat) (i:Nat):(qda N).lp i=qmd i:=rfl
theorem qyO (N:Nat) (i:Nat):(qda N).ex i=qmA i:=rfl
theorem qyp (N:Nat) (i:Nat):(qda N).rg i=qlo i:=rfl
theorem qEY (N:Nat) (i:Nat):(qda N).jn i=qoc i:=rfl
theorem qGF (N:Nat):(qda N).fuel=N:=rfl
noncomputable def qHb:Code:=cut [true,true,false,true,true,true] (Try.f145.body.getD .skip)
theorem qNI {N:Nat} {Q:X→St→Option (qc [i4])} {e:List LV} {h:List Blk}:qf tt qgi (qda N) qHb Q ⟨e,h⟩=qf tt qgi (qda N) (cut [true,true,false,true,true,true] (Try.f145.body.getD .skip)) Q ⟨e,h⟩:=rfl
theorem qNV (N:Nat) (v1:List (Val qi)) (v2:Int) (v4:ByteArray) (v5:Int) (v6:List (Val qi)) {k0:Unit→Option (qc [i4])} {Q:X→St→Option (qc [i4])} {c:Code} (hc:c=qHb) (hret: ∀st,Q .ret st=qN tt true [i4] [.tmp 2] st) (h0:Q (.exit 0) ⟨[u,u,u,u,u,u,u,u,u,u,u,u,u,u,u,u,u,u,u,u,u,u,u,u,u,u,u,u,u,u,u,u,u,u,u,u,u,u,u,u,u,u,u,u,u,u,u,u,u,u,u],[]⟩=k0 ()): ∀(n:Nat) (v3:Int),qI (qf tt qgi (qda N) c) false qmX Q n ⟨[u,.one (.ptr 0 0 0),u,u,u,u,u,u,u,u,u,u,u,u,u,u,u,u,u,u,u,u,u,u,u,u,.one (.sl 158 qi v1 1),.one (.int .i64 v2),.one (.int .i64 v3),u,u,u,u,u,u,u,u,u,u,u,u,u,u,u,u,u,u,u,u,u,u],[.box [.str v4,.int .i64 v5,.sl 158 qi v6 1]]⟩=qf3 N v1 v2 v4 v5 v6 k0 n v3:=by
 subst hc;intro n;induction n with
 | zero=>intros;rfl
 | succ n ih=>
   intro v3
   rw [qS,qNI,qf3];unfold Try.f145
   simp (maxSteps:=10000000) -implicitDefEqProofs [qtt,qh0,qw4,qmd,qyO,qmA,qyp,qlo,qEY,qoc,qGF,qFk,qAJ,qAx,qz0,qxV,qzd,qxE,qGH,qDH,qyb,g43,qey,qiB,hret,h0,ih]
theorem qPk (N:Nat) (v0:Val qe):qf tt qgi (qda N) (Try.f145.body.getD .skip) (qo tt true [i4] [.tmp 2]) (qv [qcC] 51 (v0,()))=qry N v0:=by
 unfold Try.f145
 simp (maxSteps:=10000000) -implicitDefEqProofs [qtt,qh0,qw4,qmd,qyO,qmA,qyp,qlo,qEY,qoc,qGF,qFk,qAJ,qAx,qz0,qxV,qzd,qxE,qGH,qDH,qyb,g43,qey,qiB]
 rewrite [qNV (k0:=(fun (_:Unit)=>some (true,()))) N _ _ _ _ _ ?_ ?_ ?_]
 ·rewrite [qry];first | rfl | simp (maxSteps:=10000000) -implicitDefEqProofs []
 ·rfl
 ·intro;simp only [qQ,qR,qT,qr]
 ·simp (maxSteps:=10000000) -implicitDefEqProofs [qtt,qh0,qw4,qmd,qyO,qmA,qyp,qlo,qEY,qoc,qGF,qFk,qAJ,qAx,qz0,qxV,qzd,qxE,qGH,qDH,qyb,g43,qey,qiB]
def qhY (d:Int) (x:Val qi):Bool:=qau x.1 97 122&&qeg x.2&&decide ((x.2.1:Int)=d)
theorem qOE (N:Nat) (nm:ByteArray) (d:Int) (xs:List (Val qi)) (K:Unit→Option (qc [i4])) (hl:xs.length≤1048576) (hx: ∀x∈xs,Bd qi x) (n:Nat) (hn:xs.length<n):qf1 N nm d xs K n 0=bif xs.all (qhY d)then K ()else some (false,()):=
 (qbA (F:=fun n i (_:Unit)=>qf1 N nm d xs K n i) (step:=fun _ x _ K=>bif qhY d x then K ()else some (false,())) (k:=K) hl (fun n i s hi=>by
   have hb:=hx _ (List.getElem_mem hi)
   rw [qf1,qj (by omega),qd (by omega),qE hi,qd (show qfc _ _ _ from hb.1),qd (by omega),qd (show qrI _ from hb.2.2.1),qd (by omega),qhY]
   cases qau _ 97 122<;>cases qeg _<;>simp [qL]) (fun n i s hi=>by rw [qf1,qh (by omega)]) n () hn).trans (qes xs 0)
theorem qPO (N:Nat) (nm:ByteArray) (d:Int) (xs ys:List (Val qi)) (K:Unit→Option (qc [i4])) (hl:xs.length≤1048576) (n:Nat) (hn:xs.length<n):qf3 N xs xs.length nm d ys K n 0=bif xs.all (qhY d)then K ()else some (false,()):=
 (qbA (F:=fun n i (_:Unit)=>qf3 N xs xs.length nm d ys K n i) (step:=fun _ x _ K=>bif qhY d x then K ()else some (false,())) (k:=K) hl (fun n i s hi=>by
   rw [qf3,qj (by omega),qd (by omega),qE hi,qhY]
   simp only [qfV]
   cases qau _ 97 122<;>cases qeg _<;>simp [qL]) (fun n i s hi=>by rw [qf3,qh (by omega)]) n () hn).trans (qes xs 0)
def qjk:G:={ps:=[qcC],rs:=[i4],dp:=true,pre:=fun x=>qsn x.1,fn:=fun x=>(qee x.1,())}
def qjy:G:={ps:=[qcC],rs:=[i4],dp:=true,pre:=fun _=>True,fn:=fun x=>(qee x.1,())}
theorem qKu (nm:ByteArray) (d:Int) (xs:List (Val qi)):qee (nm,d,xs)=(qau nm 65 90&&decide (0≤d∧d≤4)&&decide ((xs.length:Int)≤8)&&xs.all (qhY d)):=rfl
theorem qW1 (r:Val qe) (h:qsn r): ∃N,qqP N r=some (qee r,()):=⟨List.length (α:=Val qi) r.2.2+1,by
 obtain ⟨nm,d,xs⟩:=r
 change Int at d
 change List (Val qi)at xs
 obtain ⟨h1, -,h2,h3⟩:=h
 rw [qqP,qKu]
 dsimp only
 rw [qOE _ _ _ _ _ h2 h3 _ (Nat.lt_succ_self _),qd (show qfc _ _ _ from h1)]
 simp only [inR]
 cases List.all xs _<;>cases qau nm 65 90<;>cases decide (0≤d∧d≤4)<;>simp⟩
theorem qVF:Sound Try.prog 140 qjk:=qz (tt:=tt) (Γ:=qgD) hT (ql s46 (ql s47 (ql qIl qp))) hm (fn:=Try.f140) Try.func140 (c:=Try.f140.body.getD .skip) (by kernel_rfl) (by kernel_rfl) fun x hx=>by
 obtain ⟨N,h⟩:=qW1 x.1 hx
 exact ⟨qdP N,qMk,qx _,qXs N,(qMI N x.1).trans h⟩
theorem qLG (r:Val qe): ∃N,qry N r=some (qee r,()):=⟨List.length (α:=Val qi) r.2.2+1,by
 obtain ⟨nm,d,xs⟩:=r
 change Int at d
 change List (Val qi)at xs
 rw [qry,qKu]
 dsimp only
 simp only [qqV]
 cases qau nm 65 90 with
 | false=>simp
 | true=>
   by_cases h1:d<0
   ·have: ¬(0≤d∧d≤4):=by omega
    simp [h1,this]
   ·by_cases h2:4<d
    ·have: ¬(0≤d∧d≤4):=by omega
     simp [h1,h2,this]
    ·have:0≤d∧d≤4:=by omega
     by_cases h3:(8:Int)<xs.length
     ·have h3': ¬(xs.length:Int)≤8:=by omega
      simp only [h1,h2,h3,h3',decide_true,decide_false,cond_true,cond_false,Bool.and_false,Bool.false_and,Bool.not_true]
     ·have h3':(xs.length:Int)≤8:=by omega
      rw [qPO _ _ _ _ _ _ (by omega) _ (Nat.lt_succ_self _)]
      simp only [h1,h2,h3,h3',this,decide_true,decide_false,cond_true,cond_false,Bool.true_and,and_self,Bool.not_true]
      cases List.all xs _<;>rfl⟩
theorem qOd:Sound Try.prog 145 qjy:=qz (tt:=tt) (Γ:=qgi) hT (ql s43 (ql qKD (ql qQ0 qp))) hm (fn:=Try.f145) Try.func145 (c:=Try.f145.body.getD .skip) (by kernel_rfl) (by kernel_rfl) fun x hx=>by
 obtain ⟨N,h⟩:=qLG x.1
 exact ⟨qda N,qXg,qx _,qV6 N,(qPk N x.1).trans h⟩
end Go.T
