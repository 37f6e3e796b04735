/- Words, relations: whether they are valid. -/
import Derived.Test.YtkjiecjpdbpghaaA3
set_option linter.unusedSimpArgs false
set_option linter.unusedVariables false
namespace Go.T
open Go Go.Proofs
set_option maxHeartbeats 4000000
set_option maxRecDepth 100000
def qW (s:ByteArray) (lo hi:Int):Bool:=decide (1≤(s.size:Int)∧(s.size:Int)≤6)&&(List.range s.size).all fun i=>decide (lo≤qT s i∧qT s i≤hi)
def qcx (s:ByteArray) (_ _:Int):Prop:=s.size≤1048576
def qbP (r:Val Y53):Bool:=qW r.1 65 90&&decide (0≤(r.2.1:Int)∧(r.2.1:Int)≤4)&&decide ((List.length (α:=Val qi) r.2.2:Int)≤8)&&
 List.all (α:=Val qi) r.2.2 fun x=>qW x.1 97 122&&qbQ x.2&&decide ((x.2.1:Int)=(r.2.1:Int))
def ql3 (r:Val Y53):Prop:=Bd (.pair .str (.pair (.int .i64) (.slice 116 qi))) r
noncomputable def qdt (N:Nat) (v3:ByteArray) (v4:Int) (v5:Int) (k0:Unit→Option (qa [i4])):Nat→Int→Option (qa [i4])
 | 0,_=>none
 | n+1,v6=>bif (decide (v6<(v3.size:Int)))then (chk (0≤v6∧v6<(v3.size:Int)) (bif (decide ((qT v3 v6.toNat)<v4))then (some (false,()))else (chk (0≤v6∧v6<(v3.size:Int)) (bif (decide (v5<(qT v3 v6.toNat)))then (some (false,()))else (qdt N v3 v4 v5 k0 n (IntKind.i64.wrap (v6+(1:Int))))))))else (k0 ())
noncomputable def m75 (N:Nat) (v0:ByteArray) (v1:Int) (v2:Int):Option (qa [i4]):=qdt N v0 v1 v2 (fun (_:Unit)=>some (((inR (v0.size:Int) (1:Int) (6:Int)):Bool),())) N (0:Int)
def Γ75:Gam:=[(65,g65)]
theorem qva:Gam.get Γ75 65=some g65:=rfl
def qhv:Nm:=⟨[true,true,true,false,false,false,false,true],[],false⟩
theorem qsR:qhv.zero=false:=rfl
theorem qtV:qhv.fix=[]:=rfl
theorem qnb:qhv.keep=[true,true,true,false,false,false,false,true]:=rfl
def qlp:Nm:=⟨[true],[],false⟩
theorem qmr:qlp.zero=false:=rfl
theorem qpZ:qlp.fix=[]:=rfl
theorem qtq:qlp.keep=[true]:=rfl
def qe9:Nat→Tree:=fun _=> .done
def qja:Nat→Nm:=fun i=>if i=2 then qhv else ⟨[],[],false⟩
def qhi:Nat→Option Jn:=fun _=>none
def qiY:Nat→Option Nm:=fun i=>if i=0 then some qlp else none
def qhg:Nat→Option Nm:=fun _=>none
theorem p75:qm qe9 (Try.f75.body.getD .skip)=true:=by kernel_rfl
def T75 (N:Nat):Tab:={tr:=qe9,lp:=qja,ex:=qiY,rg:=qhg,jn:=qhi,fuel:=N}
theorem qvt (N:Nat):(T75 N).pins=false:=rfl
theorem qFh (N:Nat):qp Try.prog (T75 N):=qv fun _=>rfl
theorem qnQ (N:Nat) (i:Nat):(T75 N).tr i=qe9 i:=rfl
theorem qtp (N:Nat) (i:Nat):(T75 N).lp i=qja i:=rfl
theorem qo1 (N:Nat) (i:Nat):(T75 N).ex i=qiY i:=rfl
theorem qmA (N:Nat) (i:Nat):(T75 N).rg i=qhg i:=rfl
theorem qtT (N:Nat) (i:Nat):(T75 N).jn i=qhi i:=rfl
theorem qtI (N:Nat):(T75 N).fuel=N:=rfl
noncomputable def qw4:Code:=cut [true,false,true,true,true] (Try.f75.body.getD .skip)
theorem qF0 {N:Nat} {Q:X→St→Option (qa [i4])} {e:List LV} {h:List Blk}:qc tt Γ75 (T75 N) qw4 Q ⟨e,h⟩=qc tt Γ75 (T75 N) (cut [true,false,true,true,true] (Try.f75.body.getD .skip)) Q ⟨e,h⟩:=rfl
theorem qCn (N:Nat) (v3:ByteArray) (v4:Int) (v5:Int) {k0:Unit→Option (qa [i4])} {Q:X→St→Option (qa [i4])} {c:Code} (hc:c=qw4) (hret: ∀st,Q .ret st=qG tt true [i4] [.tmp 6] st) (h0:Q (.exit 0) ⟨[.one (.str v3),u,u,u,u,u,u,u,u,u,u,u,u,u,u,u,u,u,u,u,u,u,u,u,u,u,u,u,u],[]⟩=k0 ()): ∀(n:Nat) (v6:Int),qE (qc tt Γ75 (T75 N) c) false qhv Q n ⟨[.one (.str v3),.one (.int .u8 v4),.one (.int .u8 v5),u,u,u,u,.one (.int .i64 v6),u,u,u,u,u,u,u,u,u,u,u,u,u,u,u,u,u,u,u,u,u],[]⟩=qdt N v3 v4 v5 k0 n v6:=by
 subst hc;intro n;induction n with
 | zero=>intros;rfl
 | succ n ih=>
   intro v6
   rw [qP,qF0,qdt];unfold Try.f75
   simp (maxSteps:=10000000) -implicitDefEqProofs [qnQ,qe9,qtp,qja,qo1,qiY,qmA,qhg,qtT,qhi,qtI,qvt,qtV,qnb,qsR,qpZ,qtq,qmr,qva,g65,hret,h0,ih]
theorem qH5 (N:Nat) (v0:ByteArray) (v1:Int) (v2:Int):qc tt Γ75 (T75 N) (Try.f75.body.getD .skip) (qn tt true [i4] [.tmp 6]) (qq [i9,i5,i5] 29 (v0,v1,v2,()))=m75 N v0 v1 v2:=by
 unfold Try.f75
 simp (maxSteps:=10000000) -implicitDefEqProofs [qnQ,qe9,qtp,qja,qo1,qiY,qmA,qhg,qtT,qhi,qtI,qvt,qtV,qnb,qsR,qpZ,qtq,qmr,qva,g65]
 rewrite [qCn (k0:=(fun (_:Unit)=>some (((inR (v0.size:Int) (1:Int) (6:Int)):Bool),()))) N _ _ _ ?_ ?_ ?_]
 ·rewrite [m75];first | rfl | simp (maxSteps:=10000000) -implicitDefEqProofs []
 ·rfl
 ·intro;simp only [qN,qO,qQ,qM]
 ·simp (maxSteps:=10000000) -implicitDefEqProofs [qnQ,qe9,qtp,qja,qo1,qiY,qmA,qhg,qtT,qhi,qtI,qvt,qtV,qnb,qsR,qpZ,qtq,qmr,qva,g65]
noncomputable def qc5 (N:Nat) (v3:ByteArray) (v4:Int) (v5:Int) (k0:Unit→Option (qa [i4])):Nat→Int→Option (qa [i4])
 | 0,_=>none
 | n+1,v6=>bif (decide (v6<(v3.size:Int)))then (chk (0≤v6∧v6<(v3.size:Int)) (bif (decide ((qT v3 v6.toNat)<v4))then (some (false,()))else (chk (0≤v6∧v6<(v3.size:Int)) (bif (decide (v5<(qT v3 v6.toNat)))then (some (false,()))else (qc5 N v3 v4 v5 k0 n (IntKind.i64.wrap (v6+(1:Int))))))))else (k0 ())
noncomputable def qkV (N:Nat) (v0:ByteArray) (v1:Int) (v2:Int):Option (qa [i4]):=bif (decide ((v0.size:Int)<(1:Int)))then (some (false,()))else (bif (decide ((6:Int)<(v0.size:Int)))then (some (false,()))else (qc5 N v0 v1 v2 (fun (_:Unit)=>some (true,())) N (0:Int)))
def qgA:Gam:=[]
def qhC:Nm:=⟨[true,true,true,false,false,false,false,true],[],false⟩
theorem qwG:qhC.zero=false:=rfl
theorem qrq:qhC.fix=[]:=rfl
theorem qqO:qhC.keep=[true,true,true,false,false,false,false,true]:=rfl
def qky:Nm:=⟨[],[],false⟩
theorem qpL:qky.zero=false:=rfl
theorem qsq:qky.fix=[]:=rfl
theorem qrY:qky.keep=[]:=rfl
def qev:Nat→Tree:=fun _=> .done
def qhk:Nat→Nm:=fun i=>if i=4 then qhC else ⟨[],[],false⟩
def qi6:Nat→Option Jn:=fun _=>none
def qhh:Nat→Option Nm:=fun i=>if i=0 then some qky else none
def qhF:Nat→Option Nm:=fun _=>none
theorem qBm:qm qev (Try.f136.body.getD .skip)=true:=by kernel_rfl
def qa1 (N:Nat):Tab:={tr:=qev,lp:=qhk,ex:=qhh,rg:=qhF,jn:=qi6,fuel:=N}
theorem qpY (N:Nat):(qa1 N).pins=false:=rfl
theorem qHh (N:Nat):qp Try.prog (qa1 N):=qv fun _=>rfl
theorem qtL (N:Nat) (i:Nat):(qa1 N).tr i=qev i:=rfl
theorem qnG (N:Nat) (i:Nat):(qa1 N).lp i=qhk i:=rfl
theorem qpU (N:Nat) (i:Nat):(qa1 N).ex i=qhh i:=rfl
theorem qr7 (N:Nat) (i:Nat):(qa1 N).rg i=qhF i:=rfl
theorem qwz (N:Nat) (i:Nat):(qa1 N).jn i=qi6 i:=rfl
theorem qwx (N:Nat):(qa1 N).fuel=N:=rfl
noncomputable def qyR:Code:=cut [true,true,false,true,true,true] (Try.f136.body.getD .skip)
theorem qJ7 {N:Nat} {Q:X→St→Option (qa [i4])} {e:List LV} {h:List Blk}:qc tt qgA (qa1 N) qyR Q ⟨e,h⟩=qc tt qgA (qa1 N) (cut [true,true,false,true,true,true] (Try.f136.body.getD .skip)) Q ⟨e,h⟩:=rfl
theorem qJf (N:Nat) (v3:ByteArray) (v4:Int) (v5:Int) {k0:Unit→Option (qa [i4])} {Q:X→St→Option (qa [i4])} {c:Code} (hc:c=qyR) (hret: ∀st,Q .ret st=qG tt true [i4] [.tmp 6] st) (h0:Q (.exit 0) ⟨[u,u,u,u,u,u,u,u,u,u,u,u,u,u,u,u,u,u,u,u,u,u,u,u,u,u,u,u,u,u,u,u,u,u],[]⟩=k0 ()): ∀(n:Nat) (v6:Int),qE (qc tt qgA (qa1 N) c) false qhC Q n ⟨[.one (.str v3),.one (.int .u8 v4),.one (.int .u8 v5),u,u,u,u,.one (.int .i64 v6),u,u,u,u,u,u,u,u,u,u,u,u,u,u,u,u,u,u,u,u,u,u,u,u,u,u],[]⟩=qc5 N v3 v4 v5 k0 n v6:=by
 subst hc;intro n;induction n with
 | zero=>intros;rfl
 | succ n ih=>
   intro v6
   rw [qP,qJ7,qc5];unfold Try.f136
   simp (maxSteps:=10000000) -implicitDefEqProofs [qtL,qev,qnG,qhk,qpU,qhh,qr7,qhF,qwz,qi6,qwx,qpY,qrq,qqO,qwG,qsq,qrY,qpL,hret,h0,ih]
theorem qIs (N:Nat) (v0:ByteArray) (v1:Int) (v2:Int):qc tt qgA (qa1 N) (Try.f136.body.getD .skip) (qn tt true [i4] [.tmp 6]) (qq [i9,i5,i5] 34 (v0,v1,v2,()))=qkV N v0 v1 v2:=by
 unfold Try.f136
 simp (maxSteps:=10000000) -implicitDefEqProofs [qtL,qev,qnG,qhk,qpU,qhh,qr7,qhF,qwz,qi6,qwx,qpY,qrq,qqO,qwG,qsq,qrY,qpL]
 rewrite [qJf (k0:=(fun (_:Unit)=>some (true,()))) N _ _ _ ?_ ?_ ?_]
 ·rewrite [qkV];first | rfl | simp (maxSteps:=10000000) -implicitDefEqProofs []
 ·rfl
 ·intro;simp only [qN,qO,qQ,qM]
 ·simp (maxSteps:=10000000) -implicitDefEqProofs [qtL,qev,qnG,qhk,qpU,qhh,qr7,qhF,qwz,qi6,qwx,qpY,qrq,qqO,qwG,qsq,qrY,qpL]
theorem qwN {n i:Nat} (h:(List.range n).length≤i): ¬((i:Int)<(n:Int)):=by
 have:n≤i:=by simpa using h
 omega
theorem t75 (N:Nat) (s:ByteArray) (a b:Int) (K:Unit→Option (qa [i4])) (hl:s.size≤1048576) (n:Nat) (hn:s.size<n):qdt N s a b K n 0=bif (List.range s.size).all (fun i=>decide (a≤qT s i∧qT s i≤b))then K ()else some (false,()):=
 (qac (F:=fun n i (_:Unit)=>qdt N s a b K n i) (xs:=List.range s.size) (step:=fun _ x _ K=>bif decide (a≤qT s x∧qT s x≤b)then K ()else some (false,())) (k:=K) (by simpa using hl) (fun n i u hi=>by
   have hi:i<s.size:=by simpa using hi
   rw [qdt,qh (by omega),qd (by omega),qd (by omega),Int.toNat_natCast,List.getElem_range]
   by_cases h1:qT s i<a<;>by_cases h2:b<qT s i
   ·simp [h1,show ¬(a≤qT s i) by omega]
   ·simp [h1,show ¬(a≤qT s i) by omega]
   ·simp [h1,h2,show ¬(qT s i≤b) by omega]
   ·simp [h1,h2,show a≤qT s i by omega,show qT s i≤b by omega]) (fun n i u hi=>by rw [qdt,qg (qwN hi)]) n () (by simpa using hn)).trans (qbX _ 0)
theorem qBP (N:Nat) (s:ByteArray) (a b:Int) (K:Unit→Option (qa [i4])) (hl:s.size≤1048576) (n:Nat) (hn:s.size<n):qc5 N s a b K n 0=bif (List.range s.size).all (fun i=>decide (a≤qT s i∧qT s i≤b))then K ()else some (false,()):=
 (qac (F:=fun n i (_:Unit)=>qc5 N s a b K n i) (xs:=List.range s.size) (step:=fun _ x _ K=>bif decide (a≤qT s x∧qT s x≤b)then K ()else some (false,())) (k:=K) (by simpa using hl) (fun n i u hi=>by
   have hi:i<s.size:=by simpa using hi
   rw [qc5,qh (by omega),qd (by omega),qd (by omega),Int.toNat_natCast,List.getElem_range]
   by_cases h1:qT s i<a<;>by_cases h2:b<qT s i
   ·simp [h1,show ¬(a≤qT s i) by omega]
   ·simp [h1,show ¬(a≤qT s i) by omega]
   ·simp [h1,h2,show ¬(qT s i≤b) by omega]
   ·simp [h1,h2,show a≤qT s i by omega,show qT s i≤b by omega]) (fun n i u hi=>by rw [qc5,qg (qwN hi)]) n () (by simpa using hn)).trans (qbX _ 0)
def g75:G:={ps:=[i9,i5,i5],rs:=[i4],dp:=true,pre:=fun x=>qcx x.1 x.2.1 x.2.2.1,fn:=fun x=>(qW x.1 x.2.1 x.2.2.1,())}
def qdU:G:={ps:=[i9,i5,i5],rs:=[i4],dp:=true,pre:=fun _=>True,fn:=fun x=>(qW x.1 x.2.1 x.2.2.1,())}
theorem e75 (s:ByteArray) (a b:Int) (h:qcx s a b): ∃N,m75 N s a b=some (qW s a b,()):=⟨s.size+1,by
 rw [m75,qW,t75 _ _ _ _ _ h _ (Nat.lt_succ_self _)]
 simp only [inR]
 cases (List.range s.size).all _<;>simp⟩
theorem s75:Sound Try.prog 75 g75:=qu (tt:=tt) (Γ:=Γ75) hT (qk s65 qt) hm (fn:=Try.f75) Try.func75 (c:=Try.f75.body.getD .skip) (by kernel_rfl) (by kernel_rfl) fun x hx=>by
 obtain ⟨N,h⟩:=e75 x.1 x.2.1 x.2.2.1 hx
 exact ⟨T75 N,p75,qr _,qFh N,(qH5 N x.1 x.2.1 x.2.2.1).trans h⟩
theorem qCp (s:ByteArray) (a b:Int): ∃N,qkV N s a b=some (qW s a b,()):=⟨s.size+1,by
 rw [qkV,qW]
 by_cases h1:(s.size:Int)<1
 ·rw [qh h1]
  simp only [show ¬((1:Int)≤s.size∧(s.size:Int)≤6) by omega,decide_false,Bool.false_and]
 ·rw [qg h1]
  by_cases h2:(6:Int)<s.size
  ·rw [qh h2]
   simp only [show ¬((1:Int)≤s.size∧(s.size:Int)≤6) by omega,decide_false,Bool.false_and]
  ·rw [qg h2,qBP _ _ _ _ _ (by omega) _ (Nat.lt_succ_self _)]
   simp only [show ((1:Int)≤s.size∧(s.size:Int)≤6) by omega,decide_true,Bool.true_and]
   cases (List.range s.size).all _<;>rfl⟩
theorem qxD:Sound Try.prog 136 qdU:=qu (tt:=tt) (Γ:=qgA) hT qt hm (fn:=Try.f136) Try.func136 (c:=Try.f136.body.getD .skip) (by kernel_rfl) (by kernel_rfl) fun x hx=>by
 obtain ⟨N,h⟩:=qCp x.1 x.2.1 x.2.2.1
 exact ⟨qa1 N,qBm,qr _,qHh N,(qIs N x.1 x.2.1 x.2.2.1).trans h⟩
def qk7 (s:ByteArray):Bool:=qW s 65 90
def qcW (s:ByteArray):Bool:=qW s 97 122
noncomputable def m77 (N:Nat) (v0:ByteArray):Option (qa [i4]):=some (((qW v0 (65:Int) (90:Int)):Bool),())
def Γ77:Gam:=[(136,qdU)]
theorem qBb:Gam.get Γ77 136=some qdU:=rfl
def qjK:Nat→Tree:=fun _=> .done
def qmU:Nat→Nm:=fun _=>⟨[],[],false⟩
def qpI:Nat→Option Jn:=fun _=>none
def qoG:Nat→Option Nm:=fun _=>none
def qtY:Nat→Option Nm:=fun _=>none
theorem p77:qm qjK (Try.f77.body.getD .skip)=true:=by kernel_rfl
def T77 (N:Nat):Tab:={tr:=qjK,lp:=qmU,ex:=qoG,rg:=qtY,jn:=qpI,fuel:=N}
theorem qAn (N:Nat):(T77 N).pins=false:=rfl
theorem qF1 (N:Nat):qp Try.prog (T77 N):=qv fun _=>rfl
theorem qDP (N:Nat) (i:Nat):(T77 N).tr i=qjK i:=rfl
theorem qAh (N:Nat) (i:Nat):(T77 N).lp i=qmU i:=rfl
theorem qHP (N:Nat) (i:Nat):(T77 N).ex i=qoG i:=rfl
theorem qCi (N:Nat) (i:Nat):(T77 N).rg i=qtY i:=rfl
theorem qCc (N:Nat) (i:Nat):(T77 N).jn i=qpI i:=rfl
theorem qGa (N:Nat):(T77 N).fuel=N:=rfl
theorem qHm (N:Nat) (v0:ByteArray):qc tt Γ77 (T77 N) (Try.f77.body.getD .skip) (qn tt true [i4] [.tmp 2]) (qq [i9] 5 (v0,()))=m77 N v0:=by
 rw [m77];unfold Try.f77
 simp (maxSteps:=10000000) -implicitDefEqProofs [qDP,qjK,qAh,qmU,qHP,qoG,qCi,qtY,qCc,qpI,qGa,qAn,qBb,qdU]
 try rfl
noncomputable def m78 (N:Nat) (v0:ByteArray):Option (qa [i4]):=some (((qW v0 (97:Int) (122:Int)):Bool),())
def Γ78:Gam:=[(136,qdU)]
theorem qIu:Gam.get Γ78 136=some qdU:=rfl
def qla:Nat→Tree:=fun _=> .done
def quU:Nat→Nm:=fun _=>⟨[],[],false⟩
def qqy:Nat→Option Jn:=fun _=>none
def quu:Nat→Option Nm:=fun _=>none
def qpj:Nat→Option Nm:=fun _=>none
theorem p78:qm qla (Try.f78.body.getD .skip)=true:=by kernel_rfl
def T78 (N:Nat):Tab:={tr:=qla,lp:=quU,ex:=quu,rg:=qpj,jn:=qqy,fuel:=N}
theorem qH6 (N:Nat):(T78 N).pins=false:=rfl
theorem qED (N:Nat):qp Try.prog (T78 N):=qv fun _=>rfl
theorem qHl (N:Nat) (i:Nat):(T78 N).tr i=qla i:=rfl
theorem qIv (N:Nat) (i:Nat):(T78 N).lp i=quU i:=rfl
theorem qAi (N:Nat) (i:Nat):(T78 N).ex i=quu i:=rfl
theorem qAe (N:Nat) (i:Nat):(T78 N).rg i=qpj i:=rfl
theorem qEb (N:Nat) (i:Nat):(T78 N).jn i=qqy i:=rfl
theorem qHo (N:Nat):(T78 N).fuel=N:=rfl
theorem qEF (N:Nat) (v0:ByteArray):qc tt Γ78 (T78 N) (Try.f78.body.getD .skip) (qn tt true [i4] [.tmp 2]) (qq [i9] 5 (v0,()))=m78 N v0:=by
 rw [m78];unfold Try.f78
 simp (maxSteps:=10000000) -implicitDefEqProofs [qHl,qla,qIv,quU,qAi,quu,qAe,qpj,qEb,qqy,qHo,qH6,qIu,qdU]
 try rfl
def g77:G:={ps:=[i9],rs:=[i4],dp:=true,pre:=fun _=>True,fn:=fun x=>(qk7 x.1,())}
def g78:G:={ps:=[i9],rs:=[i4],dp:=true,pre:=fun _=>True,fn:=fun x=>(qcW x.1,())}
theorem e77 (s:ByteArray): ∃N,m77 N s=some (qk7 s,()):=⟨0,rfl⟩
theorem e78 (s:ByteArray): ∃N,m78 N s=some (qcW s,()):=⟨0,rfl⟩
theorem s77:Sound Try.prog 77 g77:=qu (tt:=tt) (Γ:=Γ77) hT (qk qxD qt) hm (fn:=Try.f77) Try.func77 (c:=Try.f77.body.getD .skip) (by kernel_rfl) (by kernel_rfl) fun x hx=>by
 obtain ⟨N,h⟩:=e77 x.1
 exact ⟨T77 N,p77,qr _,qF1 N,(qHm N x.1).trans h⟩
theorem s78:Sound Try.prog 78 g78:=qu (tt:=tt) (Γ:=Γ78) hT (qk qxD qt) hm (fn:=Try.f78) Try.func78 (c:=Try.f78.body.getD .skip) (by kernel_rfl) (by kernel_rfl) fun x hx=>by
 obtain ⟨N,h⟩:=e78 x.1
 exact ⟨T78 N,p78,qr _,qED N,(qEF N x.1).trans h⟩
noncomputable def qdk (N:Nat) (v2:ByteArray) (v3:Int) (v4:List (Val qi)) (k0:Unit→Option (qa [i4])):Nat→Int→Option (qa [i4])
 | 0,_=>none
 | n+1,v1=>bif (decide (v1<(v4.length:Int)))then (chk (0≤v1∧v1<(v4.length:Int)) (chk (qcx ((v4.getD v1.toNat (qb qi)).1:ByteArray) (97:Int) (122:Int)) (bif (!((qW ((v4.getD v1.toNat (qb qi)).1:ByteArray) (97:Int) (122:Int)):Bool))then (some (false,()))else (chk (0≤v1∧v1<(v4.length:Int)) (chk (qlw ((v4.getD v1.toNat (qb qi)).2)) (bif (!((qbQ ((v4.getD v1.toNat (qb qi)).2)):Bool))then (some (false,()))else (chk (0≤v1∧v1<(v4.length:Int)) (bif (!(decide ((((v4.getD v1.toNat (qb qi)).2).1:Int)=v3)))then (some (false,()))else (qdk N v2 v3 v4 k0 n (IntKind.i64.wrap (v1+(1:Int))))))))))))else (k0 ())
noncomputable def m29 (N:Nat) (v0:Val Y53):Option (qa [i4]):=qdk N (v0.1:ByteArray) (v0.2.1:Int) (v0.2.2:List (Val qi)) (fun (_:Unit)=>chk (qcx (v0.1:ByteArray) (65:Int) (90:Int)) (bif ((qW (v0.1:ByteArray) (65:Int) (90:Int)):Bool)then (bif ((inR (v0.2.1:Int) (0:Int) (4:Int)):Bool)then (some ((decide (((v0.2.2:List (Val qi)).length:Int)≤(8:Int))),()))else (some (false,())))else (some (false,())))) N (0:Int)
def Γ29:Gam:=[(64,g64),(65,g65),(75,g75)]
theorem qso:Gam.get Γ29 64=some g64:=rfl
theorem qpg:Gam.get Γ29 65=some g65:=rfl
theorem qmN:Gam.get Γ29 75=some g75:=rfl
def qhd:Nm:=⟨[false,true,false,true],[],false⟩
theorem qvE:qhd.zero=false:=rfl
theorem qm6:qhd.fix=[]:=rfl
theorem qqC:qhd.keep=[false,true,false,true]:=rfl
def qlZ:Nm:=⟨[false,true],[],false⟩
theorem qqE:qlZ.zero=false:=rfl
theorem qon:qlZ.fix=[]:=rfl
theorem qpS:qlZ.keep=[false,true]:=rfl
def qeZ:Nat→Tree:=fun i=>if i=4 then .quiet 0 (.quiet 1 (.quiet 2 (.quiet 3 (.quiet 4 (.quiet 5 (.alt 6 (.quiet 7 (.quiet 8 (.quiet 9 (.quiet 10 (.quiet 11 (.quiet 12 (.quiet 13 (.quiet 14 (.alt 15 (.quiet 16 (.quiet 17 (.quiet 18 (.quiet 19 (.quiet 20 (.quiet 21 (.quiet 22 (.quiet 23 (.quiet 24 (.quiet 25 (.quiet 26 (.quiet 27 (.quiet 28 (.quiet 29 .done)))))))))))))) .stop))))))))) .stop))))))else .done
def qjm:Nat→Nm:=fun i=>if i=2 then qhd else ⟨[],[],false⟩
def qf5:Nat→Option Jn:=fun _=>none
def qgn:Nat→Option Nm:=fun i=>if i=0 then some qlZ else none
def qid:Nat→Option Nm:=fun _=>none
theorem p29:qm qeZ (Try.f29.body.getD .skip)=true:=by kernel_rfl
def T29 (N:Nat):Tab:={tr:=qeZ,lp:=qjm,ex:=qgn,rg:=qid,jn:=qf5,fuel:=N}
theorem qo9 (N:Nat):(T29 N).pins=false:=rfl
theorem qH2 (N:Nat):qp Try.prog (T29 N):=qv fun _=>rfl
theorem qqd (N:Nat) (i:Nat):(T29 N).tr i=qeZ i:=rfl
theorem qnf (N:Nat) (i:Nat):(T29 N).lp i=qjm i:=rfl
theorem qnT (N:Nat) (i:Nat):(T29 N).ex i=qgn i:=rfl
theorem qoi (N:Nat) (i:Nat):(T29 N).rg i=qid i:=rfl
theorem qvB (N:Nat) (i:Nat):(T29 N).jn i=qf5 i:=rfl
theorem qq8 (N:Nat):(T29 N).fuel=N:=rfl
noncomputable def qyT:Code:=cut [true,false,true,true,true] (Try.f29.body.getD .skip)
theorem qDT {N:Nat} {Q:X→St→Option (qa [i4])} {e:List LV} {h:List Blk}:qc tt Γ29 (T29 N) qyT Q ⟨e,h⟩=qc tt Γ29 (T29 N) (cut [true,false,true,true,true] (Try.f29.body.getD .skip)) Q ⟨e,h⟩:=rfl
theorem qC4 (N:Nat) (v2:ByteArray) (v3:Int) (v4:List (Val qi)) {k0:Unit→Option (qa [i4])} {Q:X→St→Option (qa [i4])} {c:Code} (hc:c=qyT) (hret: ∀st,Q .ret st=qG tt true [i4] [.tmp 2] st) (h0:Q (.exit 0) ⟨[u,.one (.ptr 0 0 0),u,u,u,u,u,u,u,u,u,u,u,u,u,u,u,u,u,u,u,u,u,u,u,u,u,u,u,u,u,u,u,u,u,u,u,u,u,u,u,u,u,u,u,u,u,u,u,u,u,u,u,u,u],[.box [.str v2,.int .i64 v3,.sl 116 qi v4 1]]⟩=k0 ()): ∀(n:Nat) (v1:Int),qE (qc tt Γ29 (T29 N) c) false qhd Q n ⟨[u,.one (.ptr 0 0 0),u,.one (.int .i64 v1),u,u,u,u,u,u,u,u,u,u,u,u,u,u,u,u,u,u,u,u,u,u,u,u,u,u,u,u,u,u,u,u,u,u,u,u,u,u,u,u,u,u,u,u,u,u,u,u,u,u,u],[.box [.str v2,.int .i64 v3,.sl 116 qi v4 1]]⟩=qdk N v2 v3 v4 k0 n v1:=by
 subst hc;intro n;induction n with
 | zero=>intros;rfl
 | succ n ih=>
   intro v1
   rw [qP,qDT,qdk];unfold Try.f29
   simp (maxSteps:=10000000) -implicitDefEqProofs [qqd,qeZ,qnf,qjm,qnT,qgn,qoi,qid,qvB,qf5,qq8,qo9,qm6,qqC,qvE,qon,qpS,qqE,qso,qpg,qmN,g64,g65,g75,hret,h0,ih]
theorem qFC (N:Nat) (v0:Val Y53):qc tt Γ29 (T29 N) (Try.f29.body.getD .skip) (qn tt true [i4] [.tmp 2]) (qq [i53] 55 (v0,()))=m29 N v0:=by
 unfold Try.f29
 simp (maxSteps:=10000000) -implicitDefEqProofs [qqd,qeZ,qnf,qjm,qnT,qgn,qoi,qid,qvB,qf5,qq8,qo9,qm6,qqC,qvE,qon,qpS,qqE,qso,qpg,qmN,g64,g65,g75]
 rewrite [qC4 (k0:=(fun (_:Unit)=>chk (qcx (v0.1:ByteArray) (65:Int) (90:Int)) (bif ((qW (v0.1:ByteArray) (65:Int) (90:Int)):Bool)then (bif ((inR (v0.2.1:Int) (0:Int) (4:Int)):Bool)then (some ((decide (((v0.2.2:List (Val qi)).length:Int)≤(8:Int))),()))else (some (false,())))else (some (false,()))))) N _ _ _ ?_ ?_ ?_]
 ·rewrite [m29];first | rfl | simp (maxSteps:=10000000) -implicitDefEqProofs []
 ·rfl
 ·intro;simp only [qN,qO,qQ,qM]
 ·simp (maxSteps:=10000000) -implicitDefEqProofs [qqd,qeZ,qnf,qjm,qnT,qgn,qoi,qid,qvB,qf5,qq8,qo9,qm6,qqC,qvE,qon,qpS,qqE,qso,qpg,qmN,g64,g65,g75]
noncomputable def qdm (N:Nat) (v1:List (Val qi)) (v2:Int) (v4:ByteArray) (v5:Int) (v6:List (Val qi)) (k0:Unit→Option (qa [i4])):Nat→Int→Option (qa [i4])
 | 0,_=>none
 | n+1,v3=>bif (decide (v3<v2))then (chk (0≤v3∧v3<(v1.length:Int)) (bif (!((qcW ((v1.getD v3.toNat (qb qi)).1:ByteArray)):Bool))then (some (false,()))else (bif (!((qbQ ((v1.getD v3.toNat (qb qi)).2)):Bool))then (some (false,()))else (bif (!(decide ((((v1.getD v3.toNat (qb qi)).2).1:Int)=v5)))then (some (false,()))else (qdm N v1 v2 v4 v5 v6 k0 n (IntKind.i64.wrap (v3+(1:Int))))))))else (k0 ())
noncomputable def m31 (N:Nat) (v0:Val Y53):Option (qa [i4]):=bif (!((qk7 (v0.1:ByteArray)):Bool))then (some (false,()))else (bif (decide ((v0.2.1:Int)<(0:Int)))then (some (false,()))else (bif (decide ((4:Int)<(v0.2.1:Int)))then (some (false,()))else (bif (decide ((8:Int)<((v0.2.2:List (Val qi)).length:Int)))then (some (false,()))else (qdm N (v0.2.2:List (Val qi)) ((v0.2.2:List (Val qi)).length:Int) (v0.1:ByteArray) (v0.2.1:Int) (v0.2.2:List (Val qi)) (fun (_:Unit)=>some (true,())) N (0:Int)))))
def Γ31:Gam:=[(68,g68),(77,g77),(78,g78)]
theorem quB:Gam.get Γ31 68=some g68:=rfl
theorem qsV:Gam.get Γ31 77=some g77:=rfl
theorem qr0:Gam.get Γ31 78=some g78:=rfl
def qip:Nm:=⟨[false,true,false,false,false,false,false,false,false,false,false,false,false,false,false,false,false,false,false,false,false,false,false,false,false,false,true,true,true],[],false⟩
theorem qq4:qip.zero=false:=rfl
theorem qu4:qip.fix=[]:=rfl
theorem qvY:qip.keep=[false,true,false,false,false,false,false,false,false,false,false,false,false,false,false,false,false,false,false,false,false,false,false,false,false,false,true,true,true]:=rfl
def qmd:Nm:=⟨[],[],false⟩
theorem qus:qmd.zero=false:=rfl
theorem qmE:qmd.fix=[]:=rfl
theorem qq0:qmd.keep=[]:=rfl
def qfk:Nat→Tree:=fun _=> .done
def qgg:Nat→Nm:=fun i=>if i=4 then qip else ⟨[],[],false⟩
def qhb:Nat→Option Jn:=fun _=>none
def qgI:Nat→Option Nm:=fun i=>if i=0 then some qmd else none
def qha:Nat→Option Nm:=fun _=>none
theorem p31:qm qfk (Try.f31.body.getD .skip)=true:=by kernel_rfl
def T31 (N:Nat):Tab:={tr:=qfk,lp:=qgg,ex:=qgI,rg:=qha,jn:=qhb,fuel:=N}
theorem qtb (N:Nat):(T31 N).pins=false:=rfl
theorem qEP (N:Nat):qp Try.prog (T31 N):=qv fun _=>rfl
theorem qo8 (N:Nat) (i:Nat):(T31 N).tr i=qfk i:=rfl
theorem qvi (N:Nat) (i:Nat):(T31 N).lp i=qgg i:=rfl
theorem qsa (N:Nat) (i:Nat):(T31 N).ex i=qgI i:=rfl
theorem qqp (N:Nat) (i:Nat):(T31 N).rg i=qha i:=rfl
theorem que (N:Nat) (i:Nat):(T31 N).jn i=qhb i:=rfl
theorem qry (N:Nat):(T31 N).fuel=N:=rfl
noncomputable def qw1:Code:=cut [true,true,false,true,true,true] (Try.f31.body.getD .skip)
theorem qJx {N:Nat} {Q:X→St→Option (qa [i4])} {e:List LV} {h:List Blk}:qc tt Γ31 (T31 N) qw1 Q ⟨e,h⟩=qc tt Γ31 (T31 N) (cut [true,true,false,true,true,true] (Try.f31.body.getD .skip)) Q ⟨e,h⟩:=rfl
theorem qG6 (N:Nat) (v1:List (Val qi)) (v2:Int) (v4:ByteArray) (v5:Int) (v6:List (Val qi)) {k0:Unit→Option (qa [i4])} {Q:X→St→Option (qa [i4])} {c:Code} (hc:c=qw1) (hret: ∀st,Q .ret st=qG tt true [i4] [.tmp 2] st) (h0:Q (.exit 0) ⟨[u,u,u,u,u,u,u,u,u,u,u,u,u,u,u,u,u,u,u,u,u,u,u,u,u,u,u,u,u,u,u,u,u,u,u,u,u,u,u,u,u,u,u,u,u,u,u,u,u,u,u],[]⟩=k0 ()): ∀(n:Nat) (v3:Int),qE (qc tt Γ31 (T31 N) c) false qip Q n ⟨[u,.one (.ptr 0 0 0),u,u,u,u,u,u,u,u,u,u,u,u,u,u,u,u,u,u,u,u,u,u,u,u,.one (.sl 116 qi v1 1),.one (.int .i64 v2),.one (.int .i64 v3),u,u,u,u,u,u,u,u,u,u,u,u,u,u,u,u,u,u,u,u,u,u],[.box [.str v4,.int .i64 v5,.sl 116 qi v6 1]]⟩=qdm N v1 v2 v4 v5 v6 k0 n v3:=by
 subst hc;intro n;induction n with
 | zero=>intros;rfl
 | succ n ih=>
   intro v3
   rw [qP,qJx,qdm];unfold Try.f31
   simp (maxSteps:=10000000) -implicitDefEqProofs [qo8,qfk,qvi,qgg,qsa,qgI,qqp,qha,que,qhb,qry,qtb,qu4,qvY,qq4,qmE,qq0,qus,quB,qsV,qr0,g68,g77,g78,hret,h0,ih]
theorem qBh (N:Nat) (v0:Val Y53):qc tt Γ31 (T31 N) (Try.f31.body.getD .skip) (qn tt true [i4] [.tmp 2]) (qq [i53] 51 (v0,()))=m31 N v0:=by
 unfold Try.f31
 simp (maxSteps:=10000000) -implicitDefEqProofs [qo8,qfk,qvi,qgg,qsa,qgI,qqp,qha,que,qhb,qry,qtb,qu4,qvY,qq4,qmE,qq0,qus,quB,qsV,qr0,g68,g77,g78]
 rewrite [qG6 (k0:=(fun (_:Unit)=>some (true,()))) N _ _ _ _ _ ?_ ?_ ?_]
 ·rewrite [m31];first | rfl | simp (maxSteps:=10000000) -implicitDefEqProofs []
 ·rfl
 ·intro;simp only [qN,qO,qQ,qM]
 ·simp (maxSteps:=10000000) -implicitDefEqProofs [qo8,qfk,qvi,qgg,qsa,qgI,qqp,qha,que,qhb,qry,qtb,qu4,qvY,qq4,qmE,qq0,qus,quB,qsV,qr0,g68,g77,g78]
def qeq (d:Int) (x:Val qi):Bool:=qW x.1 97 122&&qbQ x.2&&decide ((x.2.1:Int)=d)
theorem t29 (N:Nat) (nm:ByteArray) (d:Int) (xs:List (Val qi)) (K:Unit→Option (qa [i4])) (hl:xs.length≤1048576) (hx: ∀x∈xs,Bd qi x) (n:Nat) (hn:xs.length<n):qdk N nm d xs K n 0=bif xs.all (qeq d)then K ()else some (false,()):=
 (qac (F:=fun n i (_:Unit)=>qdk N nm d xs K n i) (step:=fun _ x _ K=>bif qeq d x then K ()else some (false,())) (k:=K) hl (fun n i s hi=>by
   have hb:=hx _ (List.getElem_mem hi)
   rw [qdk,qh (by omega),qd (by omega),qB hi,qd (show qcx _ _ _ from hb.1),qd (by omega),qd (show qlw _ from hb.2.2.1),qd (by omega),qeq]
   cases qW _ 97 122<;>cases qbQ _<;>simp [qF]) (fun n i s hi=>by rw [qdk,qg (by omega)]) n () hn).trans (qbX xs 0)
theorem t31 (N:Nat) (nm:ByteArray) (d:Int) (xs ys:List (Val qi)) (K:Unit→Option (qa [i4])) (hl:xs.length≤1048576) (n:Nat) (hn:xs.length<n):qdm N xs xs.length nm d ys K n 0=bif xs.all (qeq d)then K ()else some (false,()):=
 (qac (F:=fun n i (_:Unit)=>qdm N xs xs.length nm d ys K n i) (step:=fun _ x _ K=>bif qeq d x then K ()else some (false,())) (k:=K) hl (fun n i s hi=>by
   rw [qdm,qh (by omega),qd (by omega),qB hi,qeq]
   simp only [qcW]
   cases qW _ 97 122<;>cases qbQ _<;>simp [qF]) (fun n i s hi=>by rw [qdm,qg (by omega)]) n () hn).trans (qbX xs 0)
def g29:G:={ps:=[i53],rs:=[i4],dp:=true,pre:=fun x=>ql3 x.1,fn:=fun x=>(qbP x.1,())}
def g31:G:={ps:=[i53],rs:=[i4],dp:=true,pre:=fun _=>True,fn:=fun x=>(qbP x.1,())}
theorem qzB (nm:ByteArray) (d:Int) (xs:List (Val qi)):qbP (nm,d,xs)=(qW nm 65 90&&decide (0≤d∧d≤4)&&decide ((xs.length:Int)≤8)&&xs.all (qeq d)):=rfl
theorem e29 (r:Val Y53) (h:ql3 r): ∃N,m29 N r=some (qbP r,()):=⟨List.length (α:=Val qi) r.2.2+1,by
 obtain ⟨nm,d,xs⟩:=r
 change Int at d
 change List (Val qi)at xs
 obtain ⟨h1, -,h2,h3⟩:=h
 rw [m29,qzB]
 dsimp only
 rw [t29 _ _ _ _ _ h2 h3 _ (Nat.lt_succ_self _),qd (show qcx _ _ _ from h1)]
 simp only [inR]
 cases List.all xs _<;>cases qW nm 65 90<;>cases decide (0≤d∧d≤4)<;>simp⟩
theorem s29:Sound Try.prog 29 g29:=qu (tt:=tt) (Γ:=Γ29) hT (qk s64 (qk s65 (qk s75 qt))) hm (fn:=Try.f29) Try.func29 (c:=Try.f29.body.getD .skip) (by kernel_rfl) (by kernel_rfl) fun x hx=>by
 obtain ⟨N,h⟩:=e29 x.1 hx
 exact ⟨T29 N,p29,qr _,qH2 N,(qFC N x.1).trans h⟩
theorem e31 (r:Val Y53): ∃N,m31 N r=some (qbP r,()):=⟨List.length (α:=Val qi) r.2.2+1,by
 obtain ⟨nm,d,xs⟩:=r
 change Int at d
 change List (Val qi)at xs
 rw [m31,qzB]
 dsimp only
 simp only [qk7]
 cases qW nm 65 90 with
 | false=>simp
 | true=>
   by_cases h1:d<0
   ·have: ¬(0≤d∧d≤4):=by omega
    simp [h1,this]
   ·by_cases h2:4<d
    ·have: ¬(0≤d∧d≤4):=by omega
     simp [h1,h2,this]
    ·have:0≤d∧d≤4:=by omega
     by_cases h3:(8:Int)<xs.length
     ·have h3': ¬(xs.length:Int)≤8:=by omega
      simp only [h1,h2,h3,h3',decide_true,decide_false,cond_true,cond_false,Bool.and_false,Bool.false_and,Bool.not_true]
     ·have h3':(xs.length:Int)≤8:=by omega
      rw [t31 _ _ _ _ _ _ (by omega) _ (Nat.lt_succ_self _)]
      simp only [h1,h2,h3,h3',this,decide_true,decide_false,cond_true,cond_false,Bool.true_and,and_self,Bool.not_true]
      cases List.all xs _<;>rfl⟩
theorem s31:Sound Try.prog 31 g31:=qu (tt:=tt) (Γ:=Γ31) hT (qk s68 (qk s77 (qk s78 qt))) hm (fn:=Try.f31) Try.func31 (c:=Try.f31.body.getD .skip) (by kernel_rfl) (by kernel_rfl) fun x hx=>by
 obtain ⟨N,h⟩:=e31 x.1
 exact ⟨T31 N,p31,qr _,qEP N,(qBh N x.1).trans h⟩
end Go.T
