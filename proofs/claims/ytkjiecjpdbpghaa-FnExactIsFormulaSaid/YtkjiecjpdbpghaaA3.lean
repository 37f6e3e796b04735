/- Cells: whether they are valid. -/
import Derived.Test.YtkjiecjpdbpghaaA2
set_option linter.unusedSimpArgs false
set_option linter.unusedVariables false
namespace Go.T
open Go Go.Proofs
set_option maxHeartbeats 4000000
set_option maxRecDepth 100000
def qbQ (c:Val Y36):Bool:=decide (0≤(c.1:Int)∧(c.1:Int)≤4)&&decide ((List.length (α:=Val qf) c.2:Int)≤16)&&List.all (α:=Val qf) c.2 fun a=>q4 a&&decide ((List.length (α:=Val (.int .i64)) a.1:Int)=(c.1:Int))
def qlw (c:Val Y36):Prop:=List.length (α:=Val qf) c.2≤1048576
noncomputable def qc8 (N:Nat) (v2:Int) (v3:List (Val qf)) (k0:Unit→Option (qa [i4])):Nat→Int→Option (qa [i4])
 | 0,_=>none
 | n+1,v1=>bif (decide (v1<(v3.length:Int)))then (chk (0≤v1∧v1<(v3.length:Int)) (bif (!((q4 (v3.getD v1.toNat (qb qf))):Bool))then (some (false,()))else (chk (0≤v1∧v1<(v3.length:Int)) (bif (!(decide ((((v3.getD v1.toNat (qb qf)).1:List (Val (.int .i64))).length:Int)=v2)))then (some (false,()))else (qc8 N v2 v3 k0 n (IntKind.i64.wrap (v1+(1:Int))))))))else (k0 ())
noncomputable def m64 (N:Nat) (v0:Val Y36):Option (qa [i4]):=qc8 N (v0.1:Int) (v0.2:List (Val qf)) (fun (_:Unit)=>bif ((inR (v0.1:Int) (0:Int) (4:Int)):Bool)then (some ((decide (((v0.2:List (Val qf)).length:Int)≤(16:Int))),()))else (some (false,()))) N (0:Int)
def Γ64:Gam:=[(65,g65),(127,qab)]
theorem qwo:Gam.get Γ64 65=some g65:=rfl
theorem qvZ:Gam.get Γ64 127=some qab:=rfl
def qjj:Nm:=⟨[false,true,false,true],[],false⟩
theorem qrM:qjj.zero=false:=rfl
theorem qr9:qjj.fix=[]:=rfl
theorem qoF:qjj.keep=[false,true,false,true]:=rfl
def qlb:Nm:=⟨[false,true],[],false⟩
theorem qti:qlb.zero=false:=rfl
theorem qo3:qlb.fix=[]:=rfl
theorem qsN:qlb.keep=[false,true]:=rfl
def qfI:Nat→Tree:=fun i=>if i=4 then .quiet 0 (.quiet 1 (.quiet 2 (.quiet 3 (.quiet 4 (.alt 5 (.quiet 6 (.quiet 7 (.quiet 8 (.quiet 9 (.quiet 10 (.quiet 11 (.quiet 12 (.quiet 13 (.quiet 14 (.quiet 15 (.quiet 16 (.quiet 17 (.quiet 18 .done))))))))))))) .stop)))))else .done
def qg1:Nat→Nm:=fun i=>if i=2 then qjj else ⟨[],[],false⟩
def qgU:Nat→Option Jn:=fun _=>none
def qib:Nat→Option Nm:=fun i=>if i=0 then some qlb else none
def qh2:Nat→Option Nm:=fun _=>none
theorem p64:qm qfI (Try.f64.body.getD .skip)=true:=by kernel_rfl
def T64 (N:Nat):Tab:={tr:=qfI,lp:=qg1,ex:=qib,rg:=qh2,jn:=qgU,fuel:=N}
theorem qqL (N:Nat):(T64 N).pins=false:=rfl
theorem qCF (N:Nat):qp Try.prog (T64 N):=qv fun _=>rfl
theorem quH (N:Nat) (i:Nat):(T64 N).tr i=qfI i:=rfl
theorem qot (N:Nat) (i:Nat):(T64 N).lp i=qg1 i:=rfl
theorem qtn (N:Nat) (i:Nat):(T64 N).ex i=qib i:=rfl
theorem qwt (N:Nat) (i:Nat):(T64 N).rg i=qh2 i:=rfl
theorem qtB (N:Nat) (i:Nat):(T64 N).jn i=qgU i:=rfl
theorem qwa (N:Nat):(T64 N).fuel=N:=rfl
noncomputable def qzA:Code:=cut [true,false,true,true,true] (Try.f64.body.getD .skip)
theorem qF2 {N:Nat} {Q:X→St→Option (qa [i4])} {e:List LV} {h:List Blk}:qc tt Γ64 (T64 N) qzA Q ⟨e,h⟩=qc tt Γ64 (T64 N) (cut [true,false,true,true,true] (Try.f64.body.getD .skip)) Q ⟨e,h⟩:=rfl
theorem qAm (N:Nat) (v2:Int) (v3:List (Val qf)) {k0:Unit→Option (qa [i4])} {Q:X→St→Option (qa [i4])} {c:Code} (hc:c=qzA) (hret: ∀st,Q .ret st=qG tt true [i4] [.tmp 2] st) (h0:Q (.exit 0) ⟨[u,.one (.ptr 0 0 0),u,u,u,u,u,u,u,u,u,u,u,u,u,u,u,u,u,u,u,u,u,u,u,u,u,u,u,u,u,u,u,u,u,u,u,u,u],[.box [.int .i64 v2,.sl 106 qf v3 1]]⟩=k0 ()): ∀(n:Nat) (v1:Int),qE (qc tt Γ64 (T64 N) c) false qjj Q n ⟨[u,.one (.ptr 0 0 0),u,.one (.int .i64 v1),u,u,u,u,u,u,u,u,u,u,u,u,u,u,u,u,u,u,u,u,u,u,u,u,u,u,u,u,u,u,u,u,u,u,u],[.box [.int .i64 v2,.sl 106 qf v3 1]]⟩=qc8 N v2 v3 k0 n v1:=by
 subst hc;intro n;induction n with
 | zero=>intros;rfl
 | succ n ih=>
   intro v1
   rw [qP,qF2,qc8];unfold Try.f64
   simp (maxSteps:=10000000) -implicitDefEqProofs [quH,qfI,qot,qg1,qtn,qib,qwt,qh2,qtB,qgU,qwa,qqL,qr9,qoF,qrM,qo3,qsN,qti,qwo,qvZ,g65,qab,hret,h0,ih]
theorem qCP (N:Nat) (v0:Val Y36):qc tt Γ64 (T64 N) (Try.f64.body.getD .skip) (qn tt true [i4] [.tmp 2]) (qq [i36] 39 (v0,()))=m64 N v0:=by
 unfold Try.f64
 simp (maxSteps:=10000000) -implicitDefEqProofs [quH,qfI,qot,qg1,qtn,qib,qwt,qh2,qtB,qgU,qwa,qqL,qr9,qoF,qrM,qo3,qsN,qti,qwo,qvZ,g65,qab]
 rewrite [qAm (k0:=(fun (_:Unit)=>bif ((inR (v0.1:Int) (0:Int) (4:Int)):Bool)then (some ((decide (((v0.2:List (Val qf)).length:Int)≤(16:Int))),()))else (some (false,())))) N _ _ ?_ ?_ ?_]
 ·rewrite [m64];first | rfl | simp (maxSteps:=10000000) -implicitDefEqProofs []
 ·rfl
 ·intro;simp only [qN,qO,qQ,qM]
 ·simp (maxSteps:=10000000) -implicitDefEqProofs [quH,qfI,qot,qg1,qtn,qib,qwt,qh2,qtB,qgU,qwa,qqL,qr9,qoF,qrM,qo3,qsN,qti,qwo,qvZ,g65,qab]
noncomputable def qc4 (N:Nat) (v1:List (Val qf)) (v2:Int) (v4:Int) (v5:List (Val qf)) (k0:Unit→Option (qa [i4])):Nat→Int→Option (qa [i4])
 | 0,_=>none
 | n+1,v3=>bif (decide (v3<v2))then (chk (0≤v3∧v3<(v1.length:Int)) (bif (!((q4 (v1.getD v3.toNat (qb qf))):Bool))then (some (false,()))else (bif (!(decide ((((v1.getD v3.toNat (qb qf)).1:List (Val (.int .i64))).length:Int)=v4)))then (some (false,()))else (qc4 N v1 v2 v4 v5 k0 n (IntKind.i64.wrap (v3+(1:Int)))))))else (k0 ())
noncomputable def m68 (N:Nat) (v0:Val Y36):Option (qa [i4]):=bif (decide ((v0.1:Int)<(0:Int)))then (some (false,()))else (bif (decide ((4:Int)<(v0.1:Int)))then (some (false,()))else (bif (decide ((16:Int)<((v0.2:List (Val qf)).length:Int)))then (some (false,()))else (qc4 N (v0.2:List (Val qf)) ((v0.2:List (Val qf)).length:Int) (v0.1:Int) (v0.2:List (Val qf)) (fun (_:Unit)=>some (true,())) N (0:Int))))
def Γ68:Gam:=[(130,qb6)]
theorem qnE:Gam.get Γ68 130=some qb6:=rfl
def qhE:Nm:=⟨[false,true,false,false,false,false,false,false,false,false,false,false,false,false,false,false,false,false,false,false,true,true,true],[],false⟩
theorem qqR:qhE.zero=false:=rfl
theorem qoW:qhE.fix=[]:=rfl
theorem qqJ:qhE.keep=[false,true,false,false,false,false,false,false,false,false,false,false,false,false,false,false,false,false,false,false,true,true,true]:=rfl
def qml:Nm:=⟨[],[],false⟩
theorem qvm:qml.zero=false:=rfl
theorem qwC:qml.fix=[]:=rfl
theorem qsC:qml.keep=[]:=rfl
def qfV:Nat→Tree:=fun _=> .done
def qgj:Nat→Nm:=fun i=>if i=4 then qhE else ⟨[],[],false⟩
def qh6:Nat→Option Jn:=fun _=>none
def qgb:Nat→Option Nm:=fun i=>if i=0 then some qml else none
def qhD:Nat→Option Nm:=fun _=>none
theorem p68:qm qfV (Try.f68.body.getD .skip)=true:=by kernel_rfl
def T68 (N:Nat):Tab:={tr:=qfV,lp:=qgj,ex:=qgb,rg:=qhD,jn:=qh6,fuel:=N}
theorem qr1 (N:Nat):(T68 N).pins=false:=rfl
theorem qCz (N:Nat):qp Try.prog (T68 N):=qv fun _=>rfl
theorem quS (N:Nat) (i:Nat):(T68 N).tr i=qfV i:=rfl
theorem quT (N:Nat) (i:Nat):(T68 N).lp i=qgj i:=rfl
theorem qnD (N:Nat) (i:Nat):(T68 N).ex i=qgb i:=rfl
theorem qsF (N:Nat) (i:Nat):(T68 N).rg i=qhD i:=rfl
theorem qsH (N:Nat) (i:Nat):(T68 N).jn i=qh6 i:=rfl
theorem qwh (N:Nat):(T68 N).fuel=N:=rfl
noncomputable def qy5:Code:=cut [true,true,false,true,true,true] (Try.f68.body.getD .skip)
theorem qGH {N:Nat} {Q:X→St→Option (qa [i4])} {e:List LV} {h:List Blk}:qc tt Γ68 (T68 N) qy5 Q ⟨e,h⟩=qc tt Γ68 (T68 N) (cut [true,true,false,true,true,true] (Try.f68.body.getD .skip)) Q ⟨e,h⟩:=rfl
theorem qHK (N:Nat) (v1:List (Val qf)) (v2:Int) (v4:Int) (v5:List (Val qf)) {k0:Unit→Option (qa [i4])} {Q:X→St→Option (qa [i4])} {c:Code} (hc:c=qy5) (hret: ∀st,Q .ret st=qG tt true [i4] [.tmp 2] st) (h0:Q (.exit 0) ⟨[u,u,u,u,u,u,u,u,u,u,u,u,u,u,u,u,u,u,u,u,u,u,u,u,u,u,u,u,u,u,u,u,u,u,u,u,u,u],[]⟩=k0 ()): ∀(n:Nat) (v3:Int),qE (qc tt Γ68 (T68 N) c) false qhE Q n ⟨[u,.one (.ptr 0 0 0),u,u,u,u,u,u,u,u,u,u,u,u,u,u,u,u,u,u,.one (.sl 106 qf v1 1),.one (.int .i64 v2),.one (.int .i64 v3),u,u,u,u,u,u,u,u,u,u,u,u,u,u,u],[.box [.int .i64 v4,.sl 106 qf v5 1]]⟩=qc4 N v1 v2 v4 v5 k0 n v3:=by
 subst hc;intro n;induction n with
 | zero=>intros;rfl
 | succ n ih=>
   intro v3
   rw [qP,qGH,qc4];unfold Try.f68
   simp (maxSteps:=10000000) -implicitDefEqProofs [quS,qfV,quT,qgj,qnD,qgb,qsF,qhD,qsH,qh6,qwh,qr1,qoW,qqJ,qqR,qwC,qsC,qvm,qnE,qb6,hret,h0,ih]
theorem qIL (N:Nat) (v0:Val Y36):qc tt Γ68 (T68 N) (Try.f68.body.getD .skip) (qn tt true [i4] [.tmp 2]) (qq [i36] 38 (v0,()))=m68 N v0:=by
 unfold Try.f68
 simp (maxSteps:=10000000) -implicitDefEqProofs [quS,qfV,quT,qgj,qnD,qgb,qsF,qhD,qsH,qh6,qwh,qr1,qoW,qqJ,qqR,qwC,qsC,qvm,qnE,qb6]
 rewrite [qHK (k0:=(fun (_:Unit)=>some (true,()))) N _ _ _ _ ?_ ?_ ?_]
 ·rewrite [m68];first | rfl | simp (maxSteps:=10000000) -implicitDefEqProofs []
 ·rfl
 ·intro;simp only [qN,qO,qQ,qM]
 ·simp (maxSteps:=10000000) -implicitDefEqProofs [quS,qfV,quT,qgj,qnD,qgb,qsF,qhD,qsH,qh6,qwh,qr1,qoW,qqJ,qqR,qwC,qsC,qvm,qnE,qb6]
theorem t64 (N:Nat) (d:Int) (xs:List (Val qf)) (K:Unit→Option (qa [i4])) (hl:xs.length≤1048576) (n:Nat) (hn:xs.length<n):qc8 N d xs K n 0=bif xs.all (fun a=>q4 a&&decide ((List.length (α:=Val (.int .i64)) a.1:Int)=d))then K ()else some (false,()):=
 (qac (F:=fun n i (_:Unit)=>qc8 N d xs K n i) (step:=fun _ x _ K=>bif (q4 x&&decide ((List.length (α:=Val (.int .i64)) x.1:Int)=d))then K ()else some (false,())) (k:=K) hl (fun n i s hi=>by
   rw [qc8,qh (by omega),qd (by omega),qd (by omega),qB hi]
   cases q4 xs[i]<;>simp [qF]) (fun n i s hi=>by rw [qc8,qg (by omega)]) n () hn).trans (qbX xs 0)
theorem t68 (N:Nat) (d:Int) (xs ys:List (Val qf)) (K:Unit→Option (qa [i4])) (hl:xs.length≤1048576) (n:Nat) (hn:xs.length<n):qc4 N xs xs.length d ys K n 0=bif xs.all (fun a=>q4 a&&decide ((List.length (α:=Val (.int .i64)) a.1:Int)=d))then K ()else some (false,()):=
 (qac (F:=fun n i (_:Unit)=>qc4 N xs xs.length d ys K n i) (step:=fun _ x _ K=>bif (q4 x&&decide ((List.length (α:=Val (.int .i64)) x.1:Int)=d))then K ()else some (false,())) (k:=K) hl (fun n i s hi=>by
   rw [qc4,qh (by omega),qd (by omega),qB hi]
   cases q4 xs[i]<;>simp [qF]) (fun n i s hi=>by rw [qc4,qg (by omega)]) n () hn).trans (qbX xs 0)
def g64:G:={ps:=[i36],rs:=[i4],dp:=true,pre:=fun x=>qlw x.1,fn:=fun x=>(qbQ x.1,())}
def g68:G:={ps:=[i36],rs:=[i4],dp:=true,pre:=fun _=>True,fn:=fun x=>(qbQ x.1,())}
theorem e64 (c:Val Y36) (h:qlw c): ∃N,m64 N c=some (qbQ c,()):=⟨List.length (α:=Val qf) c.2+1,by
 obtain ⟨d,xs⟩:=c
 change Int at d
 change List (Val qf)at xs
 rw [m64,qbQ]
 dsimp only
 rw [t64 _ _ _ _ h _ (Nat.lt_succ_self _)]
 simp only [inR]
 cases List.all xs _<;>cases decide (0≤d∧d≤4)<;>simp⟩
theorem s64:Sound Try.prog 64 g64:=qu (tt:=tt) (Γ:=Γ64) hT (qk s65 (qk qxT qt)) hm (fn:=Try.f64) Try.func64 (c:=Try.f64.body.getD .skip) (by kernel_rfl) (by kernel_rfl) fun x hx=>by
 obtain ⟨N,h⟩:=e64 x.1 hx
 exact ⟨T64 N,p64,qr _,qCF N,(qCP N x.1).trans h⟩
theorem e68 (c:Val Y36): ∃N,m68 N c=some (qbQ c,()):=⟨List.length (α:=Val qf) c.2+1,by
 obtain ⟨d,xs⟩:=c
 change Int at d
 change List (Val qf)at xs
 rw [m68,qbQ]
 dsimp only
 by_cases h1:d<0
 ·have: ¬(0≤d∧d≤4):=by omega
  simp [h1,this]
 ·by_cases h2:4<d
  ·have: ¬(0≤d∧d≤4):=by omega
   simp [h1,h2,this]
  ·have:0≤d∧d≤4:=by omega
   by_cases h3:(16:Int)<xs.length
   ·have h3': ¬(xs.length:Int)≤16:=by omega
    simp only [h1,h2,h3,h3',decide_true,decide_false,cond_true,cond_false,Bool.and_false,Bool.false_and]
   ·have h3':(xs.length:Int)≤16:=by omega
    rw [t68 _ _ _ _ _ (by omega) _ (Nat.lt_succ_self _)]
    simp only [h1,h2,h3,h3',this,decide_true,decide_false,cond_true,cond_false,Bool.true_and,and_self]
    cases List.all xs _<;>rfl⟩
theorem s68:Sound Try.prog 68 g68:=qu (tt:=tt) (Γ:=Γ68) hT (qk qxd qt) hm (fn:=Try.f68) Try.func68 (c:=Try.f68.body.getD .skip) (by kernel_rfl) (by kernel_rfl) fun x hx=>by
 obtain ⟨N,h⟩:=e68 x.1
 exact ⟨T68 N,p68,qr _,qCz N,(qIL N x.1).trans h⟩
end Go.T
