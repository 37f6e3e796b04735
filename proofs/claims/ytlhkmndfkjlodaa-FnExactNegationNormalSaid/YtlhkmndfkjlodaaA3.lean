/- Cells: whether they are valid. -/
import Derived.Test.YtlhkmndfkjlodaaA2
set_option linter.unusedSimpArgs false
set_option linter.unusedVariables false
namespace Go.T
open Go Go.Proofs
set_option maxHeartbeats 4000000
set_option maxRecDepth 100000
def qeg (c:Val Y26):Bool:=decide (0≤(c.1:Int)∧(c.1:Int)≤4)&&decide ((List.length (α:=Val Y83) c.2:Int)≤16)&&List.all (α:=Val Y83) c.2 fun a=>qai a&&decide ((List.length (α:=Val (.int .i64)) a.1:Int)=(c.1:Int))
def qrI (c:Val Y26):Prop:=List.length (α:=Val Y83) c.2≤1048576
noncomputable def qgp (N:Nat) (v2:Int) (v3:List (Val Y83)) (k0:Unit→Option (qc [i4])):Nat→Int→Option (qc [i4])
 | 0,_=>none
 | n+1,v1=>bif (decide (v1<(v3.length:Int)))then (chk (0≤v1∧v1<(v3.length:Int)) (bif (!((qai (v3.getD v1.toNat (qb Y83))):Bool))then (some (false,()))else (chk (0≤v1∧v1<(v3.length:Int)) (bif (!(decide ((((v3.getD v1.toNat (qb Y83)).1:List (Val (.int .i64))).length:Int)=v2)))then (some (false,()))else (qgp N v2 v3 k0 n (IntKind.i64.wrap (v1+(1:Int))))))))else (k0 ())
noncomputable def m46 (N:Nat) (v0:Val Y26):Option (qc [i4]):=qgp N (v0.1:Int) (v0.2:List (Val Y83)) (fun (_:Unit)=>bif ((inR (v0.1:Int) (0:Int) (4:Int)):Bool)then (some ((decide (((v0.2:List (Val Y83)).length:Int)≤(16:Int))),()))else (some (false,()))) N (0:Int)
def Γ46:Gam:=[(47,g47),(96,g96)]
theorem qAV:Gam.get Γ46 47=some g47:=rfl
theorem qyW:Gam.get Γ46 96=some g96:=rfl
def qnN:Nm:=⟨[false,true,false,true],[],false⟩
theorem qB8:qnN.zero=false:=rfl
theorem qxq:qnN.fix=[]:=rfl
theorem qGy:qnN.keep=[false,true,false,true]:=rfl
def qqA:Nm:=⟨[false,true],[],false⟩
theorem qBA:qqA.zero=false:=rfl
theorem qDD:qqA.fix=[]:=rfl
theorem qBF:qqA.keep=[false,true]:=rfl
def qjx:Nat→Tree:=fun i=>if i=4 then .quiet 0 (.quiet 1 (.quiet 2 (.quiet 3 (.quiet 4 (.alt 5 (.quiet 6 (.quiet 7 (.quiet 8 (.quiet 9 (.quiet 10 (.quiet 11 (.quiet 12 (.quiet 13 (.quiet 14 (.quiet 15 (.quiet 16 (.quiet 17 (.quiet 18 .done))))))))))))) .stop)))))else .done
def qlm:Nat→Nm:=fun i=>if i=2 then qnN else ⟨[],[],false⟩
def qmF:Nat→Option Jn:=fun _=>none
def qoz:Nat→Option Nm:=fun i=>if i=0 then some qqA else none
def qmr:Nat→Option Nm:=fun _=>none
theorem p46:qm qjx (Try.f46.body.getD .skip)=true:=by kernel_rfl
def T46 (N:Nat):Tab:={tr:=qjx,lp:=qlm,ex:=qoz,rg:=qmr,jn:=qmF,fuel:=N}
theorem qAX (N:Nat):(T46 N).pins=false:=rfl
theorem qYl (N:Nat):qn Try.prog (T46 N):=qt fun _=>rfl
theorem qBS (N:Nat) (i:Nat):(T46 N).tr i=qjx i:=rfl
theorem qBn (N:Nat) (i:Nat):(T46 N).lp i=qlm i:=rfl
theorem qxt (N:Nat) (i:Nat):(T46 N).ex i=qoz i:=rfl
theorem qvT (N:Nat) (i:Nat):(T46 N).rg i=qmr i:=rfl
theorem qtU (N:Nat) (i:Nat):(T46 N).jn i=qmF i:=rfl
theorem qvR (N:Nat):(T46 N).fuel=N:=rfl
noncomputable def qIa:Code:=cut [true,false,true,true,true] (Try.f46.body.getD .skip)
theorem qNZ {N:Nat} {Q:X→St→Option (qc [i4])} {e:List LV} {h:List Blk}:qf tt Γ46 (T46 N) qIa Q ⟨e,h⟩=qf tt Γ46 (T46 N) (cut [true,false,true,true,true] (Try.f46.body.getD .skip)) Q ⟨e,h⟩:=rfl
theorem qVX (N:Nat) (v2:Int) (v3:List (Val Y83)) {k0:Unit→Option (qc [i4])} {Q:X→St→Option (qc [i4])} {c:Code} (hc:c=qIa) (hret: ∀st,Q .ret st=qN tt true [i4] [.tmp 2] st) (h0:Q (.exit 0) ⟨[u,.one (.ptr 0 0 0),u,u,u,u,u,u,u,u,u,u,u,u,u,u,u,u,u,u,u,u,u,u,u,u,u,u,u,u,u,u,u,u,u,u,u,u,u],[.box [.int .i64 v2,.sl 83 Y83 v3 1]]⟩=k0 ()): ∀(n:Nat) (v1:Int),qI (qf tt Γ46 (T46 N) c) false qnN Q n ⟨[u,.one (.ptr 0 0 0),u,.one (.int .i64 v1),u,u,u,u,u,u,u,u,u,u,u,u,u,u,u,u,u,u,u,u,u,u,u,u,u,u,u,u,u,u,u,u,u,u,u],[.box [.int .i64 v2,.sl 83 Y83 v3 1]]⟩=qgp N v2 v3 k0 n v1:=by
 subst hc;intro n;induction n with
 | zero=>intros;rfl
 | succ n ih=>
   intro v1
   rw [qS,qNZ,qgp];unfold Try.f46
   simp (maxSteps:=10000000) -implicitDefEqProofs [qBS,qjx,qBn,qlm,qxt,qoz,qvT,qmr,qtU,qmF,qvR,qAX,qxq,qGy,qB8,qDD,qBF,qBA,qAV,qyW,g47,g96,hret,h0,ih]
theorem qPb (N:Nat) (v0:Val Y26):qf tt Γ46 (T46 N) (Try.f46.body.getD .skip) (qo tt true [i4] [.tmp 2]) (qv [i26] 39 (v0,()))=m46 N v0:=by
 unfold Try.f46
 simp (maxSteps:=10000000) -implicitDefEqProofs [qBS,qjx,qBn,qlm,qxt,qoz,qvT,qmr,qtU,qmF,qvR,qAX,qxq,qGy,qB8,qDD,qBF,qBA,qAV,qyW,g47,g96]
 rewrite [qVX (k0:=(fun (_:Unit)=>bif ((inR (v0.1:Int) (0:Int) (4:Int)):Bool)then (some ((decide (((v0.2:List (Val Y83)).length:Int)≤(16:Int))),()))else (some (false,())))) N _ _ ?_ ?_ ?_]
 ·rewrite [m46];first | rfl | simp (maxSteps:=10000000) -implicitDefEqProofs []
 ·rfl
 ·intro;simp only [qQ,qR,qT,qr]
 ·simp (maxSteps:=10000000) -implicitDefEqProofs [qBS,qjx,qBn,qlm,qxt,qoz,qvT,qmr,qtU,qmF,qvR,qAX,qxq,qGy,qB8,qDD,qBF,qBA,qAV,qyW,g47,g96]
noncomputable def qgu (N:Nat) (v1:List (Val Y83)) (v2:Int) (v4:Int) (v5:List (Val Y83)) (k0:Unit→Option (qc [i4])):Nat→Int→Option (qc [i4])
 | 0,_=>none
 | n+1,v3=>bif (decide (v3<v2))then (chk (0≤v3∧v3<(v1.length:Int)) (bif (!((qai (v1.getD v3.toNat (qb Y83))):Bool))then (some (false,()))else (bif (!(decide ((((v1.getD v3.toNat (qb Y83)).1:List (Val (.int .i64))).length:Int)=v4)))then (some (false,()))else (qgu N v1 v2 v4 v5 k0 n (IntKind.i64.wrap (v3+(1:Int)))))))else (k0 ())
noncomputable def m43 (N:Nat) (v0:Val Y26):Option (qc [i4]):=bif (decide ((v0.1:Int)<(0:Int)))then (some (false,()))else (bif (decide ((4:Int)<(v0.1:Int)))then (some (false,()))else (bif (decide ((16:Int)<((v0.2:List (Val Y83)).length:Int)))then (some (false,()))else (qgu N (v0.2:List (Val Y83)) ((v0.2:List (Val Y83)).length:Int) (v0.1:Int) (v0.2:List (Val Y83)) (fun (_:Unit)=>some (true,())) N (0:Int))))
def Γ43:Gam:=[(93,g93)]
theorem qvJ:Gam.get Γ43 93=some g93:=rfl
def qkB:Nm:=⟨[false,true,false,false,false,false,false,false,false,false,false,false,false,false,false,false,false,false,false,false,true,true,true],[],false⟩
theorem qvS:qkB.zero=false:=rfl
theorem qxP:qkB.fix=[]:=rfl
theorem qGU:qkB.keep=[false,true,false,false,false,false,false,false,false,false,false,false,false,false,false,false,false,false,false,false,true,true,true]:=rfl
def qrH:Nm:=⟨[],[],false⟩
theorem qAI:qrH.zero=false:=rfl
theorem qvb:qrH.fix=[]:=rfl
theorem qwS:qrH.keep=[]:=rfl
def qjl:Nat→Tree:=fun _=> .done
def qkx:Nat→Nm:=fun i=>if i=4 then qkB else ⟨[],[],false⟩
def qke:Nat→Option Jn:=fun _=>none
def qnv:Nat→Option Nm:=fun i=>if i=0 then some qrH else none
def qnm:Nat→Option Nm:=fun _=>none
theorem p43:qm qjl (Try.f43.body.getD .skip)=true:=by kernel_rfl
def T43 (N:Nat):Tab:={tr:=qjl,lp:=qkx,ex:=qnv,rg:=qnm,jn:=qke,fuel:=N}
theorem qG3 (N:Nat):(T43 N).pins=false:=rfl
theorem qRZ (N:Nat):qn Try.prog (T43 N):=qt fun _=>rfl
theorem qv1 (N:Nat) (i:Nat):(T43 N).tr i=qjl i:=rfl
theorem qzR (N:Nat) (i:Nat):(T43 N).lp i=qkx i:=rfl
theorem qtc (N:Nat) (i:Nat):(T43 N).ex i=qnv i:=rfl
theorem qvf (N:Nat) (i:Nat):(T43 N).rg i=qnm i:=rfl
theorem qFw (N:Nat) (i:Nat):(T43 N).jn i=qke i:=rfl
theorem qER (N:Nat):(T43 N).fuel=N:=rfl
noncomputable def qJe:Code:=cut [true,true,false,true,true,true] (Try.f43.body.getD .skip)
theorem qOZ {N:Nat} {Q:X→St→Option (qc [i4])} {e:List LV} {h:List Blk}:qf tt Γ43 (T43 N) qJe Q ⟨e,h⟩=qf tt Γ43 (T43 N) (cut [true,true,false,true,true,true] (Try.f43.body.getD .skip)) Q ⟨e,h⟩:=rfl
theorem qPN (N:Nat) (v1:List (Val Y83)) (v2:Int) (v4:Int) (v5:List (Val Y83)) {k0:Unit→Option (qc [i4])} {Q:X→St→Option (qc [i4])} {c:Code} (hc:c=qJe) (hret: ∀st,Q .ret st=qN tt true [i4] [.tmp 2] st) (h0:Q (.exit 0) ⟨[u,u,u,u,u,u,u,u,u,u,u,u,u,u,u,u,u,u,u,u,u,u,u,u,u,u,u,u,u,u,u,u,u,u,u,u,u,u],[]⟩=k0 ()): ∀(n:Nat) (v3:Int),qI (qf tt Γ43 (T43 N) c) false qkB Q n ⟨[u,.one (.ptr 0 0 0),u,u,u,u,u,u,u,u,u,u,u,u,u,u,u,u,u,u,.one (.sl 83 Y83 v1 1),.one (.int .i64 v2),.one (.int .i64 v3),u,u,u,u,u,u,u,u,u,u,u,u,u,u,u],[.box [.int .i64 v4,.sl 83 Y83 v5 1]]⟩=qgu N v1 v2 v4 v5 k0 n v3:=by
 subst hc;intro n;induction n with
 | zero=>intros;rfl
 | succ n ih=>
   intro v3
   rw [qS,qOZ,qgu];unfold Try.f43
   simp (maxSteps:=10000000) -implicitDefEqProofs [qv1,qjl,qzR,qkx,qtc,qnv,qvf,qnm,qFw,qke,qER,qG3,qxP,qGU,qvS,qvb,qwS,qAI,qvJ,g93,hret,h0,ih]
theorem qYF (N:Nat) (v0:Val Y26):qf tt Γ43 (T43 N) (Try.f43.body.getD .skip) (qo tt true [i4] [.tmp 2]) (qv [i26] 38 (v0,()))=m43 N v0:=by
 unfold Try.f43
 simp (maxSteps:=10000000) -implicitDefEqProofs [qv1,qjl,qzR,qkx,qtc,qnv,qvf,qnm,qFw,qke,qER,qG3,qxP,qGU,qvS,qvb,qwS,qAI,qvJ,g93]
 rewrite [qPN (k0:=(fun (_:Unit)=>some (true,()))) N _ _ _ _ ?_ ?_ ?_]
 ·rewrite [m43];first | rfl | simp (maxSteps:=10000000) -implicitDefEqProofs []
 ·rfl
 ·intro;simp only [qQ,qR,qT,qr]
 ·simp (maxSteps:=10000000) -implicitDefEqProofs [qv1,qjl,qzR,qkx,qtc,qnv,qvf,qnm,qFw,qke,qER,qG3,qxP,qGU,qvS,qvb,qwS,qAI,qvJ,g93]
theorem t46 (N:Nat) (d:Int) (xs:List (Val Y83)) (K:Unit→Option (qc [i4])) (hl:xs.length≤1048576) (n:Nat) (hn:xs.length<n):qgp N d xs K n 0=bif xs.all (fun a=>qai a&&decide ((List.length (α:=Val (.int .i64)) a.1:Int)=d))then K ()else some (false,()):=
 (qbA (F:=fun n i (_:Unit)=>qgp N d xs K n i) (step:=fun _ x _ K=>bif (qai x&&decide ((List.length (α:=Val (.int .i64)) x.1:Int)=d))then K ()else some (false,())) (k:=K) hl (fun n i s hi=>by
   rw [qgp,qj (by omega),qd (by omega),qd (by omega),qE hi]
   cases qai xs[i]<;>simp [qL]) (fun n i s hi=>by rw [qgp,qh (by omega)]) n () hn).trans (qes xs 0)
theorem t43 (N:Nat) (d:Int) (xs ys:List (Val Y83)) (K:Unit→Option (qc [i4])) (hl:xs.length≤1048576) (n:Nat) (hn:xs.length<n):qgu N xs xs.length d ys K n 0=bif xs.all (fun a=>qai a&&decide ((List.length (α:=Val (.int .i64)) a.1:Int)=d))then K ()else some (false,()):=
 (qbA (F:=fun n i (_:Unit)=>qgu N xs xs.length d ys K n i) (step:=fun _ x _ K=>bif (qai x&&decide ((List.length (α:=Val (.int .i64)) x.1:Int)=d))then K ()else some (false,())) (k:=K) hl (fun n i s hi=>by
   rw [qgu,qj (by omega),qd (by omega),qE hi]
   cases qai xs[i]<;>simp [qL]) (fun n i s hi=>by rw [qgu,qh (by omega)]) n () hn).trans (qes xs 0)
def g46:G:={ps:=[i26],rs:=[i4],dp:=true,pre:=fun x=>qrI x.1,fn:=fun x=>(qeg x.1,())}
def g43:G:={ps:=[i26],rs:=[i4],dp:=true,pre:=fun _=>True,fn:=fun x=>(qeg x.1,())}
theorem e46 (c:Val Y26) (h:qrI c): ∃N,m46 N c=some (qeg c,()):=⟨List.length (α:=Val Y83) c.2+1,by
 obtain ⟨d,xs⟩:=c
 change Int at d
 change List (Val Y83)at xs
 rw [m46,qeg]
 dsimp only
 rw [t46 _ _ _ _ h _ (Nat.lt_succ_self _)]
 simp only [inR]
 cases List.all xs _<;>cases decide (0≤d∧d≤4)<;>simp⟩
theorem s46:Sound Try.prog 46 g46:=qz (tt:=tt) (Γ:=Γ46) hT (ql s47 (ql s96 qp)) hm (fn:=Try.f46) Try.func46 (c:=Try.f46.body.getD .skip) (by kernel_rfl) (by kernel_rfl) fun x hx=>by
 obtain ⟨N,h⟩:=e46 x.1 hx
 exact ⟨T46 N,p46,qx _,qYl N,(qPb N x.1).trans h⟩
theorem e43 (c:Val Y26): ∃N,m43 N c=some (qeg c,()):=⟨List.length (α:=Val Y83) c.2+1,by
 obtain ⟨d,xs⟩:=c
 change Int at d
 change List (Val Y83)at xs
 rw [m43,qeg]
 dsimp only
 by_cases h1:d<0
 ·have: ¬(0≤d∧d≤4):=by omega
  simp [h1,this]
 ·by_cases h2:4<d
  ·have: ¬(0≤d∧d≤4):=by omega
   simp [h1,h2,this]
  ·have:0≤d∧d≤4:=by omega
   by_cases h3:(16:Int)<xs.length
   ·have h3': ¬(xs.length:Int)≤16:=by omega
    simp only [h1,h2,h3,h3',decide_true,decide_false,cond_true,cond_false,Bool.and_false,Bool.false_and]
   ·have h3':(xs.length:Int)≤16:=by omega
    rw [t43 _ _ _ _ _ (by omega) _ (Nat.lt_succ_self _)]
    simp only [h1,h2,h3,h3',this,decide_true,decide_false,cond_true,cond_false,Bool.true_and,and_self]
    cases List.all xs _<;>rfl⟩
theorem s43:Sound Try.prog 43 g43:=qz (tt:=tt) (Γ:=Γ43) hT (ql s93 qp) hm (fn:=Try.f43) Try.func43 (c:=Try.f43.body.getD .skip) (by kernel_rfl) (by kernel_rfl) fun x hx=>by
 obtain ⟨N,h⟩:=e43 x.1
 exact ⟨T43 N,p43,qx _,qRZ N,(qYF N x.1).trans h⟩
end Go.T
