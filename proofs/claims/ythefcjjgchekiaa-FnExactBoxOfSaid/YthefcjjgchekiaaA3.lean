/- Cells: whether they are valid. -/
import Derived.Test.YthefcjjgchekiaaA2
set_option linter.unusedSimpArgs false
set_option linter.unusedVariables false
namespace Go.T
open Go Go.Proofs
set_option maxHeartbeats 4000000
set_option maxRecDepth 100000
def qac (c:Val Y32):Bool:=decide (0≤(c.1:Int)∧(c.1:Int)≤4)&&decide ((List.length (α:=Val Y36) c.2:Int)≤16)&&List.all (α:=Val Y36) c.2 fun a=>qz a&&decide ((List.length (α:=Val (.int .i64)) a.1:Int)=(c.1:Int))
def qda (c:Val Y32):Prop:=List.length (α:=Val Y36) c.2≤1048576
noncomputable def qeZ (N:Nat) (v2:Int) (v3:List (Val Y36)) (k0:Unit→Option (qb [i4])):Nat→Int→Option (qb [i4])
 | 0,_=>none
 | n+1,v1=>bif (decide (v1<(v3.length:Int)))then (chk (0≤v1∧v1<(v3.length:Int)) (bif (!((qz (v3.getD v1.toNat (qa Y36))):Bool))then (some (false,()))else (chk (0≤v1∧v1<(v3.length:Int)) (bif (!(decide ((((v3.getD v1.toNat (qa Y36)).1:List (Val (.int .i64))).length:Int)=v2)))then (some (false,()))else (qeZ N v2 v3 k0 n (IntKind.i64.wrap (v1+(1:Int))))))))else (k0 ())
noncomputable def m38 (N:Nat) (v0:Val Y32):Option (qb [i4]):=qeZ N (v0.1:Int) (v0.2:List (Val Y36)) (fun (_:Unit)=>bif ((inR (v0.1:Int) (0:Int) (4:Int)):Bool)then (some ((decide (((v0.2:List (Val Y36)).length:Int)≤(16:Int))),()))else (some (false,()))) N (0:Int)
def Γ38:Gam:=[(43,g43),(49,g49)]
theorem qsN:Gam.get Γ38 43=some g43:=rfl
theorem qyL:Gam.get Γ38 49=some g49:=rfl
def qmA:Nm:=⟨[false,true,false,true],[],false⟩
theorem qyA:qmA.zero=false:=rfl
theorem qsl:qmA.fix=[]:=rfl
theorem qB6:qmA.keep=[false,true,false,true]:=rfl
def qnn:Nm:=⟨[false,true],[],false⟩
theorem quu:qnn.zero=false:=rfl
theorem qu1:qnn.fix=[]:=rfl
theorem qvm:qnn.keep=[false,true]:=rfl
def qim:Nat→Tree:=fun i=>if i=4 then .quiet 0 (.quiet 1 (.quiet 2 (.quiet 3 (.quiet 4 (.alt 5 (.quiet 6 (.quiet 7 (.quiet 8 (.quiet 9 (.quiet 10 (.quiet 11 (.quiet 12 (.quiet 13 (.quiet 14 (.quiet 15 (.quiet 16 (.quiet 17 (.quiet 18 .done))))))))))))) .stop)))))else .done
def qjC:Nat→Nm:=fun i=>if i=2 then qmA else ⟨[],[],false⟩
def qls:Nat→Option Jn:=fun _=>none
def qjL:Nat→Option Nm:=fun i=>if i=0 then some qnn else none
def qji:Nat→Option Nm:=fun _=>none
theorem p38:ql qim (Try.f38.body.getD .skip)=true:=by kernel_rfl
def T38 (N:Nat):Tab:={tr:=qim,lp:=qjC,ex:=qjL,rg:=qji,jn:=qls,fuel:=N}
theorem qzq (N:Nat):(T38 N).pins=false:=rfl
theorem qK9 (N:Nat):qm Try.prog (T38 N):=qu fun _=>rfl
theorem qtq (N:Nat) (i:Nat):(T38 N).tr i=qim i:=rfl
theorem qw7 (N:Nat) (i:Nat):(T38 N).lp i=qjC i:=rfl
theorem qAN (N:Nat) (i:Nat):(T38 N).ex i=qjL i:=rfl
theorem qua (N:Nat) (i:Nat):(T38 N).rg i=qji i:=rfl
theorem qBr (N:Nat) (i:Nat):(T38 N).jn i=qls i:=rfl
theorem qvs (N:Nat):(T38 N).fuel=N:=rfl
noncomputable def qDO:Code:=cut [true,false,true,true,true] (Try.f38.body.getD .skip)
theorem qHt {N:Nat} {Q:X→St→Option (qb [i4])} {e:List LV} {h:List Blk}:qd tt Γ38 (T38 N) qDO Q ⟨e,h⟩=qd tt Γ38 (T38 N) (cut [true,false,true,true,true] (Try.f38.body.getD .skip)) Q ⟨e,h⟩:=rfl
theorem qIr (N:Nat) (v2:Int) (v3:List (Val Y36)) {k0:Unit→Option (qb [i4])} {Q:X→St→Option (qb [i4])} {c:Code} (hc:c=qDO) (hret: ∀st,Q .ret st=qI tt true [i4] [.tmp 2] st) (h0:Q (.exit 0) ⟨[u,.one (.ptr 0 0 0),u,u,u,u,u,u,u,u,u,u,u,u,u,u,u,u,u,u,u,u,u,u,u,u,u,u,u,u,u,u,u,u,u,u,u,u,u],[.box [.int .i64 v2,.sl 36 Y36 v3 1]]⟩=k0 ()): ∀(n:Nat) (v1:Int),qD (qd tt Γ38 (T38 N) c) false qmA Q n ⟨[u,.one (.ptr 0 0 0),u,.one (.int .i64 v1),u,u,u,u,u,u,u,u,u,u,u,u,u,u,u,u,u,u,u,u,u,u,u,u,u,u,u,u,u,u,u,u,u,u,u],[.box [.int .i64 v2,.sl 36 Y36 v3 1]]⟩=qeZ N v2 v3 k0 n v1:=by
 subst hc;intro n;induction n with
 | zero=>intros;rfl
 | succ n ih=>
   intro v1
   rw [qR,qHt,qeZ];unfold Try.f38
   simp (maxSteps:=10000000) -implicitDefEqProofs [qtq,qim,qw7,qjC,qAN,qjL,qua,qji,qBr,qls,qvs,qzq,qsl,qB6,qyA,qu1,qvm,quu,qsN,qyL,g43,g49,hret,h0,ih]
theorem qIk (N:Nat) (v0:Val Y32):qd tt Γ38 (T38 N) (Try.f38.body.getD .skip) (qp tt true [i4] [.tmp 2]) (qt [i32] 39 (v0,()))=m38 N v0:=by
 unfold Try.f38
 simp (maxSteps:=10000000) -implicitDefEqProofs [qtq,qim,qw7,qjC,qAN,qjL,qua,qji,qBr,qls,qvs,qzq,qsl,qB6,qyA,qu1,qvm,quu,qsN,qyL,g43,g49]
 rewrite [qIr (k0:=(fun (_:Unit)=>bif ((inR (v0.1:Int) (0:Int) (4:Int)):Bool)then (some ((decide (((v0.2:List (Val Y36)).length:Int)≤(16:Int))),()))else (some (false,())))) N _ _ ?_ ?_ ?_]
 ·rewrite [m38];first | rfl | simp (maxSteps:=10000000) -implicitDefEqProofs []
 ·rfl
 ·intro;simp only [qK,qM,qO,qv]
 ·simp (maxSteps:=10000000) -implicitDefEqProofs [qtq,qim,qw7,qjC,qAN,qjL,qua,qji,qBr,qls,qvs,qzq,qsl,qB6,qyA,qu1,qvm,quu,qsN,qyL,g43,g49]
noncomputable def qeY (N:Nat) (v1:List (Val Y36)) (v2:Int) (v4:Int) (v5:List (Val Y36)) (k0:Unit→Option (qb [i4])):Nat→Int→Option (qb [i4])
 | 0,_=>none
 | n+1,v3=>bif (decide (v3<v2))then (chk (0≤v3∧v3<(v1.length:Int)) (bif (!((qz (v1.getD v3.toNat (qa Y36))):Bool))then (some (false,()))else (bif (!(decide ((((v1.getD v3.toNat (qa Y36)).1:List (Val (.int .i64))).length:Int)=v4)))then (some (false,()))else (qeY N v1 v2 v4 v5 k0 n (IntKind.i64.wrap (v3+(1:Int)))))))else (k0 ())
noncomputable def m40 (N:Nat) (v0:Val Y32):Option (qb [i4]):=bif (decide ((v0.1:Int)<(0:Int)))then (some (false,()))else (bif (decide ((4:Int)<(v0.1:Int)))then (some (false,()))else (bif (decide ((16:Int)<((v0.2:List (Val Y36)).length:Int)))then (some (false,()))else (qeY N (v0.2:List (Val Y36)) ((v0.2:List (Val Y36)).length:Int) (v0.1:Int) (v0.2:List (Val Y36)) (fun (_:Unit)=>some (true,())) N (0:Int))))
def Γ40:Gam:=[(45,g45)]
theorem qvn:Gam.get Γ40 45=some g45:=rfl
def qkK:Nm:=⟨[false,true,false,false,false,false,false,false,false,false,false,false,false,false,false,false,false,false,false,false,true,true,true],[],false⟩
theorem qvM:qkK.zero=false:=rfl
theorem qtd:qkK.fix=[]:=rfl
theorem qrv:qkK.keep=[false,true,false,false,false,false,false,false,false,false,false,false,false,false,false,false,false,false,false,false,true,true,true]:=rfl
def qmX:Nm:=⟨[],[],false⟩
theorem qrx:qmX.zero=false:=rfl
theorem qrW:qmX.fix=[]:=rfl
theorem qtF:qmX.keep=[]:=rfl
def qio:Nat→Tree:=fun _=> .done
def qj8:Nat→Nm:=fun i=>if i=4 then qkK else ⟨[],[],false⟩
def qiM:Nat→Option Jn:=fun _=>none
def qmn:Nat→Option Nm:=fun i=>if i=0 then some qmX else none
def qlr:Nat→Option Nm:=fun _=>none
theorem p40:ql qio (Try.f40.body.getD .skip)=true:=by kernel_rfl
def T40 (N:Nat):Tab:={tr:=qio,lp:=qj8,ex:=qmn,rg:=qlr,jn:=qiM,fuel:=N}
theorem qwh (N:Nat):(T40 N).pins=false:=rfl
theorem qNU (N:Nat):qm Try.prog (T40 N):=qu fun _=>rfl
theorem qqG (N:Nat) (i:Nat):(T40 N).tr i=qio i:=rfl
theorem qBs (N:Nat) (i:Nat):(T40 N).lp i=qj8 i:=rfl
theorem qsA (N:Nat) (i:Nat):(T40 N).ex i=qmn i:=rfl
theorem qz3 (N:Nat) (i:Nat):(T40 N).rg i=qlr i:=rfl
theorem qwa (N:Nat) (i:Nat):(T40 N).jn i=qiM i:=rfl
theorem qsX (N:Nat):(T40 N).fuel=N:=rfl
noncomputable def qCj:Code:=cut [true,true,false,true,true,true] (Try.f40.body.getD .skip)
theorem qHJ {N:Nat} {Q:X→St→Option (qb [i4])} {e:List LV} {h:List Blk}:qd tt Γ40 (T40 N) qCj Q ⟨e,h⟩=qd tt Γ40 (T40 N) (cut [true,true,false,true,true,true] (Try.f40.body.getD .skip)) Q ⟨e,h⟩:=rfl
theorem qIM (N:Nat) (v1:List (Val Y36)) (v2:Int) (v4:Int) (v5:List (Val Y36)) {k0:Unit→Option (qb [i4])} {Q:X→St→Option (qb [i4])} {c:Code} (hc:c=qCj) (hret: ∀st,Q .ret st=qI tt true [i4] [.tmp 2] st) (h0:Q (.exit 0) ⟨[u,u,u,u,u,u,u,u,u,u,u,u,u,u,u,u,u,u,u,u,u,u,u,u,u,u,u,u,u,u,u,u,u,u,u,u,u,u],[]⟩=k0 ()): ∀(n:Nat) (v3:Int),qD (qd tt Γ40 (T40 N) c) false qkK Q n ⟨[u,.one (.ptr 0 0 0),u,u,u,u,u,u,u,u,u,u,u,u,u,u,u,u,u,u,.one (.sl 36 Y36 v1 1),.one (.int .i64 v2),.one (.int .i64 v3),u,u,u,u,u,u,u,u,u,u,u,u,u,u,u],[.box [.int .i64 v4,.sl 36 Y36 v5 1]]⟩=qeY N v1 v2 v4 v5 k0 n v3:=by
 subst hc;intro n;induction n with
 | zero=>intros;rfl
 | succ n ih=>
   intro v3
   rw [qR,qHJ,qeY];unfold Try.f40
   simp (maxSteps:=10000000) -implicitDefEqProofs [qqG,qio,qBs,qj8,qsA,qmn,qz3,qlr,qwa,qiM,qsX,qwh,qtd,qrv,qvM,qrW,qtF,qrx,qvn,g45,hret,h0,ih]
theorem qOW (N:Nat) (v0:Val Y32):qd tt Γ40 (T40 N) (Try.f40.body.getD .skip) (qp tt true [i4] [.tmp 2]) (qt [i32] 38 (v0,()))=m40 N v0:=by
 unfold Try.f40
 simp (maxSteps:=10000000) -implicitDefEqProofs [qqG,qio,qBs,qj8,qsA,qmn,qz3,qlr,qwa,qiM,qsX,qwh,qtd,qrv,qvM,qrW,qtF,qrx,qvn,g45]
 rewrite [qIM (k0:=(fun (_:Unit)=>some (true,()))) N _ _ _ _ ?_ ?_ ?_]
 ·rewrite [m40];first | rfl | simp (maxSteps:=10000000) -implicitDefEqProofs []
 ·rfl
 ·intro;simp only [qK,qM,qO,qv]
 ·simp (maxSteps:=10000000) -implicitDefEqProofs [qqG,qio,qBs,qj8,qsA,qmn,qz3,qlr,qwa,qiM,qsX,qwh,qtd,qrv,qvM,qrW,qtF,qrx,qvn,g45]
theorem t38 (N:Nat) (d:Int) (xs:List (Val Y36)) (K:Unit→Option (qb [i4])) (hl:xs.length≤1048576) (n:Nat) (hn:xs.length<n):qeZ N d xs K n 0=bif xs.all (fun a=>qz a&&decide ((List.length (α:=Val (.int .i64)) a.1:Int)=d))then K ()else some (false,()):=
 (qb6 (F:=fun n i (_:Unit)=>qeZ N d xs K n i) (step:=fun _ x _ K=>bif (qz x&&decide ((List.length (α:=Val (.int .i64)) x.1:Int)=d))then K ()else some (false,())) (k:=K) hl (fun n i s hi=>by
   rw [qeZ,qh (by omega),qc (by omega),qc (by omega),qL hi]
   cases qz xs[i]<;>simp [qar]) (fun n i s hi=>by rw [qeZ,qi (by omega)]) n () hn).trans (qga xs 0)
theorem t40 (N:Nat) (d:Int) (xs ys:List (Val Y36)) (K:Unit→Option (qb [i4])) (hl:xs.length≤1048576) (n:Nat) (hn:xs.length<n):qeY N xs xs.length d ys K n 0=bif xs.all (fun a=>qz a&&decide ((List.length (α:=Val (.int .i64)) a.1:Int)=d))then K ()else some (false,()):=
 (qb6 (F:=fun n i (_:Unit)=>qeY N xs xs.length d ys K n i) (step:=fun _ x _ K=>bif (qz x&&decide ((List.length (α:=Val (.int .i64)) x.1:Int)=d))then K ()else some (false,())) (k:=K) hl (fun n i s hi=>by
   rw [qeY,qh (by omega),qc (by omega),qL hi]
   cases qz xs[i]<;>simp [qar]) (fun n i s hi=>by rw [qeY,qi (by omega)]) n () hn).trans (qga xs 0)
def g38:G:={ps:=[i32],rs:=[i4],dp:=true,pre:=fun x=>qda x.1,fn:=fun x=>(qac x.1,())}
def g40:G:={ps:=[i32],rs:=[i4],dp:=true,pre:=fun _=>True,fn:=fun x=>(qac x.1,())}
theorem e38 (c:Val Y32) (h:qda c): ∃N,m38 N c=some (qac c,()):=⟨List.length (α:=Val Y36) c.2+1,by
 obtain ⟨d,xs⟩:=c
 change Int at d
 change List (Val Y36)at xs
 rw [m38,qac]
 dsimp only
 rw [t38 _ _ _ _ h _ (Nat.lt_succ_self _)]
 simp only [inR]
 cases List.all xs _<;>cases decide (0≤d∧d≤4)<;>simp⟩
theorem s38:Sound Try.prog 38 g38:=qw (tt:=tt) (Γ:=Γ38) hT (qf s43 (qf s49 qq)) hm (fn:=Try.f38) Try.func38 (c:=Try.f38.body.getD .skip) (by kernel_rfl) (by kernel_rfl) fun x hx=>by
 obtain ⟨N,h⟩:=e38 x.1 hx
 exact ⟨T38 N,p38,qx _,qK9 N,(qIk N x.1).trans h⟩
theorem e40 (c:Val Y32): ∃N,m40 N c=some (qac c,()):=⟨List.length (α:=Val Y36) c.2+1,by
 obtain ⟨d,xs⟩:=c
 change Int at d
 change List (Val Y36)at xs
 rw [m40,qac]
 dsimp only
 by_cases h1:d<0
 ·have: ¬(0≤d∧d≤4):=by omega
  simp [h1,this]
 ·by_cases h2:4<d
  ·have: ¬(0≤d∧d≤4):=by omega
   simp [h1,h2,this]
  ·have:0≤d∧d≤4:=by omega
   by_cases h3:(16:Int)<xs.length
   ·have h3': ¬(xs.length:Int)≤16:=by omega
    simp only [h1,h2,h3,h3',decide_true,decide_false,cond_true,cond_false,Bool.and_false,Bool.false_and]
   ·have h3':(xs.length:Int)≤16:=by omega
    rw [t40 _ _ _ _ _ (by omega) _ (Nat.lt_succ_self _)]
    simp only [h1,h2,h3,h3',this,decide_true,decide_false,cond_true,cond_false,Bool.true_and,and_self]
    cases List.all xs _<;>rfl⟩
theorem s40:Sound Try.prog 40 g40:=qw (tt:=tt) (Γ:=Γ40) hT (qf s45 qq) hm (fn:=Try.f40) Try.func40 (c:=Try.f40.body.getD .skip) (by kernel_rfl) (by kernel_rfl) fun x hx=>by
 obtain ⟨N,h⟩:=e40 x.1
 exact ⟨T40 N,p40,qx _,qNU N,(qOW N x.1).trans h⟩
end Go.T
