/- Cells: whether they are valid. -/
import Derived.Test.YtlhkmndfkjlodaaA2
set_option linter.unusedSimpArgs false
set_option linter.unusedVariables false
namespace Go.T
open Go Go.Proofs
set_option maxHeartbeats 4000000
set_option maxRecDepth 100000
def qeL (c:Val Y26):Bool:=decide (0≤(c.1:Int)∧(c.1:Int)≤4)&&decide ((List.length (α:=Val Y83) c.2:Int)≤16)&&List.all (α:=Val Y83) c.2 fun a=>qaF a&&decide ((List.length (α:=Val (.int .i64)) a.1:Int)=(c.1:Int))
def qr5 (c:Val Y26):Prop:=List.length (α:=Val Y83) c.2≤1048576
noncomputable def qgY (N:Nat) (v2:Int) (v3:List (Val Y83)) (k0:Unit→Option (qc [i4])):Nat→Int→Option (qc [i4])
 | 0,_=>none
 | n+1,v1=>bif (decide (v1<(v3.length:Int)))then (chk (0≤v1∧v1<(v3.length:Int)) (bif (!((qaF (v3.getD v1.toNat (qa Y83))):Bool))then (some (false,()))else (chk (0≤v1∧v1<(v3.length:Int)) (bif (!(decide ((((v3.getD v1.toNat (qa Y83)).1:List (Val (.int .i64))).length:Int)=v2)))then (some (false,()))else (qgY N v2 v3 k0 n (IntKind.i64.wrap (v1+(1:Int))))))))else (k0 ())
noncomputable def m46 (N:Nat) (v0:Val Y26):Option (qc [i4]):=qgY N (v0.1:Int) (v0.2:List (Val Y83)) (fun (_:Unit)=>bif ((inR (v0.1:Int) (0:Int) (4:Int)):Bool)then (some ((decide (((v0.2:List (Val Y83)).length:Int)≤(16:Int))),()))else (some (false,()))) N (0:Int)
def Γ46:Gam:=[(47,g47),(96,g96)]
theorem qAj:Gam.get Γ46 47=some g47:=rfl
theorem qyB:Gam.get Γ46 96=some g96:=rfl
def qom:Nm:=⟨[false,true,false,true],[],false⟩
theorem qBm:qom.zero=false:=rfl
theorem qxd:qom.fix=[]:=rfl
theorem qFf:qom.keep=[false,true,false,true]:=rfl
def qq3:Nm:=⟨[false,true],[],false⟩
theorem qAS:qq3.zero=false:=rfl
theorem qCD:qq3.fix=[]:=rfl
theorem qAY:qq3.keep=[false,true]:=rfl
def qkc:Nat→Tree:=fun i=>if i=4 then .quiet 0 (.quiet 1 (.quiet 2 (.quiet 3 (.quiet 4 (.alt 5 (.quiet 6 (.quiet 7 (.quiet 8 (.quiet 9 (.quiet 10 (.quiet 11 (.quiet 12 (.quiet 13 (.quiet 14 (.quiet 15 (.quiet 16 (.quiet 17 (.quiet 18 .done))))))))))))) .stop)))))else .done
def qlY:Nat→Nm:=fun i=>if i=2 then qom else ⟨[],[],false⟩
def qng:Nat→Option Jn:=fun _=>none
def qo5:Nat→Option Nm:=fun i=>if i=0 then some qq3 else none
def qm1:Nat→Option Nm:=fun _=>none
theorem p46:qn qkc (Try.f46.body.getD .skip)=true:=by kernel_rfl
def T46 (N:Nat):Tab:={tr:=qkc,lp:=qlY,ex:=qo5,rg:=qm1,jn:=qng,fuel:=N}
theorem qAl (N:Nat):(T46 N).pins=false:=rfl
theorem qU3 (N:Nat):qp Try.prog (T46 N):=qw fun _=>rfl
theorem qA8 (N:Nat) (i:Nat):(T46 N).tr i=qkc i:=rfl
theorem qAL (N:Nat) (i:Nat):(T46 N).lp i=qlY i:=rfl
theorem qxg (N:Nat) (i:Nat):(T46 N).ex i=qo5 i:=rfl
theorem qvR (N:Nat) (i:Nat):(T46 N).rg i=qm1 i:=rfl
theorem qt6 (N:Nat) (i:Nat):(T46 N).jn i=qng i:=rfl
theorem qvP (N:Nat):(T46 N).fuel=N:=rfl
noncomputable def qGK:Code:=cut [true,false,true,true,true] (Try.f46.body.getD .skip)
theorem qL2 {N:Nat} {Q:X→St→Option (qc [i4])} {e:List LV} {h:List Blk}:qe tt Γ46 (T46 N) qGK Q ⟨e,h⟩=qe tt Γ46 (T46 N) (cut [true,false,true,true,true] (Try.f46.body.getD .skip)) Q ⟨e,h⟩:=rfl
theorem qSS (N:Nat) (v2:Int) (v3:List (Val Y83)) {k0:Unit→Option (qc [i4])} {Q:X→St→Option (qc [i4])} {c:Code} (hc:c=qGK) (hret: ∀st,Q .ret st=qI tt true [i4] [.tmp 2] st) (h0:Q (.exit 0) ⟨[u,.one (.ptr 0 0 0),u,u,u,u,u,u,u,u,u,u,u,u,u,u,u,u,u,u,u,u,u,u,u,u,u,u,u,u,u,u,u,u,u,u,u,u,u],[.box [.int .i64 v2,.sl 83 Y83 v3 1]]⟩=k0 ()): ∀(n:Nat) (v1:Int),qC (qe tt Γ46 (T46 N) c) false qom Q n ⟨[u,.one (.ptr 0 0 0),u,.one (.int .i64 v1),u,u,u,u,u,u,u,u,u,u,u,u,u,u,u,u,u,u,u,u,u,u,u,u,u,u,u,u,u,u,u,u,u,u,u],[.box [.int .i64 v2,.sl 83 Y83 v3 1]]⟩=qgY N v2 v3 k0 n v1:=by
 subst hc;intro n;induction n with
 | zero=>intros;rfl
 | succ n ih=>
   intro v1
   rw [qM,qL2,qgY];unfold Try.f46
   simp (maxSteps:=10000000) -implicitDefEqProofs [qA8,qkc,qAL,qlY,qxg,qo5,qvR,qm1,qt6,qng,qvP,qAl,qxd,qFf,qBm,qCD,qAY,qAS,qAj,qyB,g47,g96,hret,h0,ih]
theorem qM8 (N:Nat) (v0:Val Y26):qe tt Γ46 (T46 N) (Try.f46.body.getD .skip) (qr tt true [i4] [.tmp 2]) (qv [i26] 39 (v0,()))=m46 N v0:=by
 unfold Try.f46
 simp (maxSteps:=10000000) -implicitDefEqProofs [qA8,qkc,qAL,qlY,qxg,qo5,qvR,qm1,qt6,qng,qvP,qAl,qxd,qFf,qBm,qCD,qAY,qAS,qAj,qyB,g47,g96]
 rewrite [qSS (k0:=(fun (_:Unit)=>bif ((inR (v0.1:Int) (0:Int) (4:Int)):Bool)then (some ((decide (((v0.2:List (Val Y83)).length:Int)≤(16:Int))),()))else (some (false,())))) N _ _ ?_ ?_ ?_]
 ·rewrite [m46];first | rfl | simp (maxSteps:=10000000) -implicitDefEqProofs []
 ·rfl
 ·intro;simp only [qK,qL,qN,qm]
 ·simp (maxSteps:=10000000) -implicitDefEqProofs [qA8,qkc,qAL,qlY,qxg,qo5,qvR,qm1,qt6,qng,qvP,qAl,qxd,qFf,qBm,qCD,qAY,qAS,qAj,qyB,g47,g96]
noncomputable def qg3 (N:Nat) (v1:List (Val Y83)) (v2:Int) (v4:Int) (v5:List (Val Y83)) (k0:Unit→Option (qc [i4])):Nat→Int→Option (qc [i4])
 | 0,_=>none
 | n+1,v3=>bif (decide (v3<v2))then (chk (0≤v3∧v3<(v1.length:Int)) (bif (!((qaF (v1.getD v3.toNat (qa Y83))):Bool))then (some (false,()))else (bif (!(decide ((((v1.getD v3.toNat (qa Y83)).1:List (Val (.int .i64))).length:Int)=v4)))then (some (false,()))else (qg3 N v1 v2 v4 v5 k0 n (IntKind.i64.wrap (v3+(1:Int)))))))else (k0 ())
noncomputable def m43 (N:Nat) (v0:Val Y26):Option (qc [i4]):=bif (decide ((v0.1:Int)<(0:Int)))then (some (false,()))else (bif (decide ((4:Int)<(v0.1:Int)))then (some (false,()))else (bif (decide ((16:Int)<((v0.2:List (Val Y83)).length:Int)))then (some (false,()))else (qg3 N (v0.2:List (Val Y83)) ((v0.2:List (Val Y83)).length:Int) (v0.1:Int) (v0.2:List (Val Y83)) (fun (_:Unit)=>some (true,())) N (0:Int))))
def Γ43:Gam:=[(93,g93)]
theorem qvH:Gam.get Γ43 93=some g93:=rfl
def qle:Nm:=⟨[false,true,false,false,false,false,false,false,false,false,false,false,false,false,false,false,false,false,false,false,true,true,true],[],false⟩
theorem qvQ:qle.zero=false:=rfl
theorem qxD:qle.fix=[]:=rfl
theorem qFz:qle.keep=[false,true,false,false,false,false,false,false,false,false,false,false,false,false,false,false,false,false,false,false,true,true,true]:=rfl
def qr4:Nm:=⟨[],[],false⟩
theorem qz6:qr4.zero=false:=rfl
theorem qvf:qr4.fix=[]:=rfl
theorem qwL:qr4.keep=[]:=rfl
def qj3:Nat→Tree:=fun _=> .done
def qk9:Nat→Nm:=fun i=>if i=4 then qle else ⟨[],[],false⟩
def qkP:Nat→Option Jn:=fun _=>none
def qn6:Nat→Option Nm:=fun i=>if i=0 then some qr4 else none
def qnX:Nat→Option Nm:=fun _=>none
theorem p43:qn qj3 (Try.f43.body.getD .skip)=true:=by kernel_rfl
def T43 (N:Nat):Tab:={tr:=qj3,lp:=qk9,ex:=qn6,rg:=qnX,jn:=qkP,fuel:=N}
theorem qFF (N:Nat):(T43 N).pins=false:=rfl
theorem qPA (N:Nat):qp Try.prog (T43 N):=qw fun _=>rfl
theorem qvX (N:Nat) (i:Nat):(T43 N).tr i=qj3 i:=rfl
theorem qzn (N:Nat) (i:Nat):(T43 N).lp i=qk9 i:=rfl
theorem qtr (N:Nat) (i:Nat):(T43 N).ex i=qn6 i:=rfl
theorem qvi (N:Nat) (i:Nat):(T43 N).rg i=qnX i:=rfl
theorem qEi (N:Nat) (i:Nat):(T43 N).jn i=qkP i:=rfl
theorem qDH (N:Nat):(T43 N).fuel=N:=rfl
noncomputable def qHO:Code:=cut [true,true,false,true,true,true] (Try.f43.body.getD .skip)
theorem qMZ {N:Nat} {Q:X→St→Option (qc [i4])} {e:List LV} {h:List Blk}:qe tt Γ43 (T43 N) qHO Q ⟨e,h⟩=qe tt Γ43 (T43 N) (cut [true,true,false,true,true,true] (Try.f43.body.getD .skip)) Q ⟨e,h⟩:=rfl
theorem qNE (N:Nat) (v1:List (Val Y83)) (v2:Int) (v4:Int) (v5:List (Val Y83)) {k0:Unit→Option (qc [i4])} {Q:X→St→Option (qc [i4])} {c:Code} (hc:c=qHO) (hret: ∀st,Q .ret st=qI tt true [i4] [.tmp 2] st) (h0:Q (.exit 0) ⟨[u,u,u,u,u,u,u,u,u,u,u,u,u,u,u,u,u,u,u,u,u,u,u,u,u,u,u,u,u,u,u,u,u,u,u,u,u,u],[]⟩=k0 ()): ∀(n:Nat) (v3:Int),qC (qe tt Γ43 (T43 N) c) false qle Q n ⟨[u,.one (.ptr 0 0 0),u,u,u,u,u,u,u,u,u,u,u,u,u,u,u,u,u,u,.one (.sl 83 Y83 v1 1),.one (.int .i64 v2),.one (.int .i64 v3),u,u,u,u,u,u,u,u,u,u,u,u,u,u,u],[.box [.int .i64 v4,.sl 83 Y83 v5 1]]⟩=qg3 N v1 v2 v4 v5 k0 n v3:=by
 subst hc;intro n;induction n with
 | zero=>intros;rfl
 | succ n ih=>
   intro v3
   rw [qM,qMZ,qg3];unfold Try.f43
   simp (maxSteps:=10000000) -implicitDefEqProofs [qvX,qj3,qzn,qk9,qtr,qn6,qvi,qnX,qEi,qkP,qDH,qFF,qxD,qFz,qvQ,qvf,qwL,qz6,qvH,g93,hret,h0,ih]
theorem qVi (N:Nat) (v0:Val Y26):qe tt Γ43 (T43 N) (Try.f43.body.getD .skip) (qr tt true [i4] [.tmp 2]) (qv [i26] 38 (v0,()))=m43 N v0:=by
 unfold Try.f43
 simp (maxSteps:=10000000) -implicitDefEqProofs [qvX,qj3,qzn,qk9,qtr,qn6,qvi,qnX,qEi,qkP,qDH,qFF,qxD,qFz,qvQ,qvf,qwL,qz6,qvH,g93]
 rewrite [qNE (k0:=(fun (_:Unit)=>some (true,()))) N _ _ _ _ ?_ ?_ ?_]
 ·rewrite [m43];first | rfl | simp (maxSteps:=10000000) -implicitDefEqProofs []
 ·rfl
 ·intro;simp only [qK,qL,qN,qm]
 ·simp (maxSteps:=10000000) -implicitDefEqProofs [qvX,qj3,qzn,qk9,qtr,qn6,qvi,qnX,qEi,qkP,qDH,qFF,qxD,qFz,qvQ,qvf,qwL,qz6,qvH,g93]
theorem t46 (N:Nat) (d:Int) (xs:List (Val Y83)) (K:Unit→Option (qc [i4])) (hl:xs.length≤1048576) (n:Nat) (hn:xs.length<n):qgY N d xs K n 0=bif xs.all (fun a=>qaF a&&decide ((List.length (α:=Val (.int .i64)) a.1:Int)=d))then K ()else some (false,()):=
 (qam (F:=fun n i (_:Unit)=>qgY N d xs K n i) (step:=fun _ x _ K=>bif (qaF x&&decide ((List.length (α:=Val (.int .i64)) x.1:Int)=d))then K ()else some (false,())) (k:=K) hl (fun n i s hi=>by
   rw [qgY,qj (by omega),qd (by omega),qd (by omega),qA hi]
   cases qaF xs[i]<;>simp [qX]) (fun n i s hi=>by rw [qgY,qh (by omega)]) n () hn).trans (qeU xs 0)
theorem t43 (N:Nat) (d:Int) (xs ys:List (Val Y83)) (K:Unit→Option (qc [i4])) (hl:xs.length≤1048576) (n:Nat) (hn:xs.length<n):qg3 N xs xs.length d ys K n 0=bif xs.all (fun a=>qaF a&&decide ((List.length (α:=Val (.int .i64)) a.1:Int)=d))then K ()else some (false,()):=
 (qam (F:=fun n i (_:Unit)=>qg3 N xs xs.length d ys K n i) (step:=fun _ x _ K=>bif (qaF x&&decide ((List.length (α:=Val (.int .i64)) x.1:Int)=d))then K ()else some (false,())) (k:=K) hl (fun n i s hi=>by
   rw [qg3,qj (by omega),qd (by omega),qA hi]
   cases qaF xs[i]<;>simp [qX]) (fun n i s hi=>by rw [qg3,qh (by omega)]) n () hn).trans (qeU xs 0)
def g46:G:={ps:=[i26],rs:=[i4],dp:=true,pre:=fun x=>qr5 x.1,fn:=fun x=>(qeL x.1,())}
def g43:G:={ps:=[i26],rs:=[i4],dp:=true,pre:=fun _=>True,fn:=fun x=>(qeL x.1,())}
theorem e46 (c:Val Y26) (h:qr5 c): ∃N,m46 N c=some (qeL c,()):=⟨List.length (α:=Val Y83) c.2+1,by
 obtain ⟨d,xs⟩:=c
 change Int at d
 change List (Val Y83)at xs
 rw [m46,qeL]
 dsimp only
 rw [t46 _ _ _ _ h _ (Nat.lt_succ_self _)]
 simp only [inR]
 cases List.all xs _<;>cases decide (0≤d∧d≤4)<;>simp⟩
theorem s46:Sound Try.prog 46 g46:=qz (tt:=tt) (Γ:=Γ46) hT (ql s47 (ql s96 qt)) hm (fn:=Try.f46) Try.func46 (c:=Try.f46.body.getD .skip) (by kernel_rfl) (by kernel_rfl) fun x hx=>by
 obtain ⟨N,h⟩:=e46 x.1 hx
 exact ⟨T46 N,p46,qy _,qU3 N,(qM8 N x.1).trans h⟩
theorem e43 (c:Val Y26): ∃N,m43 N c=some (qeL c,()):=⟨List.length (α:=Val Y83) c.2+1,by
 obtain ⟨d,xs⟩:=c
 change Int at d
 change List (Val Y83)at xs
 rw [m43,qeL]
 dsimp only
 by_cases h1:d<0
 ·have: ¬(0≤d∧d≤4):=by omega
  simp [h1,this]
 ·by_cases h2:4<d
  ·have: ¬(0≤d∧d≤4):=by omega
   simp [h1,h2,this]
  ·have:0≤d∧d≤4:=by omega
   by_cases h3:(16:Int)<xs.length
   ·have h3': ¬(xs.length:Int)≤16:=by omega
    simp only [h1,h2,h3,h3',decide_true,decide_false,cond_true,cond_false,Bool.and_false,Bool.false_and]
   ·have h3':(xs.length:Int)≤16:=by omega
    rw [t43 _ _ _ _ _ (by omega) _ (Nat.lt_succ_self _)]
    simp only [h1,h2,h3,h3',this,decide_true,decide_false,cond_true,cond_false,Bool.true_and,and_self]
    cases List.all xs _<;>rfl⟩
theorem s43:Sound Try.prog 43 g43:=qz (tt:=tt) (Γ:=Γ43) hT (ql s93 qt) hm (fn:=Try.f43) Try.func43 (c:=Try.f43.body.getD .skip) (by kernel_rfl) (by kernel_rfl) fun x hx=>by
 obtain ⟨N,h⟩:=e43 x.1
 exact ⟨T43 N,p43,qy _,qPA N,(qVi N x.1).trans h⟩
end Go.T
