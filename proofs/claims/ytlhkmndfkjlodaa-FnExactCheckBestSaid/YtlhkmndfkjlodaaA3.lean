/- Cells: whether they are valid. -/
import Derived.Test.YtlhkmndfkjlodaaA2
set_option linter.unusedSimpArgs false
set_option linter.unusedVariables false
namespace Go.T
open Go Go.Proofs
set_option maxHeartbeats 4000000
set_option maxRecDepth 100000
def qS (c:Val Y26):Bool:=decide (0≤(c.1:Int)∧(c.1:Int)≤4)&&decide ((List.length (α:=Val Y83) c.2:Int)≤16)&&List.all (α:=Val Y83) c.2 fun a=>qK a&&decide ((List.length (α:=Val (.int .i64)) a.1:Int)=(c.1:Int))
def qca (c:Val Y26):Prop:=List.length (α:=Val Y83) c.2≤1048576
noncomputable def qdb (N:Nat) (v2:Int) (v3:List (Val Y83)) (k0:Unit→Option (qa [i4])):Nat→Int→Option (qa [i4])
 | 0,_=>none
 | n+1,v1=>bif (decide (v1<(v3.length:Int)))then (chk (0≤v1∧v1<(v3.length:Int)) (bif (!((qK (v3.getD v1.toNat (qc Y83))):Bool))then (some (false,()))else (chk (0≤v1∧v1<(v3.length:Int)) (bif (!(decide ((((v3.getD v1.toNat (qc Y83)).1:List (Val (.int .i64))).length:Int)=v2)))then (some (false,()))else (qdb N v2 v3 k0 n (IntKind.i64.wrap (v1+(1:Int))))))))else (k0 ())
noncomputable def m46 (N:Nat) (v0:Val Y26):Option (qa [i4]):=qdb N (v0.1:Int) (v0.2:List (Val Y83)) (fun (_:Unit)=>bif ((inR (v0.1:Int) (0:Int) (4:Int)):Bool)then (some ((decide (((v0.2:List (Val Y83)).length:Int)≤(16:Int))),()))else (some (false,()))) N (0:Int)
def Γ46:Gam:=[(47,g47),(96,g96)]
theorem qwz:Gam.get Γ46 47=some g47:=rfl
theorem quO:Gam.get Γ46 96=some g96:=rfl
def qkl:Nm:=⟨[false,true,false,true],[],false⟩
theorem qxO:qkl.zero=false:=rfl
theorem qtI:qkl.fix=[]:=rfl
theorem qBg:qkl.keep=[false,true,false,true]:=rfl
def qm8:Nm:=⟨[false,true],[],false⟩
theorem qxd:qm8.zero=false:=rfl
theorem qy6:qm8.fix=[]:=rfl
theorem qxf:qm8.keep=[false,true]:=rfl
def qgL:Nat→Tree:=fun i=>if i=4 then .quiet 0 (.quiet 1 (.quiet 2 (.quiet 3 (.quiet 4 (.alt 5 (.quiet 6 (.quiet 7 (.quiet 8 (.quiet 9 (.quiet 10 (.quiet 11 (.quiet 12 (.quiet 13 (.quiet 14 (.quiet 15 (.quiet 16 (.quiet 17 (.quiet 18 .done))))))))))))) .stop)))))else .done
def qh8:Nat→Nm:=fun i=>if i=2 then qkl else ⟨[],[],false⟩
def qjf:Nat→Option Jn:=fun _=>none
def qk0:Nat→Option Nm:=fun i=>if i=0 then some qm8 else none
def qi3:Nat→Option Nm:=fun _=>none
theorem p46:qg qgL (Try.f46.body.getD .skip)=true:=by kernel_rfl
def T46 (N:Nat):Tab:={tr:=qgL,lp:=qh8,ex:=qk0,rg:=qi3,jn:=qjf,fuel:=N}
theorem qwB (N:Nat):(T46 N).pins=false:=rfl
theorem qQ9 (N:Nat):qk Try.prog (T46 N):=qn fun _=>rfl
theorem qxu (N:Nat) (i:Nat):(T46 N).tr i=qgL i:=rfl
theorem qwZ (N:Nat) (i:Nat):(T46 N).lp i=qh8 i:=rfl
theorem qtL (N:Nat) (i:Nat):(T46 N).ex i=qk0 i:=rfl
theorem qrX (N:Nat) (i:Nat):(T46 N).rg i=qi3 i:=rfl
theorem qp6 (N:Nat) (i:Nat):(T46 N).jn i=qjf i:=rfl
theorem qrV (N:Nat):(T46 N).fuel=N:=rfl
noncomputable def qCQ:Code:=cut [true,false,true,true,true] (Try.f46.body.getD .skip)
theorem qHP {N:Nat} {Q:X→St→Option (qa [i4])} {e:List LV} {h:List Blk}:qb tt Γ46 (T46 N) qCQ Q ⟨e,h⟩=qb tt Γ46 (T46 N) (cut [true,false,true,true,true] (Try.f46.body.getD .skip)) Q ⟨e,h⟩:=rfl
theorem qOM (N:Nat) (v2:Int) (v3:List (Val Y83)) {k0:Unit→Option (qa [i4])} {Q:X→St→Option (qa [i4])} {c:Code} (hc:c=qCQ) (hret: ∀st,Q .ret st=qy tt true [i4] [.tmp 2] st) (h0:Q (.exit 0) ⟨[u,.one (.ptr 0 0 0),u,u,u,u,u,u,u,u,u,u,u,u,u,u,u,u,u,u,u,u,u,u,u,u,u,u,u,u,u,u,u,u,u,u,u,u,u],[.box [.int .i64 v2,.sl 83 Y83 v3 1]]⟩=k0 ()): ∀(n:Nat) (v1:Int),qx (qb tt Γ46 (T46 N) c) false qkl Q n ⟨[u,.one (.ptr 0 0 0),u,.one (.int .i64 v1),u,u,u,u,u,u,u,u,u,u,u,u,u,u,u,u,u,u,u,u,u,u,u,u,u,u,u,u,u,u,u,u,u,u,u],[.box [.int .i64 v2,.sl 83 Y83 v3 1]]⟩=qdb N v2 v3 k0 n v1:=by
 subst hc;intro n;induction n with
 | zero=>intros;rfl
 | succ n ih=>
   intro v1
   rw [qI,qHP,qdb];unfold Try.f46
   simp (maxSteps:=10000000) -implicitDefEqProofs [qxu,qgL,qwZ,qh8,qtL,qk0,qrX,qi3,qp6,qjf,qrV,qwB,qtI,qBg,qxO,qy6,qxf,qxd,qwz,quO,g47,g96,hret,h0,ih]
theorem qIN (N:Nat) (v0:Val Y26):qb tt Γ46 (T46 N) (Try.f46.body.getD .skip) (qh tt true [i4] [.tmp 2]) (ql [i26] 39 (v0,()))=m46 N v0:=by
 unfold Try.f46
 simp (maxSteps:=10000000) -implicitDefEqProofs [qxu,qgL,qwZ,qh8,qtL,qk0,qrX,qi3,qp6,qjf,qrV,qwB,qtI,qBg,qxO,qy6,qxf,qxd,qwz,quO,g47,g96]
 rewrite [qOM (k0:=(fun (_:Unit)=>bif ((inR (v0.1:Int) (0:Int) (4:Int)):Bool)then (some ((decide (((v0.2:List (Val Y83)).length:Int)≤(16:Int))),()))else (some (false,())))) N _ _ ?_ ?_ ?_]
 ·rewrite [m46];first | rfl | simp (maxSteps:=10000000) -implicitDefEqProofs []
 ·rfl
 ·intro;simp only [qD,qE,qF,qC]
 ·simp (maxSteps:=10000000) -implicitDefEqProofs [qxu,qgL,qwZ,qh8,qtL,qk0,qrX,qi3,qp6,qjf,qrV,qwB,qtI,qBg,qxO,qy6,qxf,qxd,qwz,quO,g47,g96]
noncomputable def qdf (N:Nat) (v1:List (Val Y83)) (v2:Int) (v4:Int) (v5:List (Val Y83)) (k0:Unit→Option (qa [i4])):Nat→Int→Option (qa [i4])
 | 0,_=>none
 | n+1,v3=>bif (decide (v3<v2))then (chk (0≤v3∧v3<(v1.length:Int)) (bif (!((qK (v1.getD v3.toNat (qc Y83))):Bool))then (some (false,()))else (bif (!(decide ((((v1.getD v3.toNat (qc Y83)).1:List (Val (.int .i64))).length:Int)=v4)))then (some (false,()))else (qdf N v1 v2 v4 v5 k0 n (IntKind.i64.wrap (v3+(1:Int)))))))else (k0 ())
noncomputable def m43 (N:Nat) (v0:Val Y26):Option (qa [i4]):=bif (decide ((v0.1:Int)<(0:Int)))then (some (false,()))else (bif (decide ((4:Int)<(v0.1:Int)))then (some (false,()))else (bif (decide ((16:Int)<((v0.2:List (Val Y83)).length:Int)))then (some (false,()))else (qdf N (v0.2:List (Val Y83)) ((v0.2:List (Val Y83)).length:Int) (v0.1:Int) (v0.2:List (Val Y83)) (fun (_:Unit)=>some (true,())) N (0:Int))))
def Γ43:Gam:=[(93,g93)]
theorem qrL:Gam.get Γ43 93=some g93:=rfl
def qhB:Nm:=⟨[false,true,false,false,false,false,false,false,false,false,false,false,false,false,false,false,false,false,false,false,true,true,true],[],false⟩
theorem qrW:qhB.zero=false:=rfl
theorem qt2:qhB.fix=[]:=rfl
theorem qBA:qhB.keep=[false,true,false,false,false,false,false,false,false,false,false,false,false,false,false,false,false,false,false,false,true,true,true]:=rfl
def qn8:Nm:=⟨[],[],false⟩
theorem qwm:qn8.zero=false:=rfl
theorem qrf:qn8.fix=[]:=rfl
theorem qs7:qn8.keep=[]:=rfl
def qgA:Nat→Tree:=fun _=> .done
def qhx:Nat→Nm:=fun i=>if i=4 then qhB else ⟨[],[],false⟩
def qhj:Nat→Option Jn:=fun _=>none
def qj6:Nat→Option Nm:=fun i=>if i=0 then some qn8 else none
def qj1:Nat→Option Nm:=fun _=>none
theorem p43:qg qgA (Try.f43.body.getD .skip)=true:=by kernel_rfl
def T43 (N:Nat):Tab:={tr:=qgA,lp:=qhx,ex:=qj6,rg:=qj1,jn:=qhj,fuel:=N}
theorem qBE (N:Nat):(T43 N).pins=false:=rfl
theorem qLa (N:Nat):qk Try.prog (T43 N):=qn fun _=>rfl
theorem qse (N:Nat) (i:Nat):(T43 N).tr i=qgA i:=rfl
theorem qvr (N:Nat) (i:Nat):(T43 N).lp i=qhx i:=rfl
theorem qpt (N:Nat) (i:Nat):(T43 N).ex i=qj6 i:=rfl
theorem qri (N:Nat) (i:Nat):(T43 N).rg i=qj1 i:=rfl
theorem qAt (N:Nat) (i:Nat):(T43 N).jn i=qhj i:=rfl
theorem qz0 (N:Nat):(T43 N).fuel=N:=rfl
noncomputable def qDJ:Code:=cut [true,true,false,true,true,true] (Try.f43.body.getD .skip)
theorem qIA {N:Nat} {Q:X→St→Option (qa [i4])} {e:List LV} {h:List Blk}:qb tt Γ43 (T43 N) qDJ Q ⟨e,h⟩=qb tt Γ43 (T43 N) (cut [true,true,false,true,true,true] (Try.f43.body.getD .skip)) Q ⟨e,h⟩:=rfl
theorem qJB (N:Nat) (v1:List (Val Y83)) (v2:Int) (v4:Int) (v5:List (Val Y83)) {k0:Unit→Option (qa [i4])} {Q:X→St→Option (qa [i4])} {c:Code} (hc:c=qDJ) (hret: ∀st,Q .ret st=qy tt true [i4] [.tmp 2] st) (h0:Q (.exit 0) ⟨[u,u,u,u,u,u,u,u,u,u,u,u,u,u,u,u,u,u,u,u,u,u,u,u,u,u,u,u,u,u,u,u,u,u,u,u,u,u],[]⟩=k0 ()): ∀(n:Nat) (v3:Int),qx (qb tt Γ43 (T43 N) c) false qhB Q n ⟨[u,.one (.ptr 0 0 0),u,u,u,u,u,u,u,u,u,u,u,u,u,u,u,u,u,u,.one (.sl 83 Y83 v1 1),.one (.int .i64 v2),.one (.int .i64 v3),u,u,u,u,u,u,u,u,u,u,u,u,u,u,u],[.box [.int .i64 v4,.sl 83 Y83 v5 1]]⟩=qdf N v1 v2 v4 v5 k0 n v3:=by
 subst hc;intro n;induction n with
 | zero=>intros;rfl
 | succ n ih=>
   intro v3
   rw [qI,qIA,qdf];unfold Try.f43
   simp (maxSteps:=10000000) -implicitDefEqProofs [qse,qgA,qvr,qhx,qpt,qj6,qri,qj1,qAt,qhj,qz0,qBE,qt2,qBA,qrW,qrf,qs7,qwm,qrL,g93,hret,h0,ih]
theorem qRt (N:Nat) (v0:Val Y26):qb tt Γ43 (T43 N) (Try.f43.body.getD .skip) (qh tt true [i4] [.tmp 2]) (ql [i26] 38 (v0,()))=m43 N v0:=by
 unfold Try.f43
 simp (maxSteps:=10000000) -implicitDefEqProofs [qse,qgA,qvr,qhx,qpt,qj6,qri,qj1,qAt,qhj,qz0,qBE,qt2,qBA,qrW,qrf,qs7,qwm,qrL,g93]
 rewrite [qJB (k0:=(fun (_:Unit)=>some (true,()))) N _ _ _ _ ?_ ?_ ?_]
 ·rewrite [m43];first | rfl | simp (maxSteps:=10000000) -implicitDefEqProofs []
 ·rfl
 ·intro;simp only [qD,qE,qF,qC]
 ·simp (maxSteps:=10000000) -implicitDefEqProofs [qse,qgA,qvr,qhx,qpt,qj6,qri,qj1,qAt,qhj,qz0,qBE,qt2,qBA,qrW,qrf,qs7,qwm,qrL,g93]
theorem t46 (N:Nat) (d:Int) (xs:List (Val Y83)) (K:Unit→Option (qa [i4])) (hl:xs.length≤1048576) (n:Nat) (hn:xs.length<n):qdb N d xs K n 0=bif xs.all (fun a=>qK a&&decide ((List.length (α:=Val (.int .i64)) a.1:Int)=d))then K ()else some (false,()):=
 (q4 (F:=fun n i (_:Unit)=>qdb N d xs K n i) (step:=fun _ x _ K=>bif (qK x&&decide ((List.length (α:=Val (.int .i64)) x.1:Int)=d))then K ()else some (false,())) (k:=K) hl (fun n i s hi=>by
   rw [qdb,qi (by omega),qd (by omega),qd (by omega),qB hi]
   cases qK xs[i]<;>simp [q9]) (fun n i s hi=>by rw [qdb,qj (by omega)]) n () hn).trans (qaZ xs 0)
theorem t43 (N:Nat) (d:Int) (xs ys:List (Val Y83)) (K:Unit→Option (qa [i4])) (hl:xs.length≤1048576) (n:Nat) (hn:xs.length<n):qdf N xs xs.length d ys K n 0=bif xs.all (fun a=>qK a&&decide ((List.length (α:=Val (.int .i64)) a.1:Int)=d))then K ()else some (false,()):=
 (q4 (F:=fun n i (_:Unit)=>qdf N xs xs.length d ys K n i) (step:=fun _ x _ K=>bif (qK x&&decide ((List.length (α:=Val (.int .i64)) x.1:Int)=d))then K ()else some (false,())) (k:=K) hl (fun n i s hi=>by
   rw [qdf,qi (by omega),qd (by omega),qB hi]
   cases qK xs[i]<;>simp [q9]) (fun n i s hi=>by rw [qdf,qj (by omega)]) n () hn).trans (qaZ xs 0)
def g46:G:={ps:=[i26],rs:=[i4],dp:=true,pre:=fun x=>qca x.1,fn:=fun x=>(qS x.1,())}
def g43:G:={ps:=[i26],rs:=[i4],dp:=true,pre:=fun _=>True,fn:=fun x=>(qS x.1,())}
theorem e46 (c:Val Y26) (h:qca c): ∃N,m46 N c=some (qS c,()):=⟨List.length (α:=Val Y83) c.2+1,by
 obtain ⟨d,xs⟩:=c
 change Int at d
 change List (Val Y83)at xs
 rw [m46,qS]
 dsimp only
 rw [t46 _ _ _ _ h _ (Nat.lt_succ_self _)]
 simp only [inR]
 cases List.all xs _<;>cases decide (0≤d∧d≤4)<;>simp⟩
theorem s46:Sound Try.prog 46 g46:=qq (tt:=tt) (Γ:=Γ46) hT (qe s47 (qe s96 qp)) hm (fn:=Try.f46) Try.func46 (c:=Try.f46.body.getD .skip) (by kernel_rfl) (by kernel_rfl) fun x hx=>by
 obtain ⟨N,h⟩:=e46 x.1 hx
 exact ⟨T46 N,p46,qm _,qQ9 N,(qIN N x.1).trans h⟩
theorem e43 (c:Val Y26): ∃N,m43 N c=some (qS c,()):=⟨List.length (α:=Val Y83) c.2+1,by
 obtain ⟨d,xs⟩:=c
 change Int at d
 change List (Val Y83)at xs
 rw [m43,qS]
 dsimp only
 by_cases h1:d<0
 ·have: ¬(0≤d∧d≤4):=by omega
  simp [h1,this]
 ·by_cases h2:4<d
  ·have: ¬(0≤d∧d≤4):=by omega
   simp [h1,h2,this]
  ·have:0≤d∧d≤4:=by omega
   by_cases h3:(16:Int)<xs.length
   ·have h3': ¬(xs.length:Int)≤16:=by omega
    simp only [h1,h2,h3,h3',decide_true,decide_false,cond_true,cond_false,Bool.and_false,Bool.false_and]
   ·have h3':(xs.length:Int)≤16:=by omega
    rw [t43 _ _ _ _ _ (by omega) _ (Nat.lt_succ_self _)]
    simp only [h1,h2,h3,h3',this,decide_true,decide_false,cond_true,cond_false,Bool.true_and,and_self]
    cases List.all xs _<;>rfl⟩
theorem s43:Sound Try.prog 43 g43:=qq (tt:=tt) (Γ:=Γ43) hT (qe s93 qp) hm (fn:=Try.f43) Try.func43 (c:=Try.f43.body.getD .skip) (by kernel_rfl) (by kernel_rfl) fun x hx=>by
 obtain ⟨N,h⟩:=e43 x.1
 exact ⟨T43 N,p43,qm _,qLa N,(qRt N x.1).trans h⟩
end Go.T
