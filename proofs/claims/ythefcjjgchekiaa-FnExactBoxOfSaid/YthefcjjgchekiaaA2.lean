/- Whole numbers; atoms; cells; relations: what the functions compute. -/
import Derived.Test.YthefcjjgchekiaaA1
set_option linter.unusedSimpArgs false
set_option linter.unusedVariables false
namespace Go.T
open Go Go.Proofs
set_option maxHeartbeats 1000000
set_option maxRecDepth 100000
def inI (n:Int):Prop:= -9223372036854775807≤n∧n≤9223372036854775807
def qP (n:Int):Int:=(n.natAbs:Int)
def qaW (n:Int):Prop:=inI n
def qB (a b:Int):Int:=(Nat.gcd a.natAbs b.natAbs:Nat)
def qb9 (a b:Int):Prop:=inI a∧inI b
def qcj (xs:List (Val (.int .i64))) (k:Int):Int:=(gL k.natAbs xs:Nat)
def qdH (xs:List (Val (.int .i64))) (k:Int):Prop:=xs.length≤1048576∧inI k∧ ∀x∈xs,inI x
def qaw (xs:List (Val (.int .i64))):Int:=(gL 0 xs:Nat)
def qdG (xs:List (Val (.int .i64))):Prop:=xs.length≤1048576∧ ∀x∈xs,inI x
def qG (n:Int):Bool:=decide (-400000000≤n∧n≤400000000)
def inR (x a b:Int):Bool:=decide (a≤x∧x≤b)
def g83:G:={ps:=[i3],rs:=[i3],dp:=true,pre:=fun x=>qaW x.1,fn:=fun x=>(qP x.1,())}
noncomputable def m83 (N:Nat) (v0:Int):Option (qb [i3]):=bif (decide (v0<(0:Int)))then (some ((IntKind.i64.wrap (0 - v0)),()))else (some (v0,()))
def Γ83:Gam:=[]
def qmW:Nat→Tree:=fun _=> .done
def qxj:Nat→Nm:=fun _=>⟨[],[],false⟩
def qxb:Nat→Option Jn:=fun _=>none
def qBd:Nat→Option Nm:=fun _=>none
def qtl:Nat→Option Nm:=fun _=>none
theorem p83:ql qmW (Try.f83.body.getD .skip)=true:=by kernel_rfl
def T83 (N:Nat):Tab:={tr:=qmW,lp:=qxj,ex:=qBd,rg:=qtl,jn:=qxb,fuel:=N}
theorem qN3 (N:Nat):(T83 N).pins=false:=rfl
theorem qRM (N:Nat):qm Try.prog (T83 N):=qu fun _=>rfl
theorem qF4 (N:Nat) (i:Nat):(T83 N).tr i=qmW i:=rfl
theorem qGj (N:Nat) (i:Nat):(T83 N).lp i=qxj i:=rfl
theorem qPx (N:Nat) (i:Nat):(T83 N).ex i=qBd i:=rfl
theorem qMe (N:Nat) (i:Nat):(T83 N).rg i=qtl i:=rfl
theorem qOI (N:Nat) (i:Nat):(T83 N).jn i=qxb i:=rfl
theorem qQu (N:Nat):(T83 N).fuel=N:=rfl
theorem qQp (N:Nat) (v0:Int):qd tt Γ83 (T83 N) (Try.f83.body.getD .skip) (qp tt true [i3] [.tmp 2]) (qt [i3] 8 (v0,()))=m83 N v0:=by
 rw [m83];unfold Try.f83
 simp (maxSteps:=10000000) -implicitDefEqProofs [qF4,qmW,qGj,qxj,qPx,qBd,qMe,qtl,qOI,qxb,qQu,qN3]
 try rfl
theorem e83 (n:Int) (h:inI n): ∃N,m83 N n=some (qP n,()):=⟨0,by
 unfold inI at h
 simp only [m83,qP]
 by_cases h0:n<0
 ·have e:IntKind.i64.wrap (0 - n)=(n.natAbs:Int):=by rw [qb5 (by omega) (by omega)];omega
  simp only [h0,decide_true,cond_true,e]
 ·have e:(n.natAbs:Int)=n:=by omega
  simp [h0,e]⟩
theorem s83:Sound Try.prog 83 g83:=qw (tt:=tt) (Γ:=Γ83) hT qq hm (fn:=Try.f83) Try.func83 (c:=Try.f83.body.getD .skip) (by kernel_rfl) (by kernel_rfl) fun x hx=>by
 obtain ⟨N,h⟩:=e83 x.1 hx
 exact ⟨T83 N,p83,qx _,qRM N,(qQp N x.1).trans h⟩
noncomputable def qhZ (N:Nat) (k0:Int→Option (qb [i3])):Nat→Int→Int→Option (qb [i3])
 | 0,_,_=>none
 | n+1,v2,v3=>bif (!(decide (v3=(0:Int))))then (chk (v3≠0) (qhZ N k0 n v3 (v2.tmod v3)))else (k0 v2)
noncomputable def m65 (N:Nat) (v0:Int) (v1:Int):Option (qb [i3]):=chk (qaW v0) (chk (qaW v1) (qhZ N (fun (v5:Int)=>some (v5,())) N ((qP v0):Int) ((qP v1):Int)))
def Γ65:Gam:=[(83,g83)]
theorem qAY:Gam.get Γ65 83=some g83:=rfl
def qjY:Nm:=⟨[true,true],[],false⟩
theorem qz7:qjY.zero=false:=rfl
theorem qBR:qjY.fix=[]:=rfl
theorem qtn:qjY.keep=[true,true]:=rfl
def qqq:Nm:=⟨[true],[],false⟩
theorem qrC:qqq.zero=false:=rfl
theorem qwZ:qqq.fix=[]:=rfl
theorem qBS:qqq.keep=[true]:=rfl
def qg9:Nat→Tree:=fun i=>if i=3 then .quiet 0 (.quiet 1 (.quiet 2 (.quiet 3 (.quiet 4 (.quiet 5 .done)))))else .done
def qkp:Nat→Nm:=fun i=>if i=2 then qjY else ⟨[],[],false⟩
def qmK:Nat→Option Jn:=fun _=>none
def qje:Nat→Option Nm:=fun i=>if i=0 then some qqq else none
def ql9:Nat→Option Nm:=fun _=>none
theorem p65:ql qg9 (Try.f65.body.getD .skip)=true:=by kernel_rfl
def T65 (N:Nat):Tab:={tr:=qg9,lp:=qkp,ex:=qje,rg:=ql9,jn:=qmK,fuel:=N}
theorem qt7 (N:Nat):(T65 N).pins=false:=rfl
theorem qHW (N:Nat):qm Try.prog (T65 N):=qu fun _=>rfl
theorem qvU (N:Nat) (i:Nat):(T65 N).tr i=qg9 i:=rfl
theorem qxi (N:Nat) (i:Nat):(T65 N).lp i=qkp i:=rfl
theorem qAK (N:Nat) (i:Nat):(T65 N).ex i=qje i:=rfl
theorem quB (N:Nat) (i:Nat):(T65 N).rg i=ql9 i:=rfl
theorem quc (N:Nat) (i:Nat):(T65 N).jn i=qmK i:=rfl
theorem qsg (N:Nat):(T65 N).fuel=N:=rfl
noncomputable def qCs:Code:=cut [true,true,false,true,true] (Try.f65.body.getD .skip)
theorem qJ4 {N:Nat} {Q:X→St→Option (qb [i3])} {e:List LV} {h:List Blk}:qd tt Γ65 (T65 N) qCs Q ⟨e,h⟩=qd tt Γ65 (T65 N) (cut [true,true,false,true,true] (Try.f65.body.getD .skip)) Q ⟨e,h⟩:=rfl
theorem qGw (N:Nat) {k0:Int→Option (qb [i3])} {Q:X→St→Option (qb [i3])} {c:Code} (hc:c=qCs) (hret: ∀st,Q .ret st=qI tt true [i3] [.tmp 4] st) (h0: ∀(v4:Int),Q (.exit 0) ⟨[.one (.int .i64 v4),u,u,u,u,u,u,u,u,u,u,u,u,u,u,u],[]⟩=k0 v4): ∀(n:Nat) (v2:Int) (v3:Int),qD (qd tt Γ65 (T65 N) c) false qjY Q n ⟨[.one (.int .i64 v2),.one (.int .i64 v3),u,u,u,u,u,u,u,u,u,u,u,u,u,u],[]⟩=qhZ N k0 n v2 v3:=by
 subst hc;intro n;induction n with
 | zero=>intros;rfl
 | succ n ih=>
   intro v2 v3
   rw [qR,qJ4,qhZ];unfold Try.f65
   simp (maxSteps:=10000000) -implicitDefEqProofs [qvU,qg9,qxi,qkp,qAK,qje,quB,ql9,quc,qmK,qsg,qt7,qBR,qtn,qz7,qwZ,qBS,qrC,qAY,g83,hret,h0,ih]
theorem qIe (N:Nat) (v0:Int) (v1:Int):qd tt Γ65 (T65 N) (Try.f65.body.getD .skip) (qp tt true [i3] [.tmp 4]) (qt [i3,i3] 16 (v0,v1,()))=m65 N v0 v1:=by
 unfold Try.f65
 simp (maxSteps:=10000000) -implicitDefEqProofs [qvU,qg9,qxi,qkp,qAK,qje,quB,ql9,quc,qmK,qsg,qt7,qBR,qtn,qz7,qwZ,qBS,qrC,qAY,g83]
 rewrite [qGw (k0:=(fun (v5:Int)=>some (v5,()))) N ?_ ?_ ?_]
 ·rewrite [m65];first | rfl | simp (maxSteps:=10000000) -implicitDefEqProofs []
 ·rfl
 ·intro;simp only [qK,qM,qO,qv]
 ·intro v5;simp (maxSteps:=10000000) -implicitDefEqProofs [qvU,qg9,qxi,qkp,qAK,qje,quB,ql9,quc,qmK,qsg,qt7,qBR,qtn,qz7,qwZ,qBS,qrC,qAY,g83]
theorem t65 (N:Nat) (k:Int→Option (qb [i3])): ∀(n a b:Nat),b<n→qhZ N k n (a:Int) (b:Int)=k (Nat.gcd a b:Nat)
 | 0,_,_,h=>by omega
 | n+1,a,b,h=>by
   rw [qhZ]
   by_cases hb:b=0
   ·subst hb;simp
   ·have hb': ¬((b:Int)=0):=by omega
    have hlt:a % b<b:=Nat.mod_lt _ (by omega)
    have hm:((a:Int).tmod (b:Int))=((a % b:Nat):Int):=by rw [Int.tmod_eq_emod_of_nonneg (by omega)];rfl
    simp only [hb',decide_false,Bool.not_false,cond_true,ne_eq,not_false_eq_true,qCO]
    rw [hm,t65 N k n b (a % b) (by omega)]
    congr 2
    rw [Nat.gcd_comm b,←Nat.gcd_rec,Nat.gcd_comm]
def g65:G:={ps:=[i3,i3],rs:=[i3],dp:=true,pre:=fun x=>qb9 x.1 x.2.1,fn:=fun x=>(qB x.1 x.2.1,())}
theorem e65 (a b:Int) (h:qb9 a b): ∃N,m65 N a b=some (qB a b,()):=⟨b.natAbs+1,by
 rw [m65,qc (show qaW a from h.1),qc (show qaW b from h.2)]
 simp only [qP]
 rw [t65 _ _ _ _ _ (Nat.lt_succ_self _)]
 rfl⟩
theorem s65:Sound Try.prog 65 g65:=qw (tt:=tt) (Γ:=Γ65) hT (qf s83 qq) hm (fn:=Try.f65) Try.func65 (c:=Try.f65.body.getD .skip) (by kernel_rfl) (by kernel_rfl) fun x hx=>by
 obtain ⟨N,h⟩:=e65 x.1 x.2.1 hx
 exact ⟨T65 N,p65,qx _,qHW N,(qIe N x.1 x.2.1).trans h⟩
theorem qC8 {g:Nat} {x:Int} (hg:(g:Int)≤9223372036854775807) (hx:inI x):qb9 (g:Int) x∧((Nat.gcd g x.natAbs:Nat):Int)≤9223372036854775807:=by
 refine ⟨⟨⟨by omega,hg⟩,hx⟩,?_⟩
 unfold inI at hx
 by_cases h0:x.natAbs=0
 ·rw [h0];simpa using hg
 ·have:=Nat.gcd_le_right (m:=g) (n:=x.natAbs) (by omega)
  omega
theorem qDR {ρ:Type}: ∀(xs:List Int) (i g:Nat) (k:Int→Option ρ),(g:Int)≤9223372036854775807→(∀x∈xs,inI x)→qaa (fun _ x s K=>chk (qb9 s x) (K (qB s x))) i xs (g:Int) k=k (gL g xs:Nat)
 | [],_,_,_,_,_=>rfl
 | x::xs,i,g,k,hg,hx=>by
   obtain ⟨h1,h2⟩:=qC8 hg (hx x (by simp))
   rw [qaa,qc h1]
   exact qDR xs (i+1) _ k h2 fun y hy=>hx y (by simp [hy])
noncomputable def qfb (N:Nat) (v2:List (Val (.int .i64))) (v3:Int) (k0:Int→Option (qb [i3])):Nat→Int→Int→Option (qb [i3])
 | 0,_,_=>none
 | n+1,v1,v4=>bif (decide (v4<v3))then (chk (0≤v4∧v4<(v2.length:Int)) (chk (qb9 v1 ((v2.getD v4.toNat (qa (.int .i64))):Int)) (qfb N v2 v3 k0 n ((qB v1 ((v2.getD v4.toNat (qa (.int .i64))):Int)):Int) (IntKind.i64.wrap (v4+(1:Int))))))else (k0 v1)
noncomputable def m66 (N:Nat) (v0:List (Val (.int .i64))):Option (qb [i3]):=qfb N v0 (v0.length:Int) (fun (v6:Int)=>some (v6,())) N (0:Int) (0:Int)
def Γ66:Gam:=[(65,g65)]
theorem qwc:Gam.get Γ66 65=some g65:=rfl
def qle:Nm:=⟨[false,false,false,true,false,false,true,true,true],[],false⟩
theorem qqZ:qle.zero=false:=rfl
theorem qwU:qle.fix=[]:=rfl
theorem qwq:qle.keep=[false,false,false,true,false,false,true,true,true]:=rfl
def qoW:Nm:=⟨[false,false,false,true],[],false⟩
theorem quN:qoW.zero=false:=rfl
theorem qyF:qoW.fix=[]:=rfl
theorem qtt:qoW.keep=[false,false,false,true]:=rfl
def qhm:Nat→Tree:=fun _=> .done
def qlA:Nat→Nm:=fun i=>if i=3 then qle else ⟨[],[],false⟩
def qmB:Nat→Option Jn:=fun _=>none
def qlB:Nat→Option Nm:=fun i=>if i=0 then some qoW else none
def qi5:Nat→Option Nm:=fun _=>none
theorem p66:ql qhm (Try.f66.body.getD .skip)=true:=by kernel_rfl
def T66 (N:Nat):Tab:={tr:=qhm,lp:=qlA,ex:=qlB,rg:=qi5,jn:=qmB,fuel:=N}
theorem qtk (N:Nat):(T66 N).pins=false:=rfl
theorem qJO (N:Nat):qm Try.prog (T66 N):=qu fun _=>rfl
theorem qyr (N:Nat) (i:Nat):(T66 N).tr i=qhm i:=rfl
theorem qrU (N:Nat) (i:Nat):(T66 N).lp i=qlA i:=rfl
theorem qv9 (N:Nat) (i:Nat):(T66 N).ex i=qlB i:=rfl
theorem qzC (N:Nat) (i:Nat):(T66 N).rg i=qi5 i:=rfl
theorem qxa (N:Nat) (i:Nat):(T66 N).jn i=qmB i:=rfl
theorem qr3 (N:Nat):(T66 N).fuel=N:=rfl
noncomputable def qDh:Code:=cut [true,true,false,true,true,true] (Try.f66.body.getD .skip)
theorem qNr {N:Nat} {Q:X→St→Option (qb [i3])} {e:List LV} {h:List Blk}:qd tt Γ66 (T66 N) qDh Q ⟨e,h⟩=qd tt Γ66 (T66 N) (cut [true,true,false,true,true,true] (Try.f66.body.getD .skip)) Q ⟨e,h⟩:=rfl
theorem qMJ (N:Nat) (v2:List (Val (.int .i64))) (v3:Int) {k0:Int→Option (qb [i3])} {Q:X→St→Option (qb [i3])} {c:Code} (hc:c=qDh) (hret: ∀st,Q .ret st=qI tt true [i3] [.tmp 2] st) (h0: ∀(v5:Int),Q (.exit 0) ⟨[u,u,u,.one (.int .i64 v5),u,u,u,u,u,u,u,u,u,u,u,u,u],[]⟩=k0 v5): ∀(n:Nat) (v1:Int) (v4:Int),qD (qd tt Γ66 (T66 N) c) false qle Q n ⟨[u,u,u,.one (.int .i64 v1),u,u,.one (.sl 3 (.int .i64) v2 0),.one (.int .i64 v3),.one (.int .i64 v4),u,u,u,u,u,u,u,u],[]⟩=qfb N v2 v3 k0 n v1 v4:=by
 subst hc;intro n;induction n with
 | zero=>intros;rfl
 | succ n ih=>
   intro v1 v4
   rw [qR,qNr,qfb];unfold Try.f66
   simp (maxSteps:=10000000) -implicitDefEqProofs [qyr,qhm,qrU,qlA,qv9,qlB,qzC,qi5,qxa,qmB,qr3,qtk,qwU,qwq,qqZ,qyF,qtt,quN,qwc,g65,hret,h0,ih]
theorem qKo (N:Nat) (v0:List (Val (.int .i64))):qd tt Γ66 (T66 N) (Try.f66.body.getD .skip) (qp tt true [i3] [.tmp 2]) (qt [i25] 17 (v0,()))=m66 N v0:=by
 unfold Try.f66
 simp (maxSteps:=10000000) -implicitDefEqProofs [qyr,qhm,qrU,qlA,qv9,qlB,qzC,qi5,qxa,qmB,qr3,qtk,qwU,qwq,qqZ,qyF,qtt,quN,qwc,g65]
 rewrite [qMJ (k0:=(fun (v6:Int)=>some (v6,()))) N _ _ ?_ ?_ ?_]
 ·rewrite [m66];first | rfl | simp (maxSteps:=10000000) -implicitDefEqProofs []
 ·rfl
 ·intro;simp only [qK,qM,qO,qv]
 ·intro v6;simp (maxSteps:=10000000) -implicitDefEqProofs [qyr,qhm,qrU,qlA,qv9,qlB,qzC,qi5,qxa,qmB,qr3,qtk,qwU,qwq,qqZ,qyF,qtt,quN,qwc,g65]
def g66:G:={ps:=[i25],rs:=[i3],dp:=true,pre:=fun x=>qdG x.1,fn:=fun x=>(qaw x.1,())}
theorem e66 (xs:List (Val (.int .i64))) (h:qdG xs): ∃N,m66 N xs=some (qaw xs,()):=⟨xs.length+1,by
 rw [m66]
 rw [qb6 (F:=fun n i s=>qfb _ xs xs.length _ n s i) (step:=fun _ x s K=>chk (qb9 s x) (K (qB s x))) (k:=fun s=>some (s,())) h.1 ?_ ?_ _ _ (Nat.lt_succ_self _)]
 ·exact qDR xs 0 0 _ (by omega) h.2
 ·intro n i s hi
  rw [qfb,qh (by omega),qc (by omega),qL hi]
 ·intro n i s hi
  rw [qfb,qi (by omega)]⟩
theorem s66:Sound Try.prog 66 g66:=qw (tt:=tt) (Γ:=Γ66) hT (qf s65 qq) hm (fn:=Try.f66) Try.func66 (c:=Try.f66.body.getD .skip) (by kernel_rfl) (by kernel_rfl) fun x hx=>by
 obtain ⟨N,h⟩:=e66 x.1 hx
 exact ⟨T66 N,p66,qx _,qJO N,(qKo N x.1).trans h⟩
def g80:G:={ps:=[i3],rs:=[i3],dp:=true,pre:=fun x=>qaW x.1,fn:=fun x=>(qP x.1,())}
noncomputable def m80 (N:Nat) (v0:Int):Option (qb [i3]):=some ((max v0 (IntKind.i64.wrap (0 - v0))),())
def Γ80:Gam:=[]
def qoI:Nat→Tree:=fun _=> .done
def qvd:Nat→Nm:=fun _=>⟨[],[],false⟩
def qyf:Nat→Option Jn:=fun _=>none
def qt9:Nat→Option Nm:=fun _=>none
def qsE:Nat→Option Nm:=fun _=>none
theorem p80:ql qoI (Try.f80.body.getD .skip)=true:=by kernel_rfl
def T80 (N:Nat):Tab:={tr:=qoI,lp:=qvd,ex:=qt9,rg:=qsE,jn:=qyf,fuel:=N}
theorem qRt (N:Nat):(T80 N).pins=false:=rfl
theorem qQC (N:Nat):qm Try.prog (T80 N):=qu fun _=>rfl
theorem qGv (N:Nat) (i:Nat):(T80 N).tr i=qoI i:=rfl
theorem qGT (N:Nat) (i:Nat):(T80 N).lp i=qvd i:=rfl
theorem qMM (N:Nat) (i:Nat):(T80 N).ex i=qt9 i:=rfl
theorem qRu (N:Nat) (i:Nat):(T80 N).rg i=qsE i:=rfl
theorem qIT (N:Nat) (i:Nat):(T80 N).jn i=qyf i:=rfl
theorem qJ5 (N:Nat):(T80 N).fuel=N:=rfl
theorem qG8 (N:Nat) (v0:Int):qd tt Γ80 (T80 N) (Try.f80.body.getD .skip) (qp tt true [i3] [.tmp 2]) (qt [i3] 7 (v0,()))=m80 N v0:=by
 rw [m80];unfold Try.f80
 simp (maxSteps:=10000000) -implicitDefEqProofs [qGv,qoI,qGT,qvd,qMM,qt9,qRu,qsE,qIT,qyf,qJ5,qRt]
 try rfl
theorem e80 (n:Int) (h:inI n): ∃N,m80 N n=some (qP n,()):=⟨0,by
 unfold inI at h
 rw [m80,qb5 (by omega) (by omega)]
 have e:max n (0 - n)=qP n:=by unfold qP;omega
 rw [e]⟩
theorem s80:Sound Try.prog 80 g80:=qw (tt:=tt) (Γ:=Γ80) hT qq hm (fn:=Try.f80) Try.func80 (c:=Try.f80.body.getD .skip) (by kernel_rfl) (by kernel_rfl) fun x hx=>by
 obtain ⟨N,h⟩:=e80 x.1 hx
 exact ⟨T80 N,p80,qx _,qQC N,(qG8 N x.1).trans h⟩
noncomputable def m49 (N:Nat) (v0:Int) (v1:Int) (v2:Int):Option (qb [i4]):=bif (decide (v1≤v0))then (some ((decide (v0≤v2)),()))else (some (false,()))
def Γ49:Gam:=[]
def qns:Nat→Tree:=fun _=> .done
def qzd:Nat→Nm:=fun _=>⟨[],[],false⟩
def qwE:Nat→Option Jn:=fun _=>none
def qB3:Nat→Option Nm:=fun _=>none
def qtY:Nat→Option Nm:=fun _=>none
theorem p49:ql qns (Try.f49.body.getD .skip)=true:=by kernel_rfl
def T49 (N:Nat):Tab:={tr:=qns,lp:=qzd,ex:=qB3,rg:=qtY,jn:=qwE,fuel:=N}
theorem qRF (N:Nat):(T49 N).pins=false:=rfl
theorem qLU (N:Nat):qm Try.prog (T49 N):=qu fun _=>rfl
theorem qJn (N:Nat) (i:Nat):(T49 N).tr i=qns i:=rfl
theorem qG9 (N:Nat) (i:Nat):(T49 N).lp i=qzd i:=rfl
theorem qKg (N:Nat) (i:Nat):(T49 N).ex i=qB3 i:=rfl
theorem qHP (N:Nat) (i:Nat):(T49 N).rg i=qtY i:=rfl
theorem qJM (N:Nat) (i:Nat):(T49 N).jn i=qwE i:=rfl
theorem qHb (N:Nat):(T49 N).fuel=N:=rfl
theorem qRO (N:Nat) (v0:Int) (v1:Int) (v2:Int):qd tt Γ49 (T49 N) (Try.f49.body.getD .skip) (qp tt true [i4] [.tmp 6]) (qt [i3,i3,i3] 15 (v0,v1,v2,()))=m49 N v0 v1 v2:=by
 rw [m49];unfold Try.f49
 simp (maxSteps:=10000000) -implicitDefEqProofs [qJn,qns,qG9,qzd,qKg,qB3,qHP,qtY,qJM,qwE,qHb,qRF]
 try rfl
def g49:G:={ps:=[i3,i3,i3],rs:=[i4],dp:=true,pre:=fun _=>True,fn:=fun x=>(inR x.1 x.2.1 x.2.2.1,())}
theorem e49 (x a b:Int): ∃N,m49 N x a b=some (inR x a b,()):=⟨0,by
 simp only [m49,inR]
 by_cases h1:a≤x<;>by_cases h2:x≤b<;>simp [h1,h2]⟩
theorem s49:Sound Try.prog 49 g49:=qw (tt:=tt) (Γ:=Γ49) hT qq hm (fn:=Try.f49) Try.func49 (c:=Try.f49.body.getD .skip) (by kernel_rfl) (by kernel_rfl) fun x hx=>by
 obtain ⟨N,h⟩:=e49 x.1 x.2.1 x.2.2.1
 exact ⟨T49 N,p49,qx _,qLU N,(qRO N x.1 x.2.1 x.2.2.1).trans h⟩
noncomputable def m58 (N:Nat) (v0:Int):Option (qb [i4]):=some (((inR v0 (-400000000:Int) (400000000:Int)):Bool),())
def Γ58:Gam:=[(49,g49)]
theorem qF9:Gam.get Γ58 49=some g49:=rfl
def qqC:Nat→Tree:=fun _=> .done
def qyJ:Nat→Nm:=fun _=>⟨[],[],false⟩
def qxw:Nat→Option Jn:=fun _=>none
def qBT:Nat→Option Nm:=fun _=>none
def qrO:Nat→Option Nm:=fun _=>none
theorem p58:ql qqC (Try.f58.body.getD .skip)=true:=by kernel_rfl
def T58 (N:Nat):Tab:={tr:=qqC,lp:=qyJ,ex:=qBT,rg:=qrO,jn:=qxw,fuel:=N}
theorem qGR (N:Nat):(T58 N).pins=false:=rfl
theorem qNZ (N:Nat):qm Try.prog (T58 N):=qu fun _=>rfl
theorem qP8 (N:Nat) (i:Nat):(T58 N).tr i=qqC i:=rfl
theorem qJU (N:Nat) (i:Nat):(T58 N).lp i=qyJ i:=rfl
theorem qLd (N:Nat) (i:Nat):(T58 N).ex i=qBT i:=rfl
theorem qJb (N:Nat) (i:Nat):(T58 N).rg i=qrO i:=rfl
theorem qJR (N:Nat) (i:Nat):(T58 N).jn i=qxw i:=rfl
theorem qN6 (N:Nat):(T58 N).fuel=N:=rfl
theorem qJj (N:Nat) (v0:Int):qd tt Γ58 (T58 N) (Try.f58.body.getD .skip) (qp tt true [i4] [.tmp 2]) (qt [i3] 5 (v0,()))=m58 N v0:=by
 rw [m58];unfold Try.f58
 simp (maxSteps:=10000000) -implicitDefEqProofs [qP8,qqC,qJU,qyJ,qLd,qBT,qJb,qrO,qJR,qxw,qN6,qGR,qF9,g49]
 try rfl
noncomputable def m64 (N:Nat) (v0:Int):Option (qb [i4]):=bif (decide ((-400000000:Int)≤v0))then (some ((decide (v0≤(400000000:Int))),()))else (some (false,()))
def Γ64:Gam:=[]
def qpu:Nat→Tree:=fun _=> .done
def qtR:Nat→Nm:=fun _=>⟨[],[],false⟩
def qtA:Nat→Option Jn:=fun _=>none
def qxP:Nat→Option Nm:=fun _=>none
def qxu:Nat→Option Nm:=fun _=>none
theorem p64:ql qpu (Try.f64.body.getD .skip)=true:=by kernel_rfl
def T64 (N:Nat):Tab:={tr:=qpu,lp:=qtR,ex:=qxP,rg:=qxu,jn:=qtA,fuel:=N}
theorem qLm (N:Nat):(T64 N).pins=false:=rfl
theorem qJm (N:Nat):qm Try.prog (T64 N):=qu fun _=>rfl
theorem qQl (N:Nat) (i:Nat):(T64 N).tr i=qpu i:=rfl
theorem qIL (N:Nat) (i:Nat):(T64 N).lp i=qtR i:=rfl
theorem qOh (N:Nat) (i:Nat):(T64 N).ex i=qxP i:=rfl
theorem qSe (N:Nat) (i:Nat):(T64 N).rg i=qxu i:=rfl
theorem qOA (N:Nat) (i:Nat):(T64 N).jn i=qtA i:=rfl
theorem qRU (N:Nat):(T64 N).fuel=N:=rfl
theorem qJI (N:Nat) (v0:Int):qd tt Γ64 (T64 N) (Try.f64.body.getD .skip) (qp tt true [i4] [.tmp 2]) (qt [i3] 9 (v0,()))=m64 N v0:=by
 rw [m64];unfold Try.f64
 simp (maxSteps:=10000000) -implicitDefEqProofs [qQl,qpu,qIL,qtR,qOh,qxP,qSe,qxu,qOA,qtA,qRU,qLm]
 try rfl
def g58:G:={ps:=[i3],rs:=[i4],dp:=true,pre:=fun _=>True,fn:=fun x=>(qG x.1,())}
def g64:G:={ps:=[i3],rs:=[i4],dp:=true,pre:=fun _=>True,fn:=fun x=>(qG x.1,())}
theorem e58 (x:Int): ∃N,m58 N x=some (qG x,()):=⟨0,by
 simp only [m58,inR,qG]⟩
theorem s58:Sound Try.prog 58 g58:=qw (tt:=tt) (Γ:=Γ58) hT (qf s49 qq) hm (fn:=Try.f58) Try.func58 (c:=Try.f58.body.getD .skip) (by kernel_rfl) (by kernel_rfl) fun x hx=>by
 obtain ⟨N,h⟩:=e58 x.1
 exact ⟨T58 N,p58,qx _,qNZ N,(qJj N x.1).trans h⟩
theorem e64 (x:Int): ∃N,m64 N x=some (qG x,()):=⟨0,by
 simp only [m64,qG]
 by_cases h1: -400000000≤x<;>by_cases h2:x≤400000000<;>simp [h1,h2]⟩
theorem s64:Sound Try.prog 64 g64:=qw (tt:=tt) (Γ:=Γ64) hT qq hm (fn:=Try.f64) Try.func64 (c:=Try.f64.body.getD .skip) (by kernel_rfl) (by kernel_rfl) fun x hx=>by
 obtain ⟨N,h⟩:=e64 x.1
 exact ⟨T64 N,p64,qx _,qJm N,(qJI N x.1).trans h⟩
noncomputable def qcU (N:Nat) (v11:List (Val (.int .i64))) (v13:Int) (k2:Int→Option (qb [i3])):Nat→Int→Int→Option (qb [i3])
 | 0,_,_=>none
 | n+1,v12,v14=>bif (!(decide (v14=(0:Int))))then (chk (v14≠0) (qcU N v11 v13 k2 n v14 (v12.tmod v14)))else (k2 v12)
noncomputable def qeu (N:Nat) (v2:List (Val (.int .i64))) (k0:Int→Option (qb [i3])):Nat→Int→Int→Option (qb [i3])
 | 0,_,_=>none
 | n+1,v3,v4=>bif (decide (v4<(v2.length:Int)))then (chk (0≤v4∧v4<(v2.length:Int)) (chk (qaW ((v2.getD v4.toNat (qa (.int .i64))):Int)) (qcU N v2 v4 (fun (v16:Int)=>qeu N v2 k0 n v16 (IntKind.i64.wrap (v4+(1:Int)))) N v3 ((qP ((v2.getD v4.toNat (qa (.int .i64))):Int)):Int))))else (k0 v3)
noncomputable def m59 (N:Nat) (v0:List (Val (.int .i64))) (v1:Int):Option (qb [i3]):=chk (qaW v1) (qeu N v0 (fun (v18:Int)=>some (v18,())) N ((qP v1):Int) (0:Int))
def Γ59:Gam:=[(80,g80)]
theorem qlz:Gam.get Γ59 80=some g80:=rfl
def qi1:Nm:=⟨[true,false,false,false,false,true,true,true],[],false⟩
theorem qix:qi1.zero=false:=rfl
theorem qlo:qi1.fix=[]:=rfl
theorem qiu:qi1.keep=[true,false,false,false,false,true,true,true]:=rfl
def qmj:Nm:=⟨[true,false,false,false,false,true,true],[],false⟩
theorem qjS:qmj.zero=false:=rfl
theorem qjz:qmj.fix=[]:=rfl
theorem qjN:qmj.keep=[true,false,false,false,false,true,true]:=rfl
def qna:Nm:=⟨[false,false,false,false,false,true],[],false⟩
theorem qlF:qna.zero=false:=rfl
theorem ql1:qna.fix=[]:=rfl
theorem qjE:qna.keep=[false,false,false,false,false,true]:=rfl
def qoe:Nm:=⟨[true,false,false,false,false,true,true],[],false⟩
theorem ql2:qoe.zero=false:=rfl
theorem qjp:qoe.fix=[]:=rfl
theorem qjs:qoe.keep=[true,false,false,false,false,true,true]:=rfl
def qeV:Nat→Tree:=fun i=>if i=7 then .quiet 0 (.quiet 1 (.quiet 2 (.quiet 3 (.quiet 4 (.quiet 5 .done)))))else .done
def qgj:Nat→Nm:=fun i=>if i=6 then qi1 else if i=3 then qmj else ⟨[],[],false⟩
def qfl:Nat→Option Jn:=fun _=>none
def qfG:Nat→Option Nm:=fun i=>if i=0 then some qna else if i=2 then some qoe else none
def qf3:Nat→Option Nm:=fun _=>none
theorem p59:ql qeV (Try.f59.body.getD .skip)=true:=by kernel_rfl
def T59 (N:Nat):Tab:={tr:=qeV,lp:=qgj,ex:=qfG,rg:=qf3,jn:=qfl,fuel:=N}
theorem qj3 (N:Nat):(T59 N).pins=false:=rfl
theorem qGO (N:Nat):qm Try.prog (T59 N):=qu fun _=>rfl
theorem qkL (N:Nat) (i:Nat):(T59 N).tr i=qeV i:=rfl
theorem qj1 (N:Nat) (i:Nat):(T59 N).lp i=qgj i:=rfl
theorem qjq (N:Nat) (i:Nat):(T59 N).ex i=qfG i:=rfl
theorem qlP (N:Nat) (i:Nat):(T59 N).rg i=qf3 i:=rfl
theorem qk7 (N:Nat) (i:Nat):(T59 N).jn i=qfl i:=rfl
theorem qiC (N:Nat):(T59 N).fuel=N:=rfl
noncomputable def qEa:Code:=cut [true,true,false,true,true,true,true,false,true,true,true,true] (Try.f59.body.getD .skip)
theorem qOD {N:Nat} {Q:X→St→Option (qb [i3])} {e:List LV} {h:List Blk}:qd tt Γ59 (T59 N) qEa Q ⟨e,h⟩=qd tt Γ59 (T59 N) (cut [true,true,false,true,true,true,true,false,true,true,true,true] (Try.f59.body.getD .skip)) Q ⟨e,h⟩:=rfl
theorem qHZ (N:Nat) (v11:List (Val (.int .i64))) (v13:Int) {k2:Int→Option (qb [i3])} {Q:X→St→Option (qb [i3])} {c:Code} (hc:c=qEa) (hret: ∀st,Q .ret st=qI tt true [i3] [.tmp 4] st) (h2: ∀(v15:Int),Q (.exit 2) ⟨[.one (.sl 3 (.int .i64) v11 0),u,u,u,u,.one (.int .i64 v15),.one (.int .i64 v13),u,u,u,u,u,u,u,u,u,u,u,u,u,u,u,u,u,u,u,u,u],[]⟩=k2 v15): ∀(n:Nat) (v12:Int) (v14:Int),qD (qd tt Γ59 (T59 N) c) false qi1 Q n ⟨[.one (.sl 3 (.int .i64) v11 0),u,u,u,u,.one (.int .i64 v12),.one (.int .i64 v13),.one (.int .i64 v14),u,u,u,u,u,u,u,u,u,u,u,u,u,u,u,u,u,u,u,u],[]⟩=qcU N v11 v13 k2 n v12 v14:=by
 subst hc;intro n;induction n with
 | zero=>intros;rfl
 | succ n ih=>
   intro v12 v14
   rw [qR,qOD,qcU];unfold Try.f59
   simp (maxSteps:=10000000) -implicitDefEqProofs [qkL,qeV,qj1,qgj,qjq,qfG,qlP,qf3,qk7,qfl,qiC,qj3,qlo,qiu,qix,qjz,qjN,qjS,ql1,qjE,qlF,qjp,qjs,ql2,qlz,g80,hret,h2,ih]
noncomputable def qDu:Code:=cut [true,true,false,true,true,true] (Try.f59.body.getD .skip)
theorem qNa {N:Nat} {Q:X→St→Option (qb [i3])} {e:List LV} {h:List Blk}:qd tt Γ59 (T59 N) qDu Q ⟨e,h⟩=qd tt Γ59 (T59 N) (cut [true,true,false,true,true,true] (Try.f59.body.getD .skip)) Q ⟨e,h⟩:=rfl
theorem qOx (N:Nat) (v2:List (Val (.int .i64))) {k0:Int→Option (qb [i3])} {Q:X→St→Option (qb [i3])} {c:Code} (hc:c=qDu) (hret: ∀st,Q .ret st=qI tt true [i3] [.tmp 4] st) (h0: ∀(v17:Int),Q (.exit 0) ⟨[u,u,u,u,u,.one (.int .i64 v17),u,u,u,u,u,u,u,u,u,u,u,u,u,u,u,u,u,u,u,u,u,u],[]⟩=k0 v17): ∀(n:Nat) (v3:Int) (v4:Int),qD (qd tt Γ59 (T59 N) c) false qmj Q n ⟨[.one (.sl 3 (.int .i64) v2 0),u,u,u,u,.one (.int .i64 v3),.one (.int .i64 v4),u,u,u,u,u,u,u,u,u,u,u,u,u,u,u,u,u,u,u,u,u],[]⟩=qeu N v2 k0 n v3 v4:=by
 subst hc;intro n;induction n with
 | zero=>intros;rfl
 | succ n ih=>
   intro v3 v4
   rw [qR,qNa];unfold Try.f59
   simp (maxSteps:=10000000) -implicitDefEqProofs [qkL,qeV,qj1,qgj,qjq,qfG,qlP,qf3,qk7,qfl,qiC,qj3,qlo,qiu,qix,qjz,qjN,qjS,ql1,qjE,qlF,qjp,qjs,ql2,qlz,g80,hret,h0,ih]
   rewrite [qHZ (k2:=(fun (v16:Int)=>qeu N v2 k0 n v16 (IntKind.i64.wrap (v4+(1:Int))))) N _ _ ?_ ?_ ?_]
   ·rewrite [qeu];first | rfl | simp (maxSteps:=10000000) -implicitDefEqProofs [ih]
   ·rfl
   ·intro;simp only [qK,qM,qO,qv,hret]
   ·intro v16;simp (maxSteps:=10000000) -implicitDefEqProofs [qkL,qeV,qj1,qgj,qjq,qfG,qlP,qf3,qk7,qfl,qiC,qj3,qlo,qiu,qix,qjz,qjN,qjS,ql1,qjE,qlF,qjp,qjs,ql2,qlz,g80,hret,h0,ih]
theorem qKw (N:Nat) (v0:List (Val (.int .i64))) (v1:Int):qd tt Γ59 (T59 N) (Try.f59.body.getD .skip) (qp tt true [i3] [.tmp 4]) (qt [i25,i3] 28 (v0,v1,()))=m59 N v0 v1:=by
 unfold Try.f59
 simp (maxSteps:=10000000) -implicitDefEqProofs [qkL,qeV,qj1,qgj,qjq,qfG,qlP,qf3,qk7,qfl,qiC,qj3,qlo,qiu,qix,qjz,qjN,qjS,ql1,qjE,qlF,qjp,qjs,ql2,qlz,g80]
 rewrite [qOx (k0:=(fun (v18:Int)=>some (v18,()))) N _ ?_ ?_ ?_]
 ·rewrite [m59];first | rfl | simp (maxSteps:=10000000) -implicitDefEqProofs []
 ·rfl
 ·intro;simp only [qK,qM,qO,qv]
 ·intro v18;simp (maxSteps:=10000000) -implicitDefEqProofs [qkL,qeV,qj1,qgj,qjq,qfG,qlP,qf3,qk7,qfl,qiC,qj3,qlo,qiu,qix,qjz,qjN,qjS,ql1,qjE,qlF,qjp,qjs,ql2,qlz,g80]
theorem qEi (N:Nat) (xs:List (Val (.int .i64))) (v:Int) (k:Int→Option (qb [i3])): ∀(n b a:Nat),b<n→qcU N xs v k n (a:Int) (b:Int)=k (Nat.gcd a b:Nat)
 | 0,_,_,h=>by omega
 | n+1,b,a,h=>by
   rw [qcU]
   by_cases hb:b=0
   ·subst hb;simp
   ·have hb': ¬((b:Int)=0):=by omega
    have hlt:a % b<b:=Nat.mod_lt _ (by omega)
    have hm:((a:Int).tmod (b:Int))=((a % b:Nat):Int):=by rw [Int.tmod_eq_emod_of_nonneg (by omega)];rfl
    simp only [hb',decide_false,Bool.not_false,cond_true,ne_eq,not_false_eq_true,qCO]
    rw [hm,qEi N xs v k n (a % b) b (by omega)]
    congr 2
    rw [Nat.gcd_comm b,←Nat.gcd_rec,Nat.gcd_comm]
theorem qFT (N:Nat) (xs:List (Val (.int .i64))) (v v':Int) (k:Int→Option (qb [i3])): ∀(n:Nat) (a b:Int),qcU N xs v k n a b=qcU N xs v' k n a b
 | 0,_,_=>rfl
 | n+1,a,b=>by rw [qcU,qcU,qFT N xs v v' k n]
theorem t59 (N:Nat) (hN:9223372036854775807<N) (ys:List (Val (.int .i64))): ∀(xs:List Int) (i g:Nat) (k:Int→Option (qb [i3])),(∀x∈xs,inI x)→qaa (fun _ x s K=>chk (qaW x) (qcU N ys 0 K N s (qP x))) i xs (g:Int) k=k (gL g xs:Nat)
 | [],_,_,_,_=>rfl
 | x::xs,i,g,k,hx=>by
   have h1:=hx x (by simp)
   rw [qaa,qc (show qaW x from h1)]
   simp only [qP]
   rw [qEi _ _ _ _ _ _ _ (by unfold inI at h1;omega)]
   exact t59 N hN ys xs (i+1) _ k fun y hy=>hx y (by simp [hy])
def g59:G:={ps:=[i25,i3],rs:=[i3],dp:=true,pre:=fun x=>qdH x.1 x.2.1,fn:=fun x=>(qcj x.1 x.2.1,())}
theorem e59 (xs:List (Val (.int .i64))) (k:Int) (h:qdH xs k): ∃N,m59 N xs k=some (qcj xs k,()):=⟨9223372036854775808+xs.length,by
 rw [m59,qc (show qaW k from h.2.1)]
 rw [qb6 (F:=fun n i s=>qeu _ xs _ n s i) (step:=fun _ x s K=>chk (qaW x) (qcU (9223372036854775808+xs.length) xs 0 K (9223372036854775808+xs.length) s (qP x))) (k:=fun s=>some (s,())) h.1 ?_ ?_ _ _ (by omega)]
 ·exact t59 _ (by omega) xs xs 0 k.natAbs _ h.2.2
 ·intro n i s hi
  rw [qeu,qh (by omega),qc (by omega),qL hi]
  congr 1
  exact qFT ..
 ·intro n i s hi
  rw [qeu,qi (by omega)]⟩
theorem s59:Sound Try.prog 59 g59:=qw (tt:=tt) (Γ:=Γ59) hT (qf s80 qq) hm (fn:=Try.f59) Try.func59 (c:=Try.f59.body.getD .skip) (by kernel_rfl) (by kernel_rfl) fun x hx=>by
 obtain ⟨N,h⟩:=e59 x.1 x.2.1 hx
 exact ⟨T59 N,p59,qx _,qGO N,(qKw N x.1 x.2.1).trans h⟩
def qz (a:Val Y36):Bool:=decide ((a.1:List Int).length≤4)&&qG a.2.1&&(a.1:List Int).all qG&&decide (((gL (Int.natAbs a.2.1) a.1:Nat):Int)≤1)
noncomputable def qeH (N:Nat) (v2:List (Val (.int .i64))) (v3:Int) (v4:Bool) (k0:Unit→Option (qb [i4])):Nat→Int→Option (qb [i4])
 | 0,_=>none
 | n+1,v1=>bif (decide (v1<(v2.length:Int)))then (chk (0≤v1∧v1<(v2.length:Int)) (bif (!((qG ((v2.getD v1.toNat (qa (.int .i64))):Int)):Bool))then (some (false,()))else (qeH N v2 v3 v4 k0 n (IntKind.i64.wrap (v1+(1:Int))))))else (k0 ())
noncomputable def m43 (N:Nat) (v0:Val Y36):Option (qb [i4]):=bif (decide ((4:Int)<((v0.1:List (Val (.int .i64))).length:Int)))then (some (false,()))else (bif (!((qG (v0.2.1:Int)):Bool))then (some (false,()))else (qeH N (v0.1:List (Val (.int .i64))) (v0.2.1:Int) (v0.2.2:Bool) (fun (_:Unit)=>chk (qdH (v0.1:List (Val (.int .i64))) (v0.2.1:Int)) (some ((decide (((qcj (v0.1:List (Val (.int .i64))) (v0.2.1:Int)):Int)≤(1:Int))),()))) N (0:Int)))
def Γ43:Gam:=[(58,g58),(59,g59)]
theorem quS:Gam.get Γ43 58=some g58:=rfl
theorem qwf:Gam.get Γ43 59=some g59:=rfl
def qiY:Nm:=⟨[false,true,false,true],[],false⟩
theorem qti:qiY.zero=false:=rfl
theorem qve:qiY.fix=[]:=rfl
theorem qB9:qiY.keep=[false,true,false,true]:=rfl
def qpm:Nm:=⟨[false,true],[],false⟩
theorem qxs:qpm.zero=false:=rfl
theorem qsB:qpm.fix=[]:=rfl
theorem quh:qpm.keep=[false,true]:=rfl
def qh9:Nat→Tree:=fun _=> .done
def qiV:Nat→Nm:=fun i=>if i=4 then qiY else ⟨[],[],false⟩
def qiG:Nat→Option Jn:=fun _=>none
def qlN:Nat→Option Nm:=fun i=>if i=0 then some qpm else none
def qlI:Nat→Option Nm:=fun _=>none
theorem p43:ql qh9 (Try.f43.body.getD .skip)=true:=by kernel_rfl
def T43 (N:Nat):Tab:={tr:=qh9,lp:=qiV,ex:=qlN,rg:=qlI,jn:=qiG,fuel:=N}
theorem qCf (N:Nat):(T43 N).pins=false:=rfl
theorem qMc (N:Nat):qm Try.prog (T43 N):=qu fun _=>rfl
theorem qtr (N:Nat) (i:Nat):(T43 N).tr i=qh9 i:=rfl
theorem qwB (N:Nat) (i:Nat):(T43 N).lp i=qiV i:=rfl
theorem qqV (N:Nat) (i:Nat):(T43 N).ex i=qlN i:=rfl
theorem qsF (N:Nat) (i:Nat):(T43 N).rg i=qlI i:=rfl
theorem qAT (N:Nat) (i:Nat):(T43 N).jn i=qiG i:=rfl
theorem qAv (N:Nat):(T43 N).fuel=N:=rfl
noncomputable def qEl:Code:=cut [true,true,false,true,true,true] (Try.f43.body.getD .skip)
theorem qJv {N:Nat} {Q:X→St→Option (qb [i4])} {e:List LV} {h:List Blk}:qd tt Γ43 (T43 N) qEl Q ⟨e,h⟩=qd tt Γ43 (T43 N) (cut [true,true,false,true,true,true] (Try.f43.body.getD .skip)) Q ⟨e,h⟩:=rfl
theorem qKr (N:Nat) (v2:List (Val (.int .i64))) (v3:Int) (v4:Bool) {k0:Unit→Option (qb [i4])} {Q:X→St→Option (qb [i4])} {c:Code} (hc:c=qEl) (hret: ∀st,Q .ret st=qI tt true [i4] [.tmp 2] st) (h0:Q (.exit 0) ⟨[u,.one (.ptr 0 0 0),u,u,u,u,u,u,u,u,u,u,u,u,u,u,u,u,u,u,u,u,u,u,u,u,u,u,u,u,u,u,u,u],[.box [.sl 3 (.int .i64) v2 1,.int .i64 v3,.bool v4]]⟩=k0 ()): ∀(n:Nat) (v1:Int),qD (qd tt Γ43 (T43 N) c) false qiY Q n ⟨[u,.one (.ptr 0 0 0),u,.one (.int .i64 v1),u,u,u,u,u,u,u,u,u,u,u,u,u,u,u,u,u,u,u,u,u,u,u,u,u,u,u,u,u,u],[.box [.sl 3 (.int .i64) v2 1,.int .i64 v3,.bool v4]]⟩=qeH N v2 v3 v4 k0 n v1:=by
 subst hc;intro n;induction n with
 | zero=>intros;rfl
 | succ n ih=>
   intro v1
   rw [qR,qJv,qeH];unfold Try.f43
   simp (maxSteps:=10000000) -implicitDefEqProofs [qtr,qh9,qwB,qiV,qqV,qlN,qsF,qlI,qAT,qiG,qAv,qCf,qve,qB9,qti,qsB,quh,qxs,quS,qwf,g58,g59,hret,h0,ih]
theorem qR1 (N:Nat) (v0:Val Y36):qd tt Γ43 (T43 N) (Try.f43.body.getD .skip) (qp tt true [i4] [.tmp 2]) (qt [i36] 34 (v0,()))=m43 N v0:=by
 unfold Try.f43
 simp (maxSteps:=10000000) -implicitDefEqProofs [qtr,qh9,qwB,qiV,qqV,qlN,qsF,qlI,qAT,qiG,qAv,qCf,qve,qB9,qti,qsB,quh,qxs,quS,qwf,g58,g59]
 rewrite [qKr (k0:=(fun (_:Unit)=>chk (qdH (v0.1:List (Val (.int .i64))) (v0.2.1:Int)) (some ((decide (((qcj (v0.1:List (Val (.int .i64))) (v0.2.1:Int)):Int)≤(1:Int))),())))) N _ _ _ ?_ ?_ ?_]
 ·rewrite [m43];first | rfl | simp (maxSteps:=10000000) -implicitDefEqProofs []
 ·rfl
 ·intro;simp only [qK,qM,qO,qv]
 ·simp (maxSteps:=10000000) -implicitDefEqProofs [qtr,qh9,qwB,qiV,qqV,qlN,qsF,qlI,qAT,qiG,qAv,qCf,qve,qB9,qti,qsB,quh,qxs,quS,qwf,g58,g59]
noncomputable def qer (N:Nat) (v1:List (Val (.int .i64))) (v2:Int) (v4:List (Val (.int .i64))) (v5:Int) (v6:Bool) (k0:Unit→Option (qb [i4])):Nat→Int→Option (qb [i4])
 | 0,_=>none
 | n+1,v3=>bif (decide (v3<v2))then (chk (0≤v3∧v3<(v1.length:Int)) (bif (!((qG ((v1.getD v3.toNat (qa (.int .i64))):Int)):Bool))then (some (false,()))else (qer N v1 v2 v4 v5 v6 k0 n (IntKind.i64.wrap (v3+(1:Int))))))else (k0 ())
noncomputable def m45 (N:Nat) (v0:Val Y36):Option (qb [i4]):=bif (decide ((4:Int)<((v0.1:List (Val (.int .i64))).length:Int)))then (some (false,()))else (bif (!((qG (v0.2.1:Int)):Bool))then (some (false,()))else (qer N (v0.1:List (Val (.int .i64))) ((v0.1:List (Val (.int .i64))).length:Int) (v0.1:List (Val (.int .i64))) (v0.2.1:Int) (v0.2.2:Bool) (fun (_:Unit)=>chk (qdG (v0.1:List (Val (.int .i64)))) (chk (qb9 ((qaw (v0.1:List (Val (.int .i64)))):Int) (v0.2.1:Int)) (some ((decide (((qB ((qaw (v0.1:List (Val (.int .i64)))):Int) (v0.2.1:Int)):Int)≤(1:Int))),())))) N (0:Int)))
def Γ45:Gam:=[(64,g64),(65,g65),(66,g66)]
theorem qAi:Gam.get Γ45 64=some g64:=rfl
theorem qq0:Gam.get Γ45 65=some g65:=rfl
theorem qux:Gam.get Γ45 66=some g66:=rfl
def qjo:Nm:=⟨[false,true,false,false,false,false,false,false,false,false,false,false,false,false,false,false,true,true,true],[],false⟩
theorem qvD:qjo.zero=false:=rfl
theorem qBh:qjo.fix=[]:=rfl
theorem qwY:qjo.keep=[false,true,false,false,false,false,false,false,false,false,false,false,false,false,false,false,true,true,true]:=rfl
def qo6:Nm:=⟨[false,true],[],false⟩
theorem qrS:qo6.zero=false:=rfl
theorem quT:qo6.fix=[]:=rfl
theorem qs1:qo6.keep=[false,true]:=rfl
def qqv:Nm:=⟨[false,false,true],[],false⟩
theorem qAy:qqv.zero=false:=rfl
theorem qtH:qqv.fix=[]:=rfl
theorem qzY:qqv.keep=[false,false,true]:=rfl
def qh5:Nat→Tree:=fun i=>if i=9 then .quiet 0 (.quiet 1 (.alt 2 (.quiet 3 (.quiet 4 (.alt 5 (.quiet 6 (.quiet 7 .done)) .stop))) (.alt 3 (.alt 2 (.quiet 4 (.alt 5 (.quiet 6 (.quiet 7 .done)) .stop)) (.alt 4 (.alt 2 (.alt 5 (.quiet 6 (.quiet 7 .done)) .stop) .stop) .stop)) .stop)))else .done
def qiw:Nat→Nm:=fun i=>if i=4 then qjo else ⟨[],[],false⟩
def qkx:Nat→Option Jn:=fun _=>none
def qmq:Nat→Option Nm:=fun i=>if i=0 then some qo6 else none
def qju:Nat→Option Nm:=fun i=>if i=9 then some qqv else none
theorem p45:ql qh5 (Try.f45.body.getD .skip)=true:=by kernel_rfl
def T45 (N:Nat):Tab:={tr:=qh5,lp:=qiw,ex:=qmq,rg:=qju,jn:=qkx,fuel:=N}
theorem qwx (N:Nat):(T45 N).pins=false:=rfl
theorem qKA (N:Nat):qm Try.prog (T45 N):=qu fun _=>rfl
theorem qrB (N:Nat) (i:Nat):(T45 N).tr i=qh5 i:=rfl
theorem qBU (N:Nat) (i:Nat):(T45 N).lp i=qiw i:=rfl
theorem qAj (N:Nat) (i:Nat):(T45 N).ex i=qmq i:=rfl
theorem qtB (N:Nat) (i:Nat):(T45 N).rg i=qju i:=rfl
theorem qrs (N:Nat) (i:Nat):(T45 N).jn i=qkx i:=rfl
theorem qv6 (N:Nat):(T45 N).fuel=N:=rfl
noncomputable def qD9:Code:=cut [true,true,false,true,true,true] (Try.f45.body.getD .skip)
theorem qK7 {N:Nat} {Q:X→St→Option (qb [i4])} {e:List LV} {h:List Blk}:qd tt Γ45 (T45 N) qD9 Q ⟨e,h⟩=qd tt Γ45 (T45 N) (cut [true,true,false,true,true,true] (Try.f45.body.getD .skip)) Q ⟨e,h⟩:=rfl
theorem qSh (N:Nat) (v1:List (Val (.int .i64))) (v2:Int) (v4:List (Val (.int .i64))) (v5:Int) (v6:Bool) {k0:Unit→Option (qb [i4])} {Q:X→St→Option (qb [i4])} {c:Code} (hc:c=qD9) (hret: ∀st,Q .ret st=qI tt true [i4] [.tmp 2] st) (h0:Q (.exit 0) ⟨[u,.one (.ptr 0 0 0),u,u,u,u,u,u,u,u,u,u,u,u,u,u,u,u,u,u,u,u,u,u,u,u,u,u,u,u,u,u,u],[.box [.sl 3 (.int .i64) v4 1,.int .i64 v5,.bool v6]]⟩=k0 ()): ∀(n:Nat) (v3:Int),qD (qd tt Γ45 (T45 N) c) false qjo Q n ⟨[u,.one (.ptr 0 0 0),u,u,u,u,u,u,u,u,u,u,u,u,u,u,.one (.sl 3 (.int .i64) v1 1),.one (.int .i64 v2),.one (.int .i64 v3),u,u,u,u,u,u,u,u,u,u,u,u,u,u],[.box [.sl 3 (.int .i64) v4 1,.int .i64 v5,.bool v6]]⟩=qer N v1 v2 v4 v5 v6 k0 n v3:=by
 subst hc;intro n;induction n with
 | zero=>intros;rfl
 | succ n ih=>
   intro v3
   rw [qR,qK7,qer];unfold Try.f45
   simp (maxSteps:=10000000) -implicitDefEqProofs [qrB,qh5,qBU,qiw,qAj,qmq,qtB,qju,qrs,qkx,qv6,qwx,qBh,qwY,qvD,quT,qs1,qrS,qtH,qzY,qAy,qAi,qq0,qux,g64,g65,g66,hret,h0,ih]
theorem qJ2 (N:Nat) (v0:Val Y36):qd tt Γ45 (T45 N) (Try.f45.body.getD .skip) (qp tt true [i4] [.tmp 2]) (qt [i36] 33 (v0,()))=m45 N v0:=by
 unfold Try.f45
 simp (maxSteps:=10000000) -implicitDefEqProofs [qrB,qh5,qBU,qiw,qAj,qmq,qtB,qju,qrs,qkx,qv6,qwx,qBh,qwY,qvD,quT,qs1,qrS,qtH,qzY,qAy,qAi,qq0,qux,g64,g65,g66]
 rewrite [qSh (k0:=(fun (_:Unit)=>chk (qdG (v0.1:List (Val (.int .i64)))) (chk (qb9 ((qaw (v0.1:List (Val (.int .i64)))):Int) (v0.2.1:Int)) (some ((decide (((qB ((qaw (v0.1:List (Val (.int .i64)))):Int) (v0.2.1:Int)):Int)≤(1:Int))),()))))) N _ _ _ _ _ ?_ ?_ ?_]
 ·rewrite [m45];first | rfl | simp (maxSteps:=10000000) -implicitDefEqProofs []
 ·rfl
 ·intro;simp only [qK,qM,qO,qv]
 ·simp (maxSteps:=10000000) -implicitDefEqProofs [qrB,qh5,qBU,qiw,qAj,qmq,qtB,qju,qrs,qkx,qv6,qwx,qBh,qwY,qvD,quT,qs1,qrS,qtH,qzY,qAy,qAi,qq0,qux,g64,g65,g66]
theorem qc3 {n:Int} (h:qG n=true):inI n:=by
 unfold qG at h;unfold inI;have:=of_decide_eq_true h;omega
def g43:G:={ps:=[i36],rs:=[i4],dp:=true,pre:=fun _=>True,fn:=fun x=>(qz x.1,())}
def g45:G:={ps:=[i36],rs:=[i4],dp:=true,pre:=fun _=>True,fn:=fun x=>(qz x.1,())}
theorem t43 (N:Nat) (xs:List (Val (.int .i64))) (c:Int) (b:Bool) (K:Unit→Option (qb [i4])) (hl:xs.length≤1048576) (n:Nat) (hn:xs.length<n):qeH N xs c b K n 0=bif List.all (α:=Int) xs qG then K ()else some (false,()):=
 (qb6 (F:=fun n i (_:Unit)=>qeH N xs c b K n i) (step:=fun _ x _ K=>bif qG x then K ()else some (false,())) (k:=K) hl (fun n i s hi=>by rw [qeH,qh (by omega),qc (by omega),qL hi,qar]) (fun n i s hi=>by rw [qeH,qi (by omega)]) n () hn).trans (qga xs 0)
theorem t45 (N:Nat) (xs ys:List (Val (.int .i64))) (c:Int) (b:Bool) (K:Unit→Option (qb [i4])) (hl:xs.length≤1048576) (n:Nat) (hn:xs.length<n):qer N xs xs.length ys c b K n 0=bif List.all (α:=Int) xs qG then K ()else some (false,()):=
 (qb6 (F:=fun n i (_:Unit)=>qer N xs xs.length ys c b K n i) (step:=fun _ x _ K=>bif qG x then K ()else some (false,())) (k:=K) hl (fun n i s hi=>by rw [qer,qh (by omega),qc (by omega),qL hi,qar]) (fun n i s hi=>by rw [qer,qi (by omega)]) n () hn).trans (qga xs 0)
theorem e43 (a:Val Y36): ∃N,m43 N a=some (qz a,()):=⟨(a.1:List (Val (.int .i64))).length+1,by
 obtain ⟨xs,c,b⟩:=a
 change List (Val (.int .i64))at xs
 change Int at c
 change Bool at b
 rw [m43,qz]
 dsimp only
 by_cases h4:xs.length≤4
 ·rw [qi (by omega)]
  cases hc:qG c with
  | false=>simp
  | true=>
    rw [t43 _ xs _ _ _ (by omega) _ (Nat.lt_succ_self _)]
    cases ha:List.all (α:=Int) xs qG with
    | false=>simp
    | true=>
      rw [qc (show qdH xs c from ⟨by omega,qc3 hc,fun x hx=>qc3 (List.all_eq_true.1 ha x hx)⟩)]
      simp [h4,qcj]
      rfl
 ·rw [qh (by omega)]
  simp [h4]⟩
theorem s43:Sound Try.prog 43 g43:=qw (tt:=tt) (Γ:=Γ43) hT (qf s58 (qf s59 qq)) hm (fn:=Try.f43) Try.func43 (c:=Try.f43.body.getD .skip) (by kernel_rfl) (by kernel_rfl) fun x hx=>by
 obtain ⟨N,h⟩:=e43 x.1
 exact ⟨T43 N,p43,qx _,qMc N,(qR1 N x.1).trans h⟩
theorem qBu: ∀(xs:List Int) (g:Nat),(g:Int)≤9223372036854775807→(∀x∈xs,inI x)→inI (gL g xs:Nat)
 | [],g,h,_=>by unfold inI gL;omega
 | x::xs,g,h,hx=>qBu xs _ (qC8 h (hx x (by simp))).2 fun y hy=>hx y (by simp [hy])
theorem e45 (a:Val Y36): ∃N,m45 N a=some (qz a,()):=⟨(a.1:List (Val (.int .i64))).length+1,by
 obtain ⟨xs,c,b⟩:=a
 change List (Val (.int .i64))at xs
 change Int at c
 change Bool at b
 rw [m45,qz]
 dsimp only
 by_cases h4:xs.length≤4
 ·rw [qi (by omega)]
  cases hc:qG c with
  | false=>simp
  | true=>
    rw [t45 _ xs _ _ _ _ (by omega) _ (Nat.lt_succ_self _)]
    cases ha:List.all (α:=Int) xs qG with
    | false=>simp
    | true=>
      have hx: ∀x∈xs,inI x:=fun x hx=>qc3 (List.all_eq_true.1 ha x hx)
      have e:Nat.gcd (gL 0 xs) c.natAbs=gL c.natAbs xs:=by rw [←qmU,Nat.gcd_zero_left]
      rw [qc (show qdG xs from ⟨by omega,hx⟩),qc (show qb9 (qaw xs) c from ⟨qBu xs 0 (by omega) hx,qc3 hc⟩)]
      simp [h4,qaw,qB,e]
 ·rw [qh (by omega)]
  simp [h4]⟩
theorem s45:Sound Try.prog 45 g45:=qw (tt:=tt) (Γ:=Γ45) hT (qf s64 (qf s65 (qf s66 qq))) hm (fn:=Try.f45) Try.func45 (c:=Try.f45.body.getD .skip) (by kernel_rfl) (by kernel_rfl) fun x hx=>by
 obtain ⟨N,h⟩:=e45 x.1
 exact ⟨T45 N,p45,qx _,qKA N,(qJ2 N x.1).trans h⟩
end Go.T
