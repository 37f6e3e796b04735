/- Atoms of numbers; cells' bounds. -/
import Derived.Test.YtlhkmndfkjlodaaA2
import Derived.Test.YtlhkmndfkjlodaaA3
set_option linter.unusedSimpArgs false
set_option linter.unusedVariables false
namespace Go.T
open Go Go.Proofs
set_option maxHeartbeats 4000000
set_option maxRecDepth 100000
theorem qyU {ρ α β:Type} {f:α→β} {k:List β→Option ρ}: ∀(xs:List α) (i:Nat) (s:List β),s.length+xs.length≤1048576→qZ (fun _ x (s:List β) K=>chk (s.length+[f x].length≤1048576) (K (s++[f x]))) i xs s k=k (s++xs.map f)
 | [],_,s,_=>by rw [qZ];simp
 | x::xs,i,s,h=>by
   simp only [List.length_cons]at h
   rw [qZ,qd (by simp;omega)];dsimp only;rw [qyU xs (i+1) _ (by simp;omega)]
   simp
theorem qdD {x:Int} {g:Nat} (h:inI x):IntKind.i64.wrap (x.tdiv (g:Int))=x.tdiv (g:Int):=by
 have:(x.tdiv (g:Int)).natAbs≤x.natAbs:=by
  rw [Int.natAbs_tdiv];exact Nat.div_le_self _ _
 unfold inI at h
 exact qbp (by omega) (by omega)
def qlZ (co:List (Val (.int .i64))) (k:Int) (s:Bool) (g:Nat):Val Y83×Bool:=
 bif qK (List.map (α:=Int) (fun x=>x.tdiv (g:Int)) co,k.tdiv (g:Int),s)then ((List.map (α:=Int) (fun x=>x.tdiv (g:Int)) co,k.tdiv (g:Int),s),true)else (([],(0:Int),false),false)
def qab (co:List (Val (.int .i64))) (k:Int) (s:Bool):Val Y83×Bool:=qlZ co k s (max 1 (gL k.natAbs co))
def qcS (co:List (Val (.int .i64))) (k:Int) (_:Bool):Prop:=qgY co k
theorem qDz (co:List (Val (.int .i64))) (k:Int) (s:Bool) (g:Nat) (hg:g=max 1 (gL k.natAbs co)):(bif !qK (List.map (α:=Int) (fun x=>x.tdiv (g:Int)) co,k.tdiv (g:Int),s)then some ((([]:List (Val (.int .i64))),(0:Int),false),false,())else some ((List.map (α:=Int) (fun x=>x.tdiv (g:Int)) co,k.tdiv (g:Int),s),true,()))=some ((qab co k s).1,(qab co k s).2,()):=by
 rw [qab,←hg,qlZ,q9]
 cases qK (List.map (α:=Int) (fun x=>x.tdiv (g:Int)) co,k.tdiv (g:Int),s)<;>rfl
noncomputable def qcJ (N:Nat) (v3:Int) (v4:List (Val (.int .i64))) (v5:Int) (v7:Int) (v8:Bool) (v9:Int) (v10:Bool) (k0:(List (Val (.int .i64)))→Option (qa [i83,i4])):Nat→Int→(List (Val (.int .i64)))→Option (qa [i83,i4])
 | 0,_,_=>none
 | n+1,v6,v11=>bif (decide (v6<v5))then (chk (0≤v6∧v6<(v4.length:Int)) (chk (v3≠0) (chk (0≤v6∧v6<(v11.length:Int)) (chk (v6.toNat<v11.length) (qcJ N v3 v4 v5 v7 v8 v9 v10 k0 n (IntKind.i64.wrap (v6+(1:Int))) (v11.set v6.toNat (IntKind.i64.wrap (((v4.getD v6.toNat (qc (.int .i64))):Int).tdiv v3))))))))else (k0 v11)
noncomputable def m45 (N:Nat) (v0:List (Val (.int .i64))) (v1:Int) (v2:Bool):Option (qa [i83,i4]):=chk (qe7 v0) (chk (qaC ((qak v0):Int) v1) (bif (decide (((qw ((qak v0):Int) v1):Int)=(0:Int)))then (chk ((1:Int)≠0) (chk (0≤(v0.length:Int)∧(v0.length:Int)≤(v0.length:Int)∧(v0.length:Int)≤1048576) (qcJ N (1:Int) v0 (v0.length:Int) (0:Int) false (IntKind.i64.wrap (v1.tdiv (1:Int))) v2 (fun (v13:List (Val (.int .i64)))=>bif (!((qK (v13,(IntKind.i64.wrap (v1.tdiv (1:Int))),v2)):Bool))then (some ((([]:List (Val (.int .i64))),(0:Int),false),false,()))else (some ((v13,(IntKind.i64.wrap (v1.tdiv (1:Int))),v2),true,()))) N (0:Int) (List.replicate (v0.length:Int).toNat (qc (.int .i64))))))else (chk (((qw ((qak v0):Int) v1):Int)≠0) (chk (0≤(v0.length:Int)∧(v0.length:Int)≤(v0.length:Int)∧(v0.length:Int)≤1048576) (qcJ N ((qw ((qak v0):Int) v1):Int) v0 (v0.length:Int) (0:Int) false (IntKind.i64.wrap (v1.tdiv ((qw ((qak v0):Int) v1):Int))) v2 (fun (v4:List (Val (.int .i64)))=>bif (!((qK (v4,(IntKind.i64.wrap (v1.tdiv ((qw ((qak v0):Int) v1):Int))),v2)):Bool))then (some ((([]:List (Val (.int .i64))),(0:Int),false),false,()))else (some ((v4,(IntKind.i64.wrap (v1.tdiv ((qw ((qak v0):Int) v1):Int))),v2),true,()))) N (0:Int) (List.replicate (v0.length:Int).toNat (qc (.int .i64))))))))
def Γ45:Gam:=[(93,g93),(94,g94),(95,g95)]
theorem qmd:Gam.get Γ45 93=some g93:=rfl
theorem qn5:Gam.get Γ45 94=some g94:=rfl
theorem qm0:Gam.get Γ45 95=some g95:=rfl
def qji:Nm:=⟨[false,false,false,false,false,false,true,false,true,true,false,false,false,false,false,false,false,false,false,false,false,false,false,false,false,false,true,true,true],[],false⟩
theorem qn9:qji.zero=false:=rfl
theorem qmi:qji.fix=[]:=rfl
theorem qox:qji.keep=[false,false,false,false,false,false,true,false,true,true,false,false,false,false,false,false,false,false,false,false,false,false,false,false,false,false,true,true,true]:=rfl
def qnX:Nm:=⟨[false,false,false,false,false,false,true,false,false,true],[],false⟩
theorem qlI:qnX.zero=false:=rfl
theorem qmP:qnX.fix=[]:=rfl
theorem qmh:qnX.keep=[false,false,false,false,false,false,true,false,false,true]:=rfl
def qmp:Nm:=⟨[true,false,false,false,false,false,true,false,true,true],[],false⟩
theorem qmZ:qmp.zero=false:=rfl
theorem qnc:qmp.fix=[]:=rfl
theorem qnY:qmp.keep=[true,false,false,false,false,false,true,false,true,true]:=rfl
def qeL:Nat→Tree:=fun i=>if i=4 then .first 0 (.first 3 (.first 4 (.first 5 (.first 6 (.grow 1 (.alt 2 (.first 7 (.alt 8 (.alt 9 .done .stop) .stop)) (.alt 8 (.alt 2 (.quiet 7 (.alt 9 .done .stop)) .stop) .stop)))))))else if i=8 then .quiet 0 (.quiet 1 (.quiet 2 (.quiet 3 (.quiet 4 (.quiet 5 (.quiet 6 (.alt 7 .done .stop)))))))else .done
def qfm:Nat→Nm:=fun i=>if i=6 then qji else ⟨[],[],false⟩
def qf5:Nat→Option Jn:=fun _=>none
def qgT:Nat→Option Nm:=fun i=>if i=0 then some qnX else none
def qfG:Nat→Option Nm:=fun i=>if i=4 then some qmp else none
theorem p45:qg qeL (Try.f45.body.getD .skip)=true:=by kernel_rfl
def T45 (N:Nat):Tab:={tr:=qeL,lp:=qfm,ex:=qgT,rg:=qfG,jn:=qf5,fuel:=N}
theorem qno (N:Nat):(T45 N).pins=false:=rfl
theorem qJL (N:Nat):qk Try.prog (T45 N):=qn fun _=>rfl
theorem qlz (N:Nat) (i:Nat):(T45 N).tr i=qeL i:=rfl
theorem qpb (N:Nat) (i:Nat):(T45 N).lp i=qfm i:=rfl
theorem qoK (N:Nat) (i:Nat):(T45 N).ex i=qgT i:=rfl
theorem qmr (N:Nat) (i:Nat):(T45 N).rg i=qfG i:=rfl
theorem qlq (N:Nat) (i:Nat):(T45 N).jn i=qf5 i:=rfl
theorem qnj (N:Nat):(T45 N).fuel=N:=rfl
noncomputable def qDc:Code:=cut [true,true,true,true,false,true,true,true] (Try.f45.body.getD .skip)
theorem qPu {N:Nat} {Q:X→St→Option (qa [i83,i4])} {e:List LV} {h:List Blk}:qb tt Γ45 (T45 N) qDc Q ⟨e,h⟩=qb tt Γ45 (T45 N) (cut [true,true,true,true,false,true,true,true] (Try.f45.body.getD .skip)) Q ⟨e,h⟩:=rfl
theorem qB3 (N:Nat) (v3:Int) (v4:List (Val (.int .i64))) (v5:Int) (v7:Int) (v8:Bool) (v9:Int) (v10:Bool) {k0:(List (Val (.int .i64)))→Option (qa [i83,i4])} {Q:X→St→Option (qa [i83,i4])} {c:Code} (hc:c=qDc) (hret: ∀st,Q .ret st=qy tt true [i83,i4] [.cell 6 83,.tmp 7] st) (h0: ∀(v12:List (Val (.int .i64))),Q (.exit 0) ⟨[u,u,u,u,u,u,.one (.ptr 0 0 0),u,u,.one (.ptr 1 0 0),u,u,u,u,u,u,u,u,u,u,u,u,u,u,u,u,u,u,u,u,u,u,u,u,u,u,u,u,u,u,u,u,u,u,u,u],[.box [.nils,.int .i64 v7,.bool v8],.box [.own 2,.int .i64 v9,.bool v10],.row 3 (.int .i64) v12 true true 0]⟩=k0 v12): ∀(n:Nat) (v6:Int) (v11:List (Val (.int .i64))),qx (qb tt Γ45 (T45 N) c) false qji Q n ⟨[u,u,u,u,u,u,.one (.ptr 0 0 0),u,.one (.int .i64 v3),.one (.ptr 1 0 0),u,u,u,u,u,u,u,u,u,u,u,u,u,u,u,u,.one (.sl 3 (.int .i64) v4 3),.one (.int .i64 v5),.one (.int .i64 v6),u,u,u,u,u,u,u,u,u,u,u,u,u,u,u,u,u],[.box [.nils,.int .i64 v7,.bool v8],.box [.own 2,.int .i64 v9,.bool v10],.row 3 (.int .i64) v11 true true 0]⟩=qcJ N v3 v4 v5 v7 v8 v9 v10 k0 n v6 v11:=by
 subst hc;intro n;induction n with
 | zero=>intros;rfl
 | succ n ih=>
   intro v6 v11
   rw [qI,qPu,qcJ];unfold Try.f45
   simp (maxSteps:=10000000) -implicitDefEqProofs [qlz,qeL,qpb,qfm,qoK,qgT,qmr,qfG,qlq,qf5,qnj,qno,qmi,qox,qn9,qmP,qmh,qlI,qnc,qnY,qmZ,qmd,qn5,qm0,g93,g94,g95,hret,h0,ih]
theorem qJb (N:Nat) (v0:List (Val (.int .i64))) (v1:Int) (v2:Bool):qb tt Γ45 (T45 N) (Try.f45.body.getD .skip) (qh tt true [i83,i4] [.cell 6 83,.tmp 7]) (ql [i27,i3,i4] 46 (v0,v1,v2,()))=m45 N v0 v1 v2:=by
 unfold Try.f45
 simp (maxSteps:=10000000) -implicitDefEqProofs [qlz,qeL,qpb,qfm,qoK,qgT,qmr,qfG,qlq,qf5,qnj,qno,qmi,qox,qn9,qmP,qmh,qlI,qnc,qnY,qmZ,qmd,qn5,qm0,g93,g94,g95]
 rewrite [qB3 (k0:=(fun (v13:List (Val (.int .i64)))=>bif (!((qK (v13,(IntKind.i64.wrap (v1.tdiv (1:Int))),v2)):Bool))then (some ((([]:List (Val (.int .i64))),(0:Int),false),false,()))else (some ((v13,(IntKind.i64.wrap (v1.tdiv (1:Int))),v2),true,())))) N _ _ _ _ _ _ _ ?_ ?_ ?_]
 rewrite [qB3 (k0:=(fun (v4:List (Val (.int .i64)))=>bif (!((qK (v4,(IntKind.i64.wrap (v1.tdiv ((qw ((qak v0):Int) v1):Int))),v2)):Bool))then (some ((([]:List (Val (.int .i64))),(0:Int),false),false,()))else (some ((v4,(IntKind.i64.wrap (v1.tdiv ((qw ((qak v0):Int) v1):Int))),v2),true,())))) N _ _ _ _ _ _ _ ?_ ?_ ?_]
 ·rewrite [m45];first | rfl | simp (maxSteps:=10000000) -implicitDefEqProofs []
 ·rfl
 ·intro;simp only [qD,qE,qF,qC]
 ·intro v4;simp (maxSteps:=10000000) -implicitDefEqProofs [qlz,qeL,qpb,qfm,qoK,qgT,qmr,qfG,qlq,qf5,qnj,qno,qmi,qox,qn9,qmP,qmh,qlI,qnc,qnY,qmZ,qmd,qn5,qm0,g93,g94,g95]
 ·rfl
 ·intro;simp only [qD,qE,qF,qC]
 ·intro v13;simp (maxSteps:=10000000) -implicitDefEqProofs [qlz,qeL,qpb,qfm,qoK,qgT,qmr,qfG,qlq,qf5,qnj,qno,qmi,qox,qn9,qmP,qmh,qlI,qnc,qnY,qmZ,qmd,qn5,qm0,g93,g94,g95]
def g45:G:={ps:=[i27,i3,i4],rs:=[i83,i4],dp:=true,pre:=fun x=>qcS x.1 x.2.1 x.2.2.1,fn:=fun x=>((qab x.1 x.2.1 x.2.2.1).1,(qab x.1 x.2.1 x.2.2.1).2,())}
theorem t45 (N:Nat) (co:List (Val (.int .i64))) (g:Nat) (hg1:(g:Int)≠0) (a:Int) (b:Bool) (c:Int) (s:Bool) (K:List (Val (.int .i64))→Option (qa [i83,i4])) (hl:co.length≤1048576) (hx: ∀x∈co,inI x) (n:Nat) (hn:co.length<n):
 qcJ N (g:Int) co co.length a b c s K n 0 (List.replicate co.length (qc (.int .i64)))=K (List.map (α:=Int) (fun x=>x.tdiv (g:Int)) co):=by
 have:=qkR (xs:=List.map (α:=Int) (fun x=>x.tdiv (g:Int)) co) (F:=fun n i s'=>qcJ N (g:Int) co co.length a b c s K n i s') (k:=K) (qc (.int .i64)) (by simpa using hl) (fun n i s' hi hs=> ?_) (fun n i s' hi=> ?_) n (by simpa using hn)
 ·simpa using this
 ·have hi:i<co.length:=by simpa using hi
  have hs:s'.length=co.length:=by simpa using hs
  rw [qcJ,qi (by omega),qd (by omega),qd hg1,qd (by omega),qd (by omega),qB hi,qdD (hx _ (List.getElem_mem hi))]
  simp
 ·have hi:co.length≤i:=by simpa using hi
  rw [qcJ,qj (by omega)]
theorem e45 (co:List (Val (.int .i64))) (k:Int) (s:Bool) (h:qcS co k s): ∃N,m45 N co k s=some ((qab co k s).1,(qab co k s).2,()):=⟨co.length+1,by
 obtain ⟨hl,hk,hx⟩:=h
 have eg:qw (qak co) k=((gL k.natAbs co:Nat):Int):=by
  unfold qw qak
  rw [Int.natAbs_natCast,←qpP,Nat.gcd_zero_left]
 rw [m45,qd (show qe7 co from ⟨hl,hx⟩),qd (show qaC (qak co) k from ⟨qAV co 0 (by omega) hx,hk⟩),eg,Int.toNat_natCast]
 by_cases h0:gL k.natAbs co=0
 ·rw [qi (by omega),qd (by decide),qd (qfN hl)]
  have e1:((1:Nat):Int)=1:=rfl
  have:=qdD (g:=1) hk
  rw [e1]at this
  rw [this]
  have t:=t45 (co.length+1) co 1 (by decide) 0 false (k.tdiv 1) s (fun v=>bif !qK (v,k.tdiv 1,s)then some ((([]:List (Val (.int .i64))),(0:Int),false),false,())else some ((v,k.tdiv 1,s),true,())) hl hx _ (Nat.lt_succ_self _)
  rw [e1]at t
  rw [t]
  exact qDz co k s 1 (by omega)
 ·rw [qj (by omega),qd (by omega),qd (qfN hl),qdD hk]
  rw [t45 (co.length+1) co (gL k.natAbs co) (by omega) 0 false _ s _ hl hx _ (Nat.lt_succ_self _)]
  exact qDz co k s _ (by omega)⟩
theorem s45:Sound Try.prog 45 g45:=qq (tt:=tt) (Γ:=Γ45) hT (qe s93 (qe s94 (qe s95 qp))) hm (fn:=Try.f45) Try.func45 (c:=Try.f45.body.getD .skip) (by kernel_rfl) (by kernel_rfl) fun x hx=>by
 obtain ⟨N,h⟩:=e45 x.1 x.2.1 x.2.2.1 hx
 exact ⟨T45 N,p45,qm _,qJL N,(qJb N x.1 x.2.1 x.2.2.1).trans h⟩
theorem qwc {a:Val Y83} (h:qK a=true):(List.length (α:=Int) a.1≤4)∧inI a.2.1∧ ∀x∈(a.1:List Int), -400000000≤x∧x≤400000000:=by
 unfold qK at h
 simp only [Bool.and_eq_true,decide_eq_true_eq]at h
 obtain ⟨⟨⟨h1,h2⟩,h3⟩,_⟩:=h
 exact ⟨h1,qct h2,fun x hx=>of_decide_eq_true (List.all_eq_true.1 h3 x hx)⟩
theorem qcd {c:Val Y26} (h:qS c=true):(0≤(c.1:Int)∧(c.1:Int)≤4)∧List.length (α:=Val Y83) c.2≤16∧ ∀a∈(c.2:List (Val Y83)),qK a=true∧(List.length (α:=Val (.int .i64)) a.1:Int)=(c.1:Int):=by
 unfold qS at h
 simp only [Bool.and_eq_true,decide_eq_true_eq]at h
 obtain ⟨⟨h1,h2⟩,h3⟩:=h
 refine ⟨h1,by omega,fun a ha=> ?_⟩
 have:=List.all_eq_true.1 h3 a ha
 simp only [Bool.and_eq_true,decide_eq_true_eq]at this
 exact this
end Go.T
