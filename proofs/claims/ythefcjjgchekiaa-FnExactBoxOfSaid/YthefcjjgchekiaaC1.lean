/- Sizes, copies and equality of cells. -/
import Derived.Test.YthefcjjgchekiaaA1
set_option linter.unusedSimpArgs false
set_option linter.unusedVariables false
namespace Go.T
open Go Go.Proofs
set_option maxHeartbeats 4000000
set_option maxRecDepth 100000
def qem (x:List (Val (.int .i64))) (n:Int):Int:=szV (.slice 3 (.int .i64)) x n
def qor (x:List (Val (.int .i64))) (n:Int):Prop:=qlf (.slice 3 (.int .i64)) x n
noncomputable def m25 (N:Nat) (v0:List (Val (.int .i64))) (v1:Int):Option (qb [i3]):=bif (decide ((IntKind.i64.wrap (v1 - (v0.length:Int)))<(0:Int)))then (some ((-1:Int),()))else (some ((IntKind.i64.wrap (v1 - (v0.length:Int))),()))
def Γ25:Gam:=[]
def qqs:Nat→Tree:=fun _=> .done
def qvt:Nat→Nm:=fun _=>⟨[],[],false⟩
def qq8:Nat→Option Jn:=fun _=>none
def qzN:Nat→Option Nm:=fun _=>none
def qvP:Nat→Option Nm:=fun _=>none
theorem p25:ql qqs (Try.f25.body.getD .skip)=true:=by kernel_rfl
def T25 (N:Nat):Tab:={tr:=qqs,lp:=qvt,ex:=qzN,rg:=qvP,jn:=qq8,fuel:=N}
theorem qJQ (N:Nat):(T25 N).pins=false:=rfl
theorem qNj (N:Nat):qm Try.prog (T25 N):=qu fun _=>rfl
theorem qKK (N:Nat) (i:Nat):(T25 N).tr i=qqs i:=rfl
theorem qRJ (N:Nat) (i:Nat):(T25 N).lp i=qvt i:=rfl
theorem qOy (N:Nat) (i:Nat):(T25 N).ex i=qzN i:=rfl
theorem qGL (N:Nat) (i:Nat):(T25 N).rg i=qvP i:=rfl
theorem qRc (N:Nat) (i:Nat):(T25 N).jn i=qq8 i:=rfl
theorem qJT (N:Nat):(T25 N).fuel=N:=rfl
theorem qLW (N:Nat) (v0:List (Val (.int .i64))) (v1:Int):qd tt Γ25 (T25 N) (Try.f25.body.getD .skip) (qp tt true [i3] [.tmp 4]) (qt [i25,i3] 12 (v0,v1,()))=m25 N v0 v1:=by
 rw [m25];unfold Try.f25
 simp (maxSteps:=10000000) -implicitDefEqProofs [qKK,qqs,qRJ,qvt,qOy,qzN,qGL,qvP,qRc,qq8,qJT,qJQ]
 try rfl
def g25:G:={ps:=[i25,i3],rs:=[i3],dp:=true,pre:=fun x=>qor x.1 x.2.1,fn:=fun x=>(qem x.1 x.2.1,())}
theorem e25 (x:List (Val (.int .i64))) (n:Int) (h:qor x n): ∃N,m25 N x n=some (qem x n,()):=⟨0,by
 obtain ⟨hs,h0,h1⟩:=h
 rw [m25,qC4 h0 h1 hs.1]
 simp only [qem,qCm]
 by_cases c:n - (List.length x:Int)<0
 ·rw [qh c,if_pos c]
 ·rw [qi c,if_neg c,qNT (fun _ _=>rfl) _ _ (by omega)]⟩
theorem s25:Sound Try.prog 25 g25:=qw (tt:=tt) (Γ:=Γ25) hT qq hm (fn:=Try.f25) Try.func25 (c:=Try.f25.body.getD .skip) (by kernel_rfl) (by kernel_rfl) fun x hx=>by
 obtain ⟨N,h⟩:=e25 x.1 x.2.1 hx
 exact ⟨T25 N,p25,qx _,qNj N,(qLW N x.1 x.2.1).trans h⟩
def qfe (x:Val Y27) (n:Int):Int:=szV Y27 x n
def qn9 (x:Val Y27) (n:Int):Prop:=qlf Y27 x n
noncomputable def m7 (N:Nat) (v0:Val Y27) (v1:Int):Option (qb [i3]):=chk (qor (v0.1:List (Val (.int .i64))) v1) (bif (decide (((qem (v0.1:List (Val (.int .i64))) v1):Int)<(0:Int)))then (some ((-1:Int),()))else (some (((qem (v0.1:List (Val (.int .i64))) v1):Int),())))
def Γ7:Gam:=[(25,g25)]
theorem qP3:Gam.get Γ7 25=some g25:=rfl
def tr7:Nat→Tree:=fun _=> .done
def lp7:Nat→Nm:=fun _=>⟨[],[],false⟩
def jn7:Nat→Option Jn:=fun _=>none
def ex7:Nat→Option Nm:=fun _=>none
def rg7:Nat→Option Nm:=fun _=>none
theorem p7:ql tr7 (Try.f7.body.getD .skip)=true:=by kernel_rfl
def T7 (N:Nat):Tab:={tr:=tr7,lp:=lp7,ex:=ex7,rg:=rg7,jn:=jn7,fuel:=N}
theorem qIF (N:Nat):(T7 N).pins=false:=rfl
theorem tb7 (N:Nat):qm Try.prog (T7 N):=qu fun _=>rfl
theorem qGa (N:Nat) (i:Nat):(T7 N).tr i=tr7 i:=rfl
theorem qOd (N:Nat) (i:Nat):(T7 N).lp i=lp7 i:=rfl
theorem qPQ (N:Nat) (i:Nat):(T7 N).ex i=ex7 i:=rfl
theorem qGP (N:Nat) (i:Nat):(T7 N).rg i=rg7 i:=rfl
theorem qQ7 (N:Nat) (i:Nat):(T7 N).jn i=jn7 i:=rfl
theorem qGM (N:Nat):(T7 N).fuel=N:=rfl
theorem qIN (N:Nat) (v0:Val Y27) (v1:Int):qd tt Γ7 (T7 N) (Try.f7.body.getD .skip) (qp tt true [i3] [.tmp 4]) (qt [i27,i3] 12 (v0,v1,()))=m7 N v0 v1:=by
 rw [m7];unfold Try.f7
 simp (maxSteps:=10000000) -implicitDefEqProofs [qGa,tr7,qOd,lp7,qPQ,ex7,qGP,rg7,qQ7,jn7,qGM,qIF,qP3,g25]
 try rfl
def g7:G:={ps:=[i27,i3],rs:=[i3],dp:=true,pre:=fun x=>qn9 x.1 x.2.1,fn:=fun x=>(qfe x.1 x.2.1,())}
theorem e7 (x:Val Y27) (n:Int) (h:qn9 x n): ∃N,m7 N x n=some (qfe x n,()):=⟨0,by
 obtain ⟨x0,x1,x2⟩:=x
 obtain ⟨hs,h0,h1⟩:=h
 obtain ⟨s0,s1,s2⟩:=hs
 rw [m7,qfe]
 dsimp only
 rw [qc (show qor x0 n from ⟨s0,h0,h1⟩)]
 by_cases c0:qem x0 n<0
 ·rw [qh c0,qIm (show szV (.slice 3 (.int .i64)) x0 n<0 from c0)]
 ·have h00:0≤qem x0 n:=by omega
  have h10:qem x0 n≤1048576:=Int.le_trans (qdc (.slice 3 (.int .i64)) x0 n h0).1 h1
  rw [qi c0,qPN (show 0≤szV (.slice 3 (.int .i64)) x0 n from h00)]
  change _=some (szV (.pair (.int .i64) .bool) _ (qem x0 n),())
  rw [qDC h00]
  rfl⟩
theorem s7:Sound Try.prog 7 g7:=qw (tt:=tt) (Γ:=Γ7) hT (qf s25 qq) hm (fn:=Try.f7) Try.func7 (c:=Try.f7.body.getD .skip) (by kernel_rfl) (by kernel_rfl) fun x hx=>by
 obtain ⟨N,h⟩:=e7 x.1 x.2.1 hx
 exact ⟨T7 N,p7,qx _,tb7 N,(qIN N x.1 x.2.1).trans h⟩
def qhA (x:List (Val Y27)) (n:Int):Int:=szV (.slice 27 Y27) x n
def qmT (x:List (Val Y27)) (n:Int):Prop:=qlf (.slice 27 Y27) x n
noncomputable def qgm (N:Nat) (v2:List (Val Y27)) (k0:Int→Option (qb [i3])):Nat→Int→Int→Option (qb [i3])
 | 0,_,_=>none
 | n+1,v3,v4=>bif (decide (v4<(v2.length:Int)))then (chk (0≤v4∧v4<(v2.length:Int)) (chk (qn9 (v2.getD v4.toNat (qa Y27)) v3) (bif (decide (((qfe (v2.getD v4.toNat (qa Y27)) v3):Int)<(0:Int)))then (some ((-1:Int),()))else (qgm N v2 k0 n ((qfe (v2.getD v4.toNat (qa Y27)) v3):Int) (IntKind.i64.wrap (v4+(1:Int)))))))else (k0 v3)
noncomputable def m24 (N:Nat) (v0:List (Val Y27)) (v1:Int):Option (qb [i3]):=bif (decide ((IntKind.i64.wrap (v1 - (v0.length:Int)))<(0:Int)))then (some ((-1:Int),()))else (qgm N v0 (fun (v6:Int)=>some (v6,())) N (IntKind.i64.wrap (v1 - (v0.length:Int))) (0:Int))
def Γ24:Gam:=[(7,g7)]
theorem qwQ:Gam.get Γ24 7=some g7:=rfl
def qkl:Nm:=⟨[true,true,false,false,false,true],[],false⟩
theorem qwH:qkl.zero=false:=rfl
theorem qBL:qkl.fix=[]:=rfl
theorem qtW:qkl.keep=[true,true,false,false,false,true]:=rfl
def qnb:Nm:=⟨[false,true],[],false⟩
theorem qt5:qnb.zero=false:=rfl
theorem qsV:qnb.fix=[]:=rfl
theorem qrK:qnb.keep=[false,true]:=rfl
def qho:Nat→Tree:=fun _=> .done
def qi3:Nat→Nm:=fun i=>if i=5 then qkl else ⟨[],[],false⟩
def qjf:Nat→Option Jn:=fun _=>none
def qj9:Nat→Option Nm:=fun i=>if i=0 then some qnb else none
def qjd:Nat→Option Nm:=fun _=>none
theorem p24:ql qho (Try.f24.body.getD .skip)=true:=by kernel_rfl
def T24 (N:Nat):Tab:={tr:=qho,lp:=qi3,ex:=qj9,rg:=qjd,jn:=qjf,fuel:=N}
theorem qzP (N:Nat):(T24 N).pins=false:=rfl
theorem qNc (N:Nat):qm Try.prog (T24 N):=qu fun _=>rfl
theorem qxS (N:Nat) (i:Nat):(T24 N).tr i=qho i:=rfl
theorem qwm (N:Nat) (i:Nat):(T24 N).lp i=qi3 i:=rfl
theorem qwT (N:Nat) (i:Nat):(T24 N).ex i=qj9 i:=rfl
theorem qxE (N:Nat) (i:Nat):(T24 N).rg i=qjd i:=rfl
theorem qwR (N:Nat) (i:Nat):(T24 N).jn i=qjf i:=rfl
theorem qAB (N:Nat):(T24 N).fuel=N:=rfl
noncomputable def qCF:Code:=cut [true,true,true,false,true,true,true] (Try.f24.body.getD .skip)
theorem qSg {N:Nat} {Q:X→St→Option (qb [i3])} {e:List LV} {h:List Blk}:qd tt Γ24 (T24 N) qCF Q ⟨e,h⟩=qd tt Γ24 (T24 N) (cut [true,true,true,false,true,true,true] (Try.f24.body.getD .skip)) Q ⟨e,h⟩:=rfl
theorem qOr (N:Nat) (v2:List (Val Y27)) {k0:Int→Option (qb [i3])} {Q:X→St→Option (qb [i3])} {c:Code} (hc:c=qCF) (hret: ∀st,Q .ret st=qI tt true [i3] [.tmp 4] st) (h0: ∀(v5:Int),Q (.exit 0) ⟨[u,.one (.int .i64 v5),u,u,u,u,u,u,u,u,u,u,u,u,u,u,u,u,u,u,u,u,u,u,u,u,u],[]⟩=k0 v5): ∀(n:Nat) (v3:Int) (v4:Int),qD (qd tt Γ24 (T24 N) c) false qkl Q n ⟨[.one (.sl 27 Y27 v2 0),.one (.int .i64 v3),u,u,u,.one (.int .i64 v4),u,u,u,u,u,u,u,u,u,u,u,u,u,u,u,u,u,u,u,u,u],[]⟩=qgm N v2 k0 n v3 v4:=by
 subst hc;intro n;induction n with
 | zero=>intros;rfl
 | succ n ih=>
   intro v3 v4
   rw [qR,qSg,qgm];unfold Try.f24
   simp (maxSteps:=10000000) -implicitDefEqProofs [qxS,qho,qwm,qi3,qwT,qj9,qxE,qjd,qwR,qjf,qAB,qzP,qBL,qtW,qwH,qsV,qrK,qt5,qwQ,g7,hret,h0,ih]
theorem qMT (N:Nat) (v0:List (Val Y27)) (v1:Int):qd tt Γ24 (T24 N) (Try.f24.body.getD .skip) (qp tt true [i3] [.tmp 4]) (qt [i22,i3] 27 (v0,v1,()))=m24 N v0 v1:=by
 unfold Try.f24
 simp (maxSteps:=10000000) -implicitDefEqProofs [qxS,qho,qwm,qi3,qwT,qj9,qxE,qjd,qwR,qjf,qAB,qzP,qBL,qtW,qwH,qsV,qrK,qt5,qwQ,g7]
 rewrite [qOr (k0:=(fun (v6:Int)=>some (v6,()))) N _ ?_ ?_ ?_]
 ·rewrite [m24];first | rfl | simp (maxSteps:=10000000) -implicitDefEqProofs []
 ·rfl
 ·intro;simp only [qK,qM,qO,qv]
 ·intro v6;simp (maxSteps:=10000000) -implicitDefEqProofs [qxS,qho,qwm,qi3,qwT,qj9,qxE,qjd,qwR,qjf,qAB,qzP,qBL,qtW,qwH,qsV,qrK,qt5,qwQ,g7]
def g24:G:={ps:=[i22,i3],rs:=[i3],dp:=true,pre:=fun x=>qmT x.1 x.2.1,fn:=fun x=>(qhA x.1 x.2.1,())}
theorem e24 (x:List (Val Y27)) (n:Int) (h:qmT x n): ∃N,m24 N x n=some (qhA x n,()):=⟨List.length x+1,by
 obtain ⟨hs,h0,h1⟩:=h
 rw [m24,qC4 h0 h1 hs.1]
 simp only [qhA,qCm]
 by_cases c:n - (List.length x:Int)<0
 ·rw [qh c,if_pos c]
 ·rw [qi c,if_neg c]
  refine (qb6 (F:=fun n i s=>qgm _ x _ n s i) (step:=fun _ y (s:Int) K=>chk (qn9 y s) (bif decide (qfe y s<0)then some ((-1:Int),())else K (qfe y s))) (k:=fun s=>some (s,())) (by omega) (fun n i s hi=> ?_) (fun n i s hi=> ?_) _ _ (Nat.lt_succ_self _)).trans (qFj (t:=Y27) x 0 _ (by omega) (by omega) hs.2)
  ·rw [qgm,qh (by omega),qc (by omega),qL hi]
  ·rw [qgm,qi (by omega)]⟩
theorem s24:Sound Try.prog 24 g24:=qw (tt:=tt) (Γ:=Γ24) hT (qf s7 qq) hm (fn:=Try.f24) Try.func24 (c:=Try.f24.body.getD .skip) (by kernel_rfl) (by kernel_rfl) fun x hx=>by
 obtain ⟨N,h⟩:=e24 x.1 x.2.1 hx
 exact ⟨T24 N,p24,qx _,qNc N,(qMT N x.1 x.2.1).trans h⟩
def qke (x:Val Y24) (n:Int):Int:=szV Y24 x n
def qoN (x:Val Y24) (n:Int):Prop:=qlf Y24 x n
noncomputable def m6 (N:Nat) (v0:Val Y24) (v1:Int):Option (qb [i3]):=chk (qmT (v0.2:List (Val Y27)) v1) (bif (decide (((qhA (v0.2:List (Val Y27)) v1):Int)<(0:Int)))then (some ((-1:Int),()))else (some (((qhA (v0.2:List (Val Y27)) v1):Int),())))
def Γ6:Gam:=[(24,g24)]
theorem qLb:Gam.get Γ6 24=some g24:=rfl
def tr6:Nat→Tree:=fun _=> .done
def lp6:Nat→Nm:=fun _=>⟨[],[],false⟩
def jn6:Nat→Option Jn:=fun _=>none
def ex6:Nat→Option Nm:=fun _=>none
def rg6:Nat→Option Nm:=fun _=>none
theorem p6:ql tr6 (Try.f6.body.getD .skip)=true:=by kernel_rfl
def T6 (N:Nat):Tab:={tr:=tr6,lp:=lp6,ex:=ex6,rg:=rg6,jn:=jn6,fuel:=N}
theorem qKO (N:Nat):(T6 N).pins=false:=rfl
theorem tb6 (N:Nat):qm Try.prog (T6 N):=qu fun _=>rfl
theorem qQD (N:Nat) (i:Nat):(T6 N).tr i=tr6 i:=rfl
theorem qPa (N:Nat) (i:Nat):(T6 N).lp i=lp6 i:=rfl
theorem qLA (N:Nat) (i:Nat):(T6 N).ex i=ex6 i:=rfl
theorem qGy (N:Nat) (i:Nat):(T6 N).rg i=rg6 i:=rfl
theorem qOj (N:Nat) (i:Nat):(T6 N).jn i=jn6 i:=rfl
theorem qOB (N:Nat):(T6 N).fuel=N:=rfl
theorem qMp (N:Nat) (v0:Val Y24) (v1:Int):qd tt Γ6 (T6 N) (Try.f6.body.getD .skip) (qp tt true [i3] [.tmp 4]) (qt [i24,i3] 12 (v0,v1,()))=m6 N v0 v1:=by
 rw [m6];unfold Try.f6
 simp (maxSteps:=10000000) -implicitDefEqProofs [qQD,tr6,qPa,lp6,qLA,ex6,qGy,rg6,qOj,jn6,qOB,qKO,qLb,g24]
 try rfl
def g6:G:={ps:=[i24,i3],rs:=[i3],dp:=true,pre:=fun x=>qoN x.1 x.2.1,fn:=fun x=>(qke x.1 x.2.1,())}
theorem e6 (x:Val Y24) (n:Int) (h:qoN x n): ∃N,m6 N x n=some (qke x n,()):=⟨0,by
 obtain ⟨x0,x1⟩:=x
 obtain ⟨hs,h0,h1⟩:=h
 obtain ⟨s0,s1⟩:=hs
 rw [m6,qke]
 dsimp only
 rw [qDC h0]
 rw [qc (show qmT x1 n from ⟨s1,h0,h1⟩)]
 by_cases c1:qhA x1 n<0
 ·rw [qh c1]
  exact congrArg (fun z=>some (z,())) ((qdc (.slice 27 Y27) x1 n h0).2 c1).symm
 ·rw [qi c1]
  rfl⟩
theorem s6:Sound Try.prog 6 g6:=qw (tt:=tt) (Γ:=Γ6) hT (qf s24 qq) hm (fn:=Try.f6) Try.func6 (c:=Try.f6.body.getD .skip) (by kernel_rfl) (by kernel_rfl) fun x hx=>by
 obtain ⟨N,h⟩:=e6 x.1 x.2.1 hx
 exact ⟨T6 N,p6,qx _,tb6 N,(qMp N x.1 x.2.1).trans h⟩
def qtc (x:List (Val (.int .i64))):List (Val (.int .i64)):=x
def qn3 (x:List (Val (.int .i64))):Prop:=Bd (.slice 3 (.int .i64)) x
noncomputable def qfO (N:Nat) (v1:List (Val (.int .i64))) (k0:(List (Val (.int .i64)))→Option (qb [i25])):Nat→Int→(List (Val (.int .i64)))→Option (qb [i25])
 | 0,_,_=>none
 | n+1,v2,v3=>bif (decide (v2<(v1.length:Int)))then (chk (0≤v2∧v2<(v1.length:Int)) (chk (0≤v2∧v2<(v3.length:Int)) (chk (v2.toNat<v3.length) (qfO N v1 k0 n (IntKind.i64.wrap (v2+(1:Int))) (v3.set v2.toNat ((v1.getD v2.toNat (qa (.int .i64))):Int))))))else (k0 v3)
noncomputable def m30 (N:Nat) (v0:List (Val (.int .i64))):Option (qb [i25]):=chk (0≤(v0.length:Int)∧(v0.length:Int)≤(v0.length:Int)∧(v0.length:Int)≤1048576) (qfO N v0 (fun (v5:List (Val (.int .i64)))=>some (v5,())) N (0:Int) (List.replicate (v0.length:Int).toNat (qa (.int .i64))))
def Γ30:Gam:=[]
def qiP:Nm:=⟨[true,false,false,true,true],[],false⟩
theorem qyp:qiP.zero=false:=rfl
theorem qwI:qiP.fix=[]:=rfl
theorem qBG:qiP.keep=[true,false,false,true,true]:=rfl
def qpF:Nm:=⟨[false,false,false,true],[],false⟩
theorem qxe:qpF.zero=false:=rfl
theorem qAZ:qpF.fix=[]:=rfl
theorem qrM:qpF.keep=[false,false,false,true]:=rfl
def qhN:Nat→Tree:=fun _=> .done
def qms:Nat→Nm:=fun i=>if i=3 then qiP else ⟨[],[],false⟩
def qj0:Nat→Option Jn:=fun _=>none
def qiU:Nat→Option Nm:=fun i=>if i=0 then some qpF else none
def qkJ:Nat→Option Nm:=fun _=>none
theorem p30:ql qhN (Try.f30.body.getD .skip)=true:=by kernel_rfl
def T30 (N:Nat):Tab:={tr:=qhN,lp:=qms,ex:=qiU,rg:=qkJ,jn:=qj0,fuel:=N}
theorem qyT (N:Nat):(T30 N).pins=false:=rfl
theorem qNJ (N:Nat):qm Try.prog (T30 N):=qu fun _=>rfl
theorem qzV (N:Nat) (i:Nat):(T30 N).tr i=qhN i:=rfl
theorem qwF (N:Nat) (i:Nat):(T30 N).lp i=qms i:=rfl
theorem qxR (N:Nat) (i:Nat):(T30 N).ex i=qiU i:=rfl
theorem qy0 (N:Nat) (i:Nat):(T30 N).rg i=qkJ i:=rfl
theorem qxy (N:Nat) (i:Nat):(T30 N).jn i=qj0 i:=rfl
theorem qva (N:Nat):(T30 N).fuel=N:=rfl
noncomputable def qEy:Code:=cut [true,true,false,true,true,true] (Try.f30.body.getD .skip)
theorem qRp {N:Nat} {Q:X→St→Option (qb [i25])} {e:List LV} {h:List Blk}:qd tt Γ30 (T30 N) qEy Q ⟨e,h⟩=qd tt Γ30 (T30 N) (cut [true,true,false,true,true,true] (Try.f30.body.getD .skip)) Q ⟨e,h⟩:=rfl
theorem qL4 (N:Nat) (v1:List (Val (.int .i64))) {k0:(List (Val (.int .i64)))→Option (qb [i25])} {Q:X→St→Option (qb [i25])} {c:Code} (hc:c=qEy) (hret: ∀st,Q .ret st=qI tt true [i25] [.tmp 2] st) (h0: ∀(v4:List (Val (.int .i64))),Q (.exit 0) ⟨[u,u,u,.one (.own 0),u,u,u,u,u,u,u,u,u,u,u,u,u,u,u,u,u,u],[.row 3 (.int .i64) v4 true true 0]⟩=k0 v4): ∀(n:Nat) (v2:Int) (v3:List (Val (.int .i64))),qD (qd tt Γ30 (T30 N) c) false qiP Q n ⟨[.one (.sl 3 (.int .i64) v1 1),u,u,.one (.own 0),.one (.int .i64 v2),u,u,u,u,u,u,u,u,u,u,u,u,u,u,u,u,u],[.row 3 (.int .i64) v3 true true 0]⟩=qfO N v1 k0 n v2 v3:=by
 subst hc;intro n;induction n with
 | zero=>intros;rfl
 | succ n ih=>
   intro v2 v3
   rw [qR,qRp,qfO];unfold Try.f30
   simp (maxSteps:=10000000) -implicitDefEqProofs [qzV,qhN,qwF,qms,qxR,qiU,qy0,qkJ,qxy,qj0,qva,qyT,qwI,qBG,qyp,qAZ,qrM,qxe,hret,h0,ih]
theorem qQQ (N:Nat) (v0:List (Val (.int .i64))):qd tt Γ30 (T30 N) (Try.f30.body.getD .skip) (qp tt true [i25] [.tmp 2]) (qt [i25] 22 (v0,()))=m30 N v0:=by
 unfold Try.f30
 simp (maxSteps:=10000000) -implicitDefEqProofs [qzV,qhN,qwF,qms,qxR,qiU,qy0,qkJ,qxy,qj0,qva,qyT,qwI,qBG,qyp,qAZ,qrM,qxe]
 rewrite [qL4 (k0:=(fun (v5:List (Val (.int .i64)))=>some (v5,()))) N _ ?_ ?_ ?_]
 ·rewrite [m30];first | rfl | simp (maxSteps:=10000000) -implicitDefEqProofs []
 ·rfl
 ·intro;simp only [qK,qM,qO,qv]
 ·intro v5;simp (maxSteps:=10000000) -implicitDefEqProofs [qzV,qhN,qwF,qms,qxR,qiU,qy0,qkJ,qxy,qj0,qva,qyT,qwI,qBG,qyp,qAZ,qrM,qxe]
def g30:G:={ps:=[i25],rs:=[i25],dp:=true,pre:=fun x=>qn3 x.1,fn:=fun x=>(qtc x.1,())}
theorem e30 (x:List (Val (.int .i64))) (h:qn3 x): ∃N,m30 N x=some (qtc x,()):=⟨List.length x+1,by
 rw [m30,qc (qjK h.1),Int.toNat_natCast]
 refine qqi (F:=fun n i s=>qfO _ x _ n i s) (k:=fun s=>some (s,())) (qa (.int .i64)) h.1 (fun n i s hi hl=> ?_) (fun n i s hi=> ?_) _ (Nat.lt_succ_self _)
 ·rw [qfO,qh (by omega),qc (by omega),qL hi,qc (by omega),qc (by omega)]
  rfl
 ·rw [qfO,qi (by omega)]⟩
theorem s30:Sound Try.prog 30 g30:=qw (tt:=tt) (Γ:=Γ30) hT qq hm (fn:=Try.f30) Try.func30 (c:=Try.f30.body.getD .skip) (by kernel_rfl) (by kernel_rfl) fun x hx=>by
 obtain ⟨N,h⟩:=e30 x.1 hx
 exact ⟨T30 N,p30,qx _,qNJ N,(qQQ N x.1).trans h⟩
def qjw (x:Val Y27):Val Y36:=x
def qo2 (x:Val Y27):Prop:=Bd Y27 x
noncomputable def m10 (N:Nat) (v0:Val Y27):Option (qb [i36]):=chk (qn3 (v0.1:List (Val (.int .i64)))) (some ((((qtc (v0.1:List (Val (.int .i64)))):List (Val (.int .i64))),(v0.2.1:Int),(v0.2.2:Bool)),()))
def Γ10:Gam:=[(30,g30)]
theorem qQU:Gam.get Γ10 30=some g30:=rfl
def qoH:Nat→Tree:=fun _=> .done
def quA:Nat→Nm:=fun _=>⟨[],[],false⟩
def qyV:Nat→Option Jn:=fun _=>none
def qvO:Nat→Option Nm:=fun _=>none
def qAF:Nat→Option Nm:=fun _=>none
theorem p10:ql qoH (Try.f10.body.getD .skip)=true:=by kernel_rfl
def T10 (N:Nat):Tab:={tr:=qoH,lp:=quA,ex:=qvO,rg:=qAF,jn:=qyV,fuel:=N}
theorem qMV (N:Nat):(T10 N).pins=false:=rfl
theorem qK6 (N:Nat):qm Try.prog (T10 N):=qu fun _=>rfl
theorem qLj (N:Nat) (i:Nat):(T10 N).tr i=qoH i:=rfl
theorem qIt (N:Nat) (i:Nat):(T10 N).lp i=quA i:=rfl
theorem qJV (N:Nat) (i:Nat):(T10 N).ex i=qvO i:=rfl
theorem qH1 (N:Nat) (i:Nat):(T10 N).rg i=qAF i:=rfl
theorem qM0 (N:Nat) (i:Nat):(T10 N).jn i=qyV i:=rfl
theorem qRT (N:Nat):(T10 N).fuel=N:=rfl
theorem qSs (N:Nat) (v0:Val Y27):qd tt Γ10 (T10 N) (Try.f10.body.getD .skip) (qp tt true [i36] [.cell 2 36]) (qt [i27] 15 (v0,()))=m10 N v0:=by
 rw [m10];unfold Try.f10
 simp (maxSteps:=10000000) -implicitDefEqProofs [qLj,qoH,qIt,quA,qJV,qvO,qH1,qAF,qM0,qyV,qRT,qMV,qQU,g30]
 try rfl
def g10:G:={ps:=[i27],rs:=[i36],dp:=true,pre:=fun x=>qo2 x.1,fn:=fun x=>(qjw x.1,())}
theorem e10 (x:Val Y27) (h:qo2 x): ∃N,m10 N x=some (qjw x,()):=⟨0,by
 obtain ⟨s0,s1,s2⟩:=h
 rw [m10,qc (show qn3 _ from s0)]
 rfl⟩
theorem s10:Sound Try.prog 10 g10:=qw (tt:=tt) (Γ:=Γ10) hT (qf s30 qq) hm (fn:=Try.f10) Try.func10 (c:=Try.f10.body.getD .skip) (by kernel_rfl) (by kernel_rfl) fun x hx=>by
 obtain ⟨N,h⟩:=e10 x.1 hx
 exact ⟨T10 N,p10,qx _,qK6 N,(qSs N x.1).trans h⟩
def qrP (x:List (Val Y27)):List (Val Y36):=x
def qox (x:List (Val Y27)):Prop:=Bd (.slice 27 Y27) x
noncomputable def qgz (N:Nat) (v1:List (Val Y27)) (k0:(List (Val Y36))→Option (qb [i30])):Nat→Int→(List (Val Y36))→Option (qb [i30])
 | 0,_,_=>none
 | n+1,v2,v3=>bif (decide (v2<(v1.length:Int)))then (chk (0≤v2∧v2<(v1.length:Int)) (chk (qo2 (v1.getD v2.toNat (qa Y27))) (chk (0≤v2∧v2<(v3.length:Int)) (chk (v2.toNat<v3.length) (qgz N v1 k0 n (IntKind.i64.wrap (v2+(1:Int))) (v3.set v2.toNat (((qjw (v1.getD v2.toNat (qa Y27))).1:List (Val (.int .i64))),(((qjw (v1.getD v2.toNat (qa Y27))).2).1:Int),(((qjw (v1.getD v2.toNat (qa Y27))).2).2:Bool))))))))else (k0 v3)
noncomputable def m29 (N:Nat) (v0:List (Val Y27)):Option (qb [i30]):=chk (0≤(v0.length:Int)∧(v0.length:Int)≤(v0.length:Int)∧(v0.length:Int)≤1048576) (qgz N v0 (fun (v5:List (Val Y36))=>some (v5,())) N (0:Int) (List.replicate (v0.length:Int).toNat (qa Y36)))
def Γ29:Gam:=[(10,g10)]
theorem qt3:Gam.get Γ29 10=some g10:=rfl
def qkh:Nm:=⟨[true,false,false,true,true],[],false⟩
theorem qBH:qkh.zero=false:=rfl
theorem quQ:qkh.fix=[]:=rfl
theorem qwG:qkh.keep=[true,false,false,true,true]:=rfl
def qpR:Nm:=⟨[false,false,false,true],[],false⟩
theorem qvr:qpR.zero=false:=rfl
theorem qsU:qpR.fix=[]:=rfl
theorem quw:qpR.keep=[false,false,false,true]:=rfl
def qhB:Nat→Tree:=fun _=> .done
def qml:Nat→Nm:=fun i=>if i=3 then qkh else ⟨[],[],false⟩
def qiz:Nat→Option Jn:=fun _=>none
def qiR:Nat→Option Nm:=fun i=>if i=0 then some qpR else none
def qk0:Nat→Option Nm:=fun _=>none
theorem p29:ql qhB (Try.f29.body.getD .skip)=true:=by kernel_rfl
def T29 (N:Nat):Tab:={tr:=qhB,lp:=qml,ex:=qiR,rg:=qk0,jn:=qiz,fuel:=N}
theorem qtD (N:Nat):(T29 N).pins=false:=rfl
theorem qPL (N:Nat):qm Try.prog (T29 N):=qu fun _=>rfl
theorem quU (N:Nat) (i:Nat):(T29 N).tr i=qhB i:=rfl
theorem qrD (N:Nat) (i:Nat):(T29 N).lp i=qml i:=rfl
theorem qsi (N:Nat) (i:Nat):(T29 N).ex i=qiR i:=rfl
theorem qsO (N:Nat) (i:Nat):(T29 N).rg i=qk0 i:=rfl
theorem qAL (N:Nat) (i:Nat):(T29 N).jn i=qiz i:=rfl
theorem qvV (N:Nat):(T29 N).fuel=N:=rfl
noncomputable def qFt:Code:=cut [true,true,false,true,true,true] (Try.f29.body.getD .skip)
theorem qHk {N:Nat} {Q:X→St→Option (qb [i30])} {e:List LV} {h:List Blk}:qd tt Γ29 (T29 N) qFt Q ⟨e,h⟩=qd tt Γ29 (T29 N) (cut [true,true,false,true,true,true] (Try.f29.body.getD .skip)) Q ⟨e,h⟩:=rfl
theorem qQn (N:Nat) (v1:List (Val Y27)) {k0:(List (Val Y36))→Option (qb [i30])} {Q:X→St→Option (qb [i30])} {c:Code} (hc:c=qFt) (hret: ∀st,Q .ret st=qI tt true [i30] [.tmp 2] st) (h0: ∀(v4:List (Val Y36)),Q (.exit 0) ⟨[u,u,u,.one (.own 0),u,u,u,u,u,u,u,u,u,u,u,u,u,u,u,u,u,u,u],[.row 36 Y36 v4 true true 0]⟩=k0 v4): ∀(n:Nat) (v2:Int) (v3:List (Val Y36)),qD (qd tt Γ29 (T29 N) c) false qkh Q n ⟨[.one (.sl 27 Y27 v1 1),u,u,.one (.own 0),.one (.int .i64 v2),u,u,u,u,u,u,u,u,u,u,u,u,u,u,u,u,u,u],[.row 36 Y36 v3 true true 0]⟩=qgz N v1 k0 n v2 v3:=by
 subst hc;intro n;induction n with
 | zero=>intros;rfl
 | succ n ih=>
   intro v2 v3
   rw [qR,qHk,qgz];unfold Try.f29
   simp (maxSteps:=10000000) -implicitDefEqProofs [quU,qhB,qrD,qml,qsi,qiR,qsO,qk0,qAL,qiz,qvV,qtD,quQ,qwG,qBH,qsU,quw,qvr,qt3,g10,hret,h0,ih]
theorem qMS (N:Nat) (v0:List (Val Y27)):qd tt Γ29 (T29 N) (Try.f29.body.getD .skip) (qp tt true [i30] [.tmp 2]) (qt [i22] 23 (v0,()))=m29 N v0:=by
 unfold Try.f29
 simp (maxSteps:=10000000) -implicitDefEqProofs [quU,qhB,qrD,qml,qsi,qiR,qsO,qk0,qAL,qiz,qvV,qtD,quQ,qwG,qBH,qsU,quw,qvr,qt3,g10]
 rewrite [qQn (k0:=(fun (v5:List (Val Y36))=>some (v5,()))) N _ ?_ ?_ ?_]
 ·rewrite [m29];first | rfl | simp (maxSteps:=10000000) -implicitDefEqProofs []
 ·rfl
 ·intro;simp only [qK,qM,qO,qv]
 ·intro v5;simp (maxSteps:=10000000) -implicitDefEqProofs [quU,qhB,qrD,qml,qsi,qiR,qsO,qk0,qAL,qiz,qvV,qtD,quQ,qwG,qBH,qsU,quw,qvr,qt3,g10]
def g29:G:={ps:=[i22],rs:=[i30],dp:=true,pre:=fun x=>qox x.1,fn:=fun x=>(qrP x.1,())}
theorem e29 (x:List (Val Y27)) (h:qox x): ∃N,m29 N x=some (qrP x,()):=⟨List.length x+1,by
 rw [m29,qc (qjK h.1),Int.toNat_natCast]
 refine qqi (F:=fun n i s=>qgz _ x _ n i s) (k:=fun s=>some (s,())) (qa Y36) h.1 (fun n i s hi hl=> ?_) (fun n i s hi=> ?_) _ (Nat.lt_succ_self _)
 ·rw [qgz,qh (by omega),qc (by omega),qc (show qo2 _ from by rw [qL hi];exact h.2 _ (List.getElem_mem hi)),qL hi,qc (by omega),qc (by omega)]
  rfl
 ·rw [qgz,qi (by omega)]⟩
theorem s29:Sound Try.prog 29 g29:=qw (tt:=tt) (Γ:=Γ29) hT (qf s10 qq) hm (fn:=Try.f29) Try.func29 (c:=Try.f29.body.getD .skip) (by kernel_rfl) (by kernel_rfl) fun x hx=>by
 obtain ⟨N,h⟩:=e29 x.1 hx
 exact ⟨T29 N,p29,qx _,qPL N,(qMS N x.1).trans h⟩
def qn (x:Val Y24):Val Y32:=x
def qgX (x:Val Y24):Prop:=Bd Y24 x
noncomputable def m9 (N:Nat) (v0:Val Y24):Option (qb [i32]):=chk (qox (v0.2:List (Val Y27))) (some (((v0.1:Int),((qrP (v0.2:List (Val Y27))):List (Val Y36))),()))
def Γ9:Gam:=[(29,g29)]
theorem qPC:Gam.get Γ9 29=some g29:=rfl
def tr9:Nat→Tree:=fun _=> .done
def lp9:Nat→Nm:=fun _=>⟨[],[],false⟩
def jn9:Nat→Option Jn:=fun _=>none
def ex9:Nat→Option Nm:=fun _=>none
def rg9:Nat→Option Nm:=fun _=>none
theorem p9:ql tr9 (Try.f9.body.getD .skip)=true:=by kernel_rfl
def T9 (N:Nat):Tab:={tr:=tr9,lp:=lp9,ex:=ex9,rg:=rg9,jn:=jn9,fuel:=N}
theorem qNK (N:Nat):(T9 N).pins=false:=rfl
theorem tb9 (N:Nat):qm Try.prog (T9 N):=qu fun _=>rfl
theorem qOG (N:Nat) (i:Nat):(T9 N).tr i=tr9 i:=rfl
theorem qKF (N:Nat) (i:Nat):(T9 N).lp i=lp9 i:=rfl
theorem qGS (N:Nat) (i:Nat):(T9 N).ex i=ex9 i:=rfl
theorem qHU (N:Nat) (i:Nat):(T9 N).rg i=rg9 i:=rfl
theorem qQ9 (N:Nat) (i:Nat):(T9 N).jn i=jn9 i:=rfl
theorem qQN (N:Nat):(T9 N).fuel=N:=rfl
theorem qOc (N:Nat) (v0:Val Y24):qd tt Γ9 (T9 N) (Try.f9.body.getD .skip) (qp tt true [i32] [.cell 2 32]) (qt [i24] 12 (v0,()))=m9 N v0:=by
 rw [m9];unfold Try.f9
 simp (maxSteps:=10000000) -implicitDefEqProofs [qOG,tr9,qKF,lp9,qGS,ex9,qHU,rg9,qQ9,jn9,qQN,qNK,qPC,g29]
 try rfl
def g9:G:={ps:=[i24],rs:=[i32],dp:=true,pre:=fun x=>qgX x.1,fn:=fun x=>(qn x.1,())}
theorem e9 (x:Val Y24) (h:qgX x): ∃N,m9 N x=some (qn x,()):=⟨0,by
 obtain ⟨s0,s1⟩:=h
 rw [m9,qc (show qox _ from s1)]
 rfl⟩
theorem s9:Sound Try.prog 9 g9:=qw (tt:=tt) (Γ:=Γ9) hT (qf s29 qq) hm (fn:=Try.f9) Try.func9 (c:=Try.f9.body.getD .skip) (by kernel_rfl) (by kernel_rfl) fun x hx=>by
 obtain ⟨N,h⟩:=e9 x.1 hx
 exact ⟨T9 N,p9,qx _,tb9 N,(qOc N x.1).trans h⟩
def qiT (x y:List (Val (.int .i64))):Bool:=eqV (.slice 3 (.int .i64)) x y
def qos (x _:List (Val (.int .i64))):Prop:=Bd (.slice 3 (.int .i64)) x
noncomputable def qfn (N:Nat) (v2:List (Val (.int .i64))) (v3:List (Val (.int .i64))) (k0:Unit→Option (qb [i4])):Nat→Int→Option (qb [i4])
 | 0,_=>none
 | n+1,v4=>bif (decide (v4<(v2.length:Int)))then (chk (0≤v4∧v4<(v2.length:Int)) (chk (0≤v4∧v4<(v3.length:Int)) (bif (!(decide (((v2.getD v4.toNat (qa (.int .i64))):Int)=((v3.getD v4.toNat (qa (.int .i64))):Int))))then (some (false,()))else (qfn N v2 v3 k0 n (IntKind.i64.wrap (v4+(1:Int)))))))else (k0 ())
noncomputable def m34 (N:Nat) (v0:List (Val (.int .i64))) (v1:List (Val (.int .i64))):Option (qb [i4]):=bif (!(decide ((v0.length:Int)=(v1.length:Int))))then (some (false,()))else (qfn N v0 v1 (fun (_:Unit)=>some (true,())) N (0:Int))
def Γ34:Gam:=[]
def qlQ:Nm:=⟨[true,true,false,false,false,true],[],false⟩
theorem qy9:qlQ.zero=false:=rfl
theorem qAI:qlQ.fix=[]:=rfl
theorem qrJ:qlQ.keep=[true,true,false,false,false,true]:=rfl
def qnU:Nm:=⟨[],[],false⟩
theorem qyg:qnU.zero=false:=rfl
theorem qyt:qnU.fix=[]:=rfl
theorem qs2:qnU.keep=[]:=rfl
def qhr:Nat→Tree:=fun i=>if i=6 then .quiet 0 (.quiet 1 (.quiet 2 (.quiet 3 (.quiet 4 (.quiet 5 (.quiet 6 (.quiet 7 (.quiet 8 .done))))))))else .done
def qkF:Nat→Nm:=fun i=>if i=4 then qlQ else ⟨[],[],false⟩
def qlM:Nat→Option Jn:=fun _=>none
def qkP:Nat→Option Nm:=fun i=>if i=0 then some qnU else none
def qiZ:Nat→Option Nm:=fun _=>none
theorem p34:ql qhr (Try.f34.body.getD .skip)=true:=by kernel_rfl
def T34 (N:Nat):Tab:={tr:=qhr,lp:=qkF,ex:=qkP,rg:=qiZ,jn:=qlM,fuel:=N}
theorem qrQ (N:Nat):(T34 N).pins=false:=rfl
theorem qLE (N:Nat):qm Try.prog (T34 N):=qu fun _=>rfl
theorem qsk (N:Nat) (i:Nat):(T34 N).tr i=qhr i:=rfl
theorem qy1 (N:Nat) (i:Nat):(T34 N).lp i=qkF i:=rfl
theorem qA7 (N:Nat) (i:Nat):(T34 N).ex i=qkP i:=rfl
theorem qzT (N:Nat) (i:Nat):(T34 N).rg i=qiZ i:=rfl
theorem qw1 (N:Nat) (i:Nat):(T34 N).jn i=qlM i:=rfl
theorem qBn (N:Nat):(T34 N).fuel=N:=rfl
noncomputable def qDl:Code:=cut [true,true,false,true,true,true] (Try.f34.body.getD .skip)
theorem qHQ {N:Nat} {Q:X→St→Option (qb [i4])} {e:List LV} {h:List Blk}:qd tt Γ34 (T34 N) qDl Q ⟨e,h⟩=qd tt Γ34 (T34 N) (cut [true,true,false,true,true,true] (Try.f34.body.getD .skip)) Q ⟨e,h⟩:=rfl
theorem qGb (N:Nat) (v2:List (Val (.int .i64))) (v3:List (Val (.int .i64))) {k0:Unit→Option (qb [i4])} {Q:X→St→Option (qb [i4])} {c:Code} (hc:c=qDl) (hret: ∀st,Q .ret st=qI tt true [i4] [.tmp 4] st) (h0:Q (.exit 0) ⟨[u,u,u,u,u,u,u,u,u,u,u,u,u,u,u,u,u,u,u,u,u,u,u,u,u,u],[]⟩=k0 ()): ∀(n:Nat) (v4:Int),qD (qd tt Γ34 (T34 N) c) false qlQ Q n ⟨[.one (.sl 3 (.int .i64) v2 0),.one (.sl 3 (.int .i64) v3 0),u,u,u,.one (.int .i64 v4),u,u,u,u,u,u,u,u,u,u,u,u,u,u,u,u,u,u,u,u],[]⟩=qfn N v2 v3 k0 n v4:=by
 subst hc;intro n;induction n with
 | zero=>intros;rfl
 | succ n ih=>
   intro v4
   rw [qR,qHQ,qfn];unfold Try.f34
   simp (maxSteps:=10000000) -implicitDefEqProofs [qsk,qhr,qy1,qkF,qA7,qkP,qzT,qiZ,qw1,qlM,qBn,qrQ,qAI,qrJ,qy9,qyt,qs2,qyg,hret,h0,ih]
theorem qG7 (N:Nat) (v0:List (Val (.int .i64))) (v1:List (Val (.int .i64))):qd tt Γ34 (T34 N) (Try.f34.body.getD .skip) (qp tt true [i4] [.tmp 4]) (qt [i25,i25] 26 (v0,v1,()))=m34 N v0 v1:=by
 unfold Try.f34
 simp (maxSteps:=10000000) -implicitDefEqProofs [qsk,qhr,qy1,qkF,qA7,qkP,qzT,qiZ,qw1,qlM,qBn,qrQ,qAI,qrJ,qy9,qyt,qs2,qyg]
 rewrite [qGb (k0:=(fun (_:Unit)=>some (true,()))) N _ _ ?_ ?_ ?_]
 ·rewrite [m34];first | rfl | simp (maxSteps:=10000000) -implicitDefEqProofs []
 ·rfl
 ·intro;simp only [qK,qM,qO,qv]
 ·simp (maxSteps:=10000000) -implicitDefEqProofs [qsk,qhr,qy1,qkF,qA7,qkP,qzT,qiZ,qw1,qlM,qBn,qrQ,qAI,qrJ,qy9,qyt,qs2,qyg]
def g34:G:={ps:=[i25,i25],rs:=[i4],dp:=true,pre:=fun x=>qos x.1 x.2.1,fn:=fun x=>(qiT x.1 x.2.1,())}
theorem e34 (x y:List (Val (.int .i64))) (h:qos x y): ∃N,m34 N x y=some (qiT x y,()):=⟨List.length x+1,by
 rw [m34,qar]
 rw [qiT,eqS]
 by_cases c:List.length x=List.length y
 ·rw [qh (by omega)]
  refine (qyB (f:=eqV (.int .i64)) (xs:=x) (ys:=y) (F:=fun n i=>qfn _ x y _ n i) (k:=fun _=>some (true,())) (r:=some (false,())) h.1 c (fun n i hi hi2=> ?_) (fun n i hi=> ?_) _ (Nat.lt_succ_self _)).trans qsv
  ·rw [qfn,qh (by omega),qc (by omega),qc (by omega),qL hi,qL hi2,qar]
   rfl
  ·rw [qfn,qi (by omega)]
 ·rw [qi (by omega),qng _ _ c]⟩
theorem s34:Sound Try.prog 34 g34:=qw (tt:=tt) (Γ:=Γ34) hT qq hm (fn:=Try.f34) Try.func34 (c:=Try.f34.body.getD .skip) (by kernel_rfl) (by kernel_rfl) fun x hx=>by
 obtain ⟨N,h⟩:=e34 x.1 x.2.1 hx
 exact ⟨T34 N,p34,qx _,qLE N,(qG7 N x.1 x.2.1).trans h⟩
def qvQ (x y:Val Y36):Bool:=eqV Y36 x y
def qni (x _:Val Y36):Prop:=Bd Y36 x
noncomputable def m13 (N:Nat) (v0:Val Y36) (v1:Val Y36):Option (qb [i4]):=chk (qos (v0.1:List (Val (.int .i64))) (v1.1:List (Val (.int .i64)))) (bif (!((qiT (v0.1:List (Val (.int .i64))) (v1.1:List (Val (.int .i64)))):Bool))then (some (false,()))else (bif (!(decide ((v0.2.1:Int)=(v1.2.1:Int))))then (some (false,()))else (bif (!((v0.2.2:Bool)==(v1.2.2:Bool)))then (some (false,()))else (some (true,())))))
def Γ13:Gam:=[(34,g34)]
theorem qQY:Gam.get Γ13 34=some g34:=rfl
def qmP:Nat→Tree:=fun _=> .done
def qBA:Nat→Nm:=fun _=>⟨[],[],false⟩
def qzX:Nat→Option Jn:=fun _=>none
def qsY:Nat→Option Nm:=fun _=>none
def qrY:Nat→Option Nm:=fun _=>none
theorem p13:ql qmP (Try.f13.body.getD .skip)=true:=by kernel_rfl
def T13 (N:Nat):Tab:={tr:=qmP,lp:=qBA,ex:=qsY,rg:=qrY,jn:=qzX,fuel:=N}
theorem qLr (N:Nat):(T13 N).pins=false:=rfl
theorem qI6 (N:Nat):qm Try.prog (T13 N):=qu fun _=>rfl
theorem qGC (N:Nat) (i:Nat):(T13 N).tr i=qmP i:=rfl
theorem qJ1 (N:Nat) (i:Nat):(T13 N).lp i=qBA i:=rfl
theorem qPJ (N:Nat) (i:Nat):(T13 N).ex i=qsY i:=rfl
theorem qR4 (N:Nat) (i:Nat):(T13 N).rg i=qrY i:=rfl
theorem qIg (N:Nat) (i:Nat):(T13 N).jn i=qzX i:=rfl
theorem qHx (N:Nat):(T13 N).fuel=N:=rfl
theorem qHN (N:Nat) (v0:Val Y36) (v1:Val Y36):qd tt Γ13 (T13 N) (Try.f13.body.getD .skip) (qp tt true [i4] [.tmp 4]) (qt [i36,i36] 21 (v0,v1,()))=m13 N v0 v1:=by
 rw [m13];unfold Try.f13
 simp (maxSteps:=10000000) -implicitDefEqProofs [qGC,qmP,qJ1,qBA,qPJ,qsY,qR4,qrY,qIg,qzX,qHx,qLr,qQY,g34]
 try rfl
def g13:G:={ps:=[i36,i36],rs:=[i4],dp:=true,pre:=fun x=>qni x.1 x.2.1,fn:=fun x=>(qvQ x.1 x.2.1,())}
theorem e13 (x y:Val Y36) (h:qni x y): ∃N,m13 N x y=some (qvQ x y,()):=⟨0,by
 obtain ⟨s0,s1,s2⟩:=h
 rw [m13,qc (show qos _ _ from s0)]
 obtain ⟨x0,x1,x2⟩:=x
 obtain ⟨y0,y1,y2⟩:=y
 change _=some ((eqV (.slice 3 (.int .i64)) x0 y0&&(eqV (.int .i64) x1 y1&&eqV .bool x2 y2)),())
 simp only [qar]
 show _=_
 generalize he0:eqV (.slice 3 (.int .i64)) x0 y0=e0
 have hd0:qiT x0 y0=e0:=he0
 generalize he1:eqV (.int .i64) x1 y1=e1
 have hd1:decide ((x1:Int)=y1)=e1:=he1
 generalize he2:eqV .bool x2 y2=e2
 have hd2:((x2:Bool)==y2)=e2:=he2
 simp only [hd0,hd1,hd2]
 cases e0<;>cases e1<;>cases e2<;>rfl⟩
theorem s13:Sound Try.prog 13 g13:=qw (tt:=tt) (Γ:=Γ13) hT (qf s34 qq) hm (fn:=Try.f13) Try.func13 (c:=Try.f13.body.getD .skip) (by kernel_rfl) (by kernel_rfl) fun x hx=>by
 obtain ⟨N,h⟩:=e13 x.1 x.2.1 hx
 exact ⟨T13 N,p13,qx _,qI6 N,(qHN N x.1 x.2.1).trans h⟩
def qmy (x y:List (Val Y36)):Bool:=eqV (.slice 36 Y36) x y
def qm5 (x _:List (Val Y36)):Prop:=Bd (.slice 36 Y36) x
noncomputable def qgJ (N:Nat) (v2:List (Val Y36)) (v3:List (Val Y36)) (k0:Unit→Option (qb [i4])):Nat→Int→Option (qb [i4])
 | 0,_=>none
 | n+1,v4=>bif (decide (v4<(v2.length:Int)))then (chk (0≤v4∧v4<(v2.length:Int)) (chk (0≤v4∧v4<(v3.length:Int)) (chk (qni (v2.getD v4.toNat (qa Y36)) (v3.getD v4.toNat (qa Y36))) (bif (!((qvQ (v2.getD v4.toNat (qa Y36)) (v3.getD v4.toNat (qa Y36))):Bool))then (some (false,()))else (qgJ N v2 v3 k0 n (IntKind.i64.wrap (v4+(1:Int))))))))else (k0 ())
noncomputable def m33 (N:Nat) (v0:List (Val Y36)) (v1:List (Val Y36)):Option (qb [i4]):=bif (!(decide ((v0.length:Int)=(v1.length:Int))))then (some (false,()))else (qgJ N v0 v1 (fun (_:Unit)=>some (true,())) N (0:Int))
def Γ33:Gam:=[(13,g13)]
theorem qtJ:Gam.get Γ33 13=some g13:=rfl
def qky:Nm:=⟨[true,true,false,false,false,true],[],false⟩
theorem qu7:qky.zero=false:=rfl
theorem qwK:qky.fix=[]:=rfl
theorem qBC:qky.keep=[true,true,false,false,false,true]:=rfl
def qp9:Nm:=⟨[],[],false⟩
theorem qvS:qp9.zero=false:=rfl
theorem qxO:qp9.fix=[]:=rfl
theorem quO:qp9.keep=[]:=rfl
def qh4:Nat→Tree:=fun i=>if i=6 then .quiet 0 (.quiet 1 (.quiet 2 (.quiet 3 (.quiet 4 (.quiet 5 (.quiet 6 (.quiet 7 (.alt 8 (.quiet 9 .done) .stop))))))))else .done
def qkE:Nat→Nm:=fun i=>if i=4 then qky else ⟨[],[],false⟩
def qiH:Nat→Option Jn:=fun _=>none
def qkd:Nat→Option Nm:=fun i=>if i=0 then some qp9 else none
def qmD:Nat→Option Nm:=fun _=>none
theorem p33:ql qh4 (Try.f33.body.getD .skip)=true:=by kernel_rfl
def T33 (N:Nat):Tab:={tr:=qh4,lp:=qkE,ex:=qkd,rg:=qmD,jn:=qiH,fuel:=N}
theorem qxt (N:Nat):(T33 N).pins=false:=rfl
theorem qP1 (N:Nat):qm Try.prog (T33 N):=qu fun _=>rfl
theorem qzM (N:Nat) (i:Nat):(T33 N).tr i=qh4 i:=rfl
theorem qzA (N:Nat) (i:Nat):(T33 N).lp i=qkE i:=rfl
theorem quZ (N:Nat) (i:Nat):(T33 N).ex i=qkd i:=rfl
theorem qri (N:Nat) (i:Nat):(T33 N).rg i=qmD i:=rfl
theorem qwp (N:Nat) (i:Nat):(T33 N).jn i=qiH i:=rfl
theorem qvW (N:Nat):(T33 N).fuel=N:=rfl
noncomputable def qC9:Code:=cut [true,true,false,true,true,true] (Try.f33.body.getD .skip)
theorem qPh {N:Nat} {Q:X→St→Option (qb [i4])} {e:List LV} {h:List Blk}:qd tt Γ33 (T33 N) qC9 Q ⟨e,h⟩=qd tt Γ33 (T33 N) (cut [true,true,false,true,true,true] (Try.f33.body.getD .skip)) Q ⟨e,h⟩:=rfl
theorem qRi (N:Nat) (v2:List (Val Y36)) (v3:List (Val Y36)) {k0:Unit→Option (qb [i4])} {Q:X→St→Option (qb [i4])} {c:Code} (hc:c=qC9) (hret: ∀st,Q .ret st=qI tt true [i4] [.tmp 4] st) (h0:Q (.exit 0) ⟨[u,u,u,u,u,u,u,u,u,u,u,u,u,u,u,u,u,u,u,u,u,u,u,u,u,u,u],[]⟩=k0 ()): ∀(n:Nat) (v4:Int),qD (qd tt Γ33 (T33 N) c) false qky Q n ⟨[.one (.sl 36 Y36 v2 0),.one (.sl 36 Y36 v3 0),u,u,u,.one (.int .i64 v4),u,u,u,u,u,u,u,u,u,u,u,u,u,u,u,u,u,u,u,u,u],[]⟩=qgJ N v2 v3 k0 n v4:=by
 subst hc;intro n;induction n with
 | zero=>intros;rfl
 | succ n ih=>
   intro v4
   rw [qR,qPh,qgJ];unfold Try.f33
   simp (maxSteps:=10000000) -implicitDefEqProofs [qzM,qh4,qzA,qkE,quZ,qkd,qri,qmD,qwp,qiH,qvW,qxt,qwK,qBC,qu7,qxO,quO,qvS,qtJ,g13,hret,h0,ih]
theorem qKG (N:Nat) (v0:List (Val Y36)) (v1:List (Val Y36)):qd tt Γ33 (T33 N) (Try.f33.body.getD .skip) (qp tt true [i4] [.tmp 4]) (qt [i30,i30] 27 (v0,v1,()))=m33 N v0 v1:=by
 unfold Try.f33
 simp (maxSteps:=10000000) -implicitDefEqProofs [qzM,qh4,qzA,qkE,quZ,qkd,qri,qmD,qwp,qiH,qvW,qxt,qwK,qBC,qu7,qxO,quO,qvS,qtJ,g13]
 rewrite [qRi (k0:=(fun (_:Unit)=>some (true,()))) N _ _ ?_ ?_ ?_]
 ·rewrite [m33];first | rfl | simp (maxSteps:=10000000) -implicitDefEqProofs []
 ·rfl
 ·intro;simp only [qK,qM,qO,qv]
 ·simp (maxSteps:=10000000) -implicitDefEqProofs [qzM,qh4,qzA,qkE,quZ,qkd,qri,qmD,qwp,qiH,qvW,qxt,qwK,qBC,qu7,qxO,quO,qvS,qtJ,g13]
def g33:G:={ps:=[i30,i30],rs:=[i4],dp:=true,pre:=fun x=>qm5 x.1 x.2.1,fn:=fun x=>(qmy x.1 x.2.1,())}
theorem e33 (x y:List (Val Y36)) (h:qm5 x y): ∃N,m33 N x y=some (qmy x y,()):=⟨List.length x+1,by
 rw [m33,qar]
 rw [qmy,eqS]
 by_cases c:List.length x=List.length y
 ·rw [qh (by omega)]
  refine (qyB (f:=eqV Y36) (xs:=x) (ys:=y) (F:=fun n i=>qgJ _ x y _ n i) (k:=fun _=>some (true,())) (r:=some (false,())) h.1 c (fun n i hi hi2=> ?_) (fun n i hi=> ?_) _ (Nat.lt_succ_self _)).trans qsv
  ·rw [qgJ,qh (by omega),qc (by omega),qc (by omega),qc (show qni _ _ from by rw [qL hi];exact h.2 _ (List.getElem_mem hi)),qL hi,qL hi2,qar]
   rfl
  ·rw [qgJ,qi (by omega)]
 ·rw [qi (by omega),qng _ _ c]⟩
theorem s33:Sound Try.prog 33 g33:=qw (tt:=tt) (Γ:=Γ33) hT (qf s13 qq) hm (fn:=Try.f33) Try.func33 (c:=Try.f33.body.getD .skip) (by kernel_rfl) (by kernel_rfl) fun x hx=>by
 obtain ⟨N,h⟩:=e33 x.1 x.2.1 hx
 exact ⟨T33 N,p33,qx _,qP1 N,(qKG N x.1 x.2.1).trans h⟩
def qnY (x y:Val Y32):Bool:=eqV Y32 x y
def qnK (x _:Val Y32):Prop:=Bd Y32 x
noncomputable def m12 (N:Nat) (v0:Val Y32) (v1:Val Y32):Option (qb [i4]):=bif (!(decide ((v0.1:Int)=(v1.1:Int))))then (some (false,()))else (chk (qm5 (v0.2:List (Val Y36)) (v1.2:List (Val Y36))) (bif (!((qmy (v0.2:List (Val Y36)) (v1.2:List (Val Y36))):Bool))then (some (false,()))else (some (true,()))))
def Γ12:Gam:=[(33,g33)]
theorem qG6:Gam.get Γ12 33=some g33:=rfl
def qpX:Nat→Tree:=fun _=> .done
def qA3:Nat→Nm:=fun _=>⟨[],[],false⟩
def qvY:Nat→Option Jn:=fun _=>none
def qw0:Nat→Option Nm:=fun _=>none
def qB1:Nat→Option Nm:=fun _=>none
theorem p12:ql qpX (Try.f12.body.getD .skip)=true:=by kernel_rfl
def T12 (N:Nat):Tab:={tr:=qpX,lp:=qA3,ex:=qw0,rg:=qB1,jn:=qvY,fuel:=N}
theorem qNl (N:Nat):(T12 N).pins=false:=rfl
theorem qHd (N:Nat):qm Try.prog (T12 N):=qu fun _=>rfl
theorem qI4 (N:Nat) (i:Nat):(T12 N).tr i=qpX i:=rfl
theorem qPP (N:Nat) (i:Nat):(T12 N).lp i=qA3 i:=rfl
theorem qLe (N:Nat) (i:Nat):(T12 N).ex i=qw0 i:=rfl
theorem qF2 (N:Nat) (i:Nat):(T12 N).rg i=qB1 i:=rfl
theorem qLl (N:Nat) (i:Nat):(T12 N).jn i=qvY i:=rfl
theorem qO0 (N:Nat):(T12 N).fuel=N:=rfl
theorem qIx (N:Nat) (v0:Val Y32) (v1:Val Y32):qd tt Γ12 (T12 N) (Try.f12.body.getD .skip) (qp tt true [i4] [.tmp 4]) (qt [i32,i32] 16 (v0,v1,()))=m12 N v0 v1:=by
 rw [m12];unfold Try.f12
 simp (maxSteps:=10000000) -implicitDefEqProofs [qI4,qpX,qPP,qA3,qLe,qw0,qF2,qB1,qLl,qvY,qO0,qNl,qG6,g33]
 try rfl
def g12:G:={ps:=[i32,i32],rs:=[i4],dp:=true,pre:=fun x=>qnK x.1 x.2.1,fn:=fun x=>(qnY x.1 x.2.1,())}
theorem e12 (x y:Val Y32) (h:qnK x y): ∃N,m12 N x y=some (qnY x y,()):=⟨0,by
 obtain ⟨s0,s1⟩:=h
 rw [m12,qc (show qm5 _ _ from s1)]
 obtain ⟨x0,x1⟩:=x
 obtain ⟨y0,y1⟩:=y
 change _=some ((eqV (.int .i64) x0 y0&&eqV (.slice 36 Y36) x1 y1),())
 simp only [qar]
 show _=_
 generalize he0:eqV (.int .i64) x0 y0=e0
 have hd0:decide ((x0:Int)=y0)=e0:=he0
 generalize he1:eqV (.slice 36 Y36) x1 y1=e1
 have hd1:qmy x1 y1=e1:=he1
 simp only [hd0,hd1]
 cases e0<;>cases e1<;>rfl⟩
theorem s12:Sound Try.prog 12 g12:=qw (tt:=tt) (Γ:=Γ12) hT (qf s33 qq) hm (fn:=Try.f12) Try.func12 (c:=Try.f12.body.getD .skip) (by kernel_rfl) (by kernel_rfl) fun x hx=>by
 obtain ⟨N,h⟩:=e12 x.1 x.2.1 hx
 exact ⟨T12 N,p12,qx _,qHd N,(qIx N x.1 x.2.1).trans h⟩
end Go.T
