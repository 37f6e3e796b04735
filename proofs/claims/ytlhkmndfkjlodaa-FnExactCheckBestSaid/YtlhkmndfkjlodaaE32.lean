/- The width of a cell: what the functions compute. -/
import Derived.Test.YtlhkmndfkjlodaaE22
import Derived.Test.YtlhkmndfkjlodaaT12
import Derived.Test.YtlhkmndfkjlodaaB10
import Derived.Test.YtlhkmndfkjlodaaB9
import Derived.Test.YtlhkmndfkjlodaaB21
set_option linter.unusedSimpArgs false
set_option linter.unusedVariables false
namespace Go.T
open Go Go.Proofs
set_option maxHeartbeats 4000000
set_option maxRecDepth 100000
def qbO (c:Val Y26) (l:List (Val (.int .i64))):Bool:=decide ((l.length:Int)=(c.1:Int))&&l.all fun n=>qv n
def qme (_:Val Y26) (l:List (Val (.int .i64))):Prop:=l.length≤1048576
def qgG (l:List (Val (.int .i64))) (d:Int):Bool:=l.all (fun n=>qv n)&&(decide ((l.length:Int)=d)&&inR d 0 3)
def qoW (l:List (Val (.int .i64))) (_:Int):Prop:=l.length≤1048576
def qaK (c:Val Y26) (l:List (Val Y83)):Val Y26:=(c.1,c.2++l)
def qf2 (c:Val Y26) (l:List (Val Y83)):Prop:=qeh c∧(∀a∈l,qb2 a)∧List.length (α:=Val Y83) c.2+l.length≤1048576
def g66:G:={ps:=[i26,i27],rs:=[i4],dp:=true,pre:=fun x=>qme x.1 x.2.1,fn:=fun x=>(qbO x.1 x.2.1,())}
noncomputable def qd8 (N:Nat) (v2:List (Val (.int .i64))) (v3:Int) (k0:Unit→Option (qa [i4])):Nat→Int→Option (qa [i4])
 | 0,_=>none
 | n+1,v4=>bif (decide (v4<v3))then (chk (0≤v4∧v4<(v2.length:Int)) (bif (!((qv ((v2.getD v4.toNat (qc (.int .i64))):Int)):Bool))then (some (false,()))else (qd8 N v2 v3 k0 n (IntKind.i64.wrap (v4+(1:Int))))))else (k0 ())
noncomputable def m66 (N:Nat) (v0:Val Y26) (v1:List (Val (.int .i64))):Option (qa [i4]):=bif (!(decide ((v1.length:Int)=(v0.1:Int))))then (some (false,()))else (qd8 N v1 (v1.length:Int) (fun (_:Unit)=>some (true,())) N (0:Int))
def Γ66:Gam:=[(109,qaH)]
theorem qAC:Gam.get Γ66 109=some qaH:=rfl
def qkB:Nm:=⟨[false,false,false,false,false,false,false,false,false,false,false,false,true,true,true],[],false⟩
theorem qA3:qkB.zero=false:=rfl
theorem qyX:qkB.fix=[]:=rfl
theorem qvF:qkB.keep=[false,false,false,false,false,false,false,false,false,false,false,false,true,true,true]:=rfl
def qnH:Nm:=⟨[],[],false⟩
theorem qtC:qnH.zero=false:=rfl
theorem qxJ:qnH.fix=[]:=rfl
theorem qsg:qnH.keep=[]:=rfl
def qfC:Nat→Tree:=fun _=> .done
def qjR:Nat→Nm:=fun i=>if i=4 then qkB else ⟨[],[],false⟩
def qk2:Nat→Option Jn:=fun _=>none
def qjU:Nat→Option Nm:=fun i=>if i=0 then some qnH else none
def qhE:Nat→Option Nm:=fun _=>none
theorem p66:qg qfC (Try.f66.body.getD .skip)=true:=by kernel_rfl
def T66 (N:Nat):Tab:={tr:=qfC,lp:=qjR,ex:=qjU,rg:=qhE,jn:=qk2,fuel:=N}
theorem qr0 (N:Nat):(T66 N).pins=false:=rfl
theorem qIT (N:Nat):qk Try.prog (T66 N):=qn fun _=>rfl
theorem qxo (N:Nat) (i:Nat):(T66 N).tr i=qfC i:=rfl
theorem qqv (N:Nat) (i:Nat):(T66 N).lp i=qjR i:=rfl
theorem qu4 (N:Nat) (i:Nat):(T66 N).ex i=qjU i:=rfl
theorem qyZ (N:Nat) (i:Nat):(T66 N).rg i=qhE i:=rfl
theorem qv3 (N:Nat) (i:Nat):(T66 N).jn i=qk2 i:=rfl
theorem qqJ (N:Nat):(T66 N).fuel=N:=rfl
noncomputable def qE5:Code:=cut [true,true,false,true,true,true] (Try.f66.body.getD .skip)
theorem qQm {N:Nat} {Q:X→St→Option (qa [i4])} {e:List LV} {h:List Blk}:qb tt Γ66 (T66 N) qE5 Q ⟨e,h⟩=qb tt Γ66 (T66 N) (cut [true,true,false,true,true,true] (Try.f66.body.getD .skip)) Q ⟨e,h⟩:=rfl
theorem qM1 (N:Nat) (v2:List (Val (.int .i64))) (v3:Int) {k0:Unit→Option (qa [i4])} {Q:X→St→Option (qa [i4])} {c:Code} (hc:c=qE5) (hret: ∀st,Q .ret st=qy tt true [i4] [.tmp 4] st) (h0:Q (.exit 0) ⟨[u,u,u,u,u,u,u,u,u,u,u,u,u,u,u,u,u,u,u,u,u,u],[]⟩=k0 ()): ∀(n:Nat) (v4:Int),qx (qb tt Γ66 (T66 N) c) false qkB Q n ⟨[u,u,u,u,u,u,u,u,u,u,u,u,.one (.sl 3 (.int .i64) v2 0),.one (.int .i64 v3),.one (.int .i64 v4),u,u,u,u,u,u,u],[]⟩=qd8 N v2 v3 k0 n v4:=by
 subst hc;intro n;induction n with
 | zero=>intros;rfl
 | succ n ih=>
   intro v4
   rw [qI,qQm,qd8];unfold Try.f66
   simp (maxSteps:=10000000) -implicitDefEqProofs [qxo,qfC,qqv,qjR,qu4,qjU,qyZ,qhE,qv3,qk2,qqJ,qr0,qyX,qvF,qA3,qxJ,qsg,qtC,qAC,qaH,hret,h0,ih]
theorem qJy (N:Nat) (v0:Val Y26) (v1:List (Val (.int .i64))):qb tt Γ66 (T66 N) (Try.f66.body.getD .skip) (qh tt true [i4] [.tmp 4]) (ql [i26,i27] 22 (v0,v1,()))=m66 N v0 v1:=by
 unfold Try.f66
 simp (maxSteps:=10000000) -implicitDefEqProofs [qxo,qfC,qqv,qjR,qu4,qjU,qyZ,qhE,qv3,qk2,qqJ,qr0,qyX,qvF,qA3,qxJ,qsg,qtC,qAC,qaH]
 rewrite [qM1 (k0:=(fun (_:Unit)=>some (true,()))) N _ _ ?_ ?_ ?_]
 ·rewrite [m66];first | rfl | simp (maxSteps:=10000000) -implicitDefEqProofs []
 ·rfl
 ·intro;simp only [qD,qE,qF,qC]
 ·simp (maxSteps:=10000000) -implicitDefEqProofs [qxo,qfC,qqv,qjR,qu4,qjU,qyZ,qhE,qv3,qk2,qqJ,qr0,qyX,qvF,qA3,qxJ,qsg,qtC,qAC,qaH]
theorem e66 (c:Val Y26) (l:List (Val (.int .i64))) (h:qme c l): ∃N,m66 N c l=some (qbO c l,()):=⟨l.length+1,by
 rw [m66,qbO]
 cases decide ((l.length:Int)=(c.1:Int))with
 | false=>rfl
 | true=>
   simp only [Bool.not_true,cond_false,Bool.true_and]
   refine (q4 (F:=fun n i (_:Unit)=>qd8 (l.length+1) l l.length (fun _=>some (true,())) n i) (step:=fun _ x _ K=>bif qv x then K ()else some (false,())) (k:=fun _=>some (true,())) h (fun n i s hi=>by rw [qd8,qi (by omega),qd (by omega),qB hi,q9]) (fun n i s hi=>by rw [qd8,qj (by omega)]) _ () (Nat.lt_succ_self _)).trans ((qaZ l 0).trans ?_)
   cases l.all fun n=>qv n<;>rfl⟩
theorem s66:Sound Try.prog 66 g66:=qq (tt:=tt) (Γ:=Γ66) hT (qe qmv qp) hm (fn:=Try.f66) Try.func66 (c:=Try.f66.body.getD .skip) (by kernel_rfl) (by kernel_rfl) fun x hx=>by
 obtain ⟨N,h⟩:=e66 x.1 x.2.1 hx
 exact ⟨T66 N,p66,qm _,qIT N,(qJy N x.1 x.2.1).trans h⟩
def g72:G:={ps:=[i26,i24],rs:=[i26],dp:=true,pre:=fun x=>qf2 x.1 x.2.1,fn:=fun x=>(qaK x.1 x.2.1,())}
noncomputable def qe3 (N:Nat) (v2:List (Val Y83)) (v3:Int) (v5:Int) (v6:Int) (k0:(List (Val Y83))→Option (qa [i26])):Nat→Int→(List (Val Y83))→Option (qa [i26])
 | 0,_,_=>none
 | n+1,v4,v7=>bif (decide (v4<v3))then (chk (0≤v4∧v4<(v2.length:Int)) (chk (qb2 (v2.getD v4.toNat (qc Y83))) (chk (v7.length+([(((idA (v2.getD v4.toNat (qc Y83))).1:List (Val (.int .i64))),(((idA (v2.getD v4.toNat (qc Y83))).2).1:Int),(((idA (v2.getD v4.toNat (qc Y83))).2).2:Bool))]:List (Val Y83)).length≤1048576) (qe3 N v2 v3 v5 v6 k0 n (IntKind.i64.wrap (v4+(1:Int))) (v7++([(((idA (v2.getD v4.toNat (qc Y83))).1:List (Val (.int .i64))),(((idA (v2.getD v4.toNat (qc Y83))).2).1:Int),(((idA (v2.getD v4.toNat (qc Y83))).2).2:Bool))]:List (Val Y83)))))))else (k0 v7)
noncomputable def m72 (N:Nat) (v0:Val Y26) (v1:List (Val Y83)):Option (qa [i26]):=chk (qeh v0) (qe3 N v1 (v1.length:Int) (0:Int) ((cpC v0).1:Int) (fun (v9:List (Val Y83))=>some ((((cpC v0).1:Int),v9),())) N (0:Int) ((cpC v0).2:List (Val Y83)))
def Γ72:Gam:=[(111,qfM),(112,qbI)]
theorem quB:Gam.get Γ72 111=some qfM:=rfl
theorem qpp:Gam.get Γ72 112=some qbI:=rfl
def qi5:Nm:=⟨[false,false,false,false,true,true,false,false,false,false,true,true,true],[],false⟩
theorem quv:qi5.zero=false:=rfl
theorem qpU:qi5.fix=[]:=rfl
theorem qsJ:qi5.keep=[false,false,false,false,true,true,false,false,false,false,true,true,true]:=rfl
def ql7:Nm:=⟨[false,false,false,false,true,true],[],false⟩
theorem qAH:ql7.zero=false:=rfl
theorem qyn:ql7.fix=[]:=rfl
theorem qvU:ql7.keep=[false,false,false,false,true,true]:=rfl
def qoT:Nm:=⟨[false,false,false,false,true,true,false,false,false,false,true,true,true],[],false⟩
theorem qr8:qoT.zero=false:=rfl
theorem qsv:qoT.fix=[]:=rfl
theorem qvd:qoT.keep=[false,false,false,false,true,true,false,false,false,false,true,true,true]:=rfl
def qgl:Nat→Tree:=fun i=>if i=5 then .quiet 2 (.alt 0 (.alt 1 (.alt 3 (.alt 4 (.alt 5 (.quiet 6 (.alt 7 .done .stop)) .stop) .stop) .stop) (.alt 3 (.alt 1 (.alt 4 (.alt 5 (.quiet 6 (.alt 7 .done .stop)) .stop) .stop) (.alt 4 (.quiet 1 (.alt 5 (.quiet 6 (.alt 7 .done .stop)) .stop)) .stop)) .stop)) (.alt 3 (.alt 0 (.alt 1 (.alt 4 (.alt 5 (.quiet 6 (.alt 7 .done .stop)) .stop) .stop) (.alt 4 (.quiet 1 (.alt 5 (.quiet 6 (.alt 7 .done .stop)) .stop)) .stop)) (.alt 4 (.quiet 0 (.quiet 1 (.alt 5 (.quiet 6 (.alt 7 .done .stop)) .stop))) .stop)) .stop))else .done
def qiB:Nat→Nm:=fun i=>if i=3 then qi5 else ⟨[],[],false⟩
def qhq:Nat→Option Jn:=fun _=>none
def qk1:Nat→Option Nm:=fun i=>if i=0 then some ql7 else none
def qhe:Nat→Option Nm:=fun i=>if i=5 then some qoT else none
theorem p72:qg qgl (Try.f72.body.getD .skip)=true:=by kernel_rfl
def T72 (N:Nat):Tab:={tr:=qgl,lp:=qiB,ex:=qk1,rg:=qhe,jn:=qhq,fuel:=N}
theorem qv4 (N:Nat):(T72 N).pins=false:=rfl
theorem qPd (N:Nat):qk Try.prog (T72 N):=qn fun _=>rfl
theorem qAF (N:Nat) (i:Nat):(T72 N).tr i=qgl i:=rfl
theorem qyi (N:Nat) (i:Nat):(T72 N).lp i=qiB i:=rfl
theorem qy5 (N:Nat) (i:Nat):(T72 N).ex i=qk1 i:=rfl
theorem qAN (N:Nat) (i:Nat):(T72 N).rg i=qhe i:=rfl
theorem qAi (N:Nat) (i:Nat):(T72 N).jn i=qhq i:=rfl
theorem qBd (N:Nat):(T72 N).fuel=N:=rfl
noncomputable def qB6:Code:=cut [true,true,false,true,true,true] (Try.f72.body.getD .skip)
theorem qRc {N:Nat} {Q:X→St→Option (qa [i26])} {e:List LV} {h:List Blk}:qb tt Γ72 (T72 N) qB6 Q ⟨e,h⟩=qb tt Γ72 (T72 N) (cut [true,true,false,true,true,true] (Try.f72.body.getD .skip)) Q ⟨e,h⟩:=rfl
theorem qPj (N:Nat) (v2:List (Val Y83)) (v3:Int) (v5:Int) (v6:Int) {k0:(List (Val Y83))→Option (qa [i26])} {Q:X→St→Option (qa [i26])} {c:Code} (hc:c=qB6) (hret: ∀st,Q .ret st=qy tt true [i26] [.cell 4 26] st) (h0: ∀(v8:List (Val Y83)),Q (.exit 0) ⟨[u,u,u,u,.one (.ptr 0 0 0),.one (.ptr 1 0 0),u,u,u,u,u,u,u,u,u,u,u,u,u,u,u,u,u,u,u],[.box [.int .i64 v5,.nils],.box [.int .i64 v6,.own 2],.row 83 Y83 v8 true true 0]⟩=k0 v8): ∀(n:Nat) (v4:Int) (v7:List (Val Y83)),qx (qb tt Γ72 (T72 N) c) false qi5 Q n ⟨[u,u,u,u,.one (.ptr 0 0 0),.one (.ptr 1 0 0),u,u,u,u,.one (.sl 83 Y83 v2 3),.one (.int .i64 v3),.one (.int .i64 v4),u,u,u,u,u,u,u,u,u,u,u,u],[.box [.int .i64 v5,.nils],.box [.int .i64 v6,.own 2],.row 83 Y83 v7 true true 0]⟩=qe3 N v2 v3 v5 v6 k0 n v4 v7:=by
 subst hc;intro n;induction n with
 | zero=>intros;rfl
 | succ n ih=>
   intro v4 v7
   rw [qI,qRc,qe3];unfold Try.f72
   simp (maxSteps:=10000000) -implicitDefEqProofs [qAF,qgl,qyi,qiB,qy5,qk1,qAN,qhe,qAi,qhq,qBd,qv4,qpU,qsJ,quv,qyn,qvU,qAH,qsv,qvd,qr8,quB,qpp,qfM,qbI,hret,h0,ih]
theorem qKK (N:Nat) (v0:Val Y26) (v1:List (Val Y83)):qb tt Γ72 (T72 N) (Try.f72.body.getD .skip) (qh tt true [i26] [.cell 4 26]) (ql [i26,i24] 25 (v0,v1,()))=m72 N v0 v1:=by
 unfold Try.f72
 simp (maxSteps:=10000000) -implicitDefEqProofs [qAF,qgl,qyi,qiB,qy5,qk1,qAN,qhe,qAi,qhq,qBd,qv4,qpU,qsJ,quv,qyn,qvU,qAH,qsv,qvd,qr8,quB,qpp,qfM,qbI]
 rewrite [qPj (k0:=(fun (v9:List (Val Y83))=>some ((((cpC v0).1:Int),v9),()))) N _ _ _ _ ?_ ?_ ?_]
 ·rewrite [m72];first | rfl | simp (maxSteps:=10000000) -implicitDefEqProofs []
 ·rfl
 ·intro;simp only [qD,qE,qF,qC]
 ·intro v9;simp (maxSteps:=10000000) -implicitDefEqProofs [qAF,qgl,qyi,qiB,qy5,qk1,qAN,qhe,qAi,qhq,qBd,qv4,qpU,qsJ,quv,qyn,qvU,qAH,qsv,qvd,qr8,quB,qpp,qfM,qbI]
theorem e72 (c:Val Y26) (l:List (Val Y83)) (h:qf2 c l): ∃N,m72 N c l=some (qaK c l,()):=⟨l.length+1,by
 obtain ⟨d,xs⟩:=c
 change Int at d
 change List (Val Y83)at xs
 obtain ⟨h1,h2,h3⟩:=h
 have h3:xs.length+l.length≤1048576:=h3
 rw [m72,qd h1]
 refine (q4 (F:=fun n i s=>qe3 _ l l.length 0 d _ n i s) (step:=fun _ x s K=>chk (s.length+[x].length≤1048576) (K (s++[x]))) (k:=fun s=>some ((d,s),())) (by omega) (fun n i s hi=> ?_) (fun n i s hi=> ?_) _ xs (Nat.lt_succ_self _)).trans ?_
 ·rw [qe3,qi (by omega),qd (by omega),qB hi,qd (h2 _ (List.getElem_mem hi))]
  rfl
 ·rw [qe3,qj (by omega)];rfl
 ·exact (qm2 (f:=fun x=>x) l 0 xs (by omega)).trans (by simp [qaK])⟩
theorem s72:Sound Try.prog 72 g72:=qq (tt:=tt) (Γ:=Γ72) hT (qe qJ0 (qe qFc qp)) hm (fn:=Try.f72) Try.func72 (c:=Try.f72.body.getD .skip) (by kernel_rfl) (by kernel_rfl) fun x hx=>by
 obtain ⟨N,h⟩:=e72 x.1 x.2.1 hx
 exact ⟨T72 N,p72,qm _,qPd N,(qKK N x.1 x.2.1).trans h⟩
theorem qFo {c:Val Y26} (h:qS c=true):(0≤(c.1:Int)∧(c.1:Int)≤4)∧List.length (α:=Val Y83) c.2≤16∧ ∀a∈(c.2:List (Val Y83)),okD c.1 a:=by
 unfold qS at h
 simp only [Bool.and_eq_true,decide_eq_true_eq,List.all_eq_true]at h
 refine ⟨h.1.1,by omega,fun a ha=> ?_⟩
 exact h.2 a ha
theorem qmm {c:Val Y26} {l:List (Val (.int .i64))} (h:qbO c l=true):(l.length:Int)=(c.1:Int)∧ ∀x∈l,qv x=true:=by
 unfold qbO at h
 simpa only [Bool.and_eq_true,decide_eq_true_eq,List.all_eq_true] using h
def g55:G:={ps:=[i27,i3],rs:=[i4],dp:=true,pre:=fun x=>qoW x.1 x.2.1,fn:=fun x=>(qgG x.1 x.2.1,())}
noncomputable def qdO (N:Nat) (v2:List (Val (.int .i64))) (v3:Int) (k0:Unit→Option (qa [i4])):Nat→Int→Option (qa [i4])
 | 0,_=>none
 | n+1,v4=>bif (decide (v4<(v2.length:Int)))then (chk (0≤v4∧v4<(v2.length:Int)) (bif (!((qv ((v2.getD v4.toNat (qc (.int .i64))):Int)):Bool))then (some (false,()))else (qdO N v2 v3 k0 n (IntKind.i64.wrap (v4+(1:Int))))))else (k0 ())
noncomputable def m55 (N:Nat) (v0:List (Val (.int .i64))) (v1:Int):Option (qa [i4]):=qdO N v0 v1 (fun (_:Unit)=>bif (decide ((v0.length:Int)=v1))then (some (((inR v1 (0:Int) (3:Int)):Bool),()))else (some (false,()))) N (0:Int)
def Γ55:Gam:=[(47,g47),(98,g98)]
theorem qpy:Gam.get Γ55 47=some g47:=rfl
theorem qxw:Gam.get Γ55 98=some g98:=rfl
def qjS:Nm:=⟨[true,true,false,false,false,true],[],false⟩
theorem qpC:qjS.zero=false:=rfl
theorem qqT:qjS.fix=[]:=rfl
theorem qtQ:qjS.keep=[true,true,false,false,false,true]:=rfl
def qmc:Nm:=⟨[true,true],[],false⟩
theorem qxn:qmc.zero=false:=rfl
theorem qtW:qmc.fix=[]:=rfl
theorem qw3:qmc.keep=[true,true]:=rfl
def qgE:Nat→Tree:=fun _=> .done
def qkE:Nat→Nm:=fun i=>if i=2 then qjS else ⟨[],[],false⟩
def qjq:Nat→Option Jn:=fun _=>none
def qhD:Nat→Option Nm:=fun i=>if i=0 then some qmc else none
def qiq:Nat→Option Nm:=fun _=>none
theorem p55:qg qgE (Try.f55.body.getD .skip)=true:=by kernel_rfl
def T55 (N:Nat):Tab:={tr:=qgE,lp:=qkE,ex:=qhD,rg:=qiq,jn:=qjq,fuel:=N}
theorem qvk (N:Nat):(T55 N).pins=false:=rfl
theorem qQW (N:Nat):qk Try.prog (T55 N):=qn fun _=>rfl
theorem qwX (N:Nat) (i:Nat):(T55 N).tr i=qgE i:=rfl
theorem qAj (N:Nat) (i:Nat):(T55 N).lp i=qkE i:=rfl
theorem qxG (N:Nat) (i:Nat):(T55 N).ex i=qhD i:=rfl
theorem qrl (N:Nat) (i:Nat):(T55 N).rg i=qiq i:=rfl
theorem qzR (N:Nat) (i:Nat):(T55 N).jn i=qjq i:=rfl
theorem qs3 (N:Nat):(T55 N).fuel=N:=rfl
noncomputable def qCJ:Code:=cut [true,false,true,true,true] (Try.f55.body.getD .skip)
theorem qOu {N:Nat} {Q:X→St→Option (qa [i4])} {e:List LV} {h:List Blk}:qb tt Γ55 (T55 N) qCJ Q ⟨e,h⟩=qb tt Γ55 (T55 N) (cut [true,false,true,true,true] (Try.f55.body.getD .skip)) Q ⟨e,h⟩:=rfl
theorem qIO (N:Nat) (v2:List (Val (.int .i64))) (v3:Int) {k0:Unit→Option (qa [i4])} {Q:X→St→Option (qa [i4])} {c:Code} (hc:c=qCJ) (hret: ∀st,Q .ret st=qy tt true [i4] [.tmp 4] st) (h0:Q (.exit 0) ⟨[.one (.sl 3 (.int .i64) v2 0),.one (.int .i64 v3),u,u,u,u,u,u,u,u,u,u,u,u,u,u,u,u,u,u,u,u,u,u,u,u],[]⟩=k0 ()): ∀(n:Nat) (v4:Int),qx (qb tt Γ55 (T55 N) c) false qjS Q n ⟨[.one (.sl 3 (.int .i64) v2 0),.one (.int .i64 v3),u,u,u,.one (.int .i64 v4),u,u,u,u,u,u,u,u,u,u,u,u,u,u,u,u,u,u,u,u],[]⟩=qdO N v2 v3 k0 n v4:=by
 subst hc;intro n;induction n with
 | zero=>intros;rfl
 | succ n ih=>
   intro v4
   rw [qI,qOu,qdO];unfold Try.f55
   simp (maxSteps:=10000000) -implicitDefEqProofs [qwX,qgE,qAj,qkE,qxG,qhD,qrl,qiq,qzR,qjq,qs3,qvk,qqT,qtQ,qpC,qtW,qw3,qxn,qpy,qxw,g47,g98,hret,h0,ih]
theorem qPZ (N:Nat) (v0:List (Val (.int .i64))) (v1:Int):qb tt Γ55 (T55 N) (Try.f55.body.getD .skip) (qh tt true [i4] [.tmp 4]) (ql [i27,i3] 26 (v0,v1,()))=m55 N v0 v1:=by
 unfold Try.f55
 simp (maxSteps:=10000000) -implicitDefEqProofs [qwX,qgE,qAj,qkE,qxG,qhD,qrl,qiq,qzR,qjq,qs3,qvk,qqT,qtQ,qpC,qtW,qw3,qxn,qpy,qxw,g47,g98]
 rewrite [qIO (k0:=(fun (_:Unit)=>bif (decide ((v0.length:Int)=v1))then (some (((inR v1 (0:Int) (3:Int)):Bool),()))else (some (false,())))) N _ _ ?_ ?_ ?_]
 ·rewrite [m55];first | rfl | simp (maxSteps:=10000000) -implicitDefEqProofs []
 ·rfl
 ·intro;simp only [qD,qE,qF,qC]
 ·simp (maxSteps:=10000000) -implicitDefEqProofs [qwX,qgE,qAj,qkE,qxG,qhD,qrl,qiq,qzR,qjq,qs3,qvk,qqT,qtQ,qpC,qtW,qw3,qxn,qpy,qxw,g47,g98]
theorem e55 (l:List (Val (.int .i64))) (d:Int) (h:qoW l d): ∃N,m55 N l d=some (qgG l d,()):=⟨l.length+1,by
 rw [m55,qgG]
 refine (q4 (F:=fun n i (_:Unit)=>qdO (l.length+1) l d _ n i) (step:=fun _ x _ K=>bif qv x then K ()else some (false,())) h (fun n i s hi=>by rw [qdO,qi (by omega),qd (by omega),qB hi,q9]) (fun n i s hi=>by rw [qdO,qj (by omega)]) _ () (Nat.lt_succ_self _)).trans ((qaZ l 0).trans ?_)
 cases l.all fun n=>qv n with
 | false=>rfl
 | true=>
   simp only [cond_true,Bool.true_and]
   cases decide ((l.length:Int)=d)<;>rfl⟩
theorem s55:Sound Try.prog 55 g55:=qq (tt:=tt) (Γ:=Γ55) hT (qe s47 (qe s98 qp)) hm (fn:=Try.f55) Try.func55 (c:=Try.f55.body.getD .skip) (by kernel_rfl) (by kernel_rfl) fun x hx=>by
 obtain ⟨N,h⟩:=e55 x.1 x.2.1 hx
 exact ⟨T55 N,p55,qm _,qQW N,(qPZ N x.1 x.2.1).trans h⟩
theorem qCd {c:Val Y26} {l:List (Val (.int .i64))} (h:qS c=true):qgG l c.1=(decide ((c.1:Int)<4)&&qbO c l):=by
 have:=(qFo h).1
 obtain ⟨d,xs⟩:=c
 change Int at d
 have this:0≤d∧d≤4:=this
 show (l.all (fun n=>qv n)&&(decide ((l.length:Int)=d)&&decide (0≤d∧d≤3)))=(decide (d<4)&&(decide ((l.length:Int)=d)&&l.all fun n=>qv n))
 have e:decide (0≤d∧d≤3)=decide (d<4):=by
  rw [decide_eq_decide];omega
 rw [e]
 cases l.all (fun n=>qv n)<;>cases decide ((l.length:Int)=d)<;>cases decide (d<4)<;>rfl
end Go.T
