/- Databases. -/
import Derived.Test.YtlhkmndfkjlodaaA3b
set_option linter.unusedSimpArgs false
set_option linter.unusedVariables false
namespace Go.T
open Go Go.Proofs
set_option maxHeartbeats 4000000
set_option maxRecDepth 100000
def qmv {α:Type} (p:Nat→α→Bool):Nat→List α→Bool
 | _,[]=>true
 | i,x::r=>p i x&&qmv p (i+1) r
theorem qFu {ρ α:Type} {p:Nat→α→Bool} {r:Option ρ} {k:Unit→Option ρ}: ∀(xs:List α) (i:Nat),qcb (fun i x _ K=>bif p i x then K ()else r) i xs () k=bif qmv p i xs then k ()else r
 | [],_=>rfl
 | x::xs,i=>by
   rw [qcb];dsimp only;rw [qFu xs,qmv]
   cases h:p i x<;>simp
def qcg (name:ByteArray):List (Val qe)→Nat→Int
 | [],_=> -1
 | x::r,i=>bif ByteArray.toList x.1==ByteArray.toList name then (i:Int)else qcg name r (i+1)
def qU (xs:List (Val qe)) (name:ByteArray):Int:=qcg name xs 0
def qck (xs:List (Val qe)) (_:ByteArray):Prop:=xs.length≤1048576
theorem qvB (name:ByteArray): ∀(xs:List (Val qe)) (i:Nat),qcb (fun i x (_:Unit) K=>bif ByteArray.toList x.1==ByteArray.toList name then some ((i:Int),())else K ()) i xs () (fun _=>some ((-1:Int),()))=some (qcg name xs i,())
 | [],_=>rfl
 | x::xs,i=>by
   rw [qcb];dsimp only;rw [qvB name xs,qcg]
   cases ByteArray.toList x.1==ByteArray.toList name<;>rfl
noncomputable def qgR (N:Nat) (v2:List (Val qe)) (v3:ByteArray) (k0:Unit→Option (qc [i3])):Nat→Int→Option (qc [i3])
 | 0,_=>none
 | n+1,v4=>bif (decide (v4<(v2.length:Int)))then (chk (0≤v4∧v4<(v2.length:Int)) (bif (ByteArray.toList ((v2.getD v4.toNat (qb qe)).1:ByteArray)==ByteArray.toList v3)then (some (v4,()))else (qgR N v2 v3 k0 n (IntKind.i64.wrap (v4+(1:Int))))))else (k0 ())
noncomputable def qpQ (N:Nat) (v0:List (Val qe)) (v1:ByteArray):Option (qc [i3]):=qgR N v0 v1 (fun (_:Unit)=>some ((-1:Int),())) N (0:Int)
def qmu:Gam:=[]
def qoJ:Nm:=⟨[true,true,false,false,false,true],[],false⟩
theorem qyd:qoJ.zero=false:=rfl
theorem qDv:qoJ.fix=[]:=rfl
theorem qyC:qoJ.keep=[true,true,false,false,false,true]:=rfl
def qsG:Nm:=⟨[],[],false⟩
theorem qxz:qsG.zero=false:=rfl
theorem qwi:qsG.fix=[]:=rfl
theorem qvI:qsG.keep=[]:=rfl
def qjw:Nat→Tree:=fun _=> .done
def qko:Nat→Nm:=fun i=>if i=2 then qoJ else ⟨[],[],false⟩
def qmL:Nat→Option Jn:=fun _=>none
def qnV:Nat→Option Nm:=fun i=>if i=0 then some qsG else none
def qmx:Nat→Option Nm:=fun _=>none
theorem qVU:qm qjw (Try.f141.body.getD .skip)=true:=by kernel_rfl
def qeb (N:Nat):Tab:={tr:=qjw,lp:=qko,ex:=qnV,rg:=qmx,jn:=qmL,fuel:=N}
theorem qu8 (N:Nat):(qeb N).pins=false:=rfl
theorem qLI (N:Nat):qn Try.prog (qeb N):=qt fun _=>rfl
theorem qxd (N:Nat) (i:Nat):(qeb N).tr i=qjw i:=rfl
theorem qDE (N:Nat) (i:Nat):(qeb N).lp i=qko i:=rfl
theorem qt5 (N:Nat) (i:Nat):(qeb N).ex i=qnV i:=rfl
theorem qzI (N:Nat) (i:Nat):(qeb N).rg i=qmx i:=rfl
theorem qyY (N:Nat) (i:Nat):(qeb N).jn i=qmL i:=rfl
theorem qz9 (N:Nat):(qeb N).fuel=N:=rfl
noncomputable def qJ1:Code:=cut [true,false,true,true,true] (Try.f141.body.getD .skip)
theorem qU6 {N:Nat} {Q:X→St→Option (qc [i3])} {e:List LV} {h:List Blk}:qf tt qmu (qeb N) qJ1 Q ⟨e,h⟩=qf tt qmu (qeb N) (cut [true,false,true,true,true] (Try.f141.body.getD .skip)) Q ⟨e,h⟩:=rfl
theorem qOt (N:Nat) (v2:List (Val qe)) (v3:ByteArray) {k0:Unit→Option (qc [i3])} {Q:X→St→Option (qc [i3])} {c:Code} (hc:c=qJ1) (hret: ∀st,Q .ret st=qN tt true [i3] [.tmp 4] st) (h0:Q (.exit 0) ⟨[u,u,u,u,u,u,u,u,u,u,u,u,u,u,u,u,u,u,u,u],[]⟩=k0 ()): ∀(n:Nat) (v4:Int),qI (qf tt qmu (qeb N) c) false qoJ Q n ⟨[.one (.sl 123 qe v2 0),.one (.str v3),u,u,u,.one (.int .i64 v4),u,u,u,u,u,u,u,u,u,u,u,u,u,u],[]⟩=qgR N v2 v3 k0 n v4:=by
 subst hc;intro n;induction n with
 | zero=>intros;rfl
 | succ n ih=>
   intro v4
   rw [qS,qU6,qgR];unfold Try.f141
   simp (maxSteps:=10000000) -implicitDefEqProofs [qxd,qjw,qDE,qko,qt5,qnV,qzI,qmx,qyY,qmL,qz9,qu8,qDv,qyC,qyd,qwi,qvI,qxz,hret,h0,ih]
theorem qSU (N:Nat) (v0:List (Val qe)) (v1:ByteArray):qf tt qmu (qeb N) (Try.f141.body.getD .skip) (qo tt true [i3] [.tmp 4]) (qv [i63,i9] 20 (v0,v1,()))=qpQ N v0 v1:=by
 unfold Try.f141
 simp (maxSteps:=10000000) -implicitDefEqProofs [qxd,qjw,qDE,qko,qt5,qnV,qzI,qmx,qyY,qmL,qz9,qu8,qDv,qyC,qyd,qwi,qvI,qxz]
 rewrite [qOt (k0:=(fun (_:Unit)=>some ((-1:Int),()))) N _ _ ?_ ?_ ?_]
 ·rewrite [qpQ];first | rfl | simp (maxSteps:=10000000) -implicitDefEqProofs []
 ·rfl
 ·intro;simp only [qQ,qR,qT,qr]
 ·simp (maxSteps:=10000000) -implicitDefEqProofs [qxd,qjw,qDE,qko,qt5,qnV,qzI,qmx,qyY,qmL,qz9,qu8,qDv,qyC,qyd,qwi,qvI,qxz]
noncomputable def qhe (N:Nat) (v2:ByteArray) (v3:List (Val qe)) (v4:Int) (k0:Unit→Option (qc [i3])):Nat→Int→Option (qc [i3])
 | 0,_=>none
 | n+1,v5=>bif (decide (v5<v4))then (chk (0≤v5∧v5<(v3.length:Int)) (bif (ByteArray.toList ((v3.getD v5.toNat (qb qe)).1:ByteArray)==ByteArray.toList v2)then (some (v5,()))else (qhe N v2 v3 v4 k0 n (IntKind.i64.wrap (v5+(1:Int))))))else (k0 ())
noncomputable def qpL (N:Nat) (v0:List (Val qe)) (v1:ByteArray):Option (qc [i3]):=qhe N v1 v0 (v0.length:Int) (fun (_:Unit)=>some ((-1:Int),())) N (0:Int)
def qj0:Gam:=[]
def qot:Nm:=⟨[false,true,false,false,false,false,false,true,true,true],[],false⟩
theorem qus:qot.zero=false:=rfl
theorem qyn:qot.fix=[]:=rfl
theorem qGu:qot.keep=[false,true,false,false,false,false,false,true,true,true]:=rfl
def qqq:Nm:=⟨[],[],false⟩
theorem qGn:qqq.zero=false:=rfl
theorem qyP:qqq.fix=[]:=rfl
theorem quR:qqq.keep=[]:=rfl
def qiw:Nat→Tree:=fun _=> .done
def qlj:Nat→Nm:=fun i=>if i=2 then qot else ⟨[],[],false⟩
def qlE:Nat→Option Jn:=fun _=>none
def qlg:Nat→Option Nm:=fun i=>if i=0 then some qqq else none
def qlq:Nat→Option Nm:=fun _=>none
theorem qPM:qm qiw (Try.f146.body.getD .skip)=true:=by kernel_rfl
def qdc (N:Nat):Tab:={tr:=qiw,lp:=qlj,ex:=qlg,rg:=qlq,jn:=qlE,fuel:=N}
theorem quX (N:Nat):(qdc N).pins=false:=rfl
theorem qMx (N:Nat):qn Try.prog (qdc N):=qt fun _=>rfl
theorem qBC (N:Nat) (i:Nat):(qdc N).tr i=qiw i:=rfl
theorem qDI (N:Nat) (i:Nat):(qdc N).lp i=qlj i:=rfl
theorem qFe (N:Nat) (i:Nat):(qdc N).ex i=qlg i:=rfl
theorem qEe (N:Nat) (i:Nat):(qdc N).rg i=qlq i:=rfl
theorem qCv (N:Nat) (i:Nat):(qdc N).jn i=qlE i:=rfl
theorem qEy (N:Nat):(qdc N).fuel=N:=rfl
noncomputable def qHU:Code:=cut [true,false,true,true,true] (Try.f146.body.getD .skip)
theorem qRd {N:Nat} {Q:X→St→Option (qc [i3])} {e:List LV} {h:List Blk}:qf tt qj0 (qdc N) qHU Q ⟨e,h⟩=qf tt qj0 (qdc N) (cut [true,false,true,true,true] (Try.f146.body.getD .skip)) Q ⟨e,h⟩:=rfl
theorem qPz (N:Nat) (v2:ByteArray) (v3:List (Val qe)) (v4:Int) {k0:Unit→Option (qc [i3])} {Q:X→St→Option (qc [i3])} {c:Code} (hc:c=qHU) (hret: ∀st,Q .ret st=qN tt true [i3] [.tmp 4] st) (h0:Q (.exit 0) ⟨[u,u,u,u,u,u,u,u,u,u,u,u,u,u,u,u,u,u,u,u],[]⟩=k0 ()): ∀(n:Nat) (v5:Int),qI (qf tt qj0 (qdc N) c) false qot Q n ⟨[u,.one (.str v2),u,u,u,u,u,.one (.sl 123 qe v3 0),.one (.int .i64 v4),.one (.int .i64 v5),u,u,u,u,u,u,u,u,u,u],[]⟩=qhe N v2 v3 v4 k0 n v5:=by
 subst hc;intro n;induction n with
 | zero=>intros;rfl
 | succ n ih=>
   intro v5
   rw [qS,qRd,qhe];unfold Try.f146
   simp (maxSteps:=10000000) -implicitDefEqProofs [qBC,qiw,qDI,qlj,qFe,qlg,qEe,qlq,qCv,qlE,qEy,quX,qyn,qGu,qus,qyP,quR,qGn,hret,h0,ih]
theorem qRc (N:Nat) (v0:List (Val qe)) (v1:ByteArray):qf tt qj0 (qdc N) (Try.f146.body.getD .skip) (qo tt true [i3] [.tmp 4]) (qv [i63,i9] 20 (v0,v1,()))=qpL N v0 v1:=by
 unfold Try.f146
 simp (maxSteps:=10000000) -implicitDefEqProofs [qBC,qiw,qDI,qlj,qFe,qlg,qEe,qlq,qCv,qlE,qEy,quX,qyn,qGu,qus,qyP,quR,qGn]
 rewrite [qPz (k0:=(fun (_:Unit)=>some ((-1:Int),()))) N _ _ _ ?_ ?_ ?_]
 ·rewrite [qpL];first | rfl | simp (maxSteps:=10000000) -implicitDefEqProofs []
 ·rfl
 ·intro;simp only [qQ,qR,qT,qr]
 ·simp (maxSteps:=10000000) -implicitDefEqProofs [qBC,qiw,qDI,qlj,qFe,qlg,qEe,qlq,qCv,qlE,qEy,quX,qyn,qGu,qus,qyP,quR,qGn]
def qb9:G:={ps:=[i63,i9],rs:=[i3],dp:=true,pre:=fun x=>qck x.1 x.2.1,fn:=fun x=>(qU x.1 x.2.1,())}
def qeD:G:={ps:=[i63,i9],rs:=[i3],dp:=true,pre:=fun x=>qck x.1 x.2.1,fn:=fun x=>(qU x.1 x.2.1,())}
theorem qMF (xs:List (Val qe)) (nm:ByteArray) (h:qck xs nm): ∃N,qpQ N xs nm=some (qU xs nm,()):=⟨xs.length+1,by
 rw [qpQ,qU]
 refine (qbA (F:=fun n i (_:Unit)=>qgR _ xs nm _ n i) (step:=fun i x (_:Unit) K=>bif ByteArray.toList x.1==ByteArray.toList nm then some ((i:Int),())else K ()) (k:=fun _=>some ((-1:Int),())) h (fun n i s hi=> ?_) (fun n i s hi=> ?_) _ () (Nat.lt_succ_self _)).trans (qvB nm xs 0)
 ·rw [qgR,qj (by omega),qd (by omega),qE hi]
 ·rw [qgR,qh (by omega)]⟩
theorem qWO (xs:List (Val qe)) (nm:ByteArray) (h:qck xs nm): ∃N,qpL N xs nm=some (qU xs nm,()):=⟨xs.length+1,by
 rw [qpL,qU]
 refine (qbA (F:=fun n i (_:Unit)=>qhe _ nm xs xs.length _ n i) (step:=fun i x (_:Unit) K=>bif ByteArray.toList x.1==ByteArray.toList nm then some ((i:Int),())else K ()) (k:=fun _=>some ((-1:Int),())) h (fun n i s hi=> ?_) (fun n i s hi=> ?_) _ () (Nat.lt_succ_self _)).trans (qvB nm xs 0)
 ·rw [qhe,qj (by omega),qd (by omega),qE hi]
 ·rw [qhe,qh (by omega)]⟩
theorem qJ0:Sound Try.prog 141 qb9:=qz (tt:=tt) (Γ:=qmu) hT qp hm (fn:=Try.f141) Try.func141 (c:=Try.f141.body.getD .skip) (by kernel_rfl) (by kernel_rfl) fun x hx=>by
 obtain ⟨N,h⟩:=qMF x.1 x.2.1 hx
 exact ⟨qeb N,qVU,qx _,qLI N,(qSU N x.1 x.2.1).trans h⟩
theorem qJX:Sound Try.prog 146 qeD:=qz (tt:=tt) (Γ:=qj0) hT qp hm (fn:=Try.f146) Try.func146 (c:=Try.f146.body.getD .skip) (by kernel_rfl) (by kernel_rfl) fun x hx=>by
 obtain ⟨N,h⟩:=qWO x.1 x.2.1 hx
 exact ⟨qdc N,qPM,qx _,qMx N,(qRc N x.1 x.2.1).trans h⟩
theorem qIO (nm:ByteArray): ∀(ps:List (Val qe)) (b:Val qe) (cs:List (Val qe)) (k:Nat),ByteArray.toList b.1=ByteArray.toList nm→
 (qcg nm ps k= -1∧qcg nm (ps++b::cs) k=((k+ps.length:Nat):Int))∨(0≤qcg nm ps k∧qcg nm (ps++b::cs) k<((k+ps.length:Nat):Int))
 | [],b,cs,k,h=> .inl ⟨rfl,by simp [qcg,h]⟩
 | a::ps,b,cs,k,h=>by
   rw [List.cons_append,qcg,qcg]
   cases ha:(ByteArray.toList a.1==ByteArray.toList nm)with
   | true=>right;simp only [cond_true,List.length_cons];omega
   | false=>
     simp only [cond_false,List.length_cons]
     rcases qIO nm ps b cs (k+1) h with ⟨h1,h2⟩ | ⟨h1,h2⟩
     ·left;exact ⟨h1,by rw [h2];omega⟩
     ·right;exact ⟨h1,by omega⟩
theorem qWU (xs:List (Val qe)) (i:Nat) (h:i<xs.length):decide (0≤qcg xs[i].1 (xs.take i) 0)= !decide (qcg xs[i].1 xs 0=(i:Int)):=by
 have e:xs=xs.take i++xs[i]::xs.drop (i+1):=by rw [List.getElem_cons_drop,List.take_append_drop]
 have hl:(xs.take i).length=i:=by simp;omega
 have:=qIO xs[i].1 (xs.take i) xs[i] (xs.drop (i+1)) 0 rfl
 rw [←e,hl,Nat.zero_add]at this
 rcases this with ⟨h1,h2⟩ | ⟨h1,h2⟩
 ·rw [h1,h2];simp
 ·have: ¬(qcg xs[i].1 xs 0=(i:Int)):=by omega
  simp [h1,this]
def qez (xs:List (Val qe)):Bool:=decide ((xs.length:Int)≤6)&&qmv (fun i x=>qee x&&decide (qcg x.1 xs 0=(i:Int))) 0 xs
def qrX (xs:List (Val qe)):Prop:=Bd (.slice 123 qe) xs
noncomputable def qg0 (N:Nat) (v1:List (Val qe)) (k0:Unit→Option (qc [i4])):Nat→Int→Option (qc [i4])
 | 0,_=>none
 | n+1,v2=>bif (decide (v2<(v1.length:Int)))then (chk (0≤v2∧v2<(v1.length:Int)) (chk (qsn (v1.getD v2.toNat (qb qe))) (bif (!((qee (v1.getD v2.toNat (qb qe))):Bool))then (some (false,()))else (chk (0≤v2∧v2<(v1.length:Int)) (chk (0≤(0:Int)∧(0:Int)≤v2∧v2≤(v1.length:Int)) (chk (qck ((v1.take v2.toNat).drop (0:Int).toNat) ((v1.getD v2.toNat (qb qe)).1:ByteArray)) (bif (decide ((0:Int)≤((qU ((v1.take v2.toNat).drop (0:Int).toNat) ((v1.getD v2.toNat (qb qe)).1:ByteArray)):Int)))then (some (false,()))else (qg0 N v1 k0 n (IntKind.i64.wrap (v2+(1:Int)))))))))))else (k0 ())
noncomputable def qpG (N:Nat) (v0:List (Val qe)):Option (qc [i4]):=qg0 N v0 (fun (_:Unit)=>some ((decide ((v0.length:Int)≤(6:Int))),())) N (0:Int)
def qhk:Gam:=[(140,qjk),(141,qb9)]
theorem qtb:Gam.get qhk 140=some qjk:=rfl
theorem qyQ:Gam.get qhk 141=some qb9:=rfl
def qmo:Nm:=⟨[true,false,false,true],[],false⟩
theorem qA0:qmo.zero=false:=rfl
theorem qFl:qmo.fix=[]:=rfl
theorem qy9:qmo.keep=[true,false,false,true]:=rfl
def qpr:Nm:=⟨[true],[],false⟩
theorem qyG:qpr.zero=false:=rfl
theorem qCI:qpr.fix=[]:=rfl
theorem qCx:qpr.keep=[true]:=rfl
def qiA:Nat→Tree:=fun i=>if i=4 then .quiet 0 (.quiet 1 (.quiet 2 (.quiet 3 (.alt 4 (.quiet 5 (.quiet 6 (.quiet 7 (.quiet 8 (.first 10 (.first 11 (.first 12 (.first 13 (.first 14 (.pure 9 (.alt 15 (.quiet 16 (.quiet 17 .done)) .stop))))))))))) .stop))))else .done
def qkp:Nat→Nm:=fun i=>if i=2 then qmo else ⟨[],[],false⟩
def qni:Nat→Option Jn:=fun _=>none
def ql6:Nat→Option Nm:=fun i=>if i=0 then some qpr else none
def qmY:Nat→Option Nm:=fun _=>none
theorem qYX:qm qiA (Try.f117.body.getD .skip)=true:=by kernel_rfl
def qd5 (N:Nat):Tab:={tr:=qiA,lp:=qkp,ex:=ql6,rg:=qmY,jn:=qni,fuel:=N}
theorem qwK (N:Nat):(qd5 N).pins=false:=rfl
theorem qPm (N:Nat):qn Try.prog (qd5 N):=qt fun _=>rfl
theorem qvP (N:Nat) (i:Nat):(qd5 N).tr i=qiA i:=rfl
theorem qzv (N:Nat) (i:Nat):(qd5 N).lp i=qkp i:=rfl
theorem qGf (N:Nat) (i:Nat):(qd5 N).ex i=ql6 i:=rfl
theorem qB0 (N:Nat) (i:Nat):(qd5 N).rg i=qmY i:=rfl
theorem qFq (N:Nat) (i:Nat):(qd5 N).jn i=qni i:=rfl
theorem qAy (N:Nat):(qd5 N).fuel=N:=rfl
noncomputable def qJN:Code:=cut [true,false,true,true,true] (Try.f117.body.getD .skip)
theorem qRY {N:Nat} {Q:X→St→Option (qc [i4])} {e:List LV} {h:List Blk}:qf tt qhk (qd5 N) qJN Q ⟨e,h⟩=qf tt qhk (qd5 N) (cut [true,false,true,true,true] (Try.f117.body.getD .skip)) Q ⟨e,h⟩:=rfl
theorem qOS (N:Nat) (v1:List (Val qe)) {k0:Unit→Option (qc [i4])} {Q:X→St→Option (qc [i4])} {c:Code} (hc:c=qJN) (hret: ∀st,Q .ret st=qN tt true [i4] [.tmp 2] st) (h0:Q (.exit 0) ⟨[.one (.sl 123 qe v1 0),u,u,u,u,u,u,u,u,u,u,u,u,u,u,u,u,u,u,u,u,u,u,u,u,u,u,u,u,u,u],[]⟩=k0 ()): ∀(n:Nat) (v2:Int),qI (qf tt qhk (qd5 N) c) false qmo Q n ⟨[.one (.sl 123 qe v1 0),u,u,.one (.int .i64 v2),u,u,u,u,u,u,u,u,u,u,u,u,u,u,u,u,u,u,u,u,u,u,u,u,u,u,u],[]⟩=qg0 N v1 k0 n v2:=by
 subst hc;intro n;induction n with
 | zero=>intros;rfl
 | succ n ih=>
   intro v2
   rw [qS,qRY,qg0];unfold Try.f117
   simp (maxSteps:=10000000) -implicitDefEqProofs [qvP,qiA,qzv,qkp,qGf,ql6,qB0,qmY,qFq,qni,qAy,qwK,qFl,qy9,qA0,qCI,qCx,qyG,qtb,qyQ,qjk,qb9,hret,h0,ih]
theorem qYQ (N:Nat) (v0:List (Val qe)):qf tt qhk (qd5 N) (Try.f117.body.getD .skip) (qo tt true [i4] [.tmp 2]) (qv [i63] 31 (v0,()))=qpG N v0:=by
 unfold Try.f117
 simp (maxSteps:=10000000) -implicitDefEqProofs [qvP,qiA,qzv,qkp,qGf,ql6,qB0,qmY,qFq,qni,qAy,qwK,qFl,qy9,qA0,qCI,qCx,qyG,qtb,qyQ,qjk,qb9]
 rewrite [qOS (k0:=(fun (_:Unit)=>some ((decide ((v0.length:Int)≤(6:Int))),()))) N _ ?_ ?_ ?_]
 ·rewrite [qpG];first | rfl | simp (maxSteps:=10000000) -implicitDefEqProofs []
 ·rfl
 ·intro;simp only [qQ,qR,qT,qr]
 ·simp (maxSteps:=10000000) -implicitDefEqProofs [qvP,qiA,qzv,qkp,qGf,ql6,qB0,qmY,qFq,qni,qAy,qwK,qFl,qy9,qA0,qCI,qCx,qyG,qtb,qyQ,qjk,qb9]
noncomputable def qg5 (N:Nat) (v1:List (Val qe)) (v2:List (Val qe)) (v3:Int) (k0:Unit→Option (qc [i4])):Nat→Int→Option (qc [i4])
 | 0,_=>none
 | n+1,v4=>bif (decide (v4<v3))then (chk (0≤v4∧v4<(v2.length:Int)) (bif (!((qee (v2.getD v4.toNat (qb qe))):Bool))then (some (false,()))else (chk (qck v1 ((v2.getD v4.toNat (qb qe)).1:ByteArray)) (bif (!(decide (((qU v1 ((v2.getD v4.toNat (qb qe)).1:ByteArray)):Int)=v4)))then (some (false,()))else (qg5 N v1 v2 v3 k0 n (IntKind.i64.wrap (v4+(1:Int))))))))else (k0 ())
noncomputable def qo3 (N:Nat) (v0:List (Val qe)):Option (qc [i4]):=bif (decide ((6:Int)<(v0.length:Int)))then (some (false,()))else (qg5 N v0 v0 (v0.length:Int) (fun (_:Unit)=>some (true,())) N (0:Int))
def qhV:Gam:=[(145,qjy),(146,qeD)]
theorem qtY:Gam.get qhV 145=some qjy:=rfl
theorem qwC:Gam.get qhV 146=some qeD:=rfl
def qnd:Nm:=⟨[true,false,false,false,false,false,false,false,true,true,true],[],false⟩
theorem qzj:qnd.zero=false:=rfl
theorem qGD:qnd.fix=[]:=rfl
theorem qCJ:qnd.keep=[true,false,false,false,false,false,false,false,true,true,true]:=rfl
def qqp:Nm:=⟨[],[],false⟩
theorem qv9:qqp.zero=false:=rfl
theorem qz2:qqp.fix=[]:=rfl
theorem qyr:qqp.keep=[]:=rfl
def qh1:Nat→Tree:=fun _=> .done
def qoF:Nat→Nm:=fun i=>if i=4 then qnd else ⟨[],[],false⟩
def qom:Nat→Option Jn:=fun _=>none
def ql0:Nat→Option Nm:=fun i=>if i=0 then some qqp else none
def qlO:Nat→Option Nm:=fun _=>none
theorem qNP:qm qh1 (Try.f120.body.getD .skip)=true:=by kernel_rfl
def qdl (N:Nat):Tab:={tr:=qh1,lp:=qoF,ex:=ql0,rg:=qlO,jn:=qom,fuel:=N}
theorem qtk (N:Nat):(qdl N).pins=false:=rfl
theorem qNs (N:Nat):qn Try.prog (qdl N):=qt fun _=>rfl
theorem qCS (N:Nat) (i:Nat):(qdl N).tr i=qh1 i:=rfl
theorem qx9 (N:Nat) (i:Nat):(qdl N).lp i=qoF i:=rfl
theorem qzn (N:Nat) (i:Nat):(qdl N).ex i=ql0 i:=rfl
theorem qFA (N:Nat) (i:Nat):(qdl N).rg i=qlO i:=rfl
theorem qEU (N:Nat) (i:Nat):(qdl N).jn i=qom i:=rfl
theorem qwv (N:Nat):(qdl N).fuel=N:=rfl
noncomputable def qHO:Code:=cut [true,true,false,true,true,true] (Try.f120.body.getD .skip)
theorem qVL {N:Nat} {Q:X→St→Option (qc [i4])} {e:List LV} {h:List Blk}:qf tt qhV (qdl N) qHO Q ⟨e,h⟩=qf tt qhV (qdl N) (cut [true,true,false,true,true,true] (Try.f120.body.getD .skip)) Q ⟨e,h⟩:=rfl
theorem qQs (N:Nat) (v1:List (Val qe)) (v2:List (Val qe)) (v3:Int) {k0:Unit→Option (qc [i4])} {Q:X→St→Option (qc [i4])} {c:Code} (hc:c=qHO) (hret: ∀st,Q .ret st=qN tt true [i4] [.tmp 2] st) (h0:Q (.exit 0) ⟨[u,u,u,u,u,u,u,u,u,u,u,u,u,u,u,u,u,u,u,u,u,u,u,u,u,u,u],[]⟩=k0 ()): ∀(n:Nat) (v4:Int),qI (qf tt qhV (qdl N) c) false qnd Q n ⟨[.one (.sl 123 qe v1 0),u,u,u,u,u,u,u,.one (.sl 123 qe v2 0),.one (.int .i64 v3),.one (.int .i64 v4),u,u,u,u,u,u,u,u,u,u,u,u,u,u,u,u],[]⟩=qg5 N v1 v2 v3 k0 n v4:=by
 subst hc;intro n;induction n with
 | zero=>intros;rfl
 | succ n ih=>
   intro v4
   rw [qS,qVL,qg5];unfold Try.f120
   simp (maxSteps:=10000000) -implicitDefEqProofs [qCS,qh1,qx9,qoF,qzn,ql0,qFA,qlO,qEU,qom,qwv,qtk,qGD,qCJ,qzj,qz2,qyr,qv9,qtY,qwC,qjy,qeD,hret,h0,ih]
theorem qRn (N:Nat) (v0:List (Val qe)):qf tt qhV (qdl N) (Try.f120.body.getD .skip) (qo tt true [i4] [.tmp 2]) (qv [i63] 27 (v0,()))=qo3 N v0:=by
 unfold Try.f120
 simp (maxSteps:=10000000) -implicitDefEqProofs [qCS,qh1,qx9,qoF,qzn,ql0,qFA,qlO,qEU,qom,qwv,qtk,qGD,qCJ,qzj,qz2,qyr,qv9,qtY,qwC,qjy,qeD]
 rewrite [qQs (k0:=(fun (_:Unit)=>some (true,()))) N _ _ _ ?_ ?_ ?_]
 ·rewrite [qo3];first | rfl | simp (maxSteps:=10000000) -implicitDefEqProofs []
 ·rfl
 ·intro;simp only [qQ,qR,qT,qr]
 ·simp (maxSteps:=10000000) -implicitDefEqProofs [qCS,qh1,qx9,qoF,qzn,ql0,qFA,qlO,qEU,qom,qwv,qtk,qGD,qCJ,qzj,qz2,qyr,qv9,qtY,qwC,qjy,qeD]
def qjE:G:={ps:=[i63],rs:=[i4],dp:=true,pre:=fun x=>qrX x.1,fn:=fun x=>(qez x.1,())}
def qiH:G:={ps:=[i63],rs:=[i4],dp:=true,pre:=fun _=>True,fn:=fun x=>(qez x.1,())}
theorem qPU (xs:List (Val qe)) (h:qrX xs): ∃N,qpG N xs=some (qez xs,()):=⟨xs.length+1,by
 rw [qpG,qez]
 refine (qbA (F:=fun n i (_:Unit)=>qg0 _ xs _ n i) (step:=fun i x (_:Unit) K=>bif (qee x&&decide (qcg x.1 xs 0=(i:Int)))then K ()else some (false,())) (k:=fun _=>some (decide ((xs.length:Int)≤6),())) h.1 (fun n i s hi=> ?_) (fun n i s hi=> ?_) _ () (Nat.lt_succ_self _)).trans ?_
 ·rw [qg0,qj (by omega),qd (by omega),qE hi,qd (show qsn _ from h.2 _ (List.getElem_mem hi)),qd (by omega),qd (by omega),qd (show qck _ _ from by have:=h.1;simp [qck];omega)]
  simp only [qU,Int.toNat_natCast,Int.toNat_zero,List.drop_zero]
  rw [qWU xs i hi]
  cases qee xs[i]<;>simp [qL]
 ·rw [qg0,qh (by omega)]
 ·rw [qFu]
  cases qmv _ 0 xs<;>simp⟩
theorem qRT (xs:List (Val qe)): ∃N,qo3 N xs=some (qez xs,()):=⟨xs.length+1,by
 rw [qo3,qez]
 by_cases h6:(6:Int)<xs.length
 ·rw [qj h6];simp only [show ¬((xs.length:Int)≤6) by omega,decide_false,Bool.false_and]
 ·rw [qh h6];simp only [show ((xs.length:Int)≤6) by omega,decide_true,Bool.true_and]
  refine (qbA (F:=fun n i (_:Unit)=>qg5 _ xs xs xs.length _ n i) (step:=fun i x (_:Unit) K=>bif (qee x&&decide (qcg x.1 xs 0=(i:Int)))then K ()else some (false,())) (k:=fun _=>some (true,())) (by omega) (fun n i s hi=> ?_) (fun n i s hi=> ?_) _ () (Nat.lt_succ_self _)).trans ?_
  ·rw [qg5,qj (by omega),qd (by omega),qE hi,qd (show qck _ _ from by simp [qck];omega)]
   simp only [qU]
   cases qee xs[i]<;>simp [qL]<;>rfl
  ·rw [qg5,qh (by omega)]
  ·rw [qFu]
   exact qii⟩
theorem qXq:Sound Try.prog 117 qjE:=qz (tt:=tt) (Γ:=qhk) hT (ql qVF (ql qJ0 qp)) hm (fn:=Try.f117) Try.func117 (c:=Try.f117.body.getD .skip) (by kernel_rfl) (by kernel_rfl) fun x hx=>by
 obtain ⟨N,h⟩:=qPU x.1 hx
 exact ⟨qd5 N,qYX,qx _,qPm N,(qYQ N x.1).trans h⟩
theorem qX7:Sound Try.prog 120 qiH:=qz (tt:=tt) (Γ:=qhV) hT (ql qOd (ql qJX qp)) hm (fn:=Try.f120) Try.func120 (c:=Try.f120.body.getD .skip) (by kernel_rfl) (by kernel_rfl) fun x hx=>by
 obtain ⟨N,h⟩:=qRT x.1
 exact ⟨qdl N,qNP,qx _,qNs N,(qRn N x.1).trans h⟩
end Go.T
