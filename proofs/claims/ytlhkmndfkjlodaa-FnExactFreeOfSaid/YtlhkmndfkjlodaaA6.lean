/- Databases. -/
import Derived.Test.YtlhkmndfkjlodaaA3b
set_option linter.unusedSimpArgs false
set_option linter.unusedVariables false
namespace Go.T
open Go Go.Proofs
set_option maxHeartbeats 4000000
set_option maxRecDepth 100000
def qm6 {α:Type} (p:Nat→α→Bool):Nat→List α→Bool
 | _,[]=>true
 | i,x::r=>p i x&&qm6 p (i+1) r
theorem qEf {ρ α:Type} {p:Nat→α→Bool} {r:Option ρ} {k:Unit→Option ρ}: ∀(xs:List α) (i:Nat),qaK (fun i x _ K=>bif p i x then K ()else r) i xs () k=bif qm6 p i xs then k ()else r
 | [],_=>rfl
 | x::xs,i=>by
   rw [qaK];dsimp only;rw [qEf xs,qm6]
   cases h:p i x<;>simp
def qb5 (name:ByteArray):List (Val qf)→Nat→Int
 | [],_=> -1
 | x::r,i=>bif ByteArray.toList x.1==ByteArray.toList name then (i:Int)else qb5 name r (i+1)
def qT (xs:List (Val qf)) (name:ByteArray):Int:=qb5 name xs 0
def qb9 (xs:List (Val qf)) (_:ByteArray):Prop:=xs.length≤1048576
theorem qvC (name:ByteArray): ∀(xs:List (Val qf)) (i:Nat),qaK (fun i x (_:Unit) K=>bif ByteArray.toList x.1==ByteArray.toList name then some ((i:Int),())else K ()) i xs () (fun _=>some ((-1:Int),()))=some (qb5 name xs i,())
 | [],_=>rfl
 | x::xs,i=>by
   rw [qaK];dsimp only;rw [qvC name xs,qb5]
   cases ByteArray.toList x.1==ByteArray.toList name<;>rfl
noncomputable def qhq (N:Nat) (v2:List (Val qf)) (v3:ByteArray) (k0:Unit→Option (qc [i3])):Nat→Int→Option (qc [i3])
 | 0,_=>none
 | n+1,v4=>bif (decide (v4<(v2.length:Int)))then (chk (0≤v4∧v4<(v2.length:Int)) (bif (ByteArray.toList ((v2.getD v4.toNat (qa qf)).1:ByteArray)==ByteArray.toList v3)then (some (v4,()))else (qhq N v2 v3 k0 n (IntKind.i64.wrap (v4+(1:Int))))))else (k0 ())
noncomputable def qqg (N:Nat) (v0:List (Val qf)) (v1:ByteArray):Option (qc [i3]):=qhq N v0 v1 (fun (_:Unit)=>some ((-1:Int),())) N (0:Int)
def qm5:Gam:=[]
def qpf:Nm:=⟨[true,true,false,false,false,true],[],false⟩
theorem qxY:qpf.zero=false:=rfl
theorem qCw:qpf.fix=[]:=rfl
theorem qyk:qpf.keep=[true,true,false,false,false,true]:=rfl
def qs0:Nm:=⟨[],[],false⟩
theorem qxl:qs0.zero=false:=rfl
theorem qwe:qs0.fix=[]:=rfl
theorem qvG:qs0.keep=[]:=rfl
def qkb:Nat→Tree:=fun _=> .done
def qkZ:Nat→Nm:=fun i=>if i=2 then qpf else ⟨[],[],false⟩
def qnl:Nat→Option Jn:=fun _=>none
def qos:Nat→Option Nm:=fun i=>if i=0 then some qs0 else none
def qm8:Nat→Option Nm:=fun _=>none
theorem qSR:qn qkb (Try.f141.body.getD .skip)=true:=by kernel_rfl
def qeF (N:Nat):Tab:={tr:=qkb,lp:=qkZ,ex:=qos,rg:=qm8,jn:=qnl,fuel:=N}
theorem qve (N:Nat):(qeF N).pins=false:=rfl
theorem qKd (N:Nat):qp Try.prog (qeF N):=qw fun _=>rfl
theorem qw3 (N:Nat) (i:Nat):(qeF N).tr i=qkb i:=rfl
theorem qCE (N:Nat) (i:Nat):(qeF N).lp i=qkZ i:=rfl
theorem qug (N:Nat) (i:Nat):(qeF N).ex i=qos i:=rfl
theorem qzi (N:Nat) (i:Nat):(qeF N).rg i=qm8 i:=rfl
theorem qyD (N:Nat) (i:Nat):(qeF N).jn i=qnl i:=rfl
theorem qzC (N:Nat):(qeF N).fuel=N:=rfl
noncomputable def qIy:Code:=cut [true,false,true,true,true] (Try.f141.body.getD .skip)
theorem qSe {N:Nat} {Q:X→St→Option (qc [i3])} {e:List LV} {h:List Blk}:qe tt qm5 (qeF N) qIy Q ⟨e,h⟩=qe tt qm5 (qeF N) (cut [true,false,true,true,true] (Try.f141.body.getD .skip)) Q ⟨e,h⟩:=rfl
theorem qMu (N:Nat) (v2:List (Val qf)) (v3:ByteArray) {k0:Unit→Option (qc [i3])} {Q:X→St→Option (qc [i3])} {c:Code} (hc:c=qIy) (hret: ∀st,Q .ret st=qI tt true [i3] [.tmp 4] st) (h0:Q (.exit 0) ⟨[u,u,u,u,u,u,u,u,u,u,u,u,u,u,u,u,u,u,u,u],[]⟩=k0 ()): ∀(n:Nat) (v4:Int),qC (qe tt qm5 (qeF N) c) false qpf Q n ⟨[.one (.sl 123 qf v2 0),.one (.str v3),u,u,u,.one (.int .i64 v4),u,u,u,u,u,u,u,u,u,u,u,u,u,u],[]⟩=qhq N v2 v3 k0 n v4:=by
 subst hc;intro n;induction n with
 | zero=>intros;rfl
 | succ n ih=>
   intro v4
   rw [qM,qSe,qhq];unfold Try.f141
   simp (maxSteps:=10000000) -implicitDefEqProofs [qw3,qkb,qCE,qkZ,qug,qos,qzi,qm8,qyD,qnl,qzC,qve,qCw,qyk,qxY,qwe,qvG,qxl,hret,h0,ih]
theorem qQo (N:Nat) (v0:List (Val qf)) (v1:ByteArray):qe tt qm5 (qeF N) (Try.f141.body.getD .skip) (qr tt true [i3] [.tmp 4]) (qv [i63,i9] 20 (v0,v1,()))=qqg N v0 v1:=by
 unfold Try.f141
 simp (maxSteps:=10000000) -implicitDefEqProofs [qw3,qkb,qCE,qkZ,qug,qos,qzi,qm8,qyD,qnl,qzC,qve,qCw,qyk,qxY,qwe,qvG,qxl]
 rewrite [qMu (k0:=(fun (_:Unit)=>some ((-1:Int),()))) N _ _ ?_ ?_ ?_]
 ·rewrite [qqg];first | rfl | simp (maxSteps:=10000000) -implicitDefEqProofs []
 ·rfl
 ·intro;simp only [qK,qL,qN,qm]
 ·simp (maxSteps:=10000000) -implicitDefEqProofs [qw3,qkb,qCE,qkZ,qug,qos,qzi,qm8,qyD,qnl,qzC,qve,qCw,qyk,qxY,qwe,qvG,qxl]
noncomputable def qhQ (N:Nat) (v2:ByteArray) (v3:List (Val qf)) (v4:Int) (k0:Unit→Option (qc [i3])):Nat→Int→Option (qc [i3])
 | 0,_=>none
 | n+1,v5=>bif (decide (v5<v4))then (chk (0≤v5∧v5<(v3.length:Int)) (bif (ByteArray.toList ((v3.getD v5.toNat (qa qf)).1:ByteArray)==ByteArray.toList v2)then (some (v5,()))else (qhQ N v2 v3 v4 k0 n (IntKind.i64.wrap (v5+(1:Int))))))else (k0 ())
noncomputable def qqc (N:Nat) (v0:List (Val qf)) (v1:ByteArray):Option (qc [i3]):=qhQ N v1 v0 (v0.length:Int) (fun (_:Unit)=>some ((-1:Int),())) N (0:Int)
def qkE:Gam:=[]
def qoZ:Nm:=⟨[false,true,false,false,false,false,false,true,true,true],[],false⟩
theorem quB:qoZ.zero=false:=rfl
theorem qx6:qoZ.fix=[]:=rfl
theorem qFb:qoZ.keep=[false,true,false,false,false,false,false,true,true,true]:=rfl
def qqS:Nm:=⟨[],[],false⟩
theorem qE5:qqS.zero=false:=rfl
theorem qyw:qqS.fix=[]:=rfl
theorem qu1:qqS.keep=[]:=rfl
def qjl:Nat→Tree:=fun _=> .done
def qlV:Nat→Nm:=fun i=>if i=2 then qoZ else ⟨[],[],false⟩
def qmg:Nat→Option Jn:=fun _=>none
def qlS:Nat→Option Nm:=fun i=>if i=0 then some qqS else none
def ql4:Nat→Option Nm:=fun _=>none
theorem qND:qn qjl (Try.f146.body.getD .skip)=true:=by kernel_rfl
def qda (N:Nat):Tab:={tr:=qjl,lp:=qlV,ex:=qlS,rg:=ql4,jn:=qmg,fuel:=N}
theorem qu6 (N:Nat):(qda N).pins=false:=rfl
theorem qKO (N:Nat):qp Try.prog (qda N):=qw fun _=>rfl
theorem qAU (N:Nat) (i:Nat):(qda N).tr i=qjl i:=rfl
theorem qCI (N:Nat) (i:Nat):(qda N).lp i=qlV i:=rfl
theorem qD2 (N:Nat) (i:Nat):(qda N).ex i=qlS i:=rfl
theorem qC9 (N:Nat) (i:Nat):(qda N).rg i=ql4 i:=rfl
theorem qBG (N:Nat) (i:Nat):(qda N).jn i=qmg i:=rfl
theorem qDr (N:Nat):(qda N).fuel=N:=rfl
noncomputable def qGv:Code:=cut [true,false,true,true,true] (Try.f146.body.getD .skip)
theorem qOS {N:Nat} {Q:X→St→Option (qc [i3])} {e:List LV} {h:List Blk}:qe tt qkE (qda N) qGv Q ⟨e,h⟩=qe tt qkE (qda N) (cut [true,false,true,true,true] (Try.f146.body.getD .skip)) Q ⟨e,h⟩:=rfl
theorem qNr (N:Nat) (v2:ByteArray) (v3:List (Val qf)) (v4:Int) {k0:Unit→Option (qc [i3])} {Q:X→St→Option (qc [i3])} {c:Code} (hc:c=qGv) (hret: ∀st,Q .ret st=qI tt true [i3] [.tmp 4] st) (h0:Q (.exit 0) ⟨[u,u,u,u,u,u,u,u,u,u,u,u,u,u,u,u,u,u,u,u],[]⟩=k0 ()): ∀(n:Nat) (v5:Int),qC (qe tt qkE (qda N) c) false qoZ Q n ⟨[u,.one (.str v2),u,u,u,u,u,.one (.sl 123 qf v3 0),.one (.int .i64 v4),.one (.int .i64 v5),u,u,u,u,u,u,u,u,u,u],[]⟩=qhQ N v2 v3 v4 k0 n v5:=by
 subst hc;intro n;induction n with
 | zero=>intros;rfl
 | succ n ih=>
   intro v5
   rw [qM,qOS,qhQ];unfold Try.f146
   simp (maxSteps:=10000000) -implicitDefEqProofs [qAU,qjl,qCI,qlV,qD2,qlS,qC9,ql4,qBG,qmg,qDr,qu6,qx6,qFb,quB,qyw,qu1,qE5,hret,h0,ih]
theorem qOR (N:Nat) (v0:List (Val qf)) (v1:ByteArray):qe tt qkE (qda N) (Try.f146.body.getD .skip) (qr tt true [i3] [.tmp 4]) (qv [i63,i9] 20 (v0,v1,()))=qqc N v0 v1:=by
 unfold Try.f146
 simp (maxSteps:=10000000) -implicitDefEqProofs [qAU,qjl,qCI,qlV,qD2,qlS,qC9,ql4,qBG,qmg,qDr,qu6,qx6,qFb,quB,qyw,qu1,qE5]
 rewrite [qNr (k0:=(fun (_:Unit)=>some ((-1:Int),()))) N _ _ _ ?_ ?_ ?_]
 ·rewrite [qqc];first | rfl | simp (maxSteps:=10000000) -implicitDefEqProofs []
 ·rfl
 ·intro;simp only [qK,qL,qN,qm]
 ·simp (maxSteps:=10000000) -implicitDefEqProofs [qAU,qjl,qCI,qlV,qD2,qlS,qC9,ql4,qBG,qmg,qDr,qu6,qx6,qFb,quB,qyw,qu1,qE5]
def qb2:G:={ps:=[i63,i9],rs:=[i3],dp:=true,pre:=fun x=>qb9 x.1 x.2.1,fn:=fun x=>(qT x.1 x.2.1,())}
def qe5:G:={ps:=[i63,i9],rs:=[i3],dp:=true,pre:=fun x=>qb9 x.1 x.2.1,fn:=fun x=>(qT x.1 x.2.1,())}
theorem qKV (xs:List (Val qf)) (nm:ByteArray) (h:qb9 xs nm): ∃N,qqg N xs nm=some (qT xs nm,()):=⟨xs.length+1,by
 rw [qqg,qT]
 refine (qam (F:=fun n i (_:Unit)=>qhq _ xs nm _ n i) (step:=fun i x (_:Unit) K=>bif ByteArray.toList x.1==ByteArray.toList nm then some ((i:Int),())else K ()) (k:=fun _=>some ((-1:Int),())) h (fun n i s hi=> ?_) (fun n i s hi=> ?_) _ () (Nat.lt_succ_self _)).trans (qvC nm xs 0)
 ·rw [qhq,qj (by omega),qd (by omega),qA hi]
 ·rw [qhq,qh (by omega)]⟩
theorem qTJ (xs:List (Val qf)) (nm:ByteArray) (h:qb9 xs nm): ∃N,qqc N xs nm=some (qT xs nm,()):=⟨xs.length+1,by
 rw [qqc,qT]
 refine (qam (F:=fun n i (_:Unit)=>qhQ _ nm xs xs.length _ n i) (step:=fun i x (_:Unit) K=>bif ByteArray.toList x.1==ByteArray.toList nm then some ((i:Int),())else K ()) (k:=fun _=>some ((-1:Int),())) h (fun n i s hi=> ?_) (fun n i s hi=> ?_) _ () (Nat.lt_succ_self _)).trans (qvC nm xs 0)
 ·rw [qhQ,qj (by omega),qd (by omega),qA hi]
 ·rw [qhQ,qh (by omega)]⟩
theorem qIw:Sound Try.prog 141 qb2:=qz (tt:=tt) (Γ:=qm5) hT qt hm (fn:=Try.f141) Try.func141 (c:=Try.f141.body.getD .skip) (by kernel_rfl) (by kernel_rfl) fun x hx=>by
 obtain ⟨N,h⟩:=qKV x.1 x.2.1 hx
 exact ⟨qeF N,qSR,qy _,qKd N,(qQo N x.1 x.2.1).trans h⟩
theorem qIu:Sound Try.prog 146 qe5:=qz (tt:=tt) (Γ:=qkE) hT qt hm (fn:=Try.f146) Try.func146 (c:=Try.f146.body.getD .skip) (by kernel_rfl) (by kernel_rfl) fun x hx=>by
 obtain ⟨N,h⟩:=qTJ x.1 x.2.1 hx
 exact ⟨qda N,qND,qy _,qKO N,(qOR N x.1 x.2.1).trans h⟩
theorem qHo (nm:ByteArray): ∀(ps:List (Val qf)) (b:Val qf) (cs:List (Val qf)) (k:Nat),ByteArray.toList b.1=ByteArray.toList nm→
 (qb5 nm ps k= -1∧qb5 nm (ps++b::cs) k=((k+ps.length:Nat):Int))∨(0≤qb5 nm ps k∧qb5 nm (ps++b::cs) k<((k+ps.length:Nat):Int))
 | [],b,cs,k,h=> .inl ⟨rfl,by simp [qb5,h]⟩
 | a::ps,b,cs,k,h=>by
   rw [List.cons_append,qb5,qb5]
   cases ha:(ByteArray.toList a.1==ByteArray.toList nm)with
   | true=>right;simp only [cond_true,List.length_cons];omega
   | false=>
     simp only [cond_false,List.length_cons]
     rcases qHo nm ps b cs (k+1) h with ⟨h1,h2⟩ | ⟨h1,h2⟩
     ·left;exact ⟨h1,by rw [h2];omega⟩
     ·right;exact ⟨h1,by omega⟩
theorem qTM (xs:List (Val qf)) (i:Nat) (h:i<xs.length):decide (0≤qb5 xs[i].1 (xs.take i) 0)= !decide (qb5 xs[i].1 xs 0=(i:Int)):=by
 have e:xs=xs.take i++xs[i]::xs.drop (i+1):=by rw [List.getElem_cons_drop,List.take_append_drop]
 have hl:(xs.take i).length=i:=by simp;omega
 have:=qHo xs[i].1 (xs.take i) xs[i] (xs.drop (i+1)) 0 rfl
 rw [←e,hl,Nat.zero_add]at this
 rcases this with ⟨h1,h2⟩ | ⟨h1,h2⟩
 ·rw [h1,h2];simp
 ·have: ¬(qb5 xs[i].1 xs 0=(i:Int)):=by omega
  simp [h1,this]
def qe1 (xs:List (Val qf)):Bool:=decide ((xs.length:Int)≤6)&&qm6 (fun i x=>qeI x&&decide (qb5 x.1 xs 0=(i:Int))) 0 xs
def qsh (xs:List (Val qf)):Prop:=Bd (.slice 123 qf) xs
noncomputable def qhB (N:Nat) (v1:List (Val qf)) (k0:Unit→Option (qc [i4])):Nat→Int→Option (qc [i4])
 | 0,_=>none
 | n+1,v2=>bif (decide (v2<(v1.length:Int)))then (chk (0≤v2∧v2<(v1.length:Int)) (chk (qsG (v1.getD v2.toNat (qa qf))) (bif (!((qeI (v1.getD v2.toNat (qa qf))):Bool))then (some (false,()))else (chk (0≤v2∧v2<(v1.length:Int)) (chk (0≤(0:Int)∧(0:Int)≤v2∧v2≤(v1.length:Int)) (chk (qb9 ((v1.take v2.toNat).drop (0:Int).toNat) ((v1.getD v2.toNat (qa qf)).1:ByteArray)) (bif (decide ((0:Int)≤((qT ((v1.take v2.toNat).drop (0:Int).toNat) ((v1.getD v2.toNat (qa qf)).1:ByteArray)):Int)))then (some (false,()))else (qhB N v1 k0 n (IntKind.i64.wrap (v2+(1:Int)))))))))))else (k0 ())
noncomputable def qp8 (N:Nat) (v0:List (Val qf)):Option (qc [i4]):=qhB N v0 (fun (_:Unit)=>some ((decide ((v0.length:Int)≤(6:Int))),())) N (0:Int)
def qhZ:Gam:=[(140,qj1),(141,qb2)]
theorem qtp:Gam.get qhZ 140=some qj1:=rfl
theorem qyx:Gam.get qhZ 141=some qb2:=rfl
def qmX:Nm:=⟨[true,false,false,true],[],false⟩
theorem qAo:qmX.zero=false:=rfl
theorem qD8:qmX.fix=[]:=rfl
theorem qyO:qmX.keep=[true,false,false,true]:=rfl
def qpW:Nm:=⟨[true],[],false⟩
theorem qyo:qpW.zero=false:=rfl
theorem qBR:qpW.fix=[]:=rfl
theorem qBI:qpW.keep=[true]:=rfl
def qjp:Nat→Tree:=fun i=>if i=4 then .quiet 0 (.quiet 1 (.quiet 2 (.quiet 3 (.alt 4 (.quiet 5 (.quiet 6 (.quiet 7 (.quiet 8 (.first 10 (.first 11 (.first 12 (.first 13 (.first 14 (.pure 9 (.alt 15 (.quiet 16 (.quiet 17 .done)) .stop))))))))))) .stop))))else .done
def qk0:Nat→Nm:=fun i=>if i=2 then qmX else ⟨[],[],false⟩
def qnS:Nat→Option Jn:=fun _=>none
def qmG:Nat→Option Nm:=fun i=>if i=0 then some qpW else none
def qnx:Nat→Option Nm:=fun _=>none
theorem qVz:qn qjp (Try.f117.body.getD .skip)=true:=by kernel_rfl
def qet (N:Nat):Tab:={tr:=qjp,lp:=qk0,ex:=qmG,rg:=qnx,jn:=qnS,fuel:=N}
theorem qwD (N:Nat):(qet N).pins=false:=rfl
theorem qNg (N:Nat):qp Try.prog (qet N):=qw fun _=>rfl
theorem qvN (N:Nat) (i:Nat):(qet N).tr i=qjp i:=rfl
theorem qy7 (N:Nat) (i:Nat):(qet N).lp i=qk0 i:=rfl
theorem qEY (N:Nat) (i:Nat):(qet N).ex i=qmG i:=rfl
theorem qBg (N:Nat) (i:Nat):(qet N).rg i=qnx i:=rfl
theorem qEb (N:Nat) (i:Nat):(qet N).jn i=qnS i:=rfl
theorem qzX (N:Nat):(qet N).fuel=N:=rfl
noncomputable def qIj:Code:=cut [true,false,true,true,true] (Try.f117.body.getD .skip)
theorem qPz {N:Nat} {Q:X→St→Option (qc [i4])} {e:List LV} {h:List Blk}:qe tt qhZ (qet N) qIj Q ⟨e,h⟩=qe tt qhZ (qet N) (cut [true,false,true,true,true] (Try.f117.body.getD .skip)) Q ⟨e,h⟩:=rfl
theorem qMS (N:Nat) (v1:List (Val qf)) {k0:Unit→Option (qc [i4])} {Q:X→St→Option (qc [i4])} {c:Code} (hc:c=qIj) (hret: ∀st,Q .ret st=qI tt true [i4] [.tmp 2] st) (h0:Q (.exit 0) ⟨[.one (.sl 123 qf v1 0),u,u,u,u,u,u,u,u,u,u,u,u,u,u,u,u,u,u,u,u,u,u,u,u,u,u,u,u,u,u],[]⟩=k0 ()): ∀(n:Nat) (v2:Int),qC (qe tt qhZ (qet N) c) false qmX Q n ⟨[.one (.sl 123 qf v1 0),u,u,.one (.int .i64 v2),u,u,u,u,u,u,u,u,u,u,u,u,u,u,u,u,u,u,u,u,u,u,u,u,u,u,u],[]⟩=qhB N v1 k0 n v2:=by
 subst hc;intro n;induction n with
 | zero=>intros;rfl
 | succ n ih=>
   intro v2
   rw [qM,qPz,qhB];unfold Try.f117
   simp (maxSteps:=10000000) -implicitDefEqProofs [qvN,qjp,qy7,qk0,qEY,qmG,qBg,qnx,qEb,qnS,qzX,qwD,qD8,qyO,qAo,qBR,qBI,qyo,qtp,qyx,qj1,qb2,hret,h0,ih]
theorem qVs (N:Nat) (v0:List (Val qf)):qe tt qhZ (qet N) (Try.f117.body.getD .skip) (qr tt true [i4] [.tmp 2]) (qv [i63] 31 (v0,()))=qp8 N v0:=by
 unfold Try.f117
 simp (maxSteps:=10000000) -implicitDefEqProofs [qvN,qjp,qy7,qk0,qEY,qmG,qBg,qnx,qEb,qnS,qzX,qwD,qD8,qyO,qAo,qBR,qBI,qyo,qtp,qyx,qj1,qb2]
 rewrite [qMS (k0:=(fun (_:Unit)=>some ((decide ((v0.length:Int)≤(6:Int))),()))) N _ ?_ ?_ ?_]
 ·rewrite [qp8];first | rfl | simp (maxSteps:=10000000) -implicitDefEqProofs []
 ·rfl
 ·intro;simp only [qK,qL,qN,qm]
 ·simp (maxSteps:=10000000) -implicitDefEqProofs [qvN,qjp,qy7,qk0,qEY,qmG,qBg,qnx,qEb,qnS,qzX,qwD,qD8,qyO,qAo,qBR,qBI,qyo,qtp,qyx,qj1,qb2]
noncomputable def qhE (N:Nat) (v1:List (Val qf)) (v2:List (Val qf)) (v3:Int) (k0:Unit→Option (qc [i4])):Nat→Int→Option (qc [i4])
 | 0,_=>none
 | n+1,v4=>bif (decide (v4<v3))then (chk (0≤v4∧v4<(v2.length:Int)) (bif (!((qeI (v2.getD v4.toNat (qa qf))):Bool))then (some (false,()))else (chk (qb9 v1 ((v2.getD v4.toNat (qa qf)).1:ByteArray)) (bif (!(decide (((qT v1 ((v2.getD v4.toNat (qa qf)).1:ByteArray)):Int)=v4)))then (some (false,()))else (qhE N v1 v2 v3 k0 n (IntKind.i64.wrap (v4+(1:Int))))))))else (k0 ())
noncomputable def qpx (N:Nat) (v0:List (Val qf)):Option (qc [i4]):=bif (decide ((6:Int)<(v0.length:Int)))then (some (false,()))else (qhE N v0 v0 (v0.length:Int) (fun (_:Unit)=>some (true,())) N (0:Int))
def qiK:Gam:=[(145,qke),(146,qe5)]
theorem qt8:Gam.get qiK 145=some qke:=rfl
theorem qwx:Gam.get qiK 146=some qe5:=rfl
def qnM:Nm:=⟨[true,false,false,false,false,false,false,false,true,true,true],[],false⟩
theorem qyW:qnM.zero=false:=rfl
theorem qFj:qnM.fix=[]:=rfl
theorem qBS:qnM.keep=[true,false,false,false,false,false,false,false,true,true,true]:=rfl
def qqR:Nm:=⟨[],[],false⟩
theorem qv4:qqR.zero=false:=rfl
theorem qzw:qqR.fix=[]:=rfl
theorem qx9:qqR.keep=[]:=rfl
def qiQ:Nat→Tree:=fun _=> .done
def qpb:Nat→Nm:=fun i=>if i=4 then qnM else ⟨[],[],false⟩
def qoT:Nat→Option Jn:=fun _=>none
def qmz:Nat→Option Nm:=fun i=>if i=0 then some qqR else none
def qmq:Nat→Option Nm:=fun _=>none
theorem qLV:qn qiQ (Try.f120.body.getD .skip)=true:=by kernel_rfl
def qdk (N:Nat):Tab:={tr:=qiQ,lp:=qpb,ex:=qmz,rg:=qmq,jn:=qoT,fuel:=N}
theorem qtz (N:Nat):(qdk N).pins=false:=rfl
theorem qLB (N:Nat):qp Try.prog (qdk N):=qw fun _=>rfl
theorem qBY (N:Nat) (i:Nat):(qdk N).tr i=qiQ i:=rfl
theorem qxU (N:Nat) (i:Nat):(qdk N).lp i=qpb i:=rfl
theorem qy0 (N:Nat) (i:Nat):(qdk N).ex i=qmz i:=rfl
theorem qEm (N:Nat) (i:Nat):(qdk N).rg i=qmq i:=rfl
theorem qDJ (N:Nat) (i:Nat):(qdk N).jn i=qoT i:=rfl
theorem qwq (N:Nat):(qdk N).fuel=N:=rfl
noncomputable def qGq:Code:=cut [true,true,false,true,true,true] (Try.f120.body.getD .skip)
theorem qSJ {N:Nat} {Q:X→St→Option (qc [i4])} {e:List LV} {h:List Blk}:qe tt qiK (qdk N) qGq Q ⟨e,h⟩=qe tt qiK (qdk N) (cut [true,true,false,true,true,true] (Try.f120.body.getD .skip)) Q ⟨e,h⟩:=rfl
theorem qOa (N:Nat) (v1:List (Val qf)) (v2:List (Val qf)) (v3:Int) {k0:Unit→Option (qc [i4])} {Q:X→St→Option (qc [i4])} {c:Code} (hc:c=qGq) (hret: ∀st,Q .ret st=qI tt true [i4] [.tmp 2] st) (h0:Q (.exit 0) ⟨[u,u,u,u,u,u,u,u,u,u,u,u,u,u,u,u,u,u,u,u,u,u,u,u,u,u,u],[]⟩=k0 ()): ∀(n:Nat) (v4:Int),qC (qe tt qiK (qdk N) c) false qnM Q n ⟨[.one (.sl 123 qf v1 0),u,u,u,u,u,u,u,.one (.sl 123 qf v2 0),.one (.int .i64 v3),.one (.int .i64 v4),u,u,u,u,u,u,u,u,u,u,u,u,u,u,u,u],[]⟩=qhE N v1 v2 v3 k0 n v4:=by
 subst hc;intro n;induction n with
 | zero=>intros;rfl
 | succ n ih=>
   intro v4
   rw [qM,qSJ,qhE];unfold Try.f120
   simp (maxSteps:=10000000) -implicitDefEqProofs [qBY,qiQ,qxU,qpb,qy0,qmz,qEm,qmq,qDJ,qoT,qwq,qtz,qFj,qBS,qyW,qzw,qx9,qv4,qt8,qwx,qke,qe5,hret,h0,ih]
theorem qO1 (N:Nat) (v0:List (Val qf)):qe tt qiK (qdk N) (Try.f120.body.getD .skip) (qr tt true [i4] [.tmp 2]) (qv [i63] 27 (v0,()))=qpx N v0:=by
 unfold Try.f120
 simp (maxSteps:=10000000) -implicitDefEqProofs [qBY,qiQ,qxU,qpb,qy0,qmz,qEm,qmq,qDJ,qoT,qwq,qtz,qFj,qBS,qyW,qzw,qx9,qv4,qt8,qwx,qke,qe5]
 rewrite [qOa (k0:=(fun (_:Unit)=>some (true,()))) N _ _ _ ?_ ?_ ?_]
 ·rewrite [qpx];first | rfl | simp (maxSteps:=10000000) -implicitDefEqProofs []
 ·rfl
 ·intro;simp only [qK,qL,qN,qm]
 ·simp (maxSteps:=10000000) -implicitDefEqProofs [qBY,qiQ,qxU,qpb,qy0,qmz,qEm,qmq,qDJ,qoT,qwq,qtz,qFj,qBS,qyW,qzw,qx9,qv4,qt8,qwx,qke,qe5]
def qki:G:={ps:=[i63],rs:=[i4],dp:=true,pre:=fun x=>qsh x.1,fn:=fun x=>(qe1 x.1,())}
def qjw:G:={ps:=[i63],rs:=[i4],dp:=true,pre:=fun _=>True,fn:=fun x=>(qe1 x.1,())}
theorem qNL (xs:List (Val qf)) (h:qsh xs): ∃N,qp8 N xs=some (qe1 xs,()):=⟨xs.length+1,by
 rw [qp8,qe1]
 refine (qam (F:=fun n i (_:Unit)=>qhB _ xs _ n i) (step:=fun i x (_:Unit) K=>bif (qeI x&&decide (qb5 x.1 xs 0=(i:Int)))then K ()else some (false,())) (k:=fun _=>some (decide ((xs.length:Int)≤6),())) h.1 (fun n i s hi=> ?_) (fun n i s hi=> ?_) _ () (Nat.lt_succ_self _)).trans ?_
 ·rw [qhB,qj (by omega),qd (by omega),qA hi,qd (show qsG _ from h.2 _ (List.getElem_mem hi)),qd (by omega),qd (by omega),qd (show qb9 _ _ from by have:=h.1;simp [qb9];omega)]
  simp only [qT,Int.toNat_natCast,Int.toNat_zero,List.drop_zero]
  rw [qTM xs i hi]
  cases qeI xs[i]<;>simp [qX]
 ·rw [qhB,qh (by omega)]
 ·rw [qEf]
  cases qm6 _ 0 xs<;>simp⟩
theorem qPw (xs:List (Val qf)): ∃N,qpx N xs=some (qe1 xs,()):=⟨xs.length+1,by
 rw [qpx,qe1]
 by_cases h6:(6:Int)<xs.length
 ·rw [qj h6];simp only [show ¬((xs.length:Int)≤6) by omega,decide_false,Bool.false_and]
 ·rw [qh h6];simp only [show ((xs.length:Int)≤6) by omega,decide_true,Bool.true_and]
  refine (qam (F:=fun n i (_:Unit)=>qhE _ xs xs xs.length _ n i) (step:=fun i x (_:Unit) K=>bif (qeI x&&decide (qb5 x.1 xs 0=(i:Int)))then K ()else some (false,())) (k:=fun _=>some (true,())) (by omega) (fun n i s hi=> ?_) (fun n i s hi=> ?_) _ () (Nat.lt_succ_self _)).trans ?_
  ·rw [qhE,qj (by omega),qd (by omega),qA hi,qd (show qb9 _ _ from by simp [qb9];omega)]
   simp only [qT]
   cases qeI xs[i]<;>simp [qX]<;>rfl
  ·rw [qhE,qh (by omega)]
  ·rw [qEf]
   exact qi8⟩
theorem qUf:Sound Try.prog 117 qki:=qz (tt:=tt) (Γ:=qhZ) hT (ql qSE (ql qIw qt)) hm (fn:=Try.f117) Try.func117 (c:=Try.f117.body.getD .skip) (by kernel_rfl) (by kernel_rfl) fun x hx=>by
 obtain ⟨N,h⟩:=qNL x.1 hx
 exact ⟨qet N,qVz,qy _,qNg N,(qVs N x.1).trans h⟩
theorem qUN:Sound Try.prog 120 qjw:=qz (tt:=tt) (Γ:=qiK) hT (ql qMg (ql qIu qt)) hm (fn:=Try.f120) Try.func120 (c:=Try.f120.body.getD .skip) (by kernel_rfl) (by kernel_rfl) fun x hx=>by
 obtain ⟨N,h⟩:=qPw x.1
 exact ⟨qdk N,qLV,qy _,qLB N,(qO1 N x.1).trans h⟩
end Go.T
