/- Databases. -/
import Derived.Test.YtkjiecjpdbpghaaA3b
set_option linter.unusedSimpArgs false
set_option linter.unusedVariables false
namespace Go.T
open Go Go.Proofs
set_option maxHeartbeats 4000000
set_option maxRecDepth 100000
def qh3 {α:Type} (p:Nat→α→Bool):Nat→List α→Bool
 | _,[]=>true
 | i,x::r=>p i x&&qh3 p (i+1) r
theorem qvJ {ρ α:Type} {p:Nat→α→Bool} {r:Option ρ} {k:Unit→Option ρ}: ∀(xs:List α) (i:Nat),qaq (fun i x _ K=>bif p i x then K ()else r) i xs () k=bif qh3 p i xs then k ()else r
 | [],_=>rfl
 | x::xs,i=>by
   rw [qaq];dsimp only;rw [qvJ xs,qh3]
   cases h:p i x<;>simp
def qaj (name:ByteArray):List (Val Y53)→Nat→Int
 | [],_=> -1
 | x::r,i=>bif ByteArray.toList x.1==ByteArray.toList name then (i:Int)else qaj name r (i+1)
def qA (xs:List (Val Y53)) (name:ByteArray):Int:=qaj name xs 0
def qan (xs:List (Val Y53)) (_:ByteArray):Prop:=xs.length≤1048576
theorem qos (name:ByteArray): ∀(xs:List (Val Y53)) (i:Nat),qaq (fun i x (_:Unit) K=>bif ByteArray.toList x.1==ByteArray.toList name then some ((i:Int),())else K ()) i xs () (fun _=>some ((-1:Int),()))=some (qaj name xs i,())
 | [],_=>rfl
 | x::xs,i=>by
   rw [qaq];dsimp only;rw [qos name xs,qaj]
   cases ByteArray.toList x.1==ByteArray.toList name<;>rfl
noncomputable def qdH (N:Nat) (v2:List (Val Y53)) (v3:ByteArray) (k0:Unit→Option (qa [i3])):Nat→Int→Option (qa [i3])
 | 0,_=>none
 | n+1,v4=>bif (decide (v4<(v2.length:Int)))then (chk (0≤v4∧v4<(v2.length:Int)) (bif (ByteArray.toList ((v2.getD v4.toNat (qb Y53)).1:ByteArray)==ByteArray.toList v3)then (some (v4,()))else (qdH N v2 v3 k0 n (IntKind.i64.wrap (v4+(1:Int))))))else (k0 ())
noncomputable def m14 (N:Nat) (v0:List (Val Y53)) (v1:ByteArray):Option (qa [i3]):=qdH N v0 v1 (fun (_:Unit)=>some ((-1:Int),())) N (0:Int)
def Γ14:Gam:=[]
def qgi:Nm:=⟨[true,true,false,false,false,true],[],false⟩
theorem qu5:qgi.zero=false:=rfl
theorem qnj:qgi.fix=[]:=rfl
theorem qua:qgi.keep=[true,true,false,false,false,true]:=rfl
def qkh:Nm:=⟨[],[],false⟩
theorem qtW:qkh.zero=false:=rfl
theorem qvU:qkh.fix=[]:=rfl
theorem qsM:qkh.keep=[]:=rfl
def qfm:Nat→Tree:=fun _=> .done
def qia:Nat→Nm:=fun i=>if i=2 then qgi else ⟨[],[],false⟩
def qgs:Nat→Option Jn:=fun _=>none
def qii:Nat→Option Nm:=fun i=>if i=0 then some qkh else none
def qix:Nat→Option Nm:=fun _=>none
theorem p14:qm qfm (Try.f14.body.getD .skip)=true:=by kernel_rfl
def T14 (N:Nat):Tab:={tr:=qfm,lp:=qia,ex:=qii,rg:=qix,jn:=qgs,fuel:=N}
theorem qwg (N:Nat):(T14 N).pins=false:=rfl
theorem qHa (N:Nat):qp Try.prog (T14 N):=qv fun _=>rfl
theorem qt7 (N:Nat) (i:Nat):(T14 N).tr i=qfm i:=rfl
theorem quD (N:Nat) (i:Nat):(T14 N).lp i=qia i:=rfl
theorem qpc (N:Nat) (i:Nat):(T14 N).ex i=qii i:=rfl
theorem quN (N:Nat) (i:Nat):(T14 N).rg i=qix i:=rfl
theorem qrb (N:Nat) (i:Nat):(T14 N).jn i=qgs i:=rfl
theorem qwq (N:Nat):(T14 N).fuel=N:=rfl
noncomputable def qyB:Code:=cut [true,false,true,true,true] (Try.f14.body.getD .skip)
theorem qDs {N:Nat} {Q:X→St→Option (qa [i3])} {e:List LV} {h:List Blk}:qc tt Γ14 (T14 N) qyB Q ⟨e,h⟩=qc tt Γ14 (T14 N) (cut [true,false,true,true,true] (Try.f14.body.getD .skip)) Q ⟨e,h⟩:=rfl
theorem qBW (N:Nat) (v2:List (Val Y53)) (v3:ByteArray) {k0:Unit→Option (qa [i3])} {Q:X→St→Option (qa [i3])} {c:Code} (hc:c=qyB) (hret: ∀st,Q .ret st=qG tt true [i3] [.tmp 4] st) (h0:Q (.exit 0) ⟨[u,u,u,u,u,u,u,u,u,u,u,u,u,u,u,u,u,u,u,u],[]⟩=k0 ()): ∀(n:Nat) (v4:Int),qE (qc tt Γ14 (T14 N) c) false qgi Q n ⟨[.one (.sl 53 Y53 v2 0),.one (.str v3),u,u,u,.one (.int .i64 v4),u,u,u,u,u,u,u,u,u,u,u,u,u,u],[]⟩=qdH N v2 v3 k0 n v4:=by
 subst hc;intro n;induction n with
 | zero=>intros;rfl
 | succ n ih=>
   intro v4
   rw [qP,qDs,qdH];unfold Try.f14
   simp (maxSteps:=10000000) -implicitDefEqProofs [qt7,qfm,quD,qia,qpc,qii,quN,qix,qrb,qgs,qwq,qwg,qnj,qua,qu5,qvU,qsM,qtW,hret,h0,ih]
theorem qFe (N:Nat) (v0:List (Val Y53)) (v1:ByteArray):qc tt Γ14 (T14 N) (Try.f14.body.getD .skip) (qn tt true [i3] [.tmp 4]) (qq [i25,i9] 20 (v0,v1,()))=m14 N v0 v1:=by
 unfold Try.f14
 simp (maxSteps:=10000000) -implicitDefEqProofs [qt7,qfm,quD,qia,qpc,qii,quN,qix,qrb,qgs,qwq,qwg,qnj,qua,qu5,qvU,qsM,qtW]
 rewrite [qBW (k0:=(fun (_:Unit)=>some ((-1:Int),()))) N _ _ ?_ ?_ ?_]
 ·rewrite [m14];first | rfl | simp (maxSteps:=10000000) -implicitDefEqProofs []
 ·rfl
 ·intro;simp only [qN,qO,qQ,qM]
 ·simp (maxSteps:=10000000) -implicitDefEqProofs [qt7,qfm,quD,qia,qpc,qii,quN,qix,qrb,qgs,qwq,qwg,qnj,qua,qu5,qvU,qsM,qtW]
noncomputable def qdC (N:Nat) (v2:ByteArray) (v3:List (Val Y53)) (v4:Int) (k0:Unit→Option (qa [i3])):Nat→Int→Option (qa [i3])
 | 0,_=>none
 | n+1,v5=>bif (decide (v5<v4))then (chk (0≤v5∧v5<(v3.length:Int)) (bif (ByteArray.toList ((v3.getD v5.toNat (qb Y53)).1:ByteArray)==ByteArray.toList v2)then (some (v5,()))else (qdC N v2 v3 v4 k0 n (IntKind.i64.wrap (v5+(1:Int))))))else (k0 ())
noncomputable def m16 (N:Nat) (v0:List (Val Y53)) (v1:ByteArray):Option (qa [i3]):=qdC N v1 v0 (v0.length:Int) (fun (_:Unit)=>some ((-1:Int),())) N (0:Int)
def Γ16:Gam:=[]
def qiT:Nm:=⟨[false,true,false,false,false,false,false,true,true,true],[],false⟩
theorem qpx:qiT.zero=false:=rfl
theorem qnJ:qiT.fix=[]:=rfl
theorem qrm:qiT.keep=[false,true,false,false,false,false,false,true,true,true]:=rfl
def qlD:Nm:=⟨[],[],false⟩
theorem qmq:qlD.zero=false:=rfl
theorem qoD:qlD.fix=[]:=rfl
theorem qum:qlD.keep=[]:=rfl
def qeJ:Nat→Tree:=fun _=> .done
def qji:Nat→Nm:=fun i=>if i=2 then qiT else ⟨[],[],false⟩
def qhX:Nat→Option Jn:=fun _=>none
def qiR:Nat→Option Nm:=fun i=>if i=0 then some qlD else none
def qir:Nat→Option Nm:=fun _=>none
theorem p16:qm qeJ (Try.f16.body.getD .skip)=true:=by kernel_rfl
def T16 (N:Nat):Tab:={tr:=qeJ,lp:=qji,ex:=qiR,rg:=qir,jn:=qhX,fuel:=N}
theorem qsE (N:Nat):(T16 N).pins=false:=rfl
theorem qDD (N:Nat):qp Try.prog (T16 N):=qv fun _=>rfl
theorem qt6 (N:Nat) (i:Nat):(T16 N).tr i=qeJ i:=rfl
theorem qtr (N:Nat) (i:Nat):(T16 N).lp i=qji i:=rfl
theorem qnL (N:Nat) (i:Nat):(T16 N).ex i=qiR i:=rfl
theorem qnt (N:Nat) (i:Nat):(T16 N).rg i=qir i:=rfl
theorem qwb (N:Nat) (i:Nat):(T16 N).jn i=qhX i:=rfl
theorem quK (N:Nat):(T16 N).fuel=N:=rfl
noncomputable def qy9:Code:=cut [true,false,true,true,true] (Try.f16.body.getD .skip)
theorem qJZ {N:Nat} {Q:X→St→Option (qa [i3])} {e:List LV} {h:List Blk}:qc tt Γ16 (T16 N) qy9 Q ⟨e,h⟩=qc tt Γ16 (T16 N) (cut [true,false,true,true,true] (Try.f16.body.getD .skip)) Q ⟨e,h⟩:=rfl
theorem qHp (N:Nat) (v2:ByteArray) (v3:List (Val Y53)) (v4:Int) {k0:Unit→Option (qa [i3])} {Q:X→St→Option (qa [i3])} {c:Code} (hc:c=qy9) (hret: ∀st,Q .ret st=qG tt true [i3] [.tmp 4] st) (h0:Q (.exit 0) ⟨[u,u,u,u,u,u,u,u,u,u,u,u,u,u,u,u,u,u,u,u],[]⟩=k0 ()): ∀(n:Nat) (v5:Int),qE (qc tt Γ16 (T16 N) c) false qiT Q n ⟨[u,.one (.str v2),u,u,u,u,u,.one (.sl 53 Y53 v3 0),.one (.int .i64 v4),.one (.int .i64 v5),u,u,u,u,u,u,u,u,u,u],[]⟩=qdC N v2 v3 v4 k0 n v5:=by
 subst hc;intro n;induction n with
 | zero=>intros;rfl
 | succ n ih=>
   intro v5
   rw [qP,qJZ,qdC];unfold Try.f16
   simp (maxSteps:=10000000) -implicitDefEqProofs [qt6,qeJ,qtr,qji,qnL,qiR,qnt,qir,qwb,qhX,quK,qsE,qnJ,qrm,qpx,qoD,qum,qmq,hret,h0,ih]
theorem qDg (N:Nat) (v0:List (Val Y53)) (v1:ByteArray):qc tt Γ16 (T16 N) (Try.f16.body.getD .skip) (qn tt true [i3] [.tmp 4]) (qq [i25,i9] 20 (v0,v1,()))=m16 N v0 v1:=by
 unfold Try.f16
 simp (maxSteps:=10000000) -implicitDefEqProofs [qt6,qeJ,qtr,qji,qnL,qiR,qnt,qir,qwb,qhX,quK,qsE,qnJ,qrm,qpx,qoD,qum,qmq]
 rewrite [qHp (k0:=(fun (_:Unit)=>some ((-1:Int),()))) N _ _ _ ?_ ?_ ?_]
 ·rewrite [m16];first | rfl | simp (maxSteps:=10000000) -implicitDefEqProofs []
 ·rfl
 ·intro;simp only [qN,qO,qQ,qM]
 ·simp (maxSteps:=10000000) -implicitDefEqProofs [qt6,qeJ,qtr,qji,qnL,qiR,qnt,qir,qwb,qhX,quK,qsE,qnJ,qrm,qpx,qoD,qum,qmq]
def g14:G:={ps:=[i25,i9],rs:=[i3],dp:=true,pre:=fun x=>qan x.1 x.2.1,fn:=fun x=>(qA x.1 x.2.1,())}
def g16:G:={ps:=[i25,i9],rs:=[i3],dp:=true,pre:=fun x=>qan x.1 x.2.1,fn:=fun x=>(qA x.1 x.2.1,())}
theorem e14 (xs:List (Val Y53)) (nm:ByteArray) (h:qan xs nm): ∃N,m14 N xs nm=some (qA xs nm,()):=⟨xs.length+1,by
 rw [m14,qA]
 refine (qac (F:=fun n i (_:Unit)=>qdH _ xs nm _ n i) (step:=fun i x (_:Unit) K=>bif ByteArray.toList x.1==ByteArray.toList nm then some ((i:Int),())else K ()) (k:=fun _=>some ((-1:Int),())) h (fun n i s hi=> ?_) (fun n i s hi=> ?_) _ () (Nat.lt_succ_self _)).trans (qos nm xs 0)
 ·rw [qdH,qh (by omega),qd (by omega),qB hi]
 ·rw [qdH,qg (by omega)]⟩
theorem e16 (xs:List (Val Y53)) (nm:ByteArray) (h:qan xs nm): ∃N,m16 N xs nm=some (qA xs nm,()):=⟨xs.length+1,by
 rw [m16,qA]
 refine (qac (F:=fun n i (_:Unit)=>qdC _ nm xs xs.length _ n i) (step:=fun i x (_:Unit) K=>bif ByteArray.toList x.1==ByteArray.toList nm then some ((i:Int),())else K ()) (k:=fun _=>some ((-1:Int),())) h (fun n i s hi=> ?_) (fun n i s hi=> ?_) _ () (Nat.lt_succ_self _)).trans (qos nm xs 0)
 ·rw [qdC,qh (by omega),qd (by omega),qB hi]
 ·rw [qdC,qg (by omega)]⟩
theorem s14:Sound Try.prog 14 g14:=qu (tt:=tt) (Γ:=Γ14) hT qt hm (fn:=Try.f14) Try.func14 (c:=Try.f14.body.getD .skip) (by kernel_rfl) (by kernel_rfl) fun x hx=>by
 obtain ⟨N,h⟩:=e14 x.1 x.2.1 hx
 exact ⟨T14 N,p14,qr _,qHa N,(qFe N x.1 x.2.1).trans h⟩
theorem s16:Sound Try.prog 16 g16:=qu (tt:=tt) (Γ:=Γ16) hT qt hm (fn:=Try.f16) Try.func16 (c:=Try.f16.body.getD .skip) (by kernel_rfl) (by kernel_rfl) fun x hx=>by
 obtain ⟨N,h⟩:=e16 x.1 x.2.1 hx
 exact ⟨T16 N,p16,qr _,qDD N,(qDg N x.1 x.2.1).trans h⟩
theorem qya (nm:ByteArray): ∀(ps:List (Val Y53)) (b:Val Y53) (cs:List (Val Y53)) (k:Nat),ByteArray.toList b.1=ByteArray.toList nm→
 (qaj nm ps k= -1∧qaj nm (ps++b::cs) k=((k+ps.length:Nat):Int))∨(0≤qaj nm ps k∧qaj nm (ps++b::cs) k<((k+ps.length:Nat):Int))
 | [],b,cs,k,h=> .inl ⟨rfl,by simp [qaj,h]⟩
 | a::ps,b,cs,k,h=>by
   rw [List.cons_append,qaj,qaj]
   cases ha:(ByteArray.toList a.1==ByteArray.toList nm)with
   | true=>right;simp only [cond_true,List.length_cons];omega
   | false=>
     simp only [cond_false,List.length_cons]
     rcases qya nm ps b cs (k+1) h with ⟨h1,h2⟩ | ⟨h1,h2⟩
     ·left;exact ⟨h1,by rw [h2];omega⟩
     ·right;exact ⟨h1,by omega⟩
theorem qIq (xs:List (Val Y53)) (i:Nat) (h:i<xs.length):decide (0≤qaj xs[i].1 (xs.take i) 0)= !decide (qaj xs[i].1 xs 0=(i:Int)):=by
 have e:xs=xs.take i++xs[i]::xs.drop (i+1):=by rw [List.getElem_cons_drop,List.take_append_drop]
 have hl:(xs.take i).length=i:=by simp;omega
 have:=qya xs[i].1 (xs.take i) xs[i] (xs.drop (i+1)) 0 rfl
 rw [←e,hl,Nat.zero_add]at this
 rcases this with ⟨h1,h2⟩ | ⟨h1,h2⟩
 ·rw [h1,h2];simp
 ·have: ¬(qaj xs[i].1 xs 0=(i:Int)):=by omega
  simp [h1,this]
def qb3 (xs:List (Val Y53)):Bool:=decide ((xs.length:Int)≤6)&&qh3 (fun i x=>qbP x&&decide (qaj x.1 xs 0=(i:Int))) 0 xs
def qlJ (xs:List (Val Y53)):Prop:=Bd (.slice 53 Y53) xs
noncomputable def qem (N:Nat) (v1:List (Val Y53)) (k0:Unit→Option (qa [i4])):Nat→Int→Option (qa [i4])
 | 0,_=>none
 | n+1,v2=>bif (decide (v2<(v1.length:Int)))then (chk (0≤v2∧v2<(v1.length:Int)) (chk (ql3 (v1.getD v2.toNat (qb Y53))) (bif (!((qbP (v1.getD v2.toNat (qb Y53))):Bool))then (some (false,()))else (chk (0≤v2∧v2<(v1.length:Int)) (chk (0≤(0:Int)∧(0:Int)≤v2∧v2≤(v1.length:Int)) (chk (qan ((v1.take v2.toNat).drop (0:Int).toNat) ((v1.getD v2.toNat (qb Y53)).1:ByteArray)) (bif (decide ((0:Int)≤((qA ((v1.take v2.toNat).drop (0:Int).toNat) ((v1.getD v2.toNat (qb Y53)).1:ByteArray)):Int)))then (some (false,()))else (qem N v1 k0 n (IntKind.i64.wrap (v2+(1:Int)))))))))))else (k0 ())
noncomputable def m33 (N:Nat) (v0:List (Val Y53)):Option (qa [i4]):=qem N v0 (fun (_:Unit)=>some ((decide ((v0.length:Int)≤(6:Int))),())) N (0:Int)
def Γ33:Gam:=[(14,g14),(29,g29)]
theorem qp1:Gam.get Γ33 14=some g14:=rfl
theorem qvO:Gam.get Γ33 29=some g29:=rfl
def qi9:Nm:=⟨[true,false,false,true],[],false⟩
theorem qoQ:qi9.zero=false:=rfl
theorem qv3:qi9.fix=[]:=rfl
theorem qsB:qi9.keep=[true,false,false,true]:=rfl
def ql8:Nm:=⟨[true],[],false⟩
theorem qq5:ql8.zero=false:=rfl
theorem qsP:ql8.fix=[]:=rfl
theorem qp4:ql8.keep=[true]:=rfl
def qfA:Nat→Tree:=fun i=>if i=4 then .quiet 0 (.quiet 1 (.quiet 2 (.quiet 3 (.alt 4 (.quiet 5 (.quiet 6 (.quiet 7 (.quiet 8 (.first 10 (.first 11 (.first 12 (.first 13 (.first 14 (.pure 9 (.alt 15 (.quiet 16 (.quiet 17 .done)) .stop))))))))))) .stop))))else .done
def qhO:Nat→Nm:=fun i=>if i=2 then qi9 else ⟨[],[],false⟩
def qgd:Nat→Option Jn:=fun _=>none
def qhr:Nat→Option Nm:=fun i=>if i=0 then some ql8 else none
def qjB:Nat→Option Nm:=fun _=>none
theorem p33:qm qfA (Try.f33.body.getD .skip)=true:=by kernel_rfl
def T33 (N:Nat):Tab:={tr:=qfA,lp:=qhO,ex:=qhr,rg:=qjB,jn:=qgd,fuel:=N}
theorem qsv (N:Nat):(T33 N).pins=false:=rfl
theorem qH8 (N:Nat):qp Try.prog (T33 N):=qv fun _=>rfl
theorem quv (N:Nat) (i:Nat):(T33 N).tr i=qfA i:=rfl
theorem quh (N:Nat) (i:Nat):(T33 N).lp i=qhO i:=rfl
theorem qqk (N:Nat) (i:Nat):(T33 N).ex i=qhr i:=rfl
theorem qmI (N:Nat) (i:Nat):(T33 N).rg i=qjB i:=rfl
theorem qrD (N:Nat) (i:Nat):(T33 N).jn i=qgd i:=rfl
theorem qq9 (N:Nat):(T33 N).fuel=N:=rfl
noncomputable def qyM:Code:=cut [true,false,true,true,true] (Try.f33.body.getD .skip)
theorem qEe {N:Nat} {Q:X→St→Option (qa [i4])} {e:List LV} {h:List Blk}:qc tt Γ33 (T33 N) qyM Q ⟨e,h⟩=qc tt Γ33 (T33 N) (cut [true,false,true,true,true] (Try.f33.body.getD .skip)) Q ⟨e,h⟩:=rfl
theorem qB8 (N:Nat) (v1:List (Val Y53)) {k0:Unit→Option (qa [i4])} {Q:X→St→Option (qa [i4])} {c:Code} (hc:c=qyM) (hret: ∀st,Q .ret st=qG tt true [i4] [.tmp 2] st) (h0:Q (.exit 0) ⟨[.one (.sl 53 Y53 v1 0),u,u,u,u,u,u,u,u,u,u,u,u,u,u,u,u,u,u,u,u,u,u,u,u,u,u,u,u,u,u],[]⟩=k0 ()): ∀(n:Nat) (v2:Int),qE (qc tt Γ33 (T33 N) c) false qi9 Q n ⟨[.one (.sl 53 Y53 v1 0),u,u,.one (.int .i64 v2),u,u,u,u,u,u,u,u,u,u,u,u,u,u,u,u,u,u,u,u,u,u,u,u,u,u,u],[]⟩=qem N v1 k0 n v2:=by
 subst hc;intro n;induction n with
 | zero=>intros;rfl
 | succ n ih=>
   intro v2
   rw [qP,qEe,qem];unfold Try.f33
   simp (maxSteps:=10000000) -implicitDefEqProofs [quv,qfA,quh,qhO,qqk,qhr,qmI,qjB,qrD,qgd,qq9,qsv,qv3,qsB,qoQ,qsP,qp4,qq5,qp1,qvO,g14,g29,hret,h0,ih]
theorem qDG (N:Nat) (v0:List (Val Y53)):qc tt Γ33 (T33 N) (Try.f33.body.getD .skip) (qn tt true [i4] [.tmp 2]) (qq [i25] 31 (v0,()))=m33 N v0:=by
 unfold Try.f33
 simp (maxSteps:=10000000) -implicitDefEqProofs [quv,qfA,quh,qhO,qqk,qhr,qmI,qjB,qrD,qgd,qq9,qsv,qv3,qsB,qoQ,qsP,qp4,qq5,qp1,qvO,g14,g29]
 rewrite [qB8 (k0:=(fun (_:Unit)=>some ((decide ((v0.length:Int)≤(6:Int))),()))) N _ ?_ ?_ ?_]
 ·rewrite [m33];first | rfl | simp (maxSteps:=10000000) -implicitDefEqProofs []
 ·rfl
 ·intro;simp only [qN,qO,qQ,qM]
 ·simp (maxSteps:=10000000) -implicitDefEqProofs [quv,qfA,quh,qhO,qqk,qhr,qmI,qjB,qrD,qgd,qq9,qsv,qv3,qsB,qoQ,qsP,qp4,qq5,qp1,qvO,g14,g29]
noncomputable def qdF (N:Nat) (v1:List (Val Y53)) (v2:List (Val Y53)) (v3:Int) (k0:Unit→Option (qa [i4])):Nat→Int→Option (qa [i4])
 | 0,_=>none
 | n+1,v4=>bif (decide (v4<v3))then (chk (0≤v4∧v4<(v2.length:Int)) (bif (!((qbP (v2.getD v4.toNat (qb Y53))):Bool))then (some (false,()))else (chk (qan v1 ((v2.getD v4.toNat (qb Y53)).1:ByteArray)) (bif (!(decide (((qA v1 ((v2.getD v4.toNat (qb Y53)).1:ByteArray)):Int)=v4)))then (some (false,()))else (qdF N v1 v2 v3 k0 n (IntKind.i64.wrap (v4+(1:Int))))))))else (k0 ())
noncomputable def m34 (N:Nat) (v0:List (Val Y53)):Option (qa [i4]):=bif (decide ((6:Int)<(v0.length:Int)))then (some (false,()))else (qdF N v0 v0 (v0.length:Int) (fun (_:Unit)=>some (true,())) N (0:Int))
def Γ34:Gam:=[(16,g16),(31,g31)]
theorem qoT:Gam.get Γ34 16=some g16:=rfl
theorem qwj:Gam.get Γ34 31=some g31:=rfl
def qiS:Nm:=⟨[true,false,false,false,false,false,false,false,true,true,true],[],false⟩
theorem qt8:qiS.zero=false:=rfl
theorem qvx:qiS.fix=[]:=rfl
theorem qnp:qiS.keep=[true,false,false,false,false,false,false,false,true,true,true]:=rfl
def qku:Nm:=⟨[],[],false⟩
theorem qtj:qku.zero=false:=rfl
theorem qtw:qku.fix=[]:=rfl
theorem qox:qku.keep=[]:=rfl
def qeQ:Nat→Tree:=fun _=> .done
def qhQ:Nat→Nm:=fun i=>if i=4 then qiS else ⟨[],[],false⟩
def qiL:Nat→Option Jn:=fun _=>none
def qhV:Nat→Option Nm:=fun i=>if i=0 then some qku else none
def qgr:Nat→Option Nm:=fun _=>none
theorem p34:qm qeQ (Try.f34.body.getD .skip)=true:=by kernel_rfl
def T34 (N:Nat):Tab:={tr:=qeQ,lp:=qhQ,ex:=qhV,rg:=qgr,jn:=qiL,fuel:=N}
theorem qnx (N:Nat):(T34 N).pins=false:=rfl
theorem qEo (N:Nat):qp Try.prog (T34 N):=qv fun _=>rfl
theorem qnV (N:Nat) (i:Nat):(T34 N).tr i=qeQ i:=rfl
theorem qt0 (N:Nat) (i:Nat):(T34 N).lp i=qhQ i:=rfl
theorem qv2 (N:Nat) (i:Nat):(T34 N).ex i=qhV i:=rfl
theorem quG (N:Nat) (i:Nat):(T34 N).rg i=qgr i:=rfl
theorem qsd (N:Nat) (i:Nat):(T34 N).jn i=qiL i:=rfl
theorem qv7 (N:Nat):(T34 N).fuel=N:=rfl
noncomputable def qxF:Code:=cut [true,true,false,true,true,true] (Try.f34.body.getD .skip)
theorem qBj {N:Nat} {Q:X→St→Option (qa [i4])} {e:List LV} {h:List Blk}:qc tt Γ34 (T34 N) qxF Q ⟨e,h⟩=qc tt Γ34 (T34 N) (cut [true,true,false,true,true,true] (Try.f34.body.getD .skip)) Q ⟨e,h⟩:=rfl
theorem qz6 (N:Nat) (v1:List (Val Y53)) (v2:List (Val Y53)) (v3:Int) {k0:Unit→Option (qa [i4])} {Q:X→St→Option (qa [i4])} {c:Code} (hc:c=qxF) (hret: ∀st,Q .ret st=qG tt true [i4] [.tmp 2] st) (h0:Q (.exit 0) ⟨[u,u,u,u,u,u,u,u,u,u,u,u,u,u,u,u,u,u,u,u,u,u,u,u,u,u,u],[]⟩=k0 ()): ∀(n:Nat) (v4:Int),qE (qc tt Γ34 (T34 N) c) false qiS Q n ⟨[.one (.sl 53 Y53 v1 0),u,u,u,u,u,u,u,.one (.sl 53 Y53 v2 0),.one (.int .i64 v3),.one (.int .i64 v4),u,u,u,u,u,u,u,u,u,u,u,u,u,u,u,u],[]⟩=qdF N v1 v2 v3 k0 n v4:=by
 subst hc;intro n;induction n with
 | zero=>intros;rfl
 | succ n ih=>
   intro v4
   rw [qP,qBj,qdF];unfold Try.f34
   simp (maxSteps:=10000000) -implicitDefEqProofs [qnV,qeQ,qt0,qhQ,qv2,qhV,quG,qgr,qsd,qiL,qv7,qnx,qvx,qnp,qt8,qtw,qox,qtj,qoT,qwj,g16,g31,hret,h0,ih]
theorem qAM (N:Nat) (v0:List (Val Y53)):qc tt Γ34 (T34 N) (Try.f34.body.getD .skip) (qn tt true [i4] [.tmp 2]) (qq [i25] 27 (v0,()))=m34 N v0:=by
 unfold Try.f34
 simp (maxSteps:=10000000) -implicitDefEqProofs [qnV,qeQ,qt0,qhQ,qv2,qhV,quG,qgr,qsd,qiL,qv7,qnx,qvx,qnp,qt8,qtw,qox,qtj,qoT,qwj,g16,g31]
 rewrite [qz6 (k0:=(fun (_:Unit)=>some (true,()))) N _ _ _ ?_ ?_ ?_]
 ·rewrite [m34];first | rfl | simp (maxSteps:=10000000) -implicitDefEqProofs []
 ·rfl
 ·intro;simp only [qN,qO,qQ,qM]
 ·simp (maxSteps:=10000000) -implicitDefEqProofs [qnV,qeQ,qt0,qhQ,qv2,qhV,quG,qgr,qsd,qiL,qv7,qnx,qvx,qnp,qt8,qtw,qox,qtj,qoT,qwj,g16,g31]
def g33:G:={ps:=[i25],rs:=[i4],dp:=true,pre:=fun x=>qlJ x.1,fn:=fun x=>(qb3 x.1,())}
def g34:G:={ps:=[i25],rs:=[i4],dp:=true,pre:=fun _=>True,fn:=fun x=>(qb3 x.1,())}
theorem e33 (xs:List (Val Y53)) (h:qlJ xs): ∃N,m33 N xs=some (qb3 xs,()):=⟨xs.length+1,by
 rw [m33,qb3]
 refine (qac (F:=fun n i (_:Unit)=>qem _ xs _ n i) (step:=fun i x (_:Unit) K=>bif (qbP x&&decide (qaj x.1 xs 0=(i:Int)))then K ()else some (false,())) (k:=fun _=>some (decide ((xs.length:Int)≤6),())) h.1 (fun n i s hi=> ?_) (fun n i s hi=> ?_) _ () (Nat.lt_succ_self _)).trans ?_
 ·rw [qem,qh (by omega),qd (by omega),qB hi,qd (show ql3 _ from h.2 _ (List.getElem_mem hi)),qd (by omega),qd (by omega),qd (show qan _ _ from by have:=h.1;simp [qan];omega)]
  simp only [qA,Int.toNat_natCast,Int.toNat_zero,List.drop_zero]
  rw [qIq xs i hi]
  cases qbP xs[i]<;>simp [qF]
 ·rw [qem,qg (by omega)]
 ·rw [qvJ]
  cases qh3 _ 0 xs<;>simp⟩
theorem e34 (xs:List (Val Y53)): ∃N,m34 N xs=some (qb3 xs,()):=⟨xs.length+1,by
 rw [m34,qb3]
 by_cases h6:(6:Int)<xs.length
 ·rw [qh h6];simp only [show ¬((xs.length:Int)≤6) by omega,decide_false,Bool.false_and]
 ·rw [qg h6];simp only [show ((xs.length:Int)≤6) by omega,decide_true,Bool.true_and]
  refine (qac (F:=fun n i (_:Unit)=>qdF _ xs xs xs.length _ n i) (step:=fun i x (_:Unit) K=>bif (qbP x&&decide (qaj x.1 xs 0=(i:Int)))then K ()else some (false,())) (k:=fun _=>some (true,())) (by omega) (fun n i s hi=> ?_) (fun n i s hi=> ?_) _ () (Nat.lt_succ_self _)).trans ?_
  ·rw [qdF,qh (by omega),qd (by omega),qB hi,qd (show qan _ _ from by simp [qan];omega)]
   simp only [qA]
   cases qbP xs[i]<;>simp [qF]<;>rfl
  ·rw [qdF,qg (by omega)]
  ·rw [qvJ]
   exact qeK⟩
theorem s33:Sound Try.prog 33 g33:=qu (tt:=tt) (Γ:=Γ33) hT (qk s14 (qk s29 qt)) hm (fn:=Try.f33) Try.func33 (c:=Try.f33.body.getD .skip) (by kernel_rfl) (by kernel_rfl) fun x hx=>by
 obtain ⟨N,h⟩:=e33 x.1 hx
 exact ⟨T33 N,p33,qr _,qH8 N,(qDG N x.1).trans h⟩
theorem s34:Sound Try.prog 34 g34:=qu (tt:=tt) (Γ:=Γ34) hT (qk s16 (qk s31 qt)) hm (fn:=Try.f34) Try.func34 (c:=Try.f34.body.getD .skip) (by kernel_rfl) (by kernel_rfl) fun x hx=>by
 obtain ⟨N,h⟩:=e34 x.1
 exact ⟨T34 N,p34,qr _,qEo N,(qAM N x.1).trans h⟩
end Go.T
