/- A point of a region: what the functions compute. -/
import Derived.Test.YthefcjjgchekiaaGreatE40
import Derived.Test.YthefcjjgchekiaaGreatE13
set_option linter.unusedSimpArgs false
set_option linter.unusedVariables false
namespace Go.T
open Go Go.Proofs
set_option maxHeartbeats 4000000
set_option maxRecDepth 100000
abbrev Wit:=List (Val Y28)×Int
def ptN:List (Val Y33)→Wit
 | []=>([],1)
 | c::l=>bif decide ((qbh c).2=1)then ptN l else qbh c
def ptV (r:Val Y50):Wit:=bif qba r then ptN r.2 else ([],2)
def qji (r:Val Y50):Prop:=qhO r
def g47:G:={ps:=[i50],rs:=[i52,i3],dp:=true,pre:=fun x=>qji x.1,fn:=fun x=>((ptV x.1).1,(ptV x.1).2,())}
noncomputable def qlu (N:Nat) (v1:List (Val Y33)) (v2:Int) (k0:Unit→Option (qc [i52,i3])):Nat→Int→Option (qc [i52,i3])
 | 0,_=>none
 | n+1,v3=>bif (decide (v3<v2))then (chk (0≤v3∧v3<(v1.length:Int)) (bif (!(decide (((qbh (v1.getD v3.toNat (qb Y33))).2:Int)=(1:Int))))then (some (((qbh (v1.getD v3.toNat (qb Y33))).1:List (Val Y28)),((qbh (v1.getD v3.toNat (qb Y33))).2:Int),()))else (qlu N v1 v2 k0 n (IntKind.i64.wrap (v3+(1:Int))))))else (k0 ())
noncomputable def m47 (N:Nat) (v0:Val Y50):Option (qc [i52,i3]):=bif (!((qba v0):Bool))then (some (([]:List (Val Y28)),(2:Int),()))else (qlu N (v0.2:List (Val Y33)) ((v0.2:List (Val Y33)).length:Int) (fun (_:Unit)=>some (([]:List (Val Y28)),(1:Int),())) N (0:Int))
def Γ47:Gam:=[(124,qeO),(141,qpp)]
theorem qGj:Gam.get Γ47 124=some qeO:=rfl
theorem qOI:Gam.get Γ47 141=some qpp:=rfl
def qui:Nm:=⟨[false,false,false,false,false,false,false,false,false,false,false,false,true,true,true],[],false⟩
theorem qJV:qui.zero=false:=rfl
theorem qVH:qui.fix=[]:=rfl
theorem qJL:qui.keep=[false,false,false,false,false,false,false,false,false,false,false,false,true,true,true]:=rfl
def qzv:Nm:=⟨[],[],false⟩
theorem qLI:qzv.zero=false:=rfl
theorem qFM:qzv.fix=[]:=rfl
theorem qSF:qzv.keep=[]:=rfl
def qm4:Nat→Tree:=fun _=> .done
def qsj:Nat→Nm:=fun i=>if i=4 then qui else ⟨[],[],false⟩
def qwr:Nat→Option Jn:=fun _=>none
def qpz:Nat→Option Nm:=fun i=>if i=0 then some qzv else none
def qwc:Nat→Option Nm:=fun _=>none
theorem p47:qn qm4 (Tryz.f47.body.getD .skip)=true:=by kernel_rfl
def T47 (N:Nat):Tab:={tr:=qm4,lp:=qsj,ex:=qpz,rg:=qwc,jn:=qwr,fuel:=N}
theorem qUy (N:Nat):(T47 N).pins=false:=rfl
theorem zbY (N:Nat):qp Tryz.prog (T47 N):=qv fun _=>rfl
theorem qUH (N:Nat) (i:Nat):(T47 N).tr i=qm4 i:=rfl
theorem qGw (N:Nat) (i:Nat):(T47 N).lp i=qsj i:=rfl
theorem qOF (N:Nat) (i:Nat):(T47 N).ex i=qpz i:=rfl
theorem qSa (N:Nat) (i:Nat):(T47 N).rg i=qwc i:=rfl
theorem qMg (N:Nat) (i:Nat):(T47 N).jn i=qwr i:=rfl
theorem qHb (N:Nat):(T47 N).fuel=N:=rfl
noncomputable def qYB:Code:=cut [true,true,false,true,true,true] (Tryz.f47.body.getD .skip)
theorem zc4 {N:Nat} {Q:X→St→Option (qc [i52,i3])} {e:List LV} {h:List Blk}:qe tt Γ47 (T47 N) qYB Q ⟨e,h⟩=qe tt Γ47 (T47 N) (cut [true,true,false,true,true,true] (Tryz.f47.body.getD .skip)) Q ⟨e,h⟩:=rfl
theorem q9t (N:Nat) (v1:List (Val Y33)) (v2:Int) {k0:Unit→Option (qc [i52,i3])} {Q:X→St→Option (qc [i52,i3])} {c:Code} (hc:c=qYB) (hret: ∀st,Q .ret st=qI tt true [i52,i3] [.tmp 2,.tmp 3] st) (h0:Q (.exit 0) ⟨[u,u,u,u,u,u,u,u,u,u,u,u,u,u,u,u,u,u,u,u,u,u,u,u,u,u,u,u],[]⟩=k0 ()): ∀(n:Nat) (v3:Int),qE (qe tt Γ47 (T47 N) c) false qui Q n ⟨[u,u,u,u,u,u,u,u,u,u,u,u,.one (.sl 33 Y33 v1 0),.one (.int .i64 v2),.one (.int .i64 v3),u,u,u,u,u,u,u,u,u,u,u,u,u],[]⟩=qlu N v1 v2 k0 n v3:=by
 subst hc;intro n;induction n with
 | zero=>intros;rfl
 | succ n ih=>
   intro v3
   rw [qN,zc4,qlu];unfold Tryz.f47
   simp (maxSteps:=10000000) -implicitDefEqProofs [qUH,qm4,qGw,qsj,qOF,qpz,qSa,qwc,qMg,qwr,qHb,qUy,qVH,qJL,qJV,qFM,qSF,qLI,qGj,qOI,qeO,qpp,hret,h0,ih]
theorem zlf (N:Nat) (v0:Val Y50):qe tt Γ47 (T47 N) (Tryz.f47.body.getD .skip) (qt tt true [i52,i3] [.tmp 2,.tmp 3]) (qw [i50] 28 (v0,()))=m47 N v0:=by
 unfold Tryz.f47
 simp (maxSteps:=10000000) -implicitDefEqProofs [qUH,qm4,qGw,qsj,qOF,qpz,qSa,qwc,qMg,qwr,qHb,qUy,qVH,qJL,qJV,qFM,qSF,qLI,qGj,qOI,qeO,qpp]
 rewrite [q9t (k0:=(fun (_:Unit)=>some (([]:List (Val Y28)),(1:Int),()))) N _ _ ?_ ?_ ?_]
 ·rewrite [m47];first | rfl | simp (maxSteps:=10000000) -implicitDefEqProofs []
 ·rfl
 ·intro;simp only [qJ,qL,qK,qB]
 ·simp (maxSteps:=10000000) -implicitDefEqProofs [qUH,qm4,qGw,qsj,qOF,qpz,qSa,qwc,qMg,qwr,qHb,qUy,qVH,qJL,qJV,qFM,qSF,qLI,qGj,qOI,qeO,qpp]
theorem t47 (N:Nat) (l:List (Val Y33)) (hl:l.length≤1048576): ∀(k i:Nat),i+k=l.length→ ∀n,k<n→
 qlu N l l.length (fun _=>some (([]:List (Val Y28)),(1:Int),())) n i=some ((ptN (l.drop i)).1,(ptN (l.drop i)).2,())
 | 0,i,hi,n+1,_=>by
   rw [qlu,qj (by omega),List.drop_eq_nil_of_le (by omega)]
   rfl
 | k+1,i,hi,n+1,hn=>by
   have h1:i<l.length:=by omega
   rw [qlu,qk (by omega),qd (by omega),qF h1,qbo h1,ptN,qa2 h1 (by omega)]
   cases decide ((qbh l[i]).2=1)with
   | false=>rfl
   | true=>exact t47 N l hl k (i+1) (by omega) n (by omega)
theorem e47 (r:Val Y50) (h:qji r): ∃N,m47 N r=some ((ptV r).1,(ptV r).2,()):=⟨List.length (α:=Val Y33) r.2+1,by
 rw [m47,ptV]
 cases qba r with
 | false=>rfl
 | true=>exact t47 _ r.2 h.1 (List.length (α:=Val Y33) r.2) 0 (by omega) _ (Nat.lt_succ_self _)⟩
theorem s47:Sound Tryz.prog 47 g47:=qx (tt:=tt) (Γ:=Γ47) hT (qg q3C (qg zom qu)) hm (fn:=Tryz.f47) Tryz.func47 (c:=Tryz.f47.body.getD .skip) (by kernel_rfl) (by kernel_rfl) fun x hx=>by
 obtain ⟨N,h⟩:=e47 x.1 hx
 exact ⟨T47 N,p47,qy _,zbY N,(zlf N x.1).trans h⟩
def g46:G:={ps:=[i50],rs:=[i52,i3],dp:=true,pre:=fun x=>qji x.1,fn:=fun x=>((ptV x.1).1,(ptV x.1).2,())}
noncomputable def qjp (N:Nat) (v2:Int) (v3:List (Val Y33)) (k0:Unit→Option (qc [i52,i3])):Nat→Int→Option (qc [i52,i3])
 | 0,_=>none
 | n+1,v1=>bif (decide (v1<(v3.length:Int)))then (chk (0≤v1∧v1<(v3.length:Int)) (chk (qDS (v3.getD v1.toNat (qb Y33))) (bif (!(decide (((qbh (v3.getD v1.toNat (qb Y33))).2:Int)=(1:Int))))then (some (((qbh (v3.getD v1.toNat (qb Y33))).1:List (Val Y28)),((qbh (v3.getD v1.toNat (qb Y33))).2:Int),()))else (qjp N v2 v3 k0 n (IntKind.i64.wrap (v1+(1:Int)))))))else (k0 ())
noncomputable def m46 (N:Nat) (v0:Val Y50):Option (qc [i52,i3]):=chk (qhO v0) (bif (!((qba v0):Bool))then (some (([]:List (Val Y28)),(2:Int),()))else (qjp N (v0.1:Int) (v0.2:List (Val Y33)) (fun (_:Unit)=>some (([]:List (Val Y28)),(1:Int),())) N (0:Int)))
def Γ46:Gam:=[(117,qe2),(140,qnR)]
theorem qWz:Gam.get Γ46 117=some qe2:=rfl
theorem qUx:Gam.get Γ46 140=some qnR:=rfl
def qro:Nm:=⟨[false,true,false,false,true],[],false⟩
theorem qMZ:qro.zero=false:=rfl
theorem qGe:qro.fix=[]:=rfl
theorem qRE:qro.keep=[false,true,false,false,true]:=rfl
def qCO:Nm:=⟨[],[],false⟩
theorem qUT:qCO.zero=false:=rfl
theorem qMz:qCO.fix=[]:=rfl
theorem qUX:qCO.keep=[]:=rfl
def qnY:Nat→Tree:=fun _=> .done
def quq:Nat→Nm:=fun i=>if i=4 then qro else ⟨[],[],false⟩
def qvB:Nat→Option Jn:=fun _=>none
def qxk:Nat→Option Nm:=fun i=>if i=0 then some qCO else none
def qrC:Nat→Option Nm:=fun _=>none
theorem p46:qn qnY (Tryz.f46.body.getD .skip)=true:=by kernel_rfl
def T46 (N:Nat):Tab:={tr:=qnY,lp:=quq,ex:=qxk,rg:=qrC,jn:=qvB,fuel:=N}
theorem qKQ (N:Nat):(T46 N).pins=false:=rfl
theorem zfq (N:Nat):qp Tryz.prog (T46 N):=qv fun _=>rfl
theorem qVc (N:Nat) (i:Nat):(T46 N).tr i=qnY i:=rfl
theorem qUM (N:Nat) (i:Nat):(T46 N).lp i=quq i:=rfl
theorem qSd (N:Nat) (i:Nat):(T46 N).ex i=qxk i:=rfl
theorem qHl (N:Nat) (i:Nat):(T46 N).rg i=qrC i:=rfl
theorem qFz (N:Nat) (i:Nat):(T46 N).jn i=qvB i:=rfl
theorem qQ8 (N:Nat):(T46 N).fuel=N:=rfl
noncomputable def q04:Code:=cut [true,true,false,true,true,true] (Tryz.f46.body.getD .skip)
theorem zlD {N:Nat} {Q:X→St→Option (qc [i52,i3])} {e:List LV} {h:List Blk}:qe tt Γ46 (T46 N) q04 Q ⟨e,h⟩=qe tt Γ46 (T46 N) (cut [true,true,false,true,true,true] (Tryz.f46.body.getD .skip)) Q ⟨e,h⟩:=rfl
theorem q59 (N:Nat) (v2:Int) (v3:List (Val Y33)) {k0:Unit→Option (qc [i52,i3])} {Q:X→St→Option (qc [i52,i3])} {c:Code} (hc:c=q04) (hret: ∀st,Q .ret st=qI tt true [i52,i3] [.tmp 2,.tmp 3] st) (h0:Q (.exit 0) ⟨[u,u,u,u,u,u,u,u,u,u,u,u,u,u,u,u,u,u,u,u,u,u,u,u,u,u,u,u,u,u,u,u],[]⟩=k0 ()): ∀(n:Nat) (v1:Int),qE (qe tt Γ46 (T46 N) c) false qro Q n ⟨[u,.one (.ptr 0 0 0),u,u,.one (.int .i64 v1),u,u,u,u,u,u,u,u,u,u,u,u,u,u,u,u,u,u,u,u,u,u,u,u,u,u,u],[.box [.int .i64 v2,.sl 33 Y33 v3 1]]⟩=qjp N v2 v3 k0 n v1:=by
 subst hc;intro n;induction n with
 | zero=>intros;rfl
 | succ n ih=>
   intro v1
   rw [qN,zlD,qjp];unfold Tryz.f46
   simp (maxSteps:=10000000) -implicitDefEqProofs [qVc,qnY,qUM,quq,qSd,qxk,qHl,qrC,qFz,qvB,qQ8,qKQ,qGe,qRE,qMZ,qMz,qUX,qUT,qWz,qUx,qe2,qnR,hret,h0,ih]
theorem q7Q (N:Nat) (v0:Val Y50):qe tt Γ46 (T46 N) (Tryz.f46.body.getD .skip) (qt tt true [i52,i3] [.tmp 2,.tmp 3]) (qw [i50] 32 (v0,()))=m46 N v0:=by
 unfold Tryz.f46
 simp (maxSteps:=10000000) -implicitDefEqProofs [qVc,qnY,qUM,quq,qSd,qxk,qHl,qrC,qFz,qvB,qQ8,qKQ,qGe,qRE,qMZ,qMz,qUX,qUT,qWz,qUx,qe2,qnR]
 rewrite [q59 (k0:=(fun (_:Unit)=>some (([]:List (Val Y28)),(1:Int),()))) N _ _ ?_ ?_ ?_]
 ·rewrite [m46];first | rfl | simp (maxSteps:=10000000) -implicitDefEqProofs []
 ·rfl
 ·intro;simp only [qJ,qL,qK,qB]
 ·simp (maxSteps:=10000000) -implicitDefEqProofs [qVc,qnY,qUM,quq,qSd,qxk,qHl,qrC,qFz,qvB,qQ8,qKQ,qGe,qRE,qMZ,qMz,qUX,qUT,qWz,qUx,qe2,qnR]
theorem t46 (N:Nat) (d:Int) (l:List (Val Y33)) (hl:l.length≤1048576) (h: ∀c∈l,qDS c): ∀(k i:Nat),i+k=l.length→ ∀n,k<n→
 qjp N d l (fun _=>some (([]:List (Val Y28)),(1:Int),())) n i=some ((ptN (l.drop i)).1,(ptN (l.drop i)).2,())
 | 0,i,hi,n+1,_=>by
   rw [qjp,qj (by omega),List.drop_eq_nil_of_le (by omega)]
   rfl
 | k+1,i,hi,n+1,hn=>by
   have h1:i<l.length:=by omega
   rw [qjp,qk (by omega),qd (by omega),qF h1,qd (h _ (List.getElem_mem h1)),qbo h1,ptN,qa2 h1 (by omega)]
   cases decide ((qbh l[i]).2=1)with
   | false=>rfl
   | true=>exact t46 N d l hl h k (i+1) (by omega) n (by omega)
theorem e46 (r:Val Y50) (h:qji r): ∃N,m46 N r=some ((ptV r).1,(ptV r).2,()):=⟨List.length (α:=Val Y33) r.2+1,by
 rw [m46,qd (show qhO r from h),ptV]
 cases qba r with
 | false=>rfl
 | true=>exact t46 _ r.1 r.2 h.1 h.2 (List.length (α:=Val Y33) r.2) 0 (by omega) _ (Nat.lt_succ_self _)⟩
theorem s46:Sound Tryz.prog 46 g46:=qx (tt:=tt) (Γ:=Γ46) hT (qg q0D (qg zok qu)) hm (fn:=Tryz.f46) Tryz.func46 (c:=Tryz.f46.body.getD .skip) (by kernel_rfl) (by kernel_rfl) fun x hx=>by
 obtain ⟨N,h⟩:=e46 x.1 hx
 exact ⟨T46 N,p46,qy _,zfq N,(q7Q N x.1).trans h⟩
theorem q0I: ∀(cs:List (Val Y33)) (v:Nat) (p p':List (Val Y28)),qcV cs v p=some p'→p'.length=p.length+cs.length
 | [],v,p,p',h=>by simp only [qcV,Option.some.injEq]at h;subst h;rfl
 | c::cs,v,p,p',h=>by
   rw [qcV]at h
   cases hf:qbL p c.2 with
   | none=>rw [hf]at h;simp at h
   | some l=>
     rw [hf]at h
     simp only at h
     cases hr:qi (q5 (qf (c.1,l) v))with
     | false=>rw [hr]at h;simp at h
     | true=>
       rw [hr]at h
       have:=q0I cs (v+1) _ p' h
       simp only [List.length_append,List.length_cons,List.length_nil]at this ⊢
       omega
theorem q8v (c:Val Y33):(qbh c).1.length≤4:=by
 unfold qbh
 cases hc:qH c with
 | false=>show 0≤4;decide
 | true=>
   simp only [cond_true]
   cases hL:qbS (c.1:Int).toNat (qO c.1 c.2)with
   | none=>show 0≤4;decide
   | some L=>
     obtain ⟨g1,_,_⟩:=qRm hc hL
     obtain ⟨hd,_,_⟩:=qaJ hc
     have h4:(c.1:Int).toNat≤4:=Int.toNat_le.2 hd.2
     simp only
     unfold qEV
     cases decide ((0:Int)<(List.length (α:=Val qa) (L.getD 0 ((0:Int),[])).2:Int))with
     | true=>show 0≤4;decide
     | false=>
       simp only [cond_false]
       cases hw:qcV (L.drop 1) 0 []with
       | none=>show 0≤4;decide
       | some p=>
         have:=q0I _ _ _ _ hw
         simp only [List.length_nil,List.length_drop]at this
         show p.length≤4
         omega
theorem q1r: ∀l:List (Val Y33),(ptN l).1.length≤4
 | []=>by show 0≤4;decide
 | c::l=>by
   rw [ptN]
   cases decide ((qbh c).2=1)with
   | true=>exact q1r l
   | false=>exact q8v c
theorem zhe (r:Val Y50):(ptV r).1.length≤4:=by
 unfold ptV
 cases qba r with
 | false=>show 0≤4;decide
 | true=>exact q1r r.2
end Go.T
