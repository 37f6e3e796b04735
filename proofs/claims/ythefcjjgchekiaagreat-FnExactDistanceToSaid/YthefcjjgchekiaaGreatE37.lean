/- The distance of a point and a region: what the functions compute. -/
import Derived.Test.YthefcjjgchekiaaGreatE34
import Derived.Test.YthefcjjgchekiaaGreatE13
set_option linter.unusedSimpArgs false
set_option linter.unusedVariables false
namespace Go.T
open Go Go.Proofs
set_option maxHeartbeats 4000000
set_option maxRecDepth 100000
abbrev Dst:=Val Y28×Bool×Bool
def qib:Dst:=(((0:Int),(0:Int)),false,false)
def qqW (s:Dst) (b:Val qad):Dst:=bif b.2.2.2.2.2.2 then s else bif !s.2.2||qab b.2.1 s.1 then (b.2.1,!b.2.2.1,true)else bif decide (b.2.1=s.1)then (s.1,s.2.1|| !b.2.2.1,true)else s
def qez (p:List (Val Y28)):List (Val Y33)→Dst→Option Dst
 | [],s=>some s
 | c::l,s=>bif (qaw c p).2 then qez p l (qqW s (qaw c p).1)else none
def qaK (r:Val Y50) (p:List (Val Y28)):Dst:=bif qba r&&decide (1≤(r.1:Int)∧(r.1:Int)≤2)&&qcf p r.1 then (match qez p r.2 qib with
 | some s=>s
 | none=>qib)else qib
def qlb (r:Val Y50) (p:List (Val Y28)):Prop:=qhO r∧p.length≤1048576
def qiH (s:Dst):Prop:=(s.2.2=true→qi s.1=true)∧(s.2.2=false→s.1=((0:Int),(0:Int)))
theorem zc6 (c:Val Y33) (p:List (Val Y28)):qbM (qaw c p).1:=by
 unfold qaw
 cases qbA c.1 0 p (qq c 1).2 with
 | none=>exact qeC
 | some l=>exact q7n
theorem qLe {s:Dst} {b:Val qad} (hs:qiH s) (hb:(b.2.2.2.2.2.2:Bool)=false→qi b.2.1=true):qiH (qqW s b):=by
 unfold qqW
 cases he:(b.2.2.2.2.2.2:Bool)with
 | true=>exact hs
 | false=>
   simp only [cond_false]
   cases !s.2.2||qab b.2.1 s.1 with
   | true=>exact ⟨fun _=>hb he,fun h=>by simp at h⟩
   | false=>
     cases hd:decide (b.2.1=s.1)with
     | true=>exact ⟨fun _=>by rw [←of_decide_eq_true hd];exact hb he,fun h=>by simp at h⟩
     | false=>exact hs
theorem qLN {c:Val Y33} {p:List (Val Y28)} (h:qf5 c p) (h1:(qaw c p).2=true):((qaw c p).1.2.2.2.2.2.2:Bool)=false→((qaw c p).1.1:Bool)=true∧qi (qaw c p).1.2.1=true:=fun h2=>
 ⟨qYX h h1 h2,(zc6 c p).1.2 (qYX h h1 h2)⟩
def g35:G:={ps:=[i50,i52],rs:=[i28,i4,i4],dp:=true,pre:=fun x=>qlb x.1 x.2.1,fn:=fun x=>((qaK x.1 x.2.1).1,(qaK x.1 x.2.1).2.1,(qaK x.1 x.2.1).2.2,())}
noncomputable def qei (N:Nat) (v2:List (Val Y28)) (v5:List (Val Y33)) (v6:Int) (v8:Int) (v9:Int) (k0:Bool→Bool→Int→Int→Option (qc [i28,i4,i4])):Nat→Bool→Bool→Int→Int→Int→Option (qc [i28,i4,i4])
 | 0,_,_,_,_,_=>none
 | n+1,v3,v4,v7,v10,v11=>bif (decide (v7<v6))then (chk (0≤v7∧v7<(v5.length:Int)) (chk (qf5 (v5.getD v7.toNat (qb Y33)) v2) (bif (!((qaw (v5.getD v7.toNat (qb Y33)) v2).2:Bool))then (some (((0:Int),(0:Int)),false,false,()))else (bif ((((((((qaw (v5.getD v7.toNat (qb Y33)) v2).1).2).2).2).2).2).2:Bool)then (qei N v2 v5 v6 v8 v9 k0 n v3 v4 (IntKind.i64.wrap (v7+(1:Int))) v10 v11)else (bif (!v4)then (qei N v2 v5 v6 v8 v9 k0 n (!(((((qaw (v5.getD v7.toNat (qb Y33)) v2).1).2).2).1:Bool)) true (IntKind.i64.wrap (v7+(1:Int))) (((((qaw (v5.getD v7.toNat (qb Y33)) v2).1).2).1).1:Int) (((((qaw (v5.getD v7.toNat (qb Y33)) v2).1).2).1).2:Int))else (bif (decide (((qbd ((((((qaw (v5.getD v7.toNat (qb Y33)) v2).1).2).1).1:Int),(((((qaw (v5.getD v7.toNat (qb Y33)) v2).1).2).1).2:Int)) (v10,v11)):Int)<(0:Int)))then (qei N v2 v5 v6 v8 v9 k0 n (!(((((qaw (v5.getD v7.toNat (qb Y33)) v2).1).2).2).1:Bool)) true (IntKind.i64.wrap (v7+(1:Int))) (((((qaw (v5.getD v7.toNat (qb Y33)) v2).1).2).1).1:Int) (((((qaw (v5.getD v7.toNat (qb Y33)) v2).1).2).1).2:Int))else (bif (decide (((qbd ((((((qaw (v5.getD v7.toNat (qb Y33)) v2).1).2).1).1:Int),(((((qaw (v5.getD v7.toNat (qb Y33)) v2).1).2).1).2:Int)) (v10,v11)):Int)=(0:Int)))then (bif v3 then (qei N v2 v5 v6 v8 v9 k0 n true v4 (IntKind.i64.wrap (v7+(1:Int))) v10 v11)else (qei N v2 v5 v6 v8 v9 k0 n (!(((((qaw (v5.getD v7.toNat (qb Y33)) v2).1).2).2).1:Bool)) v4 (IntKind.i64.wrap (v7+(1:Int))) v10 v11))else (qei N v2 v5 v6 v8 v9 k0 n v3 v4 (IntKind.i64.wrap (v7+(1:Int))) v10 v11))))))))else (k0 v3 v4 v10 v11)
noncomputable def m35 (N:Nat) (v0:Val Y50) (v1:List (Val Y28)):Option (qc [i28,i4,i4]):=bif (!((qba v0):Bool))then (some (((0:Int),(0:Int)),false,false,()))else (bif (decide ((v0.1:Int)<(1:Int)))then (some (((0:Int),(0:Int)),false,false,()))else (bif (decide ((2:Int)<(v0.1:Int)))then (some (((0:Int),(0:Int)),false,false,()))else (chk (qiz v1 (v0.1:Int)) (bif (!((qcf v1 (v0.1:Int)):Bool))then (some (((0:Int),(0:Int)),false,false,()))else (qei N v1 (v0.2:List (Val Y33)) ((v0.2:List (Val Y33)).length:Int) (0:Int) (0:Int) (fun (v16:Bool) (v17:Bool) (v18:Int) (v19:Int)=>some ((v18,v19),v16,v17,())) N false false (0:Int) (0:Int) (0:Int))))))
def Γ35:Gam:=[(124,qeO),(125,qnH),(126,qmX),(127,qck)]
theorem qMx:Gam.get Γ35 124=some qeO:=rfl
theorem qR9:Gam.get Γ35 125=some qnH:=rfl
theorem qGu:Gam.get Γ35 126=some qmX:=rfl
theorem qNS:Gam.get Γ35 127=some qck:=rfl
def qrW:Nm:=⟨[false,true,false,false,true,false,false,true,true,true,false,false,false,false,false,false,false,false,false,false,false,false,false,false,false,false,false,false,false,false,false,false,false,false,false,false,false,false,true,true,true],[],false⟩
theorem qNN:qrW.zero=false:=rfl
theorem qQY:qrW.fix=[]:=rfl
theorem qHo:qrW.keep=[false,true,false,false,true,false,false,true,true,true,false,false,false,false,false,false,false,false,false,false,false,false,false,false,false,false,false,false,false,false,false,false,false,false,false,false,false,false,true,true,true]:=rfl
def qxN:Nm:=⟨[false,false,false,false,true,false,false,true,true,true],[],false⟩
theorem qJE:qxN.zero=false:=rfl
theorem qI6:qxN.fix=[]:=rfl
theorem qOv:qxN.keep=[false,false,false,false,true,false,false,true,true,true]:=rfl
def qxv:Nm:=⟨[false,true,false,false,true,false,false,true,true,true,false,false,false,false,false,false,false,false,false,false,false,false,false,false,false,false,false,false,false,false,false,false,false,false,false,false,false,false,true,true,true],[],false⟩
theorem qRx:qxv.zero=false:=rfl
theorem qQK:qxv.fix=[]:=rfl
theorem qTO:qxv.keep=[false,true,false,false,true,false,false,true,true,true,false,false,false,false,false,false,false,false,false,false,false,false,false,false,false,false,false,false,false,false,false,false,false,false,false,false,false,false,true,true,true]:=rfl
def qmY:Nat→Tree:=fun i=>if i=13 then .quiet 0 (.quiet 1 (.alt 2 (.alt 3 (.first 4 (.alt 5 (.quiet 6 (.quiet 7 .done)) .stop)) (.alt 5 (.quiet 3 (.quiet 4 (.quiet 6 (.quiet 7 .done)))) .stop)) (.alt 5 (.quiet 2 (.quiet 3 (.quiet 4 (.quiet 6 (.quiet 7 .done))))) .stop)))else .done
def qqy:Nat→Nm:=fun i=>if i=5 then qrW else ⟨[],[],false⟩
def qpY:Nat→Option Jn:=fun _=>none
def qr0:Nat→Option Nm:=fun i=>if i=0 then some qxN else none
def qtd:Nat→Option Nm:=fun i=>if i=13 then some qxv else none
theorem p35:qn qmY (Tryz.f35.body.getD .skip)=true:=by kernel_rfl
def T35 (N:Nat):Tab:={tr:=qmY,lp:=qqy,ex:=qr0,rg:=qtd,jn:=qpY,fuel:=N}
theorem qVK (N:Nat):(T35 N).pins=false:=rfl
theorem zoQ (N:Nat):qp Tryz.prog (T35 N):=qv fun _=>rfl
theorem qQD (N:Nat) (i:Nat):(T35 N).tr i=qmY i:=rfl
theorem qIb (N:Nat) (i:Nat):(T35 N).lp i=qqy i:=rfl
theorem qKE (N:Nat) (i:Nat):(T35 N).ex i=qr0 i:=rfl
theorem qGd (N:Nat) (i:Nat):(T35 N).rg i=qtd i:=rfl
theorem qNt (N:Nat) (i:Nat):(T35 N).jn i=qpY i:=rfl
theorem qMP (N:Nat):(T35 N).fuel=N:=rfl
noncomputable def qY4:Code:=cut [true,true,true,false,true,true,true] (Tryz.f35.body.getD .skip)
theorem zgZ {N:Nat} {Q:X→St→Option (qc [i28,i4,i4])} {e:List LV} {h:List Blk}:qe tt Γ35 (T35 N) qY4 Q ⟨e,h⟩=qe tt Γ35 (T35 N) (cut [true,true,true,false,true,true,true] (Tryz.f35.body.getD .skip)) Q ⟨e,h⟩:=rfl
theorem zpF (N:Nat) (v2:List (Val Y28)) (v5:List (Val Y33)) (v6:Int) (v8:Int) (v9:Int) {k0:Bool→Bool→Int→Int→Option (qc [i28,i4,i4])} {Q:X→St→Option (qc [i28,i4,i4])} {c:Code} (hc:c=qY4) (hret: ∀st,Q .ret st=qI tt true [i28,i4,i4] [.cell 4 28,.tmp 5,.tmp 6] st) (h0: ∀(v12:Bool) (v13:Bool) (v14:Int) (v15:Int),Q (.exit 0) ⟨[u,u,u,u,.one (.ptr 0 0 0),u,u,.one (.ptr 1 0 0),.one (.bool v12),.one (.bool v13),u,u,u,u,u,u,u,u,u,u,u,u,u,u,u,u,u,u,u,u,u,u,u,u,u,u,u,u,u,u,u,u,u,u,u,u,u,u,u,u,u,u,u,u,u,u,u,u,u,u,u,u,u,u,u,u,u,u,u,u,u,u,u,u,u,u,u,u,u,u,u,u],[.box [.int .i64 v8,.int .i64 v9],.box [.int .i64 v14,.int .i64 v15]]⟩=k0 v12 v13 v14 v15): ∀(n:Nat) (v3:Bool) (v4:Bool) (v7:Int) (v10:Int) (v11:Int),qE (qe tt Γ35 (T35 N) c) false qrW Q n ⟨[u,.one (.sl 28 Y28 v2 2),u,u,.one (.ptr 0 0 0),u,u,.one (.ptr 1 0 0),.one (.bool v3),.one (.bool v4),u,u,u,u,u,u,u,u,u,u,u,u,u,u,u,u,u,u,u,u,u,u,u,u,u,u,u,u,.one (.sl 33 Y33 v5 2),.one (.int .i64 v6),.one (.int .i64 v7),u,u,u,u,u,u,u,u,u,u,u,u,u,u,u,u,u,u,u,u,u,u,u,u,u,u,u,u,u,u,u,u,u,u,u,u,u,u,u,u,u],[.box [.int .i64 v8,.int .i64 v9],.box [.int .i64 v10,.int .i64 v11]]⟩=qei N v2 v5 v6 v8 v9 k0 n v3 v4 v7 v10 v11:=by
 subst hc;intro n;induction n with
 | zero=>intros;rfl
 | succ n ih=>
   intro v3 v4 v7 v10 v11
   rw [qN,zgZ,qei];unfold Tryz.f35
   simp (maxSteps:=10000000) -implicitDefEqProofs [qQD,qmY,qIb,qqy,qKE,qr0,qGd,qtd,qNt,qpY,qMP,qVK,qQY,qHo,qNN,qI6,qOv,qJE,qQK,qTO,qRx,qMx,qR9,qGu,qNS,qeO,qnH,qmX,qck,hret,h0,ih]
theorem q80 (N:Nat) (v0:Val Y50) (v1:List (Val Y28)):qe tt Γ35 (T35 N) (Tryz.f35.body.getD .skip) (qt tt true [i28,i4,i4] [.cell 4 28,.tmp 5,.tmp 6]) (qw [i50,i52] 82 (v0,v1,()))=m35 N v0 v1:=by
 unfold Tryz.f35
 simp (maxSteps:=10000000) -implicitDefEqProofs [qQD,qmY,qIb,qqy,qKE,qr0,qGd,qtd,qNt,qpY,qMP,qVK,qQY,qHo,qNN,qI6,qOv,qJE,qQK,qTO,qRx,qMx,qR9,qGu,qNS,qeO,qnH,qmX,qck]
 rewrite [zpF (k0:=(fun (v16:Bool) (v17:Bool) (v18:Int) (v19:Int)=>some ((v18,v19),v16,v17,()))) N _ _ _ _ _ ?_ ?_ ?_]
 ·rewrite [m35];first | rfl | simp (maxSteps:=10000000) -implicitDefEqProofs []
 ·rfl
 ·intro;simp only [qJ,qL,qK,qB]
 ·intro v16 v17 v18 v19;simp (maxSteps:=10000000) -implicitDefEqProofs [qQD,qmY,qIb,qqy,qKE,qr0,qGd,qtd,qNt,qpY,qMP,qVK,qQY,qHo,qNN,qI6,qOv,qJE,qQK,qTO,qRx,qMx,qR9,qGu,qNS,qeO,qnH,qmX,qck]
abbrev q3z:Option (qc [i28,i4,i4]):=some (((0:Int),(0:Int)),false,false,())
theorem t35 (N:Nat) (p:List (Val Y28)) (l:List (Val Y33)) (v8 v9:Int) (hl:l.length≤1048576) (h: ∀c∈l,qf5 c p) (K:Bool→Bool→Int→Int→Option (qc [i28,i4,i4])): ∀(k i:Nat),i+k=l.length→ ∀n,k<n→ ∀s:Dst,qiH s→
 qei N p l l.length v8 v9 K n s.2.1 s.2.2 i s.1.1 s.1.2=match qez p (l.drop i) s with
  | some s'=>K s'.2.1 s'.2.2 s'.1.1 s'.1.2
  | none=>q3z
 | 0,i,hi,n+1,_,s,_=>by
   rw [qei,qj (by omega),List.drop_eq_nil_of_le (by omega)]
   rfl
 | k+1,i,hi,n+1,hn,s,hs=>by
   have h1:i<l.length:=by omega
   have hc:=h _ (List.getElem_mem h1)
   rw [qei,qk (by omega),qd (by omega),qF h1,qd hc,qa2 h1 (by omega),qbo h1,qez]
   cases ho:(qaw l[i] p).2 with
   | false=>rfl
   | true=>
     have hr:=qLN hc ho
     have ih:=t35 N p l v8 v9 hl h K k (i+1) (by omega) n (by omega)
     simp only [Bool.not_true,cond_false,cond_true]
     generalize (qaw l[i] p).1=b at hr ⊢
     have hs':=qLe (b:=b) hs fun he=>(hr he).2
     rw [←ih _ hs']
     unfold qqW
     cases he:(b.2.2.2.2.2.2:Bool)with
     | true=>rfl
     | false=>
       obtain ⟨g1,g2⟩:=hr he
       simp only [cond_false]
       cases hf:s.2.2 with
       | false=>rfl
       | true=>
         have hq:=hs.1 hf
         have eb:(((b.2.1.1:Int),(b.2.1.2:Int)):Val Y28)=b.2.1:=rfl
         have es:(((s.1.1:Int),(s.1.2:Int)):Val Y28)=s.1:=rfl
         simp only [Bool.not_true,cond_false,Bool.false_or]
         rw [eb,es,qZH g2 hq]
         cases qab b.2.1 s.1 with
         | true=>rfl
         | false=>
           simp only [cond_false]
           by_cases hbs:b.2.1=s.1
           ·rw [decide_eq_true ((qjf g2 hq).2 hbs),decide_eq_true hbs]
            simp only [cond_true]
            cases s.2.1<;>rfl
           ·rw [decide_eq_false (fun hh=>hbs ((qjf g2 hq).1 hh)),decide_eq_false hbs]
            simp only [cond_false,hf]
theorem qGO:qiH qib:=⟨fun h=>by simp [qib]at h,fun _=>rfl⟩
theorem qZp {r:Val Y50} {p:List (Val Y28)} (hr:qba r=true) (hd:1≤(r.1:Int)∧(r.1:Int)≤2) (hp:qcf p r.1=true):List.length (α:=Val Y33) r.2≤12∧ ∀c∈(r.2:List (Val Y33)),qf5 c p∧(c.1:Int)=(r.1:Int):=by
 obtain ⟨_,h2,h3⟩:=qAY hr
 refine ⟨h2,fun c hc=> ?_⟩
 obtain ⟨g1,g2⟩:=h3 c hc
 exact ⟨⟨g1,by rw [g2];exact hp,by rw [g2];exact hd.1,by rw [g2];exact hd.2⟩,g2⟩
theorem e35 (r:Val Y50) (p:List (Val Y28)) (h:qlb r p): ∃N,m35 N r p=some ((qaK r p).1,(qaK r p).2.1,(qaK r p).2.2,()):=⟨List.length (α:=Val Y33) r.2+1,by
 rw [m35,qaK]
 cases hr:qba r with
 | false=>rfl
 | true=>
 by_cases hd:1≤(r.1:Int)∧(r.1:Int)≤2
 ·rw [decide_eq_true hd,qj (Int.not_lt.2 hd.1),qj (Int.not_lt.2 hd.2),qd (show qiz p r.1 from h.2)]
  cases hp:qcf p r.1 with
  | false=>rfl
  | true=>
    obtain ⟨g1,g2⟩:=qZp hr hd hp
    simp only [Bool.not_true,cond_false,Bool.and_self,cond_true]
    refine (t35 _ p r.2 0 0 (by omega) (fun c hc=>(g2 c hc).1) _ (List.length (α:=Val Y33) r.2) 0 (by omega) _ (Nat.lt_succ_self _) qib qGO).trans ?_
    rw [List.drop_zero]
    cases qez p r.2 qib<;>rfl
 ·rw [decide_eq_false hd]
  simp only [Bool.not_true,cond_false,Bool.and_false,Bool.false_and]
  by_cases h1:(r.1:Int)<1
  ·rw [qk h1];rfl
  ·have h2:(2:Int)<(r.1:Int):=Int.not_le.1 fun h2=>hd ⟨Int.not_lt.1 h1,h2⟩
   rw [qj h1,qk h2];rfl⟩
theorem s35:Sound Tryz.prog 35 g35:=qx (tt:=tt) (Γ:=Γ35) hT (qg q3C (qg q6f (qg zns (qg qSu qu)))) hm (fn:=Tryz.f35) Tryz.func35 (c:=Tryz.f35.body.getD .skip) (by kernel_rfl) (by kernel_rfl) fun x hx=>by
 obtain ⟨N,h⟩:=e35 x.1 x.2.1 hx
 exact ⟨T35 N,p35,qy _,zoQ N,(q80 N x.1 x.2.1).trans h⟩
def g32:G:={ps:=[i50,i52],rs:=[i28,i4,i4],dp:=true,pre:=fun x=>qlb x.1 x.2.1,fn:=fun x=>((qaK x.1 x.2.1).1,(qaK x.1 x.2.1).2.1,(qaK x.1 x.2.1).2.2,())}
noncomputable def qdk (N:Nat) (v2:List (Val Y28)) (v5:Int) (v6:List (Val Y33)) (v7:Int) (v8:Int) (k0:Bool→Int→Int→Option (qc [i28,i4,i4])):Nat→Bool→Int→Int→Int→Option (qc [i28,i4,i4])
 | 0,_,_,_,_=>none
 | n+1,v3,v4,v9,v10=>bif (decide (v4<(v6.length:Int)))then (chk (0≤v4∧v4<(v6.length:Int)) (chk (qAQ (v6.getD v4.toNat (qb Y33)) v2) (bif (!((qaa (v6.getD v4.toNat (qb Y33)) v2).2:Bool))then (some (((0:Int),(0:Int)),false,false,()))else (chk (qt4 ((((qaa (v6.getD v4.toNat (qb Y33)) v2).1).1:Int),(((qaa (v6.getD v4.toNat (qb Y33)) v2).1).2:List (Val qa))) v5) (bif (!((qA ((((qaa (v6.getD v4.toNat (qb Y33)) v2).1).1:Int),(((qaa (v6.getD v4.toNat (qb Y33)) v2).1).2:List (Val qa))) v5).2:Bool))then (some (((0:Int),(0:Int)),false,false,()))else (bif ((((((((qA ((((qaa (v6.getD v4.toNat (qb Y33)) v2).1).1:Int),(((qaa (v6.getD v4.toNat (qb Y33)) v2).1).2:List (Val qa))) v5).1).2).2).2).2).2).2:Bool)then (qdk N v2 v5 v6 v7 v8 k0 n v3 (IntKind.i64.wrap (v4+(1:Int))) v9 v10)else (bif (!(((qA ((((qaa (v6.getD v4.toNat (qb Y33)) v2).1).1:Int),(((qaa (v6.getD v4.toNat (qb Y33)) v2).1).2:List (Val qa))) v5).1).1:Bool))then (qdk N v2 v5 v6 v7 v8 k0 n v3 (IntKind.i64.wrap (v4+(1:Int))) v9 v10)else (bif (decide (v10=(0:Int)))then (qdk N v2 v5 v6 v7 v8 k0 n (!(((((qA ((((qaa (v6.getD v4.toNat (qb Y33)) v2).1).1:Int),(((qaa (v6.getD v4.toNat (qb Y33)) v2).1).2:List (Val qa))) v5).1).2).2).1:Bool)) (IntKind.i64.wrap (v4+(1:Int))) (((((qA ((((qaa (v6.getD v4.toNat (qb Y33)) v2).1).1:Int),(((qaa (v6.getD v4.toNat (qb Y33)) v2).1).2:List (Val qa))) v5).1).2).1).1:Int) (((((qA ((((qaa (v6.getD v4.toNat (qb Y33)) v2).1).1:Int),(((qaa (v6.getD v4.toNat (qb Y33)) v2).1).2:List (Val qa))) v5).1).2).1).2:Int))else (chk (qcm ((((((qA ((((qaa (v6.getD v4.toNat (qb Y33)) v2).1).1:Int),(((qaa (v6.getD v4.toNat (qb Y33)) v2).1).2:List (Val qa))) v5).1).2).1).1:Int),(((((qA ((((qaa (v6.getD v4.toNat (qb Y33)) v2).1).1:Int),(((qaa (v6.getD v4.toNat (qb Y33)) v2).1).2:List (Val qa))) v5).1).2).1).2:Int)) (v9,v10)) (bif ((qab ((((((qA ((((qaa (v6.getD v4.toNat (qb Y33)) v2).1).1:Int),(((qaa (v6.getD v4.toNat (qb Y33)) v2).1).2:List (Val qa))) v5).1).2).1).1:Int),(((((qA ((((qaa (v6.getD v4.toNat (qb Y33)) v2).1).1:Int),(((qaa (v6.getD v4.toNat (qb Y33)) v2).1).2:List (Val qa))) v5).1).2).1).2:Int)) (v9,v10)):Bool)then (qdk N v2 v5 v6 v7 v8 k0 n (!(((((qA ((((qaa (v6.getD v4.toNat (qb Y33)) v2).1).1:Int),(((qaa (v6.getD v4.toNat (qb Y33)) v2).1).2:List (Val qa))) v5).1).2).2).1:Bool)) (IntKind.i64.wrap (v4+(1:Int))) (((((qA ((((qaa (v6.getD v4.toNat (qb Y33)) v2).1).1:Int),(((qaa (v6.getD v4.toNat (qb Y33)) v2).1).2:List (Val qa))) v5).1).2).1).1:Int) (((((qA ((((qaa (v6.getD v4.toNat (qb Y33)) v2).1).1:Int),(((qaa (v6.getD v4.toNat (qb Y33)) v2).1).2:List (Val qa))) v5).1).2).1).2:Int))else (bif (decide ((((((qA ((((qaa (v6.getD v4.toNat (qb Y33)) v2).1).1:Int),(((qaa (v6.getD v4.toNat (qb Y33)) v2).1).2:List (Val qa))) v5).1).2).1).1:Int)=v9)&&decide ((((((qA ((((qaa (v6.getD v4.toNat (qb Y33)) v2).1).1:Int),(((qaa (v6.getD v4.toNat (qb Y33)) v2).1).2:List (Val qa))) v5).1).2).1).2:Int)=v10))then (bif v3 then (qdk N v2 v5 v6 v7 v8 k0 n true (IntKind.i64.wrap (v4+(1:Int))) v9 v10)else (qdk N v2 v5 v6 v7 v8 k0 n (!(((((qA ((((qaa (v6.getD v4.toNat (qb Y33)) v2).1).1:Int),(((qaa (v6.getD v4.toNat (qb Y33)) v2).1).2:List (Val qa))) v5).1).2).2).1:Bool)) (IntKind.i64.wrap (v4+(1:Int))) v9 v10))else (qdk N v2 v5 v6 v7 v8 k0 n v3 (IntKind.i64.wrap (v4+(1:Int))) v9 v10))))))))))))else (k0 v3 v9 v10)
noncomputable def m32 (N:Nat) (v0:Val Y50) (v1:List (Val Y28)):Option (qc [i28,i4,i4]):=chk (qhO v0) (bif (!((qba v0):Bool))then (some (((0:Int),(0:Int)),false,false,()))else (bif (!((inR (v0.1:Int) (1:Int) (2:Int)):Bool))then (some (((0:Int),(0:Int)),false,false,()))else (chk (qiz v1 (v0.1:Int)) (bif (!((qcf v1 (v0.1:Int)):Bool))then (some (((0:Int),(0:Int)),false,false,()))else (qdk N v1 (v0.1:Int) (v0.2:List (Val Y33)) (0:Int) (0:Int) (fun (v14:Bool) (v15:Int) (v16:Int)=>some ((v15,v16),v14,(!(decide (v16=(0:Int)))),())) N false (0:Int) (0:Int) (0:Int))))))
def Γ32:Gam:=[(117,qe2),(118,qam),(119,qn0),(120,qoK),(121,qgR),(122,qcR)]
theorem qR4:Gam.get Γ32 117=some qe2:=rfl
theorem qN2:Gam.get Γ32 118=some qam:=rfl
theorem qKj:Gam.get Γ32 119=some qn0:=rfl
theorem qIL:Gam.get Γ32 120=some qoK:=rfl
theorem qKf:Gam.get Γ32 121=some qgR:=rfl
theorem qSW:Gam.get Γ32 122=some qcR:=rfl
def qvx:Nm:=⟨[false,true,true,false,true,false,false,true,true,true],[],false⟩
theorem qFf:qvx.zero=false:=rfl
theorem qJg:qvx.fix=[]:=rfl
theorem qJK:qvx.keep=[false,true,true,false,true,false,false,true,true,true]:=rfl
def qAI:Nm:=⟨[false,false,false,false,true,false,false,true,true],[],false⟩
theorem qWN:qAI.zero=false:=rfl
theorem qKW:qAI.fix=[]:=rfl
theorem qMS:qAI.keep=[false,false,false,false,true,false,false,true,true]:=rfl
def qzc:Nm:=⟨[false,false,false,false,true,true,true],[],false⟩
theorem qJo:qzc.zero=false:=rfl
theorem qHB:qzc.fix=[]:=rfl
theorem qJp:qzc.keep=[false,false,false,false,true,true,true]:=rfl
def qnI:Nat→Tree:=fun i=>if i=20 then .quiet 0 (.first 1 (.alt 2 (.alt 3 (.first 4 (.alt 5 (.quiet 6 (.quiet 7 .done)) .stop)) (.alt 5 (.quiet 3 (.quiet 4 (.quiet 6 (.quiet 7 .done)))) .stop)) (.alt 5 (.quiet 2 (.quiet 3 (.quiet 4 (.quiet 6 (.quiet 7 .done))))) .stop)))else .done
def qwi:Nat→Nm:=fun i=>if i=6 then qvx else ⟨[],[],false⟩
def qvm:Nat→Option Jn:=fun _=>none
def quS:Nat→Option Nm:=fun i=>if i=0 then some qAI else none
def quM:Nat→Option Nm:=fun i=>if i=20 then some qzc else none
theorem p32:qn qnI (Tryz.f32.body.getD .skip)=true:=by kernel_rfl
def T32 (N:Nat):Tab:={tr:=qnI,lp:=qwi,ex:=quS,rg:=quM,jn:=qvm,fuel:=N}
theorem qSi (N:Nat):(T32 N).pins=false:=rfl
theorem zji (N:Nat):qp Tryz.prog (T32 N):=qv fun _=>rfl
theorem qF9 (N:Nat) (i:Nat):(T32 N).tr i=qnI i:=rfl
theorem qXL (N:Nat) (i:Nat):(T32 N).lp i=qwi i:=rfl
theorem qRN (N:Nat) (i:Nat):(T32 N).ex i=quS i:=rfl
theorem qUB (N:Nat) (i:Nat):(T32 N).rg i=quM i:=rfl
theorem qHN (N:Nat) (i:Nat):(T32 N).jn i=qvm i:=rfl
theorem qPx (N:Nat):(T32 N).fuel=N:=rfl
noncomputable def q3Z:Code:=cut [true,true,true,true,false,true,true,true] (Tryz.f32.body.getD .skip)
theorem zbd {N:Nat} {Q:X→St→Option (qc [i28,i4,i4])} {e:List LV} {h:List Blk}:qe tt Γ32 (T32 N) q3Z Q ⟨e,h⟩=qe tt Γ32 (T32 N) (cut [true,true,true,true,false,true,true,true] (Tryz.f32.body.getD .skip)) Q ⟨e,h⟩:=rfl
theorem zl3 (N:Nat) (v2:List (Val Y28)) (v5:Int) (v6:List (Val Y33)) (v7:Int) (v8:Int) {k0:Bool→Int→Int→Option (qc [i28,i4,i4])} {Q:X→St→Option (qc [i28,i4,i4])} {c:Code} (hc:c=q3Z) (hret: ∀st,Q .ret st=qI tt true [i28,i4,i4] [.cell 4 28,.tmp 5,.tmp 6] st) (h0: ∀(v11:Bool) (v12:Int) (v13:Int),Q (.exit 0) ⟨[u,u,u,u,.one (.ptr 0 0 0),u,u,.one (.ptr 1 0 0),.one (.bool v11),u,u,u,u,u,u,u,u,u,u,u,u,u,u,u,u,u,u,u,u,u,u,u,u,u,u,u,u,u,u,u,u,u,u,u,u,u,u,u,u,u,u,u,u,u,u,u,u,u,u,u,u,u,u,u,u,u,u,u,u,u,u,u,u,u,u,u,u,u,u,u,u,u,u,u,u,u,u,u,u,u,u,u,u,u,u,u,u,u],[.box [.int .i64 v7,.int .i64 v8],.box [.int .i64 v12,.int .i64 v13]]⟩=k0 v11 v12 v13): ∀(n:Nat) (v3:Bool) (v4:Int) (v9:Int) (v10:Int),qE (qe tt Γ32 (T32 N) c) false qvx Q n ⟨[u,.one (.sl 28 Y28 v2 3),.one (.ptr 0 0 0),u,.one (.ptr 1 0 0),u,u,.one (.ptr 2 0 0),.one (.bool v3),.one (.int .i64 v4),u,u,u,u,u,u,u,u,u,u,u,u,u,u,u,u,u,u,u,u,u,u,u,u,u,u,u,u,u,u,u,u,u,u,u,u,u,u,u,u,u,u,u,u,u,u,u,u,u,u,u,u,u,u,u,u,u,u,u,u,u,u,u,u,u,u,u,u,u,u,u,u,u,u,u,u,u,u,u,u,u,u,u,u,u,u,u,u],[.box [.int .i64 v5,.sl 33 Y33 v6 3],.box [.int .i64 v7,.int .i64 v8],.box [.int .i64 v9,.int .i64 v10]]⟩=qdk N v2 v5 v6 v7 v8 k0 n v3 v4 v9 v10:=by
 subst hc;intro n;induction n with
 | zero=>intros;rfl
 | succ n ih=>
   intro v3 v4 v9 v10
   rw [qN,zbd,qdk];unfold Tryz.f32
   simp (maxSteps:=10000000) -implicitDefEqProofs [qF9,qnI,qXL,qwi,qRN,quS,qUB,quM,qHN,qvm,qPx,qSi,qJg,qJK,qFf,qKW,qMS,qWN,qHB,qJp,qJo,qR4,qN2,qKj,qIL,qKf,qSW,qe2,qam,qn0,qoK,qgR,qcR,hret,h0,ih]
theorem q5z (N:Nat) (v0:Val Y50) (v1:List (Val Y28)):qe tt Γ32 (T32 N) (Tryz.f32.body.getD .skip) (qt tt true [i28,i4,i4] [.cell 4 28,.tmp 5,.tmp 6]) (qw [i50,i52] 98 (v0,v1,()))=m32 N v0 v1:=by
 unfold Tryz.f32
 simp (maxSteps:=10000000) -implicitDefEqProofs [qF9,qnI,qXL,qwi,qRN,quS,qUB,quM,qHN,qvm,qPx,qSi,qJg,qJK,qFf,qKW,qMS,qWN,qHB,qJp,qJo,qR4,qN2,qKj,qIL,qKf,qSW,qe2,qam,qn0,qoK,qgR,qcR]
 rewrite [zl3 (k0:=(fun (v14:Bool) (v15:Int) (v16:Int)=>some ((v15,v16),v14,(!(decide (v16=(0:Int)))),()))) N _ _ _ _ _ ?_ ?_ ?_]
 ·rewrite [m32];first | rfl | simp (maxSteps:=10000000) -implicitDefEqProofs []
 ·rfl
 ·intro;simp only [qJ,qL,qK,qB]
 ·intro v14 v15 v16;simp (maxSteps:=10000000) -implicitDefEqProofs [qF9,qnI,qXL,qwi,qRN,quS,qUB,quM,qHN,qvm,qPx,qSi,qJg,qJK,qFf,qKW,qMS,qWN,qHB,qJp,qJo,qR4,qN2,qKj,qIL,qKf,qSW,qe2,qam,qn0,qoK,qgR,qcR]
theorem zag {c:Val Y33} {p:List (Val Y28)} (h:(qaa c p).2=true):List.length (α:=Val qa) (qaa c p).1.2≤16:=by
 unfold qaa at*
 cases hn:qbA c.1 0 p (qq c 1).2 with
 | none=>rw [hn]at h;simp at h
 | some l=>
   rw [hn]at h
   simp only [decide_eq_true_eq]at h
   show l.length≤16
   omega
theorem t32 (N:Nat) (d:Int) (p:List (Val Y28)) (l:List (Val Y33)) (v7 v8:Int) (hl:l.length≤1048576) (h: ∀c∈l,qf5 c p∧(c.1:Int)=d) (K:Bool→Int→Int→Option (qc [i28,i4,i4])): ∀(k i:Nat),i+k=l.length→ ∀n,k<n→ ∀s:Dst,qiH s→
 qdk N p d l v7 v8 K n s.2.1 i s.1.1 s.1.2=match qez p (l.drop i) s with
  | some s'=>K s'.2.1 s'.1.1 s'.1.2
  | none=>q3z
 | 0,i,hi,n+1,_,s,_=>by
   rw [qdk,qj (by omega),List.drop_eq_nil_of_le (by omega)]
   rfl
 | k+1,i,hi,n+1,hn,s,hs=>by
   have h1:i<l.length:=by omega
   obtain ⟨hc,hcd⟩:=h _ (List.getElem_mem h1)
   have eC: ∀c:Val Y33,(((c.1:Int),(c.2:List (Val qa))):Val Y33)=c:=fun _=>rfl
   rw [qdk,qk (by omega),qd (by omega),qF h1,qd (show qAQ l[i] p from hc),qa2 h1 (by omega),qbo h1,qez,eC]
   obtain ⟨n1,n2⟩:=zgm (c:=l[i]) (p:=p)
   cases hm:(qaa l[i] p).2 with
   | false=>rw [n1 hm];rfl
   | true=>
     have hln:=zag hm
     simp only [Bool.not_true,cond_false]
     rw [qd (show qt4 (qaa l[i] p).1 d from Nat.le_trans hln (by decide)),←hcd,←n2 hm]
     cases ho:(qaw l[i] p).2 with
     | false=>rfl
     | true=>
       have hr:=qLN hc ho
       have ih:=t32 N d p l v7 v8 hl h K k (i+1) (by omega) n (by omega)
       simp only [Bool.not_true,cond_false,cond_true]
       rw [hcd]
       generalize (qaw l[i] p).1=b at hr ⊢
       have hs':=qLe (b:=b) hs fun he=>(hr he).2
       rw [←ih _ hs']
       unfold qqW
       cases he:(b.2.2.2.2.2.2:Bool)with
       | true=>rfl
       | false=>
         obtain ⟨g1,g2⟩:=hr he
         simp only [cond_false]
         rw [g1]
         simp only [Bool.not_true,cond_false]
         cases hf:s.2.2 with
         | false=>
           have hz:s.1.2=(0:Int):=by rw [hs.2 hf]
           rw [decide_eq_true hz]
           rfl
         | true=>
           have hq:=hs.1 hf
           have h0:1≤(s.1.2:Int):=(qnt hq).1
           have hz: ¬(s.1.2:Int)=0:=fun hh=>by rw [hh]at h0;exact absurd h0 (by decide)
           have eb:(((b.2.1.1:Int),(b.2.1.2:Int)):Val Y28)=b.2.1:=rfl
           have es:(((s.1.1:Int),(s.1.2:Int)):Val Y28)=s.1:=rfl
           rw [decide_eq_false hz]
           simp only [Bool.not_true,cond_false,Bool.false_or]
           rw [eb,es,qd (show qcm b.2.1 s.1 from ⟨qbe g2,qbe hq⟩)]
           cases qab b.2.1 s.1 with
           | true=>rfl
           | false=>
             simp only [cond_false]
             have ee:(decide ((b.2.1.1:Int)=(s.1.1:Int))&&decide ((b.2.1.2:Int)=(s.1.2:Int)))=decide (b.2.1=s.1):=by
              by_cases hbs:b.2.1=s.1
              ·rw [hbs];simp
              ·rw [decide_eq_false hbs,Bool.eq_false_iff]
               intro hh
               simp only [Bool.and_eq_true,decide_eq_true_eq]at hh
               exact hbs (Prod.ext hh.1 hh.2)
             rw [ee]
             cases decide (b.2.1=s.1)with
             | true=>
               simp only [cond_true]
               cases s.2.1<;>rfl
             | false=>rfl
theorem q23 {p:List (Val Y28)}: ∀(l:List (Val Y33)) {s s':Dst},(∀c∈l,qf5 c p)→qiH s→qez p l s=some s'→qiH s'
 | [],s,s',_,hs,h=>by simp only [qez,Option.some.injEq]at h;subst h;exact hs
 | c::l,s,s',hl,hs,h=>by
   rw [qez]at h
   cases ho:(qaw c p).2 with
   | false=>rw [ho]at h;simp at h
   | true=>
     rw [ho]at h
     simp only [cond_true]at h
     exact q23 l (fun x hx=>hl x (by simp [hx])) (qLe hs fun he=>(qLN (hl c (by simp)) ho he).2) h
theorem zpM {s:Dst} (hs:qiH s):(!decide ((s.1.2:Int)=0))=s.2.2:=by
 cases hf:s.2.2 with
 | false=>
   have hz:s.1.2=(0:Int):=by rw [hs.2 hf]
   rw [decide_eq_true hz];rfl
 | true=>
   have h0:1≤(s.1.2:Int):=(qnt (hs.1 hf)).1
   rw [decide_eq_false fun hh=>by rw [hh]at h0;exact absurd h0 (by decide)];rfl
theorem e32 (r:Val Y50) (p:List (Val Y28)) (h:qlb r p): ∃N,m32 N r p=some ((qaK r p).1,(qaK r p).2.1,(qaK r p).2.2,()):=⟨List.length (α:=Val Y33) r.2+1,by
 rw [m32,qd (show qhO r from h.1),qaK]
 cases hr:qba r with
 | false=>rfl
 | true=>
 simp only [Bool.not_true,cond_false,Bool.true_and]
 show (bif !decide (1≤(r.1:Int)∧(r.1:Int)≤2)then _ else _)=_
 by_cases hd:1≤(r.1:Int)∧(r.1:Int)≤2
 ·rw [decide_eq_true hd]
  simp only [Bool.not_true,cond_false,Bool.true_and]
  rw [qd (show qiz p r.1 from h.2)]
  cases hp:qcf p r.1 with
  | false=>rfl
  | true=>
    obtain ⟨g1,g2⟩:=qZp hr hd hp
    simp only [Bool.not_true,cond_false,cond_true]
    refine (t32 _ r.1 p r.2 0 0 (by omega) g2 _ (List.length (α:=Val Y33) r.2) 0 (by omega) _ (Nat.lt_succ_self _) qib qGO).trans ?_
    rw [List.drop_zero]
    cases hm:qez p r.2 qib with
    | none=>rfl
    | some s=>
      have:=zpM (q23 _ (fun c hc=>(g2 c hc).1) qGO hm)
      simp only [this]
      try rfl
 ·rw [decide_eq_false hd]
  rfl⟩
theorem s32:Sound Tryz.prog 32 g32:=qx (tt:=tt) (Γ:=Γ32) hT (qg q0D (qg qh1 (qg za3 (qg zqd (qg qYz (qg qW2 qu)))))) hm (fn:=Tryz.f32) Tryz.func32 (c:=Tryz.f32.body.getD .skip) (by kernel_rfl) (by kernel_rfl) fun x hx=>by
 obtain ⟨N,h⟩:=e32 x.1 x.2.1 hx
 exact ⟨T32 N,p32,qy _,zji N,(q5z N x.1 x.2.1).trans h⟩
end Go.T
