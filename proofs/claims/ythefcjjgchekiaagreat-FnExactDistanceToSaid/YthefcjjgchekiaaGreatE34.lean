/- The distance of a point has a lower bound (plain). -/
import Derived.Test.YthefcjjgchekiaaGreatE33
import Derived.Test.YthefcjjgchekiaaGreatE35
set_option linter.unusedSimpArgs false
set_option linter.unusedVariables false
namespace Go.T
open Go Go.Proofs
set_option maxHeartbeats 4000000
set_option maxRecDepth 100000
theorem qY5 {d i s:Int} {q:(Val Y28)} {P:List Rat} (hi:0≤i∧i<d) (hp:(P.length:Int)=d+1):qaA (qTM d i s q) P=((s*q.2:Int):Rat)*P.getD i.toNat 0 - ((q.2:Int):Rat)*P.getD d.toNat 0:=by
 unfold qTM
 have l1:i.toNat<(List.replicate (d+1).toNat (0:Int)).length:=by rw [List.length_replicate];omega
 have l2:d.toNat<((List.replicate (d+1).toNat (0:Int)).set i.toNat (s*(q.2:Int))).length:=by rw [List.length_set,List.length_replicate];omega
 rw [qCC _ P _ _ l2 (by omega),qCC _ P _ _ l1 (by omega),qDr _ P fun x hx=>(List.mem_replicate.1 hx).2]
 have e1:(List.replicate (d+1).toNat (0:Int)).getD i.toNat 0=0:=by
  have:i.toNat<(d+1).toNat:=by omega
  simp [List.getD,this]
 have e2:((List.replicate (d+1).toNat (0:Int)).set i.toNat (s*(q.2:Int))).getD d.toNat 0=0:=by
  have h1:d.toNat<(d+1).toNat:=by omega
  have h2:i.toNat≠d.toNat:=by omega
  rw [List.getD_eq_getElem?_getD,List.getElem?_set_ne h2];simp [h1]
 rw [e1,e2,Rat.intCast_neg]
 have e0:((0:Int):Rat)=0:=rfl
 rw [e0]
 grind
theorem q0r {d i:Int} {q:(Val Y28)} {l l':List (Val qa)} (h:qc9 d i q l=some l'):(∀a∈l,a∈l')∧((qaR d i 1 q).2=true∧(qaR d i 1 q).1∈l')∧((qaR d i (-1) q).2=true∧(qaR d i (-1) q).1∈l'):=by
 unfold qc9 at h
 cases h1:(qaR d i 1 q).2 with
 | false=>rw [h1]at h;simp at h
 | true=>
   cases h2:(qaR d i (-1) q).2 with
   | false=>rw [h1,h2]at h;simp at h
   | true=>
     rw [h1,h2]at h
     simp only [cond_true,Option.some.injEq]at h
     subst h
     exact ⟨fun a ha=>by simp [ha],⟨rfl,by simp⟩,rfl,by simp⟩
theorem qGN {d:Int}: ∀(p:List (Val Y28)) (i:Nat) {l l':List (Val qa)},qbA d i p l=some l'→ ∀a∈l,a∈l'
 | [],i,l,l',h=>by simp only [qbA,Option.some.injEq]at h;subst h;exact fun a ha=>ha
 | q::p,i,l,l',h=>by
   rw [qbA]at h
   cases h2:qc9 d i q l with
   | none=>rw [h2]at h;simp at h
   | some l1=>
     rw [h2]at h
     exact fun a ha=>qGN p (i+1) h a ((q0r h2).1 a ha)
theorem zof {d:Int} {p:List (Val Y28)} {l0 l:List (Val qa)} {P:List Rat} (hd:1≤d) (hq:qcf p d=true) (h:qbA d 0 p l0=some l) (hP:(P.length:Int)=d+1) (hh:qcd ((d+1:Int),l) P):0≤P.getD d.toNat 0:=by
 obtain ⟨hl,hr⟩:=qJN hq
 cases p with
 | nil=>simp at hl;omega
 | cons q p=>
   rw [qbA]at h
   cases h2:qc9 d ((0:Nat):Int) q l0 with
   | none=>rw [h2]at h;simp at h
   | some l1=>
     rw [h2]at h
     obtain ⟨_,⟨g1,g2⟩,g3,g4⟩:=q0r h2
     have m1:=(qEh g1).1 (hh _ (qGN p _ h _ g2))
     have m2:=(qEh g3).1 (hh _ (qGN p _ h _ g4))
     have hi:0≤((0:Nat):Int)∧((0:Nat):Int)<d:=⟨by omega,by omega⟩
     have e1:=qY5 (s:=1) (q:=q) hi hP
     have e2:=qY5 (s:= -1) (q:=q) hi hP
     have h1:1≤(q.2:Int):=(qnt (hr q (by simp))).1
     have h2:(0:Rat)<((q.2:Int):Rat):=Rat.intCast_pos.2 (Int.lt_of_lt_of_le (by decide) h1)
     unfold qaz evA at m1 m2
     simp only [e1,e2]at m1 m2
     have k1:((1*q.2:Int):Rat)=((q.2:Int):Rat):=by rw [Int.one_mul]
     have k2:((-1*q.2:Int):Rat)= -((q.2:Int):Rat):=by rw [Int.neg_mul,Int.one_mul,Rat.intCast_neg]
     have k3:((-1*q.1:Int):Rat)= -((q.1:Int):Rat):=by rw [Int.neg_mul,Int.one_mul,Rat.intCast_neg]
     have k4:((-(-1)*q.1:Int):Rat)=((q.1:Int):Rat):=by rw [Int.neg_neg,Int.one_mul]
     rw [k1,k3]at m1
     rw [k2,k4]at m2
     generalize P.getD d.toNat 0=t at*
     generalize P.getD (((0:Nat):Int).toNat) 0=x at*
     generalize ((q.2:Int):Rat)=e at*
     have:e*t≥0:=by grind
     by_cases ht:t<0
     ·have:=Rat.mul_neg_iff_of_pos_left h2 |>.2 ht
      grind
     ·grind
theorem qYX {c:(Val Y33)} {p:List (Val Y28)} (h:qf5 c p) (h1:(qaw c p).2=true) (h2:((qaw c p).1.2.2.2.2.2.2:Bool)=false):((qaw c p).1.1:Bool)=true:=by
 obtain ⟨hc,hq,d1,d2⟩:=h
 unfold qaw at*
 cases hn:qbA c.1 0 p (qq c 1).2 with
 | none=>rw [hn]at h1;simp at h1
 | some l=>
   rw [hn]at h1 h2
   simp only at h1 h2 ⊢
   obtain ⟨_,_,_,s⟩:=zlg h1
   obtain ⟨⟨t0,ht0⟩,s⟩:=s h2
   cases hb:((qA (((c.1:Int)+1:Int),l) c.1).1.1:Bool)with
   | true=>rfl
   | false=>
     exfalso
     have key: ∀t,t≤t0→0≤t:=fun t ht=>by
        have:inB (qA (((c.1:Int)+1:Int),l) c.1).1 t:=⟨fun h=>by rw [hb]at h;simp at h,fun h=>by have:=ht0.2 h;grind⟩
        obtain ⟨P,g1,g2,g3⟩:=(s t).1 this
        have:=zof d1 hq hn g1 g3
        rw [g2]at this
        exact this
     by_cases h0:t0≤0
     ·have:=key (t0 - 1) (by grind);grind
     ·have:=key (-1) (by grind);grind
theorem zgm {c:(Val Y33)} {p:List (Val Y28)}:((qaa c p).2=false→qaw c p=(noB,false))∧((qaa c p).2=true→qaw c p=qA (qaa c p).1 c.1):=by
 unfold qaa qaw
 cases hn:qbA c.1 0 p (qq c 1).2 with
 | none=>exact ⟨fun _=>rfl,fun h=>by simp at h⟩
 | some l=>
   refine ⟨fun h=> ?_,fun _=>rfl⟩
   simp only [decide_eq_false_iff_not]at h ⊢
   unfold qA
   cases hc:qH (((c.1:Int)+1:Int),l)with
   | false=>rfl
   | true=>
     have h2:l.length≤16:=(qaJ hc).2.1
     omega
theorem q7n {c:(Val Y33)} {v:Int}:qbM (qA c v).1:=by
 unfold qA
 cases hc:qH c with
 | false=>exact qeC
 | true=>
   cases decide (0≤v∧v<(c.1:Int))with
   | false=>exact qeC
   | true=>
     simp only [Bool.and_self,cond_true]
     obtain ⟨hL,hN⟩:=qil hc
     cases hm:qbp v (c.1:Int).toNat (qO c.1 c.2)with
     | none=>exact qeC
     | some y=>
       have hy:=(qnq _ hN hm).1
       obtain ⟨_,_,hok⟩:=qaJ hy
       show qbM (qm y v)
       unfold qm
       have hE:qbM qfq:=⟨⟨.inr rfl,fun h=>by simp [qfq]at h⟩,.inr rfl,fun h=>by simp [qfq]at h⟩
       cases List.any (α:=(Val qa)) y.2 qaB with
       | true=>exact hE
       | false=>
         simp only [cond_false]
         have hb:qbM (qf y v):=qpy qeC fun a ha=>(hok a ha).1
         unfold qqc
         cases (qf y v).1&&(qf y v).2.2.2.1&&(qab (qf y v).2.2.2.2.1 (qf y v).2.1||(decide ((qf y v).2.2.2.2.1=(qf y v).2.1)&&((qf y v).2.2.1||(qf y v).2.2.2.2.2.1)))with
         | true=>exact hE
         | false=>exact hb
end Go.T
