/- Formulas: the program's IsFormula. -/
import Derived.Test.YtlhkmndfkjlodaaH3
import Derived.Test.YtlhkmndfkjlodaaH6
set_option linter.unusedSimpArgs false
set_option linter.unusedVariables false
namespace Go.T
open Go Go.Proofs
set_option maxHeartbeats 4000000
set_option maxRecDepth 100000
def goF (db:List (Val qe)):List (Val qa)→Nat→List Int→Bool
 | [],_,r=>decide ((r.length:Int)=1)
 | n::t,i,r=>bif qdy db n then (match stF (i:Int) n.1 n.2.2.2.2.2.2.1 n.2.2.2.2.2.2.2 r with
   | some r'=>goF db t (i+1) r'
   | none=>false)else false
def qb4 (db:List (Val qe)) (f:List (Val qa)):Bool:=qez db&&inR (f.length:Int) 1 12&&goF db f 0 []
def qcK (db:List (Val qe)) (f:List (Val qa)):Prop:=Bd (.slice 123 qe) db∧Bd (.slice 120 qa) f
def g82:G:={ps:=[i63,i65],rs:=[i4],dp:=true,pre:=fun x=>qcK x.1 x.2.1,fn:=fun x=>(qb4 x.1 x.2.1,())}
def g79:G:={ps:=[i63,i65],rs:=[i4],dp:=true,pre:=fun x=>qcK x.1 x.2.1,fn:=fun x=>(qb4 x.1 x.2.1,())}
theorem qZb (K A B:Int) (n:Nat) (s:List Int):
 (qcf K=0∧abN K A B=(decide (A=0)&&decide (B=0))∧stG n K A B s=some (s.set n n))∨
 (qcf K=1∧abN K A B=decide (B=0)∧stG n K A B s=bif decide ((n:Int)=0)|| !decide (A=n - 1)then none else some (s.set n (s.getD (n - 1) 0)))∨
 (qcf K=2∧abN K A B=true∧stG n K A B s=bif decide ((n:Int)=0)|| !decide (B=n - 1)||decide (s.getD (n - 1) 0=0)|| !decide (A=s.getD (n - 1) 0 - 1)then none else some (s.set n (s.getD A.toNat 0)))∨
 (qcf K= -1∧abN K A B=false):=by
 rcases qjb K with rfl | rfl | rfl | rfl | rfl | rfl | rfl | ⟨k0,k1,k2,k3,k4,k5,k6⟩
 ·exact .inl ⟨rfl,rfl,rfl⟩
 ·exact .inl ⟨rfl,rfl,rfl⟩
 ·exact .inr (.inl ⟨rfl,rfl,rfl⟩)
 ·exact .inr (.inr (.inl ⟨rfl,rfl,rfl⟩))
 ·exact .inr (.inr (.inl ⟨rfl,rfl,rfl⟩))
 ·exact .inr (.inl ⟨rfl,rfl,rfl⟩)
 ·exact .inr (.inl ⟨rfl,rfl,rfl⟩)
 ·refine .inr (.inr (.inr ⟨?_,?_⟩))
  ·rw [qcf,decide_eq_false k0,decide_eq_false k1,decide_eq_false k2,decide_eq_false k3,decide_eq_false k4,decide_eq_false k5,decide_eq_false k6];rfl
  ·rw [abN,decide_eq_false k0,decide_eq_false k1,decide_eq_false k2,decide_eq_false k3,decide_eq_false k4,decide_eq_false k5,decide_eq_false k6];rfl
theorem t82 (N:Nat) (db:List (Val qe)) (f:List (Val qa)) (hd:db.length≤1048576) (hf:Bd (.slice 120 qa) f) (h1:1≤f.length) (hl:f.length≤12) (k0:List (Val (.int .i64))→Option (qc [i4]))
 (hK: ∀s:List Int,s.length=f.length→k0 s=some (decide (s.getD (f.length - 1) 0=0),())):
 ∀(k i:Nat) (s r:List Int),i+k=f.length→s.length=f.length→Ch s (i:Int) r→ ∀n,k<n→qfR N db f f (f.length:Int) k0 n (i:Int) s=some (goF db (f.drop i) i r,())
 | 0,i,s,r,hi,hs,hc,n+1,_=>by
   have e:f.drop i=[]:=List.drop_eq_nil_of_le (by omega)
   have hc':Ch s (((f.length - 1:Nat):Int)+1) r:=by
    have e2:((f.length - 1:Nat):Int)+1=(i:Int):=by omega
    rw [e2];exact hc
   rw [qfR,qh (by omega),hK s hs,e,goF,qYL hc']
 | k+1,i,s,r,hi,hs,hc,n+1,hn=>by
   have hi':i<f.length:=by omega
   have hb:qqB db f[i]:=⟨hd,hf.2 _ (List.getElem_mem hi')⟩
   have hsl:i<s.length:=by omega
   rw [qfR,qj (by omega),qd (by omega),qE hi',qiU hi',goF,qdy,qd hb]
   cases qfA db f[i]with
   | false=>rfl
   | true=>
     generalize hx:f[i]=x
     obtain ⟨K,a,nm,lb,vs,vr,A,B⟩:=x
     change Int at K
     change Int at A
     change Int at B
     dsimp only
     rw [Bool.not_true,cond_false,Bool.true_and]
     have hw:IntKind.i64.wrap ((i:Int)+1)=((i+1:Nat):Int):=qhW hi' (by omega)
     have ih:=fun s' r' h2 h3=>t82 N db f hd hf h1 hl k0 hK k (i+1) s' r' (by omega) h2 h3 n (by omega)
     have hst:=qMo (K:=K) (A:=A) (B:=B) hsl hc
     rcases qZb K A B i s with ⟨p,q,g⟩ | ⟨p,q,g⟩ | ⟨p,q,g⟩ | ⟨p,q⟩
     ·rw [p,q,qj rfl]
      by_cases hA:A=0
      ·by_cases hB:B=0
       ·rw [decide_eq_true hA,decide_eq_true hB,Bool.not_true,cond_false,cond_false,qd (by omega),Int.toNat_natCast,qd hsl,hw]
        rcases hst with ⟨e1,e2⟩ | ⟨r',s',e1,e2,e3,e4⟩
        ·rw [g]at e2;cases e2
        ·rw [g]at e2;cases e2
         rw [ih _ _ (e3.trans hs) e4,e1];rfl
       ·rw [decide_eq_true hA,decide_eq_false hB];rfl
      ·rw [decide_eq_false hA];rfl
     ·rw [p,q,qh (by decide),qj rfl]
      by_cases h0:(i:Int)=0
      ·rw [qj h0]
       rcases hst with ⟨e1,e2⟩ | ⟨r',s',e1,e2,e3,e4⟩
       ·rw [e1];cases decide (B=0)<;>rfl
       ·rw [g,decide_eq_true h0]at e2;cases e2
      ·have hw1:IntKind.i64.wrap ((i:Int) - 1)=((i - 1:Nat):Int):=by rw [qax (by omega) (by omega)];omega
       have e9:((i - 1:Nat):Int)=(i:Int) - 1:=by omega
       rw [qh h0,hw1]
       by_cases hA:A=(i:Int) - 1
       ·rw [qL,qj (show A=((i - 1:Nat):Int) by omega)]
        by_cases hB:B=0
        ·rw [decide_eq_true hB,Bool.not_true,cond_false,qd (by omega),Int.toNat_natCast,qd (by omega),qd (by omega),Int.toNat_natCast,qd hsl,hw]
         rcases hst with ⟨e1,e2⟩ | ⟨r',s',e1,e2,e3,e4⟩
         ·rw [g,decide_eq_false h0,decide_eq_true hA]at e2;cases e2
         ·rw [g,decide_eq_false h0,decide_eq_true hA]at e2;cases e2
          have:=ih _ _ (e3.trans hs) e4
          rw [e1]
          exact this
        ·rw [decide_eq_false hB];rfl
       ·rw [qL,qh (show ¬A=((i - 1:Nat):Int) by omega)]
        rcases hst with ⟨e1,e2⟩ | ⟨r',s',e1,e2,e3,e4⟩
        ·rw [e1];cases decide (B=0)<;>rfl
        ·rw [g,decide_eq_false h0,decide_eq_false hA]at e2;cases e2
     ·rw [p,q,qh (by decide),qh (by decide),qj rfl,cond_true]
      have ed: ∀j,List.getD s j (qb (.int .i64))=List.getD s j 0:=fun _=>rfl
      by_cases h0:(i:Int)=0
      ·rw [qj h0]
       rcases hst with ⟨e1,e2⟩ | ⟨r',s',e1,e2,e3,e4⟩
       ·rw [e1]
       ·rw [g,decide_eq_true h0]at e2;cases e2
      ·have hw1:IntKind.i64.wrap ((i:Int) - 1)=((i - 1:Nat):Int):=by rw [qax (by omega) (by omega)];omega
       have e9:((i - 1:Nat):Int)=(i:Int) - 1:=by omega
       have hbd:0≤s.getD (i - 1) 0∧s.getD (i - 1) 0≤(i:Int) - 1:=by
          cases r with
          | nil=>exact absurd hc h0
          | cons t q=>
            obtain ⟨c1,c2,c3,c4,_⟩:=hc
            have et:t.toNat=i - 1:=by omega
            rw [et]at c3 c4
            exact ⟨c3,by omega⟩
       rw [qh h0,hw1]
       by_cases hB:B=(i:Int) - 1
       ·rw [qL,qj (show B=((i - 1:Nat):Int) by omega),qd (by omega),Int.toNat_natCast,qd (by omega),ed]
        by_cases hz:s.getD (i - 1) 0=0
        ·rw [qj hz]
         rcases hst with ⟨e1,e2⟩ | ⟨r',s',e1,e2,e3,e4⟩
         ·rw [e1]
         ·rw [g,decide_eq_false h0,decide_eq_true hB,decide_eq_true hz]at e2;cases e2
        ·rw [qh hz,qd (by omega),qd (by omega),qax (n:=s.getD (i - 1) 0 - 1) (by omega) (by omega)]
         by_cases hA:A=s.getD (i - 1) 0 - 1
         ·have hA1:0≤A∧A<(s.length:Int):=⟨by omega,by omega⟩
          have hA2:A.toNat<s.length:=by have:=hA1.1;have:=hA1.2;clear hA hbd hz hB e9 hw1 hst;omega
          rw [qL,qj hA,qd hA1,qd hA2,qd (by omega),Int.toNat_natCast,qd hsl,hw,ed]
          rcases hst with ⟨e1,e2⟩ | ⟨r',s',e1,e2,e3,e4⟩
          ·rw [g,decide_eq_false h0,decide_eq_true hB,decide_eq_false hz,decide_eq_true hA]at e2;cases e2
          ·rw [g,decide_eq_false h0,decide_eq_true hB,decide_eq_false hz,decide_eq_true hA]at e2;cases e2
           have:=ih _ _ (e3.trans hs) e4
           rw [e1]
           exact this
         ·rw [qL,qh hA]
          rcases hst with ⟨e1,e2⟩ | ⟨r',s',e1,e2,e3,e4⟩
          ·rw [e1]
          ·rw [g,decide_eq_false h0,decide_eq_true hB,decide_eq_false hz,decide_eq_false hA]at e2;cases e2
       ·rw [qL,qh (show ¬B=((i - 1:Nat):Int) by omega)]
        rcases hst with ⟨e1,e2⟩ | ⟨r',s',e1,e2,e3,e4⟩
        ·rw [e1]
        ·rw [g,decide_eq_false h0,decide_eq_false hB]at e2;cases e2
     ·rw [p,q];rfl
theorem e82 (db:List (Val qe)) (f:List (Val qa)) (h:qcK db f): ∃N,m82 N db f=some (qb4 db f,()):=⟨f.length+1,by
 obtain ⟨hd,hf⟩:=h
 rw [m82,qb4]
 cases qez db with
 | false=>rfl
 | true=>
   rw [Bool.not_true,cond_false,Bool.true_and]
   by_cases h1:(f.length:Int)<1
   ·rw [qj h1,inR,decide_eq_false (show ¬(1≤(f.length:Int)∧(f.length:Int)≤12) by omega)];rfl
   ·by_cases h2:(12:Int)<f.length
    ·rw [qh h1,qj h2,inR,decide_eq_false (show ¬(1≤(f.length:Int)∧(f.length:Int)≤12) by omega)];rfl
    ·rw [qh h1,qh h2,inR,decide_eq_true (show 1≤(f.length:Int)∧(f.length:Int)≤12 by omega),Bool.true_and,qd (by omega)]
     have hw:IntKind.i64.wrap ((f.length:Int) - 1)=((f.length - 1:Nat):Int):=by rw [qax (by omega) (by omega)];omega
     refine (t82 _ db f hd.1 hf (by omega) (by omega) _ (fun s hs=> ?_) f.length 0 _ [] (by omega) (by simp) rfl _ (Nat.lt_succ_self _)).trans ?_
     ·rw [hw,qd (by omega),Int.toNat_natCast,qd (by omega)];rfl
     ·rw [List.drop_zero]⟩
theorem s82:Sound Try.prog 82 g82:=qz (tt:=tt) (Γ:=Γ82) hT (ql qX7 (ql qMu (ql qKn qp))) hm (fn:=Try.f82) Try.func82 (c:=Try.f82.body.getD .skip) (by kernel_rfl) (by kernel_rfl) fun x hx=>by
 obtain ⟨N,h⟩:=e82 x.1 x.2.1 hx
 exact ⟨T82 N,p82,qx _,qRm N,(qLj N x.1 x.2.1).trans h⟩
end Go.T
