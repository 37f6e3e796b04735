/- Formulas: the stack of roots and the array of starts. -/
import Derived.Test.YtlhkmndfkjlodaaA1
set_option linter.unusedSimpArgs false
set_option linter.unusedVariables false
namespace Go.T
open Go Go.Proofs
set_option maxHeartbeats 4000000
def Ch (s:List Int):Int→List Int→Prop
 | i,[]=>i=0
 | i,t::q=>t=i - 1∧1≤i∧0≤s.getD t.toNat 0∧s.getD t.toNat 0≤t∧Ch s (s.getD t.toNat 0) q
theorem qKC {s:List Int} {v:Int} {n:Nat}: ∀{r:List Int} {j:Int},Ch s j r→j≤n→Ch (s.set n v) j r
 | [],j,h,_=>h
 | t::q,j,h,hj=>by
   obtain ⟨h1,h2,h3,h4,h5⟩:=h
   have e:(s.set n v).getD t.toNat 0=s.getD t.toNat 0:=by
    rw [List.getD_eq_getElem?_getD,List.getD_eq_getElem?_getD,List.getElem?_set_ne (by omega)]
   refine ⟨h1,h2,?_⟩
   rw [e]
   exact ⟨h3,h4,qKC h5 (by omega)⟩
def stF (i K A B:Int) (r:List Int):Option (List Int):=
 bif decide (K=3)||decide (K=4)then (match r with
    | b::a::q=>bif decide (b=B)&&decide (a=A)then some (i::q)else none
    | _=>none)
 else bif decide (1<K)then (match r with
    | a::q=>bif decide (a=A)then some (i::q)else none
    | []=>none)
 else some (i::r)
theorem qOe {s:List Int} {n:Nat} {v:Int} (h:n<s.length):(s.set n v).getD n 0=v:=by
 simp [List.getD,h]
theorem qx6 {s:List Int} {r:List Int} {n:Nat} {v:Int} (hn:n<s.length) (h0:0≤v) (hv:v≤n) (h:Ch s v r):Ch (s.set n v) ((n:Int)+1) ((n:Int)::r):=by
 refine ⟨by omega,by omega,?_⟩
 rw [Int.toNat_natCast,qOe hn]
 exact ⟨h0,hv,qKC h hv⟩
def stG (n:Nat) (K A B:Int) (s:List Int):Option (List Int):=
 bif decide (K=3)||decide (K=4)then
    (bif decide ((n:Int)=0)|| !decide (B=n - 1)||decide (s.getD (n - 1) 0=0)|| !decide (A=s.getD (n - 1) 0 - 1)then none else some (s.set n (s.getD A.toNat 0)))
 else bif decide (1<K)then
    (bif decide ((n:Int)=0)|| !decide (A=n - 1)then none else some (s.set n (s.getD (n - 1) 0)))
 else some (s.set n n)
theorem qMo {n:Nat} {K A B:Int} {s r:List Int} (hn:n<s.length) (h:Ch s n r):
 (stF n K A B r=none∧stG n K A B s=none)∨(∃r' s',stF n K A B r=some r'∧stG n K A B s=some s'∧s'.length=s.length∧Ch s' ((n:Int)+1) r'):=by
 unfold stF stG
 cases decide (K=3)||decide (K=4)with
 | true=>
   rw [cond_true,cond_true]
   cases r with
   | nil=>
     have h:(n:Int)=0:=h
     left
     rw [decide_eq_true h]
     exact ⟨rfl,rfl⟩
   | cons t q=>
     obtain ⟨h1,h2,h3,h4,h5⟩:=h
     have e0: ¬(n:Int)=0:=by omega
     have et:t.toNat=n - 1:=by omega
     rw [et]at h3 h4 h5
     rw [decide_eq_false e0,Bool.false_or]
     cases q with
     | nil=>
       have h5:s.getD (n - 1) 0=0:=h5
       left
       refine ⟨rfl,?_⟩
       rw [decide_eq_true h5,Bool.or_true,Bool.true_or];rfl
     | cons a q=>
       obtain ⟨g1,g2,g3,g4,g5⟩:=h5
       have e1: ¬s.getD (n - 1) 0=0:=by omega
       rw [decide_eq_false e1,Bool.or_false]
       by_cases hB:t=B
       ·by_cases hA:a=A
        ·right
         have e2:B=n - 1:=by omega
         have e3:A=s.getD (n - 1) 0 - 1:=by omega
         refine ⟨(n:Int)::q,s.set n (s.getD A.toNat 0),?_,?_,List.length_set,?_⟩
         ·show (bif decide (t=B)&&decide (a=A)then _ else _)=_
          rw [decide_eq_true hB,decide_eq_true hA];rfl
         ·rw [decide_eq_true e2,decide_eq_true e3];rfl
         ·rw [←hA]
          exact qx6 hn g3 (by omega) g5
        ·left
         have e3: ¬A=s.getD (n - 1) 0 - 1:=by omega
         refine ⟨?_,?_⟩
         ·show (bif decide (t=B)&&decide (a=A)then _ else _)=_
          rw [decide_eq_false hA,Bool.and_false];rfl
         ·rw [decide_eq_false e3,Bool.not_false,Bool.or_true];rfl
       ·left
        have e2: ¬B=n - 1:=by omega
        refine ⟨?_,?_⟩
        ·show (bif decide (t=B)&&decide (a=A)then _ else _)=_
         rw [decide_eq_false hB];rfl
        ·rw [decide_eq_false e2];rfl
 | false=>
   rw [cond_false,cond_false]
   by_cases hK:1<K
   ·rw [decide_eq_true hK,cond_true,cond_true]
    cases r with
    | nil=>
      have h:(n:Int)=0:=h
      left
      rw [decide_eq_true h]
      exact ⟨rfl,rfl⟩
    | cons t q=>
      obtain ⟨h1,h2,h3,h4,h5⟩:=h
      have e0: ¬(n:Int)=0:=by omega
      have et:t.toNat=n - 1:=by omega
      rw [et]at h3 h4 h5
      rw [decide_eq_false e0,Bool.false_or]
      by_cases hA:t=A
      ·right
       have e2:A=n - 1:=by omega
       refine ⟨(n:Int)::q,s.set n (s.getD (n - 1) 0),?_,?_,List.length_set,qx6 hn h3 (by omega) h5⟩
       ·show (bif decide (t=A)then _ else _)=_
        rw [decide_eq_true hA];rfl
       ·rw [decide_eq_true e2];rfl
      ·left
       have e2: ¬A=n - 1:=by omega
       refine ⟨?_,?_⟩
       ·show (bif decide (t=A)then _ else _)=_
        rw [decide_eq_false hA];rfl
       ·rw [decide_eq_false e2];rfl
   ·right
    rw [decide_eq_false hK,cond_false,cond_false]
    exact ⟨_,_,rfl,rfl,List.length_set,qx6 hn (by omega) (Int.le_refl _) h⟩
theorem qYL {s r:List Int} {n:Nat} (h:Ch s ((n:Int)+1) r):decide (s.getD n 0=0)=decide ((r.length:Int)=1):=by
 cases r with
 | nil=>have h:(n:Int)+1=0:=h;omega
 | cons t q=>
   obtain ⟨h1,h2,h3,h4,h5⟩:=h
   have et:t.toNat=n:=by omega
   rw [et]at h3 h4 h5
   cases q with
   | nil=>have h5:s.getD n 0=0:=h5;rw [decide_eq_true h5,decide_eq_true (by simp)]
   | cons a q=>
     obtain ⟨g1,g2,_⟩:=h5
     rw [decide_eq_false (by omega),decide_eq_false (by simp;omega)]
end Go.T
