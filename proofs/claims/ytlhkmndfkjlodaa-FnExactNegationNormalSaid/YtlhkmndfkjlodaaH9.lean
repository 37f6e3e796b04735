/- Formulas: the reference's IsFormula. -/
import Derived.Test.YtlhkmndfkjlodaaH7
import Derived.Test.YtlhkmndfkjlodaaH10
import Derived.Test.YtlhkmndfkjlodaaH8
set_option linter.unusedSimpArgs false
set_option linter.unusedVariables false
namespace Go.T
open Go Go.Proofs
set_option maxHeartbeats 4000000
set_option maxRecDepth 100000
theorem t79 (N:Nat) (db:List (Val qe)) (f:List (Val qa)) (hd:db.length≤1048576) (hf:Bd (.slice 120 qa) f) (hl:f.length≤12):
 ∀(k i:Nat) (r:List Int),i+k=f.length→r.length≤i→ ∀n,k<n→qb6 N db f (fun (s:List (Val (.int .i64)))=>some ((decide ((s.length:Int)=(1:Int))),())) n (i:Int) r.reverse=some (goF db (f.drop i) i r,())
 | 0,i,r,hi,hr,n+1,_=>by
   have e:f.drop i=[]:=List.drop_eq_nil_of_le (by omega)
   rw [qb6,qh (by omega),e,goF,List.length_reverse]
 | k+1,i,r,hi,hr,n+1,hn=>by
   have hi':i<f.length:=by omega
   have hb:qsj db f[i]:=⟨hd,hf.2 _ (List.getElem_mem hi')⟩
   have hw:IntKind.i64.wrap ((i:Int)+1)=((i+1:Nat):Int):=qhW hi' (by omega)
   have ih:=fun r' h2=>t79 N db f hd hf hl k (i+1) r' (by omega) h2 n (by omega)
   rw [qb6,qj (by omega),qd (by omega),qE hi',qiU hi',goF,qd hb]
   cases qdy db f[i]with
   | false=>rfl
   | true=>
     generalize hx:f[i]=x
     obtain ⟨K,a,nm,lb,vs,vr,A,B⟩:=x
     change Int at K
     change Int at A
     change Int at B
     dsimp only
     rw [Bool.not_true,cond_false,cond_true,qd (by omega)]
     by_cases h3:K=3
     ·rw [qj h3]
      unfold stF
      rw [decide_eq_true h3,Bool.true_or,cond_true]
      cases r with
       | nil=>rfl
       | cons b r=>
         cases r with
         | nil=>rfl
         | cons a q=>
           have hql:q.length+2≤i:=hr
           have hrev:(b::a::q).reverse=q.reverse++[a,b]:=by simp
           have hL:(q.reverse++[a,b]).length=q.length+2:=by simp
           have g1:(q.reverse++[a,b]).getD (q.length+1) (qb (.int .i64))=b:=by simp [List.getD]
           have g2:(q.reverse++[a,b]).getD q.length (qb (.int .i64))=a:=by simp [List.getD]
           have g3:(q.reverse++[a,b]).take q.length=q.reverse:=List.take_left' (by simp)
           rw [hrev]
           generalize q.reverse++[a,b]=v at hL g1 g2 g3
           have hw1:IntKind.i64.wrap ((v.length:Int) - 1)=((q.length+1:Nat):Int):=by rw [qax (by omega) (by omega)];omega
           have hw2:IntKind.i64.wrap ((v.length:Int) - 2)=((q.length:Nat):Int):=by rw [qax (by omega) (by omega)];omega
           rw [qh (by omega),qh (by decide),qj rfl,hw1,hw2,qd (by omega),Int.toNat_natCast,qd (by omega),qd (by omega),g1]
           dsimp only
           by_cases hB:b=B
           ·rw [qL,qj hB,decide_eq_true hB,Bool.true_and,qd (by omega),Int.toNat_natCast,qd (by omega),qd (by omega),g2]
            by_cases hA:a=A
            ·rw [qL,qj hA,qj hA,qd (by omega),Int.toNat_zero,List.drop_zero,g3,List.nil_append,qd (by simp;omega),qd (by simp;omega),hw]
             have:=ih ((i:Int)::q) (by simp;omega)
             rw [List.reverse_cons]at this
             exact this
            ·rw [qL,qh hA,qh hA]
           ·rw [qL,qh hB,decide_eq_false hB];rfl
     ·by_cases h4:K=4
      ·rw [qh h3,qd (by omega),qj h4]
       unfold stF
       rw [decide_eq_true h4,Bool.or_true,cond_true]
       cases r with
            | nil=>rfl
            | cons b r=>
              cases r with
              | nil=>rfl
              | cons a q=>
                have hql:q.length+2≤i:=hr
                have hrev:(b::a::q).reverse=q.reverse++[a,b]:=by simp
                have hL:(q.reverse++[a,b]).length=q.length+2:=by simp
                have g1:(q.reverse++[a,b]).getD (q.length+1) (qb (.int .i64))=b:=by simp [List.getD]
                have g2:(q.reverse++[a,b]).getD q.length (qb (.int .i64))=a:=by simp [List.getD]
                have g3:(q.reverse++[a,b]).take q.length=q.reverse:=List.take_left' (by simp)
                rw [hrev]
                generalize q.reverse++[a,b]=v at hL g1 g2 g3
                have hw1:IntKind.i64.wrap ((v.length:Int) - 1)=((q.length+1:Nat):Int):=by rw [qax (by omega) (by omega)];omega
                have hw2:IntKind.i64.wrap ((v.length:Int) - 2)=((q.length:Nat):Int):=by rw [qax (by omega) (by omega)];omega
                rw [qh (by omega),qh (by decide),qj rfl,hw1,hw2,qd (by omega),Int.toNat_natCast,qd (by omega),qd (by omega),g1]
                dsimp only
                by_cases hB:b=B
                ·rw [qL,qj hB,decide_eq_true hB,Bool.true_and,qd (by omega),Int.toNat_natCast,qd (by omega),qd (by omega),g2]
                 by_cases hA:a=A
                 ·rw [qL,qj hA,qj hA,qd (by omega),Int.toNat_zero,List.drop_zero,g3,List.nil_append,qd (by simp;omega),qd (by simp;omega),hw]
                  have:=ih ((i:Int)::q) (by simp;omega)
                  rw [List.reverse_cons]at this
                  exact this
                 ·rw [qL,qh hA,qh hA]
                ·rw [qL,qh hB,decide_eq_false hB];rfl
      ·rw [qh h3,qd (by omega),qh h4,qd (by omega)]
       unfold stF
       rw [decide_eq_false h3,decide_eq_false h4,Bool.false_or,cond_false]
       by_cases h1:1<K
       ·rw [qj h1,decide_eq_true h1,cond_true]
        cases r with
        | nil=>rfl
        | cons b q=>
          have hql:q.length+1≤i:=hr
          have hrev:(b::q).reverse=q.reverse++[b]:=by simp
          have hL:(q.reverse++[b]).length=q.length+1:=by simp
          have g1:(q.reverse++[b]).getD q.length (qb (.int .i64))=b:=by simp [List.getD]
          have g3:(q.reverse++[b]).take q.length=q.reverse:=List.take_left' (by simp)
          rw [hrev]
          generalize q.reverse++[b]=v at hL g1 g3
          have hw1:IntKind.i64.wrap ((v.length:Int) - 1)=((q.length:Nat):Int):=by rw [qax (by omega) (by omega)];omega
          rw [qh (by omega),qj rfl,hw1,qd (by omega),Int.toNat_natCast,qd (by omega),qd (by omega),g1]
          dsimp only
          by_cases hA:b=A
          ·rw [qL,qj hA,qj hA,qh (by decide),qd (by omega),Int.toNat_zero,List.drop_zero,g3,List.nil_append,qd (by simp;omega),qd (by simp;omega),hw]
           have:=ih ((i:Int)::q) (by simp;omega)
           rw [List.reverse_cons]at this
           exact this
          ·rw [qL,qh hA,qh hA]
       ·rw [qh h1,decide_eq_false h1,cond_false]
        have hL:r.reverse.length=r.length:=List.length_reverse
        have hw0:IntKind.i64.wrap ((r.reverse.length:Int) - 0)=((r.length:Nat):Int):=by rw [qax (by omega) (by omega)];omega
        have g3:r.reverse.take r.length=r.reverse:=List.take_of_length_le (by simp)
        rw [qh (by omega),qh (by decide),qh (by decide),hw0,qd (by omega),Int.toNat_natCast,Int.toNat_zero,List.drop_zero,g3,List.nil_append,qd (by simp;omega),qd (by simp;omega),hw]
        have:=ih ((i:Int)::r) (by simp;omega)
        rw [List.reverse_cons]at this
        exact this
theorem e79 (db:List (Val qe)) (f:List (Val qa)) (h:qcK db f): ∃N,m79 N db f=some (qb4 db f,()):=⟨f.length+1,by
 obtain ⟨hd,hf⟩:=h
 rw [m79,qb4,qd (show qrX db from hd)]
 cases qez db with
 | false=>rfl
 | true=>
   rw [Bool.not_true,cond_false,Bool.true_and]
   by_cases h1:1≤(f.length:Int)∧(f.length:Int)≤12
   ·have e:inR (f.length:Int) 1 12=true:=decide_eq_true h1
    rw [e,Bool.not_true,cond_false,Bool.true_and]
    refine (t79 _ db f hd.1 hf (by omega) f.length 0 [] (by omega) (by simp) _ (Nat.lt_succ_self _)).trans ?_
    rw [List.drop_zero]
   ·have e:inR (f.length:Int) 1 12=false:=decide_eq_false h1
    rw [e];rfl⟩
theorem s79:Sound Try.prog 79 g79:=qz (tt:=tt) (Γ:=Γ79) hT (ql s47 (ql qXq (ql qVR qp))) hm (fn:=Try.f79) Try.func79 (c:=Try.f79.body.getD .skip) (by kernel_rfl) (by kernel_rfl) fun x hx=>by
 obtain ⟨N,h⟩:=e79 x.1 x.2.1 hx
 exact ⟨T79 N,p79,qx _,qUW N,(qNd N x.1 x.2.1).trans h⟩
end Go.T
