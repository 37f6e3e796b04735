/- Certificates: the reference computes the same. -/
import Derived.Test.YtlhkmndfkjlodaaK4
set_option linter.unusedSimpArgs false
set_option linter.unusedVariables false
namespace Go.T
open Go Go.Proofs
set_option maxHeartbeats 4000000
set_option maxRecDepth 100000
theorem e15 (c:Val Y26) (l:List (Val (.int .i64))) (o:Opt) (h:qeT c l o): ∃N,m15 N c l o=some (qdl c l o,()):=⟨List.length (α:=Val Y83) c.2+1,by
 obtain ⟨hc,hl,hb⟩:=h
 obtain ⟨_,_,_,hb4,hb5,hb6⟩:=hb
 rw [m15,qd hc,qdl]
 cases h1:qS c with
 | false=>rfl
 | true=>
   rw [Bool.not_true,cond_false,Bool.true_and,qd (show qoW l c.1 from hl),←qCd h1]
   cases h3:qgG l c.1 with
   | false=>rfl
   | true=>
     have h3:=h3.symm.trans (qCd h1)
     have h3:decide ((c.1:Int)<4)=true∧qbO c l=true:=by rw [←Bool.and_eq_true];exact h3.symm
     have h2: @LT.lt Int _ c.1 4:=of_decide_eq_true h3.1
     have h3:=h3.2
     have hlen:=(qmm h3).1
     rw [Bool.not_true,cond_false,cond_true]
     by_cases k1:(o.1:Int)=1
     ·rw [qi k1,qi k1,qd (show qa9 c o.2.2.2.2.2 from ⟨hc,hb6.1⟩)]
     rw [qj k1,qj k1]
     by_cases k2:(o.1:Int)=2
     ·rw [qi k2,qi k2,qd (show qbH c o.2.2.2.1 from ⟨hc,hb4.1⟩)]
      unfold qa0
      cases hi:(inV c o.2.2.2.1).2 with
      | false=>cases (inV c o.2.2.2.1).1<;>rfl
      | true=>
        cases hj:(inV c o.2.2.2.1).1 with
        | false=>rfl
        | true=>
          rw [Bool.not_true,cond_false,cond_false,qd (show qaL o.2.2.2.2.1 c.1 from hb5.1),qfX,Bool.true_and]
          cases hp:q6 o.2.2.2.2.1 c.1 with
          | false=>rfl
          | true=>
            have hq:=(qkC hp).1
            obtain ⟨hd,hn,ha⟩:=qcd h1
            rw [Bool.not_true,cond_false,Bool.true_and,Bool.true_and]
            refine (q4 (xs:=(c.2:List (Val Y83))) (F:=fun n i (_:Unit)=>qfd _ l _ c.2 _ _ _ _ _ o.2.2.2.2.1 _ _ n i) (step:=fun _ x _ K=>bif qdu (qH x.1 o.2.2.2.2.1)then K ()else some (false,())) (k:=fun _=>some (qj8 (qH l o.2.2.2.2.1),())) (Nat.le_trans hn (by decide)) (fun n i b hi=> ?_) (fun n i b hi=> ?_) _ () (Nat.lt_succ_self _)).trans ((qaZ _ 0).trans ?_)
            ·have hx:=(ha _ (List.getElem_mem hi)).2
             rw [qfd,qi (by omega),qd (by omega),qB hi,qd (show qaw _ o.2.2.2.2.1 from ⟨by omega,by omega⟩)]
             exact qCK (qH _ o.2.2.2.2.1) _ _
            ·rw [qfd,qj (by omega),qd (show qaw l o.2.2.2.2.1 from ⟨by omega,by omega⟩)]
             exact qEs (qH l o.2.2.2.2.1)
            ·cases List.all (α:=Val Y83) c.2 (fun a=>qdu (qH a.1 o.2.2.2.2.1))<;>rfl
     rw [qj k2,qj k2]
     by_cases k0:(o.1:Int)=0
     case neg=>rw [qj k0,qj k0]
     rw [qi k0,qi k0,qd (show qmD l o.2.1 o.2.2.1 from hl)]
     cases hr:qo o.2.1 with
     | false=>cases (qaB l o.2.1 o.2.2.1).2<;>rfl
     | true=>
       have hp:qe4 l o.2.1 o.2.2.1:=⟨by omega,(qmm h3).2,hr⟩
       rw [qPW hp,Bool.true_and]
       cases ha:(qO l o.2.1 o.2.2.1).2 with
       | false=>rfl
       | true=>
         rw [Bool.not_true,cond_false,cond_false,Bool.true_and]
         refine (qd (show qmG c (qO l o.2.1 o.2.2.1).1 from qCe h1 (qEd ha))).trans ?_
         refine (qd (show qa9 (qaK c [(qO l o.2.1 o.2.2.1).1]) o.2.2.2.2.2 from qEb h1 hb6.1)).trans ?_
         change (bif !qal (qaK c [(qO l o.2.1 o.2.2.1).1]) o.2.2.2.2.2 then _ else _)=_
         cases qal (qaK c [(qO l o.2.1 o.2.2.1).1]) o.2.2.2.2.2 with
         | false=>rfl
         | true=>
           rw [Bool.not_true,cond_false,cond_true,qd (show qbH c o.2.2.2.1 from ⟨hc,hb4.1⟩)]
           cases o.2.2.1 with
           | false=>cases decide ((List.length (α:=Val Y35) o.2.2.2.1:Int)=0)<;>rfl
           | true=>
             rw [Bool.not_true,cond_false,cond_true,cond_true]
             cases hi:(inV c o.2.2.2.1).2 with
             | false=>unfold qa0;rw [hi];cases (inV c o.2.2.2.1).1<;>rfl
             | true=>
               have:=qDL hi
               rw [qd (show qaw l o.2.2.2.1 from ⟨by omega,hl⟩),qa0,hi]
               cases (inV c o.2.2.2.1).1<;>rfl⟩
theorem s15:Sound Try.prog 15 g15:=qq (tt:=tt) (Γ:=Γ15) hT (qe s46 (qe s55 (qe s56 (qe s57 (qe s58 (qe s59 (qe s60 (qe s61 (qe s62 qp))))))))) hm (fn:=Try.f15) Try.func15 (c:=Try.f15.body.getD .skip) (by kernel_rfl) (by kernel_rfl) fun x hx=>by
 obtain ⟨N,h⟩:=e15 x.1 x.2.1 x.2.2.1 hx
 exact ⟨T15 N,p15,qm _,qIe N,(qMS N x.1 x.2.1 x.2.2.1).trans h⟩
end Go.T
