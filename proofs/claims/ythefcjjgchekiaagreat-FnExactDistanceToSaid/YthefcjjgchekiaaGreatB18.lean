/- Bounds of a variable in a cell: what the functions compute. -/
import Derived.Test.YthefcjjgchekiaaGreatB16
set_option linter.unusedSimpArgs false
set_option linter.unusedVariables false
namespace Go.T
open Go Go.Proofs
set_option maxHeartbeats 4000000
set_option maxRecDepth 100000
theorem q5o {y:Val Y33} (h:qJ9 y):qcK y=List.any (α:=Val qa) y.2 qaB:=by
 rcases h with h | h
 ·rw [q9Q h,h]
  show true=List.any (α:=Val qa) [(List.replicate (y.1:Int).toNat (0:Int),(1:Int),false)] qaB
  rw [List.any_cons]
  unfold qaB
  rw [qCf]
  rfl
 ·rw [q5j h]
  symm
  rw [List.any_eq_false]
  intro a ha
  unfold qaB
  rw [h a ha]
  simp
abbrev q0a:Option (qc [qD,i4]):=some ((false,((0:Int),(0:Int)),false,false,((0:Int),(0:Int)),false,false),false,())
theorem qWK (N:Nat) (d v:Int) (hd:0≤d∧d≤4) (K:Int→List (Val qa)→Option (qc [qD,i4])): ∀(k:Nat) (x:Val Y33),okN d x→(k:Int)≤d→ ∀n,k<n→
 qja N v false 0 0 false false 0 0 false false K n ((k:Int) - 1) x.1 x.2=match qbp v k x with
  | some y=>K y.1 y.2
  | none=>q0a
 | 0,x,_,_,n+1,_=>by
   rw [qja,qj (by omega)]
   rfl
 | k+1,x,hx,hk,n+1,hn=>by
   have e:((k+1:Nat):Int) - 1=(k:Int):=by omega
   have e2:IntKind.i64.wrap ((k:Int) - 1)=(k:Int) - 1:=qaq (by omega) (by omega)
   rw [e,qja,qk (by omega),e2,qbp]
   by_cases h:(k:Int)=v
   ·rw [qk h,if_pos h]
    exact qWK N d v hd K k x hx (by omega) n (by omega)
   ·rw [qj h,if_neg h]
    obtain ⟨h1,h2,h3⟩:=hx
    have ex:(((x.1:Int),(x.2:List (Val qa))):Val Y33)=x:=rfl
    have hr:0≤(k:Int)∧(k:Int)<(x.1:Int):=⟨by omega,by rw [h3];omega⟩
    have ed:qcp x k=qU x k:=by unfold qcp;rw [h1,decide_eq_true hr];rfl
    rw [ex,ed]
    cases hm:(qU x k).2 with
    | false=>rfl
    | true=>
      have hN:=qmA h1 hm
      rw [h3]at hN
      exact qWK N d v hd K k (qU x k).1 hN (by omega) n (by omega)
theorem qTn (N:Nat) (d v:Int) (hd:0≤d∧d≤4) (K:Int→List (Val qa)→Option (qc [qD,i4])): ∀(k:Nat) (x:Val Y33),okN d x→(k:Int)≤d→ ∀n,k<n→
 qir N v false 0 0 false false 0 0 false false K n ((k:Int) - 1) x.1 x.2=match qbp v k x with
  | some y=>K y.1 y.2
  | none=>q0a
 | 0,x,_,_,n+1,_=>by
   rw [qir,qj (by omega)]
   rfl
 | k+1,x,hx,hk,n+1,hn=>by
   have e:((k+1:Nat):Int) - 1=(k:Int):=by omega
   have e2:IntKind.i64.wrap ((k:Int) - 1)=(k:Int) - 1:=qaq (by omega) (by omega)
   rw [e,qir,qk (by omega),e2,qbp]
   by_cases h:(k:Int)=v
   ·rw [qk h,if_pos h]
    exact qTn N d v hd K k x hx (by omega) n (by omega)
   ·rw [qj h,if_neg h]
    obtain ⟨h1,h2,h3⟩:=hx
    have ex:(((x.1:Int),(x.2:List (Val qa))):Val Y33)=x:=rfl
    have hr:0≤(k:Int)∧(k:Int)<(x.1:Int):=⟨by omega,by rw [h3];omega⟩
    rw [ex,qd (show qnm x k from ⟨h1,hr⟩)]
    cases hm:(qU x k).2 with
    | false=>rfl
    | true=>
      have hN:=qmA h1 hm
      rw [h3]at hN
      exact qTn N d v hd K k (qU x k).1 hN (by omega) n (by omega)
theorem zct (c:Val Y33) (v:Int) (h:qt4 c v): ∃N,qBa N c v=some ((qA c v).1,(qA c v).2,()):=⟨6,by
 rw [qBa,qd (show qci c from h)]
 unfold qA
 cases hc:qH c with
 | false=>rfl
 | true=>
 obtain ⟨hd,hl,hok⟩:=qaJ hc
 obtain ⟨hL,hN⟩:=qil hc
 have e1:IntKind.i64.wrap ((c.1:Int) - 1)=(c.1:Int) - 1:=qaq (Int.le_sub_right_of_add_le (Int.le_trans (by decide) hd.1)) (Int.le_trans (Int.sub_le_self _ (by decide)) (Int.le_trans hd.2 (by decide)))
 rw [e1]
 by_cases hv:0≤v∧v<(c.1:Int)
 ·rw [qhq (show 0≤v∧v≤(c.1:Int) - 1 from ⟨hv.1,Int.le_sub_one_of_lt hv.2⟩),decide_eq_true hv]
  simp only [Bool.not_true,cond_false,Bool.and_self,cond_true]
  rw [qd (show qbR c.1 c.2 from hL)]
  have ed:(((c.1:Int).toNat:Nat):Int)=(c.1:Int):=Int.toNat_of_nonneg hd.1
  have hk:(c.1:Int).toNat<6:=by have:=hd.2;have:(((c.1:Int).toNat:Nat):Int)≤4:=by rw [ed];exact this
                                omega
  have t:=qTn 6 c.1 v hd (fun v17 v18=>chk (qe5 (v17,v18) v) (some (qm (v17,v18) v,true,()))) (c.1:Int).toNat (qO c.1 c.2) hN (by rw [ed];exact Int.le_refl _) 6 hk
  rw [ed]at t
  refine (show _=_ from t).trans ?_
  cases hm:qbp v (c.1:Int).toNat (qO c.1 c.2)with
  | none=>rfl
  | some y=>
    have hy:=qnq _ hN hm
    exact qd (show qe5 y v from ⟨hy.1,hv.1,by rw [hy.2.2];exact hv.2⟩)
 ·rw [qiU (show ¬(0≤v∧v≤(c.1:Int) - 1) from fun h=>hv ⟨h.1,Int.lt_of_le_sub_one h.2⟩),decide_eq_false hv]
  rfl⟩
theorem qYz:Sound Tryz.prog 121 qgR:=qx (tt:=tt) (Γ:=qfP) hT (qg qDI (qg qh1 (qg qOO (qg q2t (qg qYG qu))))) hm (fn:=Tryz.f121) Tryz.func121 (c:=Tryz.f121.body.getD .skip) (by kernel_rfl) (by kernel_rfl) fun x hx=>by
 obtain ⟨N,h⟩:=zct x.1 x.2.1 hx
 exact ⟨qc8 N,zma,qy _,zqD N,(q9i N x.1 x.2.1).trans h⟩
theorem zmW (c:Val Y33) (v:Int): ∃N,qDj N c v=some ((qA c v).1,(qA c v).2,()):=⟨6,by
 rw [qDj]
 unfold qA
 cases hc:qH c with
 | false=>rfl
 | true=>
 obtain ⟨hd,hl,hok⟩:=qaJ hc
 obtain ⟨hL,hN⟩:=qil hc
 have e1:IntKind.i64.wrap ((c.1:Int) - 1)=(c.1:Int) - 1:=qaq (Int.le_sub_right_of_add_le (Int.le_trans (by decide) hd.1)) (Int.le_trans (Int.sub_le_self _ (by decide)) (Int.le_trans hd.2 (by decide)))
 simp only [Bool.not_true,cond_false,Bool.true_and]
 by_cases h1:v<0
 ·rw [qk h1,decide_eq_false (fun h=>absurd h.1 (Int.not_le.2 h1))];rfl
 rw [qj h1]
 by_cases h2:(c.1:Int)≤v
 ·rw [qk h2,decide_eq_false (fun h=>absurd h.2 (Int.not_lt.2 h2))];rfl
 have hv:0≤v∧v<(c.1:Int):=⟨Int.not_lt.1 h1,Int.not_le.1 h2⟩
 rw [qj h2,decide_eq_true hv,e1,qd (show qbR c.1 c.2 from hL)]
 simp only [cond_true]
 have ed:(((c.1:Int).toNat:Nat):Int)=(c.1:Int):=Int.toNat_of_nonneg hd.1
 have hk:(c.1:Int).toNat<6:=by
  have:=hd.2
  have:(((c.1:Int).toNat:Nat):Int)≤4:=by rw [ed];exact this
  omega
 have t:=fun K=>qWK 6 c.1 v hd K (c.1:Int).toNat (qO c.1 c.2) hN (by rw [ed];exact Int.le_refl _) 6 hk
 simp only [ed]at t
 refine (t _).trans ?_
 cases hm:qbp v (c.1:Int).toNat (qO c.1 c.2)with
 | none=>rfl
 | some y=>
   have hy:=qnq _ hN hm
   have hvy:v<(y.1:Int):=by rw [hy.2.2];exact hv.2
   dsimp only
   have ey:(((y.1:Int),(y.2:List (Val qa))):Val Y33)=y:=rfl
   rw [ey,qd (show qqd y from hy.1),qd (show qhf y v from ⟨hy.1,hv.1,hvy⟩),q5o hy.2.1]
   unfold qm
   cases List.any (α:=Val qa) y.2 qaB with
   | true=>rfl
   | false=>
     obtain ⟨_,_,hoky⟩:=qaJ hy.1
     have hb:qbM (qf y v):=qpy qeC fun a ha=>(hoky a ha).1
     generalize qf y v=b at hb
     obtain ⟨hl,l,lo,hh,g,ho,em⟩:=b
     have el:(((l.1:Int),(l.2:Int)):Val Y28)=l:=rfl
     have eg:(((g.1:Int),(g.2:Int)):Val Y28)=g:=rfl
     unfold qqc
     dsimp only
     rw [el,eg]
     cases hl with
     | false=>rfl
     | true=>
       cases hh with
       | false=>rfl
       | true=>
         have rl:qi l=true:=hb.1.2 rfl
         have rg:qi g=true:=hb.2.2 rfl
         rw [q2S rl rg]
         by_cases he:l=g
         ·subst he
          rw [qk ((qjf rl rl).2 rfl)]
          cases qab l l<;>cases lo<;>cases ho<;>simp [qfq]
         ·rw [qj (fun h=>he ((qjf rl rg).1 h)),decide_eq_false (fun h=>he h.symm)]
          cases qab g l<;>rfl⟩
theorem qZs:Sound Tryz.prog 158 qdi:=qx (tt:=tt) (Γ:=qeF) hT (qg qSu (qg qv0 (qg q4s (qg qTI (qg q1M (qg zjT qu)))))) hm (fn:=Tryz.f158) Tryz.func158 (c:=Tryz.f158.body.getD .skip) (by kernel_rfl) (by kernel_rfl) fun x hx=>by
 obtain ⟨N,h⟩:=zmW x.1 x.2.1
 exact ⟨qdm N,zfj,qy _,q7L N,(q9I N x.1 x.2.1).trans h⟩
end Go.T
