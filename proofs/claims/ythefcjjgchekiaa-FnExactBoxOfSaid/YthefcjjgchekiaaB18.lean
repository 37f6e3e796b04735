/- Bounds of a variable in a cell: what the functions compute. -/
import Derived.Test.YthefcjjgchekiaaB16
set_option linter.unusedSimpArgs false
set_option linter.unusedVariables false
namespace Go.T
open Go Go.Proofs
set_option maxHeartbeats 4000000
set_option maxRecDepth 100000
theorem qHa {y:Val Y32} (h:qwW y):qec y=List.any (α:=Val Y36) y.2 qaK:=by
 rcases h with h | h
 ·rw [qLR h,h]
  show true=List.any (α:=Val Y36) [(List.replicate (y.1:Int).toNat (0:Int),(1:Int),false)] qaK
  rw [List.any_cons]
  unfold qaK
  rw [qDc]
  rfl
 ·rw [qG5 h]
  symm
  rw [List.any_eq_false]
  intro a ha
  unfold qaK
  rw [h a ha]
  simp
abbrev qEL:Option (qb [i66,i4]):=some ((false,((0:Int),(0:Int)),false,false,((0:Int),(0:Int)),false,false),false,())
theorem t41 (N:Nat) (d v:Int) (hd:0≤d∧d≤4) (K:Int→List (Val Y36)→Option (qb [i66,i4])): ∀(k:Nat) (x:Val Y32),okN d x→(k:Int)≤d→ ∀n,k<n→
 qeU N v false 0 0 false false 0 0 false false K n ((k:Int) - 1) x.1 x.2=match qcL v k x with
  | some y=>K y.1 y.2
  | none=>qEL
 | 0,x,_,_,n+1,_=>by
   rw [qeU,qi (by omega)]
   rfl
 | k+1,x,hx,hk,n+1,hn=>by
   have e:((k+1:Nat):Int) - 1=(k:Int):=by omega
   have e2:IntKind.i64.wrap ((k:Int) - 1)=(k:Int) - 1:=qb5 (by omega) (by omega)
   rw [e,qeU,qh (by omega),e2,qcL]
   by_cases h:(k:Int)=v
   ·rw [qh h,if_pos h]
    exact t41 N d v hd K k x hx (by omega) n (by omega)
   ·rw [qi h,if_neg h]
    obtain ⟨h1,h2,h3⟩:=hx
    have ex:(((x.1:Int),(x.2:List (Val Y36))):Val Y32)=x:=rfl
    have hr:0≤(k:Int)∧(k:Int)<(x.1:Int):=⟨by omega,by rw [h3];omega⟩
    have ed:qdg x k=qaS x k:=by unfold qdg;rw [h1,decide_eq_true hr];rfl
    rw [ex,ed]
    cases hm:(qaS x k).2 with
    | false=>rfl
    | true=>
      have hN:=qAq h1 hm
      rw [h3]at hN
      exact t41 N d v hd K k (qaS x k).1 hN (by omega) n (by omega)
theorem t39 (N:Nat) (d v:Int) (hd:0≤d∧d≤4) (K:Int→List (Val Y36)→Option (qb [i66,i4])): ∀(k:Nat) (x:Val Y32),okN d x→(k:Int)≤d→ ∀n,k<n→
 qeJ N v false 0 0 false false 0 0 false false K n ((k:Int) - 1) x.1 x.2=match qcL v k x with
  | some y=>K y.1 y.2
  | none=>qEL
 | 0,x,_,_,n+1,_=>by
   rw [qeJ,qi (by omega)]
   rfl
 | k+1,x,hx,hk,n+1,hn=>by
   have e:((k+1:Nat):Int) - 1=(k:Int):=by omega
   have e2:IntKind.i64.wrap ((k:Int) - 1)=(k:Int) - 1:=qb5 (by omega) (by omega)
   rw [e,qeJ,qh (by omega),e2,qcL]
   by_cases h:(k:Int)=v
   ·rw [qh h,if_pos h]
    exact t39 N d v hd K k x hx (by omega) n (by omega)
   ·rw [qi h,if_neg h]
    obtain ⟨h1,h2,h3⟩:=hx
    have ex:(((x.1:Int),(x.2:List (Val Y36))):Val Y32)=x:=rfl
    have hr:0≤(k:Int)∧(k:Int)<(x.1:Int):=⟨by omega,by rw [h3];omega⟩
    rw [ex,qc (show qn1 x k from ⟨h1,hr⟩)]
    cases hm:(qaS x k).2 with
    | false=>rfl
    | true=>
      have hN:=qAq h1 hm
      rw [h3]at hN
      exact t39 N d v hd K k (qaS x k).1 hN (by omega) n (by omega)
theorem e39 (c:Val Y32) (v:Int) (h:qnt c v): ∃N,m39 N c v=some ((qC c v).1,(qC c v).2,()):=⟨6,by
 rw [m39,qc (show qda c from h)]
 unfold qC
 cases hc:qac c with
 | false=>rfl
 | true=>
 obtain ⟨hd,hl,hok⟩:=qcI hc
 obtain ⟨hL,hN⟩:=qCM hc
 have e1:IntKind.i64.wrap ((c.1:Int) - 1)=(c.1:Int) - 1:=qb5 (Int.le_sub_right_of_add_le (Int.le_trans (by decide) hd.1)) (Int.le_trans (Int.sub_le_self _ (by decide)) (Int.le_trans hd.2 (by decide)))
 rw [e1]
 by_cases hv:0≤v∧v<(c.1:Int)
 ·rw [qes (show 0≤v∧v≤(c.1:Int) - 1 from ⟨hv.1,Int.le_sub_one_of_lt hv.2⟩),decide_eq_true hv]
  simp only [Bool.not_true,cond_false,Bool.and_self,cond_true]
  rw [qc (show qco c.1 c.2 from hL)]
  have ed:(((c.1:Int).toNat:Nat):Int)=(c.1:Int):=Int.toNat_of_nonneg hd.1
  have hk:(c.1:Int).toNat<6:=by have:=hd.2;have:(((c.1:Int).toNat:Nat):Int)≤4:=by rw [ed];exact this
                                omega
  have t:=t39 6 c.1 v hd (fun v17 v18=>chk (qhl (v17,v18) v) (some (qaE (v17,v18) v,true,()))) (c.1:Int).toNat (qX c.1 c.2) hN (by rw [ed];exact Int.le_refl _) 6 hk
  rw [ed]at t
  refine (show _=_ from t).trans ?_
  cases hm:qcL v (c.1:Int).toNat (qX c.1 c.2)with
  | none=>rfl
  | some y=>
    have hy:=qob _ hN hm
    exact qc (show qhl y v from ⟨hy.1,hv.1,by rw [hy.2.2];exact hv.2⟩)
 ·rw [qfN (show ¬(0≤v∧v≤(c.1:Int) - 1) from fun h=>hv ⟨h.1,Int.lt_of_le_sub_one h.2⟩),decide_eq_false hv]
  rfl⟩
theorem s39:Sound Try.prog 39 g39:=qw (tt:=tt) (Γ:=Γ39) hT (qf s38 (qf s44 (qf s49 (qf s50 (qf s51 qq))))) hm (fn:=Try.f39) Try.func39 (c:=Try.f39.body.getD .skip) (by kernel_rfl) (by kernel_rfl) fun x hx=>by
 obtain ⟨N,h⟩:=e39 x.1 x.2.1 hx
 exact ⟨T39 N,p39,qx _,qGl N,(qK3 N x.1 x.2.1).trans h⟩
theorem e41 (c:Val Y32) (v:Int): ∃N,m41 N c v=some ((qC c v).1,(qC c v).2,()):=⟨6,by
 rw [m41]
 unfold qC
 cases hc:qac c with
 | false=>rfl
 | true=>
 obtain ⟨hd,hl,hok⟩:=qcI hc
 obtain ⟨hL,hN⟩:=qCM hc
 have e1:IntKind.i64.wrap ((c.1:Int) - 1)=(c.1:Int) - 1:=qb5 (Int.le_sub_right_of_add_le (Int.le_trans (by decide) hd.1)) (Int.le_trans (Int.sub_le_self _ (by decide)) (Int.le_trans hd.2 (by decide)))
 simp only [Bool.not_true,cond_false,Bool.true_and]
 by_cases h1:v<0
 ·rw [qh h1,decide_eq_false (fun h=>absurd h.1 (Int.not_le.2 h1))];rfl
 rw [qi h1]
 by_cases h2:(c.1:Int)≤v
 ·rw [qh h2,decide_eq_false (fun h=>absurd h.2 (Int.not_lt.2 h2))];rfl
 have hv:0≤v∧v<(c.1:Int):=⟨Int.not_lt.1 h1,Int.not_le.1 h2⟩
 rw [qi h2,decide_eq_true hv,e1,qc (show qco c.1 c.2 from hL)]
 simp only [cond_true]
 have ed:(((c.1:Int).toNat:Nat):Int)=(c.1:Int):=Int.toNat_of_nonneg hd.1
 have hk:(c.1:Int).toNat<6:=by
  have:=hd.2
  have:(((c.1:Int).toNat:Nat):Int)≤4:=by rw [ed];exact this
  omega
 have t:=fun K=>t41 6 c.1 v hd K (c.1:Int).toNat (qX c.1 c.2) hN (by rw [ed];exact Int.le_refl _) 6 hk
 simp only [ed]at t
 refine (t _).trans ?_
 cases hm:qcL v (c.1:Int).toNat (qX c.1 c.2)with
 | none=>rfl
 | some y=>
   have hy:=qob _ hN hm
   have hvy:v<(y.1:Int):=by rw [hy.2.2];exact hv.2
   dsimp only
   have ey:(((y.1:Int),(y.2:List (Val Y36))):Val Y32)=y:=rfl
   rw [ey,qc (show qjr y from hy.1),qc (show qmH y v from ⟨hy.1,hv.1,hvy⟩),qHa hy.2.1]
   unfold qaE
   cases List.any (α:=Val Y36) y.2 qaK with
   | true=>rfl
   | false=>
     obtain ⟨_,_,hoky⟩:=qcI hy.1
     have hb:qc6 (qg y v):=qq2 qpW fun a ha=>(hoky a ha).1
     generalize qg y v=b at hb
     obtain ⟨hl,l,lo,hh,g,ho,em⟩:=b
     have el:(((l.1:Int),(l.2:Int)):Val Y64)=l:=rfl
     have eg:(((g.1:Int),(g.2:Int)):Val Y64)=g:=rfl
     unfold qs0
     dsimp only
     rw [el,eg]
     cases hl with
     | false=>rfl
     | true=>
       cases hh with
       | false=>rfl
       | true=>
         have rl:qN l=true:=hb.1.2 rfl
         have rg:qN g=true:=hb.2.2 rfl
         rw [qEj rl rg]
         by_cases he:l=g
         ·subst he
          rw [qh ((qih rl rl).2 rfl)]
          cases qad l l<;>cases lo<;>cases ho<;>simp [qlg]
         ·rw [qi (fun h=>he ((qih rl rg).1 h)),decide_eq_false (fun h=>he h.symm)]
          cases qad g l<;>rfl⟩
theorem s41:Sound Try.prog 41 g41:=qw (tt:=tt) (Γ:=Γ41) hT (qf s40 (qf s52 (qf s53 (qf s54 (qf s55 (qf s56 qq)))))) hm (fn:=Try.f41) Try.func41 (c:=Try.f41.body.getD .skip) (by kernel_rfl) (by kernel_rfl) fun x hx=>by
 obtain ⟨N,h⟩:=e41 x.1 x.2.1
 exact ⟨T41 N,p41,qx _,qML N,(qLO N x.1 x.2.1).trans h⟩
end Go.T
