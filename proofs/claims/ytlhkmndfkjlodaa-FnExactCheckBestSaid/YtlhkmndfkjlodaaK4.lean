/- Certificates: both sides compute the same. -/
import Derived.Test.YtlhkmndfkjlodaaK3
set_option linter.unusedSimpArgs false
set_option linter.unusedVariables false
namespace Go.T
open Go Go.Proofs
set_option maxHeartbeats 4000000
set_option maxRecDepth 100000
theorem e73 (l:List (Val (.int .i64))) (p:List (Val Y35)) (h:qaw l p): ∃N,m73 N l p=some (qH l p,()):=⟨l.length+1,by
 obtain ⟨h,hl⟩:=h
 rw [m73,qH,←qoM]
 exact qn3 (F:=fun n i (s:Val Y35)=>qd1 (l.length+1) p l (l.length:Int) 0 0 (fun a b=>some ((a,b),())) n i s.1 s.2) (f:=stV) (k:=fun s=>some (s,())) h hl (fun n i s h1 h2=>by
  obtain ⟨s1,s2⟩:=s
  dsimp only
  rw [qd1,qi (by omega),qd (by omega),qd (by omega),qB h1,qB h2,stV]) (fun n i s hi=>by
  rw [qd1,qj (by omega)]) _ (Nat.lt_succ_self _) ((0:Int),(1:Int))⟩
theorem e59 (l:List (Val (.int .i64))) (p:List (Val Y35)) (h:qaw l p): ∃N,m59 N l p=some (qH l p,()):=⟨l.length+1,by
 obtain ⟨h,hl⟩:=h
 rw [m59,qH,←qoM]
 exact qn3 (F:=fun n i (s:Val Y35)=>qdW (l.length+1) l p 0 0 (fun a b=>some ((a,b),())) n i s.1 s.2) (f:=stV) (k:=fun s=>some (s,())) h hl (fun n i s h1 h2=>by
  obtain ⟨s1,s2⟩:=s
  dsimp only
  rw [qdW,qi (by omega),qi (by omega),qd (by omega),qd (by omega),qB h1,qB h2,stV,q7]) (fun n i s hi=>by
  rw [qdW,qj (by omega)]) _ (Nat.lt_succ_self _) ((0:Int),(1:Int))⟩
theorem s73:Sound Try.prog 73 g73:=qq (tt:=tt) (Γ:=Γ73) hT (qe qCP (qe qEq qp)) hm (fn:=Try.f73) Try.func73 (c:=Try.f73.body.getD .skip) (by kernel_rfl) (by kernel_rfl) fun x hx=>by
 obtain ⟨N,h⟩:=e73 x.1 x.2.1 hx
 exact ⟨T73 N,p73,qm _,qGx N,(qG4 N x.1 x.2.1).trans h⟩
theorem s59:Sound Try.prog 59 g59:=qq (tt:=tt) (Γ:=Γ59) hT (qe qDl (qe qEh (qe qCC qp))) hm (fn:=Try.f59) Try.func59 (c:=Try.f59.body.getD .skip) (by kernel_rfl) (by kernel_rfl) fun x hx=>by
 obtain ⟨N,h⟩:=e59 x.1 x.2.1 hx
 exact ⟨T59 N,p59,qm _,qF5 N,(qJF N x.1 x.2.1).trans h⟩
theorem e68 (c:Val Y26) (p:List (Val Y35)) (h:qfv c p): ∃N,m68 N c p=some (qa0 c p,()):=⟨0,by
 rw [m68,qd (show qbH c p from h),qa0]
 cases (inV c p).1<;>rfl⟩
theorem s68:Sound Try.prog 68 g68:=qq (tt:=tt) (Γ:=Γ68) hT (qe s12 qp) hm (fn:=Try.f68) Try.func68 (c:=Try.f68.body.getD .skip) (by kernel_rfl) (by kernel_rfl) fun x hx=>by
 obtain ⟨N,h⟩:=e68 x.1 x.2.1 hx
 exact ⟨T68 N,p68,qm _,qIn N,(qQf N x.1 x.2.1).trans h⟩
theorem qCK {ρ:Type} (s:Val Y35) (x y:ρ):(bif !qo s then x else bif decide ((0:Int)<s.1)then x else y)=bif qdu s then y else x:=by
 unfold qdu
 cases qo s<;>cases decide ((0:Int)<s.1)<;>rfl
theorem qEs (s:Val Y35):(bif qo s then some (decide ((0:Int)<s.1),())else some (false,()):Option (Bool×Unit))=some (qj8 s,()):=by
 unfold qj8
 cases qo s<;>rfl
theorem e69 (c:Val Y26) (l:List (Val (.int .i64))) (p:List (Val Y35)) (h:qnh c l p): ∃N,m69 N c l p=some (qfX c l p,()):=⟨List.length (α:=Val Y83) c.2+1,by
 obtain ⟨h1,h2,h3⟩:=h
 rw [m69,qd (show qaL p _ from h3),qfX]
 cases hp:q6 p c.1 with
 | false=>rfl
 | true=>
   have hq:=(qkC hp).1
   obtain ⟨hd,hl,ha⟩:=qcd h1
   rw [Bool.not_true,cond_false,Bool.true_and]
   refine (q4 (xs:=(c.2:List (Val Y83))) (F:=fun n i (_:Unit)=>qeR _ l p c.2 _ _ n i) (step:=fun _ x _ K=>bif qdu (qH x.1 p)then K ()else some (false,())) (k:=fun _=>some (qj8 (qH l p),())) (Nat.le_trans hl (by decide)) (fun n i b hi=> ?_) (fun n i b hi=> ?_) _ () (Nat.lt_succ_self _)).trans ((qaZ _ 0).trans ?_)
   ·have hx:=(ha _ (List.getElem_mem hi)).2
    rw [qeR,qi (by omega),qd (by omega),qB hi,qd (show qaw _ p from ⟨by omega,by omega⟩)]
    exact qCK (qH _ p) _ _
   ·rw [qeR,qj (by omega),qd (show qaw l p from ⟨by omega,by omega⟩)]
    exact qEs (qH l p)
   ·cases List.all (α:=Val Y83) c.2 (fun a=>qdu (qH a.1 p))<;>rfl⟩
theorem s69:Sound Try.prog 69 g69:=qq (tt:=tt) (Γ:=Γ69) hT (qe s50 (qe s70 (qe s73 qp))) hm (fn:=Try.f69) Try.func69 (c:=Try.f69.body.getD .skip) (by kernel_rfl) (by kernel_rfl) fun x hx=>by
 obtain ⟨N,h⟩:=e69 x.1 x.2.1 x.2.2.1 hx
 exact ⟨T69 N,p69,qm _,qR4 N,(qJf N x.1 x.2.1 x.2.2.1).trans h⟩
theorem qx6 {n d:Int} (hn:qv n=true) (hd:0≤d∧d≤400000000):IntKind.i64.wrap (IntKind.i64.wrap (0 - n)*d)= -n*d∧inI (-n*d):=by
 unfold qv at hn
 simp only [decide_eq_true_eq]at hn
 have h1: -n*d≤400000000*400000000:=by
  rcases Int.le_total 0 n with h | h
  ·have:=Int.mul_nonneg h hd.1;rw [Int.neg_mul];omega
  ·have:=Int.mul_le_mul (show -n≤400000000 by omega) hd.2 hd.1 (by omega);omega
 have h2: -(400000000*400000000)≤ -n*d:=by
  rcases Int.le_total 0 n with h | h
  ·have:=Int.mul_le_mul (show n≤400000000 by omega) hd.2 hd.1 (by omega);rw [Int.neg_mul];omega
  ·have:=Int.mul_nonneg (show 0≤ -n by omega) hd.1;omega
 rw [qbp (n:=0 - n) (by omega) (by omega),Int.zero_sub]
 exact ⟨qbp (by omega) (by omega),by unfold inI;omega⟩
theorem qCn {l:List (Val (.int .i64))} {r:Val Y35} {s:Bool} (h:qe4 l r s):qcS (qaS l r.2) r.1 s:=by
 obtain ⟨h1,h2,h3⟩:=h
 have hr:=qqq h3
 have hq: @LE.le Int _ (-400000000) r.1∧ @LE.le Int _ r.1 400000000:=hr.2
 refine ⟨by simp only [qaS,List.length_map];omega,by unfold inI;omega,fun x hx=> ?_⟩
 obtain ⟨n,hn,rfl⟩:=List.mem_map.1 (show x∈List.map (α:=Int) (fun n=> -n*(r.2:Int)) l from hx)
 exact (qx6 (h2 n hn) hr.1).2
theorem qPW {l:List (Val (.int .i64))} {r:Val Y35} {s:Bool} (h:qe4 l r s):qaB l r s=qO l r s:=by
 have hm:List.map (α:=Int) (fun n=>IntKind.i64.wrap (IntKind.i64.wrap (0 - n)*(r.2:Int))) l=qaS l r.2:=List.map_congr_left fun n hn=>(qx6 (h.2.1 n hn) (qqq h.2.2).1).1
 rw [qaB,qO,hm,qRV (qCn h)]
theorem e71 (l:List (Val (.int .i64))) (r:Val Y35) (s:Bool) (h:qe4 l r s): ∃N,m71 N l r s=some ((qO l r s).1,(qO l r s).2,()):=⟨l.length+1,by
 have hm:=qCn h
 obtain ⟨h1,h2,h3⟩:=h
 have hr:=qqq h3
 rw [m71,qd (qfN (by omega)),qO]
 have:=qkR (xs:=qaS l r.2) (F:=fun n i s'=>qdV (l.length+1) s l (l.length:Int) (r.1:Int) (r.2:Int) 0 false (fun (v13:List (Val (.int .i64)))=>chk (qcS v13 (r.1:Int) s) (some ((qab v13 (r.1:Int) s).1,(qab v13 (r.1:Int) s).2,()))) n i s') (k:=fun (v13:List (Val (.int .i64)))=>chk (qcS v13 (r.1:Int) s) (some ((qab v13 (r.1:Int) s).1,(qab v13 (r.1:Int) s).2,()))) (qc (.int .i64)) (by simp only [qaS,List.length_map];omega) (fun n i s' hi hs=> ?_) (fun n i s' hi=> ?_) (l.length+1) (by simp only [qaS,List.length_map];omega)
 ·rw [qd hm]at this
  rw [show (qaS l r.2).length=l.length by simp only [qaS,List.length_map]]at this
  exact this
 ·have hi:i<l.length:=by simpa only [qaS,List.length_map] using hi
  have hs:s'.length=l.length:=by simpa only [qaS,List.length_map] using hs
  rw [qdV,qi (by omega),qd (by omega),qd (by omega),qd (by omega),qB hi,(qx6 (h2 _ (List.getElem_mem hi)) hr.1).1]
  simp only [qaS,List.getElem_map,Int.toNat_natCast]
 ·have hi:l.length≤i:=by simpa only [qaS,List.length_map] using hi
  rw [qdV,qj (by omega)]⟩
theorem s71:Sound Try.prog 71 g71:=qq (tt:=tt) (Γ:=Γ71) hT (qe s45 qp) hm (fn:=Try.f71) Try.func71 (c:=Try.f71.body.getD .skip) (by kernel_rfl) (by kernel_rfl) fun x hx=>by
 obtain ⟨N,h⟩:=e71 x.1 x.2.1 x.2.2.1 hx
 exact ⟨T71 N,p71,qm _,qH4 N,(qGi N x.1 x.2.1 x.2.2.1).trans h⟩
theorem e61 (l:List (Val (.int .i64))) (r:Val Y35) (s:Bool) (h:qmD l r s): ∃N,m61 N l r s=some ((qaB l r s).1,(qaB l r s).2,()):=⟨l.length+1,by
 have h:l.length≤1048576:=h
 rw [m61,qaB]
 refine (q4 (F:=fun n i s'=>qeq (l.length+1) l s (r.1:Int) (r.2:Int) 0 false _ n i s') (step:=fun _ x (s:List (Val (.int .i64))) K=>chk (s.length+[IntKind.i64.wrap (IntKind.i64.wrap (0 - (x:Int))*(r.2:Int))].length≤1048576) (K (s++[IntKind.i64.wrap (IntKind.i64.wrap (0 - (x:Int))*(r.2:Int))]))) (k:=fun v=>chk (qfg v (r.1:Int) s) (some ((qaz v (r.1:Int) s).1,(qaz v (r.1:Int) s).2,()))) h (fun n i s' hi=> ?_) (fun n i s' hi=> ?_) _ [] (Nat.lt_succ_self _)).trans ((qyU (f:=fun (x:Int)=>IntKind.i64.wrap (IntKind.i64.wrap (0 - x)*(r.2:Int))) l 0 [] (by simpa using h)).trans ?_)
 ·rw [qeq,qi (by omega),qd (by omega),qB hi]
 ·rw [qeq,qj (by omega)]
 ·rw [List.nil_append]
  exact qd (show qfg _ _ _ from by unfold qfg;rw [List.length_map];exact h)⟩
theorem s61:Sound Try.prog 61 g61:=qq (tt:=tt) (Γ:=Γ61) hT (qe qGv qp) hm (fn:=Try.f61) Try.func61 (c:=Try.f61.body.getD .skip) (by kernel_rfl) (by kernel_rfl) fun x hx=>by
 obtain ⟨N,h⟩:=e61 x.1 x.2.1 x.2.2.1 hx
 exact ⟨T61 N,p61,qm _,qMW N,(qGY N x.1 x.2.1 x.2.2.1).trans h⟩
theorem e62 (c:Val Y26) (a:Val Y83) (h:qmG c a): ∃N,m62 N c a=some (qnp c a,()):=⟨0,by
 obtain ⟨h1,h2,h3⟩:=h
 rw [m62,qd h1]
 exact qd h3⟩
theorem s62:Sound Try.prog 62 g62:=qq (tt:=tt) (Γ:=Γ62) hT (qe qIQ qp) hm (fn:=Try.f62) Try.func62 (c:=Try.f62.body.getD .skip) (by kernel_rfl) (by kernel_rfl) fun x hx=>by
 obtain ⟨N,h⟩:=e62 x.1 x.2.1 hx
 exact ⟨T62 N,p62,qO9 hT (show qjY _ [(26,1,24)]=true by kernel_rfl) (qm _),qKm N,(qR7 N x.1 x.2.1).trans h⟩
theorem qEd {l:List (Val (.int .i64))} {r:Val Y35} {s:Bool} (h:(qO l r s).2=true):qK (qO l r s).1=true:=by
 unfold qO qab qlZ at h ⊢
 generalize max 1 (gL (Int.natAbs r.1) (qaS l r.2))=g at*
 cases hc:qK (List.map (α:=Int) (fun x=>x.tdiv (g:Int)) (qaS l r.2),(r.1:Int).tdiv (g:Int),s)with
 | true=>rw [hc]at h;simpa only [cond_true] using hc
 | false=>rw [hc]at h;exact absurd h (by simp)
theorem qCe {c:Val Y26} {a:Val Y83} (hc:qS c=true) (ha:qK a=true):qf2 c [a]:=by
 refine ⟨qPE hc,fun x hx=> ?_,?_⟩
 ·rw [List.mem_singleton.1 hx]
  have:List.length (α:=Int) a.1≤4:=(qwc ha).1
  show List.length (α:=Int) a.1≤1048576
  omega
 ·have:List.length (α:=Val Y83) c.2≤16:=(qcd hc).2.1
  show List.length (α:=Val Y83) c.2+1≤1048576
  omega
theorem qEb {c:Val Y26} {a:Val Y83} {m:List (Val (.int .i64))} (hc:qS c=true) (hm:m.length≤1048576):qa9 (qaK c [a]) m:=by
 refine ⟨?_,hm⟩
 have:List.length (α:=Val Y83) c.2≤16:=(qcd hc).2.1
 show List.length (α:=Val Y83) (c.2++[a])≤1048576
 rw [List.length_append]
 show List.length (α:=Val Y83) c.2+1≤1048576
 omega
theorem qDL {c:Val Y26} {p:List (Val Y35)} (h:(inV c p).2=true):(p.length:Int)=c.1:=by
 unfold inV at h
 cases hp:qS c&&q6 p c.1 with
 | false=>rw [hp]at h;exact absurd h (by simp)
 | true=>rw [Bool.and_eq_true]at hp;exact (qkC hp.2).1
theorem qMd {c:Val Y26} {p:List (Val Y35)} (h:qa0 c p=true):(p.length:Int)=c.1:=by
 unfold qa0 at h
 rw [Bool.and_eq_true]at h
 exact qDL h.2
theorem e19 (c:Val Y26) (l:List (Val (.int .i64))) (o:Opt) (h:qeT c l o): ∃N,m19 N c l o=some (qdl c l o,()):=⟨0,by
 obtain ⟨hc,hl,hb⟩:=h
 obtain ⟨_,_,_,hb4,hb5,hb6⟩:=hb
 rw [m19,qdl]
 cases h1:qS c with
 | false=>rfl
 | true=>
   rw [Bool.not_true,cond_false,Bool.true_and]
   by_cases h2: @LT.lt Int _ c.1 4
   case neg=>rw [qi (show (3:Int)<(c.1:Int) from by omega),decide_eq_false (show ¬(c.1:Int)<4 from h2)];rfl
   rw [qj (show ¬(3:Int)<(c.1:Int) from by omega),qd (show qme c l from hl),decide_eq_true (show (c.1:Int)<4 from h2),Bool.true_and]
   cases h3:qbO c l with
   | false=>rfl
   | true=>
     rw [Bool.not_true,cond_false,cond_true]
     have hlen:=(qmm h3).1
     by_cases k1:(o.1:Int)=1
     ·rw [qi k1,qi k1,qd (show qa9 c o.2.2.2.2.2 from ⟨hc,hb6.1⟩)]
     rw [qj k1,qj k1]
     by_cases k2:(o.1:Int)=2
     ·rw [qi k2,qi k2,qd (show qfv c o.2.2.2.1 from ⟨hc,hb4.1⟩)]
      cases qa0 c o.2.2.2.1 with
      | false=>rfl
      | true=>rw [cond_true,qd (show qnh c l o.2.2.2.2.1 from ⟨h1,hlen,hb5.1⟩),Bool.true_and]
     rw [qj k2,qj k2]
     by_cases k0:(o.1:Int)=0
     case neg=>rw [qj k0,qj k0]
     rw [qi k0,qi k0]
     cases hr:qo o.2.1 with
     | false=>rfl
     | true=>
       have hp:qe4 l o.2.1 o.2.2.1:=⟨by omega,(qmm h3).2,hr⟩
       rw [Bool.not_true,cond_false,qd hp,Bool.true_and]
       cases ha:(qO l o.2.1 o.2.2.1).2 with
       | false=>rfl
       | true=>
         rw [Bool.not_true,cond_false,Bool.true_and]
         refine (qd (show qf2 c [(qO l o.2.1 o.2.2.1).1] from qCe h1 (qEd ha))).trans ?_
         refine (qd (show qa9 (qaK c [(qO l o.2.1 o.2.2.1).1]) o.2.2.2.2.2 from qEb h1 hb6.1)).trans ?_
         change (bif !qal (qaK c [(qO l o.2.1 o.2.2.1).1]) o.2.2.2.2.2 then _ else _)=_
         cases qal (qaK c [(qO l o.2.1 o.2.2.1).1]) o.2.2.2.2.2 with
         | false=>rfl
         | true=>
           rw [Bool.not_true,cond_false,cond_true]
           cases o.2.2.1 with
           | false=>rfl
           | true=>
             rw [Bool.not_true,cond_false,cond_true,qd (show qfv c o.2.2.2.1 from ⟨hc,hb4.1⟩)]
             cases hi:qa0 c o.2.2.2.1 with
             | false=>rfl
             | true=>
               have:=qMd hi
               rw [cond_true,Bool.true_and]
               exact qd (show qaw l o.2.2.2.1 from ⟨by omega,hl⟩)⟩
theorem s19:Sound Try.prog 19 g19:=qq (tt:=tt) (Γ:=Γ19) hT (qe s43 (qe s66 (qe s67 (qe s68 (qe s69 (qe s70 (qe s71 (qe s72 (qe s73 qp))))))))) hm (fn:=Try.f19) Try.func19 (c:=Try.f19.body.getD .skip) (by kernel_rfl) (by kernel_rfl) fun x hx=>by
 obtain ⟨N,h⟩:=e19 x.1 x.2.1 x.2.2.1 hx
 exact ⟨T19 N,p19,qm _,qIx N,(qKx N x.1 x.2.1 x.2.2.1).trans h⟩
end Go.T
