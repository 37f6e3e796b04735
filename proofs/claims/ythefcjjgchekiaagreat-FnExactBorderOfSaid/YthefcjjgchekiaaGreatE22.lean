/- Closures: what the functions compute. -/
import Derived.Test.YthefcjjgchekiaaGreatE21
set_option linter.unusedSimpArgs false
set_option linter.unusedVariables false
namespace Go.T
open Go Go.Proofs
set_option maxHeartbeats 4000000
set_option maxRecDepth 100000
theorem qyI {α ρ:Type} {F:Nat→Int→List α→Option ρ} {ok:α→Bool} {f:α→α} {k:List α→Option ρ} {r:Option ρ} {P:α→Prop} {L:Nat} (hL:L≤1048576)
 (hF: ∀(n i:Nat) (s:List α) (h:i<s.length),s.length=L→P s[i]→F (n+1) (i:Int) s=bif ok s[i]then F n (IntKind.i64.wrap ((i:Int)+1)) (s.set i (f s[i]))else r)
 (hE: ∀(n:Nat) (s:List α),s.length=L→F (n+1) (L:Int) s=k s):
 ∀(ys xs:List α) (n:Nat),xs.length+ys.length=L→ys.length<n→(∀y∈ys,P y)→F n (xs.length:Int) (xs++ys)=bif ys.all ok then k (xs++ys.map f)else r
 | [],xs,n+1,h,_,_=>by
   have h:xs.length=L:=by simpa using h
   rw [List.append_nil,h,hE n xs h];simp
 | y::ys,xs,n+1,h,hn,hp=>by
   have hi:xs.length<(xs++y::ys).length:=by simp
   have ey:(xs++y::ys)[xs.length]=y:=by simp
   have h':xs.length+(ys.length+1)=L:=by simpa using h
   rw [hF n xs.length _ hi (by simpa using h) (by rw [ey];exact hp y (by simp)),ey]
   have e1:IntKind.i64.wrap ((xs.length:Int)+1)=(((xs++[f y]).length:Nat):Int):=by rw [qaC (by omega) (by omega)];simp
   have e2:(xs++y::ys).set xs.length (f y)=(xs++[f y])++ys:=by simp
   rw [e1,e2,List.all_cons]
   cases ok y with
   | false=>rfl
   | true=>
     simp only [cond_true,Bool.true_and]
     rw [qyI hL hF hE ys (xs++[f y]) n (by simp;omega) (by simp at hn;omega) (fun z hz=>hp z (by simp [hz]))]
     simp
theorem zrF (c:Val Y33) (h:qdA c): ∃N,qGy N c=some (cpC c,()):=⟨List.length (α:=Val qa) c.2+1,by
 obtain ⟨d,xs⟩:=c
 change Int at d
 change List (Val qa)at xs
 obtain ⟨-,h1,h2⟩:=h
 replace h1:xs.length≤1048576:=h1
 rw [qGy,cpC,qe (by show 0≤(0:Int)∧(0:Int)≤(xs.length:Int)∧(xs.length:Int)≤1048576;omega)]
 refine (qaZ (F:=fun n i s=>qlE _ xs xs.length 0 d _ n i s) (step:=fun _ x s K=>chk (s.length+[x].length≤1048576) (K (s++[x]))) (k:=fun s=>some ((d,s),())) h1 (fun n i s hi=> ?_) (fun n i s hi=> ?_) _ [] (Nat.lt_succ_self _)).trans ?_
 ·rw [qlE,qj (by omega),qe (by omega),qI hi,qe (show qbF _ from (h2 _ (List.getElem_mem hi)).1.1)]
  rfl
 ·rw [qlE,qi (by omega)]
 ·exact (qTx (f:=fun x=>x) xs 0 [] (by simpa using h1)).trans (by simp)⟩
theorem zrS:Sound Tryz.prog 214 qo1:=qr (tt:=tt) (Γ:=qoX) hT (qg q7m qn) hm (fn:=Tryz.f214) Tryz.func214 (c:=Tryz.f214.body.getD .skip) (by kernel_rfl) (by kernel_rfl) fun x hx=>by
 obtain ⟨N,h⟩:=zrF x.1 hx
 exact ⟨qd5 N,zbE,qu _,zu7 N,(zrX N x.1).trans h⟩
theorem qXR {c:Val Y33} (h:(qar c).2=true):qz c=true:=by
 unfold qar at h
 cases hc:qz c with
 | true=>rfl
 | false=>rw [hc]at h;exact absurd h (by simp)
theorem znx {d:Int} {a:Val qa} (h:okD d a):okD d (qcM a):=h
theorem q18 {c:Val Y33} (h:qz c=true):qz ((c.1,List.map (α:=Val qa) qcM c.2):Val Y33)=true:=by
 obtain ⟨h1,h2,h3⟩:=qaG h
 refine qDM h1 (by show (List.map (α:=Val qa) qcM c.2).length≤16;rw [List.length_map];exact h2) fun a ha=> ?_
 obtain ⟨b,hb,rfl⟩:=List.mem_map.1 (show a∈List.map (α:=Val qa) qcM c.2 from ha)
 exact znx (h3 b hb)
theorem zaJ {c:Val Y33} (h:qz c=true):Bd Y33 c:=by
 obtain ⟨h1,h2,h3⟩:=qaG h
 obtain ⟨d,l⟩:=c
 exact q1K (d:=d) h3 (by have:List.length (α:=Val qa) l≤16:=h2;omega)
theorem zbW (N:Nat) (v3 v4:Int) (K:List (Val qa)→Option (qc [i33,i4])) (l:List (Val qa)) (hl:l.length≤16) (n:Nat) (hn:l.length<n):qiq N (l.length:Int) v3 v4 K n 0 l=K (l.map qcM):=by
 have:=qyI (F:=fun n i s=>qiq N (l.length:Int) v3 v4 K n i s) (ok:=fun _=>true) (f:=qcM) (k:=K) (r:=none) (P:=fun _=>True) (L:=l.length) (by omega) (fun n i s h hs _=>by
  rw [qiq,qj (by omega),qe (by omega),qe (by omega),qI h];rfl) (fun n s hs=>by
  rw [qiq,qi (by omega)]) l [] n (by simp) hn (fun _ _=>trivial)
 have hA:(l.all fun _:Val qa=>true)=true:=List.all_eq_true.2 fun _ _=>rfl
 rw [hA]at this
 simpa using this
theorem zAy (N:Nat) (v3 v4:Int) (K:List (Val qa)→Option (qc [i33,i4])) (l:List (Val qa)) (hl:l.length≤16) (n:Nat) (hn:l.length<n):qi9 N v3 v4 K n 0 l=K (l.map qcM):=by
 have:=qyI (F:=fun n i s=>qi9 N v3 v4 K n i s) (ok:=fun _=>true) (f:=qcM) (k:=K) (r:=none) (P:=fun _=>True) (L:=l.length) (by omega) (fun n i s h hs _=>by
  rw [qi9,qj (by omega),qe (by omega),qe (by omega),qI h];rfl) (fun n s hs=>by
  rw [qi9,qi (by omega)]) l [] n (by simp) hn (fun _ _=>trivial)
 have hA:(l.all fun _:Val qa=>true)=true:=List.all_eq_true.2 fun _ _=>rfl
 rw [hA]at this
 simpa using this
theorem zac {d:Int} (h:0≤d∧d≤4):qcy d:=⟨h.1,by omega⟩
theorem zyl (c:Val Y33): ∃N,qCL N c=some ((qaI c).1,(qaI c).2,()):=⟨20,by
 rw [qCL]
 unfold qaI
 cases he:(qar c).2 with
 | false=>rfl
 | true=>
   have hc:=qXR he
   obtain ⟨h1,h2,h3⟩:=qaG hc
   simp only [Bool.not_true,cond_false,cond_true]
   cases (qar c).1 with
   | true=>
     simp only [cond_true]
     rw [qe (zac h1)]
   | false=>
     simp only [cond_false]
     rw [qe (show qdA c from zaJ hc)]
     refine (zbW 20 0 c.1 _ c.2 h2 20 (by omega)).trans ?_
     have e:qas ((c.1,List.map (α:=Val qa) qcM c.2):Val Y33)=(qv c.1 (List.map (α:=Val qa) qcM c.2),true):=by unfold qas;rw [q18 hc];rfl
     show some (((((qas ((c.1,List.map (α:=Val qa) qcM c.2):Val Y33)).1).1:Int),((qas ((c.1,List.map (α:=Val qa) qcM c.2):Val Y33)).1).2),((qas ((c.1,List.map (α:=Val qa) qcM c.2):Val Y33)).2),())=_
     rw [e]⟩
theorem zrP:Sound Tryz.prog 134 qo3:=qr (tt:=tt) (Γ:=qhJ) hT (qg qSF (qg q2S (qg zrS (qg q6f qn)))) hm (fn:=Tryz.f134) Tryz.func134 (c:=Tryz.f134.body.getD .skip) (by kernel_rfl) (by kernel_rfl) fun x hx=>by
 obtain ⟨N,h⟩:=zyl x.1
 exact ⟨qdD N,zs1,qu _,zyE N,(zj3 N x.1).trans h⟩
theorem zhd (c:Val Y33) (h:qAq c): ∃N,qD5 N c=some ((qaI c).1,(qaI c).2,()):=⟨20,by
 rw [qD5,qe (show qlb c from h)]
 unfold qaI
 cases he:(qar c).2 with
 | false=>rfl
 | true=>
   have hc:=qXR he
   obtain ⟨h1,h2,h3⟩:=qaG hc
   simp only [Bool.not_true,cond_false,cond_true]
   cases (qar c).1 with
   | true=>
     simp only [cond_true]
     rw [qe (zac h1)]
   | false=>
     simp only [cond_false]
     rw [qe (show qdA c from zaJ hc)]
     refine (zAy 20 0 c.1 _ c.2 h2 20 (by omega)).trans ?_
     exact qe (show qaF c.1 (List.map (α:=Val qa) qcM c.2) from (qe4 (q18 hc)).1)⟩
theorem zij:Sound Tryz.prog 132 qpg:=qr (tt:=tt) (Γ:=qg0) hT (qg qhd (qg q1f (qg qTX (qg q9Q qn)))) hm (fn:=Tryz.f132) Tryz.func132 (c:=Tryz.f132.body.getD .skip) (by kernel_rfl) (by kernel_rfl) fun x hx=>by
 obtain ⟨N,h⟩:=zhd x.1 hx
 exact ⟨qdt N,zw2,qu _,ztH N,(zwi N x.1).trans h⟩
theorem t41 (N:Nat) (v3 v4:Int) (K:List (Val Y33)→Option (qc [i50,i4])) (l:List (Val Y33)) (hl:l.length≤12) (n:Nat) (hn:l.length<n):qiD N (l.length:Int) v3 v4 K n 0 l=bif l.all (fun c=>(qaI c).2)then K (qvH l)else some (((0:Int),[]),false,()):=by
 have:=qyI (F:=fun n i s=>qiD N (l.length:Int) v3 v4 K n i s) (ok:=fun c=>(qaI c).2) (f:=fun c=>(qaI c).1) (k:=K) (r:=some (((0:Int),[]),false,())) (P:=fun _=>True) (L:=l.length) (by omega) (fun n i s h hs _=>by
  rw [qiD,qj (by omega),qe (by omega),qe (by omega),qI h,qe (by omega),qe (by omega)]
  cases (qaI s[i]).2<;>rfl) (fun n s hs=>by
  rw [qiD,qi (by omega)]) l [] n (by simp) hn (fun _ _=>trivial)
 unfold qvH
 simpa using this
theorem t40 (N:Nat) (v3 v4:Int) (K:List (Val Y33)→Option (qc [i50,i4])) (l:List (Val Y33)) (hl:l.length≤12) (hp: ∀c∈l,qbf c) (n:Nat) (hn:l.length<n):qh3 N v3 v4 K n 0 l=bif l.all (fun c=>(qaI c).2)then K (qvH l)else some (((0:Int),[]),false,()):=by
 have:=qyI (F:=fun n i s=>qh3 N v3 v4 K n i s) (ok:=fun c=>(qaI c).2) (f:=fun c=>(qaI c).1) (k:=K) (r:=some (((0:Int),[]),false,())) (P:=fun c=>qbf c) (L:=l.length) (by omega) (fun n i s h hs hc=>by
  rw [qh3,qj (by omega),qe (by omega),qe (by omega),qI h,qe (show qAq _ from hc),qe (by omega),qe (by omega)]
  cases (qaI s[i]).2<;>rfl) (fun n s hs=>by
  rw [qh3,qi (by omega)]) l [] n (by simp) hn hp
 unfold qvH
 simpa using this
theorem e41 (r:Val Y50): ∃N,m41 N r=some ((qF r).1,(qF r).2,()):=⟨30,by
 rw [m41]
 unfold qF
 cases hn:(qY r).2 with
 | false=>rfl
 | true=>
   obtain ⟨_,h2,h3⟩:=qbG (qnE hn).2.1
   simp only [Bool.not_true,cond_false,cond_true]
   refine (t41 30 0 (qY r).1.1 _ (qY r).1.2 h2 30 (by omega)).trans ?_
   cases List.all (α:=Val Y33) (qY r).1.2 (fun c=>(qaI c).2)<;>rfl⟩
theorem s41:Sound Tryz.prog 41 g41:=qr (tt:=tt) (Γ:=Γ41) hT (qg zaf (qg zrP qn)) hm (fn:=Tryz.f41) Tryz.func41 (c:=Tryz.f41.body.getD .skip) (by kernel_rfl) (by kernel_rfl) fun x hx=>by
 obtain ⟨N,h⟩:=e41 x.1
 exact ⟨T41 N,p41,qu _,zcB N,(zAE N x.1).trans h⟩
theorem e40 (r:Val Y50) (h:qia r): ∃N,m40 N r=some ((qF r).1,(qF r).2,()):=⟨30,by
 rw [m40,qe (show qmh r from h)]
 unfold qF
 cases hn:(qY r).2 with
 | false=>rfl
 | true=>
   obtain ⟨_,h2,h3⟩:=qbG (qnE hn).2.1
   simp only [Bool.not_true,cond_false,cond_true]
   refine (t40 30 0 (qY r).1.1 _ (qY r).1.2 h2 (fun c hc=>by have:=(qaG (h3 c hc).1).2.1;show _≤1048576;omega) 30 (by omega)).trans ?_
   cases List.all (α:=Val Y33) (qY r).1.2 (fun c=>(qaI c).2)<;>rfl⟩
theorem s40:Sound Tryz.prog 40 g40:=qr (tt:=tt) (Γ:=Γ40) hT (qg zmV (qg zij qn)) hm (fn:=Tryz.f40) Tryz.func40 (c:=Tryz.f40.body.getD .skip) (by kernel_rfl) (by kernel_rfl) fun x hx=>by
 obtain ⟨N,h⟩:=e40 x.1 hx
 exact ⟨T40 N,p40,qu _,zqY N,(zgS N x.1).trans h⟩
theorem zr4 {c:Val Y33} (h:(qaI c).2=true):qz (qaI c).1=true∧((qaI c).1.1:Int)=(c.1:Int):=by
 unfold qaI at h ⊢
 cases he:(qar c).2 with
 | false=>rw [he]at h;exact absurd h (by simp)
 | true=>
   have hc:=qXR he
   obtain ⟨h1,h2,h3⟩:=qaG hc
   simp only [cond_true]
   cases (qar c).1 with
   | true=>exact ⟨q7Z h1,rfl⟩
   | false=>
     simp only [cond_false]
     have:=(qe4 (q18 hc)).2
     exact ⟨this.1,this.2.2⟩
theorem zAP {r:Val Y50} (h:(qF r).2=true):q7 (qF r).1=true∧((qF r).1.1:Int)=(r.1:Int):=by
 unfold qF at h ⊢
 cases hn:(qY r).2 with
 | false=>rw [hn]at h;exact absurd h (by simp)
 | true=>
   obtain ⟨hr,hR,hRd⟩:=qnE hn
   obtain ⟨g1,g2,g3⟩:=qbG hR
   rw [hn]at h
   simp only [cond_true]at h ⊢
   cases ha:List.all (α:=Val Y33) (qY r).1.2 (fun c=>(qaI c).2)with
   | false=>rw [ha]at h;exact absurd h (by simp)
   | true=>
     simp only [cond_true]
     refine ⟨?_,hRd⟩
     unfold q7
     simp only [Bool.and_eq_true,decide_eq_true_eq]
     refine ⟨⟨g1,?_⟩,List.all_eq_true.2 fun c hc=> ?_⟩
     ·show ((List.map (α:=Val Y33) (fun c=>(qaI c).1) (qY r).1.2).length:Int)≤12
      rw [List.length_map];omega
     ·obtain ⟨b,hb,rfl⟩:=List.mem_map.1 (show c∈List.map (α:=Val Y33) (fun c=>(qaI c).1) (qY r).1.2 from hc)
      obtain ⟨k1,k2⟩:=zr4 (List.all_eq_true.1 ha b hb)
      simp only [Bool.and_eq_true,decide_eq_true_eq]
      exact ⟨k1,k2.trans (g3 b hb).2⟩
theorem qBd {r:Val Y50} (h:List.length (α:=Val Y33) r.2≤12∧ ∀c∈(r.2:List (Val Y33)),qz c=true):qbs r:=
 ⟨by omega,fun c hc=>by have:=(qaG (h.2 c hc)).2.1;show _≤1048576;omega⟩
theorem q0p (a:Val Y50):List.length (α:=Val Y33) (qF a).1.2≤12∧ ∀c∈((qF a).1.2:List (Val Y33)),qz c=true:=by
 cases h:(qF a).2 with
 | true=>
   obtain ⟨_,h2,h3⟩:=qbG (zAP h).1
   exact ⟨h2,fun c hc=>(h3 c hc).1⟩
 | false=>
   have e:(qF a).1=(((0:Int),[]):Val Y50):=by
    unfold qF at h ⊢
    cases hn:(qY a).2 with
    | false=>rfl
    | true=>
      rw [hn]at h
      simp only [cond_true]at h ⊢
      cases ha:List.all (α:=Val Y33) (qY a).1.2 (fun c=>(qaI c).2)with
      | false=>rfl
      | true=>rw [ha]at h;exact absurd h (by simp)
   rw [e]
   exact ⟨Nat.zero_le _,fun c hc=>by cases hc⟩
end Go.T
