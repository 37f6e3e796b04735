/- Normal cells: what the program's normalOf computes. -/
import Derived.Test.YthefcjjgchekiaaGreatB3
set_option linter.unusedSimpArgs false
set_option linter.unusedVariables false
namespace Go.T
open Go Go.Proofs
set_option maxHeartbeats 4000000
set_option maxRecDepth 100000
def qhA (xss:List (Val (.slice 108 qa))):List (Val qa):=List.flatten (α:=Val qa) xss
def qyk (xss:List (Val (.slice 108 qa))):Prop:=xss.length≤1048576∧(qhA xss).length≤1048576
theorem qNf {α ρ:Type} {r:Option ρ} {k:Int→Option ρ}: ∀(xs:List (List α)) (i:Nat) (s:Nat),s+xs.flatten.length≤1048576→
 qO (fun _ (x:List α) (s:Int) K=>bif decide (IntKind.i64.wrap (s+(x.length:Int))<0)then r else K (IntKind.i64.wrap (s+(x.length:Int)))) i xs (s:Int) k=k ((s+xs.flatten.length:Nat):Int)
 | [],_,s,_=>by rw [qO];simp
 | x::xs,i,s,h=>by
   simp only [List.flatten_cons,List.length_append]at h ⊢
   have e:IntKind.i64.wrap ((s:Int)+(x.length:Int))=((s+x.length:Nat):Int):=by rw [qaf (by omega) (by omega)];omega
   rw [qO,e,qi (by omega)]
   dsimp only
   rw [qNf xs (i+1) (s+x.length) (by omega),Nat.add_assoc]
theorem qFU {α ρ:Type} {k:List α→Option ρ}: ∀(xs:List (List α)) (i:Nat) (s:List α),s.length+xs.flatten.length≤1048576→
 qO (fun _ (x:List α) (s:List α) K=>chk (s.length+x.length≤1048576) (K (s++x))) i xs s k=k (s++xs.flatten)
 | [],_,s,_=>by rw [qO];simp
 | x::xs,i,s,h=>by
   simp only [List.flatten_cons,List.length_append]at h ⊢
   rw [qO,qe (by omega)]
   dsimp only
   rw [qFU xs (i+1) (s++x) (by rw [List.length_append];omega),List.append_assoc]
def qBf:G:={ps:=[qwe],rs:=[i31],dp:=false,pre:=fun x=>qyk x.1,fn:=fun x=>(qhA x.1,())}
theorem qZ6 (N:Nat) (xss:List (Val (.slice 108 qa))) (K:Int→Option (qb [i31])) (hl:xss.length≤1048576) (n:Nat) (hn:xss.length<n) (s:Int):qiN N xss xss xss.length K n s 0=qO (fun _ (x:List (Val qa)) (s:Int) K=>bif decide (IntKind.i64.wrap (s+(x.length:Int))<0)then none else K (IntKind.i64.wrap (s+(x.length:Int)))) 0 xss s K:=
 qaj (xs:=xss) (F:=fun n i s=>qiN N xss xss xss.length K n s i) hl (fun n i s hi=>by rw [qiN,ql (by omega),qe (by omega),qH hi]) (fun n i s hi=>by rw [qiN,qi (by omega)]) n s hn
theorem q29 (N:Nat) (xss:List (Val (.slice 108 qa))) (K:List (Val qa)→Option (qb [i31])) (hl:xss.length≤1048576) (n:Nat) (hn:xss.length<n) (s:List (Val qa)):qgV N xss xss.length K n 0 s=qO (fun _ (x:List (Val qa)) (s:List (Val qa)) K=>chk (s.length+x.length≤1048576) (K (s++x))) 0 xss s K:=
 qaj (xs:=xss) (F:=fun n i s=>qgV N xss xss.length K n i s) hl (fun n i s hi=>by rw [qgV,ql (by omega),qe (by omega),qH hi]) (fun n i s hi=>by rw [qgV,qi (by omega)]) n s hn
theorem q2u (xss:List (Val (.slice 108 qa))) (h:qyk xss): ∃N,qyE N xss=some (qhA xss,()):=⟨xss.length+1,by
 obtain ⟨hl,ht⟩:=h
 have ht':(List.flatten (α:=Val qa) xss).length≤1048576:=ht
 rw [qyE,qZ6 _ _ _ hl _ (Nat.lt_succ_self _)]
 refine (qNf (α:=Val qa) xss 0 0 (by simpa using ht')).trans ?_
 rw [qe (by omega),q29 _ _ _ hl _ (Nat.lt_succ_self _)]
 exact (qFU (α:=Val qa) xss 0 [] (by simpa using ht')).trans rfl⟩
theorem q5K:Sound Tryz.prog 219 qBf:=qu (tt:=tt) (Γ:=qis) hT qq hm (fn:=Tryz.f219) Tryz.func219 (c:=Tryz.f219.body.getD .skip) (by kernel_rfl) (by kernel_rfl) fun x hx=>by
 obtain ⟨N,h⟩:=q2u x.1 hx
 exact ⟨qby N,qYZ,qED (qHF qW0 qHN),q6z N,(q56 N x.1).trans h⟩
def qbU (a:Val qa):Bool:= !q6 a&&(decide ((0:Int)<a.2.1)||(decide ((a.2.1:Int)=0)&&a.2.2))
def qm (d:Int) (l:List (Val qa)):Val Y33:=bif l.any qbU then qaW d else (d,qgm (l.filter q6))
def okL (d:Int) (l:List (Val qa)):Prop:=(0≤d∧d≤4)∧l.length≤1048576∧ ∀a∈l,okA a∧(List.length (α:=Int) a.1:Int)=d
def qaK (d:Int) (l:List (Val qa)):Prop:=okL d l
theorem qHx {ρ:Type} {r:Option ρ} {k:List (Val qa)→Option ρ}: ∀(xs:List (Val qa)) (i:Nat) (s:List (Val qa)),s.length+xs.length≤1048576→
 qO (fun _ (x:Val qa) (s:List (Val qa)) K=>bif qbU x then r else bif q6 x then chk (s.length+[x].length≤1048576) (K (s++[x]))else K s) i xs s k=bif xs.any qbU then r else k (s++xs.filter q6)
 | [],_,s,_=>by rw [qO];simp
 | x::xs,i,s,h=>by
   simp only [List.length_cons]at h
   rw [qO]
   cases hb:qbU x with
   | true=>simp [hb]
   | false=>
     cases hv:q6 x with
     | true=>simp only [cond_false,cond_true];rw [qe (by simp;omega),qHx xs _ _ (by simp;omega)];simp [hb,hv]
     | false=>simp only [cond_false];rw [qHx xs _ _ (by omega)];simp [hb,hv]
theorem qib {a b:Val qa} {d:Int} (ha:okA a∧(List.length (α:=Int) a.1:Int)=d) (hb:okA b∧(List.length (α:=Int) b.1:Int)=d):qlm a b=qaG (atm a) (atm b):=by
 have h1:qA a=true:=ha.1
 have h2:qA b=true:=hb.1
 have h3:List.length (α:=Int) a.1=List.length (α:=Int) b.1:=by have:=ha.2;have:=hb.2;omega
 simp [qlm,h1,h2,h3]
theorem q3i {d:Int} {l:List (Val qa)} (hl:l.length≤1048576) (h: ∀a∈l,okA a∧(List.length (α:=Int) a.1:Int)=d) (hv: ∀a∈l,q6 a=true):qDM (fun _ _=>True) qlm qai l:=by
 refine ⟨hl,fun _ _ _ _=>trivial,fun x hx=> ?_,fun x hx y hy z hz h1 h2=> ?_,fun x hx y hy z hz h1 h2=> ?_,fun ys hp ho=> ?_⟩
 ·rw [qib (h x hx) (h x hx),qbx.self];omega
 ·rw [qib (h x hx) (h y hy)]at h1;rw [qib (h y hy) (h z hz)]at h2;rw [qib (h x hx) (h z hz)]
  exact qbx.lt_le h1 (Int.le_of_lt h2)
 ·rw [qib (h x hx) (h y hy)]at h1;rw [qib (h y hy) (h z hz)]at h2;rw [qib (h x hx) (h z hz)]
  have a1:=qbx.anti (atm x) (atm y);have a2:=qbx.anti (atm y) (atm z);have a3:=qbx.anti (atm x) (atm z)
  have:=qbx.tr (atm z) (atm y) (atm x) (by omega) (by omega)
  omega
 ·refine qXy (fun a ha=>qTa (h a ha).1 (hv a ha)) hp (ho.imp_of_mem fun {a b} ha hb hab=> ?_)
  have ha':=hp.mem_iff.1 ha
  have hb':=hp.mem_iff.1 hb
  rwa [qib (h b hb') (h a ha')]at hab
theorem qOJ {ρ α:Type} {p:Nat→Bool} {k:List α→Option ρ} {d:α}: ∀(m i:Nat) (hs:List α) (s:List α),hs.length - i=m→i≤hs.length→s.length+m≤1048576→
 qO (fun j (x:α) (s:List α) K=>bif p j then K s else chk (s.length+[x].length≤1048576) (K (s++[x]))) i (hs.drop i) s k=k (s++((List.range' i m).filter fun i=> !p i).map fun i=>hs.getD i d)
 | 0,i,hs,s,h,hi,_=>by rw [List.drop_eq_nil_of_le (by omega),qO];simp
 | m+1,i,hs,s,h,hi,hs'=>by
   have hlt:i<hs.length:=by omega
   rw [qgg hlt,qO,List.range'_succ]
   cases hp:p i with
   | true=>simp only [cond_true];rw [qOJ (d:=d) m (i+1) hs s (by omega) (by omega) (by omega)];simp [hp]
   | false=>
     simp only [cond_false]
     rw [qe (by simp;omega),qOJ (d:=d) m (i+1) hs _ (by omega) (by omega) (by simp;omega)]
     simp [hp,List.getD,hlt]
def qei:G:={ps:=[i3,i31],rs:=[i33],dp:=true,pre:=fun x=>qaK x.1 x.2.1,fn:=fun x=>(qm x.1 x.2.1,())}
theorem qV2 (N:Nat) (d:Int) (l:List (Val qa)) (K:List (Val qa)→Option (qb [i33])) (h:okL d l) (n:Nat) (hn:l.length<n) (s:List (Val qa)):qgy N d l l.length 0 K n 0 s=qO (fun _ (x:Val qa) (s:List (Val qa)) K=>bif qbU x then some ((qaW d,()))else bif q6 x then chk (s.length+[x].length≤1048576) (K (s++[x]))else K s) 0 l s K:=
 qaj (xs:=l) (F:=fun n i s=>qgy N d l l.length 0 K n i s) h.2.1 (fun n i s hi=>by
  obtain ⟨ha,hlen⟩:=h.2.2 _ (List.getElem_mem hi)
  have h4:=(qaN ha).1
  have hd:=h.1
  rw [qgy,ql (by omega),qe (by omega),qH hi,qe (show qmj _ from ha)]
  rw [qe (show qc8 d from ⟨hd.1,by omega⟩),qe (show qa3 _ from by unfold qa3;omega)]
  unfold qbU
  cases hv:q6 l[i]with
  | true=>simp only [Bool.not_true,cond_false,Bool.false_and,cond_true];try rfl
  | false=>
    by_cases c1:(0:Int)<l[i].2.1
    ·simp only [Bool.not_false,cond_true,c1,decide_true,Bool.true_or,Bool.and_self];try rfl
    ·by_cases c2:(l[i].2.1:Int)=0
     ·cases hs:l[i].2.2<;>simp only [Bool.not_false,cond_true,c1,c2,decide_true,decide_false,Bool.false_or,Bool.and_true,Bool.and_false,cond_false,Bool.true_and]<;>(try rfl)
     ·simp only [Bool.not_false,cond_true,c1,c2,decide_false,Bool.false_or,Bool.and_false,Bool.false_and,cond_false]) (fun n i s hi=>by rw [qgy,qi (by omega)]) n s hn
theorem q57 (N:Nat) (d:Int) (S:List (Val qa)) (hs:List (Val (hd qa))) (K:List (Val (hd qa))→Option (qb [i33])) (hp:qdZ qa hs S) (hSl:S.length≤1048576) (hSm: ∀a∈S,okA a∧(List.length (α:=Int) a.1:Int)=d) (n:Nat) (hn:hs.length<n) (s:List (Val (hd qa))):qeA N hs.length hs S 0 hs d K n 0 s=qO (fun j (x:Val (hd qa)) (s:List (Val (hd qa))) K=>bif qfE S j then K s else chk (s.length+[x].length≤1048576) (K (s++[x]))) 0 hs s K:=
 have hl2:hs.length=S.length:=hp.1
 qaj (xs:=hs) (F:=fun n i s=>qeA N hs.length hs S 0 hs d K n i s) (by omega) (fun n i s hi=>by
  have h1:i<S.length:=by omega
  have e1:(i:Int).toNat=i:=rfl
  rw [qeA,ql (by omega),qe (by omega),e1,qe hi]
  rw [qmo hi (by omega)]
  have hg: ∀j,j<S.length→lk qa hs S (hs.getD j (qc (hd qa)))=S.getD j (qc qa):=fun j hj=>qTp hp hj
  have hm: ∀j,j<hs.length→hs.getD j (qc (hd qa))∈hs:=fun j hj=>by rw [qek hj];exact List.getElem_mem _
  have hv: ∀j,j<S.length→S.getD j (qc qa)∈S:=fun j hj=>by rw [qek hj];exact List.getElem_mem _
  by_cases h2:i+1<hs.length
  ·have e2:((i+1:Nat):Int).toNat=i+1:=rfl
   have m1:=hSm _ (hv i h1)
   have m2:=hSm _ (hv (i+1) (by omega))
   rw [ql (by omega),e2,qe (by omega),qe h2,hg i h1,hg (i+1) (by omega),qe ⟨hp.2.1,⟨hm i hi,hm (i+1) h2⟩,m1.1,m2.1,by have:=m1.2;have:=m2.2;omega⟩]
   have e3:qfE S i=decide ((qa1 (S.getD i (qc qa)) (S.getD (i+1) (qc qa)))=0):=by
        unfold qfE
        rw [show decide (i+1<S.length)=true by simp;omega,Bool.true_and]
        rfl
   rw [e3,qek hi]
  ·rw [qi (by omega)]
   have e3:qfE S i=false:=by
        unfold qfE
        rw [show decide (i+1<S.length)=false by simp;omega,Bool.false_and]
   rw [e3,qek hi]
   rfl) (fun n i s hi=>by rw [qeA,qi (by omega)]) n s hn
theorem q96 (d:Int) (l:List (Val qa)) (h:qaK d l): ∃N,qyY N d l=some (qm d l,()):=⟨l.length+1,by
 have h0:=h
 obtain ⟨hdd,hl,hok⟩:=h
 rw [qyY,qV2 _ _ _ _ h0 _ (Nat.lt_succ_self _)]
 refine (qHx l 0 [] (by simpa using hl)).trans ?_
 rw [qm]
 cases hb:l.any qbU with
 | true=>rfl
 | false=>
   simp only [cond_false,List.nil_append]
   generalize hK:l.filter q6=K
   have hKl:K.length≤l.length:=by rw [←hK];exact List.length_filter_le _ _
   have hKm: ∀a∈K,(okA a∧(List.length (α:=Int) a.1:Int)=d)∧q6 a=true:=fun a ha=>by
    rw [←hK]at ha
    exact ⟨hok a (List.mem_filter.1 ha).1,(List.mem_filter.1 ha).2⟩
   rw [qe (show qfM.pre K from q3i (by omega) (fun a ha=>(hKm a ha).1) fun a ha=>(hKm a ha).2)]
   generalize hS:qai K=S
   have hperm:S.Perm K:=by rw [←hS];exact qu5 K
   have hSm: ∀a∈S,okA a∧(List.length (α:=Int) a.1:Int)=d:=fun a ha=>(hKm a (hperm.mem_iff.1 ha)).1
   have hSl:S.length=K.length:=hperm.length_eq
   obtain ⟨hs0,g0⟩:=qRJ qa S
   refine qyp ⟨([],hs0),g0⟩ fun p hp=> ?_
   obtain ⟨F,hs⟩:=p
   have hp:qdZ qa hs S:=hp
   have hl2:hs.length=S.length:=hp.1
   dsimp only
   rw [q57 _ d S hs _ hp (by omega) hSm _ (by omega)]
   refine (qOJ (d:=qc (hd qa)) hs.length 0 hs [] (by omega) (by omega) (by simp;omega)).trans ?_
   have e:(List.range' 0 hs.length).filter (fun i=> !qfE S i)=qbY S:=by
    rw [hl2];unfold qbY qiB;rw [List.range_eq_range']
   rw [e,List.nil_append,qe ⟨rfl,zaj S,fun i hi=>qwY hi,hp.2.1,hl2⟩]
   have:=q2O (xs:=K) fun a ha=>qTa (hKm a ha).1.1 (hKm a ha).2
   rw [show qle K=S from hS]at this
   exact congrArg (fun x=>some ((d,x),())) this⟩
theorem qIW:Sound Tryz.prog 230 qei:=qu (tt:=tt) (Γ:=qeg) hT (qf qT1 (qf qRo (qf qQ7 (qf qQB qq)))) hm (fn:=Tryz.f230) Tryz.func230 (c:=Tryz.f230.body.getD .skip) (by kernel_rfl) (by kernel_rfl) fun x hx=>by
 obtain ⟨N,h⟩:=q96 x.1 x.2.1 hx
 exact ⟨qbD N,q0V,qED (qHF q2E qHN),q71 N,(zcT N x.1 x.2.1).trans h⟩
end Go.T
