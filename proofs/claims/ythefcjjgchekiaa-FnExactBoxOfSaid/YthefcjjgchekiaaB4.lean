/- Normal cells: what the program's normalOf computes. -/
import Derived.Test.YthefcjjgchekiaaB3
set_option linter.unusedSimpArgs false
set_option linter.unusedVariables false
namespace Go.T
open Go Go.Proofs
set_option maxHeartbeats 4000000
set_option maxRecDepth 100000
def qaK (a:Val Y36):Bool:= !qZ a&&(decide ((0:Int)<a.2.1)||(decide ((a.2.1:Int)=0)&&a.2.2))
def qX (d:Int) (l:List (Val Y36)):Val Y32:=bif l.any qaK then qce d else (d,qdR (l.filter qZ))
def okL (d:Int) (l:List (Val Y36)):Prop:=(0≤d∧d≤4)∧l.length≤1048576∧ ∀a∈l,okA a∧(List.length (α:=Int) a.1:Int)=d
def qco (d:Int) (l:List (Val Y36)):Prop:=okL d l
theorem qtw {ρ:Type} {r:Option ρ} {k:List (Val Y36)→Option ρ}: ∀(xs:List (Val Y36)) (i:Nat) (s:List (Val Y36)),s.length+xs.length≤1048576→
 qaa (fun _ (x:Val Y36) (s:List (Val Y36)) K=>bif qaK x then r else bif qZ x then chk (s.length+[x].length≤1048576) (K (s++[x]))else K s) i xs s k=bif xs.any qaK then r else k (s++xs.filter qZ)
 | [],_,s,_=>by rw [qaa];simp
 | x::xs,i,s,h=>by
   simp only [List.length_cons]at h
   rw [qaa]
   cases hb:qaK x with
   | true=>simp [hb]
   | false=>
     cases hv:qZ x with
     | true=>simp only [cond_false,cond_true];rw [qc (by simp;omega),qtw xs _ _ (by simp;omega)];simp [hb,hv]
     | false=>simp only [cond_false];rw [qtw xs _ _ (by omega)];simp [hb,hv]
theorem qew {a b:Val Y36} {d:Int} (ha:okA a∧(List.length (α:=Int) a.1:Int)=d) (hb:okA b∧(List.length (α:=Int) b.1:Int)=d):qgq a b=qaA (atm a) (atm b):=by
 have h1:qz a=true:=ha.1
 have h2:qz b=true:=hb.1
 have h3:List.length (α:=Int) a.1=List.length (α:=Int) b.1:=by have:=ha.2;have:=hb.2;omega
 simp [qgq,h1,h2,h3]
theorem qGY {d:Int} {l:List (Val Y36)} (hl:l.length≤1048576) (h: ∀a∈l,okA a∧(List.length (α:=Int) a.1:Int)=d) (hv: ∀a∈l,qZ a=true):qvq (fun _ _=>True) qgq qag l:=by
 refine ⟨hl,fun _ _ _ _=>trivial,fun x hx=> ?_,fun x hx y hy z hz h1 h2=> ?_,fun x hx y hy z hz h1 h2=> ?_,fun ys hp ho=> ?_⟩
 ·rw [qew (h x hx) (h x hx),qcb.self];omega
 ·rw [qew (h x hx) (h y hy)]at h1;rw [qew (h y hy) (h z hz)]at h2;rw [qew (h x hx) (h z hz)]
  exact qcb.lt_le h1 (Int.le_of_lt h2)
 ·rw [qew (h x hx) (h y hy)]at h1;rw [qew (h y hy) (h z hz)]at h2;rw [qew (h x hx) (h z hz)]
  have a1:=qcb.anti (atm x) (atm y);have a2:=qcb.anti (atm y) (atm z);have a3:=qcb.anti (atm x) (atm z)
  have:=qcb.tr (atm z) (atm y) (atm x) (by omega) (by omega)
  omega
 ·refine qMg (fun a ha=>qEd (h a ha).1 (hv a ha)) hp (ho.imp_of_mem fun {a b} ha hb hab=> ?_)
  have ha':=hp.mem_iff.1 ha
  have hb':=hp.mem_iff.1 hb
  rwa [qew (h b hb') (h a ha')]at hab
theorem qwi {ρ α:Type} {p:Nat→Bool} {k:List α→Option ρ} {d:α}: ∀(m i:Nat) (hs:List α) (s:List α),hs.length - i=m→i≤hs.length→s.length+m≤1048576→
 qaa (fun j (x:α) (s:List α) K=>bif p j then K s else chk (s.length+[x].length≤1048576) (K (s++[x]))) i (hs.drop i) s k=k (s++((List.range' i m).filter fun i=> !p i).map fun i=>hs.getD i d)
 | 0,i,hs,s,h,hi,_=>by rw [List.drop_eq_nil_of_le (by omega),qaa];simp
 | m+1,i,hs,s,h,hi,hs'=>by
   have hlt:i<hs.length:=by omega
   rw [qdw hlt,qaa,List.range'_succ]
   cases hp:p i with
   | true=>simp only [cond_true];rw [qwi (d:=d) m (i+1) hs s (by omega) (by omega) (by omega)];simp [hp]
   | false=>
     simp only [cond_false]
     rw [qc (by simp;omega),qwi (d:=d) m (i+1) hs _ (by omega) (by omega) (by simp;omega)]
     simp [hp,List.getD,hlt]
def g52:G:={ps:=[i3,i30],rs:=[i32],dp:=true,pre:=fun x=>qco x.1 x.2.1,fn:=fun x=>(qX x.1 x.2.1,())}
theorem qJd (N:Nat) (d:Int) (l:List (Val Y36)) (K:List (Val Y36)→Option (qb [i32])) (h:okL d l) (n:Nat) (hn:l.length<n) (s:List (Val Y36)):qdd N d l l.length 0 K n 0 s=qaa (fun _ (x:Val Y36) (s:List (Val Y36)) K=>bif qaK x then some ((qce d,()))else bif qZ x then chk (s.length+[x].length≤1048576) (K (s++[x]))else K s) 0 l s K:=
 qb6 (xs:=l) (F:=fun n i s=>qdd N d l l.length 0 K n i s) h.2.1 (fun n i s hi=>by
  obtain ⟨ha,hlen⟩:=h.2.2 _ (List.getElem_mem hi)
  have h4:=(qcc ha).1
  have hd:=h.1
  rw [qdd,qh (by omega),qc (by omega),qL hi,qc (show qg7 _ from ha)]
  rw [qc (show qdP d from ⟨hd.1,by omega⟩),qc (show qcu _ from by unfold qcu;omega)]
  unfold qaK
  cases hv:qZ l[i]with
  | true=>simp only [Bool.not_true,cond_false,Bool.false_and,cond_true];try rfl
  | false=>
    by_cases c1:(0:Int)<l[i].2.1
    ·simp only [Bool.not_false,cond_true,c1,decide_true,Bool.true_or,Bool.and_self];try rfl
    ·by_cases c2:(l[i].2.1:Int)=0
     ·cases hs:l[i].2.2<;>simp only [Bool.not_false,cond_true,c1,c2,decide_true,decide_false,Bool.false_or,Bool.and_true,Bool.and_false,cond_false,Bool.true_and]<;>(try rfl)
     ·simp only [Bool.not_false,cond_true,c1,c2,decide_false,Bool.false_or,Bool.and_false,Bool.false_and,cond_false]) (fun n i s hi=>by rw [qdd,qi (by omega)]) n s hn
theorem qOb (N:Nat) (d:Int) (S:List (Val Y36)) (hs:List (Val (hd Y36))) (K:List (Val (hd Y36))→Option (qb [i32])) (hp:qdC Y36 hs S) (hSl:S.length≤1048576) (hSm: ∀a∈S,okA a∧(List.length (α:=Int) a.1:Int)=d) (n:Nat) (hn:hs.length<n) (s:List (Val (hd Y36))):qc9 N hs.length hs S 0 hs d K n 0 s=qaa (fun j (x:Val (hd Y36)) (s:List (Val (hd Y36))) K=>bif qdA S j then K s else chk (s.length+[x].length≤1048576) (K (s++[x]))) 0 hs s K:=
 have hl2:hs.length=S.length:=hp.1
 qb6 (xs:=hs) (F:=fun n i s=>qc9 N hs.length hs S 0 hs d K n i s) (by omega) (fun n i s hi=>by
  have h1:i<S.length:=by omega
  have e1:(i:Int).toNat=i:=rfl
  rw [qc9,qh (by omega),qc (by omega),e1,qc hi]
  rw [qiq hi (by omega)]
  have hg: ∀j,j<S.length→lk Y36 hs S (hs.getD j (qa (hd Y36)))=S.getD j (qa Y36):=fun j hj=>qIQ hp hj
  have hm: ∀j,j<hs.length→hs.getD j (qa (hd Y36))∈hs:=fun j hj=>by rw [qm1 hj];exact List.getElem_mem _
  have hv: ∀j,j<S.length→S.getD j (qa Y36)∈S:=fun j hj=>by rw [qm1 hj];exact List.getElem_mem _
  by_cases h2:i+1<hs.length
  ·have e2:((i+1:Nat):Int).toNat=i+1:=rfl
   have m1:=hSm _ (hv i h1)
   have m2:=hSm _ (hv (i+1) (by omega))
   rw [qh (by omega),e2,qc (by omega),qc h2,hg i h1,hg (i+1) (by omega),qc ⟨hp.2.1,⟨hm i hi,hm (i+1) h2⟩,m1.1,m2.1,by have:=m1.2;have:=m2.2;omega⟩]
   have e3:qdA S i=decide ((qaQ (S.getD i (qa Y36)) (S.getD (i+1) (qa Y36)))=0):=by
        unfold qdA
        rw [show decide (i+1<S.length)=true by simp;omega,Bool.true_and]
        rfl
   rw [e3,qm1 hi]
  ·rw [qi (by omega)]
   have e3:qdA S i=false:=by
        unfold qdA
        rw [show decide (i+1<S.length)=false by simp;omega,Bool.false_and]
   rw [e3,qm1 hi]
   rfl) (fun n i s hi=>by rw [qc9,qi (by omega)]) n s hn
theorem e52 (d:Int) (l:List (Val Y36)) (h:qco d l): ∃N,m52 N d l=some (qX d l,()):=⟨l.length+1,by
 have h0:=h
 obtain ⟨hdd,hl,hok⟩:=h
 rw [m52,qJd _ _ _ _ h0 _ (Nat.lt_succ_self _)]
 refine (qtw l 0 [] (by simpa using hl)).trans ?_
 rw [qX]
 cases hb:l.any qaK with
 | true=>rfl
 | false=>
   simp only [cond_false,List.nil_append]
   generalize hK:l.filter qZ=K
   have hKl:K.length≤l.length:=by rw [←hK];exact List.length_filter_le _ _
   have hKm: ∀a∈K,(okA a∧(List.length (α:=Int) a.1:Int)=d)∧qZ a=true:=fun a ha=>by
    rw [←hK]at ha
    exact ⟨hok a (List.mem_filter.1 ha).1,(List.mem_filter.1 ha).2⟩
   rw [qc (show qdq.pre K from qGY (by omega) (fun a ha=>(hKm a ha).1) fun a ha=>(hKm a ha).2)]
   generalize hS:qag K=S
   have hperm:S.Perm K:=by rw [←hS];exact qnB K
   have hSm: ∀a∈S,okA a∧(List.length (α:=Int) a.1:Int)=d:=fun a ha=>(hKm a (hperm.mem_iff.1 ha)).1
   have hSl:S.length=K.length:=hperm.length_eq
   obtain ⟨hs0,g0⟩:=qKT Y36 S
   refine qwy ⟨([],hs0),g0⟩ fun p hp=> ?_
   obtain ⟨F,hs⟩:=p
   have hp:qdC Y36 hs S:=hp
   have hl2:hs.length=S.length:=hp.1
   dsimp only
   rw [qOb _ d S hs _ hp (by omega) hSm _ (by omega)]
   refine (qwi (d:=qa (hd Y36)) hs.length 0 hs [] (by omega) (by omega) (by simp;omega)).trans ?_
   have e:(List.range' 0 hs.length).filter (fun i=> !qdA S i)=qcm S:=by
    rw [hl2];unfold qcm qeI;rw [List.range_eq_range']
   rw [e,List.nil_append,qc ⟨rfl,qQs S,fun i hi=>qoc hi,hp.2.1,hl2⟩]
   have:=qJY (xs:=K) fun a ha=>qEd (hKm a ha).1.1 (hKm a ha).2
   rw [show qgP K=S from hS]at this
   exact congrArg (fun x=>some ((d,x),())) this⟩
theorem s52:Sound Try.prog 52 g52:=qw (tt:=tt) (Γ:=Γ52) hT (qf s71 (qf s72 (qf s73 (qf s76 qq)))) hm (fn:=Try.f52) Try.func52 (c:=Try.f52.body.getD .skip) (by kernel_rfl) (by kernel_rfl) fun x hx=>by
 obtain ⟨N,h⟩:=e52 x.1 x.2.1 hx
 exact ⟨T52 N,p52,qSk (qRB qJy qKQ),qGE N,(qMf N x.1 x.2.1).trans h⟩
end Go.T
