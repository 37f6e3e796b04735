/- Normal cells: what the program's normalOf computes. -/
import Derived.Test.YthefcjjgchekiaaGreatB3
set_option linter.unusedSimpArgs false
set_option linter.unusedVariables false
namespace Go.T
open Go Go.Proofs
set_option maxHeartbeats 4000000
set_option maxRecDepth 100000
def qhu (xss:List (Val (.slice 108 qa))):List (Val qa):=List.flatten (α:=Val qa) xss
def qFZ (xss:List (Val (.slice 108 qa))):Prop:=xss.length≤1048576∧(qhu xss).length≤1048576
theorem qZs {α ρ:Type} {r:Option ρ} {k:Int→Option ρ}: ∀(xs:List (List α)) (i:Nat) (s:Nat),s+xs.flatten.length≤1048576→
 qad (fun _ (x:List α) (s:Int) K=>bif decide (IntKind.i64.wrap (s+(x.length:Int))<0)then r else K (IntKind.i64.wrap (s+(x.length:Int)))) i xs (s:Int) k=k ((s+xs.flatten.length:Nat):Int)
 | [],_,s,_=>by rw [qad];simp
 | x::xs,i,s,h=>by
   simp only [List.flatten_cons,List.length_append]at h ⊢
   have e:IntKind.i64.wrap ((s:Int)+(x.length:Int))=((s+x.length:Nat):Int):=by rw [qaC (by omega) (by omega)];omega
   rw [qad,e,qi (by omega)]
   dsimp only
   rw [qZs xs (i+1) (s+x.length) (by omega),Nat.add_assoc]
theorem q4m {α ρ:Type} {k:List α→Option ρ}: ∀(xs:List (List α)) (i:Nat) (s:List α),s.length+xs.flatten.length≤1048576→
 qad (fun _ (x:List α) (s:List α) K=>chk (s.length+x.length≤1048576) (K (s++x))) i xs s k=k (s++xs.flatten)
 | [],_,s,_=>by rw [qad];simp
 | x::xs,i,s,h=>by
   simp only [List.flatten_cons,List.length_append]at h ⊢
   rw [qad,qe (by omega)]
   dsimp only
   rw [q4m xs (i+1) (s++x) (by rw [List.length_append];omega),List.append_assoc]
def qBS:G:={ps:=[qGl],rs:=[i31],dp:=false,pre:=fun x=>qFZ x.1,fn:=fun x=>(qhu x.1,())}
theorem zkp (N:Nat) (xss:List (Val (.slice 108 qa))) (K:Int→Option (qc [i31])) (hl:xss.length≤1048576) (n:Nat) (hn:xss.length<n) (s:Int):qid N xss xss xss.length K n s 0=qad (fun _ (x:List (Val qa)) (s:Int) K=>bif decide (IntKind.i64.wrap (s+(x.length:Int))<0)then none else K (IntKind.i64.wrap (s+(x.length:Int)))) 0 xss s K:=
 qaZ (xs:=xss) (F:=fun n i s=>qid N xss xss xss.length K n s i) hl (fun n i s hi=>by rw [qid,qj (by omega),qe (by omega),qI hi]) (fun n i s hi=>by rw [qid,qi (by omega)]) n s hn
theorem zeD (N:Nat) (xss:List (Val (.slice 108 qa))) (K:List (Val qa)→Option (qc [i31])) (hl:xss.length≤1048576) (n:Nat) (hn:xss.length<n) (s:List (Val qa)):qhv N xss xss.length K n 0 s=qad (fun _ (x:List (Val qa)) (s:List (Val qa)) K=>chk (s.length+x.length≤1048576) (K (s++x))) 0 xss s K:=
 qaZ (xs:=xss) (F:=fun n i s=>qhv N xss xss.length K n i s) hl (fun n i s hi=>by rw [qhv,qj (by omega),qe (by omega),qI hi]) (fun n i s hi=>by rw [qhv,qi (by omega)]) n s hn
theorem zdr (xss:List (Val (.slice 108 qa))) (h:qFZ xss): ∃N,qEI N xss=some (qhu xss,()):=⟨xss.length+1,by
 obtain ⟨hl,ht⟩:=h
 have ht':(List.flatten (α:=Val qa) xss).length≤1048576:=ht
 rw [qEI,zkp _ _ _ hl _ (Nat.lt_succ_self _)]
 refine (qZs (α:=Val qa) xss 0 0 (by simpa using ht')).trans ?_
 rw [qe (by omega),zeD _ _ _ hl _ (Nat.lt_succ_self _)]
 exact (q4m (α:=Val qa) xss 0 [] (by simpa using ht')).trans rfl⟩
theorem zeq:Sound Tryz.prog 219 qBS:=qr (tt:=tt) (Γ:=qi7) hT qn hm (fn:=Tryz.f219) Tryz.func219 (c:=Tryz.f219.body.getD .skip) (by kernel_rfl) (by kernel_rfl) fun x hx=>by
 obtain ⟨N,h⟩:=zdr x.1 hx
 exact ⟨qck N,zds,qJH (qOr zzn qPn),zum N,(zhB N x.1).trans h⟩
def qc3 (a:Val qa):Bool:= !qaz a&&(decide ((0:Int)<a.2.1)||(decide ((a.2.1:Int)=0)&&a.2.2))
def qv (d:Int) (l:List (Val qa)):Val Y33:=bif l.any qc3 then qa8 d else (d,qgX (l.filter qaz))
def okL (d:Int) (l:List (Val qa)):Prop:=(0≤d∧d≤4)∧l.length≤1048576∧ ∀a∈l,okA a∧(List.length (α:=Int) a.1:Int)=d
def qaF (d:Int) (l:List (Val qa)):Prop:=okL d l
theorem qZr {ρ:Type} {r:Option ρ} {k:List (Val qa)→Option ρ}: ∀(xs:List (Val qa)) (i:Nat) (s:List (Val qa)),s.length+xs.length≤1048576→
 qad (fun _ (x:Val qa) (s:List (Val qa)) K=>bif qc3 x then r else bif qaz x then chk (s.length+[x].length≤1048576) (K (s++[x]))else K s) i xs s k=bif xs.any qc3 then r else k (s++xs.filter qaz)
 | [],_,s,_=>by rw [qad];simp
 | x::xs,i,s,h=>by
   simp only [List.length_cons]at h
   rw [qad]
   cases hb:qc3 x with
   | true=>simp [hb]
   | false=>
     cases hv:qaz x with
     | true=>simp only [cond_false,cond_true];rw [qe (by simp;omega),qZr xs _ _ (by simp;omega)];simp [hb,hv]
     | false=>simp only [cond_false];rw [qZr xs _ _ (by omega)];simp [hb,hv]
theorem qh9 {a b:Val qa} {d:Int} (ha:okA a∧(List.length (α:=Int) a.1:Int)=d) (hb:okA b∧(List.length (α:=Int) b.1:Int)=d):ql8 a b=qbp (atm a) (atm b):=by
 have h1:qP a=true:=ha.1
 have h2:qP b=true:=hb.1
 have h3:List.length (α:=Int) a.1=List.length (α:=Int) b.1:=by have:=ha.2;have:=hb.2;omega
 simp [ql8,h1,h2,h3]
theorem zq2 {d:Int} {l:List (Val qa)} (hl:l.length≤1048576) (h: ∀a∈l,okA a∧(List.length (α:=Int) a.1:Int)=d) (hv: ∀a∈l,qaz a=true):qHQ (fun _ _=>True) ql8 qaO l:=by
 refine ⟨hl,fun _ _ _ _=>trivial,fun x hx=> ?_,fun x hx y hy z hz h1 h2=> ?_,fun x hx y hy z hz h1 h2=> ?_,fun ys hp ho=> ?_⟩
 ·rw [qh9 (h x hx) (h x hx),qcl.self];omega
 ·rw [qh9 (h x hx) (h y hy)]at h1;rw [qh9 (h y hy) (h z hz)]at h2;rw [qh9 (h x hx) (h z hz)]
  exact qcl.lt_le h1 (Int.le_of_lt h2)
 ·rw [qh9 (h x hx) (h y hy)]at h1;rw [qh9 (h y hy) (h z hz)]at h2;rw [qh9 (h x hx) (h z hz)]
  have a1:=qcl.anti (atm x) (atm y);have a2:=qcl.anti (atm y) (atm z);have a3:=qcl.anti (atm x) (atm z)
  have:=qcl.tr (atm z) (atm y) (atm x) (by omega) (by omega)
  omega
 ·refine zmO (fun a ha=>zau (h a ha).1 (hv a ha)) hp (ho.imp_of_mem fun {a b} ha hb hab=> ?_)
  have ha':=hp.mem_iff.1 ha
  have hb':=hp.mem_iff.1 hb
  rwa [qh9 (h b hb') (h a ha')]at hab
theorem qXn {ρ α:Type} {p:Nat→Bool} {k:List α→Option ρ} {d:α}: ∀(m i:Nat) (hs:List α) (s:List α),hs.length - i=m→i≤hs.length→s.length+m≤1048576→
 qad (fun j (x:α) (s:List α) K=>bif p j then K s else chk (s.length+[x].length≤1048576) (K (s++[x]))) i (hs.drop i) s k=k (s++((List.range' i m).filter fun i=> !p i).map fun i=>hs.getD i d)
 | 0,i,hs,s,h,hi,_=>by rw [List.drop_eq_nil_of_le (by omega),qad];simp
 | m+1,i,hs,s,h,hi,hs'=>by
   have hlt:i<hs.length:=by omega
   rw [qbE hlt,qad,List.range'_succ]
   cases hp:p i with
   | true=>simp only [cond_true];rw [qXn (d:=d) m (i+1) hs s (by omega) (by omega) (by omega)];simp [hp]
   | false=>
     simp only [cond_false]
     rw [qe (by simp;omega),qXn (d:=d) m (i+1) hs _ (by omega) (by omega) (by simp;omega)]
     simp [hp,List.getD,hlt]
def qbz:G:={ps:=[i3,i31],rs:=[i33],dp:=true,pre:=fun x=>qaF x.1 x.2.1,fn:=fun x=>(qv x.1 x.2.1,())}
theorem zd1 (N:Nat) (d:Int) (l:List (Val qa)) (K:List (Val qa)→Option (qc [i33])) (h:okL d l) (n:Nat) (hn:l.length<n) (s:List (Val qa)):qf8 N d l l.length 0 K n 0 s=qad (fun _ (x:Val qa) (s:List (Val qa)) K=>bif qc3 x then some ((qa8 d,()))else bif qaz x then chk (s.length+[x].length≤1048576) (K (s++[x]))else K s) 0 l s K:=
 qaZ (xs:=l) (F:=fun n i s=>qf8 N d l l.length 0 K n i s) h.2.1 (fun n i s hi=>by
  obtain ⟨ha,hlen⟩:=h.2.2 _ (List.getElem_mem hi)
  have h4:=(qbb ha).1
  have hd:=h.1
  rw [qf8,qj (by omega),qe (by omega),qI hi,qe (show qn4 _ from ha)]
  rw [qe (show qcy d from ⟨hd.1,by omega⟩),qe (show qbF _ from by unfold qbF;omega)]
  unfold qc3
  cases hv:qaz l[i]with
  | true=>simp only [Bool.not_true,cond_false,Bool.false_and,cond_true];try rfl
  | false=>
    by_cases c1:(0:Int)<l[i].2.1
    ·simp only [Bool.not_false,cond_true,c1,decide_true,Bool.true_or,Bool.and_self];try rfl
    ·by_cases c2:(l[i].2.1:Int)=0
     ·cases hs:l[i].2.2<;>simp only [Bool.not_false,cond_true,c1,c2,decide_true,decide_false,Bool.false_or,Bool.and_true,Bool.and_false,cond_false,Bool.true_and]<;>(try rfl)
     ·simp only [Bool.not_false,cond_true,c1,c2,decide_false,Bool.false_or,Bool.and_false,Bool.false_and,cond_false]) (fun n i s hi=>by rw [qf8,qi (by omega)]) n s hn
theorem zf4 (N:Nat) (d:Int) (S:List (Val qa)) (hs:List (Val (hd qa))) (K:List (Val (hd qa))→Option (qc [i33])) (hp:qdR qa hs S) (hSl:S.length≤1048576) (hSm: ∀a∈S,okA a∧(List.length (α:=Int) a.1:Int)=d) (n:Nat) (hn:hs.length<n) (s:List (Val (hd qa))):qeA N hs.length hs S 0 hs d K n 0 s=qad (fun j (x:Val (hd qa)) (s:List (Val (hd qa))) K=>bif qfO S j then K s else chk (s.length+[x].length≤1048576) (K (s++[x]))) 0 hs s K:=
 have hl2:hs.length=S.length:=hp.1
 qaZ (xs:=hs) (F:=fun n i s=>qeA N hs.length hs S 0 hs d K n i s) (by omega) (fun n i s hi=>by
  have h1:i<S.length:=by omega
  have e1:(i:Int).toNat=i:=rfl
  rw [qeA,qj (by omega),qe (by omega),e1,qe hi]
  rw [qna hi (by omega)]
  have hg: ∀j,j<S.length→lk qa hs S (hs.getD j (qb (hd qa)))=S.getD j (qb qa):=fun j hj=>q6q hp hj
  have hm: ∀j,j<hs.length→hs.getD j (qb (hd qa))∈hs:=fun j hj=>by rw [qen hj];exact List.getElem_mem _
  have hv: ∀j,j<S.length→S.getD j (qb qa)∈S:=fun j hj=>by rw [qen hj];exact List.getElem_mem _
  by_cases h2:i+1<hs.length
  ·have e2:((i+1:Nat):Int).toNat=i+1:=rfl
   have m1:=hSm _ (hv i h1)
   have m2:=hSm _ (hv (i+1) (by omega))
   rw [qj (by omega),e2,qe (by omega),qe h2,hg i h1,hg (i+1) (by omega),qe ⟨hp.2.1,⟨hm i hi,hm (i+1) h2⟩,m1.1,m2.1,by have:=m1.2;have:=m2.2;omega⟩]
   have e3:qfO S i=decide ((qbK (S.getD i (qb qa)) (S.getD (i+1) (qb qa)))=0):=by
        unfold qfO
        rw [show decide (i+1<S.length)=true by simp;omega,Bool.true_and]
        rfl
   rw [e3,qen hi]
  ·rw [qi (by omega)]
   have e3:qfO S i=false:=by
        unfold qfO
        rw [show decide (i+1<S.length)=false by simp;omega,Bool.false_and]
   rw [e3,qen hi]
   rfl) (fun n i s hi=>by rw [qeA,qi (by omega)]) n s hn
theorem zqZ (d:Int) (l:List (Val qa)) (h:qaF d l): ∃N,qzk N d l=some (qv d l,()):=⟨l.length+1,by
 have h0:=h
 obtain ⟨hdd,hl,hok⟩:=h
 rw [qzk,zd1 _ _ _ _ h0 _ (Nat.lt_succ_self _)]
 refine (qZr l 0 [] (by simpa using hl)).trans ?_
 rw [qv]
 cases hb:l.any qc3 with
 | true=>rfl
 | false=>
   simp only [cond_false,List.nil_append]
   generalize hK:l.filter qaz=K
   have hKl:K.length≤l.length:=by rw [←hK];exact List.length_filter_le _ _
   have hKm: ∀a∈K,(okA a∧(List.length (α:=Int) a.1:Int)=d)∧qaz a=true:=fun a ha=>by
    rw [←hK]at ha
    exact ⟨hok a (List.mem_filter.1 ha).1,(List.mem_filter.1 ha).2⟩
   rw [qe (show qfa.pre K from zq2 (by omega) (fun a ha=>(hKm a ha).1) fun a ha=>(hKm a ha).2)]
   generalize hS:qaO K=S
   have hperm:S.Perm K:=by rw [←hS];exact qAx K
   have hSm: ∀a∈S,okA a∧(List.length (α:=Int) a.1:Int)=d:=fun a ha=>(hKm a (hperm.mem_iff.1 ha)).1
   have hSl:S.length=K.length:=hperm.length_eq
   obtain ⟨hs0,g0⟩:=q7L qa S
   refine qGu ⟨([],hs0),g0⟩ fun p hp=> ?_
   obtain ⟨F,hs⟩:=p
   have hp:qdR qa hs S:=hp
   have hl2:hs.length=S.length:=hp.1
   dsimp only
   rw [zf4 _ d S hs _ hp (by omega) hSm _ (by omega)]
   refine (qXn (d:=qb (hd qa)) hs.length 0 hs [] (by omega) (by omega) (by simp;omega)).trans ?_
   have e:(List.range' 0 hs.length).filter (fun i=> !qfO S i)=qcO S:=by
    rw [hl2];unfold qcO qiB;rw [List.range_eq_range']
   rw [e,List.nil_append,qe ⟨rfl,znC S,fun i hi=>qAw hi,hp.2.1,hl2⟩]
   have:=zBn (xs:=K) fun a ha=>zau (hKm a ha).1.1 (hKm a ha).2
   rw [show qli K=S from hS]at this
   exact congrArg (fun x=>some ((d,x),())) this⟩
theorem qrK:Sound Tryz.prog 230 qbz:=qr (tt:=tt) (Γ:=qer) hT (qg q2S (qg q7m (qg q8B (qg q7F qn)))) hm (fn:=Tryz.f230) Tryz.func230 (c:=Tryz.f230.body.getD .skip) (by kernel_rfl) (by kernel_rfl) fun x hx=>by
 obtain ⟨N,h⟩:=zqZ x.1 x.2.1 hx
 exact ⟨qco N,znz,qJH (qOr zmT qPn),zvL N,(ztq N x.1 x.2.1).trans h⟩
end Go.T
