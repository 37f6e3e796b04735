/- T: what the machine's memory says of T's values and states. -/
import Derived.Test.YtlhkmndfkjlodaaT1
import Derived.Laws.OwnMore
set_option linter.unusedSimpArgs false
set_option linter.unusedVariables false
namespace Go.T
open Go
theorem qy7 {α:Type}: ∀(x:Ask α) (w:World),w.drawn≤(w.ask x).2.drawn
 | .done a,w=>Nat.le_refl _
 | .ask what range k,w=>by
   simp only [World.ask]
   split
   ·exact qy7 _ w
   ·exact Nat.le_trans (Nat.le_succ _) (qy7 _ {w with drawn:=w.drawn+1})
theorem qLd (w:World) (c:Sys):w.drawn≤(w.sys c).2.drawn:=by
 have h:=qy7 (Kernel.perform c w.os) w
 unfold World.sys
 split
 ·exact Nat.le_refl _
 ·rename_i r os w1 _ e
  rw [e]at h;exact h
theorem qQc {p:Program} {w w':World} {a:Addr} {v:Value} {b:Bool} {l:List Addr} (h:w.farStore p a v b= .ok (w',l)):w'.drawn=w.drawn:=by
 unfold World.farStore at h
 split at h
 ·split at h
  ·rename_i r hr
   cases h
   unfold World.viewStore at hr
   simp only [bind,Except.bind,pure,Except.pure]at hr
   repeat' split at hr
   all_goals first | (cases hr;rfl) | (simp [throw,throwThe,MonadExceptOf.throw]at hr)
  ·simp at h
 ·simp at h
theorem qGH {α:Type} (p:Program): ∀(s:Sem α) (w:World) {x:α} {w':World},s.run p w= .ok x w'→w.drawn≤w'.drawn:=by
 intro s
 induction s with
 | pure a=>intro w x w' h;simp only [Sem.run,Result.ok.injEq]at h;rw [h.2];exact Nat.le_refl _
 | load m a k ih=>
   intro w x w' h;simp only [Sem.run]at h
   split at h
   ·exact ih _ w h
   ·split at h
    ·exact ih _ w h
    ·simp at h
 | store m a v k ih=>
   intro w x w' h
   cases v
   case agg=>simp [Sem.run]at h
   case tuple=>simp [Sem.run]at h
   all_goals
    simp only [Sem.run]at h
    split at h
    ·split at h
     ·simp at h
     ·have:=ih _ h
      rwa [World.drawn_setCell]at this
    ·split at h
     ·rename_i w1 l e
      have:=ih _ h;rwa [qQc e]at this
     ·simp at h
 | new o k ih=>intro w x w' h;simp only [Sem.run]at h;have:=ih _ _ h;exact this
 | shape r k ih=>intro w x w' h;simp only [Sem.run]at h;exact ih _ w h
 | freeze a n k ih=>
   intro w x w' h;simp only [Sem.run]at h
   have:=ih _ h
   refine Nat.le_trans (Nat.le_of_eq ?_) this
   unfold World.freeze
   repeat' split
   all_goals rfl
 | frozen a k ih=>intro w x w' h;simp only [Sem.run]at h;exact ih _ w h
 | getObj r k ih=>
   intro w x w' h;simp only [Sem.run]at h
   split at h
   ·simp at h
   ·exact ih _ w h
   ·simp at h
 | setObj r o k ih=>
   intro w x w' h;simp only [Sem.run]at h
   split at h
   ·simp at h
   ·have:=ih _ h;exact this
   ·simp at h
 | choose q k ih=>
   intro w x w' h;simp only [Sem.run]at h
   split at h
   ·exact ih _ w h
   ·exact Nat.le_trans (Nat.le_succ _) (ih _ _ h)
 | sys c k ih=>intro w x w' h;simp only [Sem.run]at h;exact Nat.le_trans (qLd w c) (ih _ _ h)
 | program k ih=>intro w x w' h;simp only [Sem.run]at h;exact ih _ w h
 | mark m k ih=>intro w x w' h;simp only [Sem.run]at h;exact ih w h
 | halt e=>intro w x w' h;simp [Sem.run]at h
inductive F2 {α β:Type} (R:α→β→Prop):List α→List β→Prop
 | nil:F2 R [] []
 | cons {a b as bs}:R a b→F2 R as bs→F2 R (a::as) (b::bs)
namespace F2
variable {α β : Type} {R S : α → β → Prop}
theorem imp {as:List α} {bs:List β} (h:F2 R as bs) (f: ∀a b,a∈as→R a b→S a b):F2 S as bs:=by
 induction h with
 | nil=>exact .nil
 | cons hr _ ih=>exact .cons (f _ _ (by simp) hr) (ih fun a b ha hr=>f a b (by simp [ha]) hr)
theorem len {as:List α} {bs:List β} (h:F2 R as bs):as.length=bs.length:=by
 induction h with
 | nil=>rfl
 | cons _ _ ih=>simp [ih]
theorem append {as as':List α} {bs bs':List β} (h:F2 R as bs) (h':F2 R as' bs'):F2 R (as++as') (bs++bs'):=by
 induction h with
 | nil=>exact h'
 | cons hr _ ih=>exact .cons hr ih
theorem get {as:List α} {bs:List β} (h:F2 R as bs) {i:Nat} {a:α} (ha:as[i]?=some a): ∃b,bs[i]?=some b∧R a b:=by
 induction h generalizing i with
 | nil=>simp at ha
 | cons hr _ ih=>
   cases i with
   | zero=>simp at ha;subst ha;exact ⟨_,by simp,hr⟩
   | succ i=>simpa using ih (by simpa using ha)
theorem get' {as:List α} {bs:List β} (h:F2 R as bs) {i:Nat} {b:β} (hb:bs[i]?=some b): ∃a,as[i]?=some a∧R a b:=by
 induction h generalizing i with
 | nil=>simp at hb
 | cons hr _ ih=>
   cases i with
   | zero=>simp at hb;subst hb;exact ⟨_,by simp,hr⟩
   | succ i=>simpa using ih (by simpa using hb)
theorem take {as:List α} {bs:List β} (h:F2 R as bs) (n:Nat):F2 R (as.take n) (bs.take n):=by
 induction h generalizing n with
 | nil=>simp;exact .nil
 | cons hr _ ih=>
   cases n with
   | zero=>simp;exact .nil
   | succ n=>simp;exact .cons hr (ih n)
theorem drop {as:List α} {bs:List β} (h:F2 R as bs) (n:Nat):F2 R (as.drop n) (bs.drop n):=by
 induction h generalizing n with
 | nil=>simp;exact .nil
 | cons hr hs ih=>
   cases n with
   | zero=>simpa using .cons hr hs
   | succ n=>simpa using ih n
theorem split {as as':List α} {bs:List β} (h:F2 R (as++as') bs): ∃b1 b2,bs=b1++b2∧F2 R as b1∧F2 R as' b2:=by
 refine ⟨bs.take as.length,bs.drop as.length,by simp,?_,?_⟩
 ·simpa using h.take as.length
 ·simpa using h.drop as.length
theorem set {as:List α} {bs:List β} (h:F2 R as bs) (i:Nat) {a:α} {b:β} (hr:R a b):F2 R (as.set i a) (bs.set i b):=by
 induction h generalizing i with
 | nil=>simp;exact .nil
 | cons hr' hs ih=>
   cases i with
   | zero=>simpa using .cons hr hs
   | succ i=>simpa using .cons hr' (ih i)
end F2
def At (w:World) (a:Addr) (cs:List Value):Prop:= ∀j u,cs[j]?=some u→w.cell? (a.add j)=some u
def Rd {α:Type} (w:World) (ok:Nat→Prop) (sz:Nat) (R:α→List Value→Prop) (A:Option Addr) (xs:List α):Prop:=
 ∀i x,xs[i]?=some x→ ∃a cs,A=some a∧ok a.block∧R x cs∧At w (a.add (i*sz)) cs
def K (w:World) (ok:Nat→Prop):(t:Ty)→Val t→List Value→Prop
 | .int k,n,cs=>cs=[.int k n]
 | .bool,b,cs=>cs=[.bool b]
 | .str,s,cs=>cs=[.string s]
 | .hdr,v,cs=>cs=[v]∧v.oneCell'=true
 | .slice _ t,xs,cs=> ∃A c,cs=[.slice A xs.length c]∧xs.length≤c∧Rd w ok t.sz (K w ok t) A xs
 | .pair a b,v,cs=> ∃c1 c2,cs=c1++c2∧K w ok a v.1 c1∧K w ok b v.2 c2
def Ks {α:Type} (R:α→List Value→Prop):List α→List Value→Prop
 | [],cs=>cs=[]
 | x::xs,cs=> ∃c1 c2,cs=c1++c2∧R x c1∧Ks R xs c2
def Ms {α:Type} (R:α→List Value→List Nat→Prop):List α→List Value→List Nat→Prop
 | [],cs,B=>cs=[]∧B=[]
 | x::xs,cs,B=> ∃c1 c2 B1 B2,cs=c1++c2∧B=B1++B2∧R x c1 B1∧Ms R xs c2 B2
def M (w:World):(t:Ty)→Val t→List Value→List Nat→Prop
 | .int k,n,cs,B=>cs=[.int k n]∧B=[]
 | .bool,b,cs,B=>cs=[.bool b]∧B=[]
 | .str,s,cs,B=>cs=[.string s]∧B=[]
 | .hdr,v,cs,B=>(cs=[v]∧v.oneCell'=true)∧B=[]
 | .slice e t,xs,cs,B=> ∃v inner Bs,cs=[v]∧B=v.ownBlock.toList++Bs∧w.ownsRow 0 e t.sz v xs.length inner∧Ms (M w t) xs inner Bs
 | .pair a b,v,cs,B=> ∃c1 c2 B1 B2,cs=c1++c2∧B=B1++B2∧M w a v.1 c1 B1∧M w b v.2 c2 B2
theorem Ty.sz_pos: ∀t:Ty,0<t.sz
 | .pair a b=>by have:=a.sz_pos;simp [Ty.sz];omega
 | .int _ | .bool | .str | .hdr | .slice _ _=>by simp [Ty.sz]
theorem qen (a:Addr) (i j:Nat):(a.add i).add j=a.add (i+j):=by
 unfold Addr.add
 by_cases hi:i=0
 ·simp [hi]
 ·by_cases hj:j=0
  ·simp [hi,hj]
  ·simp [hi,hj,Nat.add_assoc]
theorem qc4 (a:Addr) (i:Nat):(a.add i).block=a.block:=by unfold Addr.add;split<;>rfl
theorem At.block_lt {w:World} {a:Addr} {cs:List Value} (h:At w a cs) (hl:0<cs.length):a.block<w.heap.size:=by
 have hc:=h 0 cs[0] (by simp [List.getElem?_eq_getElem hl])
 have:=World.block_lt_of_cell? w _ hc
 rwa [qc4]at this
theorem At.move {w w':World} {a:Addr} {cs:List Value} (h:At w a cs) (hb:w'.heap[a.block]?=w.heap[a.block]?):At w' a cs:=by
 intro j u hu
 rw [World.cell?_of_block (w:=w) (by rw [qc4];exact hb)]
 exact h j u hu
theorem At.append {w:World} {a:Addr} {c1 c2:List Value} (h:At w a (c1++c2)):At w a c1∧At w (a.add c1.length) c2:=by
 constructor
 ·intro j u hu
  have hj:j<c1.length:=(List.getElem?_eq_some_iff.1 hu).1
  exact h j u (by rw [List.getElem?_append_left hj];exact hu)
 ·intro j u hu
  rw [qen]
  exact h _ u (by rw [List.getElem?_append_right (by omega)];simpa using hu)
theorem At.sub {w:World} {a:Addr} {cs:List Value} (h:At w a cs) (f n:Nat):At w (a.add f) ((cs.drop f).take n):=by
 intro j u hu
 rw [qen]
 apply h
 rw [List.getElem?_take]at hu
 split at hu
 ·simpa using hu
 ·cases hu
theorem qaj {w:World} {ok:Nat→Prop}: ∀{t:Ty} {v:Val t} {cs:List Value},K w ok t v cs→cs.length=t.sz
 | .int _,_,_,h=>by rw [K]at h;rw [h];rfl
 | .bool,_,_,h=>by rw [K]at h;rw [h];rfl
 | .str,_,_,h=>by rw [K]at h;rw [h];rfl
 | .hdr,_,_,h=>by rw [K]at h;rw [h.1];rfl
 | .slice _ _,_,_,h=>by rw [K]at h;obtain ⟨A,c,rfl,_⟩:=h;rfl
 | .pair a b,_,_,h=>by
   rw [K]at h
   obtain ⟨c1,c2,rfl,h1,h2⟩:=h
   rw [List.length_append,qaj h1,qaj h2];rfl
theorem qkk {w:World} {ok:Nat→Prop}: ∀{t:Ty} {v:Val t} {cs:List Value},K w ok t v cs→ ∀u∈cs,u.oneCell'=true
 | .int _,_,_,h=>by rw [K]at h;rw [h];simp [Value.oneCell']
 | .bool,_,_,h=>by rw [K]at h;rw [h];simp [Value.oneCell']
 | .str,_,_,h=>by rw [K]at h;rw [h];simp [Value.oneCell']
 | .hdr,_,_,h=>by rw [K]at h;rw [h.1];simpa using h.2
 | .slice _ _,_,_,h=>by rw [K]at h;obtain ⟨A,c,rfl,_⟩:=h;simp [Value.oneCell']
 | .pair a b,_,_,h=>by
   rw [K]at h
   obtain ⟨c1,c2,rfl,h1,h2⟩:=h
   intro u hu
   rcases List.mem_append.1 hu with hu | hu
   ·exact qkk h1 u hu
   ·exact qkk h2 u hu
theorem qaf {w w':World} {ok ok':Nat→Prop} (hm: ∀b,ok b→b<w.heap.size→w'.heap[b]?=w.heap[b]?) (hok: ∀b,ok b→b<w.heap.size→ok' b):
 ∀{t:Ty} {v:Val t} {cs:List Value},K w ok t v cs→K w' ok' t v cs
 | .int _,_,_,h=>by rw [K]at h ⊢;exact h
 | .bool,_,_,h=>by rw [K]at h ⊢;exact h
 | .str,_,_,h=>by rw [K]at h ⊢;exact h
 | .hdr,_,_,h=>by rw [K]at h ⊢;exact h
 | .slice _ t,xs,_,h=>by
   rw [K]at h ⊢
   obtain ⟨A,c,rfl,hl,hr⟩:=h
   refine ⟨A,c,rfl,hl,fun i x hx=> ?_⟩
   obtain ⟨a,cs,hA,ha,hK,hat⟩:=hr i x hx
   have hlt:a.block<w.heap.size:=by
    have:=hat.block_lt (by rw [qaj hK];exact t.sz_pos)
    rwa [qc4]at this
   exact ⟨a,cs,hA,hok _ ha hlt,qaf hm hok hK,hat.move (by rw [qc4];exact hm _ ha hlt)⟩
 | .pair a b,_,_,h=>by
   rw [K]at h ⊢
   obtain ⟨c1,c2,rfl,h1,h2⟩:=h
   exact ⟨c1,c2,rfl,qaf hm hok h1,qaf hm hok h2⟩
theorem qf6 {w w':World} {ok ok':Nat→Prop} (hm: ∀b,ok b→b<w.heap.size→w'.heap[b]?=w.heap[b]?) (hok: ∀b,ok b→b<w.heap.size→ok' b)
 {t:Ty} {A:Option Addr} {xs:List (Val t)} (h:Rd w ok t.sz (K w ok t) A xs):Rd w' ok' t.sz (K w' ok' t) A xs:=by
 intro i x hx
 obtain ⟨a,cs,hA,ha,hK,hat⟩:=h i x hx
 have hlt:a.block<w.heap.size:=by
  have:=hat.block_lt (by rw [qaj hK];exact t.sz_pos)
  rwa [qc4]at this
 exact ⟨a,cs,hA,hok _ ha hlt,qaf hm hok hK,hat.move (by rw [qc4];exact hm _ ha hlt)⟩
section
variable {α : Type} {R S : α → List Value → Prop}
theorem Ks.imp {xs:List α} {cs:List Value} (h:Ks R xs cs) (f: ∀x c,R x c→S x c):Ks S xs cs:=by
 induction xs generalizing cs with
 | nil=>exact h
 | cons x xs ih=>obtain ⟨c1,c2,rfl,h1,h2⟩:=h;exact ⟨c1,c2,rfl,f _ _ h1,ih h2⟩
theorem Ks.len {xs:List α} {cs:List Value} {sz:Nat} (hs: ∀x c,R x c→c.length=sz) (h:Ks R xs cs):cs.length=xs.length*sz:=by
 induction xs generalizing cs with
 | nil=>rw [Ks]at h;rw [h];simp
 | cons x xs ih=>
   obtain ⟨c1,c2,rfl,h1,h2⟩:=h
   rw [List.length_append,hs _ _ h1,ih h2,List.length_cons,Nat.succ_mul,Nat.add_comm]
theorem Ks.append {xs ys:List α} {cs ds:List Value} (h:Ks R xs cs) (h':Ks R ys ds):Ks R (xs++ys) (cs++ds):=by
 induction xs generalizing cs with
 | nil=>rw [Ks]at h;subst h;exact h'
 | cons x xs ih=>
   obtain ⟨c1,c2,rfl,h1,h2⟩:=h
   exact ⟨c1,c2++ds,by simp,h1,ih h2⟩
theorem Ks.get {xs:List α} {cs:List Value} {sz:Nat} (hs: ∀x c,R x c→c.length=sz) (h:Ks R xs cs) {i:Nat} {x:α} (hx:xs[i]?=some x):
 R x ((cs.drop (i*sz)).take sz):=by
 induction xs generalizing cs i with
 | nil=>simp at hx
 | cons y xs ih=>
   obtain ⟨c1,c2,rfl,h1,h2⟩:=h
   cases i with
   | zero=>
     simp at hx
     subst hx
     have:=hs _ _ h1
     simp [←this]
     exact h1
   | succ i=>
     have hl:=hs _ _ h1
     have:=ih h2 (i:=i) (by simpa using hx)
     rw [show (i+1)*sz=c1.length+i*sz by rw [hl,Nat.succ_mul,Nat.add_comm],List.drop_append,List.drop_eq_nil_of_le (by omega)]
     simpa using this
theorem Ks.set {xs:List α} {cs:List Value} {sz:Nat} (hs: ∀x c,R x c→c.length=sz) (h:Ks R xs cs) (i:Nat) {x:α} {c:List Value} (hi:i<xs.length) (hx:R x c):
 Ks R (xs.set i x) (cs.take (i*sz)++c++cs.drop (i*sz+sz)):=by
 induction xs generalizing cs i with
 | nil=>simp at hi
 | cons y xs ih=>
   obtain ⟨c1,c2,rfl,h1,h2⟩:=h
   have hl:=hs _ _ h1
   cases i with
   | zero=>
     simp only [Nat.zero_mul,List.take_zero,List.nil_append,Nat.zero_add,List.set_cons_zero]
     exact ⟨c,c2,by rw [←hl];simp,hx,h2⟩
   | succ i=>
     have:=ih h2 i (by simpa using hi)
     refine ⟨c1,c2.take (i*sz)++c++c2.drop (i*sz+sz),?_,h1,this⟩
     have e:(i+1)*sz=c1.length+i*sz:=by rw [hl,Nat.succ_mul,Nat.add_comm]
     rw [e,show c1.length+i*sz+sz=c1.length+(i*sz+sz) by omega,List.drop_append,List.take_append,List.drop_eq_nil_of_le (by omega),List.take_of_length_le (by omega)]
     simp
end
section
variable {α : Type} {R S : α → List Value → List Nat → Prop}
theorem Ms.imp {xs:List α} {cs:List Value} {B:List Nat} (h:Ms R xs cs B) (f: ∀x c b,(∀k∈b,k∈B)→R x c b→S x c b):Ms S xs cs B:=by
 induction xs generalizing cs B with
 | nil=>exact h
 | cons x xs ih=>
   obtain ⟨c1,c2,B1,B2,rfl,rfl,h1,h2⟩:=h
   exact ⟨c1,c2,B1,B2,rfl,rfl,f _ _ _ (fun k hk=>List.mem_append_left _ hk) h1,ih h2 fun x c b hb=>f x c b fun k hk=>List.mem_append_right _ (hb k hk)⟩
theorem Ms.toKs {T:α→List Value→Prop} {xs:List α} {cs:List Value} {B:List Nat} (h:Ms R xs cs B) (f: ∀x c b,(∀k∈b,k∈B)→R x c b→T x c):Ks T xs cs:=by
 induction xs generalizing cs B with
 | nil=>exact h.1
 | cons x xs ih=>
   obtain ⟨c1,c2,B1,B2,rfl,rfl,h1,h2⟩:=h
   exact ⟨c1,c2,rfl,f _ _ _ (fun k hk=>List.mem_append_left _ hk) h1,ih h2 fun x c b hb=>f x c b fun k hk=>List.mem_append_right _ (hb k hk)⟩
theorem Ms.append {xs ys:List α} {cs ds:List Value} {B D:List Nat} (h:Ms R xs cs B) (h':Ms R ys ds D):Ms R (xs++ys) (cs++ds) (B++D):=by
 induction xs generalizing cs B with
 | nil=>obtain ⟨rfl,rfl⟩:=h;exact h'
 | cons x xs ih=>
   obtain ⟨c1,c2,B1,B2,rfl,rfl,h1,h2⟩:=h
   exact ⟨c1,c2++ds,B1,B2++D,by simp,by simp,h1,ih h2⟩
end
theorem Rd.of_Ks {α:Type} {w:World} {ok:Nat→Prop} {sz:Nat} {R:α→List Value→Prop} {a:Addr} {xs:List α} {cs:List Value}
 (hs: ∀x c,R x c→c.length=sz) (h:Ks R xs cs) (hat:At w a cs) (ha:ok a.block):Rd w ok sz R (some a) xs:=by
 intro i x hx
 exact ⟨a,_,rfl,ha,h.get hs hx,hat.sub (i*sz) sz⟩
theorem qAT {w:World} {base:Nat} {e:TypeId} {size:Nat} {v:Value} {n:Nat} {xs:List Value} (h:w.ownsRow base e size v n xs) {g:Nat} (hg:v.ownBlock=some g):At w ⟨g,0,none⟩ xs:=
 h.cells hg
theorem qc8 {w:World} {base:Nat} {e:TypeId} {size:Nat} {v:Value} {n:Nat} {xs:List Value} (h:w.ownsRow base e size v n xs):
 ∃A c,v= .slice A n c∧n≤c∧(∀a,A=some a→v.ownBlock=some a.block∧a=⟨a.block,0,none⟩)∧(A=none→n=0):=by
 rcases h.2 with ⟨rfl,rfl⟩ | ⟨g,cap,cur,rfl,_,_,hc,_⟩
 ·exact ⟨none,0,rfl,Nat.le_refl _,fun a ha=>by simp at ha,fun _=>rfl⟩
 ·exact ⟨some ⟨g,0,none⟩,cap,rfl,hc,fun a ha=>by injection ha with ha;subst ha;exact ⟨rfl,rfl⟩,fun ha=>by simp at ha⟩
theorem qmx {α:Type} {w:World} {base:Nat} {e:TypeId} {sz:Nat} {v:Value} {xs:List α} {inner:List Value} {R:α→List Value→Prop} {ok:Nat→Prop}
 (h:w.ownsRow base e sz v xs.length inner) (hs: ∀x c,R x c→c.length=sz) (hk:Ks R xs inner) (hok: ∀b,v.ownBlock=some b→ok b):
 ∃A c,v= .slice A xs.length c∧xs.length≤c∧Rd w ok sz R A xs:=by
 obtain ⟨A,c,rfl,hc,hA,hn⟩:=qc8 h
 refine ⟨A,c,rfl,hc,?_⟩
 cases A with
 | none=>
   have:=hn rfl
   intro i x hx
   have:=(List.getElem?_eq_some_iff.1 hx).1
   omega
 | some a=>
   obtain ⟨hb,ha⟩:=hA a rfl
   have hat:=qAT h hb
   rw [←ha]at hat
   exact Rd.of_Ks hs hk hat (hok _ hb)
theorem M_K {w:World} {ok:Nat→Prop}: ∀{t:Ty} {v:Val t} {cs:List Value} {B:List Nat},M w t v cs B→(∀b∈B,ok b)→K w ok t v cs
 | .int _,_,_,_,h,_=>by rw [M]at h;rw [K];exact h.1
 | .bool,_,_,_,h,_=>by rw [M]at h;rw [K];exact h.1
 | .str,_,_,_,h,_=>by rw [M]at h;rw [K];exact h.1
 | .hdr,_,_,_,h,_=>by rw [M]at h;rw [K];exact h.1
 | .slice e t,xs,_,_,h,hok=>by
   rw [M]at h;rw [K]
   obtain ⟨v,inner,Bs,rfl,rfl,ho,hm⟩:=h
   have hk:Ks (K w ok t) xs inner:=hm.toKs fun x c b hb hx=>M_K hx fun k hk=>hok k (List.mem_append_right _ (hb k hk))
   obtain ⟨A,c,he,hc,hr⟩:=qmx (ok:=ok) ho (fun x c hx=>qaj hx) hk fun b hb=>hok b (List.mem_append_left _ (by simp [hb]))
   exact ⟨A,c,by rw [he],hc,hr⟩
 | .pair a b,_,_,_,h,hok=>by
   rw [M]at h;rw [K]
   obtain ⟨c1,c2,B1,B2,rfl,rfl,h1,h2⟩:=h
   exact ⟨c1,c2,rfl,M_K h1 fun k hk=>hok k (List.mem_append_left _ hk),M_K h2 fun k hk=>hok k (List.mem_append_right _ hk)⟩
theorem qe9 {w:World} {t:Ty} {v:Val t} {cs:List Value} {B:List Nat} (h:M w t v cs B):cs.length=t.sz:=qaj (M_K (ok:=fun _=>True) h fun _ _=>trivial)
theorem qOB {w:World} {t:Ty} {v:Val t} {cs:List Value} {B:List Nat} (h:M w t v cs B): ∀u∈cs,u.oneCell'=true:=qkk (M_K (ok:=fun _=>True) h fun _ _=>trivial)
theorem qCh {w w':World} {base:Nat} {e:TypeId} {size:Nat} {v:Value} {n:Nat} {xs:List Value} (h:w.ownsRow base e size v n xs) (hb: ∀b,v.ownBlock=some b→w'.heap[b]?=w.heap[b]?):w'.ownsRow base e size v n xs:=by
 refine ⟨h.1,?_⟩
 rcases h.2 with h | ⟨g,cap,cur,rfl,hg,hh,r⟩
 ·exact .inl h
 ·exact .inr ⟨g,cap,cur,rfl,hg,(hb g rfl).trans hh,r⟩
theorem qb1 {w w':World}: ∀{t:Ty} {v:Val t} {cs:List Value} {B:List Nat},M w t v cs B→(∀b∈B,w'.heap[b]?=w.heap[b]?)→M w' t v cs B
 | .int _,_,_,_,h,_=>by rw [M]at h ⊢;exact h
 | .bool,_,_,_,h,_=>by rw [M]at h ⊢;exact h
 | .str,_,_,_,h,_=>by rw [M]at h ⊢;exact h
 | .hdr,_,_,_,h,_=>by rw [M]at h ⊢;exact h
 | .slice e t,xs,_,_,h,hb=>by
   rw [M]at h ⊢
   obtain ⟨v,inner,Bs,rfl,rfl,ho,hm⟩:=h
   exact ⟨v,inner,Bs,rfl,rfl,qCh ho fun b hv=>hb b (List.mem_append_left _ (by simp [hv])),hm.imp fun x c b hk hx=>qb1 hx fun k hk'=>hb k (List.mem_append_right _ (hk k hk'))⟩
 | .pair a b,_,_,_,h,hb=>by
   rw [M]at h ⊢
   obtain ⟨c1,c2,B1,B2,rfl,rfl,h1,h2⟩:=h
   exact ⟨c1,c2,B1,B2,rfl,rfl,qb1 h1 fun k hk=>hb k (List.mem_append_left _ hk),qb1 h2 fun k hk=>hb k (List.mem_append_right _ hk)⟩
theorem qxr {α:Type} {w:World} {R:α→List Value→List Nat→Prop} (hR: ∀x c b,R x c b→ ∀k∈b,k<w.heap.size) {xs:List α} {cs:List Value} {B:List Nat} (h:Ms R xs cs B): ∀k∈B,k<w.heap.size:=by
 induction xs generalizing cs B with
 | nil=>obtain ⟨_,rfl⟩:=h;simp
 | cons x xs ih=>
   obtain ⟨c1,c2,B1,B2,rfl,rfl,h1,h2⟩:=h
   intro k hk
   rcases List.mem_append.1 hk with hk | hk
   ·exact hR _ _ _ h1 k hk
   ·exact ih h2 k hk
theorem qhM {w:World}: ∀{t:Ty} {v:Val t} {cs:List Value} {B:List Nat},M w t v cs B→ ∀k∈B,k<w.heap.size
 | .int _,_,_,_,h=>by rw [M]at h;simp [h.2]
 | .bool,_,_,_,h=>by rw [M]at h;simp [h.2]
 | .str,_,_,_,h=>by rw [M]at h;simp [h.2]
 | .hdr,_,_,_,h=>by rw [M]at h;simp [h.2]
 | .slice e t,xs,_,_,h=>by
   rw [M]at h
   obtain ⟨v,inner,Bs,rfl,rfl,ho,hm⟩:=h
   intro k hk
   rcases List.mem_append.1 hk with hk | hk
   ·exact (ho.lt k (by simpa using hk)).2
   ·exact qxr (fun x c b hx=>qhM hx) hm k hk
 | .pair a b,_,_,_,h=>by
   rw [M]at h
   obtain ⟨c1,c2,B1,B2,rfl,rfl,h1,h2⟩:=h
   intro k hk
   rcases List.mem_append.1 hk with hk | hk
   ·exact qhM h1 k hk
   ·exact qhM h2 k hk
def Nst (w:World):(t:Ty)→Val t→Val (hd t)→List Nat→Prop
 | .int _,_,_,B=>B=[]
 | .bool,_,_,B=>B=[]
 | .str,_,_,B=>B=[]
 | .hdr,_,_,B=>B=[]
 | .slice e t,v,h,B=>M w (.slice e t) v [h] B
 | .pair a b,v,h,B=> ∃B1 B2,B=B1++B2∧Nst w a v.1 h.1 B1∧Nst w b v.2 h.2 B2
def qam (w:World) (t:Ty):List (Val t)→List (Val (hd t))→List Nat→Prop
 | [],[],B=>B=[]
 | v::vs,h::hs,B=> ∃B1 B2,B=B1++B2∧Nst w t v h B1∧qam w t vs hs B2
 | _,_,_=>False
theorem qfz {w w':World}: ∀{t:Ty} {v:Val t} {h:Val (hd t)} {B:List Nat},Nst w t v h B→(∀b∈B,w'.heap[b]?=w.heap[b]?)→Nst w' t v h B
 | .int _,_,_,_,hn,_ | .bool,_,_,_,hn,_ | .str,_,_,_,hn,_ | .hdr,_,_,_,hn,_=>hn
 | .slice _ _,_,_,_,hn,hb=>qb1 hn hb
 | .pair a b,_,_,_,hn,hb=>by
   obtain ⟨B1,B2,rfl,h1,h2⟩:=hn
   exact ⟨B1,B2,rfl,qfz h1 fun b hb'=>hb b (by simp [hb']),qfz h2 fun b hb'=>hb b (by simp [hb'])⟩
theorem qu3 {w w':World} {t:Ty}: ∀{vs:List (Val t)} {hs:List (Val (hd t))} {B:List Nat},qam w t vs hs B→(∀b∈B,w'.heap[b]?=w.heap[b]?)→qam w' t vs hs B
 | [],[],_,hn,_=>hn
 | [],_::_,_,hn,_=>hn.elim
 | _::_,[],_,hn,_=>hn.elim
 | v::vs,h::hs,_,hn,hb=>by
   obtain ⟨B1,B2,rfl,h1,h2⟩:=hn
   exact ⟨B1,B2,rfl,qfz h1 fun b hb'=>hb b (by simp [hb']),qu3 h2 fun b hb'=>hb b (by simp [hb'])⟩
end Go.T
/- T: states and memory. -/
namespace Go.T
open Go
structure Mp where
 val:Nat→Value
 blk:Nat→Nat
 nst:Nat→List Nat
 ext:Nat→Prop
structure Mine where
 own:Nat→Prop
 ext:Nat→Prop
 pin:Nat→Option (Value×Nat)
def okB (m:Mp) (n b id:Nat):Blk→Prop
 | .box _=>b≠m.blk id
 | .row _ _ _ dp mt k=>((mt=true∨n≤id)→(m.val id).ownBlock≠some b)∧(dp=true→n≤k→b∉m.nst id)
 | .nst F _ _ _=>b∉F
 | .dead=>True
def qr (m:Mp) (h:List Blk) (n b:Nat):Prop:=m.ext b∧ ∀id x,h[id]?=some x→okB m n b id x
def C (w:World) (m:Mp) (h:List Blk):LC→Value→Prop
 | .int k n,v=>v= .int k n
 | .bool b,v=>v= .bool b
 | .str s,v=>v= .string s
 | .hdr u,v=>v=u∧u.oneCell'=true
 | .sl _ t xs n,v=> ∃A c,v= .slice A xs.length c∧xs.length≤c∧Rd w (qr m h n) t.sz (K w (qr m h n) t) A xs
 | .nils,v=>v= .slice none 0 0
 | .nilp,v=>v= .pointer none
 | .own id,v=>match h[id]? with
   | some (.row ..)=>v=m.val id
   | some .dead=>v.oneCell'=true
   | _=>False
 | .ptr id i f,v=>match h[id]? with
   | some (.box _)=>i=0∧v= .pointer (some ⟨m.blk id,f,none⟩)
   | some (.row _ t _ _ _ _)=> ∃g,(m.val id).ownBlock=some g∧v= .pointer (some ⟨g,i*t.sz+f,none⟩)
   | some .dead=>v.oneCell'=true
   | some (.nst ..)=>False
   | none=>False
 | .tptr t x f n,v=> ∃a cs,v= .pointer (some (a.add f))∧K w (qr m h n) t x cs∧At w a cs∧qr m h n a.block
 | .fn f,v=>v= .func (.func f) #[] #[]
 | .clo f ids,v=>v.oneCell'=true∧(∀i∈ids,i<h.length)∧((∀i∈ids,∃cs,h[i]?=some (.box cs))→v= .func (.func f) #[] (ids.map fun i=>Value.pointer (some ⟨m.blk i,0,none⟩)).toArray)
 | .undef,_=>True
def V1 (w:World) (m:Mp) (h:List Blk) (l:LV1) (v:Value):Prop:=
 match l.agg with
 | true=> ∃vs:Array Value,v= .agg vs∧F2 (C w m h) l.cs vs.toList
 | false=> ∃c,l.cs=[c]∧C w m h c v∧v.oneCell'=true
def V (w:World) (m:Mp) (h:List Blk):LV→Value→Prop
 | .one c,v=>C w m h c v
 | .agg cs,v=> ∃vs:Array Value,v= .agg vs∧F2 (C w m h) cs vs.toList
 | .tup ls,v=> ∃vs:Array Value,v= .tuple vs∧F2 (V1 w m h) ls vs.toList
def fpB (m:Mp) (id:Nat):Blk→List Nat
 | .box _=>[m.blk id]
 | .row _ _ _ dp _ _=>(m.val id).ownBlock.toList++(match dp with | true=>m.nst id | false=>[])
 | .nst F _ _ _=>F
 | .dead=>[]
def BR (w:World) (m:Mp) (h:List Blk) (id:Nat):Blk→Prop
 | .box cs=> ∃arr ty,w.heap[m.blk id]?=some (.cells arr ty (0,0))∧F2 (C w m h) cs arr.toList∧ ∀u∈arr.toList,u.oneCell'=true
 | .row e t xs dp _ n=> ∃inner,w.ownsRow 0 e t.sz (m.val id) xs.length inner∧(match dp with
   | true=>Ms (M w t) xs inner (m.nst id)∧n≤id
   | false=>Ks (K w (qr m h n) t) xs inner)
 | .nst F t hs vs=>qam w t vs hs F
 | .dead=>True
structure Fr (mine:Nat→Prop) (w0 w:World):Prop where
 os:w.os=w0.os
 tape:w.tape=w0.tape
 output:w.output=w0.output
 size:w0.heap.size≤w.heap.size
 block: ∀k,k<w0.heap.size→ ¬mine k→w.heap[k]?=w0.heap[k]?
 drawn:w0.drawn≤w.drawn
theorem Fr.refl (mine:Nat→Prop) (w:World):Fr mine w w:=⟨rfl,rfl,rfl,Nat.le_refl _,fun _ _ _=>rfl,Nat.le_refl _⟩
theorem Fr.trans {A:Nat→Prop} {w0 w w':World} (h:Fr A w0 w) {A':Nat→Prop} (h':Fr A' w w') (hA: ∀k,A' k→w0.heap.size≤k∨A k):Fr A w0 w':=
 ⟨h'.os.trans h.os,h'.tape.trans h.tape,h'.output.trans h.output,Nat.le_trans h.size h'.size,fun k hk hn=>
   (h'.block k (Nat.lt_of_lt_of_le hk h.size) (fun ha=>by rcases hA k ha with h1 | h1;omega;exact hn h1)).trans (h.block k hk hn),Nat.le_trans h.drawn h'.drawn⟩
structure HR (w0:World) (mine:Mine) (w:World) (m:Mp) (h:List Blk):Prop where
 br: ∀id x,h[id]?=some x→BR w m h id x
 nd: ∀id x,h[id]?=some x→(fpB m id x).Nodup
 dj: ∀id x id' x',id≠id'→h[id]?=some x→h[id']?=some x'→ ∀b∈fpB m id x,b∉fpB m id' x'
 lt: ∀id x,h[id]?=some x→ ∀b∈fpB m id x,b<w.heap.size∧(w0.heap.size≤b∨mine.own b)
 fr:Fr mine.own w0 w
 mx:m.ext=mine.ext
 nx: ∀b,(w0.heap.size≤b∨mine.own b)→mine.ext b
 pn: ∀id v,mine.pin id=some v→id<h.length∧m.val id=v.1∧m.blk id=v.2
def R (w0:World) (mine:Mine) (st:St) (a:Act) (w:World):Prop:=
 a.defers=[]∧ ∃m,HR w0 mine w m st.heap∧F2 (V w m st.heap) st.env a.tmps.toList
def Sim (m m':Mp) (id:Nat):Blk→Blk→Prop
 | .box _,.box _=>m'.blk id=m.blk id
 | .row _ t _ _ _ _,.row _ t' _ _ _ _=>t'.sz=t.sz∧m'.val id=m.val id
 | .row ..,.dead=>(m.val id).oneCell'=true
 | .box _,.dead=>True
 | .nst ..,.dead=>True
 | .nst ..,.nst .. =>True
 | .dead,.dead=>True
 | _,_=>False
def qP (m m':Mp) (h h':List Blk):Prop:= ∀id x,h[id]?=some x→ ∃x',h'[id]?=some x'∧Sim m m' id x x'
def Oks (w w':World) (m m':Mp) (h h':List Blk):Prop:= ∀n b,qr m h n b→b<w.heap.size→w'.heap[b]?=w.heap[b]?∧qr m' h' n b
section
variable {w w' : World} {m m' : Mp} {h h' : List Blk}
theorem quV (ho:Oks w w' m m' h h') {n:Nat} {t:Ty} {v:Val t} {cs:List Value} (hk:K w (qr m h n) t v cs):K w' (qr m' h' n) t v cs:=
 qaf (fun b hb hl=>(ho n b hb hl).1) (fun b hb hl=>(ho n b hb hl).2) hk
theorem qKz (ho:Oks w w' m m' h h') {n:Nat} {t:Ty} {A:Option Addr} {xs:List (Val t)} (hk:Rd w (qr m h n) t.sz (K w (qr m h n) t) A xs):Rd w' (qr m' h' n) t.sz (K w' (qr m' h' n) t) A xs:=
 qf6 (fun b hb hl=>(ho n b hb hl).1) (fun b hb hl=>(ho n b hb hl).2) hk
theorem qEV (hs:qP m m' h h') {f:Nat} {ids:List Nat} {v:Value} (hc:C w m h (.clo f ids) v):C w' m' h' (.clo f ids) v:=by
 obtain ⟨h1,h2,h3⟩:=hc
 refine ⟨h1,fun i hi=> ?_,fun hb=> ?_⟩
 ·obtain ⟨x',hx',_⟩:=hs i _ (List.getElem?_eq_getElem (h2 i hi))
  exact (List.getElem?_eq_some_iff.1 hx').1
 ·have hold: ∀i∈ids,(∃cs,h[i]?=some (.box cs))∧m'.blk i=m.blk i:=fun i hi=>by
   obtain ⟨x',hx',hsim⟩:=hs i _ (List.getElem?_eq_getElem (h2 i hi))
   obtain ⟨cs,hcs⟩:=hb i hi
   rw [hcs]at hx';cases hx'
   rw [List.getElem?_eq_getElem (h2 i hi)]
   revert hsim
   cases h[i]'(h2 i hi)with
   | box cs0=>exact fun hsim=>⟨⟨cs0,rfl⟩,hsim⟩
   | row e t xs dp mt n=>exact fun hsim=>hsim.elim
   | nst F t hs vs=>exact fun hsim=>hsim.elim
   | dead=>exact fun hsim=>hsim.elim
  rw [h3 fun i hi=>(hold i hi).1]
  congr 2
  exact List.map_congr_left fun i hi=>by rw [(hold i hi).2]
theorem qbK (ho:Oks w w' m m' h h') (hs:qP m m' h h'): ∀{c:LC} {v:Value},C w m h c v→C w' m' h' c v
 | .int _ _,_,hc | .bool _,_,hc | .str _,_,hc | .hdr _,_,hc | .nils,_,hc | .nilp,_,hc | .fn _,_,hc=>by simpa [C] using hc
 | .undef,_,_=>trivial
 | .sl e t xs n,v,hc=>by
   obtain ⟨A,c,he,hl,hr⟩:=hc
   exact ⟨A,c,he,hl,qKz ho hr⟩
 | .tptr t x f n,v,hc=>by
   obtain ⟨a,cs,he,hk,hat,hb⟩:=hc
   have hlt:=hat.block_lt (by rw [qaj hk];exact t.sz_pos)
   exact ⟨a,cs,he,quV ho hk,hat.move (ho n _ hb hlt).1,(ho n _ hb hlt).2⟩
 | .clo f ids,v,hc=>qEV hs hc
 | .own id,v,hc=>by
   simp only [C]at hc ⊢
   cases hx:h[id]? with
   | none=>rw [hx]at hc;exact hc.elim
   | some x=>
     rw [hx]at hc
     obtain ⟨x',hx',hsim⟩:=hs id x hx
     rw [hx']
     cases x<;>cases x'<;>simp_all [Sim]
 | .ptr id i f,v,hc=>by
   simp only [C]at hc ⊢
   cases hx:h[id]? with
   | none=>rw [hx]at hc;exact hc.elim
   | some x=>
     rw [hx]at hc
     obtain ⟨x',hx',hsim⟩:=hs id x hx
     rw [hx']
     cases x<;>cases x'<;>simp_all [Sim]
     case box.dead=>rfl
     case row.dead=>obtain ⟨g,_,rfl⟩:=hc;rfl
theorem qSa (ho:Oks w w' m m' h h') (hs:qP m m' h h') {l:LV1} {v:Value} (hv:V1 w m h l v):V1 w' m' h' l v:=by
 unfold V1 at hv ⊢
 split at hv
 ·obtain ⟨vs,he,hf⟩:=hv
  exact ⟨vs,he,hf.imp fun _ _ _ hc=>qbK ho hs hc⟩
 ·obtain ⟨c,he,hc,h1⟩:=hv
  exact ⟨c,he,qbK ho hs hc,h1⟩
theorem qQd (ho:Oks w w' m m' h h') (hs:qP m m' h h'): ∀{l:LV} {v:Value},V w m h l v→V w' m' h' l v
 | .one c,v,hv=>qbK ho hs (c:=c) hv
 | .agg cs,v,hv=>by
   obtain ⟨vs,he,hf⟩:=hv
   exact ⟨vs,he,hf.imp fun _ _ _ hc=>qbK ho hs hc⟩
 | .tup ls,v,hv=>by
   obtain ⟨vs,he,hf⟩:=hv
   exact ⟨vs,he,hf.imp fun _ _ _ hc=>qSa ho hs hc⟩
theorem qbN (ho:Oks w w' m m' h h') (hs:qP m m' h h') {id:Nat} {x:Blk} (hv:m'.val id=m.val id) (hbk:m'.blk id=m.blk id) (hn:m'.nst id=m.nst id)
 (hb: ∀b∈fpB m id x,w'.heap[b]?=w.heap[b]?) (h0:BR w m h id x):BR w' m' h' id x:=by
 cases x with
 | dead=>trivial
 | nst F t hs vs=>exact qu3 h0 fun b hm=>hb b hm
 | box cs=>
   obtain ⟨arr,ty,hc,hf,h1⟩:=h0
   refine ⟨arr,ty,?_,hf.imp fun _ _ _ hc=>qbK ho hs hc,h1⟩
   rw [hbk,hb _ (by simp [fpB])];exact hc
 | row e t xs dp mt n=>
   obtain ⟨inner,hown,hin⟩:=h0
   refine ⟨inner,?_,?_⟩
   ·rw [hv]
    exact qCh hown fun b hbb=>hb b (by cases dp<;>simp [fpB,hbb])
   ·cases dp with
    | true=>
      simp only at hin ⊢
      rw [hn]
      exact ⟨hin.1.imp fun x c b hk hx=>qb1 hx fun k hkb=>hb k (by simp only [fpB];exact List.mem_append_right _ (hk k hkb)),hin.2⟩
    | false=>
      simp only at hin ⊢
      exact hin.imp fun x c hx=>quV ho hx
end
end Go.T
/- T: how states and memory change together. -/
namespace Go.T
open Go
section
variable {w0 w w' : World} {mine : Mine} {m m' : Mp} {h h' : List Blk}
theorem Fr.lift {A:Nat→Prop} (hf:Fr A w w') (H:HR w0 mine w m h) (hA: ∀k,A k→ ∃id x,h[id]?=some x∧k∈fpB m id x):Fr mine.own w0 w':=
 H.fr.trans hf fun k hk=>by
  obtain ⟨id,x,hx,hm⟩:=hA k hk
  exact (H.lt id x hx k hm).2
theorem HR.heap_eq (H:HR w0 mine w m h) (he:w'.heap=w.heap) (ho:w'.os=w.os) (ht:w'.tape=w.tape) (hout:w'.output=w.output) (hdr:w.drawn≤w'.drawn):
 HR w0 mine w' m h∧Oks w w' m m h h∧qP m m h h:=by
 have hok:Oks w w' m m h h:=fun n b hb _=>⟨by rw [he],hb⟩
 have hs:qP m m h h:=fun id x hx=>⟨x,hx,by cases x<;>simp [Sim]⟩
 refine ⟨⟨fun id x hx=>qbN hok hs rfl rfl rfl (fun b _=>by rw [he]) (H.br id x hx),H.nd,H.dj,fun id x hx b hb=>by rw [he];exact H.lt id x hx b hb,?_,H.mx,H.nx,H.pn⟩,hok,hs⟩
 exact H.fr.trans (A':=fun _=>False) ⟨ho,ht,hout,by rw [he];exact Nat.le_refl _,fun k _ _=>by rw [he],hdr⟩ (fun k hk=>hk.elim)
theorem BR.rowOne {id:Nat} {e:Nat} {t:Ty} {xs:List (Val t)} {dp mt:Bool} {n:Nat} (hb:BR w m h id (.row e t xs dp mt n)):(m.val id).oneCell'=true:=by
 obtain ⟨inner,ho,_⟩:=hb
 obtain ⟨A,c,he,_⟩:=qc8 ho
 rw [he];rfl
def qap (x x':Blk):Prop:=x'= .dead∨x'=x∨x'=x.froze
theorem qOh {n b id:Nat} {x x':Blk} (hw:qap x x') (hk:okB m n b id x):okB m n b id x':=by
 rcases hw with rfl | rfl | rfl
 ·trivial
 ·exact hk
 ·cases x with
  | row e t xs dp mt k=>exact ⟨fun hh=>hk.1 (hh.elim (fun h=>by simp at h) .inr),hk.2⟩
  | _=>exact hk
theorem qQo {id:Nat} {x x':Blk} (hw:qap x x'):(fpB m id x'=fpB m id x)∨x'= .dead:=by
 rcases hw with rfl | rfl | rfl
 ·exact .inr rfl
 ·exact .inl rfl
 ·left;cases x<;>rfl
theorem qhG {id:Nat} {x x':Blk} (hw:qap x x') (hb:BR w m h id x):BR w m h id x':=by
 rcases hw with rfl | rfl | rfl
 ·trivial
 ·exact hb
 ·cases x<;>exact hb
theorem qJn {id:Nat} {x x':Blk} (hw:qap x x') (hb:BR w m h id x):Sim m m id x x':=by
 rcases hw with rfl | rfl | rfl
 ·cases x
  ·trivial
  ·exact hb.rowOne
  ·trivial
  ·trivial
 ·cases x'<;>simp [Sim]
 ·cases x<;>simp [Sim,Blk.froze]
def qL (h h':List Blk):Prop:=h'.length=h.length∧ ∀(id:Nat) (x x':Blk),h[id]?=some x→h'[id]?=some x'→qap x x'
theorem HR.weaker (H:HR w0 mine w m h) (hw:qL h h'):HR w0 mine w m h'∧Oks w w m m h h'∧qP m m h h':=by
 have back: ∀id x',h'[id]?=some x'→ ∃x,h[id]?=some x∧qap x x':=fun id x' hx'=>by
  have hlt:id<h.length:=by rw [←hw.1];exact (List.getElem?_eq_some_iff.1 hx').1
  exact ⟨h[id],List.getElem?_eq_getElem hlt,hw.2 id _ _ (List.getElem?_eq_getElem hlt) hx'⟩
 have hok:Oks w w m m h h':=fun n b hb _=>⟨rfl,hb.1,fun id x' hx'=>by
  obtain ⟨x,hx,hwk⟩:=back id x' hx'
  exact qOh hwk (hb.2 id x hx)⟩
 have hs:qP m m h h':=fun id x hx=>by
  have hlt:id<h'.length:=by rw [hw.1];exact (List.getElem?_eq_some_iff.1 hx).1
  exact ⟨h'[id],List.getElem?_eq_getElem hlt,qJn (hw.2 id _ _ hx (List.getElem?_eq_getElem hlt)) (H.br id x hx)⟩
 have fpsub: ∀id x',h'[id]?=some x'→ ∃x,h[id]?=some x∧(fpB m id x'=fpB m id x∨fpB m id x'=[]):=fun id x' hx'=>by
  obtain ⟨x,hx,hwk⟩:=back id x' hx'
  rcases qQo (m:=m) (id:=id) hwk with he | rfl
  ·exact ⟨x,hx,.inl he⟩
  ·exact ⟨x,hx,.inr rfl⟩
 refine ⟨⟨fun id x' hx'=> ?_,fun id x' hx'=> ?_,fun id x1 id' x2 hne h1 h2 b hb hb'=> ?_,fun id x' hx' b hb=> ?_,H.fr,H.mx,H.nx,fun id v hp=>by rw [hw.1];exact H.pn id v hp⟩,hok,hs⟩
 ·obtain ⟨x,hx,hwk⟩:=back id x' hx'
  exact qbN hok hs rfl rfl rfl (fun b _=>rfl) (qhG hwk (H.br id x hx))
 ·obtain ⟨x,hx,he | he⟩:=fpsub id x' hx'<;>rw [he]
  ·exact H.nd id x hx
  ·exact List.nodup_nil
 ·obtain ⟨y1,hy1,he1 | he1⟩:=fpsub id x1 h1<;>rw [he1]at hb
  ·obtain ⟨y2,hy2,he2 | he2⟩:=fpsub id' x2 h2<;>rw [he2]at hb'
   ·exact H.dj id y1 id' y2 hne hy1 hy2 b hb hb'
   ·cases hb'
  ·cases hb
 ·obtain ⟨x,hx,he | he⟩:=fpsub id x' hx'<;>rw [he]at hb
  ·exact H.lt id x hx b hb
  ·cases hb
theorem qap.refl (x:Blk):qap x x:= .inr (.inl rfl)
theorem qap.dead (x:Blk):qap x .dead:= .inl rfl
theorem qap.froze (x:Blk):qap x x.froze:= .inr (.inr rfl)
theorem qap.trans {x y z:Blk} (h1:qap x y) (h2:qap y z):qap x z:=by
 rcases h2 with rfl | rfl | rfl
 ·exact .dead _
 ·exact h1
 ·rcases h1 with rfl | rfl | rfl
  ·exact .dead _
  ·exact .froze _
  ·right;right;cases x<;>rfl
theorem qL.refl (h:List Blk):qL h h:=⟨rfl,fun id x x' h1 h2=>by rw [h1]at h2;cases h2;exact .refl _⟩
theorem qL.trans {h1 h2 h3:List Blk} (a:qL h1 h2) (b:qL h2 h3):qL h1 h3:=
 ⟨b.1.trans a.1,fun id x z hx hz=>by
   have hlt:id<h2.length:=by rw [a.1];exact (List.getElem?_eq_some_iff.1 hx).1
   exact (a.2 id x _ hx (List.getElem?_eq_getElem hlt)).trans (b.2 id _ z (List.getElem?_eq_getElem hlt) hz)⟩
theorem qL.kill (h:List Blk) (ids:List Nat):qL h (kill h ids):=by
 induction ids generalizing h with
 | nil=>exact .refl h
 | cons i ids ih=>
   refine qL.trans ⟨by simp,fun id x x' h1 h2=> ?_⟩ (ih (h.set i .dead))
   by_cases e:i=id
   ·subst e
    rw [List.getElem?_set_self (List.getElem?_eq_some_iff.1 h1).1]at h2
    cases h2;exact .dead _
   ·rw [List.getElem?_set_ne e,h1]at h2
    cases h2;exact .refl _
theorem qL.freeze (h:List Blk) (ids:List Nat):qL h (freeze h ids):=by
 induction ids generalizing h with
 | nil=>exact .refl h
 | cons i ids ih=>
   refine qL.trans ⟨by simp,fun id x x' h1 h2=> ?_⟩ (ih (h.modify i Blk.froze))
   rw [List.getElem?_modify]at h2
   by_cases e:i=id
   ·subst e;rw [h1]at h2;simp at h2;subst h2;exact .froze _
   ·simp [e,h1]at h2;subst h2;exact .refl _
theorem HR.new {h1:List Blk} (H:HR w0 mine w m h) (hw:qL h h1) (x:Blk) (hfr:Fr (fun _=>False) w w')
 (hval: ∀i,i<h.length→m'.val i=m.val i) (hblk: ∀i,i<h.length→m'.blk i=m.blk i) (hnst: ∀i,i<h.length→m'.nst i=m.nst i) (hext:m'.ext=m.ext)
 (hokx: ∀n b,qr m h n b→b<w.heap.size→okB m' n b h.length x)
 (hbr:Oks w w' m m' h (h1++[x])→qP m m' h (h1++[x])→BR w' m' (h1++[x]) h.length x)
 (hnd:(fpB m' h.length x).Nodup)
 (hlt: ∀b∈fpB m' h.length x,b<w'.heap.size∧(w0.heap.size≤b∨mine.own b)∧ ∀id y,h1[id]?=some y→b∉fpB m id y):
 HR w0 mine w' m' (h1++[x])∧Oks w w' m m' h (h1++[x])∧qP m m' h (h1++[x]):=by
 obtain ⟨H1,hok1,hs1⟩:=H.weaker hw
 have hl1:=hw.1
 have get: ∀id y,(h1++[x])[id]?=some y→(id<h.length∧h1[id]?=some y)∨(id=h.length∧y=x):=fun id y hy=>by
  by_cases hl:id<h1.length
  ·rw [List.getElem?_append_left hl]at hy;exact .inl ⟨by omega,hy⟩
  ·rw [List.getElem?_append_right (by omega)]at hy
   have:id - h1.length=0:=by
        rcases Nat.eq_zero_or_pos (id - h1.length)with h0 | h0
        ·exact h0
        ·rw [List.getElem?_eq_none (by simp;omega)]at hy;cases hy
   rw [this]at hy
   simp at hy
   exact .inr ⟨by omega,hy.symm⟩
 have okB_eq: ∀n b id y,id<h.length→(okB m' n b id y↔okB m n b id y):=fun n b id y hl=>by
  cases y<;>simp [okB,hval id hl,hblk id hl,hnst id hl]
 have fpB_eq: ∀id y,id<h.length→fpB m' id y=fpB m id y:=fun id y hl=>by
  cases y<;>simp [fpB,hval id hl,hblk id hl,hnst id hl]
 have hok:Oks w w' m m' h (h1++[x]):=fun n b hb hl=>⟨hfr.block b hl (fun h=>h),by rw [hext];exact hb.1,fun id y hy=>by
  rcases get id y hy with ⟨hl',hy'⟩ | ⟨rfl,rfl⟩
  ·exact (okB_eq n b id y hl').2 ((hok1 n b hb hl).2.2 id y hy')
  ·exact hokx n b hb hl⟩
 have hs:qP m m' h (h1++[x]):=fun id y hy=>by
  have hl:=(List.getElem?_eq_some_iff.1 hy).1
  obtain ⟨y1,hy1,hsm⟩:=hs1 id y hy
  refine ⟨y1,by rw [List.getElem?_append_left (by omega)];exact hy1,?_⟩
  cases y<;>cases y1<;>simp_all [Sim]
 refine ⟨⟨fun id y hy=> ?_,fun id y hy=> ?_,fun id y1 id' y2 hne h1' h2' b hb hb'=> ?_,fun id y hy b hb=> ?_,?_,hext.trans H.mx,H.nx,fun id v hp=>by
  obtain ⟨h1,h2⟩:=H.pn id v hp
  exact ⟨by simp;omega,by rw [hval id h1,hblk id h1];exact h2⟩⟩,hok,hs⟩
 ·rcases get id y hy with ⟨hl,hy'⟩ | ⟨rfl,rfl⟩
  ·obtain ⟨y0,hy0,hwk⟩: ∃y0,h[id]?=some y0∧qap y0 y:=⟨h[id],List.getElem?_eq_getElem hl,hw.2 id _ _ (List.getElem?_eq_getElem hl) hy'⟩
   exact qbN hok hs (hval id hl) (hblk id hl) (hnst id hl) (fun b hb=>hfr.block b (H1.lt id y hy' b hb).1 (fun h=>h)) (qhG hwk (H.br id y0 hy0))
  ·exact hbr hok hs
 ·rcases get id y hy with ⟨hl,hy'⟩ | ⟨rfl,rfl⟩
  ·rw [fpB_eq id y hl];exact H1.nd id y hy'
  ·exact hnd
 ·rcases get id y1 h1' with ⟨hl1,hy1⟩ | ⟨rfl,rfl⟩<;>rcases get id' y2 h2' with ⟨hl2,hy2⟩ | ⟨rfl,rfl⟩
  ·rw [fpB_eq id y1 hl1]at hb;rw [fpB_eq id' y2 hl2]at hb'
   exact H1.dj id y1 id' y2 hne hy1 hy2 b hb hb'
  ·rw [fpB_eq id y1 hl1]at hb
   exact (hlt b hb').2.2 id y1 hy1 hb
  ·rw [fpB_eq id' y2 hl2]at hb'
   exact (hlt b hb).2.2 id' y2 hy2 hb'
  ·exact hne rfl
 ·rcases get id y hy with ⟨hl,hy'⟩ | ⟨rfl,rfl⟩
  ·rw [fpB_eq id y hl]at hb
   have:=H1.lt id y hy' b hb
   exact ⟨Nat.lt_of_lt_of_le this.1 hfr.size,this.2⟩
  ·exact ⟨(hlt b hb).1,(hlt b hb).2.1⟩
 ·exact hfr.lift H (fun k hk=>hk.elim)
end
section
variable {w w' : World} {m m' : Mp} {h h' : List Blk} {env : List LV} {a : Act}
theorem qaa (ho:Oks w w' m m' h h') (hs:qP m m' h h') (he:F2 (V w m h) env a.tmps.toList):F2 (V w' m' h') env a.tmps.toList:=
 he.imp fun _ _ _ hv=>qQd ho hs hv
theorem qcl (he:F2 (V w m h) env a.tmps.toList) (d:Option Tmp) {l:LV} {v:Value} (hv:V w m h l v):
 F2 (V w m h) (match d with | some t=>env.set t l | none=>env) (a.put d v).tmps.toList:=by
 cases d with
 | none=>exact he
 | some t=>simp only [Act.put,Array.toList_setIfInBounds];exact he.set t hv
end
theorem qa5 (a:Act) (d:Option Tmp) (v:Value):(a.put d v).defers=a.defers:=by cases d<;>rfl
theorem St.put_heap (st:St) (d:Option Tmp) (v:LV):(st.put d v).heap=st.heap:=by cases d<;>rfl
theorem St.put_env (st:St) (d:Option Tmp) (v:LV):(st.put d v).env=(match d with | some t=>st.env.set t v | none=>st.env):=by cases d<;>rfl
theorem R.put {w0 w:World} {mine:Mine} {st:St} {a:Act} (hr:R w0 mine st a w) (d:Option Tmp) {l:LV} {v:Value} (hv: ∀m,HR w0 mine w m st.heap→F2 (V w m st.heap) st.env a.tmps.toList→V w m st.heap l v):
 R w0 mine (st.put d l) (a.put d v) w:=by
 obtain ⟨hd,m,H,he⟩:=hr
 refine ⟨by rw [qa5];exact hd,m,by rw [St.put_heap];exact H,?_⟩
 rw [St.put_heap,St.put_env]
 exact qcl he d (hv m H he)
theorem R.ev {w0 w:World} {mine:Mine} {st:St} {a:Act} {m:Mp} (_H:HR w0 mine w m st.heap) (he:F2 (V w m st.heap) st.env a.tmps.toList) (x:Operand):V w m st.heap (st.ev x) (a.eval x):=by
 cases x with
 | tmp t=>
   show V w m st.heap (st.env.getD t (.one .undef)) (a.tmps.getD t undef)
   rw [List.getD_eq_getElem?_getD,Array.getD_eq_getD_getElem?]
   cases hx:st.env[t]? with
   | none=>
     trivial
   | some l=>
     obtain ⟨v,hv,hV⟩:=he.get hx
     simp only [Array.getElem?_toList]at hv
     rw [hv]
     exact hV
 | const v=>
   show V w m st.heap (qh2 v) v
   unfold qh2
   split<;>first | rfl | trivial
 | func f=>rfl
 | global g=>trivial
end Go.T
