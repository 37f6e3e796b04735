import Derived.Test.YtllelgnepalfjaaGreatT1
import Derived.Laws.OwnMore
set_option linter.unusedSimpArgs false
set_option linter.unusedVariables false
namespace Go.T
open Go
theorem x4 {α:Type}: ∀(x:Ask α) (w:World),w.drawn<=(w.ask x).2.drawn
 | .done a,w=>Nat.le_refl _
 | .ask b range k,w=>by
   simp only [World.ask]
   split
   ·exact x4 _ w
   ·exact Nat.le_trans (Nat.le_succ _) (x4 _ {w with drawn:=w.drawn+1})
theorem Uj (w:World) (c:Sys):w.drawn<=(w.sys c).2.drawn:=by
 have h:=x4 (Kernel.perform c w.os) w
 unfold World.sys
 split
 ·exact Nat.le_refl _
 ·rename_i r os a _ e
  rw [e]at h;exact h
theorem Uk {p:Program} {w w':World} {a:Addr} {v:Value} {b:Bool} {l:List Addr} (h:w.farStore p a v b= .ok (w',l)):w'.drawn=w.drawn:=by
 unfold World.farStore at h
 split at h
 ·split at h
  ·rename_i r c
   cases h
   unfold World.viewStore at c
   simp only [bind,Except.bind,pure,Except.pure]at c
   repeat' split at c
   all_goals first | (cases c;rfl) | (simp [throw,throwThe,MonadExceptOf.throw]at c)
  ·simp at h
 ·simp at h
theorem IB {α:Type} (p:Program): ∀(s:Sem α) (w:World) {x:α} {w':World},s.run p w= .ok x w'->w.drawn<=w'.drawn:=by
 intro s
 induction s with
 | pure a=>intro w x w' h;simp only [Sem.run,Result.ok.injEq]at h;rw [h.2];exact Nat.le_refl _
 | load m a k b=>
   intro w x w' h;simp only [Sem.run]at h
   split at h
   ·exact b _ w h
   ·split at h
    ·exact b _ w h
    ·simp at h
 | store m a v k b=>
   intro w x w' h
   cases v
   case agg=>simp [Sem.run]at h
   case tuple=>simp [Sem.run]at h
   all_goals
    simp only [Sem.run]at h
    split at h
    ·split at h
     ·simp at h
     ·have:=b _ h
      rwa [World.drawn_setCell]at this
    ·split at h
     ·rename_i d l e
      have:=b _ h;rwa [Uk e]at this
     ·simp at h
 | new o k b=>intro w x w' h;simp only [Sem.run]at h;have:=b _ _ h;exact this
 | shape r k b=>intro w x w' h;simp only [Sem.run]at h;exact b _ w h
 | freeze a n k b=>
   intro w x w' h;simp only [Sem.run]at h
   have:=b _ h
   refine Nat.le_trans (Nat.le_of_eq ?_) this
   unfold World.freeze
   repeat' split
   all_goals rfl
 | frozen a k b=>intro w x w' h;simp only [Sem.run]at h;exact b _ w h
 | getObj r k b=>
   intro w x w' h;simp only [Sem.run]at h
   split at h
   ·simp at h
   ·exact b _ w h
   ·simp at h
 | setObj r o k b=>
   intro w x w' h;simp only [Sem.run]at h
   split at h
   ·simp at h
   ·have:=b _ h;exact this
   ·simp at h
 | choose q k b=>
   intro w x w' h;simp only [Sem.run]at h
   split at h
   ·exact b _ w h
   ·exact Nat.le_trans (Nat.le_succ _) (b _ _ h)
 | sys c k b=>intro w x w' h;simp only [Sem.run]at h;exact Nat.le_trans (Uj w c) (b _ _ h)
 | program k b=>intro w x w' h;simp only [Sem.run]at h;exact b _ w h
 | mark m k b=>intro w x w' h;simp only [Sem.run]at h;exact b w h
 | halt e=>intro w x w' h;simp [Sem.run]at h
inductive F2 {α β:Type} (R:α->β->Prop):List α->List β->Prop
 | nil:F2 R [] []
 | cons {a b a_s bs}:R a b->F2 R a_s bs->F2 R (a::a_s) (b::bs)
namespace F2
variable {α β : Type} {R S : α -> β -> Prop}
theorem imp {a_s:List α} {bs:List β} (h:F2 R a_s bs) (f: ∀a b,a∈a_s->R a b->S a b):F2 S a_s bs:=by
 induction h with
 | nil=>exact .nil
 | cons c _ e=>exact .cons (f _ _ (by simp) c) (e fun a b d c=>f a b (by simp [d]) c)
theorem len {a_s:List α} {bs:List β} (h:F2 R a_s bs):a_s.length=bs.length:=by
 induction h with
 | nil=>rfl
 | cons _ _ a=>simp [a]
theorem append {a_s a:List α} {bs b:List β} (h:F2 R a_s bs) (h':F2 R a b):F2 R (a_s++a) (bs++b):=by
 induction h with
 | nil=>exact h'
 | cons c _ d=>exact .cons c d
theorem get {a_s:List α} {bs:List β} (h:F2 R a_s bs) {i:Nat} {a:α} (c:a_s[i]?=some a): ∃b,bs[i]?=some b/\R a b:=by
 induction h generalizing i with
 | nil=>simp at c
 | cons d _ e=>
   cases i with
   | zero=>simp at c;subst c;exact ⟨_,by simp,d⟩
   | succ i=>simpa using e (by simpa using c)
theorem get' {a_s:List α} {bs:List β} (h:F2 R a_s bs) {i:Nat} {b:β} (c:bs[i]?=some b): ∃a,a_s[i]?=some a/\R a b:=by
 induction h generalizing i with
 | nil=>simp at c
 | cons d _ e=>
   cases i with
   | zero=>simp at c;subst c;exact ⟨_,by simp,d⟩
   | succ i=>simpa using e (by simpa using c)
theorem take {a_s:List α} {bs:List β} (h:F2 R a_s bs) (n:Nat):F2 R (a_s.take n) (bs.take n):=by
 induction h generalizing n with
 | nil=>simp;exact .nil
 | cons a _ b=>
   cases n with
   | zero=>simp;exact .nil
   | succ n=>simp;exact .cons a (b n)
theorem drop {a_s:List α} {bs:List β} (h:F2 R a_s bs) (n:Nat):F2 R (a_s.drop n) (bs.drop n):=by
 induction h generalizing n with
 | nil=>simp;exact .nil
 | cons a hs b=>
   cases n with
   | zero=>simpa using .cons a hs
   | succ n=>simpa using b n
theorem split {a_s a:List α} {bs:List β} (h:F2 R (a_s++a) bs): ∃b c,bs=b++c/\F2 R a_s b/\F2 R a c:=by
 refine ⟨bs.take a_s.length,bs.drop a_s.length,by simp,?_,?_⟩
 ·simpa using h.take a_s.length
 ·simpa using h.drop a_s.length
theorem set {a_s:List α} {bs:List β} (h:F2 R a_s bs) (i:Nat) {a:α} {b:β} (c:R a b):F2 R (a_s.set i a) (bs.set i b):=by
 induction h generalizing i with
 | nil=>simp;exact .nil
 | cons d hs e=>
   cases i with
   | zero=>simpa using .cons c hs
   | succ i=>simpa using .cons d (e i)
end F2
def At (w:World) (a:Addr) (cs:List Value):Prop:= ∀j u,cs[j]?=some u->w.cell? (a.add j)=some u
def Rd {α:Type} (w:World) (ok:Nat->Prop) (sz:Nat) (R:α->List Value->Prop) (A:Option Addr) (xs:List α):Prop:=
 ∀i x,xs[i]?=some x-> ∃a cs,A=some a/\ok a.block/\R x cs/\At w (a.add (i*sz)) cs
def K (w:World) (ok:Nat->Prop):(t:Ty)->Val t->List Value->Prop
 | .int k,n,cs=>cs=[.int k n]
 | .bool,b,cs=>cs=[.bool b]
 | .str,s,cs=>cs=[.string s]
 | .hdr,v,cs=>cs=[v]/\v.oneCell'=true
 | .slice _ t,xs,cs=> ∃A c,cs=[.slice A xs.length c]/\xs.length<=c/\Rd w ok t.sz (K w ok t) A xs
 | .pair a b,v,cs=> ∃c1 c2,cs=c1++c2/\K w ok a v.1 c1/\K w ok b v.2 c2
def Ks {α:Type} (R:α->List Value->Prop):List α->List Value->Prop
 | [],cs=>cs=[]
 | x::xs,cs=> ∃c1 c2,cs=c1++c2/\R x c1/\Ks R xs c2
def Ms {α:Type} (R:α->List Value->List Nat->Prop):List α->List Value->List Nat->Prop
 | [],cs,B=>cs=[]/\B=[]
 | x::xs,cs,B=> ∃c1 c2 a b,cs=c1++c2/\B=a++b/\R x c1 a/\Ms R xs c2 b
def M (w:World):(t:Ty)->Val t->List Value->List Nat->Prop
 | .int k,n,cs,B=>cs=[.int k n]/\B=[]
 | .bool,b,cs,B=>cs=[.bool b]/\B=[]
 | .str,s,cs,B=>cs=[.string s]/\B=[]
 | .hdr,v,cs,B=>(cs=[v]/\v.oneCell'=true)/\B=[]
 | .slice e t,xs,cs,B=> ∃v inner f,cs=[v]/\B=v.ownBlock.toList++f/\w.ownsRow 0 e t.sz v xs.length inner/\Ms (M w t) xs inner f
 | .pair a b,v,cs,B=> ∃c1 c2 c d,cs=c1++c2/\B=c++d/\M w a v.1 c1 c/\M w b v.2 c2 d
theorem Ty.sz_pos: ∀t:Ty,0<t.sz
 | .pair a b=>by have:=a.sz_pos;simp [Ty.sz];omega
 | .int _ | .bool | .str | .hdr | .slice _ _=>by simp [Ty.sz]
theorem jH (a:Addr) (i j:Nat):(a.add i).add j=a.add (i+j):=by
 unfold Addr.add
 by_cases b:i=0
 ·simp [b]
 ·by_cases c:j=0
  ·simp [b,c]
  ·simp [b,c,Nat.add_assoc]
theorem ia (a:Addr) (i:Nat):(a.add i).block=a.block:=by unfold Addr.add;split<;>rfl
theorem At.block_lt {w:World} {a:Addr} {cs:List Value} (h:At w a cs) (c:0<cs.length):a.block<w.heap.size:=by
 have b:=h 0 cs[0] (by simp [List.getElem?_eq_getElem c])
 have:=World.block_lt_of_cell? w _ b
 rwa [ia]at this
theorem At.move {w w':World} {a:Addr} {cs:List Value} (h:At w a cs) (b:w'.heap[a.block]?=w.heap[a.block]?):At w' a cs:=by
 intro j u hu
 rw [World.cell?_of_block (w:=w) (by rw [ia];exact b)]
 exact h j u hu
theorem At.append {w:World} {a:Addr} {c1 c2:List Value} (h:At w a (c1++c2)):At w a c1/\At w (a.add c1.length) c2:=by
 constructor
 ·intro j u hu
  have b:j<c1.length:=(List.getElem?_eq_some_iff.1 hu).1
  exact h j u (by rw [List.getElem?_append_left b];exact hu)
 ·intro j u hu
  rw [jH]
  exact h _ u (by rw [List.getElem?_append_right (by omega)];simpa using hu)
theorem At.sub {w:World} {a:Addr} {cs:List Value} (h:At w a cs) (f n:Nat):At w (a.add f) ((cs.drop f).take n):=by
 intro j u hu
 rw [jH]
 apply h
 rw [List.getElem?_take]at hu
 split at hu
 ·simpa using hu
 ·cases hu
theorem cE {w:World} {ok:Nat->Prop}: ∀{t:Ty} {v:Val t} {cs:List Value},K w ok t v cs->cs.length=t.sz
 | .int _,_,_,h=>by rw [K]at h;rw [h];rfl
 | .bool,_,_,h=>by rw [K]at h;rw [h];rfl
 | .str,_,_,h=>by rw [K]at h;rw [h];rfl
 | .hdr,_,_,h=>by rw [K]at h;rw [h.1];rfl
 | .slice _ _,_,_,h=>by rw [K]at h;obtain ⟨A,c,rfl,_⟩:=h;rfl
 | .pair a b,_,_,h=>by
   rw [K]at h
   obtain ⟨c1,c2,rfl,h1,h2⟩:=h
   rw [List.length_append,cE h1,cE h2];rfl
theorem lK {w:World} {ok:Nat->Prop}: ∀{t:Ty} {v:Val t} {cs:List Value},K w ok t v cs-> ∀u∈cs,u.oneCell'=true
 | .int _,_,_,h=>by rw [K]at h;rw [h];simp [Value.oneCell']
 | .bool,_,_,h=>by rw [K]at h;rw [h];simp [Value.oneCell']
 | .str,_,_,h=>by rw [K]at h;rw [h];simp [Value.oneCell']
 | .hdr,_,_,h=>by rw [K]at h;rw [h.1];simpa using h.2
 | .slice _ _,_,_,h=>by rw [K]at h;obtain ⟨A,c,rfl,_⟩:=h;simp [Value.oneCell']
 | .pair a b,_,_,h=>by
   rw [K]at h
   obtain ⟨c1,c2,rfl,h1,h2⟩:=h
   intro u hu
   rcases List.mem_append.1 hu with hu | hu
   ·exact lK h1 u hu
   ·exact lK h2 u hu
theorem cv {w w':World} {ok ok':Nat->Prop} (hm: ∀b,ok b->b<w.heap.size->w'.heap[b]?=w.heap[b]?) (d: ∀b,ok b->b<w.heap.size->ok' b):
 ∀{t:Ty} {v:Val t} {cs:List Value},K w ok t v cs->K w' ok' t v cs
 | .int _,_,_,h=>by rw [K]at h ⊢;exact h
 | .bool,_,_,h=>by rw [K]at h ⊢;exact h
 | .str,_,_,h=>by rw [K]at h ⊢;exact h
 | .hdr,_,_,h=>by rw [K]at h ⊢;exact h
 | .slice _ t,xs,_,h=>by
   rw [K]at h ⊢
   obtain ⟨A,c,rfl,l,m⟩:=h
   refine ⟨A,c,rfl,l,fun i x n=> ?_⟩
   obtain ⟨a,cs,k,f,e,g⟩:=m i x n
   have j:a.block<w.heap.size:=by
    have:=g.block_lt (by rw [cE e];exact t.sz_pos)
    rwa [ia]at this
   exact ⟨a,cs,k,d _ f j,cv hm d e,g.move (by rw [ia];exact hm _ f j)⟩
 | .pair a b,_,_,h=>by
   rw [K]at h ⊢
   obtain ⟨c1,c2,rfl,h1,h2⟩:=h
   exact ⟨c1,c2,rfl,cv hm d h1,cv hm d h2⟩
theorem lL {w w':World} {ok ok':Nat->Prop} (hm: ∀b,ok b->b<w.heap.size->w'.heap[b]?=w.heap[b]?) (g: ∀b,ok b->b<w.heap.size->ok' b)
 {t:Ty} {A:Option Addr} {xs:List (Val t)} (h:Rd w ok t.sz (K w ok t) A xs):Rd w' ok' t.sz (K w' ok' t) A xs:=by
 intro i x k
 obtain ⟨a,cs,j,d,c,e⟩:=h i x k
 have f:a.block<w.heap.size:=by
  have:=e.block_lt (by rw [cE c];exact t.sz_pos)
  rwa [ia]at this
 exact ⟨a,cs,j,g _ d f,cv hm g c,e.move (by rw [ia];exact hm _ d f)⟩
section
variable {α : Type} {R S : α -> List Value -> Prop}
theorem Ks.imp {xs:List α} {cs:List Value} (h:Ks R xs cs) (f: ∀x c,R x c->S x c):Ks S xs cs:=by
 induction xs generalizing cs with
 | nil=>exact h
 | cons x xs a=>obtain ⟨c1,c2,rfl,h1,h2⟩:=h;exact ⟨c1,c2,rfl,f _ _ h1,a h2⟩
theorem Ks.len {xs:List α} {cs:List Value} {sz:Nat} (hs: ∀x c,R x c->c.length=sz) (h:Ks R xs cs):cs.length=xs.length*sz:=by
 induction xs generalizing cs with
 | nil=>rw [Ks]at h;rw [h];simp
 | cons x xs a=>
   obtain ⟨c1,c2,rfl,h1,h2⟩:=h
   rw [List.length_append,hs _ _ h1,a h2,List.length_cons,Nat.succ_mul,Nat.add_comm]
theorem Ks.append {xs ys:List α} {cs a:List Value} (h:Ks R xs cs) (h':Ks R ys a):Ks R (xs++ys) (cs++a):=by
 induction xs generalizing cs with
 | nil=>rw [Ks]at h;subst h;exact h'
 | cons x xs b=>
   obtain ⟨c1,c2,rfl,h1,h2⟩:=h
   exact ⟨c1,c2++a,by simp,h1,b h2⟩
theorem Ks.get {xs:List α} {cs:List Value} {sz:Nat} (hs: ∀x c,R x c->c.length=sz) (h:Ks R xs cs) {i:Nat} {x:α} (a:xs[i]?=some x):
 R x ((cs.drop (i*sz)).take sz):=by
 induction xs generalizing cs i with
 | nil=>simp at a
 | cons y xs d=>
   obtain ⟨c1,c2,rfl,h1,h2⟩:=h
   cases i with
   | zero=>
     simp at a
     subst a
     have:=hs _ _ h1
     simp [<-this]
     exact h1
   | succ i=>
     have b:=hs _ _ h1
     have:=d h2 (i:=i) (by simpa using a)
     rw [show (i+1)*sz=c1.length+i*sz by rw [b,Nat.succ_mul,Nat.add_comm],List.drop_append,List.drop_eq_nil_of_le (by omega)]
     simpa using this
theorem Ks.set {xs:List α} {cs:List Value} {sz:Nat} (hs: ∀x c,R x c->c.length=sz) (h:Ks R xs cs) (i:Nat) {x:α} {c:List Value} (a:i<xs.length) (d:R x c):
 Ks R (xs.set i x) (cs.take (i*sz)++c++cs.drop (i*sz+sz)):=by
 induction xs generalizing cs i with
 | nil=>simp at a
 | cons y xs f=>
   obtain ⟨c1,c2,rfl,h1,h2⟩:=h
   have b:=hs _ _ h1
   cases i with
   | zero=>
     simp only [Nat.zero_mul,List.take_zero,List.nil_append,Nat.zero_add,List.set_cons_zero]
     exact ⟨c,c2,by rw [<-b];simp,d,h2⟩
   | succ i=>
     have:=f h2 i (by simpa using a)
     refine ⟨c1,c2.take (i*sz)++c++c2.drop (i*sz+sz),?_,h1,this⟩
     have e:(i+1)*sz=c1.length+i*sz:=by rw [b,Nat.succ_mul,Nat.add_comm]
     rw [e,show c1.length+i*sz+sz=c1.length+(i*sz+sz) by omega,List.drop_append,List.take_append,List.drop_eq_nil_of_le (by omega),List.take_of_length_le (by omega)]
     simp
end
section
variable {α : Type} {R S : α -> List Value -> List Nat -> Prop}
theorem Ms.imp {xs:List α} {cs:List Value} {B:List Nat} (h:Ms R xs cs B) (f: ∀x c b,(∀k∈b,k∈B)->R x c b->S x c b):Ms S xs cs B:=by
 induction xs generalizing cs B with
 | nil=>exact h
 | cons x xs g=>
   obtain ⟨c1,c2,a,d,rfl,rfl,h1,h2⟩:=h
   exact ⟨c1,c2,a,d,rfl,rfl,f _ _ _ (fun k hk=>List.mem_append_left _ hk) h1,g h2 fun x c b e=>f x c b fun k hk=>List.mem_append_right _ (e k hk)⟩
theorem Ms.toKs {T:α->List Value->Prop} {xs:List α} {cs:List Value} {B:List Nat} (h:Ms R xs cs B) (f: ∀x c b,(∀k∈b,k∈B)->R x c b->T x c):Ks T xs cs:=by
 induction xs generalizing cs B with
 | nil=>exact h.1
 | cons x xs d=>
   obtain ⟨c1,c2,e,g,rfl,rfl,h1,h2⟩:=h
   exact ⟨c1,c2,rfl,f _ _ _ (fun k hk=>List.mem_append_left _ hk) h1,d h2 fun x c b a=>f x c b fun k hk=>List.mem_append_right _ (a k hk)⟩
theorem Ms.append {xs ys:List α} {cs a:List Value} {B D:List Nat} (h:Ms R xs cs B) (h':Ms R ys a D):Ms R (xs++ys) (cs++a) (B++D):=by
 induction xs generalizing cs B with
 | nil=>obtain ⟨rfl,rfl⟩:=h;exact h'
 | cons x xs d=>
   obtain ⟨c1,c2,b,c,rfl,rfl,h1,h2⟩:=h
   exact ⟨c1,c2++a,b,c++D,by simp,by simp,h1,d h2⟩
end
theorem Rd.of_Ks {α:Type} {w:World} {ok:Nat->Prop} {sz:Nat} {R:α->List Value->Prop} {a:Addr} {xs:List α} {cs:List Value}
 (hs: ∀x c,R x c->c.length=sz) (h:Ks R xs cs) (d:At w a cs) (b:ok a.block):Rd w ok sz R (some a) xs:=by
 intro i x e
 exact ⟨a,_,rfl,b,h.get hs e,d.sub (i*sz) sz⟩
theorem x5 {w:World} {base:Nat} {e:TypeId} {size:Nat} {v:Value} {n:Nat} {xs:List Value} (h:w.ownsRow base e size v n xs) {g:Nat} (a:v.ownBlock=some g):At w ⟨g,0,none⟩ xs:=
 h.cells a
theorem gP {w:World} {base:Nat} {e:TypeId} {size:Nat} {v:Value} {n:Nat} {xs:List Value} (h:w.ownsRow base e size v n xs):
 ∃A c,v= .slice A n c/\n<=c/\(∀a,A=some a->v.ownBlock=some a.block/\a=⟨a.block,0,none⟩)/\(A=none->n=0):=by
 rcases h.2 with ⟨rfl,rfl⟩ | ⟨g,cap,cur,rfl,_,_,d,_⟩
 ·exact ⟨none,0,rfl,Nat.le_refl _,fun a b=>by simp at b,fun _=>rfl⟩
 ·exact ⟨some ⟨g,0,none⟩,cap,rfl,d,fun a b=>by injection b with b;subst b;exact ⟨rfl,rfl⟩,fun b=>by simp at b⟩
theorem p2 {α:Type} {w:World} {base:Nat} {e:TypeId} {sz:Nat} {v:Value} {xs:List α} {inner:List Value} {R:α->List Value->Prop} {ok:Nat->Prop}
 (h:w.ownsRow base e sz v xs.length inner) (hs: ∀x c,R x c->c.length=sz) (hk:Ks R xs inner) (m: ∀b,v.ownBlock=some b->ok b):
 ∃A c,v= .slice A xs.length c/\xs.length<=c/\Rd w ok sz R A xs:=by
 obtain ⟨A,c,rfl,k,g,l⟩:=gP h
 refine ⟨A,c,rfl,k,?_⟩
 cases A with
 | none=>
   have:=l rfl
   intro i x n
   have:=(List.getElem?_eq_some_iff.1 n).1
   omega
 | some a=>
   obtain ⟨f,j⟩:=g a rfl
   have d:=x5 h f
   rw [<-j]at d
   exact Rd.of_Ks hs hk d (m _ f)
theorem M_K {w:World} {ok:Nat->Prop}: ∀{t:Ty} {v:Val t} {cs:List Value} {B:List Nat},M w t v cs B->(∀b∈B,ok b)->K w ok t v cs
 | .int _,_,_,_,h,_=>by rw [M]at h;rw [K];exact h.1
 | .bool,_,_,_,h,_=>by rw [M]at h;rw [K];exact h.1
 | .str,_,_,_,h,_=>by rw [M]at h;rw [K];exact h.1
 | .hdr,_,_,_,h,_=>by rw [M]at h;rw [K];exact h.1
 | .slice e t,xs,_,_,h,d=>by
   rw [M]at h;rw [K]
   obtain ⟨v,inner,o,rfl,rfl,j,hm⟩:=h
   have hk:Ks (K w ok t) xs inner:=hm.toKs fun x c b f g=>M_K g fun k hk=>d k (List.mem_append_right _ (f k hk))
   obtain ⟨A,c,he,i,l⟩:=p2 (ok:=ok) j (fun x c g=>cE g) hk fun b f=>d b (List.mem_append_left _ (by simp [f]))
   exact ⟨A,c,by rw [he],i,l⟩
 | .pair a b,_,_,_,h,d=>by
   rw [M]at h;rw [K]
   obtain ⟨c1,c2,m,n,rfl,rfl,h1,h2⟩:=h
   exact ⟨c1,c2,rfl,M_K h1 fun k hk=>d k (List.mem_append_left _ hk),M_K h2 fun k hk=>d k (List.mem_append_right _ hk)⟩
theorem fR {w:World} {t:Ty} {v:Val t} {cs:List Value} {B:List Nat} (h:M w t v cs B):cs.length=t.sz:=cE (M_K (ok:=fun _=>True) h fun _ _=>trivial)
theorem IC {w:World} {t:Ty} {v:Val t} {cs:List Value} {B:List Nat} (h:M w t v cs B): ∀u∈cs,u.oneCell'=true:=lK (M_K (ok:=fun _=>True) h fun _ _=>trivial)
theorem x6 {w w':World} {base:Nat} {e:TypeId} {size:Nat} {v:Value} {n:Nat} {xs:List Value} (h:w.ownsRow base e size v n xs) (a: ∀b,v.ownBlock=some b->w'.heap[b]?=w.heap[b]?):w'.ownsRow base e size v n xs:=by
 refine ⟨h.1,?_⟩
 rcases h.2 with h | ⟨g,cap,cur,rfl,c,d,r⟩
 ·exact .inl h
 ·exact .inr ⟨g,cap,cur,rfl,c,(a g rfl).trans d,r⟩
theorem dX {w w':World}: ∀{t:Ty} {v:Val t} {cs:List Value} {B:List Nat},M w t v cs B->(∀b∈B,w'.heap[b]?=w.heap[b]?)->M w' t v cs B
 | .int _,_,_,_,h,_=>by rw [M]at h ⊢;exact h
 | .bool,_,_,_,h,_=>by rw [M]at h ⊢;exact h
 | .str,_,_,_,h,_=>by rw [M]at h ⊢;exact h
 | .hdr,_,_,_,h,_=>by rw [M]at h ⊢;exact h
 | .slice e t,xs,_,_,h,d=>by
   rw [M]at h ⊢
   obtain ⟨v,inner,i,rfl,rfl,l,hm⟩:=h
   exact ⟨v,inner,i,rfl,rfl,x6 l fun b m=>d b (List.mem_append_left _ (by simp [m])),hm.imp fun x c b hk n=>dX n fun k j=>d k (List.mem_append_right _ (hk k j))⟩
 | .pair a b,_,_,_,h,d=>by
   rw [M]at h ⊢
   obtain ⟨c1,c2,f,g,rfl,rfl,h1,h2⟩:=h
   exact ⟨c1,c2,f,g,rfl,rfl,dX h1 fun k hk=>d k (List.mem_append_left _ hk),dX h2 fun k hk=>d k (List.mem_append_right _ hk)⟩
theorem q0 {α:Type} {w:World} {R:α->List Value->List Nat->Prop} (a: ∀x c b,R x c b-> ∀k∈b,k<w.heap.size) {xs:List α} {cs:List Value} {B:List Nat} (h:Ms R xs cs B): ∀k∈B,k<w.heap.size:=by
 induction xs generalizing cs B with
 | nil=>obtain ⟨_,rfl⟩:=h;simp
 | cons x xs d=>
   obtain ⟨c1,c2,e,f,rfl,rfl,h1,h2⟩:=h
   intro k hk
   rcases List.mem_append.1 hk with hk | hk
   ·exact a _ _ _ h1 k hk
   ·exact d h2 k hk
theorem gQ {w:World}: ∀{t:Ty} {v:Val t} {cs:List Value} {B:List Nat},M w t v cs B-> ∀k∈B,k<w.heap.size
 | .int _,_,_,_,h=>by rw [M]at h;simp [h.2]
 | .bool,_,_,_,h=>by rw [M]at h;simp [h.2]
 | .str,_,_,_,h=>by rw [M]at h;simp [h.2]
 | .hdr,_,_,_,h=>by rw [M]at h;simp [h.2]
 | .slice e t,xs,_,_,h=>by
   rw [M]at h
   obtain ⟨v,inner,j,rfl,rfl,d,hm⟩:=h
   intro k hk
   rcases List.mem_append.1 hk with hk | hk
   ·exact (d.lt k (by simpa using hk)).2
   ·exact q0 (fun x c b f=>gQ f) hm k hk
 | .pair a b,_,_,_,h=>by
   rw [M]at h
   obtain ⟨c1,c2,g,i,rfl,rfl,h1,h2⟩:=h
   intro k hk
   rcases List.mem_append.1 hk with hk | hk
   ·exact gQ h1 k hk
   ·exact gQ h2 k hk
def Nst (w:World):(t:Ty)->Val t->Val (hd t)->List Nat->Prop
 | .int _,_,_,B=>B=[]
 | .bool,_,_,B=>B=[]
 | .str,_,_,B=>B=[]
 | .hdr,_,_,B=>B=[]
 | .slice e t,v,h,B=>M w (.slice e t) v [h] B
 | .pair a b,v,h,B=> ∃c d,B=c++d/\Nst w a v.1 h.1 c/\Nst w b v.2 h.2 d
def b0 (w:World) (t:Ty):List (Val t)->List (Val (hd t))->List Nat->Prop
 | [],[],B=>B=[]
 | v::vs,h::hs,B=> ∃a b,B=a++b/\Nst w t v h a/\b0 w t vs hs b
 | _,_,_=>False
theorem gR {w w':World}: ∀{t:Ty} {v:Val t} {h:Val (hd t)} {B:List Nat},Nst w t v h B->(∀b∈B,w'.heap[b]?=w.heap[b]?)->Nst w' t v h B
 | .int _,_,_,_,c,_ | .bool,_,_,_,c,_ | .str,_,_,_,c,_ | .hdr,_,_,_,c,_=>c
 | .slice _ _,_,_,_,c,d=>dX c d
 | .pair a b,_,_,_,c,d=>by
   obtain ⟨f,g,rfl,h1,h2⟩:=c
   exact ⟨f,g,rfl,gR h1 fun b e=>d b (by simp [e]),gR h2 fun b e=>d b (by simp [e])⟩
theorem nj {w w':World} {t:Ty}: ∀{vs:List (Val t)} {hs:List (Val (hd t))} {B:List Nat},b0 w t vs hs B->(∀b∈B,w'.heap[b]?=w.heap[b]?)->b0 w' t vs hs B
 | [],[],_,a,_=>a
 | [],_::_,_,a,_=>a.elim
 | _::_,[],_,a,_=>a.elim
 | v::vs,h::hs,_,a,d=>by
   obtain ⟨e,f,rfl,h1,h2⟩:=a
   exact ⟨e,f,rfl,gR h1 fun b c=>d b (by simp [c]),nj h2 fun b c=>d b (by simp [c])⟩
end Go.T
namespace Go.T
open Go
structure Mp where
 val:Nat->Value
 blk:Nat->Nat
 nst:Nat->List Nat
 ext:Nat->Prop
structure Mine where
 own:Nat->Prop
 ext:Nat->Prop
 pin:Nat->Option (Value×Nat)
def okB (m:Mp) (n b id:Nat):Blk->Prop
 | .box _=>b≠m.blk id
 | .row _ _ _ dp mt k=>((mt=true∨n<=id)->(m.val id).ownBlock≠some b)/\(dp=true->n<=k->b∉m.nst id)
 | .nst F _ _ _=>b∉F
 | .dead=>True
def qM (m:Mp) (h:List Blk) (n b:Nat):Prop:=m.ext b/\ ∀id x,h[id]?=some x->okB m n b id x
def C (w:World) (m:Mp) (h:List Blk):LC->Value->Prop
 | .int k n,v=>v= .int k n
 | .bool b,v=>v= .bool b
 | .str s,v=>v= .string s
 | .hdr u,v=>v=u/\u.oneCell'=true
 | .sl _ t xs n,v=> ∃A c,v= .slice A xs.length c/\xs.length<=c/\Rd w (qM m h n) t.sz (K w (qM m h n) t) A xs
 | .nils,v=>v= .slice none 0 0
 | .nilp,v=>v= .pointer none
 | .own id,v=>match h[id]? with
   | some (.row ..)=>v=m.val id
   | some .dead=>v.oneCell'=true
   | _=>False
 | .ptr id i f,v=>match h[id]? with
   | some (.box _)=>i=0/\v= .pointer (some ⟨m.blk id,f,none⟩)
   | some (.row _ t _ _ _ _)=> ∃g,(m.val id).ownBlock=some g/\v= .pointer (some ⟨g,i*t.sz+f,none⟩)
   | some .dead=>v.oneCell'=true
   | some (.nst ..)=>False
   | none=>False
 | .tptr t x f n,v=> ∃a cs,v= .pointer (some (a.add f))/\K w (qM m h n) t x cs/\At w a cs/\qM m h n a.block
 | .fn f,v=>v= .func (.func f) #[] #[]
 | .clo f ids,v=>v.oneCell'=true/\(∀i∈ids,i<h.length)/\((∀i∈ids,∃cs,h[i]?=some (.box cs))->v= .func (.func f) #[] (ids.map fun i=>Value.pointer (some ⟨m.blk i,0,none⟩)).toArray)
 | .undef,_=>True
def V1 (w:World) (m:Mp) (h:List Blk) (l:LV1) (v:Value):Prop:=
 match l.agg with
 | true=> ∃vs:Array Value,v= .agg vs/\F2 (C w m h) l.cs vs.toList
 | false=> ∃c,l.cs=[c]/\C w m h c v/\v.oneCell'=true
def V (w:World) (m:Mp) (h:List Blk):LV->Value->Prop
 | .one c,v=>C w m h c v
 | .agg cs,v=> ∃vs:Array Value,v= .agg vs/\F2 (C w m h) cs vs.toList
 | .tup ls,v=> ∃vs:Array Value,v= .tuple vs/\F2 (V1 w m h) ls vs.toList
def fpB (m:Mp) (id:Nat):Blk->List Nat
 | .box _=>[m.blk id]
 | .row _ _ _ dp _ _=>(m.val id).ownBlock.toList++(match dp with | true=>m.nst id | false=>[])
 | .nst F _ _ _=>F
 | .dead=>[]
def BR (w:World) (m:Mp) (h:List Blk) (id:Nat):Blk->Prop
 | .box cs=> ∃arr ty,w.heap[m.blk id]?=some (.cells arr ty (0,0))/\F2 (C w m h) cs arr.toList/\ ∀u∈arr.toList,u.oneCell'=true
 | .row e t xs dp _ n=> ∃inner,w.ownsRow 0 e t.sz (m.val id) xs.length inner/\(match dp with
   | true=>Ms (M w t) xs inner (m.nst id)/\n<=id
   | false=>Ks (K w (qM m h n) t) xs inner)
 | .nst F t hs vs=>b0 w t vs hs F
 | .dead=>True
structure Fr (mine:Nat->Prop) (w0 w:World):Prop where
 os:w.os=w0.os
 tape:w.tape=w0.tape
 output:w.output=w0.output
 size:w0.heap.size<=w.heap.size
 block: ∀k,k<w0.heap.size-> ¬mine k->w.heap[k]?=w0.heap[k]?
 drawn:w0.drawn<=w.drawn
theorem Fr.refl (mine:Nat->Prop) (w:World):Fr mine w w:=⟨rfl,rfl,rfl,Nat.le_refl _,fun _ _ _=>rfl,Nat.le_refl _⟩
theorem Fr.trans {A:Nat->Prop} {w0 w w':World} (h:Fr A w0 w) {A':Nat->Prop} (h':Fr A' w w') (b: ∀k,A' k->w0.heap.size<=k∨A k):Fr A w0 w':=
 ⟨h'.os.trans h.os,h'.tape.trans h.tape,h'.output.trans h.output,Nat.le_trans h.size h'.size,fun k hk a=>
   (h'.block k (Nat.lt_of_lt_of_le hk h.size) (fun c=>by rcases b k c with h1 | h1;omega;exact a h1)).trans (h.block k hk a),Nat.le_trans h.drawn h'.drawn⟩
structure HR (w0:World) (mine:Mine) (w:World) (m:Mp) (h:List Blk):Prop where
 br: ∀id x,h[id]?=some x->BR w m h id x
 nd: ∀id x,h[id]?=some x->(fpB m id x).Nodup
 dj: ∀id x id' x',id≠id'->h[id]?=some x->h[id']?=some x'-> ∀b∈fpB m id x,b∉fpB m id' x'
 lt: ∀id x,h[id]?=some x-> ∀b∈fpB m id x,b<w.heap.size/\(w0.heap.size<=b∨mine.own b)
 fr:Fr mine.own w0 w
 mx:m.ext=mine.ext
 nx: ∀b,(w0.heap.size<=b∨mine.own b)->mine.ext b
 pn: ∀id v,mine.pin id=some v->id<h.length/\m.val id=v.1/\m.blk id=v.2
def R (w0:World) (mine:Mine) (st:St) (a:Act) (w:World):Prop:=
 a.defers=[]/\ ∃m,HR w0 mine w m st.heap/\F2 (V w m st.heap) st.env a.tmps.toList
def Sim (m m':Mp) (id:Nat):Blk->Blk->Prop
 | .box _,.box _=>m'.blk id=m.blk id
 | .row _ t _ _ _ _,.row _ t' _ _ _ _=>t'.sz=t.sz/\m'.val id=m.val id
 | .row ..,.dead=>(m.val id).oneCell'=true
 | .box _,.dead=>True
 | .nst ..,.dead=>True
 | .nst ..,.nst .. =>True
 | .dead,.dead=>True
 | _,_=>False
def bA (m m':Mp) (h h':List Blk):Prop:= ∀id x,h[id]?=some x-> ∃x',h'[id]?=some x'/\Sim m m' id x x'
def Oks (w w':World) (m m':Mp) (h h':List Blk):Prop:= ∀n b,qM m h n b->b<w.heap.size->w'.heap[b]?=w.heap[b]?/\qM m' h' n b
section
variable {w w' : World} {m m' : Mp} {h h' : List Blk}
theorem x7 (d:Oks w w' m m' h h') {n:Nat} {t:Ty} {v:Val t} {cs:List Value} (hk:K w (qM m h n) t v cs):K w' (qM m' h' n) t v cs:=
 cv (fun b a c=>(d n b a c).1) (fun b a c=>(d n b a c).2) hk
theorem Ul (d:Oks w w' m m' h h') {n:Nat} {t:Ty} {A:Option Addr} {xs:List (Val t)} (hk:Rd w (qM m h n) t.sz (K w (qM m h n) t) A xs):Rd w' (qM m' h' n) t.sz (K w' (qM m' h' n) t) A xs:=
 lL (fun b a c=>(d n b a c).1) (fun b a c=>(d n b a c).2) hk
theorem ID (hs:bA m m' h h') {f:Nat} {ids:List Nat} {v:Value} (k:C w m h (.clo f ids) v):C w' m' h' (.clo f ids) v:=by
 obtain ⟨h1,h2,g⟩:=k
 refine ⟨h1,fun i a=> ?_,fun j=> ?_⟩
 ·obtain ⟨x',c,_⟩:=hs i _ (List.getElem?_eq_getElem (h2 i a))
  exact (List.getElem?_eq_some_iff.1 c).1
 ·have hold: ∀i∈ids,(∃cs,h[i]?=some (.box cs))/\m'.blk i=m.blk i:=fun i a=>by
   obtain ⟨x',c,b⟩:=hs i _ (List.getElem?_eq_getElem (h2 i a))
   obtain ⟨cs,l⟩:=j i a
   rw [l]at c;cases c
   rw [List.getElem?_eq_getElem (h2 i a)]
   revert b
   cases h[i]'(h2 i a)with
   | box d=>exact fun b=>⟨⟨d,rfl⟩,b⟩
   | row e t xs dp mt n=>exact fun b=>b.elim
   | nst F t hs vs=>exact fun b=>b.elim
   | dead=>exact fun b=>b.elim
  rw [g fun i a=>(hold i a).1]
  congr 2
  exact List.map_congr_left fun i a=>by rw [(hold i a).2]
theorem fS (j:Oks w w' m m' h h') (hs:bA m m' h h'): ∀{c:LC} {v:Value},C w m h c v->C w' m' h' c v
 | .int _ _,_,b | .bool _,_,b | .str _,_,b | .hdr _,_,b | .nils,_,b | .nilp,_,b | .fn _,_,b=>by simpa [C] using b
 | .undef,_,_=>trivial
 | .sl e t xs n,v,b=>by
   obtain ⟨A,c,he,q,r⟩:=b
   exact ⟨A,c,he,q,Ul j r⟩
 | .tptr t x f n,v,b=>by
   obtain ⟨a,cs,he,hk,l,o⟩:=b
   have p:=l.block_lt (by rw [cE hk];exact t.sz_pos)
   exact ⟨a,cs,he,x7 j hk,l.move (j n _ o p).1,(j n _ o p).2⟩
 | .clo f ids,v,b=>ID hs b
 | .own id,v,b=>by
   simp only [C]at b ⊢
   cases d:h[id]? with
   | none=>rw [d]at b;exact b.elim
   | some x=>
     rw [d]at b
     obtain ⟨x',k,s⟩:=hs id x d
     rw [k]
     cases x<;>cases x'<;>simp_all [Sim]
 | .ptr id i f,v,b=>by
   simp only [C]at b ⊢
   cases d:h[id]? with
   | none=>rw [d]at b;exact b.elim
   | some x=>
     rw [d]at b
     obtain ⟨x',k,s⟩:=hs id x d
     rw [k]
     cases x<;>cases x'<;>simp_all [Sim]
     case box.dead=>rfl
     case row.dead=>obtain ⟨g,_,rfl⟩:=b;rfl
theorem Um (d:Oks w w' m m' h h') (hs:bA m m' h h') {l:LV1} {v:Value} (a:V1 w m h l v):V1 w' m' h' l v:=by
 unfold V1 at a ⊢
 split at a
 ·obtain ⟨vs,he,e⟩:=a
  exact ⟨vs,he,e.imp fun _ _ _ b=>fS d hs b⟩
 ·obtain ⟨c,he,b,h1⟩:=a
  exact ⟨c,he,fS d hs b,h1⟩
theorem Un (e:Oks w w' m m' h h') (hs:bA m m' h h'): ∀{l:LV} {v:Value},V w m h l v->V w' m' h' l v
 | .one c,v,a=>fS e hs (c:=c) a
 | .agg cs,v,a=>by
   obtain ⟨vs,he,d⟩:=a
   exact ⟨vs,he,d.imp fun _ _ _ b=>fS e hs b⟩
 | .tup ls,v,a=>by
   obtain ⟨vs,he,d⟩:=a
   exact ⟨vs,he,d.imp fun _ _ _ b=>Um e hs b⟩
theorem eT (j:Oks w w' m m' h h') (hs:bA m m' h h') {id:Nat} {x:Blk} (u:m'.val id=m.val id) (o:m'.blk id=m.blk id) (r:m'.nst id=m.nst id)
 (d: ∀b∈fpB m id x,w'.heap[b]?=w.heap[b]?) (f:BR w m h id x):BR w' m' h' id x:=by
 cases x with
 | dead=>trivial
 | nst F t hs vs=>exact nj f fun b hm=>d b hm
 | box cs=>
   obtain ⟨arr,ty,g,p,h1⟩:=f
   refine ⟨arr,ty,?_,p.imp fun _ _ _ g=>fS j hs g,h1⟩
   rw [o,d _ (by simp [fpB])];exact g
 | row e t xs dp mt n=>
   obtain ⟨inner,s,a⟩:=f
   refine ⟨inner,?_,?_⟩
   ·rw [u]
    exact x6 s fun b l=>d b (by cases dp<;>simp [fpB,l])
   ·cases dp with
    | true=>
      simp only at a ⊢
      rw [r]
      exact ⟨a.1.imp fun x c b hk i=>dX i fun k q=>d k (by simp only [fpB];exact List.mem_append_right _ (hk k q)),a.2⟩
    | false=>
      simp only at a ⊢
      exact a.imp fun x c i=>x7 j i
end
end Go.T
namespace Go.T
open Go
section
variable {w0 w w' : World} {mine : Mine} {m m' : Mp} {h h' : List Blk}
theorem Fr.lift {A:Nat->Prop} (b:Fr A w w') (H:HR w0 mine w m h) (a: ∀k,A k-> ∃id x,h[id]?=some x/\k∈fpB m id x):Fr mine.own w0 w':=
 H.fr.trans b fun k hk=>by
  obtain ⟨id,x,c,hm⟩:=a k hk
  exact (H.lt id x c k hm).2
theorem HR.heap_eq (H:HR w0 mine w m h) (he:w'.heap=w.heap) (e:w'.os=w.os) (g:w'.tape=w.tape) (f:w'.output=w.output) (hdr:w.drawn<=w'.drawn):
 HR w0 mine w' m h/\Oks w w' m m h h/\bA m m h h:=by
 have d:Oks w w' m m h h:=fun n b c _=>⟨by rw [he],c⟩
 have hs:bA m m h h:=fun id x a=>⟨x,a,by cases x<;>simp [Sim]⟩
 refine ⟨⟨fun id x a=>eT d hs rfl rfl rfl (fun b _=>by rw [he]) (H.br id x a),H.nd,H.dj,fun id x a b c=>by rw [he];exact H.lt id x a b c,?_,H.mx,H.nx,H.pn⟩,d,hs⟩
 exact H.fr.trans (A':=fun _=>False) ⟨e,g,f,by rw [he];exact Nat.le_refl _,fun k _ _=>by rw [he],hdr⟩ (fun k hk=>hk.elim)
theorem BR.rowOne {id e:Nat} {t:Ty} {xs:List (Val t)} {dp mt:Bool} {n:Nat} (a:BR w m h id (.row e t xs dp mt n)):(m.val id).oneCell'=true:=by
 obtain ⟨inner,b,_⟩:=a
 obtain ⟨A,c,he,_⟩:=gP b
 rw [he];rfl
def cJ (x x':Blk):Prop:=x'= .dead∨x'=x∨x'=x.froze
theorem Uo {n b id:Nat} {x x':Blk} (hw:cJ x x') (hk:okB m n b id x):okB m n b id x':=by
 rcases hw with rfl | rfl | rfl
 ·trivial
 ·exact hk
 ·cases x with
  | row e t xs dp mt k=>exact ⟨fun a=>hk.1 (a.elim (fun h=>by simp at h) .inr),hk.2⟩
  | _=>exact hk
theorem Up {id:Nat} {x x':Blk} (hw:cJ x x'):(fpB m id x'=fpB m id x)∨x'= .dead:=by
 rcases hw with rfl | rfl | rfl
 ·exact .inr rfl
 ·exact .inl rfl
 ·left;cases x<;>rfl
theorem nk {id:Nat} {x x':Blk} (hw:cJ x x') (a:BR w m h id x):BR w m h id x':=by
 rcases hw with rfl | rfl | rfl
 ·trivial
 ·exact a
 ·cases x<;>exact a
theorem Uq {id:Nat} {x x':Blk} (hw:cJ x x') (a:BR w m h id x):Sim m m id x x':=by
 rcases hw with rfl | rfl | rfl
 ·cases x
  ·trivial
  ·exact a.rowOne
  ·trivial
  ·trivial
 ·cases x'<;>simp [Sim]
 ·cases x<;>simp [Sim,Blk.froze]
def bu (h h':List Blk):Prop:=h'.length=h.length/\ ∀(id:Nat) (x x':Blk),h[id]?=some x->h'[id]?=some x'->cJ x x'
theorem HR.weaker (H:HR w0 mine w m h) (hw:bu h h'):HR w0 mine w m h'/\Oks w w m m h h'/\bA m m h h':=by
 have back: ∀id x',h'[id]?=some x'-> ∃x,h[id]?=some x/\cJ x x':=fun id x' c=>by
  have e:id<h.length:=by rw [<-hw.1];exact (List.getElem?_eq_some_iff.1 c).1
  exact ⟨h[id],List.getElem?_eq_getElem e,hw.2 id _ _ (List.getElem?_eq_getElem e) c⟩
 have l:Oks w w m m h h':=fun n b d _=>⟨rfl,d.1,fun id x' c=>by
  obtain ⟨x,a,f⟩:=back id x' c
  exact Uo f (d.2 id x a)⟩
 have hs:bA m m h h':=fun id x a=>by
  have e:id<h'.length:=by rw [hw.1];exact (List.getElem?_eq_some_iff.1 a).1
  exact ⟨h'[id],List.getElem?_eq_getElem e,Uq (hw.2 id _ _ a (List.getElem?_eq_getElem e)) (H.br id x a)⟩
 have g: ∀id x',h'[id]?=some x'-> ∃x,h[id]?=some x/\(fpB m id x'=fpB m id x∨fpB m id x'=[]):=fun id x' c=>by
  obtain ⟨x,a,f⟩:=back id x' c
  rcases Up (m:=m) (id:=id) f with he | rfl
  ·exact ⟨x,a,.inl he⟩
  ·exact ⟨x,a,.inr rfl⟩
 refine ⟨⟨fun id x' c=> ?_,fun id x' c=> ?_,fun id s id' t o h1 h2 b d i=> ?_,fun id x' c b d=> ?_,H.fr,H.mx,H.nx,fun id v p=>by rw [hw.1];exact H.pn id v p⟩,l,hs⟩
 ·obtain ⟨x,a,f⟩:=back id x' c
  exact eT l hs rfl rfl rfl (fun b _=>rfl) (nk f (H.br id x a))
 ·obtain ⟨x,a,he | he⟩:=g id x' c<;>rw [he]
  ·exact H.nd id x a
  ·exact List.nodup_nil
 ·obtain ⟨u,q,j | j⟩:=g id s h1<;>rw [j]at d
  ·obtain ⟨y,r,k | k⟩:=g id' t h2<;>rw [k]at i
   ·exact H.dj id u id' y o q r b d i
   ·cases i
  ·cases d
 ·obtain ⟨x,a,he | he⟩:=g id x' c<;>rw [he]at d
  ·exact H.lt id x a b d
  ·cases d
theorem cJ.refl (x:Blk):cJ x x:= .inr (.inl rfl)
theorem cJ.dead (x:Blk):cJ x .dead:= .inl rfl
theorem cJ.froze (x:Blk):cJ x x.froze:= .inr (.inr rfl)
theorem cJ.trans {x y z:Blk} (h1:cJ x y) (h2:cJ y z):cJ x z:=by
 rcases h2 with rfl | rfl | rfl
 ·exact .dead _
 ·exact h1
 ·rcases h1 with rfl | rfl | rfl
  ·exact .dead _
  ·exact .froze _
  ·right;right;cases x<;>rfl
theorem bu.refl (h:List Blk):bu h h:=⟨rfl,fun id x x' h1 h2=>by rw [h1]at h2;cases h2;exact .refl _⟩
theorem bu.trans {h1 h2 c:List Blk} (a:bu h1 h2) (b:bu h2 c):bu h1 c:=
 ⟨b.1.trans a.1,fun id x z e f=>by
   have d:id<h2.length:=by rw [a.1];exact (List.getElem?_eq_some_iff.1 e).1
   exact (a.2 id x _ e (List.getElem?_eq_getElem d)).trans (b.2 id _ z (List.getElem?_eq_getElem d) f)⟩
theorem bu.kill (h:List Blk) (ids:List Nat):bu h (kill h ids):=by
 induction ids generalizing h with
 | nil=>exact .refl h
 | cons i ids a=>
   refine bu.trans ⟨by simp,fun id x x' h1 h2=> ?_⟩ (a (h.set i .dead))
   by_cases e:i=id
   ·subst e
    rw [List.getElem?_set_self (List.getElem?_eq_some_iff.1 h1).1]at h2
    cases h2;exact .dead _
   ·rw [List.getElem?_set_ne e,h1]at h2
    cases h2;exact .refl _
theorem bu.freeze (h:List Blk) (ids:List Nat):bu h (freeze h ids):=by
 induction ids generalizing h with
 | nil=>exact .refl h
 | cons i ids a=>
   refine bu.trans ⟨by simp,fun id x x' h1 h2=> ?_⟩ (a (h.modify i Blk.froze))
   rw [List.getElem?_modify]at h2
   by_cases e:i=id
   ·subst e;rw [h1]at h2;simp at h2;subst h2;exact .froze _
   ·simp [e,h1]at h2;subst h2;exact .refl _
theorem HR.new {h1:List Blk} (H:HR w0 mine w m h) (hw:bu h h1) (x:Blk) (o:Fr (fun _=>False) w w')
 (q: ∀i,i<h.length->m'.val i=m.val i) (hblk: ∀i,i<h.length->m'.blk i=m.blk i) (u: ∀i,i<h.length->m'.nst i=m.nst i) (B:m'.ext=m.ext)
 (M: ∀n b,qM m h n b->b<w.heap.size->okB m' n b h.length x)
 (I:Oks w w' m m' h (h1++[x])->bA m m' h (h1++[x])->BR w' m' (h1++[x]) h.length x)
 (K:(fpB m' h.length x).Nodup)
 (p: ∀b∈fpB m' h.length x,b<w'.heap.size/\(w0.heap.size<=b∨mine.own b)/\ ∀id y,h1[id]?=some y->b∉fpB m id y):
 HR w0 mine w' m' (h1++[x])/\Oks w w' m m' h (h1++[x])/\bA m m' h (h1++[x]):=by
 obtain ⟨H1,L,O⟩:=H.weaker hw
 have t:=hw.1
 have get: ∀id y,(h1++[x])[id]?=some y->(id<h.length/\h1[id]?=some y)∨(id=h.length/\y=x):=fun id y c=>by
  by_cases a:id<h1.length
  ·rw [List.getElem?_append_left a]at c;exact .inl ⟨by omega,c⟩
  ·rw [List.getElem?_append_right (by omega)]at c
   have:id - h1.length=0:=by
        rcases Nat.eq_zero_or_pos (id - h1.length)with A | A
        ·exact A
        ·rw [List.getElem?_eq_none (by simp;omega)]at c;cases c
   rw [this]at c
   simp at c
   exact .inr ⟨by omega,c.symm⟩
 have R: ∀n b id y,id<h.length->(okB m' n b id y↔okB m n b id y):=fun n b id y a=>by
  cases y<;>simp [okB,q id a,hblk id a,u id a]
 have g: ∀id y,id<h.length->fpB m' id y=fpB m id y:=fun id y a=>by
  cases y<;>simp [fpB,q id a,hblk id a,u id a]
 have z:Oks w w' m m' h (h1++[x]):=fun n b d a=>⟨o.block b a (fun h=>h),by rw [B];exact d.1,fun id y c=>by
  rcases get id y c with ⟨J,e⟩ | ⟨rfl,rfl⟩
  ·exact (R n b id y J).2 ((L n b d a).2.2 id y e)
  ·exact M n b d a⟩
 have hs:bA m m' h (h1++[x]):=fun id y c=>by
  have a:=(List.getElem?_eq_some_iff.1 c).1
  obtain ⟨f,r,S⟩:=O id y c
  refine ⟨f,by rw [List.getElem?_append_left (by omega)];exact r,?_⟩
  cases y<;>cases f<;>simp_all [Sim]
 refine ⟨⟨fun id y c=> ?_,fun id y c=> ?_,fun id f id' l D F G b d j=> ?_,fun id y c b d=> ?_,?_,B.trans H.mx,H.nx,fun id v N=>by
  obtain ⟨h1,h2⟩:=H.pn id v N
  exact ⟨by simp;omega,by rw [q id h1,hblk id h1];exact h2⟩⟩,z,hs⟩
 ·rcases get id y c with ⟨a,e⟩ | ⟨rfl,rfl⟩
  ·obtain ⟨s,Q,P⟩: ∃s,h[id]?=some s/\cJ s y:=⟨h[id],List.getElem?_eq_getElem a,hw.2 id _ _ (List.getElem?_eq_getElem a) e⟩
   exact eT z hs (q id a) (hblk id a) (u id a) (fun b d=>o.block b (H1.lt id y e b d).1 (fun h=>h)) (nk P (H.br id s Q))
  ·exact I z hs
 ·rcases get id y c with ⟨a,e⟩ | ⟨rfl,rfl⟩
  ·rw [g id y a];exact H1.nd id y e
  ·exact K
 ·rcases get id f F with ⟨t,r⟩ | ⟨rfl,rfl⟩<;>rcases get id' l G with ⟨C,E⟩ | ⟨rfl,rfl⟩
  ·rw [g id f t]at d;rw [g id' l C]at j
   exact H1.dj id f id' l D r E b d j
  ·rw [g id f t]at d
   exact (p b j).2.2 id f r d
  ·rw [g id' l C]at j
   exact (p b d).2.2 id' l E j
  ·exact D rfl
 ·rcases get id y c with ⟨a,e⟩ | ⟨rfl,rfl⟩
  ·rw [g id y a]at d
   have:=H1.lt id y e b d
   exact ⟨Nat.lt_of_lt_of_le this.1 o.size,this.2⟩
  ·exact ⟨(p b d).1,(p b d).2.1⟩
 ·exact o.lift H (fun k hk=>hk.elim)
end
section
variable {w w' : World} {m m' : Mp} {h h' : List Blk} {env : List LV} {a : Act}
theorem bV (b:Oks w w' m m' h h') (hs:bA m m' h h') (he:F2 (V w m h) env a.tmps.toList):F2 (V w' m' h') env a.tmps.toList:=
 he.imp fun _ _ _ c=>Un b hs c
theorem dY (he:F2 (V w m h) env a.tmps.toList) (d:Option Tmp) {l:LV} {v:Value} (b:V w m h l v):
 F2 (V w m h) (match d with | some t=>env.set t l | none=>env) (a.put d v).tmps.toList:=by
 cases d with
 | none=>exact he
 | some t=>simp only [Act.put,Array.toList_setIfInBounds];exact he.set t b
end
theorem c0 (a:Act) (d:Option Tmp) (v:Value):(a.put d v).defers=a.defers:=by cases d<;>rfl
theorem St.put_heap (st:St) (d:Option Tmp) (v:LV):(st.put d v).heap=st.heap:=by cases d<;>rfl
theorem St.put_env (st:St) (d:Option Tmp) (v:LV):(st.put d v).env=(match d with | some t=>st.env.set t v | none=>st.env):=by cases d<;>rfl
theorem R.put {w0 w:World} {mine:Mine} {st:St} {a:Act} (b:R w0 mine st a w) (d:Option Tmp) {l:LV} {v:Value} (c: ∀m,HR w0 mine w m st.heap->F2 (V w m st.heap) st.env a.tmps.toList->V w m st.heap l v):
 R w0 mine (st.put d l) (a.put d v) w:=by
 obtain ⟨hd,m,H,he⟩:=b
 refine ⟨by rw [c0];exact hd,m,by rw [St.put_heap];exact H,?_⟩
 rw [St.put_heap,St.put_env]
 exact dY he d (c m H he)
theorem R.ev {w0 w:World} {mine:Mine} {st:St} {a:Act} {m:Mp} (_H:HR w0 mine w m st.heap) (he:F2 (V w m st.heap) st.env a.tmps.toList) (x:Operand):V w m st.heap (st.ev x) (a.eval x):=by
 cases x with
 | tmp t=>
   show V w m st.heap (st.env.getD t (.one .undef)) (a.tmps.getD t undef)
   rw [List.getD_eq_getElem?_getD,Array.getD_eq_getD_getElem?]
   cases d:st.env[t]? with
   | none=>
     trivial
   | some l=>
     obtain ⟨v,b,c⟩:=he.get d
     simp only [Array.getElem?_toList]at b
     rw [b]
     exact c
 | const v=>
   show V w m st.heap (nh v) v
   unfold nh
   split<;>first | rfl | trivial
 | func f=>rfl
 | global g=>trivial
end Go.T
