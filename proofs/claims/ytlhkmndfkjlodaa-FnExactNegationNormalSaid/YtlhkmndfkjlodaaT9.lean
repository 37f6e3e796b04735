/- T: what comes in as an argument. -/
import Derived.Test.YtlhkmndfkjlodaaT8
import Derived.ProofKit
import Derived.OpenShut
import Derived.WideShapes
import Derived.Carry
import Derived.Below
set_option linter.unusedSimpArgs false
set_option linter.unusedVariables false
namespace Go.T
open Go Go.WideShapes
def Sm:(t:Ty)→Val t→Prop
 | .int k,n=>(Lit.int k n).wf=true
 | .bool,_=>True
 | .str,s=>s.size≤maxLen
 | .hdr,_=>True
 | .slice _ t,xs=>xs.length≤maxLen∧ ∀x∈xs,Sm t x
 | .pair a b,v=>Sm a v.1∧Sm b v.2
mutual
def qft (P:Program):Nat→TypeId→Option Ty
 | 0,_=>none
 | n+1,t=>match P.underlying t with
   | some (.int k)=>some (.int k)
   | some .bool=>some .bool
   | some .string=>some .str
   | some (.slice e)=>match qft P n e with
     | some te=>if P.cellsOf e=te.sz then some (.slice e te)else none
     | none=>none
   | some (.struct fs)=>match qhO P n 0 fs.toList with
     | some ty=>if P.cellsOf t=ty.sz then some ty else none
     | none=>none
   | _=>none
def qhO (P:Program):Nat→Nat→List Field→Option Ty
 | 0,_,_=>none
 | n+1,off,fs=>match fs with
   | []=>none
   | [f]=>match qft P n f.type with
     | some a=>if f.offset=off∧P.cellsOf f.type=a.sz then some a else none
     | none=>none
   | f::g::r=>match qft P n f.type with
     | some a=>if f.offset=off∧P.cellsOf f.type=a.sz then match qhO P n (off+a.sz) (g::r)with
       | some b=>some (.pair a b)
       | none=>none
       else none
     | none=>none
end
theorem qUv {w:World} {a:Addr} {n:Nat} {cs:List Value} (h:w.cells? 0 a n=some cs):cs.length=n∧At w a cs:=by
 unfold World.cells? at h
 simp only [Nat.zero_le,if_true]at h
 have hl:=mapM_some_length h
 refine ⟨by simpa using hl,fun j u hu=> ?_⟩
 have hj:j<n:=by
  have:=(List.getElem?_eq_some_iff.1 hu).1
  simp at hl;omega
 have:=mapM_some_get h j j (by simp [hj])
 rw [this,hu]
theorem qJ7 {α:Type} {Q:Nat→α→Prop}: ∀n:Nat,(∀i,i<n→ ∃x,Q i x)→ ∃xs:List α,xs.length=n∧ ∀i x,xs[i]?=some x→Q i x
 | 0,_=>⟨[],rfl,fun i x h=>by simp at h⟩
 | n+1,h=>by
   obtain ⟨xs,hl,hx⟩:=qJ7 n fun i hi=>h i (by omega)
   obtain ⟨y,hy⟩:=h n (by omega)
   refine ⟨xs++[y],by simp [hl],fun i x hi=> ?_⟩
   by_cases e:i<n
   ·rw [List.getElem?_append_left (by omega)]at hi;exact hx i x hi
   ·rw [List.getElem?_append_right (by omega)]at hi
    have:i=n:=by
     rcases Nat.lt_or_ge n i with h' | h'
     ·rw [List.getElem?_eq_none (by simp;omega)]at hi;cases hi
     ·omega
    subst this
    simp [hl]at hi
    subst hi;exact hy
section
variable {H : Type} {enc : TypeId × Value → H} {P : Program} {w : World} {spare : Nat → Bool} {held : Bool}
mutual
theorem qrR: ∀(n:Nat) {fuel:Nat} {t:TypeId} {ty:Ty} {cs:List Value} {x:DataW H×List MemPlace},qft P n t=some ty→DataW.trod enc P w 0 spare held fuel t cs=some x→ ∃v:Val ty,K w (fun _=>True) ty v cs∧Sm ty v
 | 0,_,_,_,_,_,h,_=>by simp [qft]at h
 | n+1,fuel,t,ty,cs,x,h,hx=>by
   unfold qft at h
   split at h
   ·rename_i k hu
    cases h
    obtain ⟨m,rfl,_,hw⟩:=DataW.trod_int hu hx
    exact ⟨m,by rw [K],hw⟩
   ·rename_i hu
    cases h
    obtain ⟨b,rfl,_⟩:=DataW.trod_bool hu hx
    exact ⟨(b:Bool),by rw [K],trivial⟩
   ·rename_i hu
    cases h
    obtain ⟨s,rfl,_,hs⟩:=DataW.trod_string hu hx
    exact ⟨(s:ByteArray),by rw [K],hs⟩
   ·rename_i e hu
    split at h
    ·rename_i te hte
     split at h
     ·rename_i hsz
      cases h
      rcases DataW.trod_slice hu hx with ⟨rfl,_⟩ | ⟨a,len,cap,elems,rest,m,_,rfl,_,_,h1,h2,h3,h4,_⟩
      ·refine ⟨([]:List (Val te)),?_,?_⟩
       ·rw [K];exact ⟨none,0,rfl,Nat.le_refl _,fun i x h=>by simp at h⟩
       ·exact ⟨by simp,by simp⟩
      ·obtain ⟨xs,hxl,hxs⟩:=qJ7 (Q:=fun i (v:Val te)=>(∃cs,K w (fun _=>True) te v cs∧At w (a.add (i*te.sz)) cs)∧Sm te v) len fun i hi=>by
             have hg:=h4 i hi
             have:i<elems.length:=by omega
             rw [List.getElem?_eq_getElem this,hsz]at hg
             simp only [Option.bind_eq_some_iff]at hg
             obtain ⟨cs',hc,ht⟩:=hg
             obtain ⟨_,hat⟩:=qUv hc
             obtain ⟨v,hv,hs⟩:=qrR n hte ht
             exact ⟨v,⟨cs',hv,hat⟩,hs⟩
       refine ⟨xs,?_,?_⟩
       ·rw [K]
        exact ⟨some a,cap,by rw [hxl],by omega,fun i x hi=>by
              obtain ⟨⟨cs',hv,hat⟩,_⟩:=hxs i x hi
              exact ⟨a,cs',rfl,trivial,hv,hat⟩⟩
       ·refine ⟨by omega,fun y hy=> ?_⟩
        obtain ⟨i,hi⟩:=List.getElem?_of_mem hy
        exact (hxs i y hi).2
     ·simp at h
    ·simp at h
   ·rename_i fs hu
    split at h
    ·rename_i ty' hty
     split at h
     ·rename_i hsz
      cases h
      obtain ⟨ys,m,_,_,hl,hyl,hf⟩:=DataW.trod_struct hu hx
      obtain ⟨v,hk,hs⟩:=qIw (cs:=cs) n hty (fun f hm=>by
           obtain ⟨i,hi⟩:=List.getElem?_of_mem hm
           have hi':fs[i]?=some f:=by rw [←Array.getElem?_toList];exact hi
           have:=hf i f hi'
           have hil:i<ys.length:=by rw [hyl];exact (Array.getElem?_eq_some_iff.1 hi').1
           rw [List.getElem?_eq_getElem hil]at this
           exact ⟨_,this⟩)
      refine ⟨v,?_,hs⟩
      have:(cs.drop 0).take ty.sz=cs:=by rw [List.drop_zero,List.take_of_length_le (by omega)]
      rw [←this];exact hk
     ·simp at h
    ·simp at h
   ·simp at h
theorem qIw: ∀(n:Nat) {fuel off:Nat} {fs:List Field} {ty:Ty} {cs:List Value},qhO P n off fs=some ty→(∀f∈fs,∃y,DataW.trod enc P w 0 spare held fuel f.type ((cs.drop f.offset).take (P.cellsOf f.type))=some y)→
 ∃v:Val ty,K w (fun _=>True) ty v ((cs.drop off).take ty.sz)∧Sm ty v
 | 0,_,_,_,_,_,h,_=>by simp [qhO]at h
 | n+1,fuel,off,[],ty,cs,h,_=>by simp [qhO]at h
 | n+1,fuel,off,[f],ty,cs,h,hm=>by
   simp only [qhO]at h
   split at h
   ·rename_i a ha
    split at h
    ·rename_i hc
     cases h
     obtain ⟨y,hy⟩:=hm f (by simp)
     rw [hc.1,hc.2]at hy
     exact qrR n ha hy
    ·simp at h
   ·simp at h
 | n+1,fuel,off,f::g::r,ty,cs,h,hm=>by
   simp only [qhO]at h
   split at h
   ·rename_i a ha
    split at h
    ·rename_i hc
     split at h
     ·rename_i b hb
      cases h
      obtain ⟨y,hy⟩:=hm f (by simp)
      rw [hc.1,hc.2]at hy
      obtain ⟨v1,hk1,hs1⟩:=qrR n ha hy
      obtain ⟨v2,hk2,hs2⟩:=qIw (cs:=cs) n hb fun f hf=>hm f (List.mem_cons_of_mem _ hf)
      refine ⟨((v1,v2):Val a×Val b),?_,hs1,hs2⟩
      rw [K]
      refine ⟨_,_,?_,hk1,hk2⟩
      rw [Ty.sz,←List.drop_drop,List.take_add]
     ·simp at h
    ·simp at h
   ·simp at h
end
def Sms:(tis:List TI)→qc tis→Prop
 | [],_=>True
 | ti::r,x=>Sm ti.ty x.1∧Sms r x.2
def qJh (P:Program) (t:TypeId):Bool:=match P.underlying t with
 | some (.struct _)=>true
 | _=>false
theorem qIg {base n:Nat} {r:Reach} {t:TypeId} {ti:TI} {v:Value} {d:DataW H} {p:List MemPlace} (hty:qft P n t=some ti.ty) (hag:qJh P t=ti.agg) (hv:Value.okWide P w r base t v) (h:DataW.Trod enc P w 0 spare held t v d p):
 ∃x:Val ti.ty,∃cs,K w (fun _=>True) ti.ty x cs∧qav ti.agg cs v∧Sm ti.ty x:=by
 obtain ⟨fuel,hf⟩:=h
 obtain ⟨x,hk,hs⟩:=qrR n hty hf
 refine ⟨x,_,hk,?_,hs⟩
 rw [←hag]
 unfold qJh
 cases n with
 | zero=>simp [qft]at hty
 | succ n=>
   unfold qft at hty
   split at hty
   ·rename_i k hu
    rw [hu]
    simp only [qav]
    obtain ⟨m,hc,_⟩:=DataW.trod_int hu hf
    simp only [Value.okWide,hu,Cell.okWide]at hv
    cases v<;>simp_all [Cell.ok,Value.cells]
   ·rename_i hu
    rw [hu]
    simp only [qav]
    simp only [Value.okWide,hu,Cell.okWide]at hv
    cases v<;>simp_all [Cell.ok,Value.cells]
   ·rename_i hu
    rw [hu]
    simp only [qav]
    obtain ⟨s,rfl⟩:=okWide_string hu hv
    simp [Value.cells]
   ·rename_i e hu
    rw [hu]
    simp only [qav]
    obtain ⟨a,l,c,rfl⟩:=okWide_slice hu hv
    simp [Value.cells]
   ·rename_i fs hu
    rw [hu]
    simp only [qav]
    obtain ⟨cs,rfl,_⟩:=okWide_struct hu hv
    simp [Value.cells]
   ·simp at hty
end
end Go.T
/- T: sizes, equality, bounds of values. -/
namespace Go.T
open Go
def szL {α:Type} (f:α→Int→Int):List α→Int→Int
 | [],n=>n
 | x::r,n=>if f x n<0 then -1 else szL f r (f x n)
def szV:(t:Ty)→Val t→Int→Int
 | .int _,_,n=>n
 | .bool,_,n=>n
 | .str,s,n=>if n - s.size<0 then -1 else n - s.size
 | .hdr,_,n=>n
 | .slice _ t,xs,n=>if n - xs.length<0 then -1 else szL (szV t) xs (n - xs.length)
 | .pair a b,v,n=>if szV a v.1 n<0 then -1 else szV b v.2 (szV a v.1 n)
def Bd:(t:Ty)→Val t→Prop
 | .int _,_=>True
 | .bool,_=>True
 | .str,s=>s.size≤1048576
 | .hdr,_=>True
 | .slice _ t,xs=>xs.length≤1048576∧ ∀x∈xs,Bd t x
 | .pair a b,v=>Bd a v.1∧Bd b v.2
theorem qJb {α:Type} {f:α→Int→Int} (hf: ∀x n,0≤n→f x n≤n∧(f x n<0→f x n= -1)): ∀(xs:List α) (n:Int),0≤n→szL f xs n≤n∧(szL f xs n<0→szL f xs n= -1)
 | [],n,h=>⟨Int.le_refl _,fun h'=>by simp only [szL]at h' ⊢;omega⟩
 | x::r,n,h=>by
   have h1:=hf x n h
   simp only [szL]
   split
   ·exact ⟨by omega,fun _=>rfl⟩
   ·have:=qJb hf r (f x n) (by omega)
    exact ⟨by omega,this.2⟩
theorem qcz: ∀(t:Ty) (x:Val t) (n:Int),0≤n→szV t x n≤n∧(szV t x n<0→szV t x n= -1)
 | .int _,_,n,h=>⟨Int.le_refl _,fun h'=>by simp only [szV]at h' ⊢;omega⟩
 | .bool,_,n,h=>⟨Int.le_refl _,fun h'=>by simp only [szV]at h' ⊢;omega⟩
 | .str,s,n,h=>by simp only [szV];split<;>omega
 | .hdr,_,n,h=>⟨Int.le_refl _,fun h'=>by simp only [szV]at h' ⊢;omega⟩
 | .slice _ t,xs,n,h=>by
   simp only [szV]
   split
   ·exact ⟨by omega,fun _=>rfl⟩
   ·have:=qJb (f:=szV t) (fun x n h=>qcz t x n h) xs (n - xs.length) (by omega)
    exact ⟨by omega,this.2⟩
 | .pair a b,v,n,h=>by
   simp only [szV]
   have h1:=qcz a v.1 n h
   split
   ·exact ⟨by omega,fun _=>rfl⟩
   ·have:=qcz b v.2 (szV a v.1 n) (by omega)
    exact ⟨by omega,this.2⟩
theorem qJT {α:Type} {f:α→Int→Int} {B:α→Prop} (hf: ∀x n,0≤n→n≤1048576→0≤f x n→f x n≤n∧B x): ∀(xs:List α) (n:Int),0≤n→n≤1048576→0≤szL f xs n→ ∀x∈xs,B x
 | [],_,_,_,_=>by simp
 | x::r,n,h0,h1,h=>by
   simp only [szL]at h
   split at h
   ·omega
   ·rename_i hx
    have:=hf x n h0 h1 (by omega)
    intro y hy
    rcases List.mem_cons.1 hy with rfl | hy
    ·exact this.2
    ·exact qJT hf r (f x n) (by omega) (by omega) h y hy
theorem qnA: ∀(t:Ty) (x:Val t) (n:Int),0≤n→n≤1048576→0≤szV t x n→Bd t x
 | .int _,_,_,_,_,_=>trivial
 | .bool,_,_,_,_,_=>trivial
 | .hdr,_,_,_,_,_=>trivial
 | .str,s,n,h0,h1,h=>by
   simp only [szV]at h
   split at h
   ·omega
   ·simp only [Bd];omega
 | .slice _ t,xs,n,h0,h1,h=>by
   simp only [szV]at h
   split at h
   ·omega
   ·refine ⟨by omega,?_⟩
    exact qJT (f:=szV t) (fun x n h0 h1 h=>⟨(qcz t x n h0).1,qnA t x n h0 h1 h⟩) xs _ (by omega) (by omega) h
 | .pair a b,v,n,h0,h1,h=>by
   simp only [szV]at h
   split at h
   ·omega
   ·have:=qcz a v.1 n h0
    exact ⟨qnA a v.1 n h0 h1 (by omega),qnA b v.2 _ (by omega) (by omega) h⟩
theorem qJ8 {α:Type} {f:α→Int→Int} (hf: ∀x n,f x n=n): ∀(xs:List α) (n:Int),0≤n→szL f xs n=n
 | [],_,_=>rfl
 | x::r,n,h=>by simp only [szL,hf];rw [if_neg (by omega),qJ8 hf r n h]
def eqL {α:Type} (f:α→α→Bool):List α→List α→Bool
 | [],[]=>true
 | x::xs,y::ys=>f x y&&eqL f xs ys
 | _,_=>false
def eqV:(t:Ty)→Val t→Val t→Bool
 | .int _,a,b=>decide ((a:Int)=b)
 | .bool,a,b=>(a:Bool)==b
 | .str,a,b=>ByteArray.toList a==ByteArray.toList b
 | .hdr,_,_=>true
 | .slice _ t,xs,ys=>eqL (eqV t) xs ys
 | .pair a b,v,u=>eqV a v.1 u.1&&eqV b v.2 u.2
theorem qJ3 {α:Type} {f:α→α→Bool} (hf: ∀x,f x x=true): ∀xs:List α,eqL f xs xs=true
 | []=>rfl
 | x::xs=>by simp [eqL,hf,qJ3 hf xs]
theorem qik: ∀(t:Ty) (x:Val t),eqV t x x=true
 | .int _,x=>by simp [eqV]
 | .bool,x=>by simp [eqV]
 | .str,x=>by simp [eqV]
 | .hdr,x=>by simp [eqV]
 | .slice _ t,xs=>by simp only [eqV];exact qJ3 (qik t) xs
 | .pair a b,v=>by simp [eqV,qik a v.1,qik b v.2]
theorem qib {α:Type} {f:α→α→Bool}: ∀(xs ys:List α),xs.length≠ys.length→eqL f xs ys=false
 | [],[],h=>absurd rfl h
 | [],_::_,_=>rfl
 | _::_,[],_=>rfl
 | x::xs,y::ys,h=>by simp [eqL,qib xs ys (by simpa using h)]
theorem qIr {a b:Ty} {v:Val a×Val b} {n:Int}:szV (.pair a b) v n=if szV a v.1 n<0 then -1 else szV b v.2 (szV a v.1 n):=rfl
theorem qIc {s:ByteArray} {n:Int}:szV .str s n=if n - s.size<0 then -1 else n - s.size:=rfl
theorem qj6 {e:Nat} {t:Ty} {xs:List (Val t)} {n:Int}:szV (.slice e t) xs n=if n - xs.length<0 then -1 else szL (szV t) xs (n - xs.length):=rfl
theorem qIY {a b:Ty} {v:Val a×Val b} {n:Int} (h:szV a v.1 n<0):szV (.pair a b) v n= -1:=by rw [qIr,if_pos h]
theorem qI4 {a b:Ty} {v:Val a×Val b} {n:Int} (h:0≤szV a v.1 n):szV (.pair a b) v n=szV b v.2 (szV a v.1 n):=by rw [qIr,if_neg (by omega)]
theorem qMJ {s:ByteArray} {n:Int} (h:n - s.size<0):szV .str s n= -1:=by rw [qIc,if_pos h]
theorem qJ4 {s:ByteArray} {n:Int} (h:0≤n - s.size):szV .str s n=n - s.size:=by rw [qIc,if_neg (by omega)]
theorem qT7 {t:Ty} (h: ∀(x:Val t) n,szV t x n=n) (xs:List (Val t)) (n:Int) (hn:0≤n):szL (szV t) xs n=n:=qJ8 h xs n hn
theorem qTO {i n:Nat} (h:i<n) (hn:n≤1048576):IntKind.i64.wrap ((i:Int)+1)=((i+1:Nat):Int):=by
 rw [IntKind.wrap_i64];omega
def qeI (t:Ty) (x:Val t) (n:Int):Prop:=Sm t x∧0≤n∧n≤1048576
def qex {α:Type} (xs:List α) (d:α) (i:Nat):List α:=xs.take i++List.replicate (xs.length - i) d
theorem qXJ {α:Type} {xs:List α} {d:α} {i:Nat} (h:i≤xs.length):(qex xs d i).length=xs.length:=by
 simp [qex];omega
theorem qOP {α:Type} (xs:List α) (d:α):List.replicate xs.length d=qex xs d 0:=by simp [qex]
theorem qOC {α:Type} {xs:List α} {d:α} {i:Nat} (h:xs.length≤i):qex xs d i=xs:=by
 simp [qex,List.take_of_length_le h,Nat.sub_eq_zero_of_le h]
theorem qWf {α:Type} {xs:List α} {d d':α} {i:Nat} (h:i<xs.length):(qex xs d i).set i (xs[i]?.getD d')=qex xs d (i+1):=by
 have e1:xs.length - i=(xs.length - (i+1))+1:=by omega
 have e2:i - (xs.take i).length=0:=by simp;omega
 unfold qex
 rw [e1,List.replicate_succ,List.set_append_right _ _ (by simp;omega),e2,List.set_cons_zero,List.getElem?_eq_getElem h,Option.getD_some]
 have e3:xs.take (i+1)=xs.take i++[xs[i]]:=by rw [List.take_add_one,List.getElem?_eq_getElem h];rfl
 rw [e3,List.append_assoc];rfl
theorem qax {n:Int} (h1: -9223372036854775808≤n) (h2:n≤9223372036854775807):IntKind.i64.wrap n=n:=by
 rw [IntKind.wrap_i64];omega
def qI7:Nat→Nat→Tree→Tree
 | _,0,t=>t
 | i,n+1,t=> .quiet i (qI7 (i+1) n t)
attribute [simp] qI7
end Go.T
/- T: nil slices as rows of no elements. -/
namespace Go.T
open Go
inductive Fix
 | env (j c e:Nat) (t:Ty)
 | box (j c e:Nat) (t:Ty)
 | und (j c e:Nat) (t:Ty)
 | nse (j c e:Nat) (t:Ty)
 | nsb (j c e:Nat) (t:Ty)
 | unb (j c e:Nat) (t:Ty)
 | frb (j c e:Nat) (t:Ty)
 | shb (j c e:Nat) (t:Ty)
 | she (j c e:Nat) (t:Ty)
structure Nm where
 keep:List Bool
 fix:List Fix:=[]
 zero:Bool:=false
def St.undp (st:St) (id:Nat):St:=match st.heap[id]? with
 | some (.row e t xs true mt _)=>{env:=st.env,heap:=st.heap.set id (.row e t xs false mt st.heap.length)}
 | _=>st
def St.frz (st:St) (id:Nat):St:={env:=st.env,heap:=freeze st.heap [id]}
def St.fix1 (st:St):Fix→St
 | .env j c e t=>match st.env[j]? with
   | some (.one .nils)=>{env:=st.env.set j (.one (.own st.heap.length)),heap:=st.heap++[.row e t [] true true 0]}
   | some (.agg cs)=>match cs[c]? with
     | some .nils=>{env:=st.env.set j (.agg (cs.set c (.own st.heap.length))),heap:=st.heap++[.row e t [] true true 0]}
     | _=>st
   | _=>st
 | .box j c e t=>match st.env[j]? with
   | some (.one (.ptr id _ _))=>match st.heap[id]? with
     | some (.box cs)=>match cs[c]? with
       | some .nils=>{env:=st.env,heap:=st.heap.set id (.box (cs.set c (.own st.heap.length)))++[.row e t [] true true 0]}
       | _=>st
     | _=>st
   | _=>st
 | .nse j c e t=>match st.env[j]? with
   | some (.one .nils)=>{env:=st.env.set j (.one (.sl e t [] st.heap.length)),heap:=st.heap}
   | some (.agg cs)=>match cs[c]? with
     | some .nils=>{env:=st.env.set j (.agg (cs.set c (.sl e t [] st.heap.length))),heap:=st.heap}
     | _=>st
   | _=>st
 | .nsb j c e t=>match st.env[j]? with
   | some (.one (.ptr id _ _))=>match st.heap[id]? with
     | some (.box cs)=>match cs[c]? with
       | some .nils=>{env:=st.env,heap:=st.heap.set id (.box (cs.set c (.sl e t [] st.heap.length)))}
       | _=>st
     | _=>st
   | _=>st
 | .und j c _ _=>match st.env[j]? with
   | some lv=>match lv.cells[c]? with
     | some (.own id)=>st.undp id
     | _=>st
   | _=>st
 | .unb j c _ _=>match st.env[j]? with
   | some (.one (.ptr b _ _))=>match st.heap[b]? with
     | some (.box cs)=>match cs[c]? with
       | some (.own id)=>st.undp id
       | _=>st
     | _=>st
   | _=>st
 | .frb j c _ _=>match st.env[j]? with
   | some (.one (.ptr b _ _))=>match st.heap[b]? with
     | some (.box cs)=>match cs[c]? with
       | some (.own id)=>st.frz id
       | _=>st
     | _=>st
   | _=>st
 | .shb j c _ _=>match st.env[j]? with
   | some (.one (.ptr b _ _))=>match st.heap[b]? with
     | some (.box cs)=>match cs[c]? with
       | some (.own id)=>match st.heap[id]? with
         | some (.row e t xs _ false _)=>{env:=st.env,heap:=st.heap.set b (.box (cs.set c (.sl e t xs st.heap.length)))}
         | _=>st
       | _=>st
     | _=>st
   | _=>st
 | .she j c _ _=>match st.env[j]? with
   | some (.one (.own id))=>match st.heap[id]? with
     | some (.row e t xs _ _ _)=>{env:=st.env.set j (.one (.sl e t xs st.heap.length)),heap:=freeze st.heap [id]}
     | _=>st
   | some (.agg cs)=>match cs[c]? with
     | some (.own id)=>match st.heap[id]? with
       | some (.row e t xs _ _ _)=>{env:=st.env.set j (.agg (cs.set c (.sl e t xs st.heap.length))),heap:=freeze st.heap [id]}
       | _=>st
     | _=>st
   | _=>st
def St.fixes (st:St):List Fix→St
 | []=>st
 | f::r=>(st.fix1 f).fixes r
def St.norm (nm:Nm) (st:St):St:=(st.fixes nm.fix).gc nm.zero nm.keep
section
variable {w0 w : World} {mine : Mine} {m : Mp} {h : List Blk}
theorem HR.rebox (H:HR w0 mine w m h) {id:Nat} {cs cs':List LC} (hb:h[id]?=some (.box cs)) (hc: ∀vs:List Value,F2 (C w m h) cs vs→F2 (C w m h) cs' vs):
 HR w0 mine w m (h.set id (.box cs'))∧Oks w w m m h (h.set id (.box cs'))∧qac m m h (h.set id (.box cs')):=by
 have hid:=(List.getElem?_eq_some_iff.1 hb).1
 have get: ∀j y,(h.set id (.box cs'))[j]?=some y→(j=id∧y= .box cs')∨(j≠id∧h[j]?=some y):=fun j y hy=>by
  rw [List.getElem?_set]at hy
  split at hy
  ·rename_i e;subst e;simp [hid]at hy;exact .inl ⟨rfl,hy.symm⟩
  ·rename_i e;exact .inr ⟨fun e'=>e e'.symm,hy⟩
 have old: ∀j y,(h.set id (.box cs'))[j]?=some y→ ∃y0,h[j]?=some y0∧fpB m j y=fpB m j y0∧ ∀n b,okB m n b j y↔okB m n b j y0:=fun j y hy=>by
  rcases get j y hy with ⟨rfl,rfl⟩ | ⟨_,hy⟩
  ·exact ⟨_,hb,rfl,fun _ _=>Iff.rfl⟩
  ·exact ⟨y,hy,rfl,fun _ _=>Iff.rfl⟩
 have hok:Oks w w m m h (h.set id (.box cs')):=fun n b hb' _=>⟨rfl,hb'.1,fun j y hy=>by
  obtain ⟨y0,h0,_,h2⟩:=old j y hy
  exact (h2 n b).2 (hb'.2 j y0 h0)⟩
 have hs:qac m m h (h.set id (.box cs')):=fun j x hx=>by
  by_cases e:j=id
  ·subst e
   rw [hb]at hx;cases hx
   exact ⟨.box cs',by simp [hid],rfl⟩
  ·refine ⟨x,by rw [List.getElem?_set_ne (fun e'=>e e'.symm)];exact hx,?_⟩
   cases x<;>simp [Sim]
 refine ⟨⟨fun j y hy=> ?_,fun j y hy=> ?_,fun j y j' y' hne hy hy' b hb1 hb2=> ?_,fun j y hy b hb1=> ?_,H.fr,H.mx,H.nx,fun j v hp=> ?_⟩,hok,hs⟩
 ·rcases get j y hy with ⟨rfl,rfl⟩ | ⟨_,hy'⟩
  ·obtain ⟨arr,ty,h1,h2,h3⟩:=H.br j _ hb
   exact ⟨arr,ty,h1,(hc _ h2).imp fun _ _ _ hC=>qeO hok hs hC,h3⟩
  ·exact qeA hok hs rfl rfl rfl (fun _ _=>rfl) (H.br j y hy')
 ·obtain ⟨y0,h0,h1,_⟩:=old j y hy
  rw [h1];exact H.nd j y0 h0
 ·obtain ⟨y0,h0,h1,_⟩:=old j y hy
  obtain ⟨y0',h0',h1',_⟩:=old j' y' hy'
  rw [h1]at hb1;rw [h1']at hb2
  exact H.dj j y0 j' y0' hne h0 h0' b hb1 hb2
 ·obtain ⟨y0,h0,h1,_⟩:=old j y hy
  rw [h1]at hb1;exact H.lt j y0 h0 b hb1
 ·obtain ⟨h1,h2⟩:=H.pn j v hp
  exact ⟨by simpa using h1,h2⟩
theorem HR.newNil (H:HR w0 mine w m h) (e:Nat) (t:Ty): ∃m',HR w0 mine w m' (h++[.row e t [] true true 0])∧Oks w w m m' h (h++[.row e t [] true true 0])∧qac m m' h (h++[.row e t [] true true 0])∧
 C w m' (h++[.row e t [] true true 0]) (.own h.length) (.slice none 0 0):=by
 have hf:F2 (qcn w) [.row e t [] true true 0] [((.slice none 0 0:Value),([]:List Nat))]:= .cons ⟨e,t,[],[],rfl,⟨by simp,.inl ⟨rfl,rfl⟩⟩,rfl,rfl⟩ .nil
 obtain ⟨H',hok,hs⟩:=HR.results H (Fr.refl _ w) hf (by simp [qy.fp,Value.ownBlock]) (by simp [qy.fp,Value.ownBlock])
 exact ⟨_,H',hok,hs,(qlt hf (c:= .own h.length) ⟨0,_,rfl,rfl,rfl⟩).1⟩
theorem qej {α β:Type} {R:α→β→Prop} {cs:List α} {vs:List β} (hf:F2 R cs vs) {c:Nat} {x:α} (hx: ∀v,vs[c]?=some v→R x v):F2 R (cs.set c x) vs:=by
 induction hf generalizing c with
 | nil=>exact .nil
 | cons h1 h2 ih=>cases c with
   | zero=>exact .cons (hx _ rfl) h2
   | succ c=>exact .cons h1 (ih fun v hv=>hx v (by simpa using hv))
theorem HR.undeep (H:HR w0 mine w m h) {id e:Nat} {t:Ty} {xs:List (Val t)} {mt:Bool} {n:Nat} (hb:h[id]?=some (.row e t xs true mt n)):
 HR w0 mine w m (h.set id (.row e t xs false mt h.length))∧Oks w w m m h (h.set id (.row e t xs false mt h.length))∧qac m m h (h.set id (.row e t xs false mt h.length)):=by
 have hid:=(List.getElem?_eq_some_iff.1 hb).1
 have get: ∀j y,(h.set id (.row e t xs false mt h.length))[j]?=some y→(j=id∧y= .row e t xs false mt h.length)∨(j≠id∧h[j]?=some y):=fun j y hy=>by
  rw [List.getElem?_set]at hy
  split at hy
  ·rename_i q;subst q;simp [hid]at hy;exact .inl ⟨rfl,hy.symm⟩
  ·rename_i q;exact .inr ⟨fun q'=>q q'.symm,hy⟩
 have fpsub: ∀j y,(h.set id (.row e t xs false mt h.length))[j]?=some y→ ∃y0,h[j]?=some y0∧ ∀b∈fpB m j y,b∈fpB m j y0:=fun j y hy=>by
  rcases get j y hy with ⟨rfl,rfl⟩ | ⟨_,hy⟩
  ·refine ⟨_,hb,fun b hb'=> ?_⟩
   have hb':b∈(m.val j).ownBlock.toList++[]:=hb'
   rw [List.append_nil]at hb'
   exact List.mem_append_left _ hb'
  ·exact ⟨y,hy,fun _ h=>h⟩
 have hok:Oks w w m m h (h.set id (.row e t xs false mt h.length)):=fun k b hk _=>⟨rfl,hk.1,fun j y hy=>by
  rcases get j y hy with ⟨rfl,rfl⟩ | ⟨_,hy⟩
  ·exact ⟨(hk.2 j _ hb).1,fun h=>by simp at h⟩
  ·exact hk.2 j y hy⟩
 have hs:qac m m h (h.set id (.row e t xs false mt h.length)):=fun j x hx=>by
  by_cases q:j=id
  ·subst q
   rw [hb]at hx;cases hx
   exact ⟨_,List.getElem?_set_self hid,rfl,rfl⟩
  ·refine ⟨x,by rw [List.getElem?_set_ne (fun q'=>q q'.symm)];exact hx,?_⟩
   cases x<;>simp [Sim]
 obtain ⟨inner,ho,hms,_⟩:=H.br id _ hb
 have hnd:=H.nd id _ hb
 simp only [fpB]at hnd
 refine ⟨⟨fun j y hy=> ?_,fun j y hy=> ?_,fun j y j' y' hne hy hy' b h1 h2=> ?_,fun j y hy b h1=> ?_,H.fr,H.mx,H.nx,fun j v hp=> ?_⟩,hok,hs⟩
 ·rcases get j y hy with ⟨rfl,rfl⟩ | ⟨_,hy⟩
  ·refine ⟨inner,ho,hms.toKs fun x c B hB hM=>M_K hM fun b hbB=> ?_⟩
   have hbn:b∈m.nst j:=hB b hbB
   have hbf:b∈fpB m j (.row e t xs true mt n):=List.mem_append_right _ hbn
   refine ⟨by rw [H.mx];exact H.nx b (H.lt j _ hb b hbf).2,fun i z hz=> ?_⟩
   rcases get i z hz with ⟨rfl,rfl⟩ | ⟨hi,hz⟩
   ·refine ⟨fun _ ho'=> ?_,fun h=>by simp at h⟩
    exact (List.nodup_append.1 hnd).2.2 b (by simp [ho']) b hbn rfl
   ·have hdj:=H.dj j _ i z (fun q=>hi q.symm) hb hz b hbf
    cases z with
    | dead=>trivial
    | box cs=>show b≠m.blk i;simpa [fpB] using hdj
    | nst F t hs vs=>exact hdj
    | row e' t' xs' dp mt' k=>
      simp only [fpB,List.mem_append,not_or]at hdj
      refine ⟨fun _ hob=>hdj.1 (by simp [hob]),fun hd _ hm=> ?_⟩
      subst hd
      exact hdj.2 hm
  ·exact qeA hok hs rfl rfl rfl (fun _ _=>rfl) (H.br j y hy)
 ·rcases get j y hy with ⟨rfl,rfl⟩ | ⟨_,hy⟩
  ·show ((m.val j).ownBlock.toList++[]).Nodup
   rw [List.append_nil]
   exact (List.nodup_append.1 hnd).1
  ·exact H.nd j y hy
 ·obtain ⟨z,hz,hz1⟩:=fpsub j y hy
  obtain ⟨z',hz',hz1'⟩:=fpsub j' y' hy'
  exact H.dj j z j' z' hne hz hz' b (hz1 b h1) (hz1' b h2)
 ·obtain ⟨z,hz,hz1⟩:=fpsub j y hy
  exact H.lt j z hz b (hz1 b h1)
 ·obtain ⟨h1,h2⟩:=H.pn j v hp
  exact ⟨by simpa using h1,h2⟩
theorem Le.undp (st:St) (id:Nat):Le st (st.undp id):=fun w0 mine a w hp hr=>by
 unfold St.undp
 split
 ·rename_i e t xs mt n hb
  obtain ⟨hd,m,H,he⟩:=hr
  obtain ⟨H',hok,hs⟩:=H.undeep hb
  exact ⟨hd,m,H',qaJ hok hs he⟩
 ·exact hr
theorem Le.frz (st:St) (id:Nat):Le st (st.frz id):=fun w0 mine a w hp hr=>by
 obtain ⟨hd,m,H,he⟩:=hr
 obtain ⟨H',hok,hs⟩:=H.weaker (qV.freeze st.heap [id])
 exact ⟨hd,m,H',qaJ hok hs he⟩
theorem qEt {m:Mp} {v:Value} {e n:Nat} {t:Ty} (h1:C w m h .nils v):C w m h (.sl e t [] n) v:=by
 have h1:v= .slice none 0 0:=h1
 exact ⟨none,0,h1,Nat.le_refl _,fun i x hx=>by simp at hx⟩
theorem qUn {h:List Blk} {id e n:Nat} {t:Ty} {xs:List (Val t)} {dp:Bool} (hy:h[id]?=some (.row e t xs dp false n)):freeze h [id]=h:=by
 unfold freeze
 simp only [List.foldl_cons,List.foldl_nil]
 refine List.ext_getElem? fun i=> ?_
 rw [List.getElem?_modify]
 by_cases hi:id=i
 ·subst hi
  rw [hy];simp [Blk.froze]
 ·simp [hi]
theorem Le.fix1 (st:St) (f:Fix):Le st (st.fix1 f):=fun w0 mine a w hp hr=>by
 obtain ⟨hd,m,H,he⟩:=hr
 cases f with
 | env j c e t=>
   simp only [St.fix1]
   split
   ·rename_i hj
    obtain ⟨m',H',hok,hs,hc⟩:=H.newNil e t
    refine ⟨hd,m',H',qej (qaJ hok hs he) fun v hv=> ?_⟩
    obtain ⟨v',hv',hV⟩:=he.get hj
    rw [hv]at hv';cases hv'
    have:v= .slice none 0 0:=hV
    subst this
    exact hc
   ·rename_i cs hj
    split
    ·rename_i hc'
     obtain ⟨m',H',hok,hs,hc⟩:=H.newNil e t
     refine ⟨hd,m',H',qej (qaJ hok hs he) fun v hv=> ?_⟩
     obtain ⟨v',hv',hV⟩:=he.get hj
     rw [hv]at hv';cases hv'
     obtain ⟨vs,rfl,hf⟩:=hV
     refine ⟨vs,rfl,qej (hf.imp fun _ _ _ h=>qeO hok hs h) fun u hu=> ?_⟩
     obtain ⟨u',hu',hC⟩:=hf.get hc'
     rw [hu]at hu';cases hu'
     have:u= .slice none 0 0:=hC
     subst this
     exact hc
    ·exact ⟨hd,m,H,he⟩
   ·exact ⟨hd,m,H,he⟩
 | box j c e t=>
   simp only [St.fix1]
   split
   ·rename_i id i f hj
    split
    ·rename_i cs hb
     split
     ·rename_i hc'
      obtain ⟨m',H',hok,hs,hc⟩:=H.newNil e t
      have hid:=(List.getElem?_eq_some_iff.1 hb).1
      have hb':(st.heap++[Blk.row e t [] true true 0])[id]?=some (.box cs):=by rw [List.getElem?_append_left hid];exact hb
      obtain ⟨H2,hok2,hs2⟩:=H'.rebox hb' (cs':=cs.set c (.own st.heap.length)) fun vs hf=>qej hf fun u hu=>by
           obtain ⟨u',hu',hC⟩:=hf.get hc'
           rw [hu]at hu';cases hu'
           have:u= .slice none 0 0:=hC
           subst this
           exact hc
      rw [List.set_append_left _ _ hid]at H2 hok2 hs2
      exact ⟨hd,m',H2,qaJ hok2 hs2 (qaJ hok hs he)⟩
     ·exact ⟨hd,m,H,he⟩
    ·exact ⟨hd,m,H,he⟩
   ·exact ⟨hd,m,H,he⟩
 | nse j c e t=>
   simp only [St.fix1]
   split
   ·rename_i hj
    refine ⟨hd,m,H,qej he fun v hv=> ?_⟩
    obtain ⟨v',hv',hV⟩:=he.get hj
    rw [hv]at hv';cases hv'
    exact qEt (e:=e) (t:=t) hV
   ·rename_i cs hj
    split
    ·rename_i hc'
     refine ⟨hd,m,H,qej he fun v hv=> ?_⟩
     obtain ⟨v',hv',hV⟩:=he.get hj
     rw [hv]at hv';cases hv'
     obtain ⟨vs,rfl,hf⟩:=hV
     refine ⟨vs,rfl,qej hf fun u hu=> ?_⟩
     obtain ⟨u',hu',hC⟩:=hf.get hc'
     rw [hu]at hu';cases hu'
     exact qEt hC
    ·exact ⟨hd,m,H,he⟩
   ·exact ⟨hd,m,H,he⟩
 | nsb j c e t=>
   simp only [St.fix1]
   split
   ·rename_i id i f hj
    split
    ·rename_i cs hb
     split
     ·rename_i hc'
      obtain ⟨H2,hok2,hs2⟩:=H.rebox hb (cs':=cs.set c (.sl e t [] st.heap.length)) fun vs hf=>qej hf fun u hu=>by
           obtain ⟨u',hu',hC⟩:=hf.get hc'
           rw [hu]at hu';cases hu'
           exact qEt hC
      exact ⟨hd,m,H2,qaJ hok2 hs2 he⟩
     ·exact ⟨hd,m,H,he⟩
    ·exact ⟨hd,m,H,he⟩
   ·exact ⟨hd,m,H,he⟩
 | und j c e t=>
   have hr:R w0 mine st a w:=⟨hd,m,H,he⟩
   simp only [St.fix1]
   split
   ·split
    ·exact Le.undp st _ w0 mine a w hp hr
    ·exact hr
   ·exact hr
 | unb j c e t=>
   have hr:R w0 mine st a w:=⟨hd,m,H,he⟩
   simp only [St.fix1]
   split
   ·split
    ·split
     ·exact Le.undp st _ w0 mine a w hp hr
     ·exact hr
    ·exact hr
   ·exact hr
 | frb j c e t=>
   have hr:R w0 mine st a w:=⟨hd,m,H,he⟩
   simp only [St.fix1]
   split
   ·split
    ·split
     ·exact Le.frz st _ w0 mine a w hp hr
     ·exact hr
    ·exact hr
   ·exact hr
 | shb j c e t=>
   simp only [St.fix1]
   split
   ·rename_i b i f hj
    split
    ·rename_i cs hb
     split
     ·rename_i id hc'
      split
      ·rename_i e' t' xs dp n hy
       obtain ⟨H2,hok2,hs2⟩:=H.rebox hb (cs':=cs.set c (.sl e' t' xs st.heap.length)) fun vs hf=>qej hf fun u hu=>by
             obtain ⟨u',hu',hC⟩:=hf.get hc'
             rw [hu]at hu';cases hu'
             have:=qo1 H hy hC
             rw [qUn hy]at this
             exact this
       exact ⟨hd,m,H2,qaJ hok2 hs2 he⟩
      ·exact ⟨hd,m,H,he⟩
     ·exact ⟨hd,m,H,he⟩
    ·exact ⟨hd,m,H,he⟩
   ·exact ⟨hd,m,H,he⟩
 | she j c e t=>
   simp only [St.fix1]
   split
   ·rename_i id hj
    split
    ·rename_i e' t' xs dp mt n hy
     obtain ⟨H',hok,hs⟩:=H.weaker (qV.freeze st.heap [id])
     refine ⟨hd,m,H',qej (qaJ hok hs he) fun v hv=> ?_⟩
     obtain ⟨v',hv',hV⟩:=he.get hj
     rw [hv]at hv';cases hv'
     exact qo1 H hy hV
    ·exact ⟨hd,m,H,he⟩
   ·rename_i cs hj
    split
    ·rename_i id hc'
     split
     ·rename_i e' t' xs dp mt n hy
      obtain ⟨H',hok,hs⟩:=H.weaker (qV.freeze st.heap [id])
      refine ⟨hd,m,H',qej (qaJ hok hs he) fun v hv=> ?_⟩
      obtain ⟨v',hv',hV⟩:=he.get hj
      rw [hv]at hv';cases hv'
      obtain ⟨vs,rfl,hf⟩:=hV
      refine ⟨vs,rfl,qej (hf.imp fun _ _ _ h=>qeO hok hs h) fun u hu=> ?_⟩
      obtain ⟨u',hu',hC⟩:=hf.get hc'
      rw [hu]at hu';cases hu'
      exact qo1 H hy hC
     ·exact ⟨hd,m,H,he⟩
    ·exact ⟨hd,m,H,he⟩
   ·exact ⟨hd,m,H,he⟩
theorem Le.fixes: ∀(l:List Fix) (st:St),Le st (st.fixes l)
 | [],st=>Le.refl st
 | f::r,st=>(Le.fix1 st f).trans (Le.fixes r _)
theorem Le.norm (nm:Nm) (st:St):Le st (st.norm nm):=(Le.fixes nm.fix st).trans (Le.gc _ nm.zero nm.keep)
end
def LC.clamp (L:Nat):LC→LC
 | .sl e t xs n=>if n≤L then .sl e t xs n else .undef
 | .tptr t v f n=>if n≤L then .tptr t v f n else .undef
 | c=>c
def LV.clamp (L:Nat):LV→LV
 | .one c=> .one (c.clamp L)
 | .agg cs=> .agg (cs.map (LC.clamp L))
 | .tup _=> .one .undef
def Blk.clamp (L:Nat):Blk→Blk
 | .box cs=> .box (cs.map (LC.clamp L))
 | .row e t xs false mt n=>if n≤L then .row e t xs false mt n else .dead
 | b=>b
inductive Pre
 | opn (id:Nat) (t:Ty)
 | cls (id j:Nat) (t:Ty) (sel:List (Val t)→List Nat)
def qMK (st:St) (id e:Nat) (t:Ty) (mt:Bool) (n:Nat) (F:List Nat) (hs:List (Val (hd t))) (xs:List (Val t)):St:=
 ⟨st.env.map (LV.clamp n),(st.heap.map (Blk.clamp n)).set id (.row e (hd t) hs true mt 0)++[.nst F t hs xs]⟩
end Go.T
/- T: names of elements: a row whose elements are told by their slice values, and back. -/
namespace Go.T
open Go
section
variable {w0 w w' : World} {mine : Mine} {m m' : Mp} {h : List Blk}
structure Keeps (w w':World) (m m':Mp) (h h':List Blk) (L:Nat):Prop where
 ok: ∀n b,n≤L→qw m h n b→b<w.heap.size→w'.heap[b]?=w.heap[b]?∧qw m' h' n b
 sim: ∀id x,h[id]?=some x→ ∃x',h'[id]?=some x'∧Sim m m' id x x'
theorem quW {h':List Blk} {L:Nat} (K:Keeps w w' m m' h h' L): ∀{c:LC} {v:Value},C w m h c v→C w' m' h' (c.clamp L) v
 | .int _ _,_,hc | .bool _,_,hc | .str _,_,hc | .hdr _,_,hc | .nils,_,hc | .nilp,_,hc | .fn _,_,hc=>hc
 | .undef,_,_=>trivial
 | .clo f ids,v,hc=>qKv (w':=w') K.sim hc
 | .sl e t xs n,v,hc=>by
   simp only [LC.clamp]
   split
   ·rename_i hn
    obtain ⟨A,c,he,hl,hr⟩:=hc
    exact ⟨A,c,he,hl,qiX (fun b hb hlt=>(K.ok n b hn hb hlt).1) (fun b hb hlt=>(K.ok n b hn hb hlt).2) hr⟩
   ·trivial
 | .tptr t x f n,v,hc=>by
   simp only [LC.clamp]
   split
   ·rename_i hn
    obtain ⟨a,cs,he,hk,hat,hb⟩:=hc
    have hlt: ∀hl:0<cs.length,a.block<w.heap.size:=fun hl=>hat.block_lt hl
    have hp:0<cs.length:=by rw [qb5 hk];exact Ty.sz_pos t
    exact ⟨a,cs,he,qaE (fun b hb hlt=>(K.ok n b hn hb hlt).1) (fun b hb hlt=>(K.ok n b hn hb hlt).2) hk,hat.move (K.ok n _ hn hb (hlt hp)).1,(K.ok n _ hn hb (hlt hp)).2⟩
   ·trivial
 | .own id,v,hc=>by
   simp only [LC.clamp,C]at hc ⊢
   cases hx:h[id]? with
   | none=>rw [hx]at hc;exact hc.elim
   | some x=>
     obtain ⟨x',hx',hs⟩:=K.sim id x hx
     rw [hx]at hc
     rw [hx']
     cases x<;>cases x'<;>simp_all [Sim]
 | .ptr id i f,v,hc=>by
   simp only [LC.clamp,C]at hc ⊢
   cases hx:h[id]? with
   | none=>rw [hx]at hc;exact hc.elim
   | some x=>
     obtain ⟨x',hx',hs⟩:=K.sim id x hx
     rw [hx]at hc
     rw [hx']
     cases x<;>cases x'<;>simp_all [Sim]
     all_goals try (obtain ⟨g,hg,rfl⟩:=hc;rfl)
theorem qxu {h':List Blk} {L:Nat} (K:Keeps w w' m m' h h' L) {cs:List LC} {us:List Value} (hf:F2 (C w m h) cs us):F2 (C w' m' h') (cs.map (LC.clamp L)) us:=by
 induction hf with
 | nil=>exact .nil
 | cons h1 _ ih=>exact .cons (quW K h1) ih
theorem qXB {h':List Blk} {L:Nat} (K:Keeps w w' m m' h h' L): ∀{l:LV} {v:Value},V w m h l v→V w' m' h' (l.clamp L) v
 | .one c,v,hv=>quW K (c:=c) hv
 | .agg cs,v,hv=>by
   obtain ⟨vs,he,hf⟩:=hv
   refine ⟨vs,he,?_⟩
   clear he
   generalize vs.toList=us at hf
   induction hf with
   | nil=>exact .nil
   | cons h1 _ ih=>exact .cons (quW K h1) ih
 | .tup _,_,_=>trivial
theorem qvc {h':List Blk} {L:Nat} (K:Keeps w w' m m' h h' L) {env:List LV} {vs:List Value} (hf:F2 (V w m h) env vs):F2 (V w' m' h') (env.map (LV.clamp L)) vs:=by
 induction hf with
 | nil=>exact .nil
 | cons h1 _ ih=>exact .cons (qXB K h1) ih
end
section
variable {w0 w w' : World} {mine : Mine} {m m' : Mp} {h : List Blk} {st : St} {a : Act}
theorem HR.opn (H:HR w0 mine w m h) {id e:Nat} {t:Ty} {xs:List (Val t)} {mt:Bool} {n:Nat} (hx:h[id]?=some (.row e t xs true mt n)):
 ∃(hs:List (Val (hd t))) (F:List Nat) (m':Mp),qrO t hs xs∧HR w0 mine w m' ((h.map (Blk.clamp n)).set id (.row e (hd t) hs true mt 0)++[.nst F t hs xs])∧Keeps w w m m' h ((h.map (Blk.clamp n)).set id (.row e (hd t) hs true mt 0)++[.nst F t hs xs]) n:=by
 obtain ⟨inner,ho,hms,hn⟩:=H.br id _ hx
 obtain ⟨hs,m1,n1,e1⟩:=qGP hms
 have g:=qIN n1 e1
 have hil:id<h.length:=(List.getElem?_eq_some_iff.1 hx).1
 refine ⟨hs,m.nst id,{m with nst:=fun i=>if i=id then []else m.nst i},g,?_⟩
 have hnd:=H.nd id _ hx
 simp only [fpB]at hnd
 have hnd':=List.nodup_append.1 hnd
 have get: ∀i y,((h.map (Blk.clamp n)).set id (.row e (hd t) hs true mt 0)++[.nst (m.nst id) t hs xs])[i]?=some y→(i=id∧y= .row e (hd t) hs true mt 0)∨(i=h.length∧y= .nst (m.nst id) t hs xs)∨(i≠id∧i≠h.length∧ ∃x,h[i]?=some x∧y=x.clamp n):=fun i y hy=>by
  by_cases hl:i<h.length
  ·rw [List.getElem?_append_left (by simpa using hl)]at hy
   rw [List.getElem?_set]at hy
   split at hy
   ·rename_i e';subst e';simp [hl]at hy;exact .inl ⟨rfl,hy.symm⟩
   ·rename_i e'
    rw [List.getElem?_map]at hy
    cases hx':h[i]? with
    | none=>rw [hx']at hy;simp at hy
    | some x=>rw [hx']at hy;simp at hy;exact .inr (.inr ⟨fun q=>e' q.symm,by omega,x,rfl,hy.symm⟩)
  ·rw [List.getElem?_append_right (by simp;omega)]at hy
   have hlen:i - ((h.map (Blk.clamp n)).set id (.row e (hd t) hs true mt 0)).length=i - h.length:=by simp
   rw [hlen]at hy
   have:i - h.length=0:=by
        rcases Nat.eq_zero_or_pos (i - h.length)with h0 | h0
        ·exact h0
        ·rw [List.getElem?_eq_none (by simp;omega)]at hy;simp at hy
   rw [this]at hy
   simp at hy
   exact .inr (.inl ⟨by omega,hy.symm⟩)
 have nout: ∀i,i≠id→(if i=id then []else m.nst i)=m.nst i:=fun i hi=>by simp [hi]
 have fpout: ∀i x,i≠id→ ∀b,b∈fpB {m with nst:=fun i=>if i=id then []else m.nst i} i (x.clamp n)→b∈fpB m i x:=fun i x hi b hb=>by
  cases x with
  | dead=>exact hb
  | box cs=>exact hb
  | nst F t hs vs=>exact hb
  | row e t xs dp mt k=>
    cases dp with
    | true=>
      have hb:b∈(m.val i).ownBlock.toList++(if i=id then []else m.nst i):=hb
      rw [nout i hi]at hb;exact hb
    | false=>
      simp only [Blk.clamp]at hb
      split at hb
      ·exact hb
      ·simp [fpB]at hb
 have K:Keeps w w m {m with nst:=fun i=>if i=id then []else m.nst i} h ((h.map (Blk.clamp n)).set id (.row e (hd t) hs true mt 0)++[.nst (m.nst id) t hs xs]) n:=by
  refine ⟨fun n' b hle hb hl=>⟨rfl,hb.1,fun i y hy=> ?_⟩,fun i x hx'=> ?_⟩
  ·rcases get i y hy with ⟨rfl,rfl⟩ | ⟨rfl,rfl⟩ | ⟨hi,_,x,hx',rfl⟩
   ·exact ⟨(hb.2 _ _ hx).1,fun _ _=>by simp⟩
   ·exact (hb.2 _ _ hx).2 rfl hle
   ·have:=hb.2 i x hx'
    cases x with
    | dead=>trivial
    | box cs=>exact this
    | nst F t hs vs=>exact this
    | row e t xs dp mt k=>
      cases dp with
      | true=>
        refine ⟨this.1,fun h1 h2=> ?_⟩
        show b∉(if i=id then []else m.nst i)
        rw [nout i hi];exact this.2 h1 h2
      | false=>
        simp only [Blk.clamp]
        split
        ·exact ⟨this.1,fun h=>by simp at h⟩
        ·trivial
  ·have hil':i<h.length:=(List.getElem?_eq_some_iff.1 hx').1
   by_cases hi:i=id
   ·subst hi
    rw [hx]at hx';cases hx'
    exact ⟨.row e (hd t) hs true mt 0,by rw [List.getElem?_append_left (by simpa using hil'),List.getElem?_set_self (by simpa using hil')],qfP t,rfl⟩
   ·refine ⟨x.clamp n,by rw [List.getElem?_append_left (by simpa using hil'),List.getElem?_set_ne (fun q=>hi q.symm),List.getElem?_map,hx'];rfl,?_⟩
    have hb:=H.br i x hx'
    cases x with
    | dead=>trivial
    | box cs=>rfl
    | nst F t hs vs=>trivial
    | row e t xs dp mt k=>
      cases dp with
      | true=>exact ⟨rfl,rfl⟩
      | false=>
        simp only [Blk.clamp]
        split
        ·exact ⟨rfl,rfl⟩
        ·exact BR.rowOne hb
 refine ⟨⟨fun i y hy=> ?_,fun i y hy=> ?_,fun i y i' y' hne hy hy' b hb hb'=> ?_,fun i y hy b hb=> ?_,H.fr,H.mx,H.nx,fun i v hp=> ?_⟩,K⟩
 ·rcases get i y hy with ⟨rfl,rfl⟩ | ⟨rfl,rfl⟩ | ⟨hi,_,x,hx',rfl⟩
  ·refine ⟨inner,by rw [qfP,g.1];exact ho,?_,Nat.zero_le _⟩
   simpa using m1
  ·exact n1
  ·have hb:=H.br i x hx'
   cases x with
   | dead=>trivial
   | box cs=>
     obtain ⟨arr,ty,h1,h2,h3⟩:=hb
     exact ⟨arr,ty,h1,qxu K h2,h3⟩
   | nst F t hs vs=>exact hb
   | row e t xs dp mt k=>
     obtain ⟨inner,h1,h2⟩:=hb
     cases dp with
     | true=>
       refine ⟨inner,h1,?_,h2.2⟩
       show Ms (M w t) xs inner (if i=id then []else m.nst i)
       rw [nout i hi];exact h2.1
     | false=>
       simp only [Blk.clamp]
       split
       ·rename_i hle
        exact ⟨inner,h1,h2.imp fun x c hk=>qaE (fun b hb hlt=>(K.ok k b hle hb hlt).1) (fun b hb hlt=>(K.ok k b hle hb hlt).2) hk⟩
       ·trivial
 ·rcases get i y hy with ⟨rfl,rfl⟩ | ⟨rfl,rfl⟩ | ⟨hi,_,x,hx',rfl⟩
  ·show ((m.val i).ownBlock.toList++(if i=i then []else m.nst i)).Nodup
   simpa using hnd'.1
  ·exact hnd'.2.1
  ·have:=H.nd i x hx'
   cases x with
   | dead=>exact this
   | box cs=>exact this
   | nst F t hs vs=>exact this
   | row e t xs dp mt k=>
     cases dp with
     | true=>
       show ((m.val i).ownBlock.toList++(if i=id then []else m.nst i)).Nodup
       rw [nout i hi];exact this
     | false=>
       simp only [Blk.clamp]
       split
       ·exact this
       ·exact List.nodup_nil
 ·have own: ∀b,b∈fpB {m with nst:=fun i=>if i=id then []else m.nst i} id (.row e (hd t) hs true mt 0)→b∈(m.val id).ownBlock.toList:=fun b hb=>by
   have hb:b∈(m.val id).ownBlock.toList++(if id=id then []else m.nst id):=hb
   simpa using hb
  have old: ∀b,b∈(m.val id).ownBlock.toList∨b∈m.nst id→b∈fpB m id (.row e t xs true mt n):=fun b hb=>List.mem_append.2 hb
  rcases get i y hy with ⟨rfl,rfl⟩ | ⟨rfl,rfl⟩ | ⟨hi,hi2,x,hx',rfl⟩
  ·rcases get i' y' hy' with ⟨rfl,rfl⟩ | ⟨rfl,rfl⟩ | ⟨hi',_,x',hx'',rfl⟩
   ·exact hne rfl
   ·exact hnd'.2.2 b (own b hb) b hb' rfl
   ·exact H.dj i _ i' x' hne hx hx'' b (old b (.inl (own b hb))) (fpout i' x' hi' b hb')
  ·rcases get i' y' hy' with ⟨rfl,rfl⟩ | ⟨rfl,rfl⟩ | ⟨hi',_,x',hx'',rfl⟩
   ·exact hnd'.2.2 b (own b hb') b hb rfl
   ·exact hne rfl
   ·exact H.dj id _ i' x' (fun q=>hi' q.symm) hx hx'' b (old b (.inr hb)) (fpout i' x' hi' b hb')
  ·rcases get i' y' hy' with ⟨rfl,rfl⟩ | ⟨rfl,rfl⟩ | ⟨hi',_,x',hx'',rfl⟩
   ·exact H.dj i x i' _ hne hx' hx b (fpout i x hi b hb) (old b (.inl (own b hb')))
   ·exact H.dj i x id _ hi hx' hx b (fpout i x hi b hb) (old b (.inr hb'))
   ·exact H.dj i x i' x' hne hx' hx'' b (fpout i x hi b hb) (fpout i' x' hi' b hb')
 ·rcases get i y hy with ⟨rfl,rfl⟩ | ⟨rfl,rfl⟩ | ⟨hi,_,x,hx',rfl⟩
  ·have hb:b∈(m.val i).ownBlock.toList++(if i=i then []else m.nst i):=hb
   exact H.lt i _ hx b (List.mem_append_left _ (by simpa using hb))
  ·exact H.lt id _ hx b (List.mem_append_right _ hb)
  ·exact H.lt i x hx' b (fpout i x hi b hb)
 ·obtain ⟨h1,h2⟩:=H.pn i v hp
  exact ⟨by simp;omega,h2⟩
theorem qKK {Bs:List (List Nat)} {is:List Nat} {b:Nat} (h:b∈(is.map fun i=>Bs.getD i []).flatten): ∃i∈is,b∈Bs.getD i []:=by
 obtain ⟨l,hl,hb⟩:=List.mem_flatten.1 h
 obtain ⟨i,hi,rfl⟩:=List.mem_map.1 hl
 exact ⟨i,hi,hb⟩
theorem qxA {Bs:List (List Nat)} {i b:Nat} (h:b∈Bs.getD i []):b∈Bs.flatten:=by
 simp only [List.getD]at h
 cases hB:Bs[i]? with
 | none=>rw [hB]at h;simp at h
 | some l=>rw [hB]at h;exact List.mem_flatten.2 ⟨l,List.mem_of_getElem? hB,h⟩
theorem qHa: ∀{Bs:List (List Nat)} {i j b:Nat},Bs.flatten.Nodup→i≠j→b∈Bs.getD i []→b∉Bs.getD j []
 | [],_,_,_,_,_,h=>by simp at h
 | B::Bs,i,j,b,hn,hne,hi=>by
   rw [List.flatten_cons,List.nodup_append]at hn
   cases i with
   | zero=>
     cases j with
     | zero=>exact absurd rfl hne
     | succ j=>exact fun hj=>hn.2.2 b (by simpa using hi) b (qxA (by simpa using hj)) rfl
   | succ i=>
     cases j with
     | zero=>exact fun hj=>hn.2.2 b (by simpa using hj) b (qxA (by simpa using hi)) rfl
     | succ j=>simpa using qHa (i:=i) (j:=j) hn.2.1 (fun q=>hne (by omega)) (by simpa using hi)
theorem qJv: ∀{Bs:List (List Nat)} {i:Nat},Bs.flatten.Nodup→(Bs.getD i []).Nodup
 | [],_,_=>by simp
 | B::Bs,i,hn=>by
   rw [List.flatten_cons,List.nodup_append]at hn
   cases i with
   | zero=>simpa using hn.1
   | succ i=>simpa using qJv (i:=i) hn.2.1
theorem qKB {Bs:List (List Nat)} (hB:Bs.flatten.Nodup): ∀{is:List Nat},is.Nodup→(is.map fun i=>Bs.getD i []).flatten.Nodup
 | [],_=>by simp
 | i::is,hn=>by
   obtain ⟨h1,h2⟩:=List.nodup_cons.1 hn
   rw [List.map_cons,List.flatten_cons,List.nodup_append]
   refine ⟨qJv hB,qKB hB h2,fun b hb c hc e=> ?_⟩
   subst e
   obtain ⟨j,hj,hbj⟩:=qKK hc
   exact qHa hB (fun (q:i=j)=>h1 (by rw [q];exact hj)) hb hbj
theorem qJA {t:Ty} {vs:List (Val t)} {hs:List (Val (hd t))} {Bs:List (List Nat)} (hp: ∀i v u,vs[i]?=some v→hs[i]?=some u→Nst w t v u (Bs.getD i [])) (hl:hs.length=vs.length) (hm:qG t vs hs=hs):
 ∀{is:List Nat} {cs:List Value},(∀i∈is,i<vs.length)→Ms (M w (hd t)) (is.map fun i=>hs.getD i (qb (hd t))) cs []→Ms (M w t) (is.map fun i=>vs.getD i (qb t)) cs (is.map fun i=>Bs.getD i []).flatten
 | [],_,_,h=>⟨h.1,rfl⟩
 | i::is,_,hb,h=>by
   obtain ⟨c1,c2,B1,B2,rfl,hB,h1,h2⟩:=h
   have e1:B1=[]:=qg6 h1
   have e2:B2=[]:=qlu h2
   subst e1;subst e2
   have hi:i<vs.length:=hb i (by simp)
   have v1:vs[i]?=some (vs.getD i (qb t)):=by simp [List.getD,hi]
   have u1:hs[i]?=some (hs.getD i (qb (hd t))):=by simp [List.getD,hl,hi]
   refine ⟨c1,c2,_,_,rfl,rfl,qrB (h:=hs.getD i (qb (hd t))) ?_ (hp i _ _ v1 u1),qJA hp hl hm (fun j hj=>hb j (by simp [hj])) h2⟩
   rw [qrk hm v1 u1];exact h1
theorem HR.cls (H:HR w0 mine w m h) {id j e:Nat} {t:Ty} {is:List Nat} {hs:List (Val (hd t))} {vs:List (Val t)} {F:List Nat} {mt:Bool} {n:Nat} (hx:h[id]?=some (.row e (hd t) (is.map fun i=>hs.getD i (qb (hd t))) true mt n)) (hj:h[j]?=some (.nst F t hs vs))
 (hnd:is.Nodup) (hb: ∀i∈is,i<vs.length) (hm:qG t vs hs=hs) (hl:hs.length=vs.length):
 ∃m',HR w0 mine w m' ((h.set j .dead).set id (.row e t (is.map fun i=>vs.getD i (qb t)) true mt 0))∧Oks w w m m' h ((h.set j .dead).set id (.row e t (is.map fun i=>vs.getD i (qb t)) true mt 0))∧qac m m' h ((h.set j .dead).set id (.row e t (is.map fun i=>vs.getD i (qb t)) true mt 0)):=by
 obtain ⟨inner,ho,hms,hn⟩:=H.br id _ hx
 have hN:qao w t vs hs F:=H.br j _ hj
 obtain ⟨Bs,hF,_,hp⟩:=qsd hN
 have hFn:Bs.flatten.Nodup:=by have:=H.nd j _ hj;rw [show fpB m j (.nst F t hs vs)=F from rfl,hF]at this;exact this
 have hnil:m.nst id=[]:=qlu hms
 rw [hnil]at hms
 have hil:id<h.length:=(List.getElem?_eq_some_iff.1 hx).1
 have hjl:j<h.length:=(List.getElem?_eq_some_iff.1 hj).1
 have hij:id≠j:=fun q=>by subst q;rw [hx]at hj;simp at hj
 have hsub: ∀b∈(is.map fun i=>Bs.getD i []).flatten,b∈F:=fun b hb'=>by
  obtain ⟨i,_,hbi⟩:=qKK hb'
  rw [hF];exact qxA hbi
 refine ⟨{m with nst:=fun i=>if i=id then (is.map fun i=>Bs.getD i []).flatten else m.nst i},?_⟩
 have get: ∀i y,((h.set j .dead).set id (.row e t (is.map fun i=>vs.getD i (qb t)) true mt 0))[i]?=some y→(i=id∧y= .row e t (is.map fun i=>vs.getD i (qb t)) true mt 0)∨(i=j∧y= .dead)∨(i≠id∧i≠j∧h[i]?=some y):=fun i y hy=>by
  rw [List.getElem?_set]at hy
  split at hy
  ·rename_i q;subst q;simp [hil]at hy;exact .inl ⟨rfl,hy.symm⟩
  ·rename_i q
   rw [List.getElem?_set]at hy
   split at hy
   ·rename_i q2;subst q2;simp [hjl]at hy;exact .inr (.inl ⟨rfl,hy.symm⟩)
   ·rename_i q2;exact .inr (.inr ⟨fun z=>q z.symm,fun z=>q2 z.symm,hy⟩)
 have nout: ∀i,i≠id→(if i=id then (is.map fun i=>Bs.getD i []).flatten else m.nst i)=m.nst i:=fun i hi=>by simp [hi]
 have fpout: ∀i x,i≠id→fpB {m with nst:=fun i=>if i=id then (is.map fun i=>Bs.getD i []).flatten else m.nst i} i x=fpB m i x:=fun i x hi=>by
  cases x<;>simp [fpB,hi]
 have okout: ∀n b i x,i≠id→(okB {m with nst:=fun i=>if i=id then (is.map fun i=>Bs.getD i []).flatten else m.nst i} n b i x↔okB m n b i x):=fun n b i x hi=>by
  cases x<;>simp [okB,hi]
 have hok:Oks w w m {m with nst:=fun i=>if i=id then (is.map fun i=>Bs.getD i []).flatten else m.nst i} h ((h.set j .dead).set id (.row e t (is.map fun i=>vs.getD i (qb t)) true mt 0)):=fun n' b hb' _=>⟨rfl,hb'.1,fun i y hy=>by
  rcases get i y hy with ⟨rfl,rfl⟩ | ⟨rfl,rfl⟩ | ⟨hi,_,hx'⟩
  ·refine ⟨(hb'.2 _ _ hx).1,fun _ _=> ?_⟩
   show b∉(if i=i then (is.map fun i=>Bs.getD i []).flatten else m.nst i)
   simp only [if_true]
   exact fun hm'=>(hb'.2 j _ hj) (hsub b hm')
  ·trivial
  ·exact (okout n' b i y hi).2 (hb'.2 i y hx')⟩
 have hsm:qac m {m with nst:=fun i=>if i=id then (is.map fun i=>Bs.getD i []).flatten else m.nst i} h ((h.set j .dead).set id (.row e t (is.map fun i=>vs.getD i (qb t)) true mt 0)):=fun i x hx'=>by
  have hil':i<h.length:=(List.getElem?_eq_some_iff.1 hx').1
  by_cases h1:i=id
  ·subst h1
   rw [hx]at hx';cases hx'
   exact ⟨_,List.getElem?_set_self (by simpa using hil'),(qfP t).symm,rfl⟩
  ·by_cases h2:i=j
   ·subst h2
    rw [hj]at hx';cases hx'
    exact ⟨.dead,by rw [List.getElem?_set_ne (fun q=>h1 q.symm),List.getElem?_set_self hil'],trivial⟩
   ·refine ⟨x,by rw [List.getElem?_set_ne (fun q=>h1 q.symm),List.getElem?_set_ne (fun q=>h2 q.symm)];exact hx',?_⟩
    cases x<;>simp [Sim]
 have own: ∀b,b∈fpB {m with nst:=fun i=>if i=id then (is.map fun i=>Bs.getD i []).flatten else m.nst i} id (.row e t (is.map fun i=>vs.getD i (qb t)) true mt 0)→b∈(m.val id).ownBlock.toList∨b∈(is.map fun i=>Bs.getD i []).flatten:=fun b hb'=>by
  have hb':b∈(m.val id).ownBlock.toList++(if id=id then (is.map fun i=>Bs.getD i []).flatten else m.nst id):=hb'
  rw [if_pos rfl]at hb'
  exact List.mem_append.1 hb'
 have oldo: ∀b,b∈(m.val id).ownBlock.toList→b∈fpB m id (.row e (hd t) (is.map fun i=>hs.getD i (qb (hd t))) true mt n):=fun b hb'=>List.mem_append_left _ hb'
 refine ⟨⟨fun i y hy=> ?_,fun i y hy=> ?_,fun i y i' y' hne hy hy' b hb1 hb2=> ?_,fun i y hy b hb1=> ?_,H.fr,H.mx,H.nx,fun i v hpv=> ?_⟩,hok,hsm⟩
 ·rcases get i y hy with ⟨rfl,rfl⟩ | ⟨rfl,rfl⟩ | ⟨hi,_,hx'⟩
  ·refine ⟨inner,?_,?_,Nat.zero_le _⟩
   ·rw [qfP]at ho
    simpa using ho
   ·show Ms (M w t) _ inner (if i=i then (is.map fun i=>Bs.getD i []).flatten else m.nst i)
    rw [if_pos rfl]
    exact qJA hp hl hm hb hms
  ·trivial
  ·exact qeA hok hsm rfl rfl (nout i hi) (fun _ _=>rfl) (H.br i y hx')
 ·rcases get i y hy with ⟨rfl,rfl⟩ | ⟨rfl,rfl⟩ | ⟨hi,_,hx'⟩
  ·show ((m.val i).ownBlock.toList++(if i=i then (is.map fun i=>Bs.getD i []).flatten else m.nst i)).Nodup
   rw [if_pos rfl,List.nodup_append]
   have hn1:=H.nd i _ hx
   simp only [fpB]at hn1
   refine ⟨(List.nodup_append.1 hn1).1,qKB hFn hnd,fun b h1 c h2 q=> ?_⟩
   subst q
   exact H.dj i _ j _ hij hx hj b (oldo b h1) (hsub b h2)
  ·exact List.nodup_nil
  ·rw [fpout i y hi];exact H.nd i y hx'
 ·rcases get i y hy with ⟨rfl,rfl⟩ | ⟨rfl,rfl⟩ | ⟨hi,hi2,hx'⟩
  ·rcases get i' y' hy' with ⟨rfl,rfl⟩ | ⟨rfl,rfl⟩ | ⟨hi',hi2',hx''⟩
   ·exact hne rfl
   ·simp [fpB]at hb2
   ·rw [fpout i' y' hi']at hb2
    rcases own b hb1 with h1 | h1
    ·exact H.dj i _ i' y' hne hx hx'' b (oldo b h1) hb2
    ·exact H.dj j _ i' y' (fun q=>hi2' q.symm) hj hx'' b (hsub b h1) hb2
  ·simp [fpB]at hb1
  ·rw [fpout i y hi]at hb1
   rcases get i' y' hy' with ⟨rfl,rfl⟩ | ⟨rfl,rfl⟩ | ⟨hi',hi2',hx''⟩
   ·rcases own b hb2 with h1 | h1
    ·exact H.dj i y i' _ hne hx' hx b hb1 (oldo b h1)
    ·exact H.dj i y j _ hi2 hx' hj b hb1 (hsub b h1)
   ·simp [fpB]at hb2
   ·rw [fpout i' y' hi']at hb2
    exact H.dj i y i' y' hne hx' hx'' b hb1 hb2
 ·rcases get i y hy with ⟨rfl,rfl⟩ | ⟨rfl,rfl⟩ | ⟨hi,_,hx'⟩
  ·rcases own b hb1 with h1 | h1
   ·exact H.lt i _ hx b (oldo b h1)
   ·exact H.lt j _ hj b (hsub b h1)
  ·simp [fpB]at hb1
  ·rw [fpout i y hi]at hb1
   exact H.lt i y hx' b hb1
 ·obtain ⟨h1,h2⟩:=H.pn i v hpv
  exact ⟨by simpa using h1,h2⟩
end
section
variable {ρ : Type}
open Classical in
noncomputable def chk (p:Prop) (k:Option ρ):Option ρ:=if p then k else none
theorem qcs {p:Prop} {k:Option ρ} {r:ρ}:chk p k=some r↔p∧k=some r:=by
 unfold chk;split<;>simp [*]
theorem qd {p:Prop} {k:Option ρ} (h:p):chk p k=k:=by simp [chk,h]
open Classical in
noncomputable def qx8 {ι:Type} (good:ι→Prop) (F:ι→Option ρ):Option ρ:=if h: ∃r,(∃i,good i)∧ ∀i,good i→F i=some r then some (Classical.choose h)else none
theorem qSj {ι:Type} {good:ι→Prop} {F:ι→Option ρ} {r:ρ} (h:qx8 good F=some r): ∀i,good i→F i=some r:=by
 unfold qx8 at h
 split at h
 ·rename_i hx
  have:=Classical.choose_spec hx
  simp only [Option.some.injEq]at h
  intro i hi
  rw [this.2 i hi,h]
 ·simp at h
noncomputable def qm7 (o:Option Pre) (st:St) (k:St→Option ρ):Option ρ:=match o with
 | none=>k st
 | some (.opn id t)=>match st.heap[id]? with
   | some (.row e t' xs true mt n)=>if hh:t'=t then qx8 (fun p:List Nat×List (Val (hd t))=>qrO t p.2 (hh▸xs)) (fun p=>k (qMK st id e t mt n p.1 p.2 (hh▸xs)))else none
   | _=>none
 | some (.cls id j t sel)=>match st.heap[id]?,st.heap[j]? with
   | some (.row e t1 ys true mt _),some (.nst _ t2 hs vs)=>if hh:t1=hd t∧t2=t then
      chk ((hh.1▸ys:List (Val (hd t)))=(sel (hh.2▸vs)).map (fun i=>(hh.2▸hs:List (Val (hd t))).getD i (qb (hd t)))∧(sel (hh.2▸vs)).Nodup∧(∀i∈sel (hh.2▸vs),i<(hh.2▸vs:List (Val t)).length)∧qG t (hh.2▸vs) (hh.2▸hs)=(hh.2▸hs:List (Val (hd t)))∧(hh.2▸hs:List (Val (hd t))).length=(hh.2▸vs:List (Val t)).length)
         (k ⟨st.env,(st.heap.set j .dead).set id (.row e t ((sel (hh.2▸vs)).map (fun i=>(hh.2▸vs:List (Val t)).getD i (qb t))) true mt 0)⟩)
     else none
   | _,_=>none
theorem qX0 {o:Option Pre} {k:St→Option ρ} {w0 w:World} {mine:Mine} {st:St} {a:Act} {r:ρ} (h:qm7 o st k=some r) (hr:R w0 mine st a w): ∃st',R w0 mine st' a w∧k st'=some r:=by
 unfold qm7 at h
 split at h
 ·exact ⟨st,hr,h⟩
 ·split at h
  ·rename_i id t e t' xs mt n hx
   split at h
   ·rename_i hh
    subst hh
    obtain ⟨hd',m,H,he⟩:=hr
    obtain ⟨hs,F,m',g,H',K⟩:=H.opn hx
    exact ⟨_,⟨hd',m',H',qvc K he⟩,qSj h (F,hs) g⟩
   ·simp at h
  ·simp at h
 ·rename_i id j t sel
  split at h
  ·rename_i e t1 ys mt n F t2 hs vs hx hj
   split at h
   ·rename_i hh
    obtain ⟨rfl,rfl⟩:=hh
    obtain ⟨⟨hys,hnd,hb,hm,hl⟩,hk⟩:=qcs.1 h
    obtain ⟨hd',m,H,he⟩:=hr
    have hys:ys=(sel vs).map fun i=>hs.getD i (qb (hd t2)):=hys
    subst hys
    obtain ⟨m',H',hok,hsm⟩:=H.cls hx hj hnd hb hm hl
    exact ⟨⟨st.env,(st.heap.set j .dead).set id (.row e t2 ((sel vs).map fun i=>vs.getD i (qb t2)) true mt 0)⟩,⟨hd',m',H',qaJ hok hsm he⟩,hk⟩
   ·simp at h
  ·simp at h
end
end Go.T
/- T: code run to what it returns. -/
namespace Go.T
open Go
variable {ρ : Type}
abbrev Sem:=Oper→St→Res
noncomputable def qfE (S:Sem) (o:Oper) (st:St) (k:St→Option ρ):Option ρ:=match S o st with
 | some (p,st')=>chk p (k st')
 | none=>none
noncomputable def opR (S:Sem) (tt:TT) (Γ:Gam) (o:Oper) (st:St) (k:St→Option ρ):Option ρ:=match qan tt Γ o st with
 | some (p,st')=>chk p (k st')
 | none=>qfE S o st k
def qeE (ops:Array Oper) (o:Oper) (st:St) (yes no:St→Option ρ):Option ρ:=match o.guard with
 | none=>yes st
 | some (j,want)=>match (ops[j]?).bind (·.dst)with
   | none=>no st
   | some t=>match st.env[t]? with
     | some (.one (.bool b))=>bif (b==want)then yes (st.lit t want)else no (st.lit t (!want))
     | some (.tup _)=>no st
     | none=>no st
     | _=>none
noncomputable def qcP (S:Sem) (tt:TT) (Γ:Gam) (ops:Array Oper):List Oper→St→(St→Option ρ)→Option ρ
 | [],st,k=>k st
 | o::os,st,k=>qeE ops o st (fun st=>opR S tt Γ o st fun st=>qcP S tt Γ ops os st k) (fun st=>qcP S tt Γ ops os (st.put o.dst (.tup [])) k)
noncomputable def opS (S:Sem) (tt:TT) (Γ:Gam) (o:Oper) (st:St) (k:St→Option ρ):Option ρ:=match S o st with
 | some (p,st')=>chk p (k st')
 | none=>opR qcL tt Γ o st k
noncomputable def qcR (S:Sem) (tt:TT) (Γ:Gam) (ops:Array Oper):List Oper→St→(St→Option ρ)→Option ρ
 | [],st,k=>k st
 | o::os,st,k=>qeE ops o st (fun st=>opS S tt Γ o st fun st=>qcR S tt Γ ops os st k) (fun st=>qcR S tt Γ ops os (st.put o.dst (.tup [])) k)
noncomputable def qff (tt:TT) (Γ:Gam) (ops:Array Oper) (i:Nat) (st:St) (k:St→Option ρ):Option ρ:=match ops[i]? with
 | none=>none
 | some o=>qeE ops o st (fun st=>opR qcL tt Γ o st k) (fun st=>k (st.put o.dst (.tup [])))
def Tree.isStop:Tree→Bool
 | .stop=>true
 | _=>false
open Classical in
noncomputable def qhc (a b:Option ρ):Option ρ:=if a=b then a else none
theorem qNb {a:Option ρ}:qhc a a=a:=by simp [qhc]
theorem qKI {a b:Option ρ} {r:ρ} (h:qhc a b=some r):a=some r∧b=some r:=by
 unfold qhc at h
 split at h
 ·rename_i e;exact ⟨h,e▸h⟩
 ·simp at h
noncomputable def qaA (tt:TT) (Γ:Gam) (ops:Array Oper):Tree→St→(St→Option ρ)→Option ρ
 | .done,st,k=>k st
 | .first i t,st,k=>chk (qmS ops i st) (qff tt Γ ops i st fun st=>qaA tt Γ ops t st k)
 | .pure i t,st,k=>chk (qmO ops i st) (qff tt Γ ops i st fun st=>qaA tt Γ ops t st k)
 | .keep i t,st,k=>chk (qnQ ops i st) (qff tt Γ ops i st fun st=>qaA tt Γ ops t st k)
 | .quiet i t,st,k=>qff tt Γ ops i st fun st=>qaA tt Γ ops t st k
 | .grow i t,st,k=>chk (qnJ ops i st) (qff tt Γ ops i st fun st=>qaA tt Γ ops t st k)
 | .alt i t r,st,k=>bif r.isStop then qff tt Γ ops i st (fun st=>qaA tt Γ ops t st k)else qhc (qff tt Γ ops i st (fun st=>qaA tt Γ ops t st k)) (qaA tt Γ ops r st k)
 | _,_,_=>none
noncomputable def qeV (sx:SX) (tt:TT) (Γ:Gam) (ops:Array Oper) (i:Nat) (st:St) (k:St→Option ρ):Option ρ:=match ops[i]? with
 | none=>none
 | some o=>qeE ops o st (fun st=>bif sx.ids.contains i then qfE sx.S o st k else opR qcL tt Γ o st k) (fun st=>k (st.put o.dst (.tup [])))
noncomputable def qcl (sx:SX) (tt:TT) (Γ:Gam) (ops:Array Oper):Tree→St→(St→Option ρ)→Option ρ
 | .done,st,k=>k st
 | .first i t,st,k=>chk (qmS ops i st) (qeV sx tt Γ ops i st fun st=>qcl sx tt Γ ops t st k)
 | .pure i t,st,k=>chk (qmO ops i st) (qeV sx tt Γ ops i st fun st=>qcl sx tt Γ ops t st k)
 | .keep i t,st,k=>chk (qnQ ops i st) (qeV sx tt Γ ops i st fun st=>qcl sx tt Γ ops t st k)
 | .quiet i t,st,k=>qeV sx tt Γ ops i st fun st=>qcl sx tt Γ ops t st k
 | .grow i t,st,k=>chk (qnJ ops i st) (qeV sx tt Γ ops i st fun st=>qcl sx tt Γ ops t st k)
 | .alt i t r,st,k=>bif r.isStop then qeV sx tt Γ ops i st (fun st=>qcl sx tt Γ ops t st k)else qhc (qeV sx tt Γ ops i st (fun st=>qcl sx tt Γ ops t st k)) (qcl sx tt Γ ops r st k)
 | _,_,_=>none
noncomputable def qkH (S:Sem) (tt:TT) (Γ:Gam) (ops:Array Oper):Tree→St→(St→Option ρ)→Option ρ
 | .sem ids t,st,k=>qcl ⟨ids,S⟩ tt Γ ops t st k
 | .done,st,k=>qaA tt Γ ops .done st k
 | .first i t,st,k=>qaA tt Γ ops (.first i t) st k
 | .pure i t,st,k=>qaA tt Γ ops (.pure i t) st k
 | .keep i t,st,k=>qaA tt Γ ops (.keep i t) st k
 | .quiet i t,st,k=>qaA tt Γ ops (.quiet i t) st k
 | .grow i t,st,k=>qaA tt Γ ops (.grow i t) st k
 | .alt i t r,st,k=>qaA tt Γ ops (.alt i t r) st k
 | .stop,st,k=>qaA tt Γ ops .stop st k
def qgr (k:St→Option ρ) (Q:X→St→Option ρ):X→St→Option ρ
 | .normal,st=>k st
 | .ret,st=>Q .ret st
 | .exit id,st=>Q (.exit id) st
def qgX (id:Nat) (Q:X→St→Option ρ):X→St→Option ρ
 | .normal,st=>Q .normal st
 | .ret,st=>Q .ret st
 | .exit id',st=>bif id'==id then Q .normal st else Q (.exit id') st
def qqs (c:Operand) (st:St) (x y:St→Option ρ):Option ρ:=match st.ev c with
 | .one (.bool b)=>bif b then x (st.litO c true)else y (st.litO c false)
 | _=>none
def St.nrm (pins:Bool) (nm:Nm) (st:St):St:=bif pins then st.forget nm.keep else st.norm nm
def qI (F:(X→St→Option ρ)→St→Option ρ) (pins:Bool) (nm:Nm) (Q:X→St→Option ρ):Nat→St→Option ρ
 | 0,_=>none
 | n+1,st=>F (qgr (fun st'=>qI F pins nm Q n (st'.nrm pins nm)) Q) st
def rid:Code→Nat
 | .region id _ _=>id
 | .seq a _=>rid a
 | .cond _ a _=>rid a
 | .block _ a=>rid a
 | .loop a=>rid a
 | _=>0
inductive Jn
 | nm (n:Nm)
 | at (p:Option Pre) (tb:Option TT)
 | nt (n:Nm) (tb:TT)
 | sf
def Jn.tb:Jn→Option TT
 | .sf=>none
 | .nm _=>none
 | .at _ tb=>tb
 | .nt _ tb=>some tb
structure Tab where
 tr:Nat→Tree
 lp:Nat→Nm
 ex:Nat→Option Nm
 rg:Nat→Option Nm
 fuel:Nat
 pins:Bool:=false
 sem:Sem:=qcL
 jn:Nat→Option Jn:=fun _=>none
def nxt (pins:Bool) (o:Option Nm) (k:St→Option ρ):St→Option ρ:=match o with
 | none=>k
 | some nm=>fun st=>k (st.nrm pins nm)
noncomputable def qA (tt:TT) (Γ:Gam) (T:Tab):Code→(X→St→Option ρ)→St→Option ρ
 | .region id ops false,Q,st=>qcP T.sem tt Γ ops ops.toList st (nxt T.pins (T.rg id) (Q .normal))
 | .region id ops true,Q,st=>qkH T.sem tt Γ ops (T.tr id) st (nxt T.pins (T.rg id) (Q .normal))
 | _,_,_=>none
noncomputable def sfR (tt:TT) (Γ:Gam) (T:Tab):Code→(X→St→Option ρ)→St→Option ρ
 | .region id ops false,Q,st=>qcR T.sem tt Γ ops ops.toList st (nxt T.pins (T.rg id) (Q .normal))
 | _,_,_=>none
noncomputable def jnR (o:Option Jn) (tt:TT) (Γ:Gam) (T:Tab) (c:Code) (Q:X→St→Option ρ) (st:St):Option ρ:=match o with
 | none=>qA tt Γ T c Q st
 | some (.nm nm)=>qA tt Γ T c Q (st.nrm T.pins nm)
 | some (.at p tb)=>qm7 p st fun st=>qA (tb.getD tt) Γ T c Q st
 | some (.nt nm tb)=>qA tb Γ T c Q (st.nrm T.pins nm)
 | some .sf=>sfR tt Γ T c Q st
noncomputable def qf (tt:TT) (Γ:Gam) (T:Tab):Code→(X→St→Option ρ)→St→Option ρ
 | .skip,Q,st=>Q .normal st
 | .region id ops d,Q,st=>jnR (T.jn id) tt Γ T (.region id ops d) Q st
 | .seq a b,Q,st=>qf tt Γ T a (qgr (qf tt Γ T b Q) Q) st
 | .cond c x y,Q,st=>qqs c st (qf tt Γ T x Q) (qf tt Γ T y Q)
 | .block id c,Q,st=>qf tt Γ T c (qgX id Q) st
 | .loop c,Q,st=>qI (qf tt Γ T c) T.pins (T.lp (rid c)) Q T.fuel (st.nrm T.pins (T.lp (rid c)))
 | .exit id,Q,st=>match T.ex id with
   | none=>Q (.exit id) st
   | some nm=>Q (.exit id) (st.nrm T.pins nm)
 | .ret,Q,st=>Q .ret st
 | _,_,_=>none
section
variable {P : Program} {tt : TT} {Γ : Gam} {T : Tab} {w0 w : World} {mine : Mine} {r : ρ} {ops : Array Oper}
theorem qo7 {o:Oper} {st:St} {yes no:St→Option ρ} {yes' no':St→Prop} (hy: ∀s,yes s=some r→yes' s) (hn: ∀s,no s=some r→no' s) (h:qeE ops o st yes no=some r):qar ops o st yes' no':=by
 unfold qeE at h
 unfold qar
 split
 ·rename_i hg;simp only [hg]at h;exact hy _ h
 ·rename_i j want hg
  simp only [hg]at h
  split
  ·rename_i hb;simp only [hb]at h;exact hn _ h
  ·rename_i t hb
   simp only [hb]at h
   split
   ·rename_i b hs
    simp only [hs]at h
    cases hbw:(b==want)with
    | true=>
      rw [hbw]at h
      refine ⟨fun _=>hy _ h,fun e=> ?_⟩
      subst e;cases want<;>simp at hbw
    | false=>
      rw [hbw]at h
      refine ⟨fun e=> ?_,fun _=>hn _ h⟩
      subst e;simp at hbw
   ·rename_i ls hs;simp only [hs]at h;exact hn _ h
   ·rename_i hs;simp only [hs]at h;exact hn _ h
   ·rename_i h1 h2 h3
    split at h
    ·rename_i b hs;exact absurd hs (h1 b)
    ·rename_i ls hs;exact absurd hs (h2 ls)
    ·rename_i hs;exact absurd hs h3
    ·simp at h
theorem qKj (hT:qP P tt) (hΓ: ∀f g,Γ.get f=some g→Sound P f g) {S:Sem} (hS:qgo P S w0 mine) {k:St→Option ρ} {Q:Exit→Act→World→Prop} (hQ: ∀a w st,R w0 mine st a w→k st=some r→Q .normal a w):
 ∀(os pre:List Oper),ops.toList=pre++os→ ∀(st:St) (a:Act) (w:World),qcP S tt Γ ops os st k=some r→R w0 mine st a w→wpOps P ops Q (List.range' pre.length os.length) a w
 | [],pre,_,st,a,w,h,hr=>hQ a w st hr h
 | o::os,pre,he,st,a,w,h,hr=>by
   have hi:ops[pre.length]?=some o:=by rw [←Array.getElem?_toList,he];simp
   have hrest: ∀st' a' w',qcP S tt Γ ops os st' k=some r→R w0 mine st' a' w'→wpOps P ops Q (List.range' (pre.length+1) os.length) a' w':=fun st' a' w' h' hr'=>by
    have:=qKj hT hΓ hS hQ os (pre++[o]) (by rw [he];simp) st' a' w' h' hr'
    simpa using this
   rw [List.length_cons,List.range'_succ,wpOps_cons]
   unfold wpOp
   simp only [hi]
   have hg:=qo7 (yes':=fun s=>opR S tt Γ o s (fun st=>qcP S tt Γ ops os st k)=some r) (no':=fun s=>qcP S tt Γ ops os (s.put o.dst (.tup [])) k=some r) (fun _ hs=>hs) (fun _ hs=>hs) h
   rcases qw7 hg hr with ⟨hw,h'⟩ | ⟨hw,h'⟩
   ·rw [if_pos hw]
    refine .inl ?_
    unfold opR at h'
    split at h'
    ·rename_i p st' hst
     have:=qcs.1 h'
     exact qwk hT hΓ hst this.1 hr fun a' w' hr'=>hrest st' a' w' this.2 hr'
    ·unfold qfE at h'
     split at h'
     ·rename_i p st' hst
      have:=qcs.1 h'
      exact hS o st p st' hst this.1 a w _ _ hr fun a' w' hr'=>hrest st' a' w' this.2 hr'
     ·simp at h'
   ·rw [if_neg (by rw [hw];simp)]
    exact hrest _ _ _ h' (hr.skip o.dst)
theorem qI9 (hT:qP P tt) (hΓ: ∀f g,Γ.get f=some g→Sound P f g) {S:Sem} (hS:qgo P S w0 mine) {k:St→Option ρ} {Q:Exit→Act→World→Prop} (hQ: ∀a w st,R w0 mine st a w→k st=some r→Q .normal a w):
 ∀(os pre:List Oper),ops.toList=pre++os→ ∀(st:St) (a:Act) (w:World),qcR S tt Γ ops os st k=some r→R w0 mine st a w→wpOps P ops Q (List.range' pre.length os.length) a w
 | [],pre,_,st,a,w,h,hr=>hQ a w st hr h
 | o::os,pre,he,st,a,w,h,hr=>by
   have hi:ops[pre.length]?=some o:=by rw [←Array.getElem?_toList,he];simp
   have hrest: ∀st' a' w',qcR S tt Γ ops os st' k=some r→R w0 mine st' a' w'→wpOps P ops Q (List.range' (pre.length+1) os.length) a' w':=fun st' a' w' h' hr'=>by
    have:=qI9 hT hΓ hS hQ os (pre++[o]) (by rw [he];simp) st' a' w' h' hr'
    simpa using this
   rw [List.length_cons,List.range'_succ,wpOps_cons]
   unfold wpOp
   simp only [hi]
   have hg:=qo7 (yes':=fun s=>opS S tt Γ o s (fun st=>qcR S tt Γ ops os st k)=some r) (no':=fun s=>qcR S tt Γ ops os (s.put o.dst (.tup [])) k=some r) (fun _ hs=>hs) (fun _ hs=>hs) h
   rcases qw7 hg hr with ⟨hw,h'⟩ | ⟨hw,h'⟩
   ·rw [if_pos hw]
    refine .inl ?_
    unfold opS at h'
    split at h'
    ·rename_i p st' hst
     have:=qcs.1 h'
     exact hS o st p st' hst this.1 a w _ _ hr fun a' w' hr'=>hrest st' a' w' this.2 hr'
    ·unfold opR at h'
     split at h'
     ·rename_i p st' hst
      have:=qcs.1 h'
      exact qwk hT hΓ hst this.1 hr fun a' w' hr'=>hrest st' a' w' this.2 hr'
     ·simp [qfE,qcL]at h'
   ·rw [if_neg (by rw [hw];simp)]
    exact hrest _ _ _ h' (hr.skip o.dst)
theorem qhm {i:Nat} {st:St} {k:St→Option ρ} {k':St→Prop} (hk: ∀s,k s=some r→k' s) (h:qff tt Γ ops i st k=some r):qdn sx0 tt Γ ops i st k':=by
 unfold qff at h
 unfold qdn
 split at h
 ·simp at h
 ·rename_i o ho
  rw [ho]
  refine qo7 (fun s hs=> ?_) (fun s hs=>hk _ hs) h
  unfold opR at hs
  unfold qev qeB
  simp only [sx0,List.contains_nil,cond_false]
  split at hs
  ·rename_i p st' hst
   rw [hst]
   have:=qcs.1 hs
   exact ⟨this.1,hk _ this.2⟩
  ·simp [qfE,qcL]at hs
theorem qfy {k:St→Option ρ}: ∀(t:Tree) (st:St),qaA tt Γ ops t st k=some r→qcS sx0 tt Γ ops t st (fun s=>k s=some r)
 | .done,_,h=>h
 | .quiet i t,st,h=>qhm (fun s hs=>qfy t s hs) h
 | .alt i t r,st,h=>by
   simp only [qaA]at h
   cases hs:r.isStop with
   | true=>
     rw [hs]at h
     refine ⟨qhm (fun s hs=>qfy t s hs) h,?_⟩
     cases r<;>first | exact trivial | simp [Tree.isStop]at hs
   | false=>
     rw [hs]at h
     obtain ⟨h1,h2⟩:=qKI h
     exact ⟨qhm (fun s hs=>qfy t s hs) h1,qfy r st h2⟩
 | .grow i t,st,h=>by
   simp only [qaA]at h
   have:=qcs.1 h
   exact ⟨this.1,qhm (fun s hs=>qfy t s hs) this.2⟩
 | .pure i t,st,h=>by
   simp only [qaA]at h
   have:=qcs.1 h
   exact ⟨this.1,qhm (fun s hs=>qfy t s hs) this.2⟩
 | .keep i t,st,h=>by
   simp only [qaA]at h
   have:=qcs.1 h
   exact ⟨this.1,qhm (fun s hs=>qfy t s hs) this.2⟩
 | .first i t,st,h=>by
   simp only [qaA]at h
   have:=qcs.1 h
   exact ⟨this.1,qhm (fun s hs=>qfy t s hs) this.2⟩
 | .stop,st,h=>by simp [qaA]at h
 | .sem _ _,st,h=>by simp [qaA]at h
theorem qgZ {sx:SX} {i:Nat} {st:St} {k:St→Option ρ} {k':St→Prop} (hk: ∀s,k s=some r→k' s) (h:qeV sx tt Γ ops i st k=some r):qdn sx tt Γ ops i st k':=by
 unfold qeV at h
 unfold qdn
 split at h
 ·simp at h
 ·rename_i o ho
  rw [ho]
  refine qo7 (fun s hs=> ?_) (fun s hs=>hk _ hs) h
  unfold qev qeB
  cases hb:sx.ids.contains i with
  | true=>
    rw [hb]at hs
    simp only [cond_true]at hs ⊢
    unfold qfE at hs
    split at hs
    ·rename_i p st' hst
     rw [hst]
     have:=qcs.1 hs
     exact ⟨this.1,hk _ this.2⟩
    ·simp at hs
  | false=>
    rw [hb]at hs
    simp only [cond_false]at hs ⊢
    unfold opR at hs
    split at hs
    ·rename_i p st' hst
     rw [hst]
     have:=qcs.1 hs
     exact ⟨this.1,hk _ this.2⟩
    ·simp [qfE,qcL]at hs
theorem qfB {sx:SX} {k:St→Option ρ}: ∀(t:Tree) (st:St),qcl sx tt Γ ops t st k=some r→qcS sx tt Γ ops t st (fun s=>k s=some r)
 | .done,_,h=>h
 | .quiet i t,st,h=>qgZ (fun s hs=>qfB t s hs) h
 | .alt i t r,st,h=>by
   simp only [qcl]at h
   cases hs:r.isStop with
   | true=>
     rw [hs]at h
     refine ⟨qgZ (fun s hs=>qfB t s hs) h,?_⟩
     cases r<;>first | exact trivial | simp [Tree.isStop]at hs
   | false=>
     rw [hs]at h
     obtain ⟨h1,h2⟩:=qKI h
     exact ⟨qgZ (fun s hs=>qfB t s hs) h1,qfB r st h2⟩
 | .grow i t,st,h=>by
   simp only [qcl]at h
   have:=qcs.1 h
   exact ⟨this.1,qgZ (fun s hs=>qfB t s hs) this.2⟩
 | .pure i t,st,h=>by
   simp only [qcl]at h
   have:=qcs.1 h
   exact ⟨this.1,qgZ (fun s hs=>qfB t s hs) this.2⟩
 | .keep i t,st,h=>by
   simp only [qcl]at h
   have:=qcs.1 h
   exact ⟨this.1,qgZ (fun s hs=>qfB t s hs) this.2⟩
 | .first i t,st,h=>by
   simp only [qcl]at h
   have:=qcs.1 h
   exact ⟨this.1,qgZ (fun s hs=>qfB t s hs) this.2⟩
 | .stop,st,h=>by simp [qcl]at h
 | .sem _ _,st,h=>by simp [qcl]at h
def qih (pins:Bool) (mine:Mine):Prop:=pins=false→ ∀id,mine.pin id=none
theorem qjg {pins:Bool} (hp:qih pins mine) {nm:Nm} {st:St} {a:Act} (hr:R w0 mine st a w):R w0 mine (st.nrm pins nm) a w:=by
 cases pins with
 | true=>exact LeP.of_forget nm.keep rfl _ _ _ _ hr
 | false=>exact Le.norm nm st _ _ _ _ (hp rfl) hr
theorem qSs (hpin:qih T.pins mine) {c:Code} {Q:X→St→Option ρ} {nm:Nm} (hc: ∀(Q:X→St→Option ρ) (st:St) (a:Act) (w:World),qf tt Γ T c Q st=some r→R w0 mine st a w→c.wp P (qfe w0 mine fun x s=>Q x s=some r) a w) {n:Nat} {st:St} {a:Act} {w:World}
 (h:qI (qf tt Γ T c) T.pins nm Q n st=some r) (hr:R w0 mine st a w):(Code.loop c).wp P (qfe w0 mine fun x s=>Q x s=some r) a w:=by
 let J:Act→World→Nat→Prop:=fun a w n=> ∃s,R w0 mine s a w∧qI (qf tt Γ T c) T.pins nm Q n s=some r
 have hmin: ∀a w,(∃n,J a w n)→ ∃m,J a w m∧ ∀k,J a w k→m≤k:=fun a w ⟨n,hn⟩=>qTe hn
 let M:Act→World→Nat:=fun a w=>open Classical in if h: ∃n,J a w n then Classical.choose (hmin a w h)else 0
 have hM: ∀a w n,J a w n→J a w (M a w)∧M a w≤n:=fun a w n hn=>by
  have hex: ∃n,J a w n:=⟨n,hn⟩
  simp only [M,dif_pos hex]
  exact ⟨(Classical.choose_spec (hmin a w hex)).1,(Classical.choose_spec (hmin a w hex)).2 n hn⟩
 refine wp_loop (I:=fun a w=> ∃n,J a w n) (μ:=M) ⟨n,st,hr,h⟩ fun a w hex=> ?_
 obtain ⟨n,hn⟩:=hex
 obtain ⟨⟨s,hs,hrun⟩,_⟩:=hM a w n hn
 generalize hMn:M a w=mm at hrun ⊢
 cases mm with
 | zero=>simp [qI]at hrun
 | succ k=>
   refine wp_mono (hc _ s a w hrun hs) fun e a' w' he=> ?_
   cases e with
   | normal=>
     obtain ⟨s',hs',hk⟩:=he
     have hJ:J a' w' k:=⟨_,qjg hpin hs',hk⟩
     have:=(hM a' w' _ hJ).2
     exact ⟨⟨_,hJ⟩,by omega⟩
   | ret=>exact he
   | exit id=>exact he
   | _=>exact he
theorem qFS {pins:Bool} (hpin:qih pins mine) {o:Option Nm} {Q:X→St→Option ρ} {st:St} {a:Act} (hr:R w0 mine st a w) (h:nxt pins o (Q .normal) st=some r):qfe w0 mine (fun x s=>Q x s=some r) .normal a w:=by
 unfold nxt at h
 split at h
 ·exact ⟨st,hr,h⟩
 ·exact ⟨_,qjg hpin hr,h⟩
theorem qlF (hT:qP P tt) (hΓ: ∀f g,Γ.get f=some g→Sound P f g) (hm:P.follows .mixedOrders=true) (hS:qgo P T.sem w0 mine) (hpin:qih T.pins mine): ∀(c:Code),qm T.tr c=true→ ∀(Q:X→St→Option ρ) (st:St) (a:Act) (w:World),qA tt Γ T c Q st=some r→R w0 mine st a w→c.wp P (qfe w0 mine fun x s=>Q x s=some r) a w
 | .region id ops false,_,Q,st,a,w,h,hr=>by
   refine wp_region ?_
   have:=qKj (ops:=ops) (Q:=qfe w0 mine fun x s=>Q x s=some r) hT hΓ hS (k:=nxt T.pins (T.rg id) (Q .normal)) (fun a w st hr hk=>qFS hpin hr hk) ops.toList [] rfl st a w h hr
   rw [List.range_eq_range']
   simpa using this
 | .region id ops true,hp,Q,st,a,w,h,hr=>by
   refine wp_region_any hm ?_
   have hr':R w0 mine st a {w with drawn:=w.drawn+1}:=by
    obtain ⟨hd,m,H,he⟩:=hr
    obtain ⟨H',hok,hs⟩:=H.heap_eq (w':={w with drawn:=w.drawn+1}) rfl rfl rfl rfl (Nat.le_succ _)
    exact ⟨hd,m,H',qaJ hok hs he⟩
   have fin: ∀(sx:SX) (t:Tree),qgo P sx.S w0 mine→qaz sx.ids ops t ops.size (Array.replicate ops.size false) []=true→qcS sx tt Γ ops t st (fun s=>nxt T.pins (T.rg id) (Q .normal) s=some r)→wpAny P .any ops (qfe w0 mine fun x s=>Q x s=some r) ops.size (Array.replicate ops.size false) a {w with drawn:=w.drawn+1}:=fun sx t hS hp hw=>
    qp7 hT hΓ hS (k:=fun s=>nxt T.pins (T.rg id) (Q .normal) s=some r) (fun a w st hr hk=>qFS hpin hr hk) _ _ st a _ (qf8 t ops.size _ [] st hp hw (fun _ _ _ h=>by simp at h)) hr'
   replace hp:qG5 ops (T.tr id)=true:=hp
   replace h:qkH T.sem tt Γ ops (T.tr id) st (nxt T.pins (T.rg id) (Q .normal))=some r:=h
   generalize T.tr id=t at h hp
   cases t with
   | sem ids t=>exact fin ⟨ids,T.sem⟩ t hS hp (qfB _ _ h)
   | _=>exact fin sx0 _ (qx P).at hp (qfy _ _ h)
 | .seq ..,_,_,_,_,_,h,_=>by simp [qA]at h
 | .cond ..,_,_,_,_,_,h,_=>by simp [qA]at h
 | .skip,_,_,_,_,_,h,_=>by simp [qA]at h
 | .block ..,_,_,_,_,_,h,_=>by simp [qA]at h
 | .loop ..,_,_,_,_,_,h,_=>by simp [qA]at h
 | .exit ..,_,_,_,_,_,h,_=>by simp [qA]at h
 | .ret,_,_,_,_,_,h,_=>by simp [qA]at h
 | .rangeFunc ..,_,_,_,_,_,h,_=>by simp [qA]at h
 | .scope _,_,_,_,_,_,h,_=>by simp [qA]at h
 | .label _,_,_,_,_,_,h,_=>by simp [qA]at h
 | .goto _,_,_,_,_,_,h,_=>by simp [qA]at h
 | .refuse _,_,_,_,_,_,h,_=>by simp [qA]at h
theorem qXi (hT:qP P tt) (hΓ: ∀f g,Γ.get f=some g→Sound P f g) (hS:qgo P T.sem w0 mine) (hpin:qih T.pins mine) (c:Code) (Q:X→St→Option ρ) (st:St) (a:Act) (w:World) (h:sfR tt Γ T c Q st=some r) (hr:R w0 mine st a w):c.wp P (qfe w0 mine fun x s=>Q x s=some r) a w:=by
 unfold sfR at h
 split at h
 ·rename_i id ops
  refine wp_region ?_
  have:=qI9 (ops:=ops) (Q:=qfe w0 mine fun x s=>Q x s=some r) hT hΓ hS (k:=nxt T.pins (T.rg id) (Q .normal)) (fun a w st hr hk=>qFS hpin hr hk) ops.toList [] rfl st a w h hr
  rw [List.range_eq_range']
  simpa using this
 ·simp at h
def qn (P:Program) (T:Tab):Prop:= ∀id j t,T.jn id=some j→Jn.tb j=some t→qP P t
theorem qfd (hT:qP P tt) (hTb:qn P T) (hΓ: ∀f g,Γ.get f=some g→Sound P f g) (hm:P.follows .mixedOrders=true) (hS:qgo P T.sem w0 mine) (hpin:qih T.pins mine): ∀(c:Code),qm T.tr c=true→ ∀(Q:X→St→Option ρ) (st:St) (a:Act) (w:World),qf tt Γ T c Q st=some r→R w0 mine st a w→c.wp P (qfe w0 mine fun x s=>Q x s=some r) a w
 | .skip,_,Q,st,a,w,h,hr=>wp_skip ⟨st,hr,h⟩
 | .region id ops d,hp,Q,st,a,w,h,hr=>by
   have h:jnR (T.jn id) tt Γ T (.region id ops d) Q st=some r:=h
   unfold jnR at h
   split at h
   ·exact qlF hT hΓ hm hS hpin _ hp Q st a w h hr
   ·exact qlF hT hΓ hm hS hpin _ hp Q _ a w h (qjg hpin hr)
   ·rename_i p tb hj
    obtain ⟨st',hr',hk⟩:=qX0 h hr
    cases tb with
    | none=>exact qlF hT hΓ hm hS hpin _ hp Q st' a w hk hr'
    | some t=>exact qlF (hTb _ _ _ hj rfl) hΓ hm hS hpin _ hp Q st' a w hk hr'
   ·rename_i nm tb hj
    exact qlF (hTb _ _ _ hj rfl) hΓ hm hS hpin _ hp Q _ a w h (qjg hpin hr)
   ·exact qXi hT hΓ hS hpin _ Q st a w h hr
 | .seq x y,hp,Q,st,a,w,h,hr=>by
   simp only [qm,Bool.and_eq_true]at hp
   refine wp_seq (wp_mono (qfd hT hTb hΓ hm hS hpin x hp.1 _ st a w h hr) fun e a' w' he=> ?_)
   cases e with
   | normal=>obtain ⟨s,hs,hk⟩:=he;exact qfd hT hTb hΓ hm hS hpin y hp.2 Q s a' w' hk hs
   | ret=>exact he
   | exit id=>exact he
   | _=>exact he
 | .cond c x y,hp,Q,st,a,w,h,hr=>by
   simp only [qm,Bool.and_eq_true]at hp
   simp only [qf,qqs]at h
   split at h
   ·rename_i b hb
    have hv:a.eval c= .bool b:=by
        obtain ⟨hd,m,H,he⟩:=hr
        have:=R.ev H he c
        rw [hb]at this
        exact this
    refine wp_cond hv ?_
    cases b with
    | true=>
      have h:qf tt Γ T x Q (st.litO c true)=some r:=h
      rw [R.litO (a:=a) (w:=w) hb]at h
      exact qfd hT hTb hΓ hm hS hpin x hp.1 Q st a w h hr
    | false=>
      have h:qf tt Γ T y Q (st.litO c false)=some r:=h
      rw [R.litO (a:=a) (w:=w) hb]at h
      exact qfd hT hTb hΓ hm hS hpin y hp.2 Q st a w h hr
   ·simp at h
 | .block id c,hp,Q,st,a,w,h,hr=>by
   refine wp_block (wp_mono (qfd hT hTb hΓ hm hS hpin c hp _ st a w h hr) fun e a' w' he=> ?_)
   cases e with
   | normal=>exact he
   | ret=>exact he
   | exit id'=>
     obtain ⟨s,hs,hk⟩:=he
     simp only [qgX]at hk
     simp only [Exit.inBlock]
     split
     ·rename_i e
      subst e
      simp only [beq_self_eq_true,cond_true]at hk
      exact ⟨s,hs,hk⟩
     ·rename_i e
      have:(id'==id)=false:=by simpa using e
      simp only [this,cond_false]at hk
      exact ⟨s,hs,hk⟩
   | _=>exact he
 | .loop c,hp,Q,st,a,w,h,hr=>qSs hpin (fun Q st a w h hr=>qfd hT hTb hΓ hm hS hpin c hp Q st a w h hr) h (qjg hpin hr)
 | .exit id,_,Q,st,a,w,h,hr=>by
   refine wp_exit ?_
   simp only [qf]at h
   split at h
   ·exact ⟨st,hr,h⟩
   ·exact ⟨_,qjg hpin hr,h⟩
 | .ret,_,Q,st,a,w,h,hr=>wp_ret ⟨st,hr,h⟩
 | .rangeFunc ..,_,_,_,_,_,h,_=>by simp [qf]at h
 | .scope _,_,_,_,_,_,h,_=>by simp [qf]at h
 | .label _,_,_,_,_,_,h,_=>by simp [qf]at h
 | .goto _,_,_,_,_,_,h,_=>by simp [qf]at h
 | .refuse _,_,_,_,_,_,h,_=>by simp [qf]at h
def qk1 (h:List Blk) (ls:List LV):Bool:=qah h (ls.flatMap LV.cells)&&qct (qk (ls.flatMap LV.cells))
def qN (tt:TT) (dp:Bool) (rs:List TI) (rvs:List ResultVar) (st:St):Option (qc rs):=match qed tt st rvs with
 | none=>none
 | some ls=>match qci st.heap rs ls with
   | none=>none
   | some y=>bif dp then (bif qk1 st.heap ls then some y else none)else some y
def qo (tt:TT) (dp:Bool) (rs:List TI) (rvs:List ResultVar):X→St→Option (qc rs)
 | .normal,st=>qN tt dp rs rvs st
 | .ret,st=>qN tt dp rs rvs st
 | .exit _,_=>none
theorem qHP {g:G} {rvs:List ResultVar} {y:qc g.rs} {st:St} (h:qN tt g.dp g.rs rvs st=some y):qfT tt g.dp g.rs rvs y st:=by
 unfold qN at h
 unfold qfT
 split at h
 ·simp at h
 ·rename_i ls hls
  split at h
  ·simp at h
  ·rename_i z hy
   rw [hls]
   cases hdp:g.dp with
   | false=>rw [hdp]at h;simp only [cond_false]at h;cases h;exact ⟨hy,by simp⟩
   | true=>
     rw [hdp]at h
     cases hb:qk1 st.heap ls with
     | false=>rw [hb]at h;simp at h
     | true=>
       rw [hb]at h
       simp only [cond_true]at h
       cases h
       simp only [qk1,Bool.and_eq_true]at hb
       exact ⟨hy,fun _=>hb⟩
theorem qsv {g:G} {rvs:List ResultVar} {x:qc g.ps} {e:X} {st:St} (h:qo tt g.dp g.rs rvs e st=some (g.fn x)):qpV tt g rvs x e st:=by
 cases e with
 | normal=>exact qHP h
 | ret=>exact qHP h
 | exit id=>simp [qo]at h
theorem qVc (hT : qP P tt) (hΓ : ∀ f g, Γ.get f = some g → Sound P f g) (hm : P.follows .mixedOrders = true) {f : FuncId} {fn : Func} {c : Code} {g : G} (hf : P.funcs[f]? = some fn) (hb : fn.body = some c) (hname : (fn.name == "runtime.NumGoroutine") = false)
 (hrun: ∀x:qc g.ps,g.pre x→ ∃T:Tab,qm T.tr c=true∧qc1 P T.sem∧qn P T∧qf tt Γ T c (qo tt g.dp g.rs fn.results.toList) (qlL g fn.ntmps x)=some (g.fn x)):Sound P f g:=
 qNM hT hf hb hname fun x hx w0 mine a w hpin hR=>by
  obtain ⟨T,hp,hS,hTb,h⟩:=hrun x hx
  refine wp_mono (qfd hT hTb hΓ hm hS.at (fun _=>hpin) c hp _ _ _ _ h hR) fun e a' w' he=> ?_
  cases e with
  | normal=>obtain ⟨st,hr,h⟩:=he;exact ⟨st,hr,qsv h⟩
  | ret=>obtain ⟨st,hr,h⟩:=he;exact ⟨st,hr,qsv h⟩
  | exit id=>obtain ⟨st,hr,h⟩:=he;exact ⟨st,hr,qsv h⟩
  | _=>exact he
end
end Go.T
/- T: runs by rewriting: lemmas at states that are written out. -/
namespace Go.T
open Go
abbrev u:LV:= .one .undef
variable {ρ : Type}
def cut:List Bool→Code→Code
 | [],c=>c
 | false::r,.seq a _=>cut r a
 | true::r,.seq _ b=>cut r b
 | false::r,.cond _ a _=>cut r a
 | true::r,.cond _ _ b=>cut r b
 | _::r,.block _ a=>cut r a
 | _::r,.loop a=>cut r a
 | _,c=>c
def qv (ps:List TI) (ntmps:Nat) (x:qc ps):St:={env:=(qeF 0 ps x).map LV1.lv++List.replicate (ntmps - ps.length) (.tup []),heap:=[]}
section
variable {tt : TT} {Γ : Gam} {T : Tab} {Q : X → St → Option ρ} {e : List LV} {h : List Blk}
@[simp] theorem q1D : qf tt Γ T .skip Q ⟨e, h⟩ = Q .normal ⟨e, h⟩ := rfl
@[simp] theorem q1M {id : Nat} {ops : Array Oper} {d : Bool} : qf tt Γ T (.region id ops d) Q ⟨e, h⟩ = jnR (T.jn id) tt Γ T (.region id ops d) Q ⟨e, h⟩ := rfl
@[simp] theorem q1F {id : Nat} {ops : List Oper} : jnR none tt Γ T (.region id ⟨ops⟩ false) Q ⟨e, h⟩ = qcP T.sem tt Γ ⟨ops⟩ ops ⟨e, h⟩ (nxt T.pins (T.rg id) (Q .normal)) := rfl
@[simp] theorem qZr {id : Nat} {ops : Array Oper} : jnR none tt Γ T (.region id ops true) Q ⟨e, h⟩ = qkH T.sem tt Γ ops (T.tr id) ⟨e, h⟩ (nxt T.pins (T.rg id) (Q .normal)) := rfl
@[simp] theorem qZY {nm : Nm} {c : Code} : jnR (some (.nm nm)) tt Γ T c Q ⟨e, h⟩ = qA tt Γ T c Q ((St.mk e h).nrm T.pins nm) := rfl
@[simp] theorem qZ1 {p : Option Pre} {tb : Option TT} {c : Code} : jnR (some (.at p tb)) tt Γ T c Q ⟨e, h⟩ = qm7 p ⟨e, h⟩ fun st => qA (tb.getD tt) Γ T c Q st := rfl
@[simp] theorem qZo {nm : Nm} {tb : TT} {c : Code} : jnR (some (.nt nm tb)) tt Γ T c Q ⟨e, h⟩ = qA tb Γ T c Q ((St.mk e h).nrm T.pins nm) := rfl
@[simp] theorem qZX {id : Nat} {ops : List Oper} : jnR (some .sf) tt Γ T (.region id ⟨ops⟩ false) Q ⟨e, h⟩ = qcR T.sem tt Γ ⟨ops⟩ ops ⟨e, h⟩ (nxt T.pins (T.rg id) (Q .normal)) := rfl
@[simp] theorem q1l {st : St} {k : St → Option ρ} : qm7 none st k = k st := rfl
theorem qcO {id:Nat} {ops:List Oper}:qA tt Γ T (.region id ⟨ops⟩ false) Q ⟨e,h⟩=qcP T.sem tt Γ ⟨ops⟩ ops ⟨e,h⟩ (nxt T.pins (T.rg id) (Q .normal)):=rfl
theorem qcD {id:Nat} {ops:Array Oper}:qA tt Γ T (.region id ops true) Q ⟨e,h⟩=qkH T.sem tt Γ ops (T.tr id) ⟨e,h⟩ (nxt T.pins (T.rg id) (Q .normal)):=rfl
@[simp] theorem q1j {a b : Code} : qf tt Γ T (.seq a b) Q ⟨e, h⟩ = qf tt Γ T a (qgr (qf tt Γ T b Q) Q) ⟨e, h⟩ := rfl
@[simp] theorem qZ0 {c : Operand} {x y : Code} : qf tt Γ T (.cond c x y) Q ⟨e, h⟩ = qqs c ⟨e, h⟩ (qf tt Γ T x Q) (qf tt Γ T y Q) := rfl
@[simp] theorem q1C {id : Nat} {c : Code} : qf tt Γ T (.block id c) Q ⟨e, h⟩ = qf tt Γ T c (qgX id Q) ⟨e, h⟩ := rfl
@[simp] theorem q0S {c : Code} : qf tt Γ T (.loop c) Q ⟨e, h⟩ = qI (qf tt Γ T c) T.pins (T.lp (rid c)) Q T.fuel ((St.mk e h).nrm T.pins (T.lp (rid c))) := rfl
@[simp] theorem q0A {id : Nat} : qf tt Γ T (.exit id) Q ⟨e, h⟩ = match T.ex id with
   | none=>Q (.exit id) ⟨e,h⟩
   | some nm=>Q (.exit id) ((St.mk e h).nrm T.pins nm):=rfl
@[simp] theorem q0g : qf tt Γ T .ret Q ⟨e, h⟩ = Q .ret ⟨e, h⟩ := rfl
theorem qS {F:(X→St→Option ρ)→St→Option ρ} {pins:Bool} {nm:Nm} {n:Nat} {st:St}:qI F pins nm Q (n+1) st=F (qgr (fun st'=>qI F pins nm Q n (st'.nrm pins nm)) Q) st:=rfl
variable {ops : Array Oper} {k : St → Option ρ}
@[simp] theorem qZy {S : Sem} : qcP S tt Γ ops [] ⟨e, h⟩ k = k ⟨e, h⟩ := rfl
@[simp] theorem q0e {S : Sem} {d : Option Tmp} {op : Op} {ty : TypeId} {pos : String} {aft : Array Edge} {os : List Oper} : qcP S tt Γ ops (⟨d, op, ty, pos, aft, none⟩ :: os) ⟨e, h⟩ k = opR S tt Γ ⟨d, op, ty, pos, aft, none⟩ ⟨e, h⟩ fun st => qcP S tt Γ ops os st k := rfl
@[simp] theorem qZs {S : Sem} {d : Option Tmp} {op : Op} {ty : TypeId} {pos : String} {aft : Array Edge} {g : Nat × Bool} {os : List Oper} : qcP S tt Γ ops (⟨d, op, ty, pos, aft, some g⟩ :: os) ⟨e, h⟩ k = qeE ops ⟨d, op, ty, pos, aft, some g⟩ ⟨e, h⟩ (fun st => opR S tt Γ ⟨d, op, ty, pos, aft, some g⟩ st fun st => qcP S tt Γ ops os st k) (fun st => qcP S tt Γ ops os (st.put d (.tup [])) k) := rfl
@[simp] theorem q0r {S : Sem} : qcR S tt Γ ops [] ⟨e, h⟩ k = k ⟨e, h⟩ := rfl
@[simp] theorem q04 {S : Sem} {d : Option Tmp} {op : Op} {ty : TypeId} {pos : String} {aft : Array Edge} {os : List Oper} : qcR S tt Γ ops (⟨d, op, ty, pos, aft, none⟩ :: os) ⟨e, h⟩ k = opS S tt Γ ⟨d, op, ty, pos, aft, none⟩ ⟨e, h⟩ fun st => qcR S tt Γ ops os st k := rfl
@[simp] theorem q1n {S : Sem} {d : Option Tmp} {op : Op} {ty : TypeId} {pos : String} {aft : Array Edge} {g : Nat × Bool} {os : List Oper} : qcR S tt Γ ops (⟨d, op, ty, pos, aft, some g⟩ :: os) ⟨e, h⟩ k = qeE ops ⟨d, op, ty, pos, aft, some g⟩ ⟨e, h⟩ (fun st => opS S tt Γ ⟨d, op, ty, pos, aft, some g⟩ st fun st => qcR S tt Γ ops os st k) (fun st => qcR S tt Γ ops os (st.put d (.tup [])) k) := rfl
@[simp] theorem qZ6 {st : St} : qgr k Q .normal st = k st := rfl
@[simp] theorem qQ {st : St} : qgr k Q .ret st = Q .ret st := rfl
@[simp] theorem q1c {st : St} {id : Nat} : qgr k Q (.exit id) st = Q (.exit id) st := rfl
@[simp] theorem q0i {id : Nat} {st : St} : qgX id Q .normal st = Q .normal st := rfl
@[simp] theorem qR {id : Nat} {st : St} : qgX id Q .ret st = Q .ret st := rfl
@[simp] theorem qZC {id j : Nat} {st : St} : qgX id Q (.exit j) st = bif j == id then Q .normal st else Q (.exit j) st := rfl
@[simp] theorem q0Q : qgr k Q .normal = k := rfl
@[simp] theorem q0f {id : Nat} : qgX id Q .normal = Q .normal := rfl
@[simp] theorem q0c {S : Sem} {o : Oper} : opR S tt Γ o ⟨e, h⟩ k = (match qan tt Γ o ⟨e, h⟩ with
  | some (p,st')=>chk p (k st')
  | none=>qfE S o ⟨e,h⟩ k):=rfl
@[simp] theorem qZz {S : Sem} {o : Oper} : opS S tt Γ o ⟨e, h⟩ k = (match S o ⟨e, h⟩ with
  | some (p,st')=>chk p (k st')
  | none=>opR qcL tt Γ o ⟨e,h⟩ k):=rfl
theorem qae {S:Sem} {o:Oper}:qfE S o ⟨e,h⟩ k=(match S o ⟨e,h⟩with
 | some (p,st')=>chk p (k st')
 | none=>none):=rfl
@[simp] theorem q0p {nm : Nm} : (St.mk e h).nrm false nm = (St.mk e h).norm nm := rfl
@[simp] theorem q1m {nm : Nm} : (St.mk e h).nrm true nm = ⟨qgT nm.keep e, h⟩ := rfl
attribute [simp] qgT
def brL (x:LV) (c:Operand) (e:List LV) (h:List Blk) (a b:St→Option ρ):Option ρ:=match x with
 | .one (.bool v)=>bif v then a ((St.mk e h).litO c true)else b ((St.mk e h).litO c false)
 | _=>none
@[simp] theorem q1B {c : Operand} {x y : St → Option ρ} : qqs c ⟨e, h⟩ x y = brL ((St.mk e h).ev c) c e h x y := rfl
@[simp high] theorem qZ3 {c : Operand} {x y : St → Option ρ} : brL (.one (.bool true)) c e h x y = x ((St.mk e h).litO c true) := rfl
@[simp high] theorem qZO {c : Operand} {x y : St → Option ρ} : brL (.one (.bool false)) c e h x y = y ((St.mk e h).litO c false) := rfl
@[simp low] theorem qZ2 {c : Operand} {x y : St → Option ρ} {v : Bool} : brL (.one (.bool v)) c e h x y = bif v then x ((St.mk e h).litO c true) else y ((St.mk e h).litO c false) := rfl
def guA (d:Option Tmp) (want:Bool) (e:List LV) (h:List Blk) (a b:St→Option ρ):Option ρ:=match d with
 | none=>b ⟨e,h⟩
 | some t=>match e[t]? with
   | some (.one (.bool v))=>bif (v==want)then a ((St.mk e h).lit t want)else b ((St.mk e h).lit t (!want))
   | some (.tup _)=>b ⟨e,h⟩
   | none=>b ⟨e,h⟩
   | _=>none
def guB (x:Option LV) (t:Nat) (want:Bool) (e:List LV) (h:List Blk) (a b:St→Option ρ):Option ρ:=match x with
 | some (.one (.bool v))=>bif (v==want)then a ((St.mk e h).lit t want)else b ((St.mk e h).lit t (!want))
 | some (.tup _)=>b ⟨e,h⟩
 | none=>b ⟨e,h⟩
 | _=>none
theorem qYH {d:Option Tmp} {op:Op} {ty:TypeId} {pos:String} {aft:Array Edge} {j:Nat} {want:Bool} {a b:St→Option ρ}:qeE ops ⟨d,op,ty,pos,aft,some (j,want)⟩ ⟨e,h⟩ a b=guA ((ops[j]?).bind (·.dst)) want e h a b:=by
 unfold qeE guA
 first
  | rfl
  | (dsimp only;done)
  | (dsimp only;cases (ops[j]?).bind (·.dst)<;>rfl)
@[simp] theorem q1s {d : Option Tmp} {op : Op} {ty : TypeId} {pos : String} {aft : Array Edge} {a b : St → Option ρ} : qeE ops ⟨d, op, ty, pos, aft, none⟩ ⟨e, h⟩ a b = a ⟨e, h⟩ := rfl
@[simp] theorem q1h {want : Bool} {a b : St → Option ρ} : guA none want e h a b = b ⟨e, h⟩ := rfl
@[simp] theorem q1J {t : Nat} {want : Bool} {a b : St → Option ρ} : guA (some t) want e h a b = guB e[t]? t want e h a b := rfl
@[simp high] theorem qZM {t : Nat} {a b : St → Option ρ} : guB (some (.one (.bool true))) t true e h a b = a ((St.mk e h).lit t true) := rfl
@[simp high] theorem q11 {t : Nat} {a b : St → Option ρ} : guB (some (.one (.bool false))) t false e h a b = a ((St.mk e h).lit t false) := rfl
@[simp high] theorem qZv {t : Nat} {a b : St → Option ρ} : guB (some (.one (.bool true))) t false e h a b = b ((St.mk e h).lit t true) := rfl
@[simp high] theorem q0T {t : Nat} {a b : St → Option ρ} : guB (some (.one (.bool false))) t true e h a b = b ((St.mk e h).lit t false) := rfl
@[simp low] theorem qZF {t : Nat} {v : Bool} {a b : St → Option ρ} : guB (some (.one (.bool v))) t true e h a b = bif v then a ((St.mk e h).lit t true) else b ((St.mk e h).lit t false) := by cases v <;> rfl
@[simp low] theorem q1q {t : Nat} {v : Bool} {a b : St → Option ρ} : guB (some (.one (.bool v))) t false e h a b = bif v then b ((St.mk e h).lit t true) else a ((St.mk e h).lit t false) := by cases v <;> rfl
@[simp] theorem q0k {t : Nat} {want : Bool} {l : List LV1} {a b : St → Option ρ} : guB (some (.tup l)) t want e h a b = b ⟨e, h⟩ := rfl
attribute [simp] qYH
@[simp] theorem qZq {pins : Bool} : nxt pins none k = k := rfl
@[simp] theorem qZn {pins : Bool} {nm : Nm} {e : List LV} {h : List Blk} : nxt pins (some nm) k ⟨e, h⟩ = k ((St.mk e h).nrm pins nm) := rfl
@[simp] theorem q1N {a : Option ρ} : qhc a a = a := qNb
@[simp] theorem qHF {k : Option ρ} : chk True k = k := qd trivial
@[simp] theorem qZH {k : Option ρ} : chk False k = none := by simp [chk]
@[simp] theorem q0J {nm : Nm} : (St.mk e h).norm nm = ((St.mk e h).fixes nm.fix).gc nm.zero nm.keep := rfl
@[simp] theorem q03 : (St.mk e h).fixes [] = ⟨e, h⟩ := rfl
@[simp] theorem q0j {f : Fix} {r : List Fix} : (St.mk e h).fixes (f :: r) = ((St.mk e h).fix1 f).fixes r := rfl
@[simp] theorem q0w {dp : Bool} {rs : List TI} {rvs : List ResultVar} : qN tt dp rs rvs ⟨e, h⟩ = match qed tt ⟨e, h⟩ rvs with
  | none=>none
  | some ls=>match qci h rs ls with
    | none=>none
    | some y=>bif dp then (bif qk1 h ls then some y else none)else some y:=rfl
@[simp] theorem qT {dp : Bool} {rs : List TI} {rvs : List ResultVar} {st : St} : qo tt dp rs rvs .ret st = qN tt dp rs rvs st := rfl
@[simp] theorem q0b {dp : Bool} {rs : List TI} {rvs : List ResultVar} {st : St} : qo tt dp rs rvs .normal st = qN tt dp rs rvs st := rfl
attribute [simp] qyK qnJ qnQ qs4 qmO ql7 qk1 St.fix1 St.undp St.frz qff qaA qeV qcl qkH Tree.isStop qv rid cut
end
@[simp] theorem qZR : List.range 2 = [0, 1] := rfl
@[simp] theorem q1o : List.range 3 = [0, 1, 2] := rfl
@[simp] theorem qZA : List.range 4 = [0, 1, 2, 3] := rfl
@[simp] theorem q0s : List.range 5 = [0, 1, 2, 3, 4] := rfl
@[simp] theorem q1r : List.range 6 = [0, 1, 2, 3, 4, 5] := rfl
@[simp] theorem qZZ : List.range 7 = [0, 1, 2, 3, 4, 5, 6] := rfl
@[simp] theorem q1R : List.range 8 = [0, 1, 2, 3, 4, 5, 6, 7] := rfl
theorem qt {P:Program} {T:Tab} (h: ∀i,T.jn i=none):qn P T:=fun id j t e=>by rw [h]at e;simp at e
theorem qz {P : Program} {tt : TT} {Γ : Gam} (hT : qP P tt) (hΓ : ∀ f g, Γ.get f = some g → Sound P f g) (hm : P.follows .mixedOrders = true) {f : FuncId} {fn : Func} {c : Code} {g : G} (hf : P.funcs[f]? = some fn) (hb : fn.body = some c) (hname : (fn.name == "runtime.NumGoroutine") = false)
 (hrun: ∀x:qc g.ps,g.pre x→ ∃T:Tab,qm T.tr c=true∧qc1 P T.sem∧qn P T∧qf tt Γ T c (qo tt g.dp g.rs fn.results.toList) (qv g.ps fn.ntmps x)=some (g.fn x)):Sound P f g:=
 qVc hT hΓ hm hf hb hname hrun
end Go.T
/- Plain: walks over a list by an index. -/
namespace Go.T
open Go
variable {ρ α σ : Type}
theorem qiU {xs:List α} {i:Nat} (h:i<xs.length):xs.drop i=xs[i]::xs.drop (i+1):=List.drop_eq_getElem_cons h
theorem qgM {xs:List α} {i:Nat} (h:i<xs.length) (d:α):xs.getD i d=xs[i]:=by simp [List.getD,h]
theorem qE {xs:List α} {i:Nat} (h:i<xs.length) (d:α):xs.getD (Int.toNat (i:Int)) d=xs[i]:=by simp [List.getD,h]
theorem qhW {i n:Nat} (h:i<n) (hn:n≤1048576):IntKind.i64.wrap ((i:Int)+1)=((i+1:Nat):Int):=qTO h hn
def qcb (step:Nat→α→σ→(σ→Option ρ)→Option ρ):Nat→List α→σ→(σ→Option ρ)→Option ρ
 | _,[],s,k=>k s
 | i,x::r,s,k=>step i x s fun s'=>qcb step (i+1) r s' k
theorem qJP {F:Nat→Int→σ→Option ρ} {xs:List α} {step:Nat→α→σ→(σ→Option ρ)→Option ρ} {k:σ→Option ρ} (hl:xs.length≤1048576)
 (hF: ∀(n i:Nat) (s:σ) (h:i<xs.length),F (n+1) (i:Int) s=step i xs[i] s fun s'=>F n (IntKind.i64.wrap ((i:Int)+1)) s') (hE: ∀(n i:Nat) (s:σ),xs.length≤i→F (n+1) (i:Int) s=k s):
 ∀(n i:Nat) (s:σ),i≤xs.length→xs.length - i<n→F n (i:Int) s=qcb step i (xs.drop i) s k
 | 0,_,_,_,h=>by omega
 | n+1,i,s,hi,h=>by
   by_cases hlt:i<xs.length
   ·rw [hF n i s hlt,qiU hlt,qcb,qhW hlt hl]
    congr 1
    funext s'
    exact qJP hl hF hE n (i+1) s' (by omega) (by omega)
   ·rw [hE n i s (by omega),List.drop_eq_nil_of_le (by omega),qcb]
theorem qbA {F:Nat→Int→σ→Option ρ} {xs:List α} {step:Nat→α→σ→(σ→Option ρ)→Option ρ} {k:σ→Option ρ} (hl:xs.length≤1048576)
 (hF: ∀(n i:Nat) (s:σ) (h:i<xs.length),F (n+1) (i:Int) s=step i xs[i] s fun s'=>F n (IntKind.i64.wrap ((i:Int)+1)) s') (hE: ∀(n i:Nat) (s:σ),xs.length≤i→F (n+1) (i:Int) s=k s)
 (n:Nat) (s:σ) (hn:xs.length<n):F n 0 s=qcb step 0 xs s k:=by
 have:=qJP hl hF hE n 0 s (by omega) (by omega)
 simpa using this
theorem qes {p:α→Bool} {r:Option ρ} {k:Unit→Option ρ}: ∀(xs:List α) (i:Nat),qcb (fun _ x _ K=>bif p x then K ()else r) i xs () k=bif xs.all p then k ()else r
 | [],_=>rfl
 | x::xs,i=>by
   rw [qcb];dsimp only;rw [qes xs]
   cases h:p x<;>simp [h]
theorem qL {b:Bool} {x y:α}:(bif !b then x else y)=bif b then y else x:=by cases b<;>rfl
theorem qj {p:Prop} [Decidable p] {x y:α} (h:p):(bif decide p then x else y)=x:=by simp [h]
theorem qh {p:Prop} [Decidable p] {x y:α} (h: ¬p):(bif decide p then x else y)=y:=by simp [h]
end Go.T
/- Plain: sizes, copies, equality of rows. -/
namespace Go.T
open Go
variable {ρ α : Type}
theorem qnK {t:Ty}: ∀(xs:List (Val t)) (i:Nat) (n:Int),0≤n→n≤1048576→(∀x∈xs,Sm t x)→
 qcb (fun _ x (s:Int) (K:Int→Option (Int×Unit))=>chk (qeI t x s) (bif decide (szV t x s<0)then some ((-1:Int),())else K (szV t x s))) i xs n (fun s=>some (s,()))=some (szL (szV t) xs n,())
 | [],_,_,_,_,_=>rfl
 | x::xs,i,n,h0,h1,hs=>by
   rw [qcb,qd ⟨hs x (by simp),h0,h1⟩,szL]
   by_cases c:szV t x n<0
   ·rw [qj c,if_pos c]
   ·rw [qh c,if_neg c]
    exact qnK xs (i+1) _ (by omega) (by have:=(qcz t x n h0).1;omega) fun y hy=>hs y (by simp [hy])
theorem qHo {F:Nat→Int→List α→Option ρ} {xs:List α} {k:List α→Option ρ} (d:α) (hl:xs.length≤1048576)
 (hF: ∀(n i:Nat) (s:List α) (h:i<xs.length),s.length=xs.length→F (n+1) (i:Int) s=F n (IntKind.i64.wrap ((i:Int)+1)) (s.set i xs[i])) (hE: ∀(n i:Nat) (s:List α),xs.length≤i→F (n+1) (i:Int) s=k s):
 ∀(n i:Nat),i≤xs.length→xs.length - i<n→F n (i:Int) (qex xs d i)=k xs
 | 0,_,_,h=>by omega
 | n+1,i,hi,h=>by
   by_cases hlt:i<xs.length
   ·rw [hF n i _ hlt (qXJ hi),qhW hlt hl]
    have:(qex xs d i).set i xs[i]=qex xs d (i+1):=by
     have:=qWf (d:=d) (d':=d) hlt
     rwa [List.getElem?_eq_getElem hlt,Option.getD_some]at this
    rw [this]
    exact qHo d hl hF hE n (i+1) (by omega) (by omega)
   ·rw [hE n i _ (by omega),qOC (by omega)]
theorem qjJ {F:Nat→Int→List α→Option ρ} {xs:List α} {k:List α→Option ρ} (d:α) (hl:xs.length≤1048576)
 (hF: ∀(n i:Nat) (s:List α) (h:i<xs.length),s.length=xs.length→F (n+1) (i:Int) s=F n (IntKind.i64.wrap ((i:Int)+1)) (s.set i xs[i])) (hE: ∀(n i:Nat) (s:List α),xs.length≤i→F (n+1) (i:Int) s=k s) (n:Nat) (hn:xs.length<n):
 F n 0 (List.replicate xs.length d)=k xs:=by
 have:=qHo d hl hF hE n 0 (by omega) (by omega)
 rw [←qOP]at this
 simpa using this
theorem qIv {f:α→α→Bool}: ∀(xs ys:List α),xs.length=ys.length→eqL f xs ys=(xs.zip ys).all fun p=>f p.1 p.2
 | [],[],_=>rfl
 | [],_::_,h=>by simp at h
 | _::_,[],h=>by simp at h
 | x::xs,y::ys,h=>by simp [eqL,qIv xs ys (by simpa using h)]
theorem qm6 {f:α→α→Bool} {xs ys:List α} (hl:xs.length≤1048576) (he:xs.length=ys.length) {F:Nat→Int→Option ρ} {k:Unit→Option ρ} {r:Option ρ}
 (hF: ∀(n i:Nat) (h:i<xs.length) (h':i<ys.length),F (n+1) (i:Int)=bif f xs[i] ys[i]then F n (IntKind.i64.wrap ((i:Int)+1))else r) (hE: ∀(n i:Nat),xs.length≤i→F (n+1) (i:Int)=k ()) (n:Nat) (hn:xs.length<n):
 F n 0=bif eqL f xs ys then k ()else r:=by
 rw [qIv xs ys he]
 have hz:(xs.zip ys).length=xs.length:=by simp [he]
 refine (qbA (F:=fun n i (_:Unit)=>F n i) (xs:=xs.zip ys) (step:=fun _ p _ K=>bif f p.1 p.2 then K ()else r) (k:=k) (by omega) (fun n i s hi=> ?_) (fun n i s hi=> ?_) n () (by omega)).trans (qes _ 0)
 ·rw [hF n i (by omega) (by omega)]
  simp
 ·exact hE n i (by omega)
theorem quZ {a b:Ty} {x:Val a} {y:Val b} {n:Int} (h:szV a x n<0):szV (.pair a b) (x,y) n= -1:=qIY (v:=(x,y)) h
theorem qrW {a b:Ty} {x:Val a} {y:Val b} {n:Int} (h:0≤szV a x n):szV (.pair a b) (x,y) n=szV b y (szV a x n):=qI4 (v:=(x,y)) h
theorem qiF {k:IntKind} {b:Ty} {x:Int} {y:Val b} {n:Int} (h:0≤n):szV (.pair (.int k) b) (x,y) n=szV b y n:=qI4 (a:= .int k) (v:=(x,y)) h
theorem qqF {b:Ty} {x:ByteArray} {y:Val b} {n:Int} (h:n - (x.size:Int)<0):szV (.pair .str b) (x,y) n= -1:=qIY (a:= .str) (v:=(x,y)) (by rw [qMJ h];decide)
theorem qqX {b:Ty} {x:ByteArray} {y:Val b} {n:Int} (h:0≤n - (x.size:Int)):szV (.pair .str b) (x,y) n=szV b y (n - x.size):=by
 rw [qrW (a:= .str) (by rw [qJ4 h];exact h),qJ4 h]
theorem qii {b:Bool}:(bif b then some (true,())else some (false,()):Option (Bool×Unit))=some (b,()):=by cases b<;>rfl
theorem qBs {b:Bool} {x y:ρ} (h:b=true):(bif b then x else y)=x:=by rw [h];rfl
theorem eqS {e:Nat} {t:Ty} {x y:List (Val t)}:eqV (.slice e t) x y=eqL (eqV t) x y:=rfl
theorem qfz {n:Int} {k:Nat} (h0:0≤n) (h1:n≤1048576) (hk:k≤maxLen):IntKind.i64.wrap (n - (k:Int))=n - k:=qax (by simp only [maxLen]at hk;omega) (by omega)
theorem qoH {α:Type} {xs:List α} {i:Nat} {x d:α} (h:i<xs.length):(xs.set (Int.toNat (i:Int)) x).getD (Int.toNat (i:Int)) d=x:=by simp [List.getD,h]
theorem qiv {k:Nat} (h:k≤1048576):(0:Int)≤(k:Int)∧(k:Int)≤(k:Int)∧(k:Int)≤1048576:=by omega
end Go.T
/- T: calls that write into an argument's own rows. -/
namespace Go.T
open Go
structure Gm where
 t:TI
 pre:Val t.ty→Int→Prop
 fv:Val t.ty→Int→Val t.ty
 fk:Val t.ty→Int→Int
structure SoundM (P:Program) (f:FuncId) (g:Gm):Prop where
 enters:qfM P f
 runs: ∀(x:Val g.t.ty) (n:Int),g.pre x n→ ∀(w:World) (cs:List Value) (B:List Nat) (u:Value),M w g.t.ty x cs B→B.Nodup→qav g.t.agg cs u→
  Calls P f #[u,.int .i64 n] w fun e w'=>e= .returned (.int .i64 (g.fk x n))∧Fr (fun b=>b∈B) w w'∧ ∃B',M w' g.t.ty (g.fv x n) cs B'∧B'.Nodup∧ ∀b∈B',b∈B∨w.heap.size≤b
def qcT (h:List Blk):List Nat→List Blk→List Blk
 | id::ids,b::bs=>qcT (h.set id b) ids bs
 | _,_=>h
def qfl:List LC→Bool
 | []=>true
 | .nils::_=>false
 | _::r=>qfl r
def qp5 (g:Gm) (x y:LV) (d:Option Tmp) (st:St):Res:=match y with
 | .one (.int .i64 n)=>if x.isAgg=some g.t.agg∧qfl x.cells=true∧qah st.heap x.cells=true∧qct (qk x.cells)=true then match qu st.heap g.t.ty x.cells with
    | some (v,[])=>some (g.pre v n,St.put ⟨st.env.map (LV.clamp (los st.heap st.heap.length (qk x.cells))),qcT (st.heap.map (Blk.clamp (los st.heap st.heap.length (qk x.cells)))) (qk x.cells) (qF 0 g.t.ty (g.fv v n)).2⟩ d (.one (.int .i64 (g.fk v n))))
    | _=>none
   else none
 | _=>none
theorem qIe (h:List Blk) (bs:List Blk):qcT h [] bs=h:=by cases bs<;>rfl
theorem qI8: ∀(ids:List Nat) (bs h:List Blk),(qcT h ids bs).length=h.length
 | [],_,_=>by rw [qIe]
 | _::_,[],_=>rfl
 | id::ids,b::bs,h=>by rw [qcT,qI8 ids bs];simp
theorem qqS: ∀(ids:List Nat) (bs h:List Blk) (i:Nat),i∉ids→(qcT h ids bs)[i]?=h[i]?
 | [],_,_,_,_=>by rw [qIe]
 | _::_,[],_,_,_=>rfl
 | id::ids,b::bs,h,i,hi=>by
   have hne:id≠i:=fun e=>hi (by rw [e];exact List.mem_cons_self)
   rw [qcT,qqS ids bs _ i (fun hm=>hi (List.mem_cons_of_mem _ hm)),List.getElem?_set_ne hne]
theorem qFO: ∀(ids:List Nat) (bs h:List Blk),ids.Nodup→ids.length=bs.length→(∀i∈ids,i<h.length)→ ∀(k:Nat) (id:Nat),ids[k]?=some id→(qcT h ids bs)[id]?=bs[k]?
 | [],_,_,_,_,_,k,id,hk=>by simp at hk
 | _::_,[],_,_,hl,_,_,_,_=>by simp at hl
 | i::ids,b::bs,h,hn,hl,hlt,k,id,hk=>by
   obtain ⟨h1,h2⟩:=List.nodup_cons.1 hn
   rw [qcT]
   cases k with
   | zero=>
     simp at hk;subst hk
     rw [qqS ids bs _ i h1,List.getElem?_set_self (hlt i List.mem_cons_self)]
     rfl
   | succ k=>
     have:=qFO ids bs (h.set i b) h2 (by simpa using hl) (fun j hj=>by simpa using hlt j (List.mem_cons_of_mem _ hj)) k id (by simpa using hk)
     simpa using this
section
variable {P : Program} {w0 w w' : World} {mine : Mine} {m m' : Mp} {h : List Blk} {st : St} {a : Act} {o : Oper} {next : Act → World → Prop} {Q : Exit → Act → World → Prop}
theorem qLS {a b:List LC}:qfl (a++b)=(qfl a&&qfl b):=by
 induction a with
 | nil=>rfl
 | cons c r ih=>cases c<;>simp [qfl,ih]
theorem qxn: ∀(base:Nat) (t:Ty) (y:Val t),(qF base t y).1.length=t.sz
 | _,.int _,_ | _,.bool,_ | _,.str,_ | _,.hdr,_ | _,.slice _ _,_=>rfl
 | base,.pair a b,y=>by
   simp only [qF,List.length_append,Ty.sz]
   rw [qxn base a y.1,qxn _ b y.2]
theorem qxy {base0:Nat} {rl:List qy}: ∀{t:Ty} {lcs:List LC} {v:Val t} {rest:List LC},qu h t lcs=some (v,rest)→qah h lcs=true→qfl lcs=true→
 ∃pre,lcs=pre++rest∧pre.length=t.sz∧ ∀(y:Val t) (off:Nat) (us:List Value),F2 (C w m h) pre us→F2 (qco base0 rl) (qF (base0+off) t y).1 us→
  (qk pre).length=(qF (base0+off) t y).2.length∧ ∀k id,(qk pre)[k]?=some id→(∃(e:Nat) (t':Ty) (xs ys:List (Val t')) (dp mt:Bool) (n:Nat),h[id]?=some (.row e t' xs dp mt n)∧(qF (base0+off) t y).2[k]?=some (.row e t' ys true true 0))∧ ∃r,rl[off+k]?=some r∧r.1=m.val id
 | .int k,lcs,v,rest,hi,_,_=>by
   cases lcs with
   | nil=>simp [qu]at hi
   | cons c r=>
     cases c<;>simp [qu]at hi
     obtain ⟨_,_,rfl⟩:=hi
     exact ⟨[_],rfl,rfl,fun y off us _ _=>⟨rfl,fun k id hk=>by have hk:([]:List Nat)[k]?=some id:=hk;simp at hk⟩⟩
 | .bool,lcs,v,rest,hi,_,_=>by
   cases lcs with
   | nil=>simp [qu]at hi
   | cons c r=>
     cases c<;>simp [qu]at hi
     obtain ⟨_,rfl⟩:=hi
     exact ⟨[_],rfl,rfl,fun y off us _ _=>⟨rfl,fun k id hk=>by have hk:([]:List Nat)[k]?=some id:=hk;simp at hk⟩⟩
 | .str,lcs,v,rest,hi,_,_=>by
   cases lcs with
   | nil=>simp [qu]at hi
   | cons c r=>
     cases c<;>simp [qu]at hi
     obtain ⟨_,rfl⟩:=hi
     exact ⟨[_],rfl,rfl,fun y off us _ _=>⟨rfl,fun k id hk=>by have hk:([]:List Nat)[k]?=some id:=hk;simp at hk⟩⟩
 | .hdr,lcs,v,rest,hi,_,_=>by
   cases lcs with
   | nil=>simp [qu]at hi
   | cons c r=>
     cases c<;>simp [qu]at hi
     obtain ⟨_,rfl⟩:=hi
     exact ⟨[_],rfl,rfl,fun y off us _ _=>⟨rfl,fun k id hk=>by have hk:([]:List Nat)[k]?=some id:=hk;simp at hk⟩⟩
 | .slice e t,lcs,v,rest,hi,hd,hn=>by
   cases lcs with
   | nil=>simp [qu]at hi
   | cons c r=>
     cases c<;>simp only [qu]at hi<;>try (simp at hi;done)
     ·simp [qah,LC.deep]at hd
     ·simp [qfl]at hn
     ·rename_i id
      split at hi
      ·rename_i e' t' xs dp mt n hid
       split at hi
       ·rename_i he
        cases hi
        refine ⟨[.own id],rfl,rfl,fun y off us hf hc=>⟨rfl,fun k id' hk=> ?_⟩⟩
        cases k with
        | succ k=>simp [qk,LC.movedId]at hk
        | zero=>
          simp [qk,LC.movedId]at hk
          subst hk
          obtain ⟨rfl,rfl⟩:=he
          refine ⟨⟨_,_,_,_,_,_,_,hid,rfl⟩,?_⟩
          cases hf with
          | cons h1 h2=>
            cases hc with
            | cons h3 h4=>
              obtain ⟨j,r,hj,hr,rfl⟩:=h3
              simp only [C,hid]at h1
              have:off+0=j:=by omega
              exact ⟨r,by rw [this];exact hr,h1⟩
       ·simp at hi
      ·simp at hi
 | .pair a b,lcs,v,rest,hi,hd,hn=>by
   simp only [qu]at hi
   split at hi
   ·rename_i x cs1 h1
    split at hi
    ·rename_i y2 cs2 h2
     cases hi
     obtain ⟨p1,rfl,e3,f1⟩:=qxy h1 hd hn
     have hd2:qah h cs1=true:=by
         simp only [qah,List.all_append,Bool.and_eq_true]at hd;exact hd.2
     have hn2:qfl cs1=true:=by
         rw [qLS,Bool.and_eq_true]at hn;exact hn.2
     obtain ⟨p2,rfl,e4,f2⟩:=qxy h2 hd2 hn2
     refine ⟨p1++p2,by simp,by simp [e3,e4,Ty.sz],fun y off us hf hc=> ?_⟩
     obtain ⟨u1,u2,rfl,g1,g2⟩:=hf.split
     have hlen:=g1.len
     obtain ⟨v1,v2,hv,c1,c2⟩:=hc.split
     have hl1:v1.length=u1.length:=by
         have e1:=c1.len
         have e2:(qF (base0+off) a y.1).1.length=a.sz:=qxn _ _ _
         omega
     obtain ⟨rfl,rfl⟩:=List.append_inj hv hl1.symm
     obtain ⟨l1,k1⟩:=f1 y.1 off u1 g1 c1
     have c2':F2 (qco base0 rl) (qF (base0+(off+(qF (base0+off) a y.1).2.length)) b y.2).1 u2:=by rw [←Nat.add_assoc];exact c2
     obtain ⟨l2,k2⟩:=f2 y.2 _ u2 g2 c2'
     refine ⟨?_,fun k id hk=> ?_⟩
     ·rw [qoK,List.length_append,l1,l2]
      simp only [qF,List.length_append,Nat.add_assoc]
     ·rw [qoK]at hk
      by_cases hlt:k<(qk p1).length
      ·rw [List.getElem?_append_left hlt]at hk
       obtain ⟨⟨e,t',xs,ys,dp,mt,n,g1,g2⟩,g3⟩:=k1 k id hk
       refine ⟨⟨e,t',xs,ys,dp,mt,n,g1,?_⟩,g3⟩
       simp only [qF]
       rw [List.getElem?_append_left (by omega)]
       exact g2
      ·rw [List.getElem?_append_right (by omega)]at hk
       obtain ⟨⟨e,t',xs,ys,dp,mt,n,g1,g2⟩,r,hr,e'⟩:=k2 _ id hk
       refine ⟨⟨e,t',xs,ys,dp,mt,n,g1,?_⟩,r,?_,e'⟩
       ·simp only [qF]
        rw [List.getElem?_append_right (by omega)]
        rw [←l1]at g2 ⊢
        rw [Nat.add_assoc]
        exact g2
       ·rw [←hr];congr 1;omega
    ·simp at hi
   ·simp at hi
theorem qHV: ∀{l:List Nat} {j k id:Nat},l.Nodup→l[k]?=some id→qaI l j id=some (j+k)
 | [],_,_,_,_,h=>by simp at h
 | x::r,j,k,id,hn,h=>by
   obtain ⟨h1,h2⟩:=List.nodup_cons.1 hn
   simp only [qaI]
   cases k with
   | zero=>simp at h;simp [h]
   | succ k=>
     have hk:r[k]?=some id:=by simpa using h
     have hne: ¬x=id:=fun e=>h1 (e▸List.mem_of_getElem? hk)
     rw [if_neg hne,qHV h2 hk]
     congr 1;omega
theorem qHv: ∀{l:List Nat} {j id:Nat},id∉l→qaI l j id=none
 | [],_,_,_=>rfl
 | x::r,j,id,h=>by
   simp only [qaI]
   rw [if_neg (fun e=>h (by rw [e];exact List.mem_cons_self)),qHv fun hm=>h (List.mem_cons_of_mem _ hm)]
def Mp.marks (m:Mp) (ids:List Nat) (rl:List qy):Mp:={m with nst:=fun i=>match qaI ids 0 i with
 | some k=>(rl.getD k (undef,[])).2
 | none=>m.nst i}
theorem qOh (H:HR w0 mine w m h) {ids:List Nat} (hn:ids.Nodup) {bl:List Blk} {rl:List qy} (hlen:ids.length=bl.length)
 (hrow: ∀(k id:Nat),ids[k]?=some id→ ∃(e:Nat) (t:Ty) (xs ys:List (Val t)) (mt:Bool) (n:Nat),h[id]?=some (.row e t xs true mt n)∧bl[k]?=some (.row e t ys true true 0))
 (hf:F2 (qcn w') bl rl) (hBn:(rl.flatMap qy.fp).Nodup) (hBm: ∀b∈rl.flatMap qy.fp,b∈qB m h ids∨w.heap.size≤b) (hval: ∀(k id:Nat),ids[k]?=some id→ ∃r,rl[k]?=some r∧r.1=m.val id) (hfr:Fr (fun b=>b∈qB m h ids) w w'):
 HR w0 mine w' (m.marks ids rl) (qcT (h.map (Blk.clamp (los h h.length ids))) ids bl)∧Keeps w w' m (m.marks ids rl) h (qcT (h.map (Blk.clamp (los h h.length ids))) ids bl) (los h h.length ids):=by
 have hids: ∀id∈ids,∃k,ids[k]?=some id:=fun id hid=>List.getElem?_of_mem hid
 have hidl: ∀id∈ids,id<h.length:=fun id hid=>by
  obtain ⟨k,hk⟩:=hids id hid
  obtain ⟨_,_,_,_,_,_,h1,_⟩:=hrow k id hk
  exact (List.getElem?_eq_some_iff.1 h1).1
 have nin: ∀(k id:Nat),ids[k]?=some id→ ∃r:qy,rl[k]?=some r∧r.1=m.val id∧(m.marks ids rl).nst id=r.2:=fun k id hk=>by
  obtain ⟨r,hr,e⟩:=hval k id hk
  refine ⟨r,hr,e,?_⟩
  have e2:qaI ids 0 id=some k:=by rw [qHV hn hk,Nat.zero_add]
  simp only [Mp.marks,e2,List.getD,hr,Option.getD_some]
 have nout: ∀id,id∉ids→(m.marks ids rl).nst id=m.nst id:=fun id hid=>by simp only [Mp.marks,qHv hid]
 have hmem: ∀{k:Nat} {r:qy},rl[k]?=some r→ ∀b∈r.fp,b∈qB m h ids∨w.heap.size≤b:=fun hk b hb=>hBm b (List.mem_flatMap.2 ⟨_,List.mem_of_getElem? hk,hb⟩)
 have get: ∀i y,(qcT (h.map (Blk.clamp (los h h.length ids))) ids bl)[i]?=some y→(∃k e t ys r,ids[k]?=some i∧y= .row e t ys true true 0∧rl[k]?=some r∧r.1=m.val i∧(m.marks ids rl).nst i=r.2∧qcn w' y r)∨(i∉ids∧ ∃x,h[i]?=some x∧y=x.clamp (los h h.length ids)):=fun i y hy=>by
  by_cases hi:i∈ids
  ·obtain ⟨k,hk⟩:=hids i hi
   rw [qFO ids bl _ hn hlen (fun j hj=>by simpa using hidl j hj) k i hk]at hy
   obtain ⟨e,t,xs,ys,mt,n,h1,h2⟩:=hrow k i hk
   rw [hy]at h2;cases h2
   obtain ⟨r,hr,e1,e2⟩:=nin k i hk
   obtain ⟨r',hr',hok⟩:=hf.get hy
   rw [hr]at hr';cases hr'
   exact .inl ⟨k,e,t,ys,r,hk,rfl,hr,e1,e2,hok⟩
  ·rw [qqS ids bl _ i hi,List.getElem?_map]at hy
   cases hx:h[i]? with
   | none=>rw [hx]at hy;simp at hy
   | some x=>rw [hx]at hy;simp at hy;exact .inr ⟨hi,x,rfl,hy.symm⟩
 have fpin: ∀i e t ys r,(m.marks ids rl).nst i=r.2→r.1=m.val i→fpB (m.marks ids rl) i (.row e t ys true true 0)=qy.fp r:=fun i e t ys r h1 h2=>by
  simp only [fpB,qy.fp,h1,h2];rfl
 have fpout: ∀i x,i∉ids→ ∀b,b∈fpB (m.marks ids rl) i (x.clamp (los h h.length ids))→b∈fpB m i x:=fun i x hi b hb=>by
  cases x with
  | dead=>exact hb
  | box cs=>exact hb
  | nst F t hs vs=>exact hb
  | row e t xs dp mt n=>
    cases dp with
    | true=>
      have hb:b∈(m.val i).ownBlock.toList++(m.marks ids rl).nst i:=hb
      rw [nout i hi]at hb;exact hb
    | false=>
      simp only [Blk.clamp]at hb
      split at hb
      ·exact hb
      ·simp [fpB]at hb
 have notB: ∀i x,i∉ids→h[i]?=some x→ ∀b∈fpB m i x,b∉qB m h ids:=fun i x hi hx b hb hB'=>by
  obtain ⟨id,y,hid,hy,hb'⟩:=qcI hB'
  exact H.dj i x id y (fun e=>hi (e▸hid)) hx hy b hb hb'
 have same: ∀i x,i∉ids→h[i]?=some x→ ∀b∈fpB m i x,w'.heap[b]?=w.heap[b]?:=fun i x hi hx b hb=>hfr.block b (H.lt i x hx b hb).1 (notB i x hi hx b hb)
 have K:Keeps w w' m (m.marks ids rl) h (qcT (h.map (Blk.clamp (los h h.length ids))) ids bl) (los h h.length ids):=by
  refine ⟨fun n b hle hb hl=> ?_,fun id x hx=> ?_⟩
  ·have hnb:=qhZ hb hle
   refine ⟨hfr.block b hl hnb,hb.1,fun i y hy=> ?_⟩
   rcases get i y hy with ⟨k,e,t,ys,r,hk,rfl,hr,e1,e2,_⟩ | ⟨hi,x,hx,rfl⟩
   ·have hno:b∉r.fp:=fun hm=>by
     rcases hmem hr b hm with h1 | h1
     ·exact hnb h1
     ·omega
    refine ⟨fun _ ho=>hno ?_,fun _ _ hm=>hno ?_⟩
    ·have ho:(m.val i).ownBlock=some b:=ho
     simp only [qy.fp,e1,ho];simp
    ·rw [e2]at hm;simp only [qy.fp];exact List.mem_append_right _ hm
   ·have:=hb.2 i x hx
    cases x with
    | dead=>trivial
    | box cs=>exact this
    | nst F t hs vs=>exact this
    | row e t xs dp mt k=>
      cases dp with
      | true=>
        refine ⟨this.1,fun h1 h2=> ?_⟩
        rw [nout i hi];exact this.2 h1 h2
      | false=>
        simp only [Blk.clamp]
        split
        ·exact ⟨this.1,fun h=>by simp at h⟩
        ·trivial
  ·by_cases hi:id∈ids
   ·obtain ⟨k,hk⟩:=hids id hi
    obtain ⟨e,t,xs,ys,mt,n,h1,h2⟩:=hrow k id hk
    rw [hx]at h1;cases h1
    refine ⟨.row e t ys true true 0,(by rw [qFO ids bl _ hn hlen (fun j hj=>by simpa using hidl j hj) k id hk];exact h2),rfl,rfl⟩
   ·refine ⟨x.clamp (los h h.length ids),by rw [qqS ids bl _ id hi,List.getElem?_map,hx];rfl,?_⟩
    have hb:=H.br id x hx
    cases x with
    | dead=>trivial
    | box cs=>rfl
    | nst F t hs vs=>trivial
    | row e t xs dp mt k=>
      cases dp with
      | true=>exact ⟨rfl,rfl⟩
      | false=>
        simp only [Blk.clamp]
        split
        ·exact ⟨rfl,rfl⟩
        ·exact BR.rowOne hb
 refine ⟨⟨fun i y hy=> ?_,fun i y hy=> ?_,fun i y i' y' hne hy hy' b hb hb'=> ?_,fun i y hy b hb=> ?_,?_,H.mx,H.nx,fun i v hp=> ?_⟩,K⟩
 ·rcases get i y hy with ⟨k,e,t,ys,r,hk,rfl,hr,e1,e2,hok⟩ | ⟨hi,x,hx,rfl⟩
  ·obtain ⟨e',t',xs',inner,hy',ho,hm⟩:=hok
   cases hy'
   refine ⟨inner,?_,?_,Nat.zero_le _⟩
   ·have:(m.marks ids rl).val i=r.1:=e1.symm
    rw [this];exact ho
   ·rw [e2];exact hm
  ·have hb:=H.br i x hx
   have sm:=same i x hi hx
   cases x with
   | dead=>trivial
   | box cs=>
     obtain ⟨arr,ty,h1,h2,h3⟩:=hb
     refine ⟨arr,ty,(sm (m.blk i) (by simp [fpB])).trans h1,?_,h3⟩
     exact qxu K h2
   | nst F t hs vs=>exact qiS hb sm
   | row e t xs dp mt k=>
     obtain ⟨inner,h1,h2⟩:=hb
     have ho:=qpu h1 fun b hv=>sm b (by simp [fpB,hv])
     cases dp with
     | true=>
       refine ⟨inner,ho,?_,h2.2⟩
       rw [nout i hi]
       exact h2.1.imp fun x c b hk hx=>qeq hx fun k' hk'=>sm k' (by simp only [fpB];exact List.mem_append_right _ (hk k' hk'))
     | false=>
       simp only [Blk.clamp]
       split
       ·rename_i hle
        exact ⟨inner,ho,h2.imp fun x c hk=>qaE (fun b hb hlt=>(K.ok k b hle hb hlt).1) (fun b hb hlt=>(K.ok k b hle hb hlt).2) hk⟩
       ·trivial
 ·rcases get i y hy with ⟨k,e,t,ys,r,hk,rfl,hr,e1,e2,hok⟩ | ⟨hi,x,hx,rfl⟩
  ·rw [fpin i e t ys r e2 e1]
   exact qgQ hBn hr
  ·have:=H.nd i x hx
   cases x with
   | dead=>exact this
   | box cs=>exact this
   | nst F t hs vs=>exact this
   | row e t xs dp mt n=>
     cases dp with
     | true=>
       have e:fpB (m.marks ids rl) i ((Blk.row e t xs true mt n).clamp (los h h.length ids))=fpB m i (.row e t xs true mt n):=by
         show (m.val i).ownBlock.toList++(m.marks ids rl).nst i=_
         rw [nout i hi];rfl
       rw [e];exact this
     | false=>
       simp only [Blk.clamp]
       split
       ·exact this
       ·exact List.nodup_nil
 ·rcases get i y hy with ⟨k,e,t,ys,r,hk,rfl,hr,e1,e2,hok⟩ | ⟨hi,x,hx,rfl⟩
  ·rw [fpin i e t ys r e2 e1]at hb
   rcases get i' y' hy' with ⟨k',e',t',ys',r',hk',rfl,hr',e1',e2',hok'⟩ | ⟨hi',x',hx',rfl⟩
   ·rw [fpin i' e' t' ys' r' e2' e1']at hb'
    refine qhT hBn (fun ek=>hne ?_) hr hr' b hb hb'
    subst ek
    rw [hk]at hk';cases hk';rfl
   ·have hb2:=fpout i' x' hi' b hb'
    rcases hmem hr b hb with h1 | h1
    ·exact notB i' x' hi' hx' b hb2 h1
    ·have:=(H.lt i' x' hx' b hb2).1
     omega
  ·rcases get i' y' hy' with ⟨k',e',t',ys',r',hk',rfl,hr',e1',e2',hok'⟩ | ⟨hi',x',hx',rfl⟩
   ·rw [fpin i' e' t' ys' r' e2' e1']at hb'
    have hb2:=fpout i x hi b hb
    rcases hmem hr' b hb' with h1 | h1
    ·exact notB i x hi hx b hb2 h1
    ·have:=(H.lt i x hx b hb2).1
     omega
   ·exact H.dj i x i' x' hne hx hx' b (fpout i x hi b hb) (fpout i' x' hi' b hb')
 ·rcases get i y hy with ⟨k,e,t,ys,r,hk,rfl,hr,e1,e2,hok⟩ | ⟨hi,x,hx,rfl⟩
  ·rw [fpin i e t ys r e2 e1]at hb
   rcases hmem hr b hb with h1 | h1
   ·obtain ⟨id,z,hid,hz,hb2⟩:=qcI h1
    have:=H.lt id z hz b hb2
    exact ⟨Nat.lt_of_lt_of_le this.1 hfr.size,this.2⟩
   ·refine ⟨?_,.inl (Nat.le_trans H.fr.size h1)⟩
    obtain ⟨e',t',xs',inner,hy',ho,hm⟩:=hok
    rcases List.mem_append.1 hb with hb | hb
    ·exact (ho.lt b (by simpa using hb)).2
    ·exact qm1 (fun x c b hx=>qeT hx) hm b hb
  ·have:=H.lt i x hx b (fpout i x hi b hb)
   exact ⟨Nat.lt_of_lt_of_le this.1 hfr.size,this.2⟩
 ·refine H.fr.trans hfr fun k hk=> ?_
  obtain ⟨id,z,hid,hz,hb2⟩:=qcI hk
  exact (H.lt id z hz k hb2).2
 ·obtain ⟨h1,h2⟩:=H.pn i v hp
  exact ⟨by rw [qI8];simpa using h1,h2⟩
end
end Go.T
/- T: calls that mark own rows; those that mark rows held by elements. -/
namespace Go.T
open Go
section
variable {P : Program} {w0 w w' : World} {mine : Mine} {m m' : Mp} {h : List Blk} {st : St} {a : Act} {o : Oper} {next : Act → World → Prop} {Q : Exit → Act → World → Prop}
theorem qRS {cs:List LC} {v:Value} (hd:qah h cs=true) {id:Nat} (hid:id∈qk cs) {e:Nat} {t:Ty} {xs:List (Val t)} {dp mt:Bool} {n:Nat} (hx:h[id]?=some (.row e t xs dp mt n)):dp=true:=by
 simp only [qk,List.mem_filterMap]at hid
 obtain ⟨c,hc,he⟩:=hid
 cases c<;>simp only [LC.movedId,Option.some.injEq,reduceCtorEq]at he
 subst he
 have:=List.all_eq_true.1 hd _ hc
 simp only [LC.deep,hx]at this
 exact this
theorem qMy {f:FuncId} {g:Gm} (S:SoundM P f g) {c:Call} {x y:Operand} (ho:o.op= .call c) (hc:c.callee= .value (.func f)) (hargs:c.args= #[x,y]) {p:Prop} {st':St} (hs:qp5 g (st.ev x) (st.ev y) o.dst st=some (p,st')) (hp:p)
 (hr:R w0 mine st a w) (hn: ∀a' w',R w0 mine st' a' w'→next a' w'):o.wp P a w next Q:=by
 obtain ⟨hd,m,H,he⟩:=hr
 have hx:=R.ev H he x
 have hy:=R.ev H he y
 unfold qp5 at hs
 split at hs
 ·rename_i n ey
  rw [ey]at hy
  have hyv:a.eval y= .int .i64 n:=hy
  split at hs
  ·rename_i hcond
   obtain ⟨hag,hnn,hdeep,hnd⟩:=hcond
   split at hs
   ·rename_i v hi
    cases hs
    -- the argument's cells
    obtain ⟨us,hf,hwr⟩: ∃us,F2 (C w m st.heap) (st.ev x).cells us∧qav g.t.agg us (a.eval x):=by
     revert hx hag
     cases st.ev x with
     | tup=>intro _ h;simp [LV.isAgg]at h
     | one c'=>
       intro hx h
       simp only [LV.isAgg,Option.some.injEq]at h
       exact ⟨[a.eval x],.cons hx .nil,by rw [←h];rfl⟩
     | agg cs=>
       intro hx h
       simp only [LV.isAgg,Option.some.injEq]at h
       obtain ⟨vs,hv,hf⟩:=hx
       exact ⟨vs.toList,hf,by rw [←h,hv];simp [qav]⟩
    obtain ⟨v1,v2,pre,hus,hpre,hM,hrest⟩:=qeR H.br hf hi hdeep
    cases hrest
    rw [List.append_nil]at hus hpre
    subst hus
    rw [←hpre]at hM
    have hids:=qfD hnd
    have hB:=qfS H hids
    unfold Oper.wp
    rw [qme ho hc S.enters,Oper.upon_enter]
    have hvs:c.args.map a.eval= #[a.eval x,.int .i64 n]:=by rw [hargs];simp [hyv]
    rw [hvs]
    refine Calls.mono (S.runs v n hp w us _ _ hM hB hwr) fun e w' he'=> ?_
    obtain ⟨rfl,hfr,B',hM',hBn,hBm⟩:=he'
    obtain ⟨rl,hfl,rfl,hcl⟩:=qix 0 hM'
    obtain ⟨pre',hpre',_,hal⟩:=qxy (w:=w) (m:=m) (base0:=0) (rl:=rl) hi hdeep hnn
    rw [List.append_nil]at hpre'
    subst hpre'
    obtain ⟨hlen,hal⟩:=hal (g.fv v n) 0 us hf hcl
    obtain ⟨H',K⟩:=qOh H hids hlen (fun k id hk=>by
     obtain ⟨⟨e,t',xs,ys,dp,mt,n',h1,h2⟩,_⟩:=hal k id hk
     have:=qRS (v:=undef) hdeep (List.mem_of_getElem? hk) h1
     subst this
     exact ⟨e,t',xs,ys,mt,n',h1,h2⟩) hfl hBn hBm (fun k id hk=>by
     obtain ⟨_,r,hr,e⟩:=hal k id hk
     rw [Nat.zero_add]at hr
     exact ⟨r,hr,e⟩) hfr
    refine hn _ _ ⟨by rw [qcu];exact hd,m.marks (qk (st.ev x).cells) rl,?_,?_⟩
    ·rw [St.put_heap];exact H'
    ·rw [St.put_heap,St.put_env]
     exact qea (qvc K he) o.dst rfl
   ·simp at hs
  ·simp at hs
 ·simp at hs
end
end Go.T
/- T: calls that mark rows held by elements. -/
namespace Go.T
open Go
structure Gms where
 e:Nat
 t:Ty
 pre:List (Val t)→Int→Prop
 fv:List (Val t)→Int→List (Val t)
 fk:List (Val t)→Int→Int
@[reducible] def Gms.gm (g : Gms) : Gm := { t := ⟨.slice g.e g.t, false, [], false⟩, pre := g.pre, fv := g.fv, fk := g.fk }
structure SoundMs (P:Program) (f:FuncId) (g:Gms):Prop where
 enters:qfM P f
 runs: ∀(x:List (Val g.t)) (n:Int),g.pre x n→ ∀(w:World) (B:List Nat) (u:Value),M w (.slice g.e g.t) x [u] B→B.Nodup→
  Calls P f #[u,.int .i64 n] w fun e w'=>e= .returned (.int .i64 (g.fk x n))∧Fr (fun b=>b∈B) w w'∧M w' (.slice g.e g.t) (g.fv x n) [u] B
theorem SoundMs.gm {P:Program} {f:FuncId} {g:Gms} (S:SoundMs P f g):SoundM P f g.gm:=⟨S.enters,fun x n hx w cs B u hM hB hw=>by
 have hw:cs=[u]:=hw
 subst hw
 exact Calls.mono (S.runs x n hx w B u hM hB) fun e w' h=>⟨h.1,h.2.1,B,h.2.2,hB,fun b hb=> .inl hb⟩⟩
def qcB (e':Nat) (t':Ty):(t:Ty)→Nat→Val t→Option (List (Val t'))
 | .slice e t,0,v=>if he:e=e'∧t=t' then some (he.2▸v)else none
 | .pair a b,f,v=>if f<a.sz then qcB e' t' a f v.1 else qcB e' t' b (f - a.sz) v.2
 | _,_,_=>none
def qaK (e':Nat) (t':Ty):(t:Ty)→Nat→Val t→List (Val t')→Val t
 | .slice e t,0,v,y=>if he:e=e'∧t=t' then he.2▸y else v
 | .pair a b,f,v,y=>if f<a.sz then (qaK e' t' a f v.1 y,v.2)else (v.1,qaK e' t' b (f - a.sz) v.2 y)
 | _,_,v,_=>v
def qaX:(t:Ty)→Nat→Val (hd t)→Option Value
 | .slice _ _,0,h=>some h
 | .pair a b,f,h=>if f<a.sz then qaX a f h.1 else qaX b (f - a.sz) h.2
 | _,_,_=>none
theorem qDb {e':Nat} {t':Ty} {w:World}: ∀{t:Ty} {f:Nat} {v:Val t} {h:Val (hd t)} {B:List Nat} {u:Value} {x:List (Val t')},Nst w t v h B→qaX t f h=some u→qcB e' t' t f v=some x→
 ∃B1 Bc B2,B=B1++(Bc++B2)∧M w (.slice e' t') x [u] Bc∧ ∀(w':World) (y:List (Val t')),(∀b,b∈B1∨b∈B2→w'.heap[b]?=w.heap[b]?)→M w' (.slice e' t') y [u] Bc→Nst w' t (qaK e' t' t f v y) h B
 | .int _,_,_,_,_,_,_,_,hh,_=>by simp [qaX]at hh
 | .bool,_,_,_,_,_,_,_,hh,_=>by simp [qaX]at hh
 | .str,_,_,_,_,_,_,_,hh,_=>by simp [qaX]at hh
 | .hdr,_,_,_,_,_,_,_,hh,_=>by simp [qaX]at hh
 | .slice e t,f,v,h,B,u,x,hn,hh,hs=>by
   cases f with
   | succ f=>simp [qaX]at hh
   | zero=>
     have hh:(h:Value)=u:=Option.some.inj hh
     subst hh
     simp only [qcB]at hs
     split at hs
     ·rename_i he
      obtain ⟨rfl,rfl⟩:=he
      cases hs
      exact ⟨[],B,[],by simp,hn,fun w' y _ hm=>by simp [qaK];exact hm⟩
     ·simp at hs
 | .pair a b,f,v,h,B,u,x,hn,hh,hs=>by
   obtain ⟨Ba,Bb,rfl,h1,h2⟩:=hn
   simp only [qaX]at hh
   simp only [qcB]at hs
   by_cases hf:f<a.sz
   ·rw [if_pos hf]at hh hs
    obtain ⟨B1,Bc,B2,rfl,hm,hk⟩:=qDb h1 hh hs
    refine ⟨B1,Bc,B2++Bb,by simp,hm,fun w' y hw hm'=> ?_⟩
    refine ⟨_,Bb,rfl,?_,?_⟩
    ·simp only [qaK];rw [if_pos hf]
     exact hk w' y (fun b hb=>hw b (by rcases hb with hb | hb<;>simp [hb])) hm'
    ·simp only [qaK];rw [if_pos hf]
     exact qfr h2 fun b hb=>hw b (by simp [hb])
   ·rw [if_neg hf]at hh hs
    obtain ⟨B1,Bc,B2,rfl,hm,hk⟩:=qDb h2 hh hs
    refine ⟨Ba++B1,Bc,B2,by simp,hm,fun w' y hw hm'=> ?_⟩
    refine ⟨Ba,_,rfl,?_,?_⟩
    ·simp only [qaK];rw [if_neg hf]
     exact qfr h1 fun b hb=>hw b (by simp [hb])
    ·simp only [qaK];rw [if_neg hf]
     exact hk w' y (fun b hb=>hw b (by rcases hb with hb | hb<;>simp [hb])) hm'
theorem qIA {e':Nat} {t':Ty} {w:World} {t:Ty} {f:Nat} {u:Value} {x:List (Val t')}: ∀{vs:List (Val t)} {hs:List (Val (hd t))} {B:List Nat} {i:Nat} {v:Val t} {h:Val (hd t)},qao w t vs hs B→vs[i]?=some v→hs[i]?=some h→qaX t f h=some u→qcB e' t' t f v=some x→
 ∃B1 Bc B2,B=B1++(Bc++B2)∧M w (.slice e' t') x [u] Bc∧ ∀(w':World) (y:List (Val t')),(∀b,b∈B1∨b∈B2→w'.heap[b]?=w.heap[b]?)→M w' (.slice e' t') y [u] Bc→qao w' t (vs.set i (qaK e' t' t f v y)) hs B
 | [],_,_,_,_,_,_,hv,_,_,_=>by simp at hv
 | _::_,[],_,_,_,_,hn,_,_,_,_=>hn.elim
 | v0::vs,h0::hs,B,i,v,h,hn,hv,hh,hu,hx=>by
   obtain ⟨Ba,Bb,rfl,h1,h2⟩:=hn
   cases i with
   | zero=>
     simp at hv hh
     subst hv;subst hh
     obtain ⟨B1,Bc,B2,rfl,hm,hk⟩:=qDb h1 hu hx
     refine ⟨B1,Bc,B2++Bb,by simp,hm,fun w' y hw hm'=>⟨_,Bb,rfl,hk w' y (fun b hb=>hw b (by rcases hb with hb | hb<;>simp [hb])) hm',qiS h2 fun b hb=>hw b (by simp [hb])⟩⟩
   | succ i=>
     obtain ⟨B1,Bc,B2,rfl,hm,hk⟩:=qIA h2 (by simpa using hv) (by simpa using hh) hu hx
     refine ⟨Ba++B1,Bc,B2,by simp,hm,fun w' y hw hm'=>⟨Ba,_,rfl,qfr h1 fun b hb=>hw b (by simp [hb]),hk w' y (fun b hb=>hw b (by rcases hb with hb | hb<;>simp [hb])) hm'⟩⟩
def qpC (g:Gms) (jn f:Nat) (i x y:LV) (d:Option Tmp) (st:St):Res:=match i,x,y,st.heap[jn]? with
 | .one (.int _ i),.one (.hdr u),.one (.int .i64 n),some (.nst F t hs vs)=>
   match qcB g.e g.t t f (vs.getD i.toNat (qb t)),qaX t f (hs.getD i.toNat (qb (hd t)))with
   | some xs,some u'=>some (i.toNat<vs.length∧i.toNat<hs.length∧u'=u∧g.pre xs n,
        St.put ⟨st.env,st.heap.set jn (.nst F t hs (vs.set i.toNat (qaK g.e g.t t f (vs.getD i.toNat (qb t)) (g.fv xs n))))⟩ d (.one (.int .i64 (g.fk xs n))))
   | _,_=>none
 | _,_,_,_=>none
section
variable {P : Program} {w0 w w' : World} {mine : Mine} {m m' : Mp} {h : List Blk} {st : St} {a : Act} {o : Oper} {next : Act → World → Prop} {Q : Exit → Act → World → Prop}
theorem HR.setNst (H:HR w0 mine w m h) {j:Nat} {F:List Nat} {t:Ty} {hs:List (Val (hd t))} {vs vs':List (Val t)} (hj:h[j]?=some (.nst F t hs vs)) (hfr:Fr (fun b=>b∈F) w w') (hN:qao w' t vs' hs F):
 HR w0 mine w' m (h.set j (.nst F t hs vs'))∧Oks w w' m m h (h.set j (.nst F t hs vs'))∧qac m m h (h.set j (.nst F t hs vs')):=by
 have hjl:=(List.getElem?_eq_some_iff.1 hj).1
 have get: ∀i y,(h.set j (.nst F t hs vs'))[i]?=some y→(i=j∧y= .nst F t hs vs')∨(i≠j∧h[i]?=some y):=fun i y hy=>by
  rw [List.getElem?_set]at hy
  split at hy
  ·rename_i e;subst e;simp [hjl]at hy;exact .inl ⟨rfl,hy.symm⟩
  ·rename_i e;exact .inr ⟨fun e'=>e e'.symm,hy⟩
 have old: ∀i y,(h.set j (.nst F t hs vs'))[i]?=some y→ ∃y0,h[i]?=some y0∧fpB m i y=fpB m i y0∧ ∀n b,okB m n b i y↔okB m n b i y0:=fun i y hy=>by
  rcases get i y hy with ⟨rfl,rfl⟩ | ⟨_,hy⟩
  ·exact ⟨_,hj,rfl,fun _ _=>Iff.rfl⟩
  ·exact ⟨y,hy,rfl,fun _ _=>Iff.rfl⟩
 have hok:Oks w w' m m h (h.set j (.nst F t hs vs')):=fun n b hb hl=>⟨hfr.block b hl (hb.2 j _ hj),hb.1,fun i y hy=>by
  obtain ⟨y0,h0,_,h2⟩:=old i y hy
  exact (h2 n b).2 (hb.2 i y0 h0)⟩
 have hsm:qac m m h (h.set j (.nst F t hs vs')):=fun i x hx=>by
  by_cases e:i=j
  ·subst e
   rw [hj]at hx;cases hx
   exact ⟨.nst F t hs vs',by simp [hjl],trivial⟩
  ·refine ⟨x,by rw [List.getElem?_set_ne (fun e'=>e e'.symm)];exact hx,?_⟩
   cases x<;>simp [Sim]
 refine ⟨⟨fun i y hy=> ?_,fun i y hy=> ?_,fun i y i' y' hne hy hy' b hb1 hb2=> ?_,fun i y hy b hb1=> ?_,?_,H.mx,H.nx,fun i v hp=> ?_⟩,hok,hsm⟩
 ·rcases get i y hy with ⟨rfl,rfl⟩ | ⟨hne,hy'⟩
  ·exact hN
  ·exact qeA hok hsm rfl rfl rfl (fun b hb=>hfr.block b (H.lt i y hy' b hb).1 (fun hF=>H.dj i y j _ hne hy' hj b hb hF)) (H.br i y hy')
 ·obtain ⟨y0,h0,h1,_⟩:=old i y hy
  rw [h1];exact H.nd i y0 h0
 ·obtain ⟨y0,h0,h1,_⟩:=old i y hy
  obtain ⟨y0',h0',h1',_⟩:=old i' y' hy'
  rw [h1]at hb1;rw [h1']at hb2
  exact H.dj i y0 i' y0' hne h0 h0' b hb1 hb2
 ·obtain ⟨y0,h0,h1,_⟩:=old i y hy
  rw [h1]at hb1
  have:=H.lt i y0 h0 b hb1
  exact ⟨Nat.lt_of_lt_of_le this.1 hfr.size,this.2⟩
 ·refine H.fr.trans hfr fun k hk=>(H.lt j _ hj k hk).2
 ·obtain ⟨h1,h2⟩:=H.pn i v hp
  exact ⟨by simpa using h1,h2⟩
theorem qW2 {f:FuncId} {g:Gms} (S:SoundMs P f g) {c:Call} {ix x y:Operand} {jn fo:Nat} (ho:o.op= .call c) (hc:c.callee= .value (.func f)) (hargs:c.args= #[x,y]) {p:Prop} {st':St} (hs:qpC g jn fo (st.ev ix) (st.ev x) (st.ev y) o.dst st=some (p,st')) (hp:p)
 (hr:R w0 mine st a w) (hn: ∀a' w',R w0 mine st' a' w'→next a' w'):o.wp P a w next Q:=by
 obtain ⟨hd,m,H,he⟩:=hr
 have hx:=R.ev H he x
 have hy:=R.ev H he y
 unfold qpC at hs
 split at hs
 ·rename_i k i u n F t hs' vs ei ex ey hj
  rw [ex]at hx
  rw [ey]at hy
  have hxv:a.eval x=u:=hx.1
  have hyv:a.eval y= .int .i64 n:=hy
  split at hs
  ·rename_i xs u' hgs hgh
   cases hs
   obtain ⟨hl1,hl2,rfl,hpre⟩:=hp
   have hN:qao w t vs hs' F:=H.br jn _ hj
   have hv:vs[i.toNat]?=some (vs.getD i.toNat (qb t)):=by simp [List.getD,hl1]
   have hh:hs'[i.toNat]?=some (hs'.getD i.toNat (qb (Go.T.hd t))):=by simp [List.getD,hl2]
   obtain ⟨B1,Bc,B2,rfl,hM,hk⟩:=qIA hN hv hh hgh hgs
   have hnd:(B1++(Bc++B2)).Nodup:=H.nd jn _ hj
   have hndc:Bc.Nodup:=(List.nodup_append.1 (List.nodup_append.1 hnd).2.1).1
   unfold Oper.wp
   rw [qme ho hc S.enters,Oper.upon_enter]
   have hvs:c.args.map a.eval= #[u',.int .i64 n]:=by rw [hargs];simp [hxv,hyv]
   rw [hvs]
   refine Calls.mono (S.runs xs n hpre w Bc u' hM hndc) fun e w' he'=> ?_
   obtain ⟨rfl,hfr,hM'⟩:=he'
   have hfr':Fr (fun b=>b∈B1++(Bc++B2)) w w':=⟨hfr.os,hfr.tape,hfr.output,hfr.size,fun k hk hn=>hfr.block k hk fun hm=>hn (by simp [hm]),hfr.drawn⟩
   have hN':=hk w' (g.fv xs n) (fun b hb=> ?_) hM'
   ·obtain ⟨H',hok,hsm⟩:=H.setNst hj hfr' hN'
    refine hn _ _ ⟨by rw [qcu];exact hd,m,?_,?_⟩
    ·rw [St.put_heap];exact H'
    ·rw [St.put_heap,St.put_env]
     exact qea (qaJ hok hsm he) o.dst rfl
   ·refine hfr.block b ((H.lt jn _ hj b (by show b∈B1++(Bc++B2);rcases hb with hb | hb<;>simp [hb])).1) fun hm=> ?_
    have h1:=List.nodup_append.1 hnd
    have h2:=List.nodup_append.1 h1.2.1
    rcases hb with hb | hb
    ·exact h1.2.2 b hb b (by simp [hm]) rfl
    ·exact h2.2.2 b hm b hb rfl
  ·simp at hs
 ·simp at hs
end
end Go.T
/- T: functions that mark their argument. -/
namespace Go.T
open Go
def qab (ti:TI) (ntmps:Nat) (x:Val ti.ty) (n:Int):St:={env:=[LV1.lv ⟨ti.agg,(qF 0 ti.ty x).1⟩,.one (.int .i64 n)]++List.replicate (ntmps - 2) (.tup []),heap:=(qF 0 ti.ty x).2}
def qrM (h:List Blk) (id:Nat):Bool:=match h[id]? with
 | some (.row ..)=>true
 | _=>false
def qgU (tt:TT) (t:Ty) (cells:List LC) (rvs:List ResultVar) (st:St):Option (Val t×Int):=match qed tt st rvs with
 | some [.one (.int .i64 k)]=>match qu st.heap t cells with
   | some (y,[])=>bif qah st.heap cells&&qct (qk cells)&&(qk cells).all (qrM st.heap)then some (y,k)else none
   | _=>none
 | _=>none
def qx0 (e:Nat) (t:Ty) (ntmps:Nat) (F:List Nat) (hs:List (Val (hd t))) (xs:List (Val t)) (n:Int):St:={env:=[.one (.own 0),.one (.int .i64 n)]++List.replicate (ntmps - 2) (.tup []),heap:=[.row e (hd t) hs true true 0,.nst F t hs xs]}
noncomputable def qei (tt:TT) (e:Nat) (t th:Ty) (F:List Nat) (hs:List (Val (hd t))) (rvs:List ResultVar) (st:St):Option (List (Val th)×List (Val t)×Int):=match qed tt st rvs with
 | some [.one (.int .i64 k)]=>match st.heap[0]?,st.heap[1]? with
   | some (Blk.row e' t' ys true _ _),some (Blk.nst F' t'' hs' vs)=>if hc:e'=e∧t'=th∧t''=t then chk (F'=F∧hc.2.2▸hs'=hs) (some (hc.2.1▸ys,hc.2.2▸vs,k))else none
   | _,_=>none
 | _=>none
def qet {ρ:Type} (r:St→Option ρ):X→St→Option ρ
 | .normal,st=>r st
 | .ret,st=>r st
 | .exit _,_=>none
section
variable {P : Program} {tt : TT} {Γ : Gam} {w0 w w' : World} {mine : Mine} {m m' : Mp} {h : List Blk} {st : St} {a : Act}
theorem qIV (hT:qP P tt) (hr:R w0 mine st a w) {fn:Func} {k:Int} (hres:qed tt st fn.results.toList=some [.one (.int .i64 k)]):(results fn a.tmps).run P w= .ok (.int .i64 k) w:=by
 obtain ⟨hd,m,H,he⟩:=hr
 obtain ⟨vs,hrun,hV⟩:=qsB hT H he hres
 have:=qzQ fn hrun
 cases hV with
 | cons h1 h2=>
   cases h2
   have h1:_=Value.int .i64 k:=h1
   rw [h1]at this
   exact this
theorem qN0 (hT : qP P tt) (hΓ : ∀ f g, Γ.get f = some g → Sound P f g) (hm : P.follows .mixedOrders = true) {f : FuncId} {fn : Func} {c : Code} {g : Gm} (hf : P.funcs[f]? = some fn) (hb : fn.body = some c) (hname : (fn.name == "runtime.NumGoroutine") = false)
 (hrun: ∀(x:Val g.t.ty) (n:Int),g.pre x n→ ∃T:Tab,T.pins=true∧qm T.tr c=true∧(qc1 P T.sem∧qn P T)∧qf tt Γ T c (qet (qgU tt g.t.ty (qF 0 g.t.ty x).1 fn.results.toList)) (qab g.t fn.ntmps x n)=some (g.fv x n,g.fk x n)):SoundM P f g:=by
 refine ⟨⟨fn,hf,by rw [hb];rfl,hname⟩,fun x n hx w cs B u hM hB hw=> ?_⟩
 refine calls_of_wp hf hb ?_
 obtain ⟨T,hpins,hp,hS,hrun⟩:=hrun x n hx
 obtain ⟨rl,hfl,rfl,hcl⟩:=qix 0 hM
 let mine:Mine:=⟨fun b=>b∈rl.flatMap qy.fp,fun _=>True,fun id=>(rl[id]?).map fun r=>(r.1,0)⟩
 let mE:Mp:=⟨fun _=>undef,fun _=>0,fun _=>[],fun _=>True⟩
 have hmem: ∀{j:Nat} {r:qy},rl[j]?=some r→ ∀b∈r.fp,b∈rl.flatMap qy.fp:=fun hj b hb=>List.mem_flatMap.2 ⟨_,List.mem_of_getElem? hj,hb⟩
 have hget: ∀{j:Nat} {y:Blk},(qF 0 g.t.ty x).2[j]?=some y→ ∃r,rl[j]?=some r∧qcn w y r∧fpB (mE.rows 0 rl) j y=r.fp∧(mE.rows 0 rl).val j=r.1∧(mE.rows 0 rl).nst j=r.2:=fun {j y} hy=>by
  obtain ⟨r,hr,hok⟩:=hfl.get hy
  obtain ⟨h1,h2⟩:=qcU (m:=mE) (n:=0) hr
  rw [Nat.zero_add]at h1 h2
  refine ⟨r,hr,hok,?_,h1,h2⟩
  obtain ⟨e,t,xs,inner,rfl,_⟩:=hok
  simp only [fpB,h1,h2,qy.fp]
 have H:HR w mine w (mE.rows 0 rl) (qF 0 g.t.ty x).2:=by
  refine ⟨fun id y hy=> ?_,fun id y hy=> ?_,fun id y id' y' hne hy hy' b hb hb'=> ?_,fun id y hy b hb=> ?_,Fr.refl _ w,rfl,fun _ _=>trivial,fun id v hpv=> ?_⟩
  ·obtain ⟨r,hr,hok,_,h1,h2⟩:=hget hy
   obtain ⟨e,t,xs,inner,rfl,ho,hms⟩:=hok
   exact ⟨inner,by rw [h1];exact ho,by rw [h2];exact hms,Nat.zero_le _⟩
  ·obtain ⟨r,hr,_,h1,_⟩:=hget hy
   rw [h1];exact qgQ hB hr
  ·obtain ⟨r,hr,_,h1,_⟩:=hget hy
   obtain ⟨r',hr',_,h1',_⟩:=hget hy'
   rw [h1]at hb;rw [h1']at hb'
   exact qhT hB hne hr hr' b hb hb'
  ·obtain ⟨r,hr,_,h1,_⟩:=hget hy
   rw [h1]at hb
   exact ⟨qeT hM b (hmem hr b hb),.inr (hmem hr b hb)⟩
  ·have hpv:((rl[id]?).map fun r=>((r.1,0):Value×Nat))=some v:=hpv
   cases hr:rl[id]? with
   | none=>rw [hr]at hpv;simp at hpv
   | some r=>
     rw [hr]at hpv;simp only [Option.map_some,Option.some.injEq]at hpv;subst hpv
     obtain ⟨y,hy,_⟩:=hfl.get' hr
     obtain ⟨h1,_⟩:=qcU (m:=mE) (n:=0) hr
     rw [Nat.zero_add]at h1
     exact ⟨(List.getElem?_eq_some_iff.1 hy).1,h1,rfl⟩
 have hV1:V1 w (mE.rows 0 rl) ([]++(qF 0 g.t.ty x).2) ⟨g.t.agg,(qF 0 g.t.ty x).1⟩ u:=qyf (h:=[]) hfl ⟨cs,hcl,hw⟩
 have henv:F2 (V w (mE.rows 0 rl) (qF 0 g.t.ty x).2) (qab g.t fn.ntmps x n).env ((#[u,.int .i64 n]:Array Value)++Array.replicate (fn.ntmps - 2) undef).toList:=by
  rw [Array.toList_append,Array.toList_replicate]
  refine F2.append (.cons (qlr hV1) (.cons rfl .nil)) ?_
  generalize fn.ntmps - 2=k
  induction k with
  | zero=>exact .nil
  | succ k ih=>rw [List.replicate_succ,List.replicate_succ];exact .cons ⟨#[],rfl,.nil⟩ ih
 have hR:R w mine (qab g.t fn.ntmps x n) {tmps:=(#[u,.int .i64 n]:Array Value)++Array.replicate (fn.ntmps - 2) undef,defers:=[]} w:=⟨rfl,_,H,henv⟩
 have fin: ∀(st:St) (a:Act) (w':World),R w mine st a w'→qgU tt g.t.ty (qF 0 g.t.ty x).1 fn.results.toList st=some (g.fv x n,g.fk x n)→a.defers=[]∧ ∃v,(results fn a.tmps).run P w'= .ok v w'∧(Ending.returned v= .returned (.int .i64 (g.fk x n))∧Fr (fun b=>b∈rl.flatMap qy.fp) w w'∧ ∃B',M w' g.t.ty (g.fv x n) cs B'∧B'.Nodup∧ ∀b∈B',b∈rl.flatMap qy.fp∨w.heap.size≤b):=by
  intro st a w' hr hret
  unfold qgU at hret
  split at hret
  ·rename_i k hres
   split at hret
   ·rename_i y hi
    cases hb:(qah st.heap (qF 0 g.t.ty x).1&&qct (qk (qF 0 g.t.ty x).1)&&(qk (qF 0 g.t.ty x).1).all (qrM st.heap))with
    | false=>rw [hb]at hret;simp at hret
    | true=>
      rw [hb]at hret
      simp only [cond_true,Option.some.injEq,Prod.mk.injEq]at hret
      obtain ⟨rfl,rfl⟩:=hret
      simp only [Bool.and_eq_true]at hb
      obtain ⟨⟨hdeep,hnd⟩,hrows⟩:=hb
      have hri:=qIV hT hr hres
      obtain ⟨hd,m',H',he⟩:=hr
      refine ⟨hd,_,hri,rfl,H'.fr,?_⟩
      have hC:F2 (C w' m' st.heap) (qF 0 g.t.ty x).1 cs:=hcl.imp fun c u' hmem' hc=>by
            cases c<;>simp only [qco]at hc<;>try exact hc.elim
            ·exact hc
            ·exact hc
            ·exact hc
            ·exact hc
            ·rename_i id
             obtain ⟨j,r,hj,hr',rfl⟩:=hc
             have hid:id=j:=by omega
             subst hid
             have hrow:=List.all_eq_true.1 hrows id (qsI hmem')
             unfold qrM at hrow
             have hval:m'.val id=r.1:=(H'.pn id (r.1,0) (by show ((rl[id]?).map fun r=>((r.1,0):Value×Nat))=_;rw [hr'];rfl)).2.1
             simp only [C]
             split at hrow
             ·rename_i hx';rw [hx'];exact hval.symm
             ·simp at hrow
      obtain ⟨v1,v2,pre,hus,hpre,hM',hrest⟩:=qeR H'.br hC hi hdeep
      cases hrest
      rw [List.append_nil]at hus hpre
      subst hus
      rw [←hpre]at hM'
      refine ⟨_,hM',qfS H' (qfD hnd),fun b hb=> ?_⟩
      obtain ⟨id,z,_,hz,hb'⟩:=qcI hb
      exact ((H'.lt id z hz b hb').2).symm
   ·simp at hret
  ·simp at hret
 refine wp_mono (qfd hT hS.2 hΓ hm hS.1.at (fun h=>by rw [hpins]at h;simp at h) c hp _ _ _ _ hrun hR) fun e a w' he=> ?_
 cases e with
 | normal=>obtain ⟨st,hr,h⟩:=he;exact fin st a w' hr h
 | ret=>obtain ⟨st,hr,h⟩:=he;exact fin st a w' hr h
 | exit id=>obtain ⟨st,_,h⟩:=he;simp [qet]at h
 | _=>exact he.elim
end
end Go.T
/- T: functions that mark a slice, and what its elements hold. -/
namespace Go.T
open Go
def qag:(t:Ty)→Val t→Val t
 | .int _,_=>(0:Int)
 | .bool,_=>false
 | .str,_=>ByteArray.empty
 | .hdr,_=>Value.slice none 0 0
 | .slice _ _,v=>v
 | .pair a b,v=>(qag a v.1,qag b v.2)
section
variable {P : Program} {tt : TT} {Γ : Gam} {w0 w w' : World} {mine : Mine} {m m' : Mp} {h : List Blk} {st : St} {a : Act}
theorem qxx {w:World}: ∀{t:Ty} {v v':Val t} {h:Val (hd t)} {B:List Nat},qag t v=qag t v'→Nst w t v h B→Nst w t v' h B
 | .int _,_,_,_,_,_,hn=>hn
 | .bool,_,_,_,_,_,hn=>hn
 | .str,_,_,_,_,_,hn=>hn
 | .hdr,_,_,_,_,_,hn=>hn
 | .slice e t,v,v',_,_,he,hn=>by
   have he:v=v':=he
   rw [←he];exact hn
 | .pair a b,v,v',_,_,he,hn=>by
   obtain ⟨B1,B2,rfl,h1,h2⟩:=hn
   have he:(qag a v.1,qag b v.2)=(qag a v'.1,qag b v'.2):=he
   obtain ⟨e1,e2⟩:=Prod.mk.injEq .. ▸he
   exact ⟨B1,B2,rfl,qxx e1 h1,qxx e2 h2⟩
theorem qKe {w:World} {t:Ty}: ∀{vs vs':List (Val t)} {hs:List (Val (hd t))} {B:List Nat},vs.map (qag t)=vs'.map (qag t)→qao w t vs hs B→qao w t vs' hs B
 | [],[],_,_,_,hn=>hn
 | [],_::_,_,_,he,_=>by simp at he
 | _::_,[],_,_,he,_=>by simp at he
 | _::_,_::_,[],_,_,hn=>hn.elim
 | v::vs,v'::vs',h::hs,_,he,hn=>by
   obtain ⟨B1,B2,rfl,h1,h2⟩:=hn
   simp only [List.map_cons,List.cons.injEq]at he
   exact ⟨B1,B2,rfl,qxx he.1 h1,qKe he.2 h2⟩
theorem qsp (hT : qP P tt) (hΓ : ∀ f g, Γ.get f = some g → Sound P f g) (hm : P.follows .mixedOrders = true) {f : FuncId} {fn : Func} {c : Code} {g : Gms} (hf : P.funcs[f]? = some fn) (hb : fn.body = some c) (hname : (fn.name == "runtime.NumGoroutine") = false)
 (hrun: ∀(xs:List (Val g.t)) (hs:List (Val (hd g.t))) (n:Int) (F:List Nat),g.pre xs n→xs.length=hs.length→qG g.t xs hs=hs→ ∃(T:Tab) (vs:List (Val g.t)),T.pins=true∧qm T.tr c=true∧(qc1 P T.sem∧qn P T)∧vs.map (qag g.t)=(g.fv xs n).map (qag g.t)∧
   qf tt Γ T c (qet (qei tt g.e g.t (hd g.t) F hs fn.results.toList)) (qx0 g.e g.t fn.ntmps F hs xs n)=some (qG g.t (g.fv xs n) hs,vs,g.fk xs n)):SoundMs P f g:=by
 refine ⟨⟨fn,hf,by rw [hb];rfl,hname⟩,fun xs n hx w B u hM hB=> ?_⟩
 refine calls_of_wp hf hb ?_
 have hlt:=qeT hM
 obtain ⟨u',inner,F,hu,rfl,ho,hms⟩:=hM
 obtain rfl:u=u':=by simpa using hu
 obtain ⟨hs,m1,n1,e1⟩:=qGP hms
 have hlen:=qnR n1
 obtain ⟨T,vs0,hpins,hp,hS,hslc,hrun⟩:=hrun xs hs n F hx hlen e1
 let mine:Mine:=⟨fun b=>b∈u.ownBlock.toList++F,fun _=>True,fun id=>if id=0 then some (u,0)else none⟩
 let m0:Mp:=⟨fun _=>u,fun _=>0,fun _=>[],fun _=>True⟩
 have hget: ∀{id:Nat} {y:Blk},[Blk.row g.e (hd g.t) hs true true 0,Blk.nst F g.t hs xs][id]?=some y→(id=0∧y= .row g.e (hd g.t) hs true true 0)∨(id=1∧y= .nst F g.t hs xs):=fun {id y} hy=>by
  match id,hy with
  | 0,hy=>exact .inl ⟨rfl,by simpa using hy.symm⟩
  | 1,hy=>exact .inr ⟨rfl,by simpa using hy.symm⟩
  | k+2,hy=>simp at hy
 have hnd:=List.nodup_append.1 hB
 have H:HR w mine w m0 [Blk.row g.e (hd g.t) hs true true 0,Blk.nst F g.t hs xs]:=by
  refine ⟨fun id y hy=> ?_,fun id y hy=> ?_,fun id y id' y' hne hy hy' b hb hb'=> ?_,fun id y hy b hb=> ?_,Fr.refl _ w,rfl,fun _ _=>trivial,fun id v hpv=> ?_⟩
  ·rcases hget hy with ⟨rfl,rfl⟩ | ⟨rfl,rfl⟩
   ·exact ⟨inner,by rw [qfP,←hlen];exact ho,m1,Nat.zero_le _⟩
   ·exact n1
  ·rcases hget hy with ⟨rfl,rfl⟩ | ⟨rfl,rfl⟩
   ·show (u.ownBlock.toList++[]).Nodup
    rw [List.append_nil];exact hnd.1
   ·exact hnd.2.1
  ·rcases hget hy with ⟨rfl,rfl⟩ | ⟨rfl,rfl⟩<;>rcases hget hy' with ⟨rfl,rfl⟩ | ⟨rfl,rfl⟩
   ·exact hne rfl
   ·have hb:b∈u.ownBlock.toList++[]:=hb
    rw [List.append_nil]at hb
    exact hnd.2.2 b hb b hb' rfl
   ·have hb':b∈u.ownBlock.toList++[]:=hb'
    rw [List.append_nil]at hb'
    exact hnd.2.2 b hb' b hb rfl
   ·exact hne rfl
  ·have hbB:b∈u.ownBlock.toList++F:=by
        rcases hget hy with ⟨rfl,rfl⟩ | ⟨rfl,rfl⟩
        ·have hb:b∈u.ownBlock.toList++[]:=hb
         rw [List.append_nil]at hb
         exact List.mem_append_left _ hb
        ·exact List.mem_append_right _ hb
   exact ⟨hlt b hbB,.inr hbB⟩
  ·have hpv:(if id=0 then some (u,0)else none)=some v:=hpv
   split at hpv
   ·rename_i e;subst e;cases hpv;exact ⟨by simp,rfl,rfl⟩
   ·simp at hpv
 have henv:F2 (V w m0 [Blk.row g.e (hd g.t) hs true true 0,Blk.nst F g.t hs xs]) (qx0 g.e g.t fn.ntmps F hs xs n).env ((#[u,.int .i64 n]:Array Value)++Array.replicate (fn.ntmps - 2) undef).toList:=by
  rw [Array.toList_append,Array.toList_replicate]
  refine F2.append (.cons (show V w m0 [Blk.row g.e (hd g.t) hs true true 0,Blk.nst F g.t hs xs] (.one (.own 0)) u from (rfl:u=u)) (.cons rfl .nil)) ?_
  generalize fn.ntmps - 2=k
  induction k with
  | zero=>exact .nil
  | succ k ih=>rw [List.replicate_succ,List.replicate_succ];exact .cons ⟨#[],rfl,.nil⟩ ih
 have hR:R w mine (qx0 g.e g.t fn.ntmps F hs xs n) {tmps:=(#[u,.int .i64 n]:Array Value)++Array.replicate (fn.ntmps - 2) undef,defers:=[]} w:=⟨rfl,m0,H,henv⟩
 have fin: ∀(st:St) (a:Act) (w':World),R w mine st a w'→qei tt g.e g.t (hd g.t) F hs fn.results.toList st=some (qG g.t (g.fv xs n) hs,vs0,g.fk xs n)→a.defers=[]∧ ∃v,(results fn a.tmps).run P w'= .ok v w'∧(Ending.returned v= .returned (.int .i64 (g.fk xs n))∧Fr (fun b=>b∈u.ownBlock.toList++F) w w'∧M w' (.slice g.e g.t) (g.fv xs n) [u] (u.ownBlock.toList++F)):=by
  intro st a w' hr hret
  unfold qei at hret
  split at hret
  ·rename_i k hres
   split at hret
   ·rename_i e' t' ys mt n' F' t'' hs' vs h0 h1
    split at hret
    ·rename_i hc
     obtain ⟨rfl,rfl,rfl⟩:=hc
     have hck:=qcs.1 hret
     obtain ⟨⟨rfl,hhs⟩,hv⟩:=hck
     have hhs:hs'=hs:=hhs
     subst hhs
     simp only [Option.some.injEq,Prod.mk.injEq]at hv
     obtain ⟨hys,hvs,rfl⟩:=hv
     have hys:ys=_:=hys
     have hvs:vs=_:=hvs
     subst hys
     subst hvs
     have hri:=qIV hT hr hres
     obtain ⟨hd',m',H',he⟩:=hr
     refine ⟨hd',_,hri,rfl,H'.fr,?_⟩
     obtain ⟨inner',ho',hm',_⟩:=H'.br 0 _ h0
     have hN:qao w' g.t (g.fv xs n) hs' F':=qKe hslc (H'.br 1 _ h1)
     have hval:m'.val 0=u:=(H'.pn 0 (u,0) rfl).2.1
     have hl2:(qG g.t (g.fv xs n) hs').length=(g.fv xs n).length:=by
            have:=qnR hN
            simp [qG,this]
     rw [hval,hl2,qfP]at ho'
     rw [qlu hm']at hm'
     exact ⟨u,inner',_,rfl,rfl,ho',qJ9 hm' hN⟩
    ·simp at hret
   ·simp at hret
  ·simp at hret
 refine wp_mono (qfd hT hS.2 hΓ hm hS.1.at (fun h=>by rw [hpins]at h;simp at h) c hp _ _ _ _ hrun hR) fun e a w' he=> ?_
 cases e with
 | normal=>obtain ⟨st,hr,h⟩:=he;exact fin st a w' hr h
 | ret=>obtain ⟨st,hr,h⟩:=he;exact fin st a w' hr h
 | exit id=>obtain ⟨st,_,h⟩:=he;simp [qet]at h
 | _=>exact he.elim
theorem qMc (hT : qP P tt) (hΓ : ∀ f g, Γ.get f = some g → Sound P f g) (hm : P.follows .mixedOrders = true) {f : FuncId} {fn : Func} {c : Code} {g : Gms} (hf : P.funcs[f]? = some fn) (hb : fn.body = some c) (hname : (fn.name == "runtime.NumGoroutine") = false) (hflat : g.t.flat = true)
 (hrun: ∀(x:List (Val g.t)) (n:Int),g.pre x n→ ∃T:Tab,T.pins=true∧qm T.tr c=true∧(qc1 P T.sem∧qn P T)∧qf tt Γ T c (qet (qgU tt (.slice g.e g.t) [.own 0] fn.results.toList)) (qab g.gm.t fn.ntmps x n)=some (g.fv x n,g.fk x n)):SoundMs P f g:=by
 have S:=qN0 (g:=g.gm) hT hΓ hm hf hb hname hrun
 refine ⟨S.enters,fun x n hx w B u hM hB=> ?_⟩
 refine Calls.mono (S.runs x n hx w [u] B u hM hB rfl) fun e w' h=> ?_
 obtain ⟨h1,h2,B',h3,_,_⟩:=h
 refine ⟨h1,h2,?_⟩
 have fl: ∀{w:World} {y:List (Val g.t)} {B:List Nat},M w (.slice g.e g.t) y [u] B→B=u.ownBlock.toList:=fun hM=>by
  obtain ⟨v,inner,Bs,hu,rfl,_,hms⟩:=hM
  obtain rfl:u=v:=by simpa using hu
  rw [flat_B hflat hms,List.append_nil]
 rw [fl hM,←fl h3]
 exact h3
 where
 flat_B {w:World} {t:Ty} (hf:t.flat=true): ∀{xs:List (Val t)} {cs:List Value} {B:List Nat},Ms (M w t) xs cs B→B=[]
  | [],_,_,h=>h.2
  | x::xs,_,_,h=>by
    obtain ⟨c1,c2,B1,B2,rfl,rfl,h1,h2⟩:=h
    rw [flat1 hf h1,flat_B hf h2];rfl
 flat1 {w:World}: ∀{t:Ty} (_:t.flat=true) {v:Val t} {cs:List Value} {B:List Nat},M w t v cs B→B=[]
  | .int _,_,_,_,_,h=>h.2
  | .bool,_,_,_,_,h=>h.2
  | .str,_,_,_,_,h=>h.2
  | .hdr,_,_,_,_,h=>h.2
  | .slice _ _,hf,_,_,_,_=>by simp [Ty.flat]at hf
  | .pair a b,hf,_,_,_,h=>by
    simp only [Ty.flat,Bool.and_eq_true]at hf
    obtain ⟨c1,c2,B1,B2,rfl,rfl,h1,h2⟩:=h
    rw [flat1 hf.1 h1,flat1 hf.2 h2];rfl
end
end Go.T
/- T: the steps that mark. -/
namespace Go.T
open Go
abbrev qcX:=List (Nat×Gm)
abbrev qcY:=List (Nat×Nat×Gms×Nat×Nat)
def qcX.get:qcX→Nat→Option Gm
 | [],_=>none
 | (f,g)::r,f'=>if f=f' then some g else qcX.get r f'
def qcY.get:qcY→Nat→Option (Nat×Gms×Nat×Nat)
 | [],_=>none
 | (d,x)::r,d'=>if d=d' then some x else qcY.get r d'
def qfX (ow:qcX) (hs:qcY):Sem:=fun o st=>match o.op,o.dst with
 | .call c,some d=>match c.callee,c.args.toList with
   | .value (.func f),[x,y]=>match qcY.get hs d with
     | some (f',g,fo,ix)=>if f'=f then qpC g 1 fo (st.ev (.tmp ix)) (st.ev x) (st.ev y) (some d) st else none
     | none=>match qcX.get ow f with
       | some g=>qp5 g (st.ev x) (st.ev y) (some d) st
       | none=>none
   | _,_=>none
 | _,_=>none
theorem qjA {P:Program} {ow:qcX} {hs:qcY} (h1: ∀f g,qcX.get ow f=some g→SoundM P f g) (h2: ∀d f g fo ix,qcY.get hs d=some (f,g,fo,ix)→SoundMs P f g):qc1 P (qfX ow hs):=by
 intro o st p st' hs' hp w0 mine a w next Q hr hn
 unfold qfX at hs'
 split at hs'
 ·rename_i c d ho hd
  split at hs'
  ·rename_i f x y hc ha
   have ha:c.args= #[x,y]:=by rw [←Array.toList_inj,ha]
   split at hs'
   ·rename_i f' g fo ix hg
    split at hs'
    ·rename_i e
     subst e
     exact qW2 (h2 _ _ _ _ _ hg) (ix:= .tmp ix) ho hc ha (by rw [hd];exact hs') hp hr hn
    ·simp at hs'
   ·split at hs'
    ·rename_i g hg
     exact qMy (h1 _ _ hg) ho hc ha (by rw [hd];exact hs') hp hr hn
    ·simp at hs'
  ·simp at hs'
 ·simp at hs'
theorem qjB {P:Program}: ∀f g,qcX.get [] f=some g→SoundM P f g:=fun _ _ h=>by simp [qcX.get]at h
theorem qIn {P:Program} {f0:Nat} {g0:Gm} {r:qcX} (h0:SoundM P f0 g0) (h: ∀f g,qcX.get r f=some g→SoundM P f g): ∀f g,qcX.get ((f0,g0)::r) f=some g→SoundM P f g:=fun f g hg=>by
 simp only [qcX.get]at hg
 split at hg
 ·rename_i e;cases hg;subst e;exact h0
 ·exact h f g hg
theorem qi1 {P:Program}: ∀d f g fo ix,qcY.get [] d=some (f,g,fo,ix)→SoundMs P f g:=fun _ _ _ _ _ h=>by simp [qcY.get]at h
theorem qkE {P:Program} {d0 f0 fo0 ix0:Nat} {g0:Gms} {r:qcY} (h0:SoundMs P f0 g0) (h: ∀d f g fo ix,qcY.get r d=some (f,g,fo,ix)→SoundMs P f g): ∀d f g fo ix,qcY.get ((d0,f0,g0,fo0,ix0)::r) d=some (f,g,fo,ix)→SoundMs P f g:=fun d f g fo ix hg=>by
 simp only [qcY.get]at hg
 split at hg
 ·cases hg;exact h0
 ·exact h d f g fo ix hg
attribute [simp] qcX.get qcY.get qfX qp5 qpC qcT qfl qcB qaK qaX LC.clamp LV.clamp Blk.clamp qgU qei qrM
section
variable {ρ : Type} {r : St → Option ρ} {e : List LV} {h : List Blk} {st : St}
@[simp] theorem qr : qet r .ret st = r st := rfl
@[simp] theorem q0O : qet r .normal st = r st := rfl
end
end Go.T
/- Plain: marks and what is held. -/
namespace Go.T
open Go
variable {ρ : Type}
def qfo:Nat→Nat→ByteArray→ByteArray
 | 0,_,acc=>acc
 | f+1,k,acc=>if k=0 then acc else qfo f (k / 10) (ByteArray.mk #[UInt8.ofNat (48+k % 10)]++acc)
def qZ (k:Int):ByteArray:=if k≤0 then ByteArray.mk #[109,48]else ByteArray.mk #[109]++qfo 64 k.toNat ByteArray.empty
def qaf {α:Type} (f:α→Int→α×Int):List α→Int→List α×Int
 | [],k=>([],k)
 | x::r,k=>((f x k).1::(qaf f r (f x k).2).1,(qaf f r (f x k).2).2)
def mkE:(t:Ty)→Val t→Int→Val t×Int
 | .int _,_,k=>(k,IntKind.i64.wrap (k+1))
 | .bool,_,k=>(decide (k.tmod 3=0),IntKind.i64.wrap (k+1))
 | .str,_,k=>(qZ k,IntKind.i64.wrap (k+1))
 | .hdr,v,k=>(v,k)
 | .slice _ t,xs,k=>qaf (mkE t) xs k
 | .pair a b,v,k=>(((mkE a v.1 k).1,(mkE b v.2 (mkE a v.1 k).2).1),(mkE b v.2 (mkE a v.1 k).2).2)
def mkT:(t:Ty)→Val t→Int→Val t×Int
 | .int _,v,k=>(v,k)
 | .bool,v,k=>(v,k)
 | .str,v,k=>(v,k)
 | .hdr,v,k=>(v,k)
 | .slice _ t,xs,k=>qaf (mkE t) xs k
 | .pair a b,v,k=>(((mkT a v.1 k).1,(mkT b v.2 (mkT a v.1 k).2).1),(mkT b v.2 (mkT a v.1 k).2).2)
theorem qfx (n:Int):IntKind.i64.wrap n≤9223372036854775807:=by rw [IntKind.wrap_i64];omega
theorem qJp {α:Type} {f:α→Int→α×Int} (hf: ∀(x:α) (k:Int),k≤9223372036854775807→(f x k).2≤9223372036854775807): ∀(xs:List α) (k:Int),k≤9223372036854775807→(qaf f xs k).2≤9223372036854775807
 | [],_,h=>h
 | x::r,k,h=>qJp hf r _ (hf x k h)
theorem qlP: ∀(t:Ty) (x:Val t) (k:Int),k≤9223372036854775807→(mkE t x k).2≤9223372036854775807
 | .int _,_,k,_=>qfx _
 | .bool,_,k,_=>qfx _
 | .str,_,k,_=>qfx _
 | .hdr,_,_,h=>h
 | .slice _ t,xs,k,h=>qJp (qlP t) xs k h
 | .pair a b,v,k,h=>qlP b v.2 _ (qlP a v.1 k h)
theorem qDi {α:Type} {f:α→Int→α×Int}: ∀(xs:List α) (k:Int),(qaf f xs k).1.length=xs.length
 | [],_=>rfl
 | x::r,k=>by simp [qaf,qDi r]
theorem qKR {α:Type} {f:α→Int→α×Int} {F:Nat→Int→Int→List α→Option ρ} {kf:Int→List α→Option ρ} {len:Nat} (hl:len≤1048576) (hle: ∀(x:α) (k:Int),k≤9223372036854775807→(f x k).2≤9223372036854775807)
 (hF: ∀(n i:Nat) (k:Int) (s:List α) (h:i<s.length),k≤9223372036854775807→s.length=len→F (n+1) (i:Int) k s=F n (IntKind.i64.wrap ((i:Int)+1)) (f s[i] k).2 (s.set i (f s[i] k).1)) (hE: ∀(n i:Nat) (k:Int) (s:List α),s.length=len→len≤i→F (n+1) (i:Int) k s=kf k s):
 ∀(n:Nat) (P r:List α) (k:Int),k≤9223372036854775807→P.length+r.length=len→r.length<n→F n (P.length:Int) k (P++r)=kf (qaf f r k).2 (P++(qaf f r k).1)
 | 0,_,_,_,_,_,h=>by omega
 | n+1,P,[],k,_,hlen,h=>by
   rw [hE n P.length k _ (by simpa using hlen) (by simp at hlen;omega)];rfl
 | n+1,P,x::r,k,hk,hlen,h=>by
   have hi:P.length<(P++x::r).length:=by simp
   have hlen':(P++x::r).length=len:=by rw [List.length_append];exact hlen
   rw [hF n P.length k _ hi hk hlen',qhW (n:=len) (by omega) hl]
   have e1:(P++x::r)[P.length]=x:=by simp
   have e2:(P++x::r).set P.length (f x k).1=(P++[(f x k).1])++r:=by simp
   rw [e1,e2]
   have:=qKR hl hle hF hE n (P++[(f x k).1]) r (f x k).2 (hle x k hk) (by simp at hlen ⊢;omega) (by simp at h;omega)
   simp only [List.length_append,List.length_cons,List.length_nil]at this
   rw [this]
   simp [qaf]
theorem qOk {α:Type} {f:α→Int→α×Int} {F:Nat→Int→Int→List α→Option ρ} {kf:Int→List α→Option ρ} (xs:List α) (hl:xs.length≤1048576) (hle: ∀(x:α) (k:Int),k≤9223372036854775807→(f x k).2≤9223372036854775807)
 (hF: ∀(n i:Nat) (k:Int) (s:List α) (h:i<s.length),k≤9223372036854775807→s.length=xs.length→F (n+1) (i:Int) k s=F n (IntKind.i64.wrap ((i:Int)+1)) (f s[i] k).2 (s.set i (f s[i] k).1)) (hE: ∀(n i:Nat) (k:Int) (s:List α),s.length=xs.length→xs.length≤i→F (n+1) (i:Int) k s=kf k s)
 (n:Nat) (k:Int) (hk:k≤9223372036854775807) (hn:xs.length<n):F n 0 k xs=kf (qaf f xs k).2 (qaf f xs k).1:=by
 have:=qKR hl hle hF hE n [] xs k hk (by simp) hn
 simpa using this
theorem qHt {t:Ty} {F:Nat→Int→Int→List (Val (hd t))→List (Val t)→Option ρ} {kf:Int→List (Val (hd t))→List (Val t)→Option ρ} {hs:List (Val (hd t))} (xs:List (Val t)) (hl:hs.length≤1048576)
 (hF: ∀(n i:Nat) (k:Int) (fs vs:List (Val t)) (hi:i<fs.length) (hh:i<hs.length) (hv:i<vs.length),k≤9223372036854775807→fs.length=hs.length→vs.length=hs.length→qag t vs[i]=qag t fs[i]→(∃hx:i<xs.length,fs[i]=xs[i])→
   ∃x,qag t x=qag t (mkE t fs[i] k).1∧F (n+1) (i:Int) k (qG t fs hs) vs=F n (IntKind.i64.wrap ((i:Int)+1)) (mkE t fs[i] k).2 (qG t (fs.set i (mkE t fs[i] k).1) hs) (vs.set i x))
 (hE: ∀(n i:Nat) (k:Int) (ys:List (Val (hd t))) (vs:List (Val t)),ys.length=hs.length→hs.length≤i→F (n+1) (i:Int) k ys vs=kf k ys vs):
 ∀(n:Nat) (P r:List (Val t)) (vs:List (Val t)) (k:Int),k≤9223372036854775807→P.length+r.length=hs.length→r=xs.drop P.length→r.length<n→vs.map (qag t)=(P++r).map (qag t)→
  ∃vs',vs'.map (qag t)=(P++(qaf (mkE t) r k).1).map (qag t)∧F n (P.length:Int) k (qG t (P++r) hs) vs=kf (qaf (mkE t) r k).2 (qG t (P++(qaf (mkE t) r k).1) hs) vs'
 | 0,_,_,_,_,_,_,_,h,_=>by omega
 | n+1,P,[],vs,k,_,hlen,_,h,hm=>⟨vs,hm,by
    rw [hE n P.length k _ vs (by simp [qG];simp at hlen;omega) (by simp at hlen;omega)];rfl⟩
 | n+1,P,x::r,vs,k,hk,hlen,hr,h,hm=>by
   have hvl:vs.length=(P++x::r).length:=by have:=congrArg List.length hm;simpa using this
   have hi:P.length<(P++x::r).length:=by simp
   have hlen':(P++x::r).length=hs.length:=by rw [List.length_append];exact hlen
   have e1:(P++x::r)[P.length]=x:=by simp
   have hse:qag t vs[P.length]=qag t (P++x::r)[P.length]:=by
    have:=congrArg (fun l=>l[P.length]?) hm
    simp only [List.getElem?_map,List.getElem?_eq_getElem (show P.length<vs.length by omega),List.getElem?_eq_getElem hi,Option.map_some,Option.some.injEq]at this
    exact this
   have hPx:P.length<xs.length:=by
    rcases Nat.lt_or_ge P.length xs.length with h' | h'
    ·exact h'
    ·rw [List.drop_eq_nil_of_le h']at hr;simp at hr
   rw [qiU hPx]at hr
   obtain ⟨hx0,hr'⟩:=List.cons.inj hr
   obtain ⟨y,hy,hF'⟩:=hF n P.length k (P++x::r) vs hi (by omega) (by omega) hk hlen' (by omega) hse ⟨hPx,by rw [e1,hx0]⟩
   rw [hF',qhW (n:=hs.length) (by omega) hl]
   rw [e1]at hy ⊢
   have e2:(P++x::r).set P.length (mkE t x k).1=(P++[(mkE t x k).1])++r:=by simp
   rw [e2]
   obtain ⟨vs',h1,h2⟩:=qHt xs hl hF hE n (P++[(mkE t x k).1]) r (vs.set P.length y) (mkE t x k).2 (qlP t x k hk) (by simp at hlen ⊢;omega) (by rw [hr'];simp) (by simp at h;omega) (by
    rw [List.map_set,hm,hy]
    simp)
   simp only [List.length_append,List.length_cons,List.length_nil]at h2
   refine ⟨vs',?_,?_⟩
   ·rw [h1];simp [qaf]
   ·rw [h2];simp [qaf]
theorem qoU {t:Ty} {F:Nat→Int→Int→List (Val (hd t))→List (Val t)→Option ρ} {kf:Int→List (Val (hd t))→List (Val t)→Option ρ} {hs:List (Val (hd t))} (xs:List (Val t)) (hxs:xs.length=hs.length) (hmix:qG t xs hs=hs) (hl:hs.length≤1048576)
 (hF: ∀(n i:Nat) (k:Int) (fs vs:List (Val t)) (hi:i<fs.length) (hh:i<hs.length) (hv:i<vs.length),k≤9223372036854775807→fs.length=hs.length→vs.length=hs.length→qag t vs[i]=qag t fs[i]→(∃hx:i<xs.length,fs[i]=xs[i])→
   ∃x,qag t x=qag t (mkE t fs[i] k).1∧F (n+1) (i:Int) k (qG t fs hs) vs=F n (IntKind.i64.wrap ((i:Int)+1)) (mkE t fs[i] k).2 (qG t (fs.set i (mkE t fs[i] k).1) hs) (vs.set i x))
 (hE: ∀(n i:Nat) (k:Int) (ys:List (Val (hd t))) (vs:List (Val t)),ys.length=hs.length→hs.length≤i→F (n+1) (i:Int) k ys vs=kf k ys vs) (n:Nat) (k:Int) (hk:k≤9223372036854775807) (hn:xs.length<n):
 ∃vs',vs'.map (qag t)=(qaf (mkE t) xs k).1.map (qag t)∧F n 0 k hs xs=kf (qaf (mkE t) xs k).2 (qG t (qaf (mkE t) xs k).1 hs) vs':=by
 obtain ⟨vs',h1,h2⟩:=qHt xs hl hF hE n [] xs xs k hk (by simpa using hxs) rfl hn rfl
 rw [List.nil_append,hmix]at h2
 exact ⟨vs',by simpa using h1,by simpa using h2⟩
theorem qhS {t:Ty} {fs:List (Val t)} {hs:List (Val (hd t))} (h:fs.length=hs.length):(qG t fs hs).length=hs.length:=by simp [qG,h]
theorem qFy {t:Ty} {fs:List (Val t)} {hs:List (Val (hd t))} {i:Nat} (h:i<(qG t fs hs).length) (h1:i<fs.length) (h2:i<hs.length):(qG t fs hs)[i]=qay t fs[i] hs[i]:=by
 exact List.getElem_zipWith
theorem qq4 {t:Ty} {fs:List (Val t)} {hs:List (Val (hd t))} {i:Nat} (h1:i<fs.length) (h2:i<hs.length) (hl:fs.length=hs.length) (d:Val (hd t)):(qG t fs hs).getD (Int.toNat (i:Int)) d=qay t fs[i] hs[i]:=by
 have h:i<(qG t fs hs).length:=by rw [qhS hl];exact h2
 rw [qE h,qFy h h1 h2]
theorem qr6 {t:Ty} {fs:List (Val t)} {hs:List (Val (hd t))} {i:Nat} {x:Val t} (h2:i<hs.length) (hl:fs.length=hs.length):(qG t fs hs).set i (qay t x hs[i])=qG t (fs.set i x) hs:=by
 have l1:=qhS hl
 have l2:(qG t (fs.set i x) hs).length=hs.length:=qhS (by simpa using hl)
 apply List.ext_getElem (by rw [List.length_set,l1,l2])
 intro j h1' h2'
 have hj:j<hs.length:=by omega
 rw [qFy h2' (by simp;omega) hj,List.getElem_set,List.getElem_set]
 by_cases e:i=j
 ·subst e;simp
 ·rw [if_neg e,if_neg e,qFy (by omega) (by omega) hj]
end Go.T
/- Plain: what is held; how many marks. -/
namespace Go.T
open Go
variable {ρ : Type}
def qaG {α:Type} (f:α→Nat):List α→Nat
 | []=>0
 | x::r=>f x+qaG f r
def qad:(t:Ty)→Val t→Nat
 | .int _,_=>1
 | .bool,_=>1
 | .str,_=>1
 | .hdr,_=>0
 | .slice _ t,xs=>qaG (qad t) xs
 | .pair a b,v=>qad a v.1+qad b v.2
def qat:(t:Ty)→Val t→Nat
 | .int _,_=>0
 | .bool,_=>0
 | .str,_=>0
 | .hdr,_=>0
 | .slice _ t,xs=>qaG (qad t) xs
 | .pair a b,v=>qat a v.1+qat b v.2
theorem qGj {α:Type} {f:α→Int→α×Int} {c:α→Nat} (hf: ∀(x:α) (k:Int),0≤k→k+c x≤4611686018427387904→(f x k).2=k+c x): ∀(xs:List α) (k:Int),0≤k→k+qaG c xs≤4611686018427387904→(qaf f xs k).2=k+qaG c xs
 | [],k,_,_=>by simp [qaf,qaG]
 | x::r,k,h0,hb=>by
   simp only [qaG]at hb
   have h1:=hf x k h0 (by omega)
   have h2:=qGj hf r (f x k).2 (by omega) (by omega)
   simp only [qaf,qaG]
   rw [h2];omega
theorem qi3: ∀(t:Ty) (x:Val t) (k:Int),0≤k→k+qad t x≤4611686018427387904→(mkE t x k).2=k+qad t x
 | .int _,_,k,h0,hb=>by simp only [qad]at hb;show IntKind.i64.wrap (k+1)=_;rw [qax (by omega) (by omega)];rfl
 | .bool,_,k,h0,hb=>by simp only [qad]at hb;show IntKind.i64.wrap (k+1)=_;rw [qax (by omega) (by omega)];rfl
 | .str,_,k,h0,hb=>by simp only [qad]at hb;show IntKind.i64.wrap (k+1)=_;rw [qax (by omega) (by omega)];rfl
 | .hdr,_,k,_,_=>by simp [mkE,qad]
 | .slice _ t,xs,k,h0,hb=>qGj (fun x k h0 hb=>qi3 t x k h0 hb) xs k h0 hb
 | .pair a b,v,k,h0,hb=>by
   simp only [qad]at hb ⊢
   have h1:=qi3 a v.1 k h0 (by omega)
   have h2:=qi3 b v.2 (mkE a v.1 k).2 (by omega) (by omega)
   show (mkE b v.2 (mkE a v.1 k).2).2=_
   rw [h2];omega
theorem qkq: ∀(t:Ty) (x:Val t) (k:Int),0≤k→k+qat t x≤4611686018427387904→(mkT t x k).2=k+qat t x
 | .int _,_,k,h0,hb=>by simp [mkT,qat]
 | .bool,_,k,h0,hb=>by simp [mkT,qat]
 | .str,_,k,h0,hb=>by simp [mkT,qat]
 | .hdr,_,k,_,_=>by simp [mkT,qat]
 | .slice _ t,xs,k,h0,hb=>qGj (fun x k h0 hb=>qi3 t x k h0 hb) xs k h0 hb
 | .pair a b,v,k,h0,hb=>by
   simp only [qat]at hb ⊢
   have h1:=qkq a v.1 k h0 (by omega)
   have h2:=qkq b v.2 (mkT a v.1 k).2 (by omega) (by omega)
   show (mkT b v.2 (mkT a v.1 k).2).2=_
   rw [h2];omega
theorem qGX {α:Type} {f:α→Int→α×Int} (hf: ∀x k,f (f x k).1 k=f x k): ∀(xs:List α) (k:Int),qaf f (qaf f xs k).1 k=qaf f xs k
 | [],_=>rfl
 | x::r,k=>by
   simp only [qaf,hf]
   rw [qGX hf r]
theorem qsx: ∀(t:Ty) (x:Val t) (k:Int),mkE t (mkE t x k).1 k=mkE t x k
 | .int _,_,_=>rfl
 | .bool,_,_=>rfl
 | .str,_,_=>rfl
 | .hdr,_,_=>rfl
 | .slice _ t,xs,k=>qGX (qsx t) xs k
 | .pair a b,v,k=>by
   have h1:=qsx a v.1 k
   have h2:=qsx b v.2 (mkE a v.1 k).2
   simp only [mkE,h1,h2]
theorem qsE: ∀(t:Ty) (x:Val t) (k:Int),mkT t (mkT t x k).1 k=mkT t x k
 | .int _,_,_=>rfl
 | .bool,_,_=>rfl
 | .str,_,_=>rfl
 | .hdr,_,_=>rfl
 | .slice _ t,xs,k=>qGX (qsx t) xs k
 | .pair a b,v,k=>by
   have h1:=qsE a v.1 k
   have h2:=qsE b v.2 (mkT a v.1 k).2
   simp only [mkT,h1,h2]
theorem qE7 {α:Type} {f:α→Int→α×Int} {c:α→Nat} (hf: ∀x k,c (f x k).1=c x): ∀(xs:List α) (k:Int),qaG c (qaf f xs k).1=qaG c xs
 | [],_=>rfl
 | x::r,k=>by simp [qaf,qaG,hf,qE7 hf r]
theorem qrY: ∀(t:Ty) (x:Val t) (k:Int),qad t (mkE t x k).1=qad t x
 | .int _,_,_=>rfl
 | .bool,_,_=>rfl
 | .str,_,_=>rfl
 | .hdr,_,_=>rfl
 | .slice _ t,xs,k=>qE7 (qrY t) xs k
 | .pair a b,v,k=>by simp only [mkE,qad];rw [qrY a,qrY b]
theorem qzE: ∀(t:Ty) (x:Val t) (k:Int),qat t (mkT t x k).1=qat t x
 | .int _,_,_=>rfl
 | .bool,_,_=>rfl
 | .str,_,_=>rfl
 | .hdr,_,_=>rfl
 | .slice _ t,xs,k=>qE7 (qrY t) xs k
 | .pair a b,v,k=>by simp only [mkT,qat];rw [qzE a,qzE b]
theorem qN5 (k:Int):(qZ k).size≤65:=by
 have dg: ∀f n acc,(qfo f n acc).size≤acc.size+f:=by
  intro f
  induction f with
  | zero=>intro n acc;simp [qfo]
  | succ f ih=>
    intro n acc
    simp only [qfo]
    split
    ·omega
    ·have:=ih (n / 10) (ByteArray.mk #[UInt8.ofNat (48+n % 10)]++acc)
     rw [ByteArray.size_append]at this
     have e:(ByteArray.mk #[UInt8.ofNat (48+n % 10)]).size=1:=rfl
     omega
 unfold qZ
 split
 ·decide
 ·have:=dg 64 k.toNat ByteArray.empty
  rw [ByteArray.size_append]
  have e:(ByteArray.mk #[109]).size=1:=rfl
  have e2:ByteArray.empty.size=0:=rfl
  omega
theorem qAE {α:Type} {f:α→Int→α×Int} {B:α→Prop} (hf: ∀x k,B x→B (f x k).1): ∀(xs:List α) (k:Int),(∀x∈xs,B x)→ ∀x∈(qaf f xs k).1,B x
 | [],_,_=>by simp [qaf]
 | x::r,k,h=>by
   intro y hy
   simp only [qaf,List.mem_cons]at hy
   rcases hy with rfl | hy
   ·exact hf x k (h x (by simp))
   ·exact qAE hf r _ (fun z hz=>h z (by simp [hz])) y hy
theorem qrK: ∀(t:Ty) (x:Val t) (k:Int),Bd t x→Bd t (mkE t x k).1
 | .int _,_,_,_=>trivial
 | .bool,_,_,_=>trivial
 | .str,_,k,_=>by have:=qN5 k;show (qZ k).size≤1048576;omega
 | .hdr,_,_,_=>trivial
 | .slice _ t,xs,k,h=>⟨by show (qaf (mkE t) xs k).1.length≤_;rw [qDi];exact h.1,qAE (qrK t) xs k h.2⟩
 | .pair a b,v,k,h=>⟨qrK a _ _ h.1,qrK b _ _ h.2⟩
theorem qBl: ∀(t:Ty) (x:Val t) (k:Int),Bd t x→Bd t (mkT t x k).1
 | .int _,_,_,_=>trivial
 | .bool,_,_,_=>trivial
 | .str,_,_,h=>h
 | .hdr,_,_,_=>trivial
 | .slice _ t,xs,k,h=>⟨by show (qaf (mkE t) xs k).1.length≤_;rw [qDi];exact h.1,qAE (qrK t) xs k h.2⟩
 | .pair a b,v,k,h=>⟨qBl a _ _ h.1,qBl b _ _ h.2⟩
def qHu (t:Ty) (x:Val t) (k:Int):Prop:=(mkT t x k).1=x∧Bd t x∧0≤k∧k+qat t x≤4611686018427387904
theorem qI6 {t:Ty} {F:Nat→Int→Int→Option ρ} {kf:Int→Option ρ} {xs:List (Val t)} (hl:xs.length≤1048576)
 (hF: ∀(n i:Nat) (k:Int) (h:i<xs.length),(mkE t xs[i] k).1=xs[i]→0≤k→k+qad t xs[i]≤4611686018427387904→F (n+1) (i:Int) k=F n (IntKind.i64.wrap ((i:Int)+1)) (mkE t xs[i] k).2) (hE: ∀(n i:Nat) (k:Int),xs.length≤i→F (n+1) (i:Int) k=kf k):
 ∀(n i:Nat) (r:List (Val t)) (k:Int),r=xs.drop i→i≤xs.length→r.length<n→(qaf (mkE t) r k).1=r→0≤k→k+qaG (qad t) r≤4611686018427387904→F n (i:Int) k=kf (qaf (mkE t) r k).2
 | 0,_,_,_,_,_,h,_,_,_=>by omega
 | n+1,i,[],k,hr,hi,_,_,_,_=>by
   have:xs.length≤i:=by
    rcases Nat.lt_or_ge i xs.length with h' | h'
    ·rw [qiU h']at hr;exact absurd hr (by intro e;cases e)
    ·exact h'
   rw [hE n i k this];rfl
 | n+1,i,x::r,k,hr,hi,h,hm,h0,hb=>by
   have hlt:i<xs.length:=by
    rcases Nat.lt_or_ge i xs.length with h' | h'
    ·exact h'
    ·rw [List.drop_eq_nil_of_le h']at hr;simp at hr
   rw [qiU hlt]at hr
   obtain ⟨rfl,rfl⟩:=List.cons.inj hr
   simp only [qaf,List.cons.injEq]at hm
   simp only [qaG]at hb
   have hk:=qi3 t xs[i] k h0 (by omega)
   rw [hF n i k hlt hm.1 h0 (by omega),qhW hlt hl]
   exact qI6 hl hF hE n (i+1) _ (mkE t xs[i] k).2 rfl (by omega) (by simp at h ⊢;omega) hm.2 (by omega) (by omega)
theorem qHq {t:Ty} {F:Nat→Int→Int→Option ρ} {kf:Int→Option ρ} (xs:List (Val t)) (hl:xs.length≤1048576)
 (hF: ∀(n i:Nat) (k:Int) (h:i<xs.length),(mkE t xs[i] k).1=xs[i]→0≤k→k+qad t xs[i]≤4611686018427387904→F (n+1) (i:Int) k=F n (IntKind.i64.wrap ((i:Int)+1)) (mkE t xs[i] k).2) (hE: ∀(n i:Nat) (k:Int),xs.length≤i→F (n+1) (i:Int) k=kf k)
 (n:Nat) (k:Int) (hn:xs.length<n) (hm:(qaf (mkE t) xs k).1=xs) (h0:0≤k) (hb:k+qaG (qad t) xs≤4611686018427387904):F n 0 k=kf (qaf (mkE t) xs k).2:=by
 simpa using qI6 hl hF hE n 0 xs k rfl (by omega) hn hm h0 hb
end Go.T
/- Plain: how many marks there are at most. -/
namespace Go.T
open Go
def qfI:Ty→Bool
 | .slice _ t=>decide (t.sz≤64)&&qfI t
 | .pair a b=>qfI a&&qfI b
 | _=>true
theorem qEu {α:Type} {f:α→Int→Int} {c:α→Nat} {s:Nat} (hs:s≤64) (hle: ∀(x:α) (n:Int),0≤n→f x n≤n) (hf: ∀(x:α) (n:Int),0≤n→0≤f x n→(c x:Int)≤s+64*(n - f x n)): ∀(xs:List α) (n:Int),0≤n→0≤szL f xs n→(qaG c xs:Int)≤64*xs.length+64*(n - szL f xs n)
 | [],n,h0,_=>by simp [qaG,szL]
 | x::xs,n,h0,h=>by
   simp only [szL]at h ⊢
   split at h
   ·omega
   ·rename_i hx
    rw [if_neg hx]
    have h1:=hf x n h0 (by omega)
    have h2:=qEu hs hle hf xs (f x n) (by omega) h
    simp only [qaG,List.length_cons]
    omega
theorem qsR: ∀(t:Ty) (x:Val t) (n:Int),qfI t=true→0≤n→0≤szV t x n→(qad t x:Int)≤t.sz+64*(n - szV t x n)
 | .int _,_,n,_,_,_=>by simp [qad,szV,Ty.sz]
 | .bool,_,n,_,_,_=>by simp [qad,szV,Ty.sz]
 | .hdr,_,n,_,_,_=>by simp [qad,szV,Ty.sz]
 | .str,s,n,_,h0,h=>by
   simp only [szV]at h ⊢
   split at h
   ·omega
   ·rename_i hx
    rw [if_neg hx]
    simp only [qad,Ty.sz];omega
 | .slice e t,xs,n,ho,h0,h=>by
   simp only [qfI,Bool.and_eq_true,decide_eq_true_eq]at ho
   simp only [szV]at h ⊢
   split at h
   ·omega
   ·rename_i hx
    rw [if_neg hx]
    have:=qEu (f:=szV t) (c:=qad t) ho.1 (fun x n h0=>(qcz t x n h0).1) (fun x n h0 h=>qsR t x n ho.2 h0 h) xs (n - xs.length) (by omega) h
    simp only [qad,Ty.sz];omega
 | .pair a b,v,n,ho,h0,h=>by
   simp only [qfI,Bool.and_eq_true]at ho
   simp only [szV]at h ⊢
   split at h
   ·omega
   ·rename_i hx
    rw [if_neg hx]
    have h1:=qsR a v.1 n ho.1 h0 (by omega)
    have h2:=qsR b v.2 (szV a v.1 n) ho.2 (by omega) h
    simp only [qad,Ty.sz];omega
theorem qsT: ∀(t:Ty) (x:Val t) (n:Int),qfI t=true→0≤n→0≤szV t x n→(qat t x:Int)≤64*(n - szV t x n)
 | .int _,_,n,_,_,_=>by simp [qat,szV]
 | .bool,_,n,_,_,_=>by simp [qat,szV]
 | .hdr,_,n,_,_,_=>by simp [qat,szV]
 | .str,s,n,_,h0,h=>by
   have:=(qcz .str s n h0).1
   simp only [qat];omega
 | .slice e t,xs,n,ho,h0,h=>by
   simp only [qfI,Bool.and_eq_true,decide_eq_true_eq]at ho
   simp only [szV]at h ⊢
   split at h
   ·omega
   ·rename_i hx
    rw [if_neg hx]
    have:=qEu (f:=szV t) (c:=qad t) ho.1 (fun x n h0=>(qcz t x n h0).1) (fun x n h0 h=>qsR t x n ho.2 h0 h) xs (n - xs.length) (by omega) h
    simp only [qat];omega
 | .pair a b,v,n,ho,h0,h=>by
   simp only [qfI,Bool.and_eq_true]at ho
   simp only [szV]at h ⊢
   split at h
   ·omega
   ·rename_i hx
    rw [if_neg hx]
    have h1:=qsT a v.1 n ho.1 h0 (by omega)
    have h2:=qsT b v.2 (szV a v.1 n) ho.2 (by omega) h
    simp only [qat];omega
theorem qIM {α:Type} {f:α→Nat} {c:Nat}: ∀(xs:List α),(∀x∈xs,f x≤c)→qaG f xs≤xs.length*c
 | [],_=>by simp [qaG]
 | x::r,h=>by
   have h1:=h x (by simp)
   have h2:=qIM r fun y hy=>h y (by simp [hy])
   simp only [qaG,List.length_cons,Nat.add_mul]
   omega
theorem qD8 {k:IntKind}: ∀(xs:List (Val (.int k))),qaG (qad (.int k)) xs=xs.length
 | []=>rfl
 | x::r=>by
   have:=qD8 r
   show 1+qaG (qad (.int k)) r=_
   rw [this,List.length_cons];omega
end Go.T
/- Plain: walks that gather. -/
namespace Go.T
open Go
variable {ρ α β : Type}
end Go.T
/- Plain: the order of atoms; normal lists of atoms. -/
namespace Go.T
structure Cmp {α:Type} (c:α→α→Int):Prop where
 anti: ∀x y,c x y= - c y x
 tr: ∀x y z,c x y≤0→c y z≤0→c x z≤0
namespace Cmp
variable {α : Type} {c d : α → α → Int}
theorem qxN (h:Cmp c) (x:α):c x x=0:=by have:=h.anti x x;omega
theorem on {β:Type} (h:Cmp c) (f:β→α):Cmp fun x y=>c (f x) (f y):=⟨fun _ _=>h.anti _ _,fun _ _ _=>h.tr _ _ _⟩
end Cmp
def qHY:List Int→List Int→Int
 | [],[]=>0
 | [],_::_=> -1
 | _::_,[]=>1
 | x::xs,y::ys=>if x<y then -1 else if y<x then 1 else qHY xs ys
def gL:Nat→List Int→Nat
 | g,[]=>g
 | g,x::r=>gL (Nat.gcd g x.natAbs) r
theorem qHc: ∀(xs:List Int) (a b:Nat),gL (Nat.gcd a b) xs=Nat.gcd (gL a xs) b
 | [],_,_=>rfl
 | x::r,a,b=>by
   simp only [gL]
   rw [←qHc r]
   congr 1
   rw [Nat.gcd_assoc,Nat.gcd_comm b,←Nat.gcd_assoc]
abbrev Atm:=List Int×Int×Bool
def gS (a:Atm):Nat:=max 1 (gL 0 a.1)
def qKM (a:Atm):List Int:=a.1.map fun x=>x.tdiv (gS a:Int)
def sgI (n:Int):Int:=if n<0 then -1 else if 0<n then 1 else 0
def way (a b:Atm):Int:=qHY (qKM a) (qKM b)
def qJu (a b:Atm):Int:=sgI (a.2.1*gS b - b.2.1*gS a)
def stc (a b:Atm):Int:=if a.2.2=b.2.2 then 0 else if a.2.2 then 1 else -1
def qK0 (a b:Atm):Int:=if way a b=0 then (if qJu a b=0 then stc a b else qJu a b)else way a b
structure NormOf (xs l:List Atm):Prop where
 ord:l.Pairwise fun a b=>way a b<0
 mem: ∀a∈l,a∈xs
 top: ∀a∈xs,∃b∈l,way a b=0∧qK0 a b≤0
end Go.T
/- T: functions that are handed the address of a box of their caller's. -/
namespace Go.T
open Go
structure Gb where
 t:TI
 ps:List TI
 rs:List TI
 pre:Val t.ty→qc ps→Prop
 fv:Val t.ty→qc ps→Val t.ty
 fn:Val t.ty→qc ps→qc rs
structure SoundB (P:Program) (f:FuncId) (g:Gb):Prop where
 enters:qfM P f
 runs: ∀(v:Val g.t.ty) (x:qc g.ps),g.pre v x→ ∀(w:World) (b:Nat) (arr:Array Value) (ty:TypeId) (B:List Nat) (ext:Nat→Prop) (us:List Value),
  w.heap[b]?=some (.cells arr ty (0,0))→M w g.t.ty v arr.toList B→B.Nodup→b∉B→VKs w ext g.ps x us→(∀k,w.heap.size≤k→ext k)→(∀k,ext k→k<w.heap.size→k≠b∧k∉B)→
  Calls P f (Value.pointer (some ⟨b,0,none⟩)::us).toArray w fun e w'=> ∃rv,e= .returned (qdI rv)∧Fr (fun k=>k=b∨k∈B) w w'∧VKs w' (fun _=>True) g.rs (g.fn v x) rv∧
   ∃arr' ty' B',w'.heap[b]?=some (.cells arr' ty' (0,0))∧M w' g.t.ty (g.fv v x) arr'.toList B'∧B'.Nodup∧b∉B'∧ ∀k∈B',k∈B∨w.heap.size≤k
def qMO (t:TI) (ps:List TI) (ntmps:Nat) (v:Val t.ty) (x:qc ps):St:={env:= .one (.ptr 0 0 0)::((qeF 0 ps x).map LV1.lv++List.replicate (ntmps - (ps.length+1)) (.tup [])),heap:= .box (qF 1 t.ty v).1::(qF 1 t.ty v).2}
def qXR (tt:TT) (t:TI) (rs:List TI) (rvs:List ResultVar) (st:St):Option (Val t.ty×qc rs):=match qed tt st rvs with
 | some ls=>match qci st.heap rs ls,st.heap[0]? with
   | some y,some (Blk.box cs)=>match qu st.heap t.ty cs with
     | some (v,[])=>bif qah st.heap cs&&qct (qk cs)then some (v,y)else none
     | _=>none
   | _,_=>none
 | none=>none
section
variable {P : Program} {tt : TT} {Γ : Gam} {w0 w w' : World} {mine : Mine} {m m' : Mp} {h : List Blk} {st : St} {a : Act}
end
end Go.T
/- T: calls that are handed the address of a box of the call's own; calls of function values. -/
namespace Go.T
open Go
def qnI (h:List Blk) (L:Nat) (ids:List Nat):LC→Bool
 | .sl _ _ _ n=>decide (n≤L)
 | .tptr .. =>false
 | .ptr .. =>false
 | .own id=> !ids.contains id&&match h[id]? with
   | some (Blk.row _ _ _ true _ _)=>true
   | some (Blk.row _ _ _ false _ n)=>decide (n≤L)
   | _=>false
 | _=>true
def qGT:List TI→Bool
 | []=>true
 | ti::r=>ti.ty.flat&&qGT r
def qIk (st:St) (id:Nat) (ids:List Nat) (L:Nat) (cs:List LC) (bl:List Blk) (d:Option Tmp) (l:LV):St:=
 St.put ⟨st.env.map (LV.clamp L),(kill (st.heap.map (Blk.clamp L)) ids).set id (.box cs)++bl⟩ d l
def qKy (g:Gb) (ls:List LV) (d:Option Tmp) (st:St):Res:=match ls with
 | .one (.ptr id 0 0)::args=>match st.heap[id]? with
   | some (Blk.box cs)=>if qah st.heap cs=true∧qct (qk cs)=true∧(args.all fun l=>l.cells.all (qnI st.heap (los st.heap st.heap.length (qk cs)) (qk cs)))=true∧qGT g.rs=true then
        match qu st.heap g.t.ty cs,qci st.heap g.ps args with
        | some (v,[]),some x=>some (g.pre v x,qIk st id (qk cs) (los st.heap st.heap.length (qk cs)) (qF st.heap.length g.t.ty (g.fv v x)).1 (qF st.heap.length g.t.ty (g.fv v x)).2 d (qfC (qeF 0 g.rs (g.fn v x))))
        | _,_=>none
     else none
   | _=>none
 | _=>none
section
variable {P : Program} {w0 w w' : World} {mine : Mine} {m m' : Mp} {h : List Blk} {st : St} {a : Act} {o : Oper} {next : Act → World → Prop} {Q : Exit → Act → World → Prop}
theorem qWs {cs:List LC} (hd:qah h cs=true) {id:Nat} (hid:id∈qk cs): ∃(e:Nat) (t:Ty) (xs:List (Val t)) (mt:Bool) (n:Nat),h[id]?=some (.row e t xs true mt n):=by
 simp only [qk,List.mem_filterMap]at hid
 obtain ⟨c,hc,he⟩:=hid
 cases c<;>simp only [LC.movedId,Option.some.injEq,reduceCtorEq]at he
 subst he
 have:=List.all_eq_true.1 hd _ hc
 simp only [LC.deep]at this
 split at this
 ·rename_i e t xs dp mt n hx
  cases dp with
  | true=>exact ⟨e,t,xs,mt,n,hx⟩
  | false=>simp at this
 ·simp at this
end
end Go.T
