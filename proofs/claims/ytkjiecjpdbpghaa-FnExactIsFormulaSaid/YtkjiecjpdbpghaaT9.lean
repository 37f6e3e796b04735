/- T: what comes in as an argument. -/
import Derived.Test.YtkjiecjpdbpghaaT8
import Derived.ProofKit
import Derived.OpenShut
import Derived.WideShapes
import Derived.Carry
import Derived.Below
set_option linter.unusedSimpArgs false
set_option linter.unusedVariables false
namespace Go.T
open Go Go.WideShapes
def Sm:(t:Ty)→Val t→Prop
 | .int k,n=>(Lit.int k n).wf=true
 | .bool,_=>True
 | .str,s=>s.size≤maxLen
 | .hdr,_=>True
 | .slice _ t,xs=>xs.length≤maxLen∧ ∀x∈xs,Sm t x
 | .pair a b,v=>Sm a v.1∧Sm b v.2
mutual
def qcJ (P:Program):Nat→TypeId→Option Ty
 | 0,_=>none
 | n+1,t=>match P.underlying t with
   | some (.int k)=>some (.int k)
   | some .bool=>some .bool
   | some .string=>some .str
   | some (.slice e)=>match qcJ P n e with
     | some te=>if P.cellsOf e=te.sz then some (.slice e te)else none
     | none=>none
   | some (.struct fs)=>match qen P n 0 fs.toList with
     | some ty=>if P.cellsOf t=ty.sz then some ty else none
     | none=>none
   | _=>none
def qen (P:Program):Nat→Nat→List Field→Option Ty
 | 0,_,_=>none
 | n+1,off,fs=>match fs with
   | []=>none
   | [f]=>match qcJ P n f.type with
     | some a=>if f.offset=off∧P.cellsOf f.type=a.sz then some a else none
     | none=>none
   | f::g::r=>match qcJ P n f.type with
     | some a=>if f.offset=off∧P.cellsOf f.type=a.sz then match qen P n (off+a.sz) (g::r)with
       | some b=>some (.pair a b)
       | none=>none
       else none
     | none=>none
end
theorem qGM {w:World} {a:Addr} {n:Nat} {cs:List Value} (h:w.cells? 0 a n=some cs):cs.length=n∧At w a cs:=by
 unfold World.cells? at h
 simp only [Nat.zero_le,if_true]at h
 have hl:=mapM_some_length h
 refine ⟨by simpa using hl,fun j u hu=> ?_⟩
 have hj:j<n:=by
  have:=(List.getElem?_eq_some_iff.1 hu).1
  simp at hl;omega
 have:=mapM_some_get h j j (by simp [hj])
 rw [this,hu]
theorem qzf {α:Type} {Q:Nat→α→Prop}: ∀n:Nat,(∀i,i<n→ ∃x,Q i x)→ ∃xs:List α,xs.length=n∧ ∀i x,xs[i]?=some x→Q i x
 | 0,_=>⟨[],rfl,fun i x h=>by simp at h⟩
 | n+1,h=>by
   obtain ⟨xs,hl,hx⟩:=qzf n fun i hi=>h i (by omega)
   obtain ⟨y,hy⟩:=h n (by omega)
   refine ⟨xs++[y],by simp [hl],fun i x hi=> ?_⟩
   by_cases e:i<n
   ·rw [List.getElem?_append_left (by omega)]at hi;exact hx i x hi
   ·rw [List.getElem?_append_right (by omega)]at hi
    have:i=n:=by
     rcases Nat.lt_or_ge n i with h' | h'
     ·rw [List.getElem?_eq_none (by simp;omega)]at hi;cases hi
     ·omega
    subst this
    simp [hl]at hi
    subst hi;exact hy
section
variable {H : Type} {enc : TypeId × Value → H} {P : Program} {w : World} {spare : Nat → Bool} {held : Bool}
mutual
theorem qlC: ∀(n:Nat) {fuel:Nat} {t:TypeId} {ty:Ty} {cs:List Value} {x:DataW H×List MemPlace},qcJ P n t=some ty→DataW.trod enc P w 0 spare held fuel t cs=some x→ ∃v:Val ty,K w (fun _=>True) ty v cs∧Sm ty v
 | 0,_,_,_,_,_,h,_=>by simp [qcJ]at h
 | n+1,fuel,t,ty,cs,x,h,hx=>by
   unfold qcJ at h
   split at h
   ·rename_i k hu
    cases h
    obtain ⟨m,rfl,_,hw⟩:=DataW.trod_int hu hx
    exact ⟨m,by rw [K],hw⟩
   ·rename_i hu
    cases h
    obtain ⟨b,rfl,_⟩:=DataW.trod_bool hu hx
    exact ⟨(b:Bool),by rw [K],trivial⟩
   ·rename_i hu
    cases h
    obtain ⟨s,rfl,_,hs⟩:=DataW.trod_string hu hx
    exact ⟨(s:ByteArray),by rw [K],hs⟩
   ·rename_i e hu
    split at h
    ·rename_i te hte
     split at h
     ·rename_i hsz
      cases h
      rcases DataW.trod_slice hu hx with ⟨rfl,_⟩ | ⟨a,len,cap,elems,rest,m,_,rfl,_,_,h1,h2,h3,h4,_⟩
      ·refine ⟨([]:List (Val te)),?_,?_⟩
       ·rw [K];exact ⟨none,0,rfl,Nat.le_refl _,fun i x h=>by simp at h⟩
       ·exact ⟨by simp,by simp⟩
      ·obtain ⟨xs,hxl,hxs⟩:=qzf (Q:=fun i (v:Val te)=>(∃cs,K w (fun _=>True) te v cs∧At w (a.add (i*te.sz)) cs)∧Sm te v) len fun i hi=>by
             have hg:=h4 i hi
             have:i<elems.length:=by omega
             rw [List.getElem?_eq_getElem this,hsz]at hg
             simp only [Option.bind_eq_some_iff]at hg
             obtain ⟨cs',hc,ht⟩:=hg
             obtain ⟨_,hat⟩:=qGM hc
             obtain ⟨v,hv,hs⟩:=qlC n hte ht
             exact ⟨v,⟨cs',hv,hat⟩,hs⟩
       refine ⟨xs,?_,?_⟩
       ·rw [K]
        exact ⟨some a,cap,by rw [hxl],by omega,fun i x hi=>by
              obtain ⟨⟨cs',hv,hat⟩,_⟩:=hxs i x hi
              exact ⟨a,cs',rfl,trivial,hv,hat⟩⟩
       ·refine ⟨by omega,fun y hy=> ?_⟩
        obtain ⟨i,hi⟩:=List.getElem?_of_mem hy
        exact (hxs i y hi).2
     ·simp at h
    ·simp at h
   ·rename_i fs hu
    split at h
    ·rename_i ty' hty
     split at h
     ·rename_i hsz
      cases h
      obtain ⟨ys,m,_,_,hl,hyl,hf⟩:=DataW.trod_struct hu hx
      obtain ⟨v,hk,hs⟩:=qxV (cs:=cs) n hty (fun f hm=>by
           obtain ⟨i,hi⟩:=List.getElem?_of_mem hm
           have hi':fs[i]?=some f:=by rw [←Array.getElem?_toList];exact hi
           have:=hf i f hi'
           have hil:i<ys.length:=by rw [hyl];exact (Array.getElem?_eq_some_iff.1 hi').1
           rw [List.getElem?_eq_getElem hil]at this
           exact ⟨_,this⟩)
      refine ⟨v,?_,hs⟩
      have:(cs.drop 0).take ty.sz=cs:=by rw [List.drop_zero,List.take_of_length_le (by omega)]
      rw [←this];exact hk
     ·simp at h
    ·simp at h
   ·simp at h
theorem qxV: ∀(n:Nat) {fuel off:Nat} {fs:List Field} {ty:Ty} {cs:List Value},qen P n off fs=some ty→(∀f∈fs,∃y,DataW.trod enc P w 0 spare held fuel f.type ((cs.drop f.offset).take (P.cellsOf f.type))=some y)→
 ∃v:Val ty,K w (fun _=>True) ty v ((cs.drop off).take ty.sz)∧Sm ty v
 | 0,_,_,_,_,_,h,_=>by simp [qen]at h
 | n+1,fuel,off,[],ty,cs,h,_=>by simp [qen]at h
 | n+1,fuel,off,[f],ty,cs,h,hm=>by
   simp only [qen]at h
   split at h
   ·rename_i a ha
    split at h
    ·rename_i hc
     cases h
     obtain ⟨y,hy⟩:=hm f (by simp)
     rw [hc.1,hc.2]at hy
     exact qlC n ha hy
    ·simp at h
   ·simp at h
 | n+1,fuel,off,f::g::r,ty,cs,h,hm=>by
   simp only [qen]at h
   split at h
   ·rename_i a ha
    split at h
    ·rename_i hc
     split at h
     ·rename_i b hb
      cases h
      obtain ⟨y,hy⟩:=hm f (by simp)
      rw [hc.1,hc.2]at hy
      obtain ⟨v1,hk1,hs1⟩:=qlC n ha hy
      obtain ⟨v2,hk2,hs2⟩:=qxV (cs:=cs) n hb fun f hf=>hm f (List.mem_cons_of_mem _ hf)
      refine ⟨((v1,v2):Val a×Val b),?_,hs1,hs2⟩
      rw [K]
      refine ⟨_,_,?_,hk1,hk2⟩
      rw [Ty.sz,←List.drop_drop,List.take_add]
     ·simp at h
    ·simp at h
   ·simp at h
end
def Sms:(tis:List TI)→qa tis→Prop
 | [],_=>True
 | ti::r,x=>Sm ti.ty x.1∧Sms r x.2
def qyv (P:Program) (t:TypeId):Bool:=match P.underlying t with
 | some (.struct _)=>true
 | _=>false
theorem qxJ {base n:Nat} {r:Reach} {t:TypeId} {ti:TI} {v:Value} {d:DataW H} {p:List MemPlace} (hty:qcJ P n t=some ti.ty) (hag:qyv P t=ti.agg) (hv:Value.okWide P w r base t v) (h:DataW.Trod enc P w 0 spare held t v d p):
 ∃x:Val ti.ty,∃cs,K w (fun _=>True) ti.ty x cs∧qai ti.agg cs v∧Sm ti.ty x:=by
 obtain ⟨fuel,hf⟩:=h
 obtain ⟨x,hk,hs⟩:=qlC n hty hf
 refine ⟨x,_,hk,?_,hs⟩
 rw [←hag]
 unfold qyv
 cases n with
 | zero=>simp [qcJ]at hty
 | succ n=>
   unfold qcJ at hty
   split at hty
   ·rename_i k hu
    rw [hu]
    simp only [qai]
    obtain ⟨m,hc,_⟩:=DataW.trod_int hu hf
    simp only [Value.okWide,hu,Cell.okWide]at hv
    cases v<;>simp_all [Cell.ok,Value.cells]
   ·rename_i hu
    rw [hu]
    simp only [qai]
    simp only [Value.okWide,hu,Cell.okWide]at hv
    cases v<;>simp_all [Cell.ok,Value.cells]
   ·rename_i hu
    rw [hu]
    simp only [qai]
    obtain ⟨s,rfl⟩:=okWide_string hu hv
    simp [Value.cells]
   ·rename_i e hu
    rw [hu]
    simp only [qai]
    obtain ⟨a,l,c,rfl⟩:=okWide_slice hu hv
    simp [Value.cells]
   ·rename_i fs hu
    rw [hu]
    simp only [qai]
    obtain ⟨cs,rfl,_⟩:=okWide_struct hu hv
    simp [Value.cells]
   ·simp at hty
end
end Go.T
/- T: sizes, equality, bounds of values. -/
namespace Go.T
open Go
def szL {α:Type} (f:α→Int→Int):List α→Int→Int
 | [],n=>n
 | x::r,n=>if f x n<0 then -1 else szL f r (f x n)
def szV:(t:Ty)→Val t→Int→Int
 | .int _,_,n=>n
 | .bool,_,n=>n
 | .str,s,n=>if n - s.size<0 then -1 else n - s.size
 | .hdr,_,n=>n
 | .slice _ t,xs,n=>if n - xs.length<0 then -1 else szL (szV t) xs (n - xs.length)
 | .pair a b,v,n=>if szV a v.1 n<0 then -1 else szV b v.2 (szV a v.1 n)
def Bd:(t:Ty)→Val t→Prop
 | .int _,_=>True
 | .bool,_=>True
 | .str,s=>s.size≤1048576
 | .hdr,_=>True
 | .slice _ t,xs=>xs.length≤1048576∧ ∀x∈xs,Bd t x
 | .pair a b,v=>Bd a v.1∧Bd b v.2
theorem qys {α:Type} {f:α→Int→Int} (hf: ∀x n,0≤n→f x n≤n∧(f x n<0→f x n= -1)): ∀(xs:List α) (n:Int),0≤n→szL f xs n≤n∧(szL f xs n<0→szL f xs n= -1)
 | [],n,h=>⟨Int.le_refl _,fun h'=>by simp only [szL]at h' ⊢;omega⟩
 | x::r,n,h=>by
   have h1:=hf x n h
   simp only [szL]
   split
   ·exact ⟨by omega,fun _=>rfl⟩
   ·have:=qys hf r (f x n) (by omega)
    exact ⟨by omega,this.2⟩
theorem qbN: ∀(t:Ty) (x:Val t) (n:Int),0≤n→szV t x n≤n∧(szV t x n<0→szV t x n= -1)
 | .int _,_,n,h=>⟨Int.le_refl _,fun h'=>by simp only [szV]at h' ⊢;omega⟩
 | .bool,_,n,h=>⟨Int.le_refl _,fun h'=>by simp only [szV]at h' ⊢;omega⟩
 | .str,s,n,h=>by simp only [szV];split<;>omega
 | .hdr,_,n,h=>⟨Int.le_refl _,fun h'=>by simp only [szV]at h' ⊢;omega⟩
 | .slice _ t,xs,n,h=>by
   simp only [szV]
   split
   ·exact ⟨by omega,fun _=>rfl⟩
   ·have:=qys (f:=szV t) (fun x n h=>qbN t x n h) xs (n - xs.length) (by omega)
    exact ⟨by omega,this.2⟩
 | .pair a b,v,n,h=>by
   simp only [szV]
   have h1:=qbN a v.1 n h
   split
   ·exact ⟨by omega,fun _=>rfl⟩
   ·have:=qbN b v.2 (szV a v.1 n) (by omega)
    exact ⟨by omega,this.2⟩
theorem qy0 {α:Type} {f:α→Int→Int} {B:α→Prop} (hf: ∀x n,0≤n→n≤1048576→0≤f x n→f x n≤n∧B x): ∀(xs:List α) (n:Int),0≤n→n≤1048576→0≤szL f xs n→ ∀x∈xs,B x
 | [],_,_,_,_=>by simp
 | x::r,n,h0,h1,h=>by
   simp only [szL]at h
   split at h
   ·omega
   ·rename_i hx
    have:=hf x n h0 h1 (by omega)
    intro y hy
    rcases List.mem_cons.1 hy with rfl | hy
    ·exact this.2
    ·exact qy0 hf r (f x n) (by omega) (by omega) h y hy
theorem qiP: ∀(t:Ty) (x:Val t) (n:Int),0≤n→n≤1048576→0≤szV t x n→Bd t x
 | .int _,_,_,_,_,_=>trivial
 | .bool,_,_,_,_,_=>trivial
 | .hdr,_,_,_,_,_=>trivial
 | .str,s,n,h0,h1,h=>by
   simp only [szV]at h
   split at h
   ·omega
   ·simp only [Bd];omega
 | .slice _ t,xs,n,h0,h1,h=>by
   simp only [szV]at h
   split at h
   ·omega
   ·refine ⟨by omega,?_⟩
    exact qy0 (f:=szV t) (fun x n h0 h1 h=>⟨(qbN t x n h0).1,qiP t x n h0 h1 h⟩) xs _ (by omega) (by omega) h
 | .pair a b,v,n,h0,h1,h=>by
   simp only [szV]at h
   split at h
   ·omega
   ·have:=qbN a v.1 n h0
    exact ⟨qiP a v.1 n h0 h1 (by omega),qiP b v.2 _ (by omega) (by omega) h⟩
theorem qzg {α:Type} {f:α→Int→Int} (hf: ∀x n,f x n=n): ∀(xs:List α) (n:Int),0≤n→szL f xs n=n
 | [],_,_=>rfl
 | x::r,n,h=>by simp only [szL,hf];rw [if_neg (by omega),qzg hf r n h]
def eqL {α:Type} (f:α→α→Bool):List α→List α→Bool
 | [],[]=>true
 | x::xs,y::ys=>f x y&&eqL f xs ys
 | _,_=>false
def eqV:(t:Ty)→Val t→Val t→Bool
 | .int _,a,b=>decide ((a:Int)=b)
 | .bool,a,b=>(a:Bool)==b
 | .str,a,b=>ByteArray.toList a==ByteArray.toList b
 | .hdr,_,_=>true
 | .slice _ t,xs,ys=>eqL (eqV t) xs ys
 | .pair a b,v,u=>eqV a v.1 u.1&&eqV b v.2 u.2
theorem qy7 {α:Type} {f:α→α→Bool} (hf: ∀x,f x x=true): ∀xs:List α,eqL f xs xs=true
 | []=>rfl
 | x::xs=>by simp [eqL,hf,qy7 hf xs]
theorem qgB: ∀(t:Ty) (x:Val t),eqV t x x=true
 | .int _,x=>by simp [eqV]
 | .bool,x=>by simp [eqV]
 | .str,x=>by simp [eqV]
 | .hdr,x=>by simp [eqV]
 | .slice _ t,xs=>by simp only [eqV];exact qy7 (qgB t) xs
 | .pair a b,v=>by simp [eqV,qgB a v.1,qgB b v.2]
theorem qeC {α:Type} {f:α→α→Bool}: ∀(xs ys:List α),xs.length≠ys.length→eqL f xs ys=false
 | [],[],h=>absurd rfl h
 | [],_::_,_=>rfl
 | _::_,[],_=>rfl
 | x::xs,y::ys,h=>by simp [eqL,qeC xs ys (by simpa using h)]
theorem qxS {a b:Ty} {v:Val a×Val b} {n:Int}:szV (.pair a b) v n=if szV a v.1 n<0 then -1 else szV b v.2 (szV a v.1 n):=rfl
theorem qxG {s:ByteArray} {n:Int}:szV .str s n=if n - s.size<0 then -1 else n - s.size:=rfl
theorem qf7 {e:Nat} {t:Ty} {xs:List (Val t)} {n:Int}:szV (.slice e t) xs n=if n - xs.length<0 then -1 else szL (szV t) xs (n - xs.length):=rfl
theorem qyh {a b:Ty} {v:Val a×Val b} {n:Int} (h:szV a v.1 n<0):szV (.pair a b) v n= -1:=by rw [qxS,if_pos h]
theorem qyn {a b:Ty} {v:Val a×Val b} {n:Int} (h:0≤szV a v.1 n):szV (.pair a b) v n=szV b v.2 (szV a v.1 n):=by rw [qxS,if_neg (by omega)]
theorem qA6 {s:ByteArray} {n:Int} (h:n - s.size<0):szV .str s n= -1:=by rw [qxG,if_pos h]
theorem qza {s:ByteArray} {n:Int} (h:0≤n - s.size):szV .str s n=n - s.size:=by rw [qxG,if_neg (by omega)]
theorem qGs {t:Ty} (h: ∀(x:Val t) n,szV t x n=n) (xs:List (Val t)) (n:Int) (hn:0≤n):szL (szV t) xs n=n:=qzg h xs n hn
theorem qGd {i n:Nat} (h:i<n) (hn:n≤1048576):IntKind.i64.wrap ((i:Int)+1)=((i+1:Nat):Int):=by
 rw [IntKind.wrap_i64];omega
def qcd (t:Ty) (x:Val t) (n:Int):Prop:=Sm t x∧0≤n∧n≤1048576
def qb1 {α:Type} (xs:List α) (d:α) (i:Nat):List α:=xs.take i++List.replicate (xs.length - i) d
theorem qI1 {α:Type} {xs:List α} {d:α} {i:Nat} (h:i≤xs.length):(qb1 xs d i).length=xs.length:=by
 simp [qb1];omega
theorem qCD {α:Type} (xs:List α) (d:α):List.replicate xs.length d=qb1 xs d 0:=by simp [qb1]
theorem qCr {α:Type} {xs:List α} {d:α} {i:Nat} (h:xs.length≤i):qb1 xs d i=xs:=by
 simp [qb1,List.take_of_length_le h,Nat.sub_eq_zero_of_le h]
theorem qH1 {α:Type} {xs:List α} {d d':α} {i:Nat} (h:i<xs.length):(qb1 xs d i).set i (xs[i]?.getD d')=qb1 xs d (i+1):=by
 have e1:xs.length - i=(xs.length - (i+1))+1:=by omega
 have e2:i - (xs.take i).length=0:=by simp;omega
 unfold qb1
 rw [e1,List.replicate_succ,List.set_append_right _ _ (by simp;omega),e2,List.set_cons_zero,List.getElem?_eq_getElem h,Option.getD_some]
 have e3:xs.take (i+1)=xs.take i++[xs[i]]:=by rw [List.take_add_one,List.getElem?_eq_getElem h];rfl
 rw [e3,List.append_assoc];rfl
theorem qbw {n:Int} (h1: -9223372036854775808≤n) (h2:n≤9223372036854775807):IntKind.i64.wrap n=n:=by
 rw [IntKind.wrap_i64];omega
def qyr:Nat→Nat→Tree→Tree
 | _,0,t=>t
 | i,n+1,t=> .quiet i (qyr (i+1) n t)
attribute [simp] qyr
end Go.T
/- T: nil slices as rows of no elements. -/
namespace Go.T
open Go
inductive Fix
 | env (j c e:Nat) (t:Ty)
 | box (j c e:Nat) (t:Ty)
 | und (j c e:Nat) (t:Ty)
 | nse (j c e:Nat) (t:Ty)
 | nsb (j c e:Nat) (t:Ty)
 | unb (j c e:Nat) (t:Ty)
 | frb (j c e:Nat) (t:Ty)
 | shb (j c e:Nat) (t:Ty)
 | she (j c e:Nat) (t:Ty)
structure Nm where
 keep:List Bool
 fix:List Fix:=[]
 zero:Bool:=false
def St.undp (st:St) (id:Nat):St:=match st.heap[id]? with
 | some (.row e t xs true mt _)=>{env:=st.env,heap:=st.heap.set id (.row e t xs false mt st.heap.length)}
 | _=>st
def St.frz (st:St) (id:Nat):St:={env:=st.env,heap:=freeze st.heap [id]}
def St.fix1 (st:St):Fix→St
 | .env j c e t=>match st.env[j]? with
   | some (.one .nils)=>{env:=st.env.set j (.one (.own st.heap.length)),heap:=st.heap++[.row e t [] true true 0]}
   | some (.agg cs)=>match cs[c]? with
     | some .nils=>{env:=st.env.set j (.agg (cs.set c (.own st.heap.length))),heap:=st.heap++[.row e t [] true true 0]}
     | _=>st
   | _=>st
 | .box j c e t=>match st.env[j]? with
   | some (.one (.ptr id _ _))=>match st.heap[id]? with
     | some (.box cs)=>match cs[c]? with
       | some .nils=>{env:=st.env,heap:=st.heap.set id (.box (cs.set c (.own st.heap.length)))++[.row e t [] true true 0]}
       | _=>st
     | _=>st
   | _=>st
 | .nse j c e t=>match st.env[j]? with
   | some (.one .nils)=>{env:=st.env.set j (.one (.sl e t [] st.heap.length)),heap:=st.heap}
   | some (.agg cs)=>match cs[c]? with
     | some .nils=>{env:=st.env.set j (.agg (cs.set c (.sl e t [] st.heap.length))),heap:=st.heap}
     | _=>st
   | _=>st
 | .nsb j c e t=>match st.env[j]? with
   | some (.one (.ptr id _ _))=>match st.heap[id]? with
     | some (.box cs)=>match cs[c]? with
       | some .nils=>{env:=st.env,heap:=st.heap.set id (.box (cs.set c (.sl e t [] st.heap.length)))}
       | _=>st
     | _=>st
   | _=>st
 | .und j c _ _=>match st.env[j]? with
   | some lv=>match lv.cells[c]? with
     | some (.own id)=>st.undp id
     | _=>st
   | _=>st
 | .unb j c _ _=>match st.env[j]? with
   | some (.one (.ptr b _ _))=>match st.heap[b]? with
     | some (.box cs)=>match cs[c]? with
       | some (.own id)=>st.undp id
       | _=>st
     | _=>st
   | _=>st
 | .frb j c _ _=>match st.env[j]? with
   | some (.one (.ptr b _ _))=>match st.heap[b]? with
     | some (.box cs)=>match cs[c]? with
       | some (.own id)=>st.frz id
       | _=>st
     | _=>st
   | _=>st
 | .shb j c _ _=>match st.env[j]? with
   | some (.one (.ptr b _ _))=>match st.heap[b]? with
     | some (.box cs)=>match cs[c]? with
       | some (.own id)=>match st.heap[id]? with
         | some (.row e t xs _ false _)=>{env:=st.env,heap:=st.heap.set b (.box (cs.set c (.sl e t xs st.heap.length)))}
         | _=>st
       | _=>st
     | _=>st
   | _=>st
 | .she j c _ _=>match st.env[j]? with
   | some (.one (.own id))=>match st.heap[id]? with
     | some (.row e t xs _ _ _)=>{env:=st.env.set j (.one (.sl e t xs st.heap.length)),heap:=freeze st.heap [id]}
     | _=>st
   | some (.agg cs)=>match cs[c]? with
     | some (.own id)=>match st.heap[id]? with
       | some (.row e t xs _ _ _)=>{env:=st.env.set j (.agg (cs.set c (.sl e t xs st.heap.length))),heap:=freeze st.heap [id]}
       | _=>st
     | _=>st
   | _=>st
def St.fixes (st:St):List Fix→St
 | []=>st
 | f::r=>(st.fix1 f).fixes r
def St.norm (nm:Nm) (st:St):St:=(st.fixes nm.fix).gc nm.zero nm.keep
section
variable {w0 w : World} {mine : Mine} {m : Mp} {h : List Blk}
theorem HR.rebox (H:HR w0 mine w m h) {id:Nat} {cs cs':List LC} (hb:h[id]?=some (.box cs)) (hc: ∀vs:List Value,F2 (C w m h) cs vs→F2 (C w m h) cs' vs):
 HR w0 mine w m (h.set id (.box cs'))∧Oks w w m m h (h.set id (.box cs'))∧qI m m h (h.set id (.box cs')):=by
 have hid:=(List.getElem?_eq_some_iff.1 hb).1
 have get: ∀j y,(h.set id (.box cs'))[j]?=some y→(j=id∧y= .box cs')∨(j≠id∧h[j]?=some y):=fun j y hy=>by
  rw [List.getElem?_set]at hy
  split at hy
  ·rename_i e;subst e;simp [hid]at hy;exact .inl ⟨rfl,hy.symm⟩
  ·rename_i e;exact .inr ⟨fun e'=>e e'.symm,hy⟩
 have old: ∀j y,(h.set id (.box cs'))[j]?=some y→ ∃y0,h[j]?=some y0∧fpB m j y=fpB m j y0∧ ∀n b,okB m n b j y↔okB m n b j y0:=fun j y hy=>by
  rcases get j y hy with ⟨rfl,rfl⟩ | ⟨_,hy⟩
  ·exact ⟨_,hb,rfl,fun _ _=>Iff.rfl⟩
  ·exact ⟨y,hy,rfl,fun _ _=>Iff.rfl⟩
 have hok:Oks w w m m h (h.set id (.box cs')):=fun n b hb' _=>⟨rfl,hb'.1,fun j y hy=>by
  obtain ⟨y0,h0,_,h2⟩:=old j y hy
  exact (h2 n b).2 (hb'.2 j y0 h0)⟩
 have hs:qI m m h (h.set id (.box cs')):=fun j x hx=>by
  by_cases e:j=id
  ·subst e
   rw [hb]at hx;cases hx
   exact ⟨.box cs',by simp [hid],rfl⟩
  ·refine ⟨x,by rw [List.getElem?_set_ne (fun e'=>e e'.symm)];exact hx,?_⟩
   cases x<;>simp [Sim]
 refine ⟨⟨fun j y hy=> ?_,fun j y hy=> ?_,fun j y j' y' hne hy hy' b hb1 hb2=> ?_,fun j y hy b hb1=> ?_,H.fr,H.mx,H.nx,fun j v hp=> ?_⟩,hok,hs⟩
 ·rcases get j y hy with ⟨rfl,rfl⟩ | ⟨_,hy'⟩
  ·obtain ⟨arr,ty,h1,h2,h3⟩:=H.br j _ hb
   exact ⟨arr,ty,h1,(hc _ h2).imp fun _ _ _ hC=>qch hok hs hC,h3⟩
  ·exact qcj hok hs rfl rfl rfl (fun _ _=>rfl) (H.br j y hy')
 ·obtain ⟨y0,h0,h1,_⟩:=old j y hy
  rw [h1];exact H.nd j y0 h0
 ·obtain ⟨y0,h0,h1,_⟩:=old j y hy
  obtain ⟨y0',h0',h1',_⟩:=old j' y' hy'
  rw [h1]at hb1;rw [h1']at hb2
  exact H.dj j y0 j' y0' hne h0 h0' b hb1 hb2
 ·obtain ⟨y0,h0,h1,_⟩:=old j y hy
  rw [h1]at hb1;exact H.lt j y0 h0 b hb1
 ·obtain ⟨h1,h2⟩:=H.pn j v hp
  exact ⟨by simpa using h1,h2⟩
theorem HR.newNil (H:HR w0 mine w m h) (e:Nat) (t:Ty): ∃m',HR w0 mine w m' (h++[.row e t [] true true 0])∧Oks w w m m' h (h++[.row e t [] true true 0])∧qI m m' h (h++[.row e t [] true true 0])∧
 C w m' (h++[.row e t [] true true 0]) (.own h.length) (.slice none 0 0):=by
 have hf:F2 (qcM w) [.row e t [] true true 0] [((.slice none 0 0:Value),([]:List Nat))]:= .cons ⟨e,t,[],[],rfl,⟨by simp,.inl ⟨rfl,rfl⟩⟩,rfl,rfl⟩ .nil
 obtain ⟨H',hok,hs⟩:=HR.results H (Fr.refl _ w) hf (by simp [qH.fp,Value.ownBlock]) (by simp [qH.fp,Value.ownBlock])
 exact ⟨_,H',hok,hs,(qCX hf (c:= .own h.length) ⟨0,_,rfl,rfl,rfl⟩).1⟩
theorem qbU {α β:Type} {R:α→β→Prop} {cs:List α} {vs:List β} (hf:F2 R cs vs) {c:Nat} {x:α} (hx: ∀v,vs[c]?=some v→R x v):F2 R (cs.set c x) vs:=by
 induction hf generalizing c with
 | nil=>exact .nil
 | cons h1 h2 ih=>cases c with
   | zero=>exact .cons (hx _ rfl) h2
   | succ c=>exact .cons h1 (ih fun v hv=>hx v (by simpa using hv))
theorem HR.undeep (H:HR w0 mine w m h) {id e:Nat} {t:Ty} {xs:List (Val t)} {mt:Bool} {n:Nat} (hb:h[id]?=some (.row e t xs true mt n)):
 HR w0 mine w m (h.set id (.row e t xs false mt h.length))∧Oks w w m m h (h.set id (.row e t xs false mt h.length))∧qI m m h (h.set id (.row e t xs false mt h.length)):=by
 have hid:=(List.getElem?_eq_some_iff.1 hb).1
 have get: ∀j y,(h.set id (.row e t xs false mt h.length))[j]?=some y→(j=id∧y= .row e t xs false mt h.length)∨(j≠id∧h[j]?=some y):=fun j y hy=>by
  rw [List.getElem?_set]at hy
  split at hy
  ·rename_i q;subst q;simp [hid]at hy;exact .inl ⟨rfl,hy.symm⟩
  ·rename_i q;exact .inr ⟨fun q'=>q q'.symm,hy⟩
 have fpsub: ∀j y,(h.set id (.row e t xs false mt h.length))[j]?=some y→ ∃y0,h[j]?=some y0∧ ∀b∈fpB m j y,b∈fpB m j y0:=fun j y hy=>by
  rcases get j y hy with ⟨rfl,rfl⟩ | ⟨_,hy⟩
  ·refine ⟨_,hb,fun b hb'=> ?_⟩
   have hb':b∈(m.val j).ownBlock.toList++[]:=hb'
   rw [List.append_nil]at hb'
   exact List.mem_append_left _ hb'
  ·exact ⟨y,hy,fun _ h=>h⟩
 have hok:Oks w w m m h (h.set id (.row e t xs false mt h.length)):=fun k b hk _=>⟨rfl,hk.1,fun j y hy=>by
  rcases get j y hy with ⟨rfl,rfl⟩ | ⟨_,hy⟩
  ·exact ⟨(hk.2 j _ hb).1,fun h=>by simp at h⟩
  ·exact hk.2 j y hy⟩
 have hs:qI m m h (h.set id (.row e t xs false mt h.length)):=fun j x hx=>by
  by_cases q:j=id
  ·subst q
   rw [hb]at hx;cases hx
   exact ⟨_,List.getElem?_set_self hid,rfl,rfl⟩
  ·refine ⟨x,by rw [List.getElem?_set_ne (fun q'=>q q'.symm)];exact hx,?_⟩
   cases x<;>simp [Sim]
 obtain ⟨inner,ho,hms,_⟩:=H.br id _ hb
 have hnd:=H.nd id _ hb
 simp only [fpB]at hnd
 refine ⟨⟨fun j y hy=> ?_,fun j y hy=> ?_,fun j y j' y' hne hy hy' b h1 h2=> ?_,fun j y hy b h1=> ?_,H.fr,H.mx,H.nx,fun j v hp=> ?_⟩,hok,hs⟩
 ·rcases get j y hy with ⟨rfl,rfl⟩ | ⟨_,hy⟩
  ·refine ⟨inner,ho,hms.toKs fun x c B hB hM=>M_K hM fun b hbB=> ?_⟩
   have hbn:b∈m.nst j:=hB b hbB
   have hbf:b∈fpB m j (.row e t xs true mt n):=List.mem_append_right _ hbn
   refine ⟨by rw [H.mx];exact H.nx b (H.lt j _ hb b hbf).2,fun i z hz=> ?_⟩
   rcases get i z hz with ⟨rfl,rfl⟩ | ⟨hi,hz⟩
   ·refine ⟨fun _ ho'=> ?_,fun h=>by simp at h⟩
    exact (List.nodup_append.1 hnd).2.2 b (by simp [ho']) b hbn rfl
   ·have hdj:=H.dj j _ i z (fun q=>hi q.symm) hb hz b hbf
    cases z with
    | dead=>trivial
    | box cs=>show b≠m.blk i;simpa [fpB] using hdj
    | nst F t hs vs=>exact hdj
    | row e' t' xs' dp mt' k=>
      simp only [fpB,List.mem_append,not_or]at hdj
      refine ⟨fun _ hob=>hdj.1 (by simp [hob]),fun hd _ hm=> ?_⟩
      subst hd
      exact hdj.2 hm
  ·exact qcj hok hs rfl rfl rfl (fun _ _=>rfl) (H.br j y hy)
 ·rcases get j y hy with ⟨rfl,rfl⟩ | ⟨_,hy⟩
  ·show ((m.val j).ownBlock.toList++[]).Nodup
   rw [List.append_nil]
   exact (List.nodup_append.1 hnd).1
  ·exact H.nd j y hy
 ·obtain ⟨z,hz,hz1⟩:=fpsub j y hy
  obtain ⟨z',hz',hz1'⟩:=fpsub j' y' hy'
  exact H.dj j z j' z' hne hz hz' b (hz1 b h1) (hz1' b h2)
 ·obtain ⟨z,hz,hz1⟩:=fpsub j y hy
  exact H.lt j z hz b (hz1 b h1)
 ·obtain ⟨h1,h2⟩:=H.pn j v hp
  exact ⟨by simpa using h1,h2⟩
theorem Le.undp (st:St) (id:Nat):Le st (st.undp id):=fun w0 mine a w hp hr=>by
 unfold St.undp
 split
 ·rename_i e t xs mt n hb
  obtain ⟨hd,m,H,he⟩:=hr
  obtain ⟨H',hok,hs⟩:=H.undeep hb
  exact ⟨hd,m,H',q5 hok hs he⟩
 ·exact hr
theorem Le.frz (st:St) (id:Nat):Le st (st.frz id):=fun w0 mine a w hp hr=>by
 obtain ⟨hd,m,H,he⟩:=hr
 obtain ⟨H',hok,hs⟩:=H.weaker (qD.freeze st.heap [id])
 exact ⟨hd,m,H',q5 hok hs he⟩
theorem quY {m:Mp} {v:Value} {e n:Nat} {t:Ty} (h1:C w m h .nils v):C w m h (.sl e t [] n) v:=by
 have h1:v= .slice none 0 0:=h1
 exact ⟨none,0,h1,Nat.le_refl _,fun i x hx=>by simp at hx⟩
theorem qGE {h:List Blk} {id e n:Nat} {t:Ty} {xs:List (Val t)} {dp:Bool} (hy:h[id]?=some (.row e t xs dp false n)):freeze h [id]=h:=by
 unfold freeze
 simp only [List.foldl_cons,List.foldl_nil]
 refine List.ext_getElem? fun i=> ?_
 rw [List.getElem?_modify]
 by_cases hi:id=i
 ·subst hi
  rw [hy];simp [Blk.froze]
 ·simp [hi]
theorem Le.fix1 (st:St) (f:Fix):Le st (st.fix1 f):=fun w0 mine a w hp hr=>by
 obtain ⟨hd,m,H,he⟩:=hr
 cases f with
 | env j c e t=>
   simp only [St.fix1]
   split
   ·rename_i hj
    obtain ⟨m',H',hok,hs,hc⟩:=H.newNil e t
    refine ⟨hd,m',H',qbU (q5 hok hs he) fun v hv=> ?_⟩
    obtain ⟨v',hv',hV⟩:=he.get hj
    rw [hv]at hv';cases hv'
    have:v= .slice none 0 0:=hV
    subst this
    exact hc
   ·rename_i cs hj
    split
    ·rename_i hc'
     obtain ⟨m',H',hok,hs,hc⟩:=H.newNil e t
     refine ⟨hd,m',H',qbU (q5 hok hs he) fun v hv=> ?_⟩
     obtain ⟨v',hv',hV⟩:=he.get hj
     rw [hv]at hv';cases hv'
     obtain ⟨vs,rfl,hf⟩:=hV
     refine ⟨vs,rfl,qbU (hf.imp fun _ _ _ h=>qch hok hs h) fun u hu=> ?_⟩
     obtain ⟨u',hu',hC⟩:=hf.get hc'
     rw [hu]at hu';cases hu'
     have:u= .slice none 0 0:=hC
     subst this
     exact hc
    ·exact ⟨hd,m,H,he⟩
   ·exact ⟨hd,m,H,he⟩
 | box j c e t=>
   simp only [St.fix1]
   split
   ·rename_i id i f hj
    split
    ·rename_i cs hb
     split
     ·rename_i hc'
      obtain ⟨m',H',hok,hs,hc⟩:=H.newNil e t
      have hid:=(List.getElem?_eq_some_iff.1 hb).1
      have hb':(st.heap++[Blk.row e t [] true true 0])[id]?=some (.box cs):=by rw [List.getElem?_append_left hid];exact hb
      obtain ⟨H2,hok2,hs2⟩:=H'.rebox hb' (cs':=cs.set c (.own st.heap.length)) fun vs hf=>qbU hf fun u hu=>by
           obtain ⟨u',hu',hC⟩:=hf.get hc'
           rw [hu]at hu';cases hu'
           have:u= .slice none 0 0:=hC
           subst this
           exact hc
      rw [List.set_append_left _ _ hid]at H2 hok2 hs2
      exact ⟨hd,m',H2,q5 hok2 hs2 (q5 hok hs he)⟩
     ·exact ⟨hd,m,H,he⟩
    ·exact ⟨hd,m,H,he⟩
   ·exact ⟨hd,m,H,he⟩
 | nse j c e t=>
   simp only [St.fix1]
   split
   ·rename_i hj
    refine ⟨hd,m,H,qbU he fun v hv=> ?_⟩
    obtain ⟨v',hv',hV⟩:=he.get hj
    rw [hv]at hv';cases hv'
    exact quY (e:=e) (t:=t) hV
   ·rename_i cs hj
    split
    ·rename_i hc'
     refine ⟨hd,m,H,qbU he fun v hv=> ?_⟩
     obtain ⟨v',hv',hV⟩:=he.get hj
     rw [hv]at hv';cases hv'
     obtain ⟨vs,rfl,hf⟩:=hV
     refine ⟨vs,rfl,qbU hf fun u hu=> ?_⟩
     obtain ⟨u',hu',hC⟩:=hf.get hc'
     rw [hu]at hu';cases hu'
     exact quY hC
    ·exact ⟨hd,m,H,he⟩
   ·exact ⟨hd,m,H,he⟩
 | nsb j c e t=>
   simp only [St.fix1]
   split
   ·rename_i id i f hj
    split
    ·rename_i cs hb
     split
     ·rename_i hc'
      obtain ⟨H2,hok2,hs2⟩:=H.rebox hb (cs':=cs.set c (.sl e t [] st.heap.length)) fun vs hf=>qbU hf fun u hu=>by
           obtain ⟨u',hu',hC⟩:=hf.get hc'
           rw [hu]at hu';cases hu'
           exact quY hC
      exact ⟨hd,m,H2,q5 hok2 hs2 he⟩
     ·exact ⟨hd,m,H,he⟩
    ·exact ⟨hd,m,H,he⟩
   ·exact ⟨hd,m,H,he⟩
 | und j c e t=>
   have hr:R w0 mine st a w:=⟨hd,m,H,he⟩
   simp only [St.fix1]
   split
   ·split
    ·exact Le.undp st _ w0 mine a w hp hr
    ·exact hr
   ·exact hr
 | unb j c e t=>
   have hr:R w0 mine st a w:=⟨hd,m,H,he⟩
   simp only [St.fix1]
   split
   ·split
    ·split
     ·exact Le.undp st _ w0 mine a w hp hr
     ·exact hr
    ·exact hr
   ·exact hr
 | frb j c e t=>
   have hr:R w0 mine st a w:=⟨hd,m,H,he⟩
   simp only [St.fix1]
   split
   ·split
    ·split
     ·exact Le.frz st _ w0 mine a w hp hr
     ·exact hr
    ·exact hr
   ·exact hr
 | shb j c e t=>
   simp only [St.fix1]
   split
   ·rename_i b i f hj
    split
    ·rename_i cs hb
     split
     ·rename_i id hc'
      split
      ·rename_i e' t' xs dp n hy
       obtain ⟨H2,hok2,hs2⟩:=H.rebox hb (cs':=cs.set c (.sl e' t' xs st.heap.length)) fun vs hf=>qbU hf fun u hu=>by
             obtain ⟨u',hu',hC⟩:=hf.get hc'
             rw [hu]at hu';cases hu'
             have:=qjS H hy hC
             rw [qGE hy]at this
             exact this
       exact ⟨hd,m,H2,q5 hok2 hs2 he⟩
      ·exact ⟨hd,m,H,he⟩
     ·exact ⟨hd,m,H,he⟩
    ·exact ⟨hd,m,H,he⟩
   ·exact ⟨hd,m,H,he⟩
 | she j c e t=>
   simp only [St.fix1]
   split
   ·rename_i id hj
    split
    ·rename_i e' t' xs dp mt n hy
     obtain ⟨H',hok,hs⟩:=H.weaker (qD.freeze st.heap [id])
     refine ⟨hd,m,H',qbU (q5 hok hs he) fun v hv=> ?_⟩
     obtain ⟨v',hv',hV⟩:=he.get hj
     rw [hv]at hv';cases hv'
     exact qjS H hy hV
    ·exact ⟨hd,m,H,he⟩
   ·rename_i cs hj
    split
    ·rename_i id hc'
     split
     ·rename_i e' t' xs dp mt n hy
      obtain ⟨H',hok,hs⟩:=H.weaker (qD.freeze st.heap [id])
      refine ⟨hd,m,H',qbU (q5 hok hs he) fun v hv=> ?_⟩
      obtain ⟨v',hv',hV⟩:=he.get hj
      rw [hv]at hv';cases hv'
      obtain ⟨vs,rfl,hf⟩:=hV
      refine ⟨vs,rfl,qbU (hf.imp fun _ _ _ h=>qch hok hs h) fun u hu=> ?_⟩
      obtain ⟨u',hu',hC⟩:=hf.get hc'
      rw [hu]at hu';cases hu'
      exact qjS H hy hC
     ·exact ⟨hd,m,H,he⟩
    ·exact ⟨hd,m,H,he⟩
   ·exact ⟨hd,m,H,he⟩
theorem Le.fixes: ∀(l:List Fix) (st:St),Le st (st.fixes l)
 | [],st=>Le.refl st
 | f::r,st=>(Le.fix1 st f).trans (Le.fixes r _)
theorem Le.norm (nm:Nm) (st:St):Le st (st.norm nm):=(Le.fixes nm.fix st).trans (Le.gc _ nm.zero nm.keep)
end
def LC.clamp (L:Nat):LC→LC
 | .sl e t xs n=>if n≤L then .sl e t xs n else .undef
 | .tptr t v f n=>if n≤L then .tptr t v f n else .undef
 | c=>c
def LV.clamp (L:Nat):LV→LV
 | .one c=> .one (c.clamp L)
 | .agg cs=> .agg (cs.map (LC.clamp L))
 | .tup _=> .one .undef
def Blk.clamp (L:Nat):Blk→Blk
 | .box cs=> .box (cs.map (LC.clamp L))
 | .row e t xs false mt n=>if n≤L then .row e t xs false mt n else .dead
 | b=>b
inductive Pre
 | opn (id:Nat) (t:Ty)
 | cls (id j:Nat) (t:Ty) (sel:List (Val t)→List Nat)
def qw6 (st:St) (id e:Nat) (t:Ty) (mt:Bool) (n:Nat) (F:List Nat) (hs:List (Val (hd t))) (xs:List (Val t)):St:=
 ⟨st.env.map (LV.clamp n),(st.heap.map (Blk.clamp n)).set id (.row e (hd t) hs true mt 0)++[.nst F t hs xs]⟩
end Go.T
/- T: names of elements: a row whose elements are told by their slice values, and back. -/
namespace Go.T
open Go
section
variable {w0 w w' : World} {mine : Mine} {m m' : Mp} {h : List Blk}
structure Keeps (w w':World) (m m':Mp) (h h':List Blk) (L:Nat):Prop where
 ok: ∀n b,n≤L→ql m h n b→b<w.heap.size→w'.heap[b]?=w.heap[b]?∧ql m' h' n b
 sim: ∀id x,h[id]?=some x→ ∃x',h'[id]?=some x'∧Sim m m' id x x'
theorem qn1 {h':List Blk} {L:Nat} (K:Keeps w w' m m' h h' L): ∀{c:LC} {v:Value},C w m h c v→C w' m' h' (c.clamp L) v
 | .int _ _,_,hc | .bool _,_,hc | .str _,_,hc | .hdr _,_,hc | .nils,_,hc | .nilp,_,hc | .fn _,_,hc=>hc
 | .undef,_,_=>trivial
 | .clo f ids,v,hc=>qzC (w':=w') K.sim hc
 | .sl e t xs n,v,hc=>by
   simp only [LC.clamp]
   split
   ·rename_i hn
    obtain ⟨A,c,he,hl,hr⟩:=hc
    exact ⟨A,c,he,hl,qff (fun b hb hlt=>(K.ok n b hn hb hlt).1) (fun b hb hlt=>(K.ok n b hn hb hlt).2) hr⟩
   ·trivial
 | .tptr t x f n,v,hc=>by
   simp only [LC.clamp]
   split
   ·rename_i hn
    obtain ⟨a,cs,he,hk,hat,hb⟩:=hc
    have hlt: ∀hl:0<cs.length,a.block<w.heap.size:=fun hl=>hat.block_lt hl
    have hp:0<cs.length:=by rw [qad hk];exact Ty.sz_pos t
    exact ⟨a,cs,he,q9 (fun b hb hlt=>(K.ok n b hn hb hlt).1) (fun b hb hlt=>(K.ok n b hn hb hlt).2) hk,hat.move (K.ok n _ hn hb (hlt hp)).1,(K.ok n _ hn hb (hlt hp)).2⟩
   ·trivial
 | .own id,v,hc=>by
   simp only [LC.clamp,C]at hc ⊢
   cases hx:h[id]? with
   | none=>rw [hx]at hc;exact hc.elim
   | some x=>
     obtain ⟨x',hx',hs⟩:=K.sim id x hx
     rw [hx]at hc
     rw [hx']
     cases x<;>cases x'<;>simp_all [Sim]
 | .ptr id i f,v,hc=>by
   simp only [LC.clamp,C]at hc ⊢
   cases hx:h[id]? with
   | none=>rw [hx]at hc;exact hc.elim
   | some x=>
     obtain ⟨x',hx',hs⟩:=K.sim id x hx
     rw [hx]at hc
     rw [hx']
     cases x<;>cases x'<;>simp_all [Sim]
     all_goals try (obtain ⟨g,hg,rfl⟩:=hc;rfl)
theorem qDB {h':List Blk} {L:Nat} (K:Keeps w w' m m' h h' L) {cs:List LC} {us:List Value} (hf:F2 (C w m h) cs us):F2 (C w' m' h') (cs.map (LC.clamp L)) us:=by
 induction hf with
 | nil=>exact .nil
 | cons h1 _ ih=>exact .cons (qn1 K h1) ih
theorem qIU {h':List Blk} {L:Nat} (K:Keeps w w' m m' h h' L): ∀{l:LV} {v:Value},V w m h l v→V w' m' h' (l.clamp L) v
 | .one c,v,hv=>qn1 K (c:=c) hv
 | .agg cs,v,hv=>by
   obtain ⟨vs,he,hf⟩:=hv
   refine ⟨vs,he,?_⟩
   clear he
   generalize vs.toList=us at hf
   induction hf with
   | nil=>exact .nil
   | cons h1 _ ih=>exact .cons (qn1 K h1) ih
 | .tup _,_,_=>trivial
theorem qBU {h':List Blk} {L:Nat} (K:Keeps w w' m m' h h' L) {env:List LV} {vs:List Value} (hf:F2 (V w m h) env vs):F2 (V w' m' h') (env.map (LV.clamp L)) vs:=by
 induction hf with
 | nil=>exact .nil
 | cons h1 _ ih=>exact .cons (qIU K h1) ih
end
section
variable {w0 w w' : World} {mine : Mine} {m m' : Mp} {h : List Blk} {st : St} {a : Act}
theorem HR.opn (H:HR w0 mine w m h) {id e:Nat} {t:Ty} {xs:List (Val t)} {mt:Bool} {n:Nat} (hx:h[id]?=some (.row e t xs true mt n)):
 ∃(hs:List (Val (hd t))) (F:List Nat) (m':Mp),qlA t hs xs∧HR w0 mine w m' ((h.map (Blk.clamp n)).set id (.row e (hd t) hs true mt 0)++[.nst F t hs xs])∧Keeps w w m m' h ((h.map (Blk.clamp n)).set id (.row e (hd t) hs true mt 0)++[.nst F t hs xs]) n:=by
 obtain ⟨inner,ho,hms,hn⟩:=H.br id _ hx
 obtain ⟨hs,m1,n1,e1⟩:=qzX hms
 have g:=qx9 n1 e1
 have hil:id<h.length:=(List.getElem?_eq_some_iff.1 hx).1
 refine ⟨hs,m.nst id,{m with nst:=fun i=>if i=id then []else m.nst i},g,?_⟩
 have hnd:=H.nd id _ hx
 simp only [fpB]at hnd
 have hnd':=List.nodup_append.1 hnd
 have get: ∀i y,((h.map (Blk.clamp n)).set id (.row e (hd t) hs true mt 0)++[.nst (m.nst id) t hs xs])[i]?=some y→(i=id∧y= .row e (hd t) hs true mt 0)∨(i=h.length∧y= .nst (m.nst id) t hs xs)∨(i≠id∧i≠h.length∧ ∃x,h[i]?=some x∧y=x.clamp n):=fun i y hy=>by
  by_cases hl:i<h.length
  ·rw [List.getElem?_append_left (by simpa using hl)]at hy
   rw [List.getElem?_set]at hy
   split at hy
   ·rename_i e';subst e';simp [hl]at hy;exact .inl ⟨rfl,hy.symm⟩
   ·rename_i e'
    rw [List.getElem?_map]at hy
    cases hx':h[i]? with
    | none=>rw [hx']at hy;simp at hy
    | some x=>rw [hx']at hy;simp at hy;exact .inr (.inr ⟨fun q=>e' q.symm,by omega,x,rfl,hy.symm⟩)
  ·rw [List.getElem?_append_right (by simp;omega)]at hy
   have hlen:i - ((h.map (Blk.clamp n)).set id (.row e (hd t) hs true mt 0)).length=i - h.length:=by simp
   rw [hlen]at hy
   have:i - h.length=0:=by
        rcases Nat.eq_zero_or_pos (i - h.length)with h0 | h0
        ·exact h0
        ·rw [List.getElem?_eq_none (by simp;omega)]at hy;simp at hy
   rw [this]at hy
   simp at hy
   exact .inr (.inl ⟨by omega,hy.symm⟩)
 have nout: ∀i,i≠id→(if i=id then []else m.nst i)=m.nst i:=fun i hi=>by simp [hi]
 have fpout: ∀i x,i≠id→ ∀b,b∈fpB {m with nst:=fun i=>if i=id then []else m.nst i} i (x.clamp n)→b∈fpB m i x:=fun i x hi b hb=>by
  cases x with
  | dead=>exact hb
  | box cs=>exact hb
  | nst F t hs vs=>exact hb
  | row e t xs dp mt k=>
    cases dp with
    | true=>
      have hb:b∈(m.val i).ownBlock.toList++(if i=id then []else m.nst i):=hb
      rw [nout i hi]at hb;exact hb
    | false=>
      simp only [Blk.clamp]at hb
      split at hb
      ·exact hb
      ·simp [fpB]at hb
 have K:Keeps w w m {m with nst:=fun i=>if i=id then []else m.nst i} h ((h.map (Blk.clamp n)).set id (.row e (hd t) hs true mt 0)++[.nst (m.nst id) t hs xs]) n:=by
  refine ⟨fun n' b hle hb hl=>⟨rfl,hb.1,fun i y hy=> ?_⟩,fun i x hx'=> ?_⟩
  ·rcases get i y hy with ⟨rfl,rfl⟩ | ⟨rfl,rfl⟩ | ⟨hi,_,x,hx',rfl⟩
   ·exact ⟨(hb.2 _ _ hx).1,fun _ _=>by simp⟩
   ·exact (hb.2 _ _ hx).2 rfl hle
   ·have:=hb.2 i x hx'
    cases x with
    | dead=>trivial
    | box cs=>exact this
    | nst F t hs vs=>exact this
    | row e t xs dp mt k=>
      cases dp with
      | true=>
        refine ⟨this.1,fun h1 h2=> ?_⟩
        show b∉(if i=id then []else m.nst i)
        rw [nout i hi];exact this.2 h1 h2
      | false=>
        simp only [Blk.clamp]
        split
        ·exact ⟨this.1,fun h=>by simp at h⟩
        ·trivial
  ·have hil':i<h.length:=(List.getElem?_eq_some_iff.1 hx').1
   by_cases hi:i=id
   ·subst hi
    rw [hx]at hx';cases hx'
    exact ⟨.row e (hd t) hs true mt 0,by rw [List.getElem?_append_left (by simpa using hil'),List.getElem?_set_self (by simpa using hil')],qeb t,rfl⟩
   ·refine ⟨x.clamp n,by rw [List.getElem?_append_left (by simpa using hil'),List.getElem?_set_ne (fun q=>hi q.symm),List.getElem?_map,hx'];rfl,?_⟩
    have hb:=H.br i x hx'
    cases x with
    | dead=>trivial
    | box cs=>rfl
    | nst F t hs vs=>trivial
    | row e t xs dp mt k=>
      cases dp with
      | true=>exact ⟨rfl,rfl⟩
      | false=>
        simp only [Blk.clamp]
        split
        ·exact ⟨rfl,rfl⟩
        ·exact BR.rowOne hb
 refine ⟨⟨fun i y hy=> ?_,fun i y hy=> ?_,fun i y i' y' hne hy hy' b hb hb'=> ?_,fun i y hy b hb=> ?_,H.fr,H.mx,H.nx,fun i v hp=> ?_⟩,K⟩
 ·rcases get i y hy with ⟨rfl,rfl⟩ | ⟨rfl,rfl⟩ | ⟨hi,_,x,hx',rfl⟩
  ·refine ⟨inner,by rw [qeb,g.1];exact ho,?_,Nat.zero_le _⟩
   simpa using m1
  ·exact n1
  ·have hb:=H.br i x hx'
   cases x with
   | dead=>trivial
   | box cs=>
     obtain ⟨arr,ty,h1,h2,h3⟩:=hb
     exact ⟨arr,ty,h1,qDB K h2,h3⟩
   | nst F t hs vs=>exact hb
   | row e t xs dp mt k=>
     obtain ⟨inner,h1,h2⟩:=hb
     cases dp with
     | true=>
       refine ⟨inner,h1,?_,h2.2⟩
       show Ms (M w t) xs inner (if i=id then []else m.nst i)
       rw [nout i hi];exact h2.1
     | false=>
       simp only [Blk.clamp]
       split
       ·rename_i hle
        exact ⟨inner,h1,h2.imp fun x c hk=>q9 (fun b hb hlt=>(K.ok k b hle hb hlt).1) (fun b hb hlt=>(K.ok k b hle hb hlt).2) hk⟩
       ·trivial
 ·rcases get i y hy with ⟨rfl,rfl⟩ | ⟨rfl,rfl⟩ | ⟨hi,_,x,hx',rfl⟩
  ·show ((m.val i).ownBlock.toList++(if i=i then []else m.nst i)).Nodup
   simpa using hnd'.1
  ·exact hnd'.2.1
  ·have:=H.nd i x hx'
   cases x with
   | dead=>exact this
   | box cs=>exact this
   | nst F t hs vs=>exact this
   | row e t xs dp mt k=>
     cases dp with
     | true=>
       show ((m.val i).ownBlock.toList++(if i=id then []else m.nst i)).Nodup
       rw [nout i hi];exact this
     | false=>
       simp only [Blk.clamp]
       split
       ·exact this
       ·exact List.nodup_nil
 ·have own: ∀b,b∈fpB {m with nst:=fun i=>if i=id then []else m.nst i} id (.row e (hd t) hs true mt 0)→b∈(m.val id).ownBlock.toList:=fun b hb=>by
   have hb:b∈(m.val id).ownBlock.toList++(if id=id then []else m.nst id):=hb
   simpa using hb
  have old: ∀b,b∈(m.val id).ownBlock.toList∨b∈m.nst id→b∈fpB m id (.row e t xs true mt n):=fun b hb=>List.mem_append.2 hb
  rcases get i y hy with ⟨rfl,rfl⟩ | ⟨rfl,rfl⟩ | ⟨hi,hi2,x,hx',rfl⟩
  ·rcases get i' y' hy' with ⟨rfl,rfl⟩ | ⟨rfl,rfl⟩ | ⟨hi',_,x',hx'',rfl⟩
   ·exact hne rfl
   ·exact hnd'.2.2 b (own b hb) b hb' rfl
   ·exact H.dj i _ i' x' hne hx hx'' b (old b (.inl (own b hb))) (fpout i' x' hi' b hb')
  ·rcases get i' y' hy' with ⟨rfl,rfl⟩ | ⟨rfl,rfl⟩ | ⟨hi',_,x',hx'',rfl⟩
   ·exact hnd'.2.2 b (own b hb') b hb rfl
   ·exact hne rfl
   ·exact H.dj id _ i' x' (fun q=>hi' q.symm) hx hx'' b (old b (.inr hb)) (fpout i' x' hi' b hb')
  ·rcases get i' y' hy' with ⟨rfl,rfl⟩ | ⟨rfl,rfl⟩ | ⟨hi',_,x',hx'',rfl⟩
   ·exact H.dj i x i' _ hne hx' hx b (fpout i x hi b hb) (old b (.inl (own b hb')))
   ·exact H.dj i x id _ hi hx' hx b (fpout i x hi b hb) (old b (.inr hb'))
   ·exact H.dj i x i' x' hne hx' hx'' b (fpout i x hi b hb) (fpout i' x' hi' b hb')
 ·rcases get i y hy with ⟨rfl,rfl⟩ | ⟨rfl,rfl⟩ | ⟨hi,_,x,hx',rfl⟩
  ·have hb:b∈(m.val i).ownBlock.toList++(if i=i then []else m.nst i):=hb
   exact H.lt i _ hx b (List.mem_append_left _ (by simpa using hb))
  ·exact H.lt id _ hx b (List.mem_append_right _ hb)
  ·exact H.lt i x hx' b (fpout i x hi b hb)
 ·obtain ⟨h1,h2⟩:=H.pn i v hp
  exact ⟨by simp;omega,h2⟩
theorem qzO {Bs:List (List Nat)} {is:List Nat} {b:Nat} (h:b∈(is.map fun i=>Bs.getD i []).flatten): ∃i∈is,b∈Bs.getD i []:=by
 obtain ⟨l,hl,hb⟩:=List.mem_flatten.1 h
 obtain ⟨i,hi,rfl⟩:=List.mem_map.1 hl
 exact ⟨i,hi,hb⟩
theorem qqj {Bs:List (List Nat)} {i b:Nat} (h:b∈Bs.getD i []):b∈Bs.flatten:=by
 simp only [List.getD]at h
 cases hB:Bs[i]? with
 | none=>rw [hB]at h;simp at h
 | some l=>rw [hB]at h;exact List.mem_flatten.2 ⟨l,List.mem_of_getElem? hB,h⟩
theorem qwR: ∀{Bs:List (List Nat)} {i j b:Nat},Bs.flatten.Nodup→i≠j→b∈Bs.getD i []→b∉Bs.getD j []
 | [],_,_,_,_,_,h=>by simp at h
 | B::Bs,i,j,b,hn,hne,hi=>by
   rw [List.flatten_cons,List.nodup_append]at hn
   cases i with
   | zero=>
     cases j with
     | zero=>exact absurd rfl hne
     | succ j=>exact fun hj=>hn.2.2 b (by simpa using hi) b (qqj (by simpa using hj)) rfl
   | succ i=>
     cases j with
     | zero=>exact fun hj=>hn.2.2 b (by simpa using hj) b (qqj (by simpa using hi)) rfl
     | succ j=>simpa using qwR (i:=i) (j:=j) hn.2.1 (fun q=>hne (by omega)) (by simpa using hi)
theorem qyE: ∀{Bs:List (List Nat)} {i:Nat},Bs.flatten.Nodup→(Bs.getD i []).Nodup
 | [],_,_=>by simp
 | B::Bs,i,hn=>by
   rw [List.flatten_cons,List.nodup_append]at hn
   cases i with
   | zero=>simpa using hn.1
   | succ i=>simpa using qyE (i:=i) hn.2.1
theorem qzJ {Bs:List (List Nat)} (hB:Bs.flatten.Nodup): ∀{is:List Nat},is.Nodup→(is.map fun i=>Bs.getD i []).flatten.Nodup
 | [],_=>by simp
 | i::is,hn=>by
   obtain ⟨h1,h2⟩:=List.nodup_cons.1 hn
   rw [List.map_cons,List.flatten_cons,List.nodup_append]
   refine ⟨qyE hB,qzJ hB h2,fun b hb c hc e=> ?_⟩
   subst e
   obtain ⟨j,hj,hbj⟩:=qzO hc
   exact qwR hB (fun (q:i=j)=>h1 (by rw [q];exact hj)) hb hbj
theorem qyI {t:Ty} {vs:List (Val t)} {hs:List (Val (hd t))} {Bs:List (List Nat)} (hp: ∀i v u,vs[i]?=some v→hs[i]?=some u→Nst w t v u (Bs.getD i [])) (hl:hs.length=vs.length) (hm:qau t vs hs=hs):
 ∀{is:List Nat} {cs:List Value},(∀i∈is,i<vs.length)→Ms (M w (hd t)) (is.map fun i=>hs.getD i (qb (hd t))) cs []→Ms (M w t) (is.map fun i=>vs.getD i (qb t)) cs (is.map fun i=>Bs.getD i []).flatten
 | [],_,_,h=>⟨h.1,rfl⟩
 | i::is,_,hb,h=>by
   obtain ⟨c1,c2,B1,B2,rfl,hB,h1,h2⟩:=h
   have e1:B1=[]:=qe0 h1
   have e2:B2=[]:=qpy h2
   subst e1;subst e2
   have hi:i<vs.length:=hb i (by simp)
   have v1:vs[i]?=some (vs.getD i (qb t)):=by simp [List.getD,hi]
   have u1:hs[i]?=some (hs.getD i (qb (hd t))):=by simp [List.getD,hl,hi]
   refine ⟨c1,c2,_,_,rfl,rfl,qtC (h:=hs.getD i (qb (hd t))) ?_ (hp i _ _ v1 u1),qyI hp hl hm (fun j hj=>hb j (by simp [hj])) h2⟩
   rw [qll hm v1 u1];exact h1
theorem HR.cls (H:HR w0 mine w m h) {id j e:Nat} {t:Ty} {is:List Nat} {hs:List (Val (hd t))} {vs:List (Val t)} {F:List Nat} {mt:Bool} {n:Nat} (hx:h[id]?=some (.row e (hd t) (is.map fun i=>hs.getD i (qb (hd t))) true mt n)) (hj:h[j]?=some (.nst F t hs vs))
 (hnd:is.Nodup) (hb: ∀i∈is,i<vs.length) (hm:qau t vs hs=hs) (hl:hs.length=vs.length):
 ∃m',HR w0 mine w m' ((h.set j .dead).set id (.row e t (is.map fun i=>vs.getD i (qb t)) true mt 0))∧Oks w w m m' h ((h.set j .dead).set id (.row e t (is.map fun i=>vs.getD i (qb t)) true mt 0))∧qI m m' h ((h.set j .dead).set id (.row e t (is.map fun i=>vs.getD i (qb t)) true mt 0)):=by
 obtain ⟨inner,ho,hms,hn⟩:=H.br id _ hx
 have hN:qae w t vs hs F:=H.br j _ hj
 obtain ⟨Bs,hF,_,hp⟩:=qlW hN
 have hFn:Bs.flatten.Nodup:=by have:=H.nd j _ hj;rw [show fpB m j (.nst F t hs vs)=F from rfl,hF]at this;exact this
 have hnil:m.nst id=[]:=qpy hms
 rw [hnil]at hms
 have hil:id<h.length:=(List.getElem?_eq_some_iff.1 hx).1
 have hjl:j<h.length:=(List.getElem?_eq_some_iff.1 hj).1
 have hij:id≠j:=fun q=>by subst q;rw [hx]at hj;simp at hj
 have hsub: ∀b∈(is.map fun i=>Bs.getD i []).flatten,b∈F:=fun b hb'=>by
  obtain ⟨i,_,hbi⟩:=qzO hb'
  rw [hF];exact qqj hbi
 refine ⟨{m with nst:=fun i=>if i=id then (is.map fun i=>Bs.getD i []).flatten else m.nst i},?_⟩
 have get: ∀i y,((h.set j .dead).set id (.row e t (is.map fun i=>vs.getD i (qb t)) true mt 0))[i]?=some y→(i=id∧y= .row e t (is.map fun i=>vs.getD i (qb t)) true mt 0)∨(i=j∧y= .dead)∨(i≠id∧i≠j∧h[i]?=some y):=fun i y hy=>by
  rw [List.getElem?_set]at hy
  split at hy
  ·rename_i q;subst q;simp [hil]at hy;exact .inl ⟨rfl,hy.symm⟩
  ·rename_i q
   rw [List.getElem?_set]at hy
   split at hy
   ·rename_i q2;subst q2;simp [hjl]at hy;exact .inr (.inl ⟨rfl,hy.symm⟩)
   ·rename_i q2;exact .inr (.inr ⟨fun z=>q z.symm,fun z=>q2 z.symm,hy⟩)
 have nout: ∀i,i≠id→(if i=id then (is.map fun i=>Bs.getD i []).flatten else m.nst i)=m.nst i:=fun i hi=>by simp [hi]
 have fpout: ∀i x,i≠id→fpB {m with nst:=fun i=>if i=id then (is.map fun i=>Bs.getD i []).flatten else m.nst i} i x=fpB m i x:=fun i x hi=>by
  cases x<;>simp [fpB,hi]
 have okout: ∀n b i x,i≠id→(okB {m with nst:=fun i=>if i=id then (is.map fun i=>Bs.getD i []).flatten else m.nst i} n b i x↔okB m n b i x):=fun n b i x hi=>by
  cases x<;>simp [okB,hi]
 have hok:Oks w w m {m with nst:=fun i=>if i=id then (is.map fun i=>Bs.getD i []).flatten else m.nst i} h ((h.set j .dead).set id (.row e t (is.map fun i=>vs.getD i (qb t)) true mt 0)):=fun n' b hb' _=>⟨rfl,hb'.1,fun i y hy=>by
  rcases get i y hy with ⟨rfl,rfl⟩ | ⟨rfl,rfl⟩ | ⟨hi,_,hx'⟩
  ·refine ⟨(hb'.2 _ _ hx).1,fun _ _=> ?_⟩
   show b∉(if i=i then (is.map fun i=>Bs.getD i []).flatten else m.nst i)
   simp only [if_true]
   exact fun hm'=>(hb'.2 j _ hj) (hsub b hm')
  ·trivial
  ·exact (okout n' b i y hi).2 (hb'.2 i y hx')⟩
 have hsm:qI m {m with nst:=fun i=>if i=id then (is.map fun i=>Bs.getD i []).flatten else m.nst i} h ((h.set j .dead).set id (.row e t (is.map fun i=>vs.getD i (qb t)) true mt 0)):=fun i x hx'=>by
  have hil':i<h.length:=(List.getElem?_eq_some_iff.1 hx').1
  by_cases h1:i=id
  ·subst h1
   rw [hx]at hx';cases hx'
   exact ⟨_,List.getElem?_set_self (by simpa using hil'),(qeb t).symm,rfl⟩
  ·by_cases h2:i=j
   ·subst h2
    rw [hj]at hx';cases hx'
    exact ⟨.dead,by rw [List.getElem?_set_ne (fun q=>h1 q.symm),List.getElem?_set_self hil'],trivial⟩
   ·refine ⟨x,by rw [List.getElem?_set_ne (fun q=>h1 q.symm),List.getElem?_set_ne (fun q=>h2 q.symm)];exact hx',?_⟩
    cases x<;>simp [Sim]
 have own: ∀b,b∈fpB {m with nst:=fun i=>if i=id then (is.map fun i=>Bs.getD i []).flatten else m.nst i} id (.row e t (is.map fun i=>vs.getD i (qb t)) true mt 0)→b∈(m.val id).ownBlock.toList∨b∈(is.map fun i=>Bs.getD i []).flatten:=fun b hb'=>by
  have hb':b∈(m.val id).ownBlock.toList++(if id=id then (is.map fun i=>Bs.getD i []).flatten else m.nst id):=hb'
  rw [if_pos rfl]at hb'
  exact List.mem_append.1 hb'
 have oldo: ∀b,b∈(m.val id).ownBlock.toList→b∈fpB m id (.row e (hd t) (is.map fun i=>hs.getD i (qb (hd t))) true mt n):=fun b hb'=>List.mem_append_left _ hb'
 refine ⟨⟨fun i y hy=> ?_,fun i y hy=> ?_,fun i y i' y' hne hy hy' b hb1 hb2=> ?_,fun i y hy b hb1=> ?_,H.fr,H.mx,H.nx,fun i v hpv=> ?_⟩,hok,hsm⟩
 ·rcases get i y hy with ⟨rfl,rfl⟩ | ⟨rfl,rfl⟩ | ⟨hi,_,hx'⟩
  ·refine ⟨inner,?_,?_,Nat.zero_le _⟩
   ·rw [qeb]at ho
    simpa using ho
   ·show Ms (M w t) _ inner (if i=i then (is.map fun i=>Bs.getD i []).flatten else m.nst i)
    rw [if_pos rfl]
    exact qyI hp hl hm hb hms
  ·trivial
  ·exact qcj hok hsm rfl rfl (nout i hi) (fun _ _=>rfl) (H.br i y hx')
 ·rcases get i y hy with ⟨rfl,rfl⟩ | ⟨rfl,rfl⟩ | ⟨hi,_,hx'⟩
  ·show ((m.val i).ownBlock.toList++(if i=i then (is.map fun i=>Bs.getD i []).flatten else m.nst i)).Nodup
   rw [if_pos rfl,List.nodup_append]
   have hn1:=H.nd i _ hx
   simp only [fpB]at hn1
   refine ⟨(List.nodup_append.1 hn1).1,qzJ hFn hnd,fun b h1 c h2 q=> ?_⟩
   subst q
   exact H.dj i _ j _ hij hx hj b (oldo b h1) (hsub b h2)
  ·exact List.nodup_nil
  ·rw [fpout i y hi];exact H.nd i y hx'
 ·rcases get i y hy with ⟨rfl,rfl⟩ | ⟨rfl,rfl⟩ | ⟨hi,hi2,hx'⟩
  ·rcases get i' y' hy' with ⟨rfl,rfl⟩ | ⟨rfl,rfl⟩ | ⟨hi',hi2',hx''⟩
   ·exact hne rfl
   ·simp [fpB]at hb2
   ·rw [fpout i' y' hi']at hb2
    rcases own b hb1 with h1 | h1
    ·exact H.dj i _ i' y' hne hx hx'' b (oldo b h1) hb2
    ·exact H.dj j _ i' y' (fun q=>hi2' q.symm) hj hx'' b (hsub b h1) hb2
  ·simp [fpB]at hb1
  ·rw [fpout i y hi]at hb1
   rcases get i' y' hy' with ⟨rfl,rfl⟩ | ⟨rfl,rfl⟩ | ⟨hi',hi2',hx''⟩
   ·rcases own b hb2 with h1 | h1
    ·exact H.dj i y i' _ hne hx' hx b hb1 (oldo b h1)
    ·exact H.dj i y j _ hi2 hx' hj b hb1 (hsub b h1)
   ·simp [fpB]at hb2
   ·rw [fpout i' y' hi']at hb2
    exact H.dj i y i' y' hne hx' hx'' b hb1 hb2
 ·rcases get i y hy with ⟨rfl,rfl⟩ | ⟨rfl,rfl⟩ | ⟨hi,_,hx'⟩
  ·rcases own b hb1 with h1 | h1
   ·exact H.lt i _ hx b (oldo b h1)
   ·exact H.lt j _ hj b (hsub b h1)
  ·simp [fpB]at hb1
  ·rw [fpout i y hi]at hb1
   exact H.lt i y hx' b hb1
 ·obtain ⟨h1,h2⟩:=H.pn i v hpv
  exact ⟨by simpa using h1,h2⟩
end
section
variable {ρ : Type}
open Classical in
noncomputable def chk (p:Prop) (k:Option ρ):Option ρ:=if p then k else none
theorem qaQ {p:Prop} {k:Option ρ} {r:ρ}:chk p k=some r↔p∧k=some r:=by
 unfold chk;split<;>simp [*]
theorem qd {p:Prop} {k:Option ρ} (h:p):chk p k=k:=by simp [chk,h]
open Classical in
noncomputable def qqD {ι:Type} (good:ι→Prop) (F:ι→Option ρ):Option ρ:=if h: ∃r,(∃i,good i)∧ ∀i,good i→F i=some r then some (Classical.choose h)else none
theorem qFa {ι:Type} {good:ι→Prop} {F:ι→Option ρ} {r:ρ} (h:qqD good F=some r): ∀i,good i→F i=some r:=by
 unfold qqD at h
 split at h
 ·rename_i hx
  have:=Classical.choose_spec hx
  simp only [Option.some.injEq]at h
  intro i hi
  rw [this.2 i hi,h]
 ·simp at h
noncomputable def qfD (o:Option Pre) (st:St) (k:St→Option ρ):Option ρ:=match o with
 | none=>k st
 | some (.opn id t)=>match st.heap[id]? with
   | some (.row e t' xs true mt n)=>if hh:t'=t then qqD (fun p:List Nat×List (Val (hd t))=>qlA t p.2 (hh▸xs)) (fun p=>k (qw6 st id e t mt n p.1 p.2 (hh▸xs)))else none
   | _=>none
 | some (.cls id j t sel)=>match st.heap[id]?,st.heap[j]? with
   | some (.row e t1 ys true mt _),some (.nst _ t2 hs vs)=>if hh:t1=hd t∧t2=t then
      chk ((hh.1▸ys:List (Val (hd t)))=(sel (hh.2▸vs)).map (fun i=>(hh.2▸hs:List (Val (hd t))).getD i (qb (hd t)))∧(sel (hh.2▸vs)).Nodup∧(∀i∈sel (hh.2▸vs),i<(hh.2▸vs:List (Val t)).length)∧qau t (hh.2▸vs) (hh.2▸hs)=(hh.2▸hs:List (Val (hd t)))∧(hh.2▸hs:List (Val (hd t))).length=(hh.2▸vs:List (Val t)).length)
         (k ⟨st.env,(st.heap.set j .dead).set id (.row e t ((sel (hh.2▸vs)).map (fun i=>(hh.2▸vs:List (Val t)).getD i (qb t))) true mt 0)⟩)
     else none
   | _,_=>none
theorem qJj {o:Option Pre} {k:St→Option ρ} {w0 w:World} {mine:Mine} {st:St} {a:Act} {r:ρ} (h:qfD o st k=some r) (hr:R w0 mine st a w): ∃st',R w0 mine st' a w∧k st'=some r:=by
 unfold qfD at h
 split at h
 ·exact ⟨st,hr,h⟩
 ·split at h
  ·rename_i id t e t' xs mt n hx
   split at h
   ·rename_i hh
    subst hh
    obtain ⟨hd',m,H,he⟩:=hr
    obtain ⟨hs,F,m',g,H',K⟩:=H.opn hx
    exact ⟨_,⟨hd',m',H',qBU K he⟩,qFa h (F,hs) g⟩
   ·simp at h
  ·simp at h
 ·rename_i id j t sel
  split at h
  ·rename_i e t1 ys mt n F t2 hs vs hx hj
   split at h
   ·rename_i hh
    obtain ⟨rfl,rfl⟩:=hh
    obtain ⟨⟨hys,hnd,hb,hm,hl⟩,hk⟩:=qaQ.1 h
    obtain ⟨hd',m,H,he⟩:=hr
    have hys:ys=(sel vs).map fun i=>hs.getD i (qb (hd t2)):=hys
    subst hys
    obtain ⟨m',H',hok,hsm⟩:=H.cls hx hj hnd hb hm hl
    exact ⟨⟨st.env,(st.heap.set j .dead).set id (.row e t2 ((sel vs).map fun i=>vs.getD i (qb t2)) true mt 0)⟩,⟨hd',m',H',q5 hok hsm he⟩,hk⟩
   ·simp at h
  ·simp at h
end
end Go.T
/- T: code run to what it returns. -/
namespace Go.T
open Go
variable {ρ : Type}
abbrev Sem:=Oper→St→Res
noncomputable def qd1 (S:Sem) (o:Oper) (st:St) (k:St→Option ρ):Option ρ:=match S o st with
 | some (p,st')=>chk p (k st')
 | none=>none
noncomputable def opR (S:Sem) (tt:TT) (Γ:Gam) (o:Oper) (st:St) (k:St→Option ρ):Option ρ:=match qU tt Γ o st with
 | some (p,st')=>chk p (k st')
 | none=>qd1 S o st k
def qcR (ops:Array Oper) (o:Oper) (st:St) (yes no:St→Option ρ):Option ρ:=match o.guard with
 | none=>yes st
 | some (j,want)=>match (ops[j]?).bind (·.dst)with
   | none=>no st
   | some t=>match st.env[t]? with
     | some (.one (.bool b))=>bif (b==want)then yes (st.lit t want)else no (st.lit t (!want))
     | some (.tup _)=>no st
     | none=>no st
     | _=>none
noncomputable def qaH (S:Sem) (tt:TT) (Γ:Gam) (ops:Array Oper):List Oper→St→(St→Option ρ)→Option ρ
 | [],st,k=>k st
 | o::os,st,k=>qcR ops o st (fun st=>opR S tt Γ o st fun st=>qaH S tt Γ ops os st k) (fun st=>qaH S tt Γ ops os (st.put o.dst (.tup [])) k)
noncomputable def qcz (tt:TT) (Γ:Gam) (ops:Array Oper) (i:Nat) (st:St) (k:St→Option ρ):Option ρ:=match ops[i]? with
 | none=>none
 | some o=>qcR ops o st (fun st=>opR qda tt Γ o st k) (fun st=>k (st.put o.dst (.tup [])))
def Tree.isStop:Tree→Bool
 | .stop=>true
 | _=>false
open Classical in
noncomputable def qdY (a b:Option ρ):Option ρ:=if a=b then a else none
theorem qBt {a:Option ρ}:qdY a a=a:=by simp [qdY]
theorem qzM {a b:Option ρ} {r:ρ} (h:qdY a b=some r):a=some r∧b=some r:=by
 unfold qdY at h
 split at h
 ·rename_i e;exact ⟨h,e▸h⟩
 ·simp at h
noncomputable def qZ (tt:TT) (Γ:Gam) (ops:Array Oper):Tree→St→(St→Option ρ)→Option ρ
 | .done,st,k=>k st
 | .first i t,st,k=>chk (qik ops i st) (qcz tt Γ ops i st fun st=>qZ tt Γ ops t st k)
 | .pure i t,st,k=>chk (qig ops i st) (qcz tt Γ ops i st fun st=>qZ tt Γ ops t st k)
 | .keep i t,st,k=>chk (qi4 ops i st) (qcz tt Γ ops i st fun st=>qZ tt Γ ops t st k)
 | .quiet i t,st,k=>qcz tt Γ ops i st fun st=>qZ tt Γ ops t st k
 | .grow i t,st,k=>chk (qiX ops i st) (qcz tt Γ ops i st fun st=>qZ tt Γ ops t st k)
 | .alt i t r,st,k=>bif r.isStop then qcz tt Γ ops i st (fun st=>qZ tt Γ ops t st k)else qdY (qcz tt Γ ops i st (fun st=>qZ tt Γ ops t st k)) (qZ tt Γ ops r st k)
 | _,_,_=>none
noncomputable def qcm (sx:SX) (tt:TT) (Γ:Gam) (ops:Array Oper) (i:Nat) (st:St) (k:St→Option ρ):Option ρ:=match ops[i]? with
 | none=>none
 | some o=>qcR ops o st (fun st=>bif sx.ids.contains i then qd1 sx.S o st k else opR qda tt Γ o st k) (fun st=>k (st.put o.dst (.tup [])))
noncomputable def qao (sx:SX) (tt:TT) (Γ:Gam) (ops:Array Oper):Tree→St→(St→Option ρ)→Option ρ
 | .done,st,k=>k st
 | .first i t,st,k=>chk (qik ops i st) (qcm sx tt Γ ops i st fun st=>qao sx tt Γ ops t st k)
 | .pure i t,st,k=>chk (qig ops i st) (qcm sx tt Γ ops i st fun st=>qao sx tt Γ ops t st k)
 | .keep i t,st,k=>chk (qi4 ops i st) (qcm sx tt Γ ops i st fun st=>qao sx tt Γ ops t st k)
 | .quiet i t,st,k=>qcm sx tt Γ ops i st fun st=>qao sx tt Γ ops t st k
 | .grow i t,st,k=>chk (qiX ops i st) (qcm sx tt Γ ops i st fun st=>qao sx tt Γ ops t st k)
 | .alt i t r,st,k=>bif r.isStop then qcm sx tt Γ ops i st (fun st=>qao sx tt Γ ops t st k)else qdY (qcm sx tt Γ ops i st (fun st=>qao sx tt Γ ops t st k)) (qao sx tt Γ ops r st k)
 | _,_,_=>none
noncomputable def qgu (S:Sem) (tt:TT) (Γ:Gam) (ops:Array Oper):Tree→St→(St→Option ρ)→Option ρ
 | .sem ids t,st,k=>qao ⟨ids,S⟩ tt Γ ops t st k
 | .done,st,k=>qZ tt Γ ops .done st k
 | .first i t,st,k=>qZ tt Γ ops (.first i t) st k
 | .pure i t,st,k=>qZ tt Γ ops (.pure i t) st k
 | .keep i t,st,k=>qZ tt Γ ops (.keep i t) st k
 | .quiet i t,st,k=>qZ tt Γ ops (.quiet i t) st k
 | .grow i t,st,k=>qZ tt Γ ops (.grow i t) st k
 | .alt i t r,st,k=>qZ tt Γ ops (.alt i t r) st k
 | .stop,st,k=>qZ tt Γ ops .stop st k
def qdj (k:St→Option ρ) (Q:X→St→Option ρ):X→St→Option ρ
 | .normal,st=>k st
 | .ret,st=>Q .ret st
 | .exit id,st=>Q (.exit id) st
def qdL (id:Nat) (Q:X→St→Option ρ):X→St→Option ρ
 | .normal,st=>Q .normal st
 | .ret,st=>Q .ret st
 | .exit id',st=>bif id'==id then Q .normal st else Q (.exit id') st
def qkK (c:Operand) (st:St) (x y:St→Option ρ):Option ρ:=match st.ev c with
 | .one (.bool b)=>bif b then x (st.litO c true)else y (st.litO c false)
 | _=>none
def St.nrm (pins:Bool) (nm:Nm) (st:St):St:=bif pins then st.forget nm.keep else st.norm nm
def qE (F:(X→St→Option ρ)→St→Option ρ) (pins:Bool) (nm:Nm) (Q:X→St→Option ρ):Nat→St→Option ρ
 | 0,_=>none
 | n+1,st=>F (qdj (fun st'=>qE F pins nm Q n (st'.nrm pins nm)) Q) st
def rid:Code→Nat
 | .region id _ _=>id
 | .seq a _=>rid a
 | .cond _ a _=>rid a
 | .block _ a=>rid a
 | .loop a=>rid a
 | _=>0
inductive Jn
 | nm (n:Nm)
 | at (p:Option Pre) (tb:Option TT)
 | nt (n:Nm) (tb:TT)
def Jn.tb:Jn→Option TT
 | .nm _=>none
 | .at _ tb=>tb
 | .nt _ tb=>some tb
structure Tab where
 tr:Nat→Tree
 lp:Nat→Nm
 ex:Nat→Option Nm
 rg:Nat→Option Nm
 fuel:Nat
 pins:Bool:=false
 sem:Sem:=qda
 jn:Nat→Option Jn:=fun _=>none
def nxt (pins:Bool) (o:Option Nm) (k:St→Option ρ):St→Option ρ:=match o with
 | none=>k
 | some nm=>fun st=>k (st.nrm pins nm)
noncomputable def qJ (tt:TT) (Γ:Gam) (T:Tab):Code→(X→St→Option ρ)→St→Option ρ
 | .region id ops false,Q,st=>qaH T.sem tt Γ ops ops.toList st (nxt T.pins (T.rg id) (Q .normal))
 | .region id ops true,Q,st=>qgu T.sem tt Γ ops (T.tr id) st (nxt T.pins (T.rg id) (Q .normal))
 | _,_,_=>none
noncomputable def jnR (o:Option Jn) (tt:TT) (Γ:Gam) (T:Tab) (c:Code) (Q:X→St→Option ρ) (st:St):Option ρ:=match o with
 | none=>qJ tt Γ T c Q st
 | some (.nm nm)=>qJ tt Γ T c Q (st.nrm T.pins nm)
 | some (.at p tb)=>qfD p st fun st=>qJ (tb.getD tt) Γ T c Q st
 | some (.nt nm tb)=>qJ tb Γ T c Q (st.nrm T.pins nm)
noncomputable def qc (tt:TT) (Γ:Gam) (T:Tab):Code→(X→St→Option ρ)→St→Option ρ
 | .skip,Q,st=>Q .normal st
 | .region id ops d,Q,st=>jnR (T.jn id) tt Γ T (.region id ops d) Q st
 | .seq a b,Q,st=>qc tt Γ T a (qdj (qc tt Γ T b Q) Q) st
 | .cond c x y,Q,st=>qkK c st (qc tt Γ T x Q) (qc tt Γ T y Q)
 | .block id c,Q,st=>qc tt Γ T c (qdL id Q) st
 | .loop c,Q,st=>qE (qc tt Γ T c) T.pins (T.lp (rid c)) Q T.fuel (st.nrm T.pins (T.lp (rid c)))
 | .exit id,Q,st=>match T.ex id with
   | none=>Q (.exit id) st
   | some nm=>Q (.exit id) (st.nrm T.pins nm)
 | .ret,Q,st=>Q .ret st
 | _,_,_=>none
section
variable {P : Program} {tt : TT} {Γ : Gam} {T : Tab} {w0 w : World} {mine : Mine} {r : ρ} {ops : Array Oper}
theorem qm5 {o:Oper} {st:St} {yes no:St→Option ρ} {yes' no':St→Prop} (hy: ∀s,yes s=some r→yes' s) (hn: ∀s,no s=some r→no' s) (h:qcR ops o st yes no=some r):qV ops o st yes' no':=by
 unfold qcR at h
 unfold qV
 split
 ·rename_i hg;simp only [hg]at h;exact hy _ h
 ·rename_i j want hg
  simp only [hg]at h
  split
  ·rename_i hb;simp only [hb]at h;exact hn _ h
  ·rename_i t hb
   simp only [hb]at h
   split
   ·rename_i b hs
    simp only [hs]at h
    cases hbw:(b==want)with
    | true=>
      rw [hbw]at h
      refine ⟨fun _=>hy _ h,fun e=> ?_⟩
      subst e;cases want<;>simp at hbw
    | false=>
      rw [hbw]at h
      refine ⟨fun e=> ?_,fun _=>hn _ h⟩
      subst e;simp at hbw
   ·rename_i ls hs;simp only [hs]at h;exact hn _ h
   ·rename_i hs;simp only [hs]at h;exact hn _ h
   ·rename_i h1 h2 h3
    split at h
    ·rename_i b hs;exact absurd hs (h1 b)
    ·rename_i ls hs;exact absurd hs (h2 ls)
    ·rename_i hs;exact absurd hs h3
    ·simp at h
theorem qzs (hT:qK P tt) (hΓ: ∀f g,Γ.get f=some g→Sound P f g) {S:Sem} (hS:qfs P S w0 mine) {k:St→Option ρ} {Q:Exit→Act→World→Prop} (hQ: ∀a w st,R w0 mine st a w→k st=some r→Q .normal a w):
 ∀(os pre:List Oper),ops.toList=pre++os→ ∀(st:St) (a:Act) (w:World),qaH S tt Γ ops os st k=some r→R w0 mine st a w→wpOps P ops Q (List.range' pre.length os.length) a w
 | [],pre,_,st,a,w,h,hr=>hQ a w st hr h
 | o::os,pre,he,st,a,w,h,hr=>by
   have hi:ops[pre.length]?=some o:=by rw [←Array.getElem?_toList,he];simp
   have hrest: ∀st' a' w',qaH S tt Γ ops os st' k=some r→R w0 mine st' a' w'→wpOps P ops Q (List.range' (pre.length+1) os.length) a' w':=fun st' a' w' h' hr'=>by
    have:=qzs hT hΓ hS hQ os (pre++[o]) (by rw [he];simp) st' a' w' h' hr'
    simpa using this
   rw [List.length_cons,List.range'_succ,wpOps_cons]
   unfold wpOp
   simp only [hi]
   have hg:=qm5 (yes':=fun s=>opR S tt Γ o s (fun st=>qaH S tt Γ ops os st k)=some r) (no':=fun s=>qaH S tt Γ ops os (s.put o.dst (.tup [])) k=some r) (fun _ hs=>hs) (fun _ hs=>hs) h
   rcases qxH hg hr with ⟨hw,h'⟩ | ⟨hw,h'⟩
   ·rw [if_pos hw]
    refine .inl ?_
    unfold opR at h'
    split at h'
    ·rename_i p st' hst
     have:=qaQ.1 h'
     exact qxA hT hΓ hst this.1 hr fun a' w' hr'=>hrest st' a' w' this.2 hr'
    ·unfold qd1 at h'
     split at h'
     ·rename_i p st' hst
      have:=qaQ.1 h'
      exact hS o st p st' hst this.1 a w _ _ hr fun a' w' hr'=>hrest st' a' w' this.2 hr'
     ·simp at h'
   ·rw [if_neg (by rw [hw];simp)]
    exact hrest _ _ _ h' (hr.skip o.dst)
theorem qd7 {i:Nat} {st:St} {k:St→Option ρ} {k':St→Prop} (hk: ∀s,k s=some r→k' s) (h:qcz tt Γ ops i st k=some r):qa5 sx0 tt Γ ops i st k':=by
 unfold qcz at h
 unfold qa5
 split at h
 ·simp at h
 ·rename_i o ho
  rw [ho]
  refine qm5 (fun s hs=> ?_) (fun s hs=>hk _ hs) h
  unfold opR at hs
  unfold qbY qb5
  simp only [sx0,List.contains_nil,cond_false]
  split at hs
  ·rename_i p st' hst
   rw [hst]
   have:=qaQ.1 hs
   exact ⟨this.1,hk _ this.2⟩
  ·simp [qd1,qda]at hs
theorem qcN {k:St→Option ρ}: ∀(t:Tree) (st:St),qZ tt Γ ops t st k=some r→qaL sx0 tt Γ ops t st (fun s=>k s=some r)
 | .done,_,h=>h
 | .quiet i t,st,h=>qd7 (fun s hs=>qcN t s hs) h
 | .alt i t r,st,h=>by
   simp only [qZ]at h
   cases hs:r.isStop with
   | true=>
     rw [hs]at h
     refine ⟨qd7 (fun s hs=>qcN t s hs) h,?_⟩
     cases r<;>first | exact trivial | simp [Tree.isStop]at hs
   | false=>
     rw [hs]at h
     obtain ⟨h1,h2⟩:=qzM h
     exact ⟨qd7 (fun s hs=>qcN t s hs) h1,qcN r st h2⟩
 | .grow i t,st,h=>by
   simp only [qZ]at h
   have:=qaQ.1 h
   exact ⟨this.1,qd7 (fun s hs=>qcN t s hs) this.2⟩
 | .pure i t,st,h=>by
   simp only [qZ]at h
   have:=qaQ.1 h
   exact ⟨this.1,qd7 (fun s hs=>qcN t s hs) this.2⟩
 | .keep i t,st,h=>by
   simp only [qZ]at h
   have:=qaQ.1 h
   exact ⟨this.1,qd7 (fun s hs=>qcN t s hs) this.2⟩
 | .first i t,st,h=>by
   simp only [qZ]at h
   have:=qaQ.1 h
   exact ⟨this.1,qd7 (fun s hs=>qcN t s hs) this.2⟩
 | .stop,st,h=>by simp [qZ]at h
 | .sem _ _,st,h=>by simp [qZ]at h
theorem qdN {sx:SX} {i:Nat} {st:St} {k:St→Option ρ} {k':St→Prop} (hk: ∀s,k s=some r→k' s) (h:qcm sx tt Γ ops i st k=some r):qa5 sx tt Γ ops i st k':=by
 unfold qcm at h
 unfold qa5
 split at h
 ·simp at h
 ·rename_i o ho
  rw [ho]
  refine qm5 (fun s hs=> ?_) (fun s hs=>hk _ hs) h
  unfold qbY qb5
  cases hb:sx.ids.contains i with
  | true=>
    rw [hb]at hs
    simp only [cond_true]at hs ⊢
    unfold qd1 at hs
    split at hs
    ·rename_i p st' hst
     rw [hst]
     have:=qaQ.1 hs
     exact ⟨this.1,hk _ this.2⟩
    ·simp at hs
  | false=>
    rw [hb]at hs
    simp only [cond_false]at hs ⊢
    unfold opR at hs
    split at hs
    ·rename_i p st' hst
     rw [hst]
     have:=qaQ.1 hs
     exact ⟨this.1,hk _ this.2⟩
    ·simp [qd1,qda]at hs
theorem qcP {sx:SX} {k:St→Option ρ}: ∀(t:Tree) (st:St),qao sx tt Γ ops t st k=some r→qaL sx tt Γ ops t st (fun s=>k s=some r)
 | .done,_,h=>h
 | .quiet i t,st,h=>qdN (fun s hs=>qcP t s hs) h
 | .alt i t r,st,h=>by
   simp only [qao]at h
   cases hs:r.isStop with
   | true=>
     rw [hs]at h
     refine ⟨qdN (fun s hs=>qcP t s hs) h,?_⟩
     cases r<;>first | exact trivial | simp [Tree.isStop]at hs
   | false=>
     rw [hs]at h
     obtain ⟨h1,h2⟩:=qzM h
     exact ⟨qdN (fun s hs=>qcP t s hs) h1,qcP r st h2⟩
 | .grow i t,st,h=>by
   simp only [qao]at h
   have:=qaQ.1 h
   exact ⟨this.1,qdN (fun s hs=>qcP t s hs) this.2⟩
 | .pure i t,st,h=>by
   simp only [qao]at h
   have:=qaQ.1 h
   exact ⟨this.1,qdN (fun s hs=>qcP t s hs) this.2⟩
 | .keep i t,st,h=>by
   simp only [qao]at h
   have:=qaQ.1 h
   exact ⟨this.1,qdN (fun s hs=>qcP t s hs) this.2⟩
 | .first i t,st,h=>by
   simp only [qao]at h
   have:=qaQ.1 h
   exact ⟨this.1,qdN (fun s hs=>qcP t s hs) this.2⟩
 | .stop,st,h=>by simp [qao]at h
 | .sem _ _,st,h=>by simp [qao]at h
def qgz (pins:Bool) (mine:Mine):Prop:=pins=false→ ∀id,mine.pin id=none
theorem qfz {pins:Bool} (hp:qgz pins mine) {nm:Nm} {st:St} {a:Act} (hr:R w0 mine st a w):R w0 mine (st.nrm pins nm) a w:=by
 cases pins with
 | true=>exact LeP.of_forget nm.keep rfl _ _ _ _ hr
 | false=>exact Le.norm nm st _ _ _ _ (hp rfl) hr
theorem qFi (hpin:qgz T.pins mine) {c:Code} {Q:X→St→Option ρ} {nm:Nm} (hc: ∀(Q:X→St→Option ρ) (st:St) (a:Act) (w:World),qc tt Γ T c Q st=some r→R w0 mine st a w→c.wp P (qdo w0 mine fun x s=>Q x s=some r) a w) {n:Nat} {st:St} {a:Act} {w:World}
 (h:qE (qc tt Γ T c) T.pins nm Q n st=some r) (hr:R w0 mine st a w):(Code.loop c).wp P (qdo w0 mine fun x s=>Q x s=some r) a w:=by
 let J:Act→World→Nat→Prop:=fun a w n=> ∃s,R w0 mine s a w∧qE (qc tt Γ T c) T.pins nm Q n s=some r
 have hmin: ∀a w,(∃n,J a w n)→ ∃m,J a w m∧ ∀k,J a w k→m≤k:=fun a w ⟨n,hn⟩=>qFQ hn
 let M:Act→World→Nat:=fun a w=>open Classical in if h: ∃n,J a w n then Classical.choose (hmin a w h)else 0
 have hM: ∀a w n,J a w n→J a w (M a w)∧M a w≤n:=fun a w n hn=>by
  have hex: ∃n,J a w n:=⟨n,hn⟩
  simp only [M,dif_pos hex]
  exact ⟨(Classical.choose_spec (hmin a w hex)).1,(Classical.choose_spec (hmin a w hex)).2 n hn⟩
 refine wp_loop (I:=fun a w=> ∃n,J a w n) (μ:=M) ⟨n,st,hr,h⟩ fun a w hex=> ?_
 obtain ⟨n,hn⟩:=hex
 obtain ⟨⟨s,hs,hrun⟩,_⟩:=hM a w n hn
 generalize hMn:M a w=mm at hrun ⊢
 cases mm with
 | zero=>simp [qE]at hrun
 | succ k=>
   refine wp_mono (hc _ s a w hrun hs) fun e a' w' he=> ?_
   cases e with
   | normal=>
     obtain ⟨s',hs',hk⟩:=he
     have hJ:J a' w' k:=⟨_,qfz hpin hs',hk⟩
     have:=(hM a' w' _ hJ).2
     exact ⟨⟨_,hJ⟩,by omega⟩
   | ret=>exact he
   | exit id=>exact he
   | _=>exact he
theorem qzI {pins:Bool} (hpin:qgz pins mine) {o:Option Nm} {Q:X→St→Option ρ} {st:St} {a:Act} (hr:R w0 mine st a w) (h:nxt pins o (Q .normal) st=some r):qdo w0 mine (fun x s=>Q x s=some r) .normal a w:=by
 unfold nxt at h
 split at h
 ·exact ⟨st,hr,h⟩
 ·exact ⟨_,qfz hpin hr,h⟩
theorem qhf (hT:qK P tt) (hΓ: ∀f g,Γ.get f=some g→Sound P f g) (hm:P.follows .mixedOrders=true) (hS:qfs P T.sem w0 mine) (hpin:qgz T.pins mine): ∀(c:Code),qm T.tr c=true→ ∀(Q:X→St→Option ρ) (st:St) (a:Act) (w:World),qJ tt Γ T c Q st=some r→R w0 mine st a w→c.wp P (qdo w0 mine fun x s=>Q x s=some r) a w
 | .region id ops false,_,Q,st,a,w,h,hr=>by
   refine wp_region ?_
   have:=qzs (ops:=ops) (Q:=qdo w0 mine fun x s=>Q x s=some r) hT hΓ hS (k:=nxt T.pins (T.rg id) (Q .normal)) (fun a w st hr hk=>qzI hpin hr hk) ops.toList [] rfl st a w h hr
   rw [List.range_eq_range']
   simpa using this
 | .region id ops true,hp,Q,st,a,w,h,hr=>by
   refine wp_region_any hm ?_
   have hr':R w0 mine st a {w with drawn:=w.drawn+1}:=by
    obtain ⟨hd,m,H,he⟩:=hr
    obtain ⟨H',hok,hs⟩:=H.heap_eq (w':={w with drawn:=w.drawn+1}) rfl rfl rfl rfl (Nat.le_succ _)
    exact ⟨hd,m,H',q5 hok hs he⟩
   have fin: ∀(sx:SX) (t:Tree),qfs P sx.S w0 mine→qX sx.ids ops t ops.size (Array.replicate ops.size false) []=true→qaL sx tt Γ ops t st (fun s=>nxt T.pins (T.rg id) (Q .normal) s=some r)→wpAny P .any ops (qdo w0 mine fun x s=>Q x s=some r) ops.size (Array.replicate ops.size false) a {w with drawn:=w.drawn+1}:=fun sx t hS hp hw=>
    qkC hT hΓ hS (k:=fun s=>nxt T.pins (T.rg id) (Q .normal) s=some r) (fun a w st hr hk=>qzI hpin hr hk) _ _ st a _ (qc7 t ops.size _ [] st hp hw (fun _ _ _ h=>by simp at h)) hr'
   replace hp:qwM ops (T.tr id)=true:=hp
   replace h:qgu T.sem tt Γ ops (T.tr id) st (nxt T.pins (T.rg id) (Q .normal))=some r:=h
   generalize T.tr id=t at h hp
   cases t with
   | sem ids t=>exact fin ⟨ids,T.sem⟩ t hS hp (qcP _ _ h)
   | _=>exact fin sx0 _ (qr P).at hp (qcN _ _ h)
 | .seq ..,_,_,_,_,_,h,_=>by simp [qJ]at h
 | .cond ..,_,_,_,_,_,h,_=>by simp [qJ]at h
 | .skip,_,_,_,_,_,h,_=>by simp [qJ]at h
 | .block ..,_,_,_,_,_,h,_=>by simp [qJ]at h
 | .loop ..,_,_,_,_,_,h,_=>by simp [qJ]at h
 | .exit ..,_,_,_,_,_,h,_=>by simp [qJ]at h
 | .ret,_,_,_,_,_,h,_=>by simp [qJ]at h
 | .rangeFunc ..,_,_,_,_,_,h,_=>by simp [qJ]at h
 | .scope _,_,_,_,_,_,h,_=>by simp [qJ]at h
 | .label _,_,_,_,_,_,h,_=>by simp [qJ]at h
 | .goto _,_,_,_,_,_,h,_=>by simp [qJ]at h
 | .refuse _,_,_,_,_,_,h,_=>by simp [qJ]at h
def qp (P:Program) (T:Tab):Prop:= ∀id j t,T.jn id=some j→Jn.tb j=some t→qK P t
theorem qec (hT:qK P tt) (hTb:qp P T) (hΓ: ∀f g,Γ.get f=some g→Sound P f g) (hm:P.follows .mixedOrders=true) (hS:qfs P T.sem w0 mine) (hpin:qgz T.pins mine): ∀(c:Code),qm T.tr c=true→ ∀(Q:X→St→Option ρ) (st:St) (a:Act) (w:World),qc tt Γ T c Q st=some r→R w0 mine st a w→c.wp P (qdo w0 mine fun x s=>Q x s=some r) a w
 | .skip,_,Q,st,a,w,h,hr=>wp_skip ⟨st,hr,h⟩
 | .region id ops d,hp,Q,st,a,w,h,hr=>by
   have h:jnR (T.jn id) tt Γ T (.region id ops d) Q st=some r:=h
   unfold jnR at h
   split at h
   ·exact qhf hT hΓ hm hS hpin _ hp Q st a w h hr
   ·exact qhf hT hΓ hm hS hpin _ hp Q _ a w h (qfz hpin hr)
   ·rename_i p tb hj
    obtain ⟨st',hr',hk⟩:=qJj h hr
    cases tb with
    | none=>exact qhf hT hΓ hm hS hpin _ hp Q st' a w hk hr'
    | some t=>exact qhf (hTb _ _ _ hj rfl) hΓ hm hS hpin _ hp Q st' a w hk hr'
   ·rename_i nm tb hj
    exact qhf (hTb _ _ _ hj rfl) hΓ hm hS hpin _ hp Q _ a w h (qfz hpin hr)
 | .seq x y,hp,Q,st,a,w,h,hr=>by
   simp only [qm,Bool.and_eq_true]at hp
   refine wp_seq (wp_mono (qec hT hTb hΓ hm hS hpin x hp.1 _ st a w h hr) fun e a' w' he=> ?_)
   cases e with
   | normal=>obtain ⟨s,hs,hk⟩:=he;exact qec hT hTb hΓ hm hS hpin y hp.2 Q s a' w' hk hs
   | ret=>exact he
   | exit id=>exact he
   | _=>exact he
 | .cond c x y,hp,Q,st,a,w,h,hr=>by
   simp only [qm,Bool.and_eq_true]at hp
   simp only [qc,qkK]at h
   split at h
   ·rename_i b hb
    have hv:a.eval c= .bool b:=by
        obtain ⟨hd,m,H,he⟩:=hr
        have:=R.ev H he c
        rw [hb]at this
        exact this
    refine wp_cond hv ?_
    cases b with
    | true=>
      have h:qc tt Γ T x Q (st.litO c true)=some r:=h
      rw [R.litO (a:=a) (w:=w) hb]at h
      exact qec hT hTb hΓ hm hS hpin x hp.1 Q st a w h hr
    | false=>
      have h:qc tt Γ T y Q (st.litO c false)=some r:=h
      rw [R.litO (a:=a) (w:=w) hb]at h
      exact qec hT hTb hΓ hm hS hpin y hp.2 Q st a w h hr
   ·simp at h
 | .block id c,hp,Q,st,a,w,h,hr=>by
   refine wp_block (wp_mono (qec hT hTb hΓ hm hS hpin c hp _ st a w h hr) fun e a' w' he=> ?_)
   cases e with
   | normal=>exact he
   | ret=>exact he
   | exit id'=>
     obtain ⟨s,hs,hk⟩:=he
     simp only [qdL]at hk
     simp only [Exit.inBlock]
     split
     ·rename_i e
      subst e
      simp only [beq_self_eq_true,cond_true]at hk
      exact ⟨s,hs,hk⟩
     ·rename_i e
      have:(id'==id)=false:=by simpa using e
      simp only [this,cond_false]at hk
      exact ⟨s,hs,hk⟩
   | _=>exact he
 | .loop c,hp,Q,st,a,w,h,hr=>qFi hpin (fun Q st a w h hr=>qec hT hTb hΓ hm hS hpin c hp Q st a w h hr) h (qfz hpin hr)
 | .exit id,_,Q,st,a,w,h,hr=>by
   refine wp_exit ?_
   simp only [qc]at h
   split at h
   ·exact ⟨st,hr,h⟩
   ·exact ⟨_,qfz hpin hr,h⟩
 | .ret,_,Q,st,a,w,h,hr=>wp_ret ⟨st,hr,h⟩
 | .rangeFunc ..,_,_,_,_,_,h,_=>by simp [qc]at h
 | .scope _,_,_,_,_,_,h,_=>by simp [qc]at h
 | .label _,_,_,_,_,_,h,_=>by simp [qc]at h
 | .goto _,_,_,_,_,_,h,_=>by simp [qc]at h
 | .refuse _,_,_,_,_,_,h,_=>by simp [qc]at h
def qgE (h:List Blk) (ls:List LV):Bool:=qY h (ls.flatMap LV.cells)&&qay (qj (ls.flatMap LV.cells))
def qG (tt:TT) (dp:Bool) (rs:List TI) (rvs:List ResultVar) (st:St):Option (qa rs):=match qb2 tt st rvs with
 | none=>none
 | some ls=>match qal st.heap rs ls with
   | none=>none
   | some y=>bif dp then (bif qgE st.heap ls then some y else none)else some y
def qn (tt:TT) (dp:Bool) (rs:List TI) (rvs:List ResultVar):X→St→Option (qa rs)
 | .normal,st=>qG tt dp rs rvs st
 | .ret,st=>qG tt dp rs rvs st
 | .exit _,_=>none
theorem qxr {g:G} {rvs:List ResultVar} {y:qa g.rs} {st:St} (h:qG tt g.dp g.rs rvs st=some y):qef tt g.dp g.rs rvs y st:=by
 unfold qG at h
 unfold qef
 split at h
 ·simp at h
 ·rename_i ls hls
  split at h
  ·simp at h
  ·rename_i z hy
   rw [hls]
   cases hdp:g.dp with
   | false=>rw [hdp]at h;simp only [cond_false]at h;cases h;exact ⟨hy,by simp⟩
   | true=>
     rw [hdp]at h
     cases hb:qgE st.heap ls with
     | false=>rw [hb]at h;simp at h
     | true=>
       rw [hb]at h
       simp only [cond_true]at h
       cases h
       simp only [qgE,Bool.and_eq_true]at hb
       exact ⟨hy,fun _=>hb⟩
theorem qvK {g:G} {rvs:List ResultVar} {x:qa g.ps} {e:X} {st:St} (h:qn tt g.dp g.rs rvs e st=some (g.fn x)):qpz tt g rvs x e st:=by
 cases e with
 | normal=>exact qxr h
 | ret=>exact qxr h
 | exit id=>simp [qn]at h
theorem qHi (hT : qK P tt) (hΓ : ∀ f g, Γ.get f = some g → Sound P f g) (hm : P.follows .mixedOrders = true) {f : FuncId} {fn : Func} {c : Code} {g : G} (hf : P.funcs[f]? = some fn) (hb : fn.body = some c) (hname : (fn.name == "runtime.NumGoroutine") = false)
 (hrun: ∀x:qa g.ps,g.pre x→ ∃T:Tab,qm T.tr c=true∧qjC P T.sem∧qp P T∧qc tt Γ T c (qn tt g.dp g.rs fn.results.toList) (qhp g fn.ntmps x)=some (g.fn x)):Sound P f g:=
 qBV hT hf hb hname fun x hx w0 mine a w hpin hR=>by
  obtain ⟨T,hp,hS,hTb,h⟩:=hrun x hx
  refine wp_mono (qec hT hTb hΓ hm hS.at (fun _=>hpin) c hp _ _ _ _ h hR) fun e a' w' he=> ?_
  cases e with
  | normal=>obtain ⟨st,hr,h⟩:=he;exact ⟨st,hr,qvK h⟩
  | ret=>obtain ⟨st,hr,h⟩:=he;exact ⟨st,hr,qvK h⟩
  | exit id=>obtain ⟨st,hr,h⟩:=he;exact ⟨st,hr,qvK h⟩
  | _=>exact he
end
end Go.T
/- T: runs by rewriting: lemmas at states that are written out. -/
namespace Go.T
open Go
abbrev u:LV:= .one .undef
variable {ρ : Type}
def cut:List Bool→Code→Code
 | [],c=>c
 | false::r,.seq a _=>cut r a
 | true::r,.seq _ b=>cut r b
 | false::r,.cond _ a _=>cut r a
 | true::r,.cond _ _ b=>cut r b
 | _::r,.block _ a=>cut r a
 | _::r,.loop a=>cut r a
 | _,c=>c
def qq (ps:List TI) (ntmps:Nat) (x:qa ps):St:={env:=(qb9 0 ps x).map LV1.lv++List.replicate (ntmps - ps.length) (.tup []),heap:=[]}
section
variable {tt : TT} {Γ : Gam} {T : Tab} {Q : X → St → Option ρ} {e : List LV} {h : List Blk}
@[simp] theorem qMl : qc tt Γ T .skip Q ⟨e, h⟩ = Q .normal ⟨e, h⟩ := rfl
@[simp] theorem qMu {id : Nat} {ops : Array Oper} {d : Bool} : qc tt Γ T (.region id ops d) Q ⟨e, h⟩ = jnR (T.jn id) tt Γ T (.region id ops d) Q ⟨e, h⟩ := rfl
@[simp] theorem qMm {id : Nat} {ops : List Oper} : jnR none tt Γ T (.region id ⟨ops⟩ false) Q ⟨e, h⟩ = qaH T.sem tt Γ ⟨ops⟩ ops ⟨e, h⟩ (nxt T.pins (T.rg id) (Q .normal)) := rfl
@[simp] theorem qKe {id : Nat} {ops : Array Oper} : jnR none tt Γ T (.region id ops true) Q ⟨e, h⟩ = qgu T.sem tt Γ ops (T.tr id) ⟨e, h⟩ (nxt T.pins (T.rg id) (Q .normal)) := rfl
@[simp] theorem qKH {nm : Nm} {c : Code} : jnR (some (.nm nm)) tt Γ T c Q ⟨e, h⟩ = qJ tt Γ T c Q ((St.mk e h).nrm T.pins nm) := rfl
@[simp] theorem qKL {p : Option Pre} {tb : Option TT} {c : Code} : jnR (some (.at p tb)) tt Γ T c Q ⟨e, h⟩ = qfD p ⟨e, h⟩ fun st => qJ (tb.getD tt) Γ T c Q st := rfl
@[simp] theorem qKa {nm : Nm} {tb : TT} {c : Code} : jnR (some (.nt nm tb)) tt Γ T c Q ⟨e, h⟩ = qJ tb Γ T c Q ((St.mk e h).nrm T.pins nm) := rfl
@[simp] theorem qL2 {st : St} {k : St → Option ρ} : qfD none st k = k st := rfl
theorem qif {id:Nat} {ops:List Oper}:qJ tt Γ T (.region id ⟨ops⟩ false) Q ⟨e,h⟩=qaH T.sem tt Γ ⟨ops⟩ ops ⟨e,h⟩ (nxt T.pins (T.rg id) (Q .normal)):=rfl
theorem qgH {id:Nat} {ops:Array Oper}:qJ tt Γ T (.region id ops true) Q ⟨e,h⟩=qgu T.sem tt Γ ops (T.tr id) ⟨e,h⟩ (nxt T.pins (T.rg id) (Q .normal)):=rfl
@[simp] theorem qL0 {a b : Code} : qc tt Γ T (.seq a b) Q ⟨e, h⟩ = qc tt Γ T a (qdj (qc tt Γ T b Q) Q) ⟨e, h⟩ := rfl
@[simp] theorem qKJ {c : Operand} {x y : Code} : qc tt Γ T (.cond c x y) Q ⟨e, h⟩ = qkK c ⟨e, h⟩ (qc tt Γ T x Q) (qc tt Γ T y Q) := rfl
@[simp] theorem qMk {id : Nat} {c : Code} : qc tt Γ T (.block id c) Q ⟨e, h⟩ = qc tt Γ T c (qdL id Q) ⟨e, h⟩ := rfl
@[simp] theorem qLA {c : Code} : qc tt Γ T (.loop c) Q ⟨e, h⟩ = qE (qc tt Γ T c) T.pins (T.lp (rid c)) Q T.fuel ((St.mk e h).nrm T.pins (T.lp (rid c))) := rfl
@[simp] theorem qLk {id : Nat} : qc tt Γ T (.exit id) Q ⟨e, h⟩ = match T.ex id with
   | none=>Q (.exit id) ⟨e,h⟩
   | some nm=>Q (.exit id) ((St.mk e h).nrm T.pins nm):=rfl
@[simp] theorem qK1 : qc tt Γ T .ret Q ⟨e, h⟩ = Q .ret ⟨e, h⟩ := rfl
theorem qP {F:(X→St→Option ρ)→St→Option ρ} {pins:Bool} {nm:Nm} {n:Nat} {st:St}:qE F pins nm Q (n+1) st=F (qdj (fun st'=>qE F pins nm Q n (st'.nrm pins nm)) Q) st:=rfl
variable {ops : Array Oper} {k : St → Option ρ}
@[simp] theorem qKk {S : Sem} : qaH S tt Γ ops [] ⟨e, h⟩ k = k ⟨e, h⟩ := rfl
@[simp] theorem qKW {S : Sem} {d : Option Tmp} {op : Op} {ty : TypeId} {pos : String} {aft : Array Edge} {os : List Oper} : qaH S tt Γ ops (⟨d, op, ty, pos, aft, none⟩ :: os) ⟨e, h⟩ k = opR S tt Γ ⟨d, op, ty, pos, aft, none⟩ ⟨e, h⟩ fun st => qaH S tt Γ ops os st k := rfl
@[simp] theorem qKg {S : Sem} {d : Option Tmp} {op : Op} {ty : TypeId} {pos : String} {aft : Array Edge} {g : Nat × Bool} {os : List Oper} : qaH S tt Γ ops (⟨d, op, ty, pos, aft, some g⟩ :: os) ⟨e, h⟩ k = qcR ops ⟨d, op, ty, pos, aft, some g⟩ ⟨e, h⟩ (fun st => opR S tt Γ ⟨d, op, ty, pos, aft, some g⟩ st fun st => qaH S tt Γ ops os st k) (fun st => qaH S tt Γ ops os (st.put d (.tup [])) k) := rfl
@[simp] theorem qKQ {st : St} : qdj k Q .normal st = k st := rfl
@[simp] theorem qN {st : St} : qdj k Q .ret st = Q .ret st := rfl
@[simp] theorem qLU {st : St} {id : Nat} : qdj k Q (.exit id) st = Q (.exit id) st := rfl
@[simp] theorem qK3 {id : Nat} {st : St} : qdL id Q .normal st = Q .normal st := rfl
@[simp] theorem qO {id : Nat} {st : St} : qdL id Q .ret st = Q .ret st := rfl
@[simp] theorem qKm {id j : Nat} {st : St} : qdL id Q (.exit j) st = bif j == id then Q .normal st else Q (.exit j) st := rfl
@[simp] theorem qLy : qdj k Q .normal = k := rfl
@[simp] theorem qK0 {id : Nat} : qdL id Q .normal = Q .normal := rfl
@[simp] theorem qKU {S : Sem} {o : Oper} : opR S tt Γ o ⟨e, h⟩ k = (match qU tt Γ o ⟨e, h⟩ with
  | some (p,st')=>chk p (k st')
  | none=>qd1 S o ⟨e,h⟩ k):=rfl
@[simp] theorem qLa {nm : Nm} : (St.mk e h).nrm false nm = (St.mk e h).norm nm := rfl
@[simp] theorem qL3 {nm : Nm} : (St.mk e h).nrm true nm = ⟨qdI nm.keep e, h⟩ := rfl
attribute [simp] qdI
def brL (x:LV) (c:Operand) (e:List LV) (h:List Blk) (a b:St→Option ρ):Option ρ:=match x with
 | .one (.bool v)=>bif v then a ((St.mk e h).litO c true)else b ((St.mk e h).litO c false)
 | _=>none
@[simp] theorem qMi {c : Operand} {x y : St → Option ρ} : qkK c ⟨e, h⟩ x y = brL ((St.mk e h).ev c) c e h x y := rfl
@[simp high] theorem qKN {c : Operand} {x y : St → Option ρ} : brL (.one (.bool true)) c e h x y = x ((St.mk e h).litO c true) := rfl
@[simp high] theorem qKz {c : Operand} {x y : St → Option ρ} : brL (.one (.bool false)) c e h x y = y ((St.mk e h).litO c false) := rfl
@[simp low] theorem qKM {c : Operand} {x y : St → Option ρ} {v : Bool} : brL (.one (.bool v)) c e h x y = bif v then x ((St.mk e h).litO c true) else y ((St.mk e h).litO c false) := rfl
def guA (d:Option Tmp) (want:Bool) (e:List LV) (h:List Blk) (a b:St→Option ρ):Option ρ:=match d with
 | none=>b ⟨e,h⟩
 | some t=>match e[t]? with
   | some (.one (.bool v))=>bif (v==want)then a ((St.mk e h).lit t want)else b ((St.mk e h).lit t (!want))
   | some (.tup _)=>b ⟨e,h⟩
   | none=>b ⟨e,h⟩
   | _=>none
def guB (x:Option LV) (t:Nat) (want:Bool) (e:List LV) (h:List Blk) (a b:St→Option ρ):Option ρ:=match x with
 | some (.one (.bool v))=>bif (v==want)then a ((St.mk e h).lit t want)else b ((St.mk e h).lit t (!want))
 | some (.tup _)=>b ⟨e,h⟩
 | none=>b ⟨e,h⟩
 | _=>none
theorem qJI {d:Option Tmp} {op:Op} {ty:TypeId} {pos:String} {aft:Array Edge} {j:Nat} {want:Bool} {a b:St→Option ρ}:qcR ops ⟨d,op,ty,pos,aft,some (j,want)⟩ ⟨e,h⟩ a b=guA ((ops[j]?).bind (·.dst)) want e h a b:=by
 unfold qcR guA
 first
  | rfl
  | (dsimp only;done)
  | (dsimp only;cases (ops[j]?).bind (·.dst)<;>rfl)
@[simp] theorem qMb {d : Option Tmp} {op : Op} {ty : TypeId} {pos : String} {aft : Array Edge} {a b : St → Option ρ} : qcR ops ⟨d, op, ty, pos, aft, none⟩ ⟨e, h⟩ a b = a ⟨e, h⟩ := rfl
@[simp] theorem qLY {want : Bool} {a b : St → Option ρ} : guA none want e h a b = b ⟨e, h⟩ := rfl
@[simp] theorem qMo {t : Nat} {want : Bool} {a b : St → Option ρ} : guA (some t) want e h a b = guB e[t]? t want e h a b := rfl
@[simp high] theorem qKw {t : Nat} {a b : St → Option ρ} : guB (some (.one (.bool true))) t true e h a b = a ((St.mk e h).lit t true) := rfl
@[simp high] theorem qMM {t : Nat} {a b : St → Option ρ} : guB (some (.one (.bool false))) t false e h a b = a ((St.mk e h).lit t false) := rfl
@[simp high] theorem qKi {t : Nat} {a b : St → Option ρ} : guB (some (.one (.bool true))) t false e h a b = b ((St.mk e h).lit t true) := rfl
@[simp high] theorem qLB {t : Nat} {a b : St → Option ρ} : guB (some (.one (.bool false))) t true e h a b = b ((St.mk e h).lit t false) := rfl
@[simp low] theorem qKn {t : Nat} {v : Bool} {a b : St → Option ρ} : guB (some (.one (.bool v))) t true e h a b = bif v then a ((St.mk e h).lit t true) else b ((St.mk e h).lit t false) := by cases v <;> rfl
@[simp low] theorem qL7 {t : Nat} {v : Bool} {a b : St → Option ρ} : guB (some (.one (.bool v))) t false e h a b = bif v then b ((St.mk e h).lit t true) else a ((St.mk e h).lit t false) := by cases v <;> rfl
@[simp] theorem qK5 {t : Nat} {want : Bool} {l : List LV1} {a b : St → Option ρ} : guB (some (.tup l)) t want e h a b = b ⟨e, h⟩ := rfl
attribute [simp] qJI
@[simp] theorem qKd {pins : Bool} : nxt pins none k = k := rfl
@[simp] theorem qJ9 {pins : Bool} {nm : Nm} {e : List LV} {h : List Blk} : nxt pins (some nm) k ⟨e, h⟩ = k ((St.mk e h).nrm pins nm) := rfl
@[simp] theorem qMv {a : Option ρ} : qdY a a = a := qBt
@[simp] theorem qxg {k : Option ρ} : chk True k = k := qd trivial
@[simp] theorem qKp {k : Option ρ} : chk False k = none := by simp [chk]
@[simp] theorem qLt {nm : Nm} : (St.mk e h).norm nm = ((St.mk e h).fixes nm.fix).gc nm.zero nm.keep := rfl
@[simp] theorem qLJ : (St.mk e h).fixes [] = ⟨e, h⟩ := rfl
@[simp] theorem qK4 {f : Fix} {r : List Fix} : (St.mk e h).fixes (f :: r) = ((St.mk e h).fix1 f).fixes r := rfl
@[simp] theorem qLe {dp : Bool} {rs : List TI} {rvs : List ResultVar} : qG tt dp rs rvs ⟨e, h⟩ = match qb2 tt ⟨e, h⟩ rvs with
  | none=>none
  | some ls=>match qal h rs ls with
    | none=>none
    | some y=>bif dp then (bif qgE h ls then some y else none)else some y:=rfl
@[simp] theorem qQ {dp : Bool} {rs : List TI} {rvs : List ResultVar} {st : St} : qn tt dp rs rvs .ret st = qG tt dp rs rvs st := rfl
@[simp] theorem qKT {dp : Bool} {rs : List TI} {rvs : List ResultVar} {st : St} : qn tt dp rs rvs .normal st = qG tt dp rs rvs st := rfl
attribute [simp] qq6 qiX qi4 qmo qig qhG qgE St.fix1 St.undp St.frz qcz qZ qcm qao qgu Tree.isStop qq rid cut
end
@[simp] theorem qKD : List.range 2 = [0, 1] := rfl
@[simp] theorem qL4 : List.range 3 = [0, 1, 2] := rfl
@[simp] theorem qKl : List.range 4 = [0, 1, 2, 3] := rfl
@[simp] theorem qLc : List.range 5 = [0, 1, 2, 3, 4] := rfl
@[simp] theorem qL8 : List.range 6 = [0, 1, 2, 3, 4, 5] := rfl
@[simp] theorem qKI : List.range 7 = [0, 1, 2, 3, 4, 5, 6] := rfl
@[simp] theorem qMw : List.range 8 = [0, 1, 2, 3, 4, 5, 6, 7] := rfl
theorem qv {P:Program} {T:Tab} (h: ∀i,T.jn i=none):qp P T:=fun id j t e=>by rw [h]at e;simp at e
theorem qu {P : Program} {tt : TT} {Γ : Gam} (hT : qK P tt) (hΓ : ∀ f g, Γ.get f = some g → Sound P f g) (hm : P.follows .mixedOrders = true) {f : FuncId} {fn : Func} {c : Code} {g : G} (hf : P.funcs[f]? = some fn) (hb : fn.body = some c) (hname : (fn.name == "runtime.NumGoroutine") = false)
 (hrun: ∀x:qa g.ps,g.pre x→ ∃T:Tab,qm T.tr c=true∧qjC P T.sem∧qp P T∧qc tt Γ T c (qn tt g.dp g.rs fn.results.toList) (qq g.ps fn.ntmps x)=some (g.fn x)):Sound P f g:=
 qHi hT hΓ hm hf hb hname hrun
end Go.T
/- Plain: walks over a list by an index. -/
namespace Go.T
open Go
variable {ρ α σ : Type}
theorem qrF {xs:List α} {i:Nat} (h:i<xs.length):xs.drop i=xs[i]::xs.drop (i+1):=List.drop_eq_getElem_cons h
theorem qB {xs:List α} {i:Nat} (h:i<xs.length) (d:α):xs.getD (Int.toNat (i:Int)) d=xs[i]:=by simp [List.getD,h]
theorem qmk {i n:Nat} (h:i<n) (hn:n≤1048576):IntKind.i64.wrap ((i:Int)+1)=((i+1:Nat):Int):=qGd h hn
def qaq (step:Nat→α→σ→(σ→Option ρ)→Option ρ):Nat→List α→σ→(σ→Option ρ)→Option ρ
 | _,[],s,k=>k s
 | i,x::r,s,k=>step i x s fun s'=>qaq step (i+1) r s' k
theorem qyW {F:Nat→Int→σ→Option ρ} {xs:List α} {step:Nat→α→σ→(σ→Option ρ)→Option ρ} {k:σ→Option ρ} (hl:xs.length≤1048576)
 (hF: ∀(n i:Nat) (s:σ) (h:i<xs.length),F (n+1) (i:Int) s=step i xs[i] s fun s'=>F n (IntKind.i64.wrap ((i:Int)+1)) s') (hE: ∀(n i:Nat) (s:σ),xs.length≤i→F (n+1) (i:Int) s=k s):
 ∀(n i:Nat) (s:σ),i≤xs.length→xs.length - i<n→F n (i:Int) s=qaq step i (xs.drop i) s k
 | 0,_,_,_,h=>by omega
 | n+1,i,s,hi,h=>by
   by_cases hlt:i<xs.length
   ·rw [hF n i s hlt,qrF hlt,qaq,qmk hlt hl]
    congr 1
    funext s'
    exact qyW hl hF hE n (i+1) s' (by omega) (by omega)
   ·rw [hE n i s (by omega),List.drop_eq_nil_of_le (by omega),qaq]
theorem qac {F:Nat→Int→σ→Option ρ} {xs:List α} {step:Nat→α→σ→(σ→Option ρ)→Option ρ} {k:σ→Option ρ} (hl:xs.length≤1048576)
 (hF: ∀(n i:Nat) (s:σ) (h:i<xs.length),F (n+1) (i:Int) s=step i xs[i] s fun s'=>F n (IntKind.i64.wrap ((i:Int)+1)) s') (hE: ∀(n i:Nat) (s:σ),xs.length≤i→F (n+1) (i:Int) s=k s)
 (n:Nat) (s:σ) (hn:xs.length<n):F n 0 s=qaq step 0 xs s k:=by
 have:=qyW hl hF hE n 0 s (by omega) (by omega)
 simpa using this
theorem qbX {p:α→Bool} {r:Option ρ} {k:Unit→Option ρ}: ∀(xs:List α) (i:Nat),qaq (fun _ x _ K=>bif p x then K ()else r) i xs () k=bif xs.all p then k ()else r
 | [],_=>rfl
 | x::xs,i=>by
   rw [qaq];dsimp only;rw [qbX xs]
   cases h:p x<;>simp [h]
theorem qF {b:Bool} {x y:α}:(bif !b then x else y)=bif b then y else x:=by cases b<;>rfl
theorem qh {p:Prop} [Decidable p] {x y:α} (h:p):(bif decide p then x else y)=x:=by simp [h]
theorem qg {p:Prop} [Decidable p] {x y:α} (h: ¬p):(bif decide p then x else y)=y:=by simp [h]
end Go.T
/- Plain: sizes, copies, equality of rows. -/
namespace Go.T
open Go
variable {ρ α : Type}
theorem qiZ {t:Ty}: ∀(xs:List (Val t)) (i:Nat) (n:Int),0≤n→n≤1048576→(∀x∈xs,Sm t x)→
 qaq (fun _ x (s:Int) (K:Int→Option (Int×Unit))=>chk (qcd t x s) (bif decide (szV t x s<0)then some ((-1:Int),())else K (szV t x s))) i xs n (fun s=>some (s,()))=some (szL (szV t) xs n,())
 | [],_,_,_,_,_=>rfl
 | x::xs,i,n,h0,h1,hs=>by
   rw [qaq,qd ⟨hs x (by simp),h0,h1⟩,szL]
   by_cases c:szV t x n<0
   ·rw [qh c,if_pos c]
   ·rw [qg c,if_neg c]
    exact qiZ xs (i+1) _ (by omega) (by have:=(qbN t x n h0).1;omega) fun y hy=>hs y (by simp [hy])
theorem qw2 {F:Nat→Int→List α→Option ρ} {xs:List α} {k:List α→Option ρ} (d:α) (hl:xs.length≤1048576)
 (hF: ∀(n i:Nat) (s:List α) (h:i<xs.length),s.length=xs.length→F (n+1) (i:Int) s=F n (IntKind.i64.wrap ((i:Int)+1)) (s.set i xs[i])) (hE: ∀(n i:Nat) (s:List α),xs.length≤i→F (n+1) (i:Int) s=k s):
 ∀(n i:Nat),i≤xs.length→xs.length - i<n→F n (i:Int) (qb1 xs d i)=k xs
 | 0,_,_,h=>by omega
 | n+1,i,hi,h=>by
   by_cases hlt:i<xs.length
   ·rw [hF n i _ hlt (qI1 hi),qmk hlt hl]
    have:(qb1 xs d i).set i xs[i]=qb1 xs d (i+1):=by
     have:=qH1 (d:=d) (d':=d) hlt
     rwa [List.getElem?_eq_getElem hlt,Option.getD_some]at this
    rw [this]
    exact qw2 d hl hF hE n (i+1) (by omega) (by omega)
   ·rw [hE n i _ (by omega),qCr (by omega)]
theorem qjn {F:Nat→Int→List α→Option ρ} {xs:List α} {k:List α→Option ρ} (d:α) (hl:xs.length≤1048576)
 (hF: ∀(n i:Nat) (s:List α) (h:i<xs.length),s.length=xs.length→F (n+1) (i:Int) s=F n (IntKind.i64.wrap ((i:Int)+1)) (s.set i xs[i])) (hE: ∀(n i:Nat) (s:List α),xs.length≤i→F (n+1) (i:Int) s=k s) (n:Nat) (hn:xs.length<n):
 F n 0 (List.replicate xs.length d)=k xs:=by
 have:=qw2 d hl hF hE n 0 (by omega) (by omega)
 rw [←qCD]at this
 simpa using this
theorem qxU {f:α→α→Bool}: ∀(xs ys:List α),xs.length=ys.length→eqL f xs ys=(xs.zip ys).all fun p=>f p.1 p.2
 | [],[],_=>rfl
 | [],_::_,h=>by simp at h
 | _::_,[],h=>by simp at h
 | x::xs,y::ys,h=>by simp [eqL,qxU xs ys (by simpa using h)]
theorem qiw {f:α→α→Bool} {xs ys:List α} (hl:xs.length≤1048576) (he:xs.length=ys.length) {F:Nat→Int→Option ρ} {k:Unit→Option ρ} {r:Option ρ}
 (hF: ∀(n i:Nat) (h:i<xs.length) (h':i<ys.length),F (n+1) (i:Int)=bif f xs[i] ys[i]then F n (IntKind.i64.wrap ((i:Int)+1))else r) (hE: ∀(n i:Nat),xs.length≤i→F (n+1) (i:Int)=k ()) (n:Nat) (hn:xs.length<n):
 F n 0=bif eqL f xs ys then k ()else r:=by
 rw [qxU xs ys he]
 have hz:(xs.zip ys).length=xs.length:=by simp [he]
 refine (qac (F:=fun n i (_:Unit)=>F n i) (xs:=xs.zip ys) (step:=fun _ p _ K=>bif f p.1 p.2 then K ()else r) (k:=k) (by omega) (fun n i s hi=> ?_) (fun n i s hi=> ?_) n () (by omega)).trans (qbX _ 0)
 ·rw [hF n i (by omega) (by omega)]
  simp
 ·exact hE n i (by omega)
theorem qn2 {a b:Ty} {x:Val a} {y:Val b} {n:Int} (h:szV a x n<0):szV (.pair a b) (x,y) n= -1:=qyh (v:=(x,y)) h
theorem qlH {a b:Ty} {x:Val a} {y:Val b} {n:Int} (h:0≤szV a x n):szV (.pair a b) (x,y) n=szV b y (szV a x n):=qyn (v:=(x,y)) h
theorem qe4 {k:IntKind} {b:Ty} {x:Int} {y:Val b} {n:Int} (h:0≤n):szV (.pair (.int k) b) (x,y) n=szV b y n:=qyn (a:= .int k) (v:=(x,y)) h
theorem qkU {b:Ty} {x:ByteArray} {y:Val b} {n:Int} (h:n - (x.size:Int)<0):szV (.pair .str b) (x,y) n= -1:=qyh (a:= .str) (v:=(x,y)) (by rw [qA6 h];decide)
theorem qk9 {b:Ty} {x:ByteArray} {y:Val b} {n:Int} (h:0≤n - (x.size:Int)):szV (.pair .str b) (x,y) n=szV b y (n - x.size):=by
 rw [qlH (a:= .str) (by rw [qza h];exact h),qza h]
theorem qeK {b:Bool}:(bif b then some (true,())else some (false,()):Option (Bool×Unit))=some (b,()):=by cases b<;>rfl
theorem eqS {e:Nat} {t:Ty} {x y:List (Val t)}:eqV (.slice e t) x y=eqL (eqV t) x y:=rfl
theorem qcO {n:Int} {k:Nat} (h0:0≤n) (h1:n≤1048576) (hk:k≤maxLen):IntKind.i64.wrap (n - (k:Int))=n - k:=qbw (by simp only [maxLen]at hk;omega) (by omega)
theorem qgY {k:Nat} (h:k≤1048576):(0:Int)≤(k:Int)∧(k:Int)≤(k:Int)∧(k:Int)≤1048576:=by omega
end Go.T
/- T: calls that write into an argument's own rows. -/
namespace Go.T
open Go
structure Gm where
 t:TI
 pre:Val t.ty→Int→Prop
 fv:Val t.ty→Int→Val t.ty
 fk:Val t.ty→Int→Int
structure SoundM (P:Program) (f:FuncId) (g:Gm):Prop where
 enters:qcc P f
 runs: ∀(x:Val g.t.ty) (n:Int),g.pre x n→ ∀(w:World) (cs:List Value) (B:List Nat) (u:Value),M w g.t.ty x cs B→B.Nodup→qai g.t.agg cs u→
  Calls P f #[u,.int .i64 n] w fun e w'=>e= .returned (.int .i64 (g.fk x n))∧Fr (fun b=>b∈B) w w'∧ ∃B',M w' g.t.ty (g.fv x n) cs B'∧B'.Nodup∧ ∀b∈B',b∈B∨w.heap.size≤b
def qj6 (h:List Blk):List Nat→List Blk→List Blk
 | id::ids,b::bs=>qj6 (h.set id b) ids bs
 | _,_=>h
def qve:List LC→Bool
 | []=>true
 | .nils::_=>false
 | _::r=>qve r
def qxL (g:Gm) (x y:LV) (d:Option Tmp) (st:St):Res:=match y with
 | .one (.int .i64 n)=>if x.isAgg=some g.t.agg∧qve x.cells=true∧qY st.heap x.cells=true∧qay (qj x.cells)=true then match qo st.heap g.t.ty x.cells with
    | some (v,[])=>some (g.pre v n,St.put ⟨st.env.map (LV.clamp (los st.heap st.heap.length (qj x.cells))),qj6 (st.heap.map (Blk.clamp (los st.heap st.heap.length (qj x.cells)))) (qj x.cells) (q6 0 g.t.ty (g.fv v n)).2⟩ d (.one (.int .i64 (g.fk v n))))
    | _=>none
   else none
 | _=>none
section
variable {P : Program} {w0 w w' : World} {mine : Mine} {m m' : Mp} {h : List Blk} {st : St} {a : Act} {o : Oper} {next : Act → World → Prop} {Q : Exit → Act → World → Prop}
def Mp.marks (m:Mp) (ids:List Nat) (rl:List qH):Mp:={m with nst:=fun i=>match qam ids 0 i with
 | some k=>(rl.getD k (undef,[])).2
 | none=>m.nst i}
end
end Go.T
/- T: calls that mark own rows; those that mark rows held by elements. -/
namespace Go.T
open Go
section
variable {P : Program} {w0 w w' : World} {mine : Mine} {m m' : Mp} {h : List Blk} {st : St} {a : Act} {o : Oper} {next : Act → World → Prop} {Q : Exit → Act → World → Prop}
end
end Go.T
/- T: calls that mark rows held by elements. -/
namespace Go.T
open Go
structure Gms where
 e:Nat
 t:Ty
 pre:List (Val t)→Int→Prop
 fv:List (Val t)→Int→List (Val t)
 fk:List (Val t)→Int→Int
@[reducible] def Gms.gm (g : Gms) : Gm := { t := ⟨.slice g.e g.t, false, [], false⟩, pre := g.pre, fv := g.fv, fk := g.fk }
structure SoundMs (P:Program) (f:FuncId) (g:Gms):Prop where
 enters:qcc P f
 runs: ∀(x:List (Val g.t)) (n:Int),g.pre x n→ ∀(w:World) (B:List Nat) (u:Value),M w (.slice g.e g.t) x [u] B→B.Nodup→
  Calls P f #[u,.int .i64 n] w fun e w'=>e= .returned (.int .i64 (g.fk x n))∧Fr (fun b=>b∈B) w w'∧M w' (.slice g.e g.t) (g.fv x n) [u] B
theorem SoundMs.gm {P:Program} {f:FuncId} {g:Gms} (S:SoundMs P f g):SoundM P f g.gm:=⟨S.enters,fun x n hx w cs B u hM hB hw=>by
 have hw:cs=[u]:=hw
 subst hw
 exact Calls.mono (S.runs x n hx w B u hM hB) fun e w' h=>⟨h.1,h.2.1,B,h.2.2,hB,fun b hb=> .inl hb⟩⟩
def qb4 (e':Nat) (t':Ty):(t:Ty)→Nat→Val t→Option (List (Val t'))
 | .slice e t,0,v=>if he:e=e'∧t=t' then some (he.2▸v)else none
 | .pair a b,f,v=>if f<a.sz then qb4 e' t' a f v.1 else qb4 e' t' b (f - a.sz) v.2
 | _,_,_=>none
def qas (e':Nat) (t':Ty):(t:Ty)→Nat→Val t→List (Val t')→Val t
 | .slice e t,0,v,y=>if he:e=e'∧t=t' then he.2▸y else v
 | .pair a b,f,v,y=>if f<a.sz then (qas e' t' a f v.1 y,v.2)else (v.1,qas e' t' b (f - a.sz) v.2 y)
 | _,_,v,_=>v
def qaz:(t:Ty)→Nat→Val (hd t)→Option Value
 | .slice _ _,0,h=>some h
 | .pair a b,f,h=>if f<a.sz then qaz a f h.1 else qaz b (f - a.sz) h.2
 | _,_,_=>none
def qxn (g:Gms) (jn f:Nat) (i x y:LV) (d:Option Tmp) (st:St):Res:=match i,x,y,st.heap[jn]? with
 | .one (.int _ i),.one (.hdr u),.one (.int .i64 n),some (.nst F t hs vs)=>
   match qb4 g.e g.t t f (vs.getD i.toNat (qb t)),qaz t f (hs.getD i.toNat (qb (hd t)))with
   | some xs,some u'=>some (i.toNat<vs.length∧i.toNat<hs.length∧u'=u∧g.pre xs n,
        St.put ⟨st.env,st.heap.set jn (.nst F t hs (vs.set i.toNat (qas g.e g.t t f (vs.getD i.toNat (qb t)) (g.fv xs n))))⟩ d (.one (.int .i64 (g.fk xs n))))
   | _,_=>none
 | _,_,_,_=>none
section
variable {P : Program} {w0 w w' : World} {mine : Mine} {m m' : Mp} {h : List Blk} {st : St} {a : Act} {o : Oper} {next : Act → World → Prop} {Q : Exit → Act → World → Prop}
end
end Go.T
/- T: functions that mark their argument. -/
namespace Go.T
open Go
def qy1 (h:List Blk) (id:Nat):Bool:=match h[id]? with
 | some (.row ..)=>true
 | _=>false
def qBX (tt:TT) (t:Ty) (cells:List LC) (rvs:List ResultVar) (st:St):Option (Val t×Int):=match qb2 tt st rvs with
 | some [.one (.int .i64 k)]=>match qo st.heap t cells with
   | some (y,[])=>bif qY st.heap cells&&qay (qj cells)&&(qj cells).all (qy1 st.heap)then some (y,k)else none
   | _=>none
 | _=>none
noncomputable def qBQ (tt:TT) (e:Nat) (t th:Ty) (F:List Nat) (hs:List (Val (hd t))) (rvs:List ResultVar) (st:St):Option (List (Val th)×List (Val t)×Int):=match qb2 tt st rvs with
 | some [.one (.int .i64 k)]=>match st.heap[0]?,st.heap[1]? with
   | some (Blk.row e' t' ys true _ _),some (Blk.nst F' t'' hs' vs)=>if hc:e'=e∧t'=th∧t''=t then chk (F'=F∧hc.2.2▸hs'=hs) (some (hc.2.1▸ys,hc.2.2▸vs,k))else none
   | _,_=>none
 | _=>none
def qyy {ρ:Type} (r:St→Option ρ):X→St→Option ρ
 | .normal,st=>r st
 | .ret,st=>r st
 | .exit _,_=>none
section
variable {P : Program} {tt : TT} {Γ : Gam} {w0 w w' : World} {mine : Mine} {m m' : Mp} {h : List Blk} {st : St} {a : Act}
end
end Go.T
/- T: functions that mark a slice, and what its elements hold. -/
namespace Go.T
open Go
section
variable {P : Program} {tt : TT} {Γ : Gam} {w0 w w' : World} {mine : Mine} {m m' : Mp} {h : List Blk} {st : St} {a : Act}
end
end Go.T
/- T: the steps that mark. -/
namespace Go.T
open Go
abbrev qfn:=List (Nat×Gm)
abbrev qfP:=List (Nat×Nat×Gms×Nat×Nat)
def qfn.get:qfn→Nat→Option Gm
 | [],_=>none
 | (f,g)::r,f'=>if f=f' then some g else qfn.get r f'
def qfP.get:qfP→Nat→Option (Nat×Gms×Nat×Nat)
 | [],_=>none
 | (d,x)::r,d'=>if d=d' then some x else qfP.get r d'
def qJ1 (ow:qfn) (hs:qfP):Sem:=fun o st=>match o.op,o.dst with
 | .call c,some d=>match c.callee,c.args.toList with
   | .value (.func f),[x,y]=>match qfP.get hs d with
     | some (f',g,fo,ix)=>if f'=f then qxn g 1 fo (st.ev (.tmp ix)) (st.ev x) (st.ev y) (some d) st else none
     | none=>match qfn.get ow f with
       | some g=>qxL g (st.ev x) (st.ev y) (some d) st
       | none=>none
   | _,_=>none
 | _,_=>none
attribute [simp] qfn.get qfP.get qJ1 qxL qxn qj6 qve qb4 qas qaz LC.clamp LV.clamp Blk.clamp qBX qBQ qy1
section
variable {ρ : Type} {r : St → Option ρ} {e : List LV} {h : List Blk} {st : St}
@[simp] theorem qM : qyy r .ret st = r st := rfl
@[simp] theorem qLw : qyy r .normal st = r st := rfl
end
end Go.T
/- Plain: marks and what is held. -/
namespace Go.T
open Go
variable {ρ : Type}
end Go.T
/- Plain: what is held; how many marks. -/
namespace Go.T
open Go
variable {ρ : Type}
end Go.T
/- Plain: how many marks there are at most. -/
namespace Go.T
open Go
end Go.T
/- Plain: walks that gather. -/
namespace Go.T
open Go
variable {ρ α β : Type}
end Go.T
/- T: calls that put an own row's elements into another order. -/
namespace Go.T
open Go
structure Gsr where
 e:Nat
 t:Ty
 cmp:FuncId
 pre:List (Val t)→Prop
 fv:List (Val t)→List (Val t)
structure SoundSr (P:Program) (f:FuncId) (g:Gsr):Prop where
 enters:qcc P f
 runs: ∀(x:List (Val g.t)),g.pre x→ ∀(w:World) (B:List Nat) (u:Value),M w (.slice g.e g.t) x [u] B→B.Nodup→
  Calls P f #[u,.func (.func g.cmp) #[] #[]] w fun e w'=>e= .returned (.tuple #[])∧Fr (fun b=>b∈B) w w'∧ ∃B',M w' (.slice g.e g.t) (g.fv x) [u] B'∧B'.Nodup∧ ∀b∈B',b∈B∨w.heap.size≤b
def qzi (g:Gsr) (id:Nat) (d:Option Tmp) (st:St):Option Blk→Res
 | some (.row e t xs true true _)=>if hh:e=g.e∧t=g.t then some (g.pre (hh.2▸xs),St.put ⟨st.env.map (LV.clamp (los st.heap st.heap.length [id])),qj6 (st.heap.map (Blk.clamp (los st.heap st.heap.length [id]))) [id] [.row g.e g.t (g.fv (hh.2▸xs)) true true 0]⟩ d (.tup []))else none
 | _=>none
def qwV (g:Gsr) (x y:LV) (d:Option Tmp) (st:St):Res:=match x,y with
 | .one (.own id),.one (.fn c)=>if c=g.cmp then qzi g id d st st.heap[id]? else none
 | _,_=>none
section
variable {P : Program} {w0 w w' : World} {mine : Mine} {m m' : Mp} {h : List Blk} {st : St} {a : Act} {o : Oper} {next : Act → World → Prop} {Q : Exit → Act → World → Prop}
end
structure SoundGr (P:Program) (f:FuncId) (e:Nat) (t:Ty):Prop where
 enters:qcc P f
 runs: ∀(n:Nat),n≤1048576→ ∀(w:World),Calls P f #[.slice none 0 0,.int .i64 n] w fun e' w'=> ∃v,e'= .returned v∧Fr (fun _=>False) w w'∧w'.ownsRow 0 e t.sz v 0 []∧ ∀b,v.ownBlock=some b→w.heap.size≤b
def qxY (e:Nat) (t:Ty) (x y:LV) (d:Option Tmp) (st:St):Res:=match x,y with
 | .one .nils,.one (.int .i64 n)=>some (0≤n∧n≤1048576,St.mk (st.put d (.one (.own st.heap.length))).env (st.heap++[.row e t [] true true 0]))
 | _,_=>none
section
variable {P : Program} {w0 w w' : World} {mine : Mine} {m m' : Mp} {h : List Blk} {st : St} {a : Act} {o : Oper} {next : Act → World → Prop} {Q : Exit → Act → World → Prop}
end
inductive Own1
 | sr (g:Gsr)
 | gr (e:Nat) (t:Ty)
abbrev Srs:=List (Nat×Own1)
def Srs.get:Srs→Nat→Option Own1
 | [],_=>none
 | (f,g)::r,f'=>if f=f' then some g else Srs.get r f'
def qxh (g:Own1) (x y:LV) (d:Option Tmp) (st:St):Res:=match g with
 | .sr g=>qwV g x y d st
 | .gr e t=>qxY e t x y d st
def qJe (sr:Srs):Sem:=fun o st=>match o.op with
 | .call c=>match c.callee,c.args.toList with
   | .value (.func f),[x,y]=>match Srs.get sr f with
     | some g=>qxh g (st.ev x) (st.ev y) o.dst st
     | none=>none
   | _,_=>none
 | _=>none
@[simp] theorem qLo {F : List Nat} {t : Ty} {hs : List (Val (hd t))} {vs : List (Val t)} {r : List Blk} : List.find? qcK (.nst F t hs vs :: r) = some (.nst F t hs vs) := rfl
@[simp] theorem qMI {cs : List LC} {r : List Blk} : List.find? qcK (.box cs :: r) = List.find? qcK r := rfl
@[simp] theorem qKF {e : Nat} {t : Ty} {xs : List (Val t)} {dp mt : Bool} {n : Nat} {r : List Blk} : List.find? qcK (.row e t xs dp mt n :: r) = List.find? qcK r := rfl
@[simp] theorem qKv {r : List Blk} : List.find? qcK (.dead :: r) = List.find? qcK r := rfl
attribute [simp] Srs.get qJe qxh qwV qzi qxY qcK qcT qfi qeS qe8 qcg qcl qpN qw6 qfD
end Go.T
