import Derived.Test.YtllelgnepalfjaaGreatT8
import Derived.ProofKit
import Derived.OpenShut
import Derived.WideShapes
import Derived.Carry
import Derived.Below
set_option linter.unusedSimpArgs false
set_option linter.unusedVariables false
namespace Go.T
open Go Go.WideShapes
def Sm:(t:Ty)->Val t->Prop
 | .int k,n=>(Lit.int k n).wf=true
 | .bool,_=>True
 | .str,s=>s.size<=maxLen
 | .hdr,_=>True
 | .slice _ t,xs=>xs.length<=maxLen/\ ∀x∈xs,Sm t x
 | .pair a b,v=>Sm a v.1/\Sm b v.2
mutual
def ha (P:Program):Nat->TypeId->Option Ty
 | 0,_=>none
 | n+1,t=>match P.underlying t with
   | some (.int k)=>some (.int k)
   | some .bool=>some .bool
   | some .string=>some .str
   | some (.slice e)=>match ha P n e with
     | some te=>if P.cellsOf e=te.sz then some (.slice e te)else none
     | none=>none
   | some (.struct fs)=>match jT P n 0 fs.toList with
     | some ty=>if P.cellsOf t=ty.sz then some ty else none
     | none=>none
   | _=>none
def jT (P:Program):Nat->Nat->List Field->Option Ty
 | 0,_,_=>none
 | n+1,off,fs=>match fs with
   | []=>none
   | [f]=>match ha P n f.type with
     | some a=>if f.offset=off/\P.cellsOf f.type=a.sz then some a else none
     | none=>none
   | f::g::r=>match ha P n f.type with
     | some a=>if f.offset=off/\P.cellsOf f.type=a.sz then match jT P n (off+a.sz) (g::r)with
       | some b=>some (.pair a b)
       | none=>none
       else none
     | none=>none
end
theorem VN {w:World} {a:Addr} {n:Nat} {cs:List Value} (h:w.cells? 0 a n=some cs):cs.length=n/\At w a cs:=by
 unfold World.cells? at h
 simp only [Nat.zero_le,if_true]at h
 have b:=mapM_some_length h
 refine ⟨by simpa using b,fun j u hu=> ?_⟩
 have c:j<n:=by
  have:=(List.getElem?_eq_some_iff.1 hu).1
  simp at b;omega
 have:=mapM_some_get h j j (by simp [c])
 rw [this,hu]
theorem JO {α:Type} {Q:Nat->α->Prop}: ∀n:Nat,(∀i,i<n-> ∃x,Q i x)-> ∃xs:List α,xs.length=n/\ ∀i x,xs[i]?=some x->Q i x
 | 0,_=>⟨[],rfl,fun i x h=>by simp at h⟩
 | n+1,h=>by
   obtain ⟨xs,b,c⟩:=JO n fun i a=>h i (by omega)
   obtain ⟨y,d⟩:=h n (by omega)
   refine ⟨xs++[y],by simp [b],fun i x a=> ?_⟩
   by_cases e:i<n
   ·rw [List.getElem?_append_left (by omega)]at a;exact c i x a
   ·rw [List.getElem?_append_right (by omega)]at a
    have:i=n:=by
     rcases Nat.lt_or_ge n i with h' | h'
     ·rw [List.getElem?_eq_none (by simp;omega)]at a;cases a
     ·omega
    subst this
    simp [b]at a
    subst a;exact d
section
variable {H : Type} {enc : TypeId × Value -> H} {P : Program} {w : World} {spare : Nat -> Bool} {held : Bool}
mutual
theorem rO: ∀(n:Nat) {fuel:Nat} {t:TypeId} {ty:Ty} {cs:List Value} {x:DataW H×List MemPlace},ha P n t=some ty->DataW.trod enc P w 0 spare held fuel t cs=some x-> ∃v:Val ty,K w (fun _=>True) ty v cs/\Sm ty v
 | 0,_,_,_,_,_,h,_=>by simp [ha]at h
 | n+1,fuel,t,ty,cs,x,h,d=>by
   unfold ha at h
   split at h
   ·rename_i k hu
    cases h
    obtain ⟨m,rfl,_,hw⟩:=DataW.trod_int hu d
    exact ⟨m,by rw [K],hw⟩
   ·rename_i hu
    cases h
    obtain ⟨b,rfl,_⟩:=DataW.trod_bool hu d
    exact ⟨(b:Bool),by rw [K],trivial⟩
   ·rename_i hu
    cases h
    obtain ⟨s,rfl,_,hs⟩:=DataW.trod_string hu d
    exact ⟨(s:ByteArray),by rw [K],hs⟩
   ·rename_i e hu
    split at h
    ·rename_i te C
     split at h
     ·rename_i p
      cases h
      rcases DataW.trod_slice hu d with ⟨rfl,_⟩ | ⟨a,len,cap,elems,rest,m,_,rfl,_,_,h1,h2,I,r,_⟩
      ·refine ⟨([]:List (Val te)),?_,?_⟩
       ·rw [K];exact ⟨none,0,rfl,Nat.le_refl _,fun i x h=>by simp at h⟩
       ·exact ⟨by simp,by simp⟩
      ·obtain ⟨xs,E,q⟩:=JO (Q:=fun i (v:Val te)=>(∃cs,K w (fun _=>True) te v cs/\At w (a.add (i*te.sz)) cs)/\Sm te v) len fun i c=>by
             have j:=r i c
             have:i<elems.length:=by omega
             rw [List.getElem?_eq_getElem this,p]at j
             simp only [Option.bind_eq_some_iff]at j
             obtain ⟨cs',u,B⟩:=j
             obtain ⟨_,g⟩:=VN u
             obtain ⟨v,l,hs⟩:=rO n C B
             exact ⟨v,⟨cs',l,g⟩,hs⟩
       refine ⟨xs,?_,?_⟩
       ·rw [K]
        exact ⟨some a,cap,by rw [E],by omega,fun i x c=>by
              obtain ⟨⟨cs',l,g⟩,_⟩:=q i x c
              exact ⟨a,cs',rfl,trivial,l,g⟩⟩
       ·refine ⟨by omega,fun y F=> ?_⟩
        obtain ⟨i,c⟩:=List.getElem?_of_mem F
        exact (q i y c).2
     ·simp at h
    ·simp at h
   ·rename_i fs hu
    split at h
    ·rename_i ty' D
     split at h
     ·rename_i p
      cases h
      obtain ⟨ys,m,_,_,J,G,z⟩:=DataW.trod_struct hu d
      obtain ⟨v,hk,hs⟩:=JP (cs:=cs) n D (fun f hm=>by
           obtain ⟨i,c⟩:=List.getElem?_of_mem hm
           have o:fs[i]?=some f:=by rw [<-Array.getElem?_toList];exact c
           have:=z i f o
           have A:i<ys.length:=by rw [G];exact (Array.getElem?_eq_some_iff.1 o).1
           rw [List.getElem?_eq_getElem A]at this
           exact ⟨_,this⟩)
      refine ⟨v,?_,hs⟩
      have:(cs.drop 0).take ty.sz=cs:=by rw [List.drop_zero,List.take_of_length_le (by omega)]
      rw [<-this];exact hk
     ·simp at h
    ·simp at h
   ·simp at h
theorem JP: ∀(n:Nat) {fuel off:Nat} {fs:List Field} {ty:Ty} {cs:List Value},jT P n off fs=some ty->(∀f∈fs,∃y,DataW.trod enc P w 0 spare held fuel f.type ((cs.drop f.offset).take (P.cellsOf f.type))=some y)->
 ∃v:Val ty,K w (fun _=>True) ty v ((cs.drop off).take ty.sz)/\Sm ty v
 | 0,_,_,_,_,_,h,_=>by simp [jT]at h
 | n+1,fuel,off,[],ty,cs,h,_=>by simp [jT]at h
 | n+1,fuel,off,[f],ty,cs,h,hm=>by
   simp only [jT]at h
   split at h
   ·rename_i a e
    split at h
    ·rename_i c
     cases h
     obtain ⟨y,d⟩:=hm f (by simp)
     rw [c.1,c.2]at d
     exact rO n e d
    ·simp at h
   ·simp at h
 | n+1,fuel,off,f::g::r,ty,cs,h,hm=>by
   simp only [jT]at h
   split at h
   ·rename_i a e
    split at h
    ·rename_i c
     split at h
     ·rename_i b i
      cases h
      obtain ⟨y,d⟩:=hm f (by simp)
      rw [c.1,c.2]at d
      obtain ⟨p,k,m⟩:=rO n e d
      obtain ⟨q,l,o⟩:=JP (cs:=cs) n i fun f j=>hm f (List.mem_cons_of_mem _ j)
      refine ⟨((p,q):Val a×Val b),?_,m,o⟩
      rw [K]
      refine ⟨_,_,?_,k,l⟩
      rw [Ty.sz,<-List.drop_drop,List.take_add]
     ·simp at h
    ·simp at h
   ·simp at h
end
def Sms:(a:List TI)->qb a->Prop
 | [],_=>True
 | ti::r,x=>Sm ti.ty x.1/\Sms r x.2
def JQ (P:Program) (t:TypeId):Bool:=match P.underlying t with
 | some (.struct _)=>true
 | _=>false
theorem JR {base n:Nat} {r:Reach} {t:TypeId} {ti:TI} {v:Value} {d:DataW H} {p:List MemPlace} (b:ha P n t=some ti.ty) (i:JQ P t=ti.agg) (f:Value.okWide P w r base t v) (h:DataW.Trod enc P w 0 spare held t v d p):
 ∃x:Val ti.ty,∃cs,K w (fun _=>True) ti.ty x cs/\cb ti.agg cs v/\Sm ti.ty x:=by
 obtain ⟨fuel,g⟩:=h
 obtain ⟨x,hk,hs⟩:=rO n b g
 refine ⟨x,_,hk,?_,hs⟩
 rw [<-i]
 unfold JQ
 cases n with
 | zero=>simp [ha]at b
 | succ n=>
   unfold ha at b
   split at b
   ·rename_i k hu
    rw [hu]
    simp only [cb]
    obtain ⟨m,j,_⟩:=DataW.trod_int hu g
    simp only [Value.okWide,hu,Cell.okWide]at f
    cases v<;>simp_all [Cell.ok,Value.cells]
   ·rename_i hu
    rw [hu]
    simp only [cb]
    simp only [Value.okWide,hu,Cell.okWide]at f
    cases v<;>simp_all [Cell.ok,Value.cells]
   ·rename_i hu
    rw [hu]
    simp only [cb]
    obtain ⟨s,rfl⟩:=okWide_string hu f
    simp [Value.cells]
   ·rename_i e hu
    rw [hu]
    simp only [cb]
    obtain ⟨a,l,c,rfl⟩:=okWide_slice hu f
    simp [Value.cells]
   ·rename_i fs hu
    rw [hu]
    simp only [cb]
    obtain ⟨cs,rfl,_⟩:=okWide_struct hu f
    simp [Value.cells]
   ·simp at b
end
end Go.T
namespace Go.T
open Go
def szL {α:Type} (f:α->Int->Int):List α->Int->Int
 | [],n=>n
 | x::r,n=>if f x n<0 then -1 else szL f r (f x n)
def szV:(t:Ty)->Val t->Int->Int
 | .int _,_,n=>n
 | .bool,_,n=>n
 | .str,s,n=>if n - s.size<0 then -1 else n - s.size
 | .hdr,_,n=>n
 | .slice _ t,xs,n=>if n - xs.length<0 then -1 else szL (szV t) xs (n - xs.length)
 | .pair a b,v,n=>if szV a v.1 n<0 then -1 else szV b v.2 (szV a v.1 n)
def Bd:(t:Ty)->Val t->Prop
 | .int _,_=>True
 | .bool,_=>True
 | .str,s=>s.size<=1048576
 | .hdr,_=>True
 | .slice _ t,xs=>xs.length<=1048576/\ ∀x∈xs,Bd t x
 | .pair a b,v=>Bd a v.1/\Bd b v.2
theorem JS {α:Type} {f:α->Int->Int} (a: ∀x n,0<=n->f x n<=n/\(f x n<0->f x n= -1)): ∀(xs:List α) (n:Int),0<=n->szL f xs n<=n/\(szL f xs n<0->szL f xs n= -1)
 | [],n,h=>⟨Int.le_refl _,fun h'=>by simp only [szL]at h' ⊢;omega⟩
 | x::r,n,h=>by
   have h1:=a x n h
   simp only [szL]
   split
   ·exact ⟨by omega,fun _=>rfl⟩
   ·have:=JS a r (f x n) (by omega)
    exact ⟨by omega,this.2⟩
theorem eY: ∀(t:Ty) (x:Val t) (n:Int),0<=n->szV t x n<=n/\(szV t x n<0->szV t x n= -1)
 | .int _,_,n,h=>⟨Int.le_refl _,fun h'=>by simp only [szV]at h' ⊢;omega⟩
 | .bool,_,n,h=>⟨Int.le_refl _,fun h'=>by simp only [szV]at h' ⊢;omega⟩
 | .str,s,n,h=>by simp only [szV];split<;>omega
 | .hdr,_,n,h=>⟨Int.le_refl _,fun h'=>by simp only [szV]at h' ⊢;omega⟩
 | .slice _ t,xs,n,h=>by
   simp only [szV]
   split
   ·exact ⟨by omega,fun _=>rfl⟩
   ·have:=JS (f:=szV t) (fun x n h=>eY t x n h) xs (n - xs.length) (by omega)
    exact ⟨by omega,this.2⟩
 | .pair a b,v,n,h=>by
   simp only [szV]
   have h1:=eY a v.1 n h
   split
   ·exact ⟨by omega,fun _=>rfl⟩
   ·have:=eY b v.2 (szV a v.1 n) (by omega)
    exact ⟨by omega,this.2⟩
theorem JT {α:Type} {f:α->Int->Int} {B:α->Prop} (b: ∀x n,0<=n->n<=1048576->0<=f x n->f x n<=n/\B x): ∀(xs:List α) (n:Int),0<=n->n<=1048576->0<=szL f xs n-> ∀x∈xs,B x
 | [],_,_,_,_=>by simp
 | x::r,n,c,h1,h=>by
   simp only [szL]at h
   split at h
   ·omega
   ·rename_i d
    have:=b x n c h1 (by omega)
    intro y a
    rcases List.mem_cons.1 a with rfl | a
    ·exact this.2
    ·exact JT b r (f x n) (by omega) (by omega) h y a
theorem rP: ∀(t:Ty) (x:Val t) (n:Int),0<=n->n<=1048576->0<=szV t x n->Bd t x
 | .int _,_,_,_,_,_=>trivial
 | .bool,_,_,_,_,_=>trivial
 | .hdr,_,_,_,_,_=>trivial
 | .str,s,n,c,h1,h=>by
   simp only [szV]at h
   split at h
   ·omega
   ·simp only [Bd];omega
 | .slice _ t,xs,n,c,h1,h=>by
   simp only [szV]at h
   split at h
   ·omega
   ·refine ⟨by omega,?_⟩
    exact JT (f:=szV t) (fun x n c h1 h=>⟨(eY t x n c).1,rP t x n c h1 h⟩) xs _ (by omega) (by omega) h
 | .pair a b,v,n,c,h1,h=>by
   simp only [szV]at h
   split at h
   ·omega
   ·have:=eY a v.1 n c
    exact ⟨rP a v.1 n c h1 (by omega),rP b v.2 _ (by omega) (by omega) h⟩
theorem JU {α:Type} {f:α->Int->Int} (a: ∀x n,f x n=n): ∀(xs:List α) (n:Int),0<=n->szL f xs n=n
 | [],_,_=>rfl
 | x::r,n,h=>by simp only [szL,a];rw [if_neg (by omega),JU a r n h]
def eqL {α:Type} (f:α->α->Bool):List α->List α->Bool
 | [],[]=>true
 | x::xs,y::ys=>f x y&&eqL f xs ys
 | _,_=>false
def eqV:(t:Ty)->Val t->Val t->Bool
 | .int _,a,b=>decide ((a:Int)=b)
 | .bool,a,b=>(a:Bool)==b
 | .str,a,b=>ByteArray.toList a==ByteArray.toList b
 | .hdr,_,_=>true
 | .slice _ t,xs,ys=>eqL (eqV t) xs ys
 | .pair a b,v,u=>eqV a v.1 u.1&&eqV b v.2 u.2
theorem JV {α:Type} {f:α->α->Bool} (a: ∀x,f x x=true): ∀xs:List α,eqL f xs xs=true
 | []=>rfl
 | x::xs=>by simp [eqL,a,JV a xs]
theorem l3: ∀(t:Ty) (x:Val t),eqV t x x=true
 | .int _,x=>by simp [eqV]
 | .bool,x=>by simp [eqV]
 | .str,x=>by simp [eqV]
 | .hdr,x=>by simp [eqV]
 | .slice _ t,xs=>by simp only [eqV];exact JV (l3 t) xs
 | .pair a b,v=>by simp [eqV,l3 a v.1,l3 b v.2]
theorem rQ {α:Type} {f:α->α->Bool}: ∀(xs ys:List α),xs.length≠ys.length->eqL f xs ys=false
 | [],[],h=>absurd rfl h
 | [],_::_,_=>rfl
 | _::_,[],_=>rfl
 | x::xs,y::ys,h=>by simp [eqL,rQ xs ys (by simpa using h)]
theorem JW {a b:Ty} {v:Val a×Val b} {n:Int}:szV (.pair a b) v n=if szV a v.1 n<0 then -1 else szV b v.2 (szV a v.1 n):=rfl
theorem JX {e:Nat} {t:Ty} {xs:List (Val t)} {n:Int}:szV (.slice e t) xs n=if n - xs.length<0 then -1 else szL (szV t) xs (n - xs.length):=rfl
theorem VO {a b:Ty} {v:Val a×Val b} {n:Int} (h:szV a v.1 n<0):szV (.pair a b) v n= -1:=by rw [JW,if_pos h]
theorem JY {a b:Ty} {v:Val a×Val b} {n:Int} (h:0<=szV a v.1 n):szV (.pair a b) v n=szV b v.2 (szV a v.1 n):=by rw [JW,if_neg (by omega)]
theorem VP {t:Ty} (h: ∀(x:Val t) n,szV t x n=n) (xs:List (Val t)) (n:Int) (a:0<=n):szL (szV t) xs n=n:=JU h xs n a
theorem b3 {i n:Nat} (h:i<n) (a:n<=1048576):IntKind.i64.wrap ((i:Int)+1)=((i+1:Nat):Int):=by
 rw [IntKind.wrap_i64];omega
def nO (t:Ty) (x:Val t) (n:Int):Prop:=Sm t x/\0<=n/\n<=1048576
def eZ {α:Type} (xs:List α) (d:α) (i:Nat):List α:=xs.take i++List.replicate (xs.length - i) d
theorem VQ {α:Type} {xs:List α} {d:α} {i:Nat} (h:i<=xs.length):(eZ xs d i).length=xs.length:=by
 simp [eZ];omega
theorem VR {α:Type} (xs:List α) (d:α):List.replicate xs.length d=eZ xs d 0:=by simp [eZ]
theorem VS {α:Type} {xs:List α} {d:α} {i:Nat} (h:xs.length<=i):eZ xs d i=xs:=by
 simp [eZ,List.take_of_length_le h,Nat.sub_eq_zero_of_le h]
theorem VT {α:Type} {xs:List α} {d d':α} {i:Nat} (h:i<xs.length):(eZ xs d i).set i (xs[i]?.getD d')=eZ xs d (i+1):=by
 have a:xs.length - i=(xs.length - (i+1))+1:=by omega
 have b:i - (xs.take i).length=0:=by simp;omega
 unfold eZ
 rw [a,List.replicate_succ,List.set_append_right _ _ (by simp;omega),b,List.set_cons_zero,List.getElem?_eq_getElem h,Option.getD_some]
 have e3:xs.take (i+1)=xs.take i++[xs[i]]:=by rw [List.take_add_one,List.getElem?_eq_getElem h];rfl
 rw [e3,List.append_assoc];rfl
theorem bn {n:Int} (h1: -9223372036854775808<=n) (h2:n<=9223372036854775807):IntKind.i64.wrap n=n:=by
 rw [IntKind.wrap_i64];omega
def JZ:Nat->Nat->Tree->Tree
 | _,0,t=>t
 | i,n+1,t=> .quiet i (JZ (i+1) n t)
attribute [simp] JZ
end Go.T
namespace Go.T
open Go
inductive Fix
 | env (j c e:Nat) (t:Ty)
 | box (j c e:Nat) (t:Ty)
 | und (j c e:Nat) (t:Ty)
 | nse (j c e:Nat) (t:Ty)
 | nsb (j c e:Nat) (t:Ty)
 | unb (j c e:Nat) (t:Ty)
 | frb (j c e:Nat) (t:Ty)
 | shb (j c e:Nat) (t:Ty)
 | she (j c e:Nat) (t:Ty)
structure Nm where
 keep:List Bool
 fix:List Fix:=[]
 zero:Bool:=false
def St.undp (st:St) (id:Nat):St:=match st.heap[id]? with
 | some (.row e t xs true mt _)=>{env:=st.env,heap:=st.heap.set id (.row e t xs false mt st.heap.length)}
 | _=>st
def St.frz (st:St) (id:Nat):St:={env:=st.env,heap:=freeze st.heap [id]}
def St.fix1 (st:St):Fix->St
 | .env j c e t=>match st.env[j]? with
   | some (.one .nils)=>{env:=st.env.set j (.one (.own st.heap.length)),heap:=st.heap++[.row e t [] true true 0]}
   | some (.agg cs)=>match cs[c]? with
     | some .nils=>{env:=st.env.set j (.agg (cs.set c (.own st.heap.length))),heap:=st.heap++[.row e t [] true true 0]}
     | _=>st
   | _=>st
 | .box j c e t=>match st.env[j]? with
   | some (.one (.ptr id _ _))=>match st.heap[id]? with
     | some (.box cs)=>match cs[c]? with
       | some .nils=>{env:=st.env,heap:=st.heap.set id (.box (cs.set c (.own st.heap.length)))++[.row e t [] true true 0]}
       | _=>st
     | _=>st
   | _=>st
 | .nse j c e t=>match st.env[j]? with
   | some (.one .nils)=>{env:=st.env.set j (.one (.sl e t [] st.heap.length)),heap:=st.heap}
   | some (.agg cs)=>match cs[c]? with
     | some .nils=>{env:=st.env.set j (.agg (cs.set c (.sl e t [] st.heap.length))),heap:=st.heap}
     | _=>st
   | _=>st
 | .nsb j c e t=>match st.env[j]? with
   | some (.one (.ptr id _ _))=>match st.heap[id]? with
     | some (.box cs)=>match cs[c]? with
       | some .nils=>{env:=st.env,heap:=st.heap.set id (.box (cs.set c (.sl e t [] st.heap.length)))}
       | _=>st
     | _=>st
   | _=>st
 | .und j c _ _=>match st.env[j]? with
   | some a=>match a.cells[c]? with
     | some (.own id)=>st.undp id
     | _=>st
   | _=>st
 | .unb j c _ _=>match st.env[j]? with
   | some (.one (.ptr b _ _))=>match st.heap[b]? with
     | some (.box cs)=>match cs[c]? with
       | some (.own id)=>st.undp id
       | _=>st
     | _=>st
   | _=>st
 | .frb j c _ _=>match st.env[j]? with
   | some (.one (.ptr b _ _))=>match st.heap[b]? with
     | some (.box cs)=>match cs[c]? with
       | some (.own id)=>st.frz id
       | _=>st
     | _=>st
   | _=>st
 | .shb j c _ _=>match st.env[j]? with
   | some (.one (.ptr b _ _))=>match st.heap[b]? with
     | some (.box cs)=>match cs[c]? with
       | some (.own id)=>match st.heap[id]? with
         | some (.row e t xs _ false _)=>{env:=st.env,heap:=st.heap.set b (.box (cs.set c (.sl e t xs st.heap.length)))}
         | _=>st
       | _=>st
     | _=>st
   | _=>st
 | .she j c _ _=>match st.env[j]? with
   | some (.one (.own id))=>match st.heap[id]? with
     | some (.row e t xs _ _ _)=>{env:=st.env.set j (.one (.sl e t xs st.heap.length)),heap:=freeze st.heap [id]}
     | _=>st
   | some (.agg cs)=>match cs[c]? with
     | some (.own id)=>match st.heap[id]? with
       | some (.row e t xs _ _ _)=>{env:=st.env.set j (.agg (cs.set c (.sl e t xs st.heap.length))),heap:=freeze st.heap [id]}
       | _=>st
     | _=>st
   | _=>st
def St.fixes (st:St):List Fix->St
 | []=>st
 | f::r=>(st.fix1 f).fixes r
def St.norm (nm:Nm) (st:St):St:=(st.fixes nm.fix).gc nm.zero nm.keep
section
variable {w0 w : World} {mine : Mine} {m : Mp} {h : List Blk}
theorem HR.rebox (H:HR w0 mine w m h) {id:Nat} {cs cs':List LC} (i:h[id]?=some (.box cs)) (B: ∀vs:List Value,F2 (C w m h) cs vs->F2 (C w m h) cs' vs):
 HR w0 mine w m (h.set id (.box cs'))/\Oks w w m m h (h.set id (.box cs'))/\bA m m h (h.set id (.box cs')):=by
 have r:=(List.getElem?_eq_some_iff.1 i).1
 have get: ∀j y,(h.set id (.box cs'))[j]?=some y->(j=id/\y= .box cs')∨(j≠id/\h[j]?=some y):=fun j y a=>by
  rw [List.getElem?_set]at a
  split at a
  ·rename_i e;subst e;simp [r]at a;exact .inl ⟨rfl,a.symm⟩
  ·rename_i e;exact .inr ⟨fun e'=>e e'.symm,a⟩
 have g: ∀j y,(h.set id (.box cs'))[j]?=some y-> ∃c,h[j]?=some c/\fpB m j y=fpB m j c/\ ∀n b,okB m n b j y↔okB m n b j c:=fun j y a=>by
  rcases get j y a with ⟨rfl,rfl⟩ | ⟨_,a⟩
  ·exact ⟨_,i,rfl,fun _ _=>Iff.rfl⟩
  ·exact ⟨y,a,rfl,fun _ _=>Iff.rfl⟩
 have k:Oks w w m m h (h.set id (.box cs')):=fun n b p _=>⟨rfl,p.1,fun j y a=>by
  obtain ⟨c,d,_,h2⟩:=g j y a
  exact (h2 n b).2 (p.2 j c d)⟩
 have hs:bA m m h (h.set id (.box cs')):=fun j x l=>by
  by_cases e:j=id
  ·subst e
   rw [i]at l;cases l
   exact ⟨.box cs',by simp [r],rfl⟩
  ·refine ⟨x,by rw [List.getElem?_set_ne (fun e'=>e e'.symm)];exact l,?_⟩
   cases x<;>simp [Sim]
 refine ⟨⟨fun j y a=> ?_,fun j y a=> ?_,fun j y s F D a o b f q=> ?_,fun j y a b f=> ?_,H.fr,H.mx,H.nx,fun j v E=> ?_⟩,k,hs⟩
 ·rcases get j y a with ⟨rfl,rfl⟩ | ⟨_,o⟩
  ·obtain ⟨arr,ty,h1,h2,z⟩:=H.br j _ i
   exact ⟨arr,ty,h1,(B _ h2).imp fun _ _ _ A=>fS k hs A,z⟩
  ·exact eT k hs rfl rfl rfl (fun _ _=>rfl) (H.br j y o)
 ·obtain ⟨c,d,h1,_⟩:=g j y a
  rw [h1];exact H.nd j c d
 ·obtain ⟨c,d,h1,_⟩:=g j y a
  obtain ⟨G,t,u,_⟩:=g s F o
  rw [h1]at f;rw [u]at q
  exact H.dj j c s G D d t b f q
 ·obtain ⟨c,d,h1,_⟩:=g j y a
  rw [h1]at f;exact H.lt j c d b f
 ·obtain ⟨h1,h2⟩:=H.pn j v E
  exact ⟨by simpa using h1,h2⟩
theorem HR.newNil (H:HR w0 mine w m h) (e:Nat) (t:Ty): ∃m',HR w0 mine w m' (h++[.row e t [] true true 0])/\Oks w w m m' h (h++[.row e t [] true true 0])/\bA m m' h (h++[.row e t [] true true 0])/\
 C w m' (h++[.row e t [] true true 0]) (.own h.length) (.slice none 0 0):=by
 have a:F2 (eb w) [.row e t [] true true 0] [((.slice none 0 0:Value),([]:List Nat))]:= .cons ⟨e,t,[],[],rfl,⟨by simp,.inl ⟨rfl,rfl⟩⟩,rfl,rfl⟩ .nil
 obtain ⟨b,d,hs⟩:=HR.results H (Fr.refl _ w) a (by simp [qU.fp,Value.ownBlock]) (by simp [qU.fp,Value.ownBlock])
 exact ⟨_,b,d,hs,(nC a (c:= .own h.length) ⟨0,_,rfl,rfl,rfl⟩).1⟩
theorem e0 {α β:Type} {R:α->β->Prop} {cs:List α} {vs:List β} (b:F2 R cs vs) {c:Nat} {x:α} (a: ∀v,vs[c]?=some v->R x v):F2 R (cs.set c x) vs:=by
 induction b generalizing c with
 | nil=>exact .nil
 | cons h1 h2 e=>cases c with
   | zero=>exact .cons (a _ rfl) h2
   | succ c=>exact .cons h1 (e fun v d=>a v (by simpa using d))
theorem HR.undeep (H:HR w0 mine w m h) {id e:Nat} {t:Ty} {xs:List (Val t)} {mt:Bool} {n:Nat} (d:h[id]?=some (.row e t xs true mt n)):
 HR w0 mine w m (h.set id (.row e t xs false mt h.length))/\Oks w w m m h (h.set id (.row e t xs false mt h.length))/\bA m m h (h.set id (.row e t xs false mt h.length)):=by
 have D:=(List.getElem?_eq_some_iff.1 d).1
 have get: ∀j y,(h.set id (.row e t xs false mt h.length))[j]?=some y->(j=id/\y= .row e t xs false mt h.length)∨(j≠id/\h[j]?=some y):=fun j y a=>by
  rw [List.getElem?_set]at a
  split at a
  ·rename_i q;subst q;simp [D]at a;exact .inl ⟨rfl,a.symm⟩
  ·rename_i q;exact .inr ⟨fun u=>q u.symm,a⟩
 have o: ∀j y,(h.set id (.row e t xs false mt h.length))[j]?=some y-> ∃I,h[j]?=some I/\ ∀b∈fpB m j y,b∈fpB m j I:=fun j y a=>by
  rcases get j y a with ⟨rfl,rfl⟩ | ⟨_,a⟩
  ·refine ⟨_,d,fun b l=> ?_⟩
   have l:b∈(m.val j).ownBlock.toList++[]:=l
   rw [List.append_nil]at l
   exact List.mem_append_left _ l
  ·exact ⟨y,a,fun _ h=>h⟩
 have E:Oks w w m m h (h.set id (.row e t xs false mt h.length)):=fun k b hk _=>⟨rfl,hk.1,fun j y a=>by
  rcases get j y a with ⟨rfl,rfl⟩ | ⟨_,a⟩
  ·exact ⟨(hk.2 j _ d).1,fun h=>by simp at h⟩
  ·exact hk.2 j y a⟩
 have hs:bA m m h (h.set id (.row e t xs false mt h.length)):=fun j x r=>by
  by_cases q:j=id
  ·subst q
   rw [d]at r;cases r
   exact ⟨_,List.getElem?_set_self D,rfl,rfl⟩
  ·refine ⟨x,by rw [List.getElem?_set_ne (fun u=>q u.symm)];exact r,?_⟩
   cases x<;>simp [Sim]
 obtain ⟨inner,P,N,_⟩:=H.br id _ d
 have p:=H.nd id _ d
 simp only [fpB]at p
 refine ⟨⟨fun j y a=> ?_,fun j y a=> ?_,fun j y G W O a T b h1 h2=> ?_,fun j y a b h1=> ?_,H.fr,H.mx,H.nx,fun j v S=> ?_⟩,E,hs⟩
 ·rcases get j y a with ⟨rfl,rfl⟩ | ⟨_,a⟩
  ·refine ⟨inner,P,N.toKs fun x c B J K=>M_K K fun b L=> ?_⟩
   have C:b∈m.nst j:=J b L
   have A:b∈fpB m j (.row e t xs true mt n):=List.mem_append_right _ C
   refine ⟨by rw [H.mx];exact H.nx b (H.lt j _ d b A).2,fun i z f=> ?_⟩
   rcases get i z f with ⟨rfl,rfl⟩ | ⟨M,f⟩
   ·refine ⟨fun _ Q=> ?_,fun h=>by simp at h⟩
    exact (List.nodup_append.1 p).2.2 b (by simp [Q]) b C rfl
   ·have g:=H.dj j _ i z (fun q=>M q.symm) d f b A
    cases z with
    | dead=>trivial
    | box cs=>show b≠m.blk i;simpa [fpB] using g
    | nst F t hs vs=>exact g
    | row e' t' Z dp Y k=>
      simp only [fpB,List.mem_append,not_or]at g
      refine ⟨fun _ R=>g.1 (by simp [R]),fun hd _ hm=> ?_⟩
      subst hd
      exact g.2 hm
  ·exact eT E hs rfl rfl rfl (fun _ _=>rfl) (H.br j y a)
 ·rcases get j y a with ⟨rfl,rfl⟩ | ⟨_,a⟩
  ·show ((m.val j).ownBlock.toList++[]).Nodup
   rw [List.append_nil]
   exact (List.nodup_append.1 p).1
  ·exact H.nd j y a
 ·obtain ⟨z,f,s⟩:=o j y a
  obtain ⟨X,U,V⟩:=o G W T
  exact H.dj j z G X O f U b (s b h1) (V b h2)
 ·obtain ⟨z,f,s⟩:=o j y a
  exact H.lt j z f b (s b h1)
 ·obtain ⟨h1,h2⟩:=H.pn j v S
  exact ⟨by simpa using h1,h2⟩
theorem Le.undp (st:St) (id:Nat):Le st (st.undp id):=fun w0 mine a w g b=>by
 unfold St.undp
 split
 ·rename_i e t xs mt n d
  obtain ⟨hd,m,H,he⟩:=b
  obtain ⟨c,f,hs⟩:=H.undeep d
  exact ⟨hd,m,c,bV f hs he⟩
 ·exact b
theorem Le.frz (st:St) (id:Nat):Le st (st.frz id):=fun w0 mine a w e d=>by
 obtain ⟨hd,m,H,he⟩:=d
 obtain ⟨b,c,hs⟩:=H.weaker (bu.freeze st.heap [id])
 exact ⟨hd,m,b,bV c hs he⟩
theorem yL {m:Mp} {v:Value} {e n:Nat} {t:Ty} (h1:C w m h .nils v):C w m h (.sl e t [] n) v:=by
 have h1:v= .slice none 0 0:=h1
 exact ⟨none,0,h1,Nat.le_refl _,fun i x a=>by simp at a⟩
theorem VU {h:List Blk} {id e n:Nat} {t:Ty} {xs:List (Val t)} {dp:Bool} (b:h[id]?=some (.row e t xs dp false n)):freeze h [id]=h:=by
 unfold freeze
 simp only [List.foldl_cons,List.foldl_nil]
 refine List.ext_getElem? fun i=> ?_
 rw [List.getElem?_modify]
 by_cases a:id=i
 ·subst a
  rw [b];simp [Blk.froze]
 ·simp [a]
theorem Le.fix1 (st:St) (f:Fix):Le st (st.fix1 f):=fun w0 mine a w I l=>by
 obtain ⟨hd,m,H,he⟩:=l
 cases f with
 | env j c e t=>
   simp only [St.fix1]
   split
   ·rename_i o
    obtain ⟨m',y,s,hs,E⟩:=H.newNil e t
    refine ⟨hd,m',y,e0 (bV s hs he) fun v x=> ?_⟩
    obtain ⟨G,k,q⟩:=he.get o
    rw [x]at k;cases k
    have:v= .slice none 0 0:=q
    subst this
    exact E
   ·rename_i cs o
    split
    ·rename_i r
     obtain ⟨m',y,s,hs,E⟩:=H.newNil e t
     refine ⟨hd,m',y,e0 (bV s hs he) fun v x=> ?_⟩
     obtain ⟨G,k,q⟩:=he.get o
     rw [x]at k;cases k
     obtain ⟨vs,rfl,d⟩:=q
     refine ⟨vs,rfl,e0 (d.imp fun _ _ _ h=>fS s hs h) fun u hu=> ?_⟩
     obtain ⟨F,g,p⟩:=d.get r
     rw [hu]at g;cases g
     have:u= .slice none 0 0:=p
     subst this
     exact E
    ·exact ⟨hd,m,H,he⟩
   ·exact ⟨hd,m,H,he⟩
 | box j c e t=>
   simp only [St.fix1]
   split
   ·rename_i id i f o
    split
    ·rename_i cs A
     split
     ·rename_i r
      obtain ⟨m',y,s,hs,E⟩:=H.newNil e t
      have J:=(List.getElem?_eq_some_iff.1 A).1
      have K:(st.heap++[Blk.row e t [] true true 0])[id]?=some (.box cs):=by rw [List.getElem?_append_left J];exact A
      obtain ⟨z,B,C⟩:=y.rebox K (cs':=cs.set c (.own st.heap.length)) fun vs d=>e0 d fun u hu=>by
           obtain ⟨F,g,p⟩:=d.get r
           rw [hu]at g;cases g
           have:u= .slice none 0 0:=p
           subst this
           exact E
      rw [List.set_append_left _ _ J]at z B C
      exact ⟨hd,m',z,bV B C (bV s hs he)⟩
     ·exact ⟨hd,m,H,he⟩
    ·exact ⟨hd,m,H,he⟩
   ·exact ⟨hd,m,H,he⟩
 | nse j c e t=>
   simp only [St.fix1]
   split
   ·rename_i o
    refine ⟨hd,m,H,e0 he fun v x=> ?_⟩
    obtain ⟨G,k,q⟩:=he.get o
    rw [x]at k;cases k
    exact yL (e:=e) (t:=t) q
   ·rename_i cs o
    split
    ·rename_i r
     refine ⟨hd,m,H,e0 he fun v x=> ?_⟩
     obtain ⟨G,k,q⟩:=he.get o
     rw [x]at k;cases k
     obtain ⟨vs,rfl,d⟩:=q
     refine ⟨vs,rfl,e0 d fun u hu=> ?_⟩
     obtain ⟨F,g,p⟩:=d.get r
     rw [hu]at g;cases g
     exact yL p
    ·exact ⟨hd,m,H,he⟩
   ·exact ⟨hd,m,H,he⟩
 | nsb j c e t=>
   simp only [St.fix1]
   split
   ·rename_i id i f o
    split
    ·rename_i cs A
     split
     ·rename_i r
      obtain ⟨z,B,C⟩:=H.rebox A (cs':=cs.set c (.sl e t [] st.heap.length)) fun vs d=>e0 d fun u hu=>by
           obtain ⟨F,g,p⟩:=d.get r
           rw [hu]at g;cases g
           exact yL p
      exact ⟨hd,m,z,bV B C he⟩
     ·exact ⟨hd,m,H,he⟩
    ·exact ⟨hd,m,H,he⟩
   ·exact ⟨hd,m,H,he⟩
 | und j c e t=>
   have l:R w0 mine st a w:=⟨hd,m,H,he⟩
   simp only [St.fix1]
   split
   ·split
    ·exact Le.undp st _ w0 mine a w I l
    ·exact l
   ·exact l
 | unb j c e t=>
   have l:R w0 mine st a w:=⟨hd,m,H,he⟩
   simp only [St.fix1]
   split
   ·split
    ·split
     ·exact Le.undp st _ w0 mine a w I l
     ·exact l
    ·exact l
   ·exact l
 | frb j c e t=>
   have l:R w0 mine st a w:=⟨hd,m,H,he⟩
   simp only [St.fix1]
   split
   ·split
    ·split
     ·exact Le.frz st _ w0 mine a w I l
     ·exact l
    ·exact l
   ·exact l
 | shb j c e t=>
   simp only [St.fix1]
   split
   ·rename_i b i f o
    split
    ·rename_i cs A
     split
     ·rename_i id r
      split
      ·rename_i e' t' xs dp n D
       obtain ⟨z,B,C⟩:=H.rebox A (cs':=cs.set c (.sl e' t' xs st.heap.length)) fun vs d=>e0 d fun u hu=>by
             obtain ⟨F,g,p⟩:=d.get r
             rw [hu]at g;cases g
             have:=rF H D p
             rw [VU D]at this
             exact this
       exact ⟨hd,m,z,bV B C he⟩
      ·exact ⟨hd,m,H,he⟩
     ·exact ⟨hd,m,H,he⟩
    ·exact ⟨hd,m,H,he⟩
   ·exact ⟨hd,m,H,he⟩
 | she j c e t=>
   simp only [St.fix1]
   split
   ·rename_i id o
    split
    ·rename_i e' t' xs dp mt n D
     obtain ⟨y,s,hs⟩:=H.weaker (bu.freeze st.heap [id])
     refine ⟨hd,m,y,e0 (bV s hs he) fun v x=> ?_⟩
     obtain ⟨G,k,q⟩:=he.get o
     rw [x]at k;cases k
     exact rF H D q
    ·exact ⟨hd,m,H,he⟩
   ·rename_i cs o
    split
    ·rename_i id r
     split
     ·rename_i e' t' xs dp mt n D
      obtain ⟨y,s,hs⟩:=H.weaker (bu.freeze st.heap [id])
      refine ⟨hd,m,y,e0 (bV s hs he) fun v x=> ?_⟩
      obtain ⟨G,k,q⟩:=he.get o
      rw [x]at k;cases k
      obtain ⟨vs,rfl,d⟩:=q
      refine ⟨vs,rfl,e0 (d.imp fun _ _ _ h=>fS s hs h) fun u hu=> ?_⟩
      obtain ⟨F,g,p⟩:=d.get r
      rw [hu]at g;cases g
      exact rF H D p
     ·exact ⟨hd,m,H,he⟩
    ·exact ⟨hd,m,H,he⟩
   ·exact ⟨hd,m,H,he⟩
theorem Le.fixes: ∀(l:List Fix) (st:St),Le st (st.fixes l)
 | [],st=>Le.refl st
 | f::r,st=>(Le.fix1 st f).trans (Le.fixes r _)
theorem Le.norm (nm:Nm) (st:St):Le st (st.norm nm):=(Le.fixes nm.fix st).trans (Le.gc _ nm.zero nm.keep)
end
def LC.clamp (L:Nat):LC->LC
 | .sl e t xs n=>if n<=L then .sl e t xs n else .undef
 | .tptr t v f n=>if n<=L then .tptr t v f n else .undef
 | c=>c
def LV.clamp (L:Nat):LV->LV
 | .one c=> .one (c.clamp L)
 | .agg cs=> .agg (cs.map (LC.clamp L))
 | .tup _=> .one .undef
def Blk.clamp (L:Nat):Blk->Blk
 | .box cs=> .box (cs.map (LC.clamp L))
 | .row e t xs false mt n=>if n<=L then .row e t xs false mt n else .dead
 | b=>b
inductive Pre
 | opn (id:Nat) (t:Ty)
 | cls (id j:Nat) (t:Ty) (sel:List (Val t)->List Nat)
def J0 (st:St) (id e:Nat) (t:Ty) (mt:Bool) (n:Nat) (F:List Nat) (hs:List (Val (hd t))) (xs:List (Val t)):St:=
 ⟨st.env.map (LV.clamp n),(st.heap.map (Blk.clamp n)).set id (.row e (hd t) hs true mt 0)++[.nst F t hs xs]⟩
end Go.T
namespace Go.T
open Go
section
variable {w0 w w' : World} {mine : Mine} {m m' : Mp} {h : List Blk}
structure Keeps (w w':World) (m m':Mp) (h h':List Blk) (L:Nat):Prop where
 ok: ∀n b,n<=L->qM m h n b->b<w.heap.size->w'.heap[b]?=w.heap[b]?/\qM m' h' n b
 sim: ∀id x,h[id]?=some x-> ∃x',h'[id]?=some x'/\Sim m m' id x x'
theorem yM {h':List Blk} {L:Nat} (K:Keeps w w' m m' h h' L): ∀{c:LC} {v:Value},C w m h c v->C w' m' h' (c.clamp L) v
 | .int _ _,_,d | .bool _,_,d | .str _,_,d | .hdr _,_,d | .nils,_,d | .nilp,_,d | .fn _,_,d=>d
 | .undef,_,_=>trivial
 | .clo f ids,v,d=>ID (w':=w') K.sim d
 | .sl e t xs n,v,d=>by
   simp only [LC.clamp]
   split
   ·rename_i l
    obtain ⟨A,c,he,p,u⟩:=d
    exact ⟨A,c,he,p,lL (fun b j k=>(K.ok n b l j k).1) (fun b j k=>(K.ok n b l j k).2) u⟩
   ·trivial
 | .tptr t x f n,v,d=>by
   simp only [LC.clamp]
   split
   ·rename_i l
    obtain ⟨a,cs,he,hk,r,j⟩:=d
    have k: ∀p:0<cs.length,a.block<w.heap.size:=fun p=>r.block_lt p
    have s:0<cs.length:=by rw [cE hk];exact Ty.sz_pos t
    exact ⟨a,cs,he,cv (fun b j k=>(K.ok n b l j k).1) (fun b j k=>(K.ok n b l j k).2) hk,r.move (K.ok n _ l j (k s)).1,(K.ok n _ l j (k s)).2⟩
   ·trivial
 | .own id,v,d=>by
   simp only [LC.clamp,C]at d ⊢
   cases o:h[id]? with
   | none=>rw [o]at d;exact d.elim
   | some x=>
     obtain ⟨x',q,hs⟩:=K.sim id x o
     rw [o]at d
     rw [q]
     cases x<;>cases x'<;>simp_all [Sim]
 | .ptr id i f,v,d=>by
   simp only [LC.clamp,C]at d ⊢
   cases o:h[id]? with
   | none=>rw [o]at d;exact d.elim
   | some x=>
     obtain ⟨x',q,hs⟩:=K.sim id x o
     rw [o]at d
     rw [q]
     cases x<;>cases x'<;>simp_all [Sim]
     all_goals try (obtain ⟨g,y,rfl⟩:=d;rfl)
theorem J1 {h':List Blk} {L:Nat} (K:Keeps w w' m m' h h' L) {cs:List LC} {us:List Value} (a:F2 (C w m h) cs us):F2 (C w' m' h') (cs.map (LC.clamp L)) us:=by
 induction a with
 | nil=>exact .nil
 | cons h1 _ b=>exact .cons (yM K h1) b
theorem VV {h':List Blk} {L:Nat} (K:Keeps w w' m m' h h' L): ∀{l:LV} {v:Value},V w m h l v->V w' m' h' (l.clamp L) v
 | .one c,v,a=>yM K (c:=c) a
 | .agg cs,v,a=>by
   obtain ⟨vs,he,b⟩:=a
   refine ⟨vs,he,?_⟩
   clear he
   generalize vs.toList=us at b
   induction b with
   | nil=>exact .nil
   | cons h1 _ d=>exact .cons (yM K h1) d
 | .tup _,_,_=>trivial
theorem yN {h':List Blk} {L:Nat} (K:Keeps w w' m m' h h' L) {env:List LV} {vs:List Value} (a:F2 (V w m h) env vs):F2 (V w' m' h') (env.map (LV.clamp L)) vs:=by
 induction a with
 | nil=>exact .nil
 | cons h1 _ b=>exact .cons (VV K h1) b
end
section
variable {w0 w w' : World} {mine : Mine} {m m' : Mp} {h : List Blk} {st : St} {a : Act}
theorem HR.opn (H:HR w0 mine w m h) {id e:Nat} {t:Ty} {xs:List (Val t)} {mt:Bool} {n:Nat} (l:h[id]?=some (.row e t xs true mt n)):
 ∃(hs:List (Val (hd t))) (F:List Nat) (m':Mp),eV t hs xs/\HR w0 mine w m' ((h.map (Blk.clamp n)).set id (.row e (hd t) hs true mt 0)++[.nst F t hs xs])/\Keeps w w m m' h ((h.map (Blk.clamp n)).set id (.row e (hd t) hs true mt 0)++[.nst F t hs xs]) n:=by
 obtain ⟨inner,S,R,W⟩:=H.br id _ l
 obtain ⟨hs,m1,O,P⟩:=yk R
 have g:=Ja O P
 have V:id<h.length:=(List.getElem?_eq_some_iff.1 l).1
 refine ⟨hs,m.nst id,{m with nst:=fun i=>if i=id then []else m.nst i},g,?_⟩
 have N:=H.nd id _ l
 simp only [fpB]at N
 have A:=List.nodup_append.1 N
 have get: ∀i y,((h.map (Blk.clamp n)).set id (.row e (hd t) hs true mt 0)++[.nst (m.nst id) t hs xs])[i]?=some y->(i=id/\y= .row e (hd t) hs true mt 0)∨(i=h.length/\y= .nst (m.nst id) t hs xs)∨(i≠id/\i≠h.length/\ ∃x,h[i]?=some x/\y=x.clamp n):=fun i y d=>by
  by_cases E:i<h.length
  ·rw [List.getElem?_append_left (by simpa using E)]at d
   rw [List.getElem?_set]at d
   split at d
   ·rename_i e';subst e';simp [E]at d;exact .inl ⟨rfl,d.symm⟩
   ·rename_i e'
    rw [List.getElem?_map]at d
    cases f:h[i]? with
    | none=>rw [f]at d;simp at d
    | some x=>rw [f]at d;simp at d;exact .inr (.inr ⟨fun q=>e' q.symm,by omega,x,rfl,d.symm⟩)
  ·rw [List.getElem?_append_right (by simp;omega)]at d
   have hlen:i - ((h.map (Blk.clamp n)).set id (.row e (hd t) hs true mt 0)).length=i - h.length:=by simp
   rw [hlen]at d
   have:i - h.length=0:=by
        rcases Nat.eq_zero_or_pos (i - h.length)with L | L
        ·exact L
        ·rw [List.getElem?_eq_none (by simp;omega)]at d;simp at d
   rw [this]at d
   simp at d
   exact .inr (.inl ⟨by omega,d.symm⟩)
 have B: ∀i,i≠id->(if i=id then []else m.nst i)=m.nst i:=fun i j=>by simp [j]
 have p: ∀i x,i≠id-> ∀b,b∈fpB {m with nst:=fun i=>if i=id then []else m.nst i} i (x.clamp n)->b∈fpB m i x:=fun i x j b a=>by
  cases x with
  | dead=>exact a
  | box cs=>exact a
  | nst F t hs vs=>exact a
  | row e t xs dp mt k=>
    cases dp with
    | true=>
      have a:b∈(m.val i).ownBlock.toList++(if i=id then []else m.nst i):=a
      rw [B i j]at a;exact a
    | false=>
      simp only [Blk.clamp]at a
      split at a
      ·exact a
      ·simp [fpB]at a
 have K:Keeps w w m {m with nst:=fun i=>if i=id then []else m.nst i} h ((h.map (Blk.clamp n)).set id (.row e (hd t) hs true mt 0)++[.nst (m.nst id) t hs xs]) n:=by
  refine ⟨fun X b hle a E=>⟨rfl,a.1,fun i y d=> ?_⟩,fun i x f=> ?_⟩
  ·rcases get i y d with ⟨rfl,rfl⟩ | ⟨rfl,rfl⟩ | ⟨j,_,x,f,rfl⟩
   ·exact ⟨(a.2 _ _ l).1,fun _ _=>by simp⟩
   ·exact (a.2 _ _ l).2 rfl hle
   ·have:=a.2 i x f
    cases x with
    | dead=>trivial
    | box cs=>exact this
    | nst F t hs vs=>exact this
    | row e t xs dp mt k=>
      cases dp with
      | true=>
        refine ⟨this.1,fun h1 h2=> ?_⟩
        show b∉(if i=id then []else m.nst i)
        rw [B i j];exact this.2 h1 h2
      | false=>
        simp only [Blk.clamp]
        split
        ·exact ⟨this.1,fun h=>by simp at h⟩
        ·trivial
  ·have D:i<h.length:=(List.getElem?_eq_some_iff.1 f).1
   by_cases j:i=id
   ·subst j
    rw [l]at f;cases f
    exact ⟨.row e (hd t) hs true mt 0,by rw [List.getElem?_append_left (by simpa using D),List.getElem?_set_self (by simpa using D)],ey t,rfl⟩
   ·refine ⟨x.clamp n,by rw [List.getElem?_append_left (by simpa using D),List.getElem?_set_ne (fun q=>j q.symm),List.getElem?_map,f];rfl,?_⟩
    have a:=H.br i x f
    cases x with
    | dead=>trivial
    | box cs=>rfl
    | nst F t hs vs=>trivial
    | row e t xs dp mt k=>
      cases dp with
      | true=>exact ⟨rfl,rfl⟩
      | false=>
        simp only [Blk.clamp]
        split
        ·exact ⟨rfl,rfl⟩
        ·exact BR.rowOne a
 refine ⟨⟨fun i y d=> ?_,fun i y d=> ?_,fun i y o J u d I b a r=> ?_,fun i y d b a=> ?_,H.fr,H.mx,H.nx,fun i v T=> ?_⟩,K⟩
 ·rcases get i y d with ⟨rfl,rfl⟩ | ⟨rfl,rfl⟩ | ⟨j,_,x,f,rfl⟩
  ·refine ⟨inner,by rw [ey,g.1];exact S,?_,Nat.zero_le _⟩
   simpa using m1
  ·exact O
  ·have a:=H.br i x f
   cases x with
   | dead=>trivial
   | box cs=>
     obtain ⟨arr,ty,h1,h2,Q⟩:=a
     exact ⟨arr,ty,h1,J1 K h2,Q⟩
   | nst F t hs vs=>exact a
   | row e t xs dp mt k=>
     obtain ⟨inner,h1,h2⟩:=a
     cases dp with
     | true=>
       refine ⟨inner,h1,?_,h2.2⟩
       show Ms (M w t) xs inner (if i=id then []else m.nst i)
       rw [B i j];exact h2.1
     | false=>
       simp only [Blk.clamp]
       split
       ·rename_i hle
        exact ⟨inner,h1,h2.imp fun x c hk=>cv (fun b a G=>(K.ok k b hle a G).1) (fun b a G=>(K.ok k b hle a G).2) hk⟩
       ·trivial
 ·rcases get i y d with ⟨rfl,rfl⟩ | ⟨rfl,rfl⟩ | ⟨j,_,x,f,rfl⟩
  ·show ((m.val i).ownBlock.toList++(if i=i then []else m.nst i)).Nodup
   simpa using A.1
  ·exact A.2.1
  ·have:=H.nd i x f
   cases x with
   | dead=>exact this
   | box cs=>exact this
   | nst F t hs vs=>exact this
   | row e t xs dp mt k=>
     cases dp with
     | true=>
       show ((m.val i).ownBlock.toList++(if i=id then []else m.nst i)).Nodup
       rw [B i j];exact this
     | false=>
       simp only [Blk.clamp]
       split
       ·exact this
       ·exact List.nodup_nil
 ·have own: ∀b,b∈fpB {m with nst:=fun i=>if i=id then []else m.nst i} id (.row e (hd t) hs true mt 0)->b∈(m.val id).ownBlock.toList:=fun b a=>by
   have a:b∈(m.val id).ownBlock.toList++(if id=id then []else m.nst id):=a
   simpa using a
  have C: ∀b,b∈(m.val id).ownBlock.toList∨b∈m.nst id->b∈fpB m id (.row e t xs true mt n):=fun b a=>List.mem_append.2 a
  rcases get i y d with ⟨rfl,rfl⟩ | ⟨rfl,rfl⟩ | ⟨j,U,x,f,rfl⟩
  ·rcases get o J I with ⟨rfl,rfl⟩ | ⟨rfl,rfl⟩ | ⟨s,_,x',z,rfl⟩
   ·exact u rfl
   ·exact A.2.2 b (own b a) b r rfl
   ·exact H.dj i _ o x' u l z b (C b (.inl (own b a))) (p o x' s b r)
  ·rcases get o J I with ⟨rfl,rfl⟩ | ⟨rfl,rfl⟩ | ⟨s,_,x',z,rfl⟩
   ·exact A.2.2 b (own b r) b a rfl
   ·exact u rfl
   ·exact H.dj id _ o x' (fun q=>s q.symm) l z b (C b (.inr a)) (p o x' s b r)
  ·rcases get o J I with ⟨rfl,rfl⟩ | ⟨rfl,rfl⟩ | ⟨s,_,x',z,rfl⟩
   ·exact H.dj i x o _ u f l b (p i x j b a) (C b (.inl (own b r)))
   ·exact H.dj i x id _ j f l b (p i x j b a) (C b (.inr r))
   ·exact H.dj i x o x' u f z b (p i x j b a) (p o x' s b r)
 ·rcases get i y d with ⟨rfl,rfl⟩ | ⟨rfl,rfl⟩ | ⟨j,_,x,f,rfl⟩
  ·have a:b∈(m.val i).ownBlock.toList++(if i=i then []else m.nst i):=a
   exact H.lt i _ l b (List.mem_append_left _ (by simpa using a))
  ·exact H.lt id _ l b (List.mem_append_right _ a)
  ·exact H.lt i x f b (p i x j b a)
 ·obtain ⟨h1,h2⟩:=H.pn i v T
  exact ⟨by simp;omega,h2⟩
theorem J2 {a:List (List Nat)} {is:List Nat} {b:Nat} (h:b∈(is.map fun i=>a.getD i []).flatten): ∃i∈is,b∈a.getD i []:=by
 obtain ⟨l,e,c⟩:=List.mem_flatten.1 h
 obtain ⟨i,d,rfl⟩:=List.mem_map.1 e
 exact ⟨i,d,c⟩
theorem rR {a:List (List Nat)} {i b:Nat} (h:b∈a.getD i []):b∈a.flatten:=by
 simp only [List.getD]at h
 cases c:a[i]? with
 | none=>rw [c]at h;simp at h
 | some l=>rw [c]at h;exact List.mem_flatten.2 ⟨l,List.mem_of_getElem? c,h⟩
theorem J3: ∀{a:List (List Nat)} {i j b:Nat},a.flatten.Nodup->i≠j->b∈a.getD i []->b∉a.getD j []
 | [],_,_,_,_,_,h=>by simp at h
 | B::a,i,j,b,c,f,d=>by
   rw [List.flatten_cons,List.nodup_append]at c
   cases i with
   | zero=>
     cases j with
     | zero=>exact absurd rfl f
     | succ j=>exact fun e=>c.2.2 b (by simpa using d) b (rR (by simpa using e)) rfl
   | succ i=>
     cases j with
     | zero=>exact fun e=>c.2.2 b (by simpa using e) b (rR (by simpa using d)) rfl
     | succ j=>simpa using J3 (i:=i) (j:=j) c.2.1 (fun q=>f (by omega)) (by simpa using d)
theorem J4: ∀{a:List (List Nat)} {i:Nat},a.flatten.Nodup->(a.getD i []).Nodup
 | [],_,_=>by simp
 | B::a,i,b=>by
   rw [List.flatten_cons,List.nodup_append]at b
   cases i with
   | zero=>simpa using b.1
   | succ i=>simpa using J4 (i:=i) b.2.1
theorem J5 {d:List (List Nat)} (a:d.flatten.Nodup): ∀{is:List Nat},is.Nodup->(is.map fun i=>d.getD i []).flatten.Nodup
 | [],_=>by simp
 | i::is,l=>by
   obtain ⟨h1,h2⟩:=List.nodup_cons.1 l
   rw [List.map_cons,List.flatten_cons,List.nodup_append]
   refine ⟨J4 a,J5 a h2,fun b f c h e=> ?_⟩
   subst e
   obtain ⟨j,k,g⟩:=J2 h
   exact J3 a (fun (q:i=j)=>h1 (by rw [q];exact k)) f g
theorem J6 {t:Ty} {vs:List (Val t)} {hs:List (Val (hd t))} {a:List (List Nat)} (e: ∀i v u,vs[i]?=some v->hs[i]?=some u->Nst w t v u (a.getD i [])) (d:hs.length=vs.length) (hm:qZ t vs hs=hs):
 ∀{is:List Nat} {cs:List Value},(∀i∈is,i<vs.length)->Ms (M w (hd t)) (is.map fun i=>hs.getD i (qa (hd t))) cs []->Ms (M w t) (is.map fun i=>vs.getD i (qa t)) cs (is.map fun i=>a.getD i []).flatten
 | [],_,_,h=>⟨h.1,rfl⟩
 | i::is,_,b,h=>by
   obtain ⟨c1,c2,k,l,rfl,p,h1,h2⟩:=h
   have m:k=[]:=jM h1
   have n:l=[]:=nw h2
   subst m;subst n
   have c:i<vs.length:=b i (by simp)
   have g:vs[i]?=some (vs.getD i (qa t)):=by simp [List.getD,c]
   have f:hs[i]?=some (hs.getD i (qa (hd t))):=by simp [List.getD,d,c]
   refine ⟨c1,c2,_,_,rfl,rfl,ry (h:=hs.getD i (qa (hd t))) ?_ (e i _ _ g f),J6 e d hm (fun j o=>b j (by simp [o])) h2⟩
   rw [lP hm g f];exact h1
theorem HR.cls (H:HR w0 mine w m h) {id j e:Nat} {t:Ty} {is:List Nat} {hs:List (Val (hd t))} {vs:List (Val t)} {F:List Nat} {mt:Bool} {n:Nat} (p:h[id]?=some (.row e (hd t) (is.map fun i=>hs.getD i (qa (hd t))) true mt n)) (o:h[j]?=some (.nst F t hs vs))
 (ad:is.Nodup) (V: ∀i∈is,i<vs.length) (hm:qZ t vs hs=hs) (ab:hs.length=vs.length):
 ∃m',HR w0 mine w m' ((h.set j .dead).set id (.row e t (is.map fun i=>vs.getD i (qa t)) true mt 0))/\Oks w w m m' h ((h.set j .dead).set id (.row e t (is.map fun i=>vs.getD i (qa t)) true mt 0))/\bA m m' h ((h.set j .dead).set id (.row e t (is.map fun i=>vs.getD i (qa t)) true mt 0)):=by
 obtain ⟨inner,P,I,ak⟩:=H.br id _ p
 have U:b0 w t vs hs F:=H.br j _ o
 obtain ⟨g,K,_,af⟩:=rA U
 have T:g.flatten.Nodup:=by have:=H.nd j _ o;rw [show fpB m j (.nst F t hs vs)=F from rfl,K]at this;exact this
 have ae:m.nst id=[]:=nw I
 rw [ae]at I
 have Z:id<h.length:=(List.getElem?_eq_some_iff.1 p).1
 have aa:j<h.length:=(List.getElem?_eq_some_iff.1 o).1
 have Y:id≠j:=fun q=>by subst q;rw [p]at o;simp at o
 have B: ∀b∈(is.map fun i=>g.getD i []).flatten,b∈F:=fun b k=>by
  obtain ⟨i,_,W⟩:=J2 k
  rw [K];exact rR W
 refine ⟨{m with nst:=fun i=>if i=id then (is.map fun i=>g.getD i []).flatten else m.nst i},?_⟩
 have get: ∀i y,((h.set j .dead).set id (.row e t (is.map fun i=>vs.getD i (qa t)) true mt 0))[i]?=some y->(i=id/\y= .row e t (is.map fun i=>vs.getD i (qa t)) true mt 0)∨(i=j/\y= .dead)∨(i≠id/\i≠j/\h[i]?=some y):=fun i y a=>by
  rw [List.getElem?_set]at a
  split at a
  ·rename_i q;subst q;simp [Z]at a;exact .inl ⟨rfl,a.symm⟩
  ·rename_i q
   rw [List.getElem?_set]at a
   split at a
   ·rename_i J;subst J;simp [aa]at a;exact .inr (.inl ⟨rfl,a.symm⟩)
   ·rename_i J;exact .inr (.inr ⟨fun z=>q z.symm,fun z=>J z.symm,a⟩)
 have ai: ∀i,i≠id->(if i=id then (is.map fun i=>g.getD i []).flatten else m.nst i)=m.nst i:=fun i f=>by simp [f]
 have A: ∀i x,i≠id->fpB {m with nst:=fun i=>if i=id then (is.map fun i=>g.getD i []).flatten else m.nst i} i x=fpB m i x:=fun i x f=>by
  cases x<;>simp [fpB,f]
 have aj: ∀n b i x,i≠id->(okB {m with nst:=fun i=>if i=id then (is.map fun i=>g.getD i []).flatten else m.nst i} n b i x↔okB m n b i x):=fun n b i x f=>by
  cases x<;>simp [okB,f]
 have Q:Oks w w m {m with nst:=fun i=>if i=id then (is.map fun i=>g.getD i []).flatten else m.nst i} h ((h.set j .dead).set id (.row e t (is.map fun i=>vs.getD i (qa t)) true mt 0)):=fun ah b k _=>⟨rfl,k.1,fun i y a=>by
  rcases get i y a with ⟨rfl,rfl⟩ | ⟨rfl,rfl⟩ | ⟨f,_,d⟩
  ·refine ⟨(k.2 _ _ p).1,fun _ _=> ?_⟩
   show b∉(if i=i then (is.map fun i=>g.getD i []).flatten else m.nst i)
   simp only [if_true]
   exact fun ac=>(k.2 j _ o) (B b ac)
  ·trivial
  ·exact (aj ah b i y f).2 (k.2 i y d)⟩
 have R:bA m {m with nst:=fun i=>if i=id then (is.map fun i=>g.getD i []).flatten else m.nst i} h ((h.set j .dead).set id (.row e t (is.map fun i=>vs.getD i (qa t)) true mt 0)):=fun i x d=>by
  have N:i<h.length:=(List.getElem?_eq_some_iff.1 d).1
  by_cases h1:i=id
  ·subst h1
   rw [p]at d;cases d
   exact ⟨_,List.getElem?_set_self (by simpa using N),(ey t).symm,rfl⟩
  ·by_cases h2:i=j
   ·subst h2
    rw [o]at d;cases d
    exact ⟨.dead,by rw [List.getElem?_set_ne (fun q=>h1 q.symm),List.getElem?_set_self N],trivial⟩
   ·refine ⟨x,by rw [List.getElem?_set_ne (fun q=>h1 q.symm),List.getElem?_set_ne (fun q=>h2 q.symm)];exact d,?_⟩
    cases x<;>simp [Sim]
 have own: ∀b,b∈fpB {m with nst:=fun i=>if i=id then (is.map fun i=>g.getD i []).flatten else m.nst i} id (.row e t (is.map fun i=>vs.getD i (qa t)) true mt 0)->b∈(m.val id).ownBlock.toList∨b∈(is.map fun i=>g.getD i []).flatten:=fun b k=>by
  have k:b∈(m.val id).ownBlock.toList++(if id=id then (is.map fun i=>g.getD i []).flatten else m.nst id):=k
  rw [if_pos rfl]at k
  exact List.mem_append.1 k
 have E: ∀b,b∈(m.val id).ownBlock.toList->b∈fpB m id (.row e (hd t) (is.map fun i=>hs.getD i (qa (hd t))) true mt n):=fun b k=>List.mem_append_left _ k
 refine ⟨⟨fun i y a=> ?_,fun i y a=> ?_,fun i y s u C a S b l r=> ?_,fun i y a b l=> ?_,H.fr,H.mx,H.nx,fun i v ag=> ?_⟩,Q,R⟩
 ·rcases get i y a with ⟨rfl,rfl⟩ | ⟨rfl,rfl⟩ | ⟨f,_,d⟩
  ·refine ⟨inner,?_,?_,Nat.zero_le _⟩
   ·rw [ey]at P
    simpa using P
   ·show Ms (M w t) _ inner (if i=i then (is.map fun i=>g.getD i []).flatten else m.nst i)
    rw [if_pos rfl]
    exact J6 af ab hm V I
  ·trivial
  ·exact eT Q R rfl rfl (ai i f) (fun _ _=>rfl) (H.br i y d)
 ·rcases get i y a with ⟨rfl,rfl⟩ | ⟨rfl,rfl⟩ | ⟨f,_,d⟩
  ·show ((m.val i).ownBlock.toList++(if i=i then (is.map fun i=>g.getD i []).flatten else m.nst i)).Nodup
   rw [if_pos rfl,List.nodup_append]
   have O:=H.nd i _ p
   simp only [fpB]at O
   refine ⟨(List.nodup_append.1 O).1,J5 T ad,fun b h1 c h2 q=> ?_⟩
   subst q
   exact H.dj i _ j _ Y p o b (E b h1) (B b h2)
  ·exact List.nodup_nil
  ·rw [A i y f];exact H.nd i y d
 ·rcases get i y a with ⟨rfl,rfl⟩ | ⟨rfl,rfl⟩ | ⟨f,X,d⟩
  ·rcases get s u S with ⟨rfl,rfl⟩ | ⟨rfl,rfl⟩ | ⟨G,L,D⟩
   ·exact C rfl
   ·simp [fpB]at r
   ·rw [A s u G]at r
    rcases own b l with h1 | h1
    ·exact H.dj i _ s u C p D b (E b h1) r
    ·exact H.dj j _ s u (fun q=>L q.symm) o D b (B b h1) r
  ·simp [fpB]at l
  ·rw [A i y f]at l
   rcases get s u S with ⟨rfl,rfl⟩ | ⟨rfl,rfl⟩ | ⟨G,L,D⟩
   ·rcases own b r with h1 | h1
    ·exact H.dj i y s _ C d p b l (E b h1)
    ·exact H.dj i y j _ X d o b l (B b h1)
   ·simp [fpB]at r
   ·rw [A s u G]at r
    exact H.dj i y s u C d D b l r
 ·rcases get i y a with ⟨rfl,rfl⟩ | ⟨rfl,rfl⟩ | ⟨f,_,d⟩
  ·rcases own b l with h1 | h1
   ·exact H.lt i _ p b (E b h1)
   ·exact H.lt j _ o b (B b h1)
  ·simp [fpB]at l
  ·rw [A i y f]at l
   exact H.lt i y d b l
 ·obtain ⟨h1,h2⟩:=H.pn i v ag
  exact ⟨by simpa using h1,h2⟩
end
section
variable {ρ : Type}
open Classical in
noncomputable def chk (p:Prop) (k:Option ρ):Option ρ:=if p then k else none
theorem de {p:Prop} {k:Option ρ} {r:ρ}:chk p k=some r↔p/\k=some r:=by
 unfold chk;split<;>simp [*]
theorem qc {p:Prop} {k:Option ρ} (h:p):chk p k=k:=by simp [chk,h]
theorem J7 {p:Prop} {k a:Option ρ} (h:p->k=a):chk p k=chk p a:=by
 unfold chk;split
 ·rename_i b;exact h b
 ·rfl
open Classical in
noncomputable def fA {b:Type} (a:b->Prop) (F:b->Option ρ):Option ρ:=if h: ∃r,(∃i,a i)/\ ∀i,a i->F i=some r then some (Classical.choose h)else none
theorem VW {b:Type} {a:b->Prop} {F:b->Option ρ} {r:ρ} (h:fA a F=some r): ∀i,a i->F i=some r:=by
 unfold fA at h
 split at h
 ·rename_i d
  have:=Classical.choose_spec d
  simp only [Option.some.injEq]at h
  intro i c
  rw [this.2 i c,h]
 ·simp at h
theorem rS {d:Type} {a:d->Prop} {F:d->Option ρ} {r:ρ} (b: ∃i,a i) (h: ∀i,a i->F i=some r):fA a F=some r:=by
 unfold fA
 rw [dif_pos ⟨r,b,h⟩]
 have:=Classical.choose_spec (⟨r,b,h⟩: ∃r,(∃i,a i)/\ ∀i,a i->F i=some r)
 obtain ⟨i,c⟩:=b
 rw [<-this.2 i c,h i c]
theorem J8 {g:Type} {a:g->Prop} {F d:g->Option ρ} (h: ∀i,a i->F i=d i):fA a F=fA a d:=by
 have e:(∃r,(∃i,a i)/\ ∀i,a i->F i=some r)↔(∃r,(∃i,a i)/\ ∀i,a i->d i=some r):=by
  constructor
  ·rintro ⟨r,c,f⟩;exact ⟨r,c,fun i b=>by rw [<-h i b];exact f i b⟩
  ·rintro ⟨r,c,f⟩;exact ⟨r,c,fun i b=>by rw [h i b];exact f i b⟩
 by_cases c: ∃r,(∃i,a i)/\ ∀i,a i->F i=some r
 ·obtain ⟨r,h1,h2⟩:=c
  rw [rS h1 h2,rS h1 fun i b=>by rw [<-h i b];exact h2 i b]
 ·have j:=fun q=>c (e.2 q)
  unfold fA
  rw [dif_neg c,dif_neg j]
noncomputable def l4 (o:Option Pre) (st:St) (k:St->Option ρ):Option ρ:=match o with
 | none=>k st
 | some (.opn id t)=>match st.heap[id]? with
   | some (.row e t' xs true mt n)=>if a:t'=t then fA (fun p:List Nat×List (Val (hd t))=>eV t p.2 (a▸xs)) (fun p=>k (J0 st id e t mt n p.1 p.2 (a▸xs)))else none
   | _=>none
 | some (.cls id j t sel)=>match st.heap[id]?,st.heap[j]? with
   | some (.row e t1 ys true mt _),some (.nst _ t2 hs vs)=>if a:t1=hd t/\t2=t then
      chk ((a.1▸ys:List (Val (hd t)))=(sel (a.2▸vs)).map (fun i=>(a.2▸hs:List (Val (hd t))).getD i (qa (hd t)))/\(sel (a.2▸vs)).Nodup/\(∀i∈sel (a.2▸vs),i<(a.2▸vs:List (Val t)).length)/\qZ t (a.2▸vs) (a.2▸hs)=(a.2▸hs:List (Val (hd t)))/\(a.2▸hs:List (Val (hd t))).length=(a.2▸vs:List (Val t)).length)
         (k ⟨st.env,(st.heap.set j .dead).set id (.row e t ((sel (a.2▸vs)).map (fun i=>(a.2▸vs:List (Val t)).getD i (qa t))) true mt 0)⟩)
     else none
   | _,_=>none
theorem VX {o:Option Pre} {k:St->Option ρ} {w0 w:World} {mine:Mine} {st:St} {a:Act} {r:ρ} (h:l4 o st k=some r) (f:R w0 mine st a w): ∃q,R w0 mine q a w/\k q=some r:=by
 unfold l4 at h
 split at h
 ·exact ⟨st,f,h⟩
 ·split at h
  ·rename_i id t e t' xs mt n l
   split at h
   ·rename_i d
    subst d
    obtain ⟨c,m,H,he⟩:=f
    obtain ⟨hs,F,m',g,b,K⟩:=H.opn l
    exact ⟨_,⟨c,m',b,yN K he⟩,VW h (F,hs) g⟩
   ·simp at h
  ·simp at h
 ·rename_i id j t sel
  split at h
  ·rename_i e t1 ys mt n F t2 hs vs l u
   split at h
   ·rename_i d
    obtain ⟨rfl,rfl⟩:=d
    obtain ⟨⟨p,x,s,hm,v⟩,hk⟩:=de.1 h
    obtain ⟨c,m,H,he⟩:=f
    have p:ys=(sel vs).map fun i=>hs.getD i (qa (hd t2)):=p
    subst p
    obtain ⟨m',b,y,z⟩:=H.cls l u x s hm v
    exact ⟨⟨st.env,(st.heap.set j .dead).set id (.row e t2 ((sel vs).map fun i=>vs.getD i (qa t2)) true mt 0)⟩,⟨c,m',b,bV y z he⟩,hk⟩
   ·simp at h
  ·simp at h
end
end Go.T
namespace Go.T
open Go
variable {ρ : Type}
abbrev Sem:=Oper->St->Res
noncomputable def hb (S:Sem) (o:Oper) (st:St) (k:St->Option ρ):Option ρ:=match S o st with
 | some (p,a)=>chk p (k a)
 | none=>none
noncomputable def opR (S:Sem) (tt:TT) (Γ:Gam) (o:Oper) (st:St) (k:St->Option ρ):Option ρ:=match b1 tt Γ o st with
 | some (p,a)=>chk p (k a)
 | none=>hb S o st k
def fB (ops:Array Oper) (o:Oper) (st:St) (yes no:St->Option ρ):Option ρ:=match o.guard with
 | none=>yes st
 | some (j,want)=>match (ops[j]?).bind (·.dst)with
   | none=>no st
   | some t=>match st.env[t]? with
     | some (.one (.bool b))=>bif (b==want)then yes (st.lit t want)else no (st.lit t (!want))
     | some (.tup _)=>no st
     | none=>no st
     | _=>none
noncomputable def dJ (S:Sem) (tt:TT) (Γ:Gam) (ops:Array Oper):List Oper->St->(St->Option ρ)->Option ρ
 | [],st,k=>k st
 | o::os,st,k=>fB ops o st (fun st=>opR S tt Γ o st fun st=>dJ S tt Γ ops os st k) (fun st=>dJ S tt Γ ops os (st.put o.dst (.tup [])) k)
noncomputable def opS (S:Sem) (tt:TT) (Γ:Gam) (o:Oper) (st:St) (k:St->Option ρ):Option ρ:=match S o st with
 | some (p,a)=>chk p (k a)
 | none=>opR dI tt Γ o st k
noncomputable def ee (S:Sem) (tt:TT) (Γ:Gam) (ops:Array Oper):List Oper->St->(St->Option ρ)->Option ρ
 | [],st,k=>k st
 | o::os,st,k=>fB ops o st (fun st=>opS S tt Γ o st fun st=>ee S tt Γ ops os st k) (fun st=>ee S tt Γ ops os (st.put o.dst (.tup [])) k)
noncomputable def ga (tt:TT) (Γ:Gam) (ops:Array Oper) (i:Nat) (st:St) (k:St->Option ρ):Option ρ:=match ops[i]? with
 | none=>none
 | some o=>fB ops o st (fun st=>opR dI tt Γ o st k) (fun st=>k (st.put o.dst (.tup [])))
def Tree.isStop:Tree->Bool
 | .stop=>true
 | _=>false
open Classical in
noncomputable def jU (a b:Option ρ):Option ρ:=if a=b then a else none
theorem VY {a:Option ρ}:jU a a=a:=by simp [jU]
theorem J9 {a b:Option ρ} {r:ρ} (h:jU a b=some r):a=some r/\b=some r:=by
 unfold jU at h
 split at h
 ·rename_i e;exact ⟨h,e▸h⟩
 ·simp at h
noncomputable def cn (tt:TT) (Γ:Gam) (ops:Array Oper):Tree->St->(St->Option ρ)->Option ρ
 | .done,st,k=>k st
 | .first i t,st,k=>chk (nG ops i st) (ga tt Γ ops i st fun st=>cn tt Γ ops t st k)
 | .pure i t,st,k=>chk (nH ops i st) (ga tt Γ ops i st fun st=>cn tt Γ ops t st k)
 | .keep i t,st,k=>chk (nJ ops i st) (ga tt Γ ops i st fun st=>cn tt Γ ops t st k)
 | .quiet i t,st,k=>ga tt Γ ops i st fun st=>cn tt Γ ops t st k
 | .grow i t,st,k=>chk (nI ops i st) (ga tt Γ ops i st fun st=>cn tt Γ ops t st k)
 | .alt i t r,st,k=>bif r.isStop then ga tt Γ ops i st (fun st=>cn tt Γ ops t st k)else jU (ga tt Γ ops i st (fun st=>cn tt Γ ops t st k)) (cn tt Γ ops r st k)
 | _,_,_=>none
noncomputable def gb (sx:SX) (tt:TT) (Γ:Gam) (ops:Array Oper) (i:Nat) (st:St) (k:St->Option ρ):Option ρ:=match ops[i]? with
 | none=>none
 | some o=>fB ops o st (fun st=>bif sx.ids.contains i then hb sx.S o st k else opR dI tt Γ o st k) (fun st=>k (st.put o.dst (.tup [])))
noncomputable def c4 (sx:SX) (tt:TT) (Γ:Gam) (ops:Array Oper):Tree->St->(St->Option ρ)->Option ρ
 | .done,st,k=>k st
 | .first i t,st,k=>chk (nG ops i st) (gb sx tt Γ ops i st fun st=>c4 sx tt Γ ops t st k)
 | .pure i t,st,k=>chk (nH ops i st) (gb sx tt Γ ops i st fun st=>c4 sx tt Γ ops t st k)
 | .keep i t,st,k=>chk (nJ ops i st) (gb sx tt Γ ops i st fun st=>c4 sx tt Γ ops t st k)
 | .quiet i t,st,k=>gb sx tt Γ ops i st fun st=>c4 sx tt Γ ops t st k
 | .grow i t,st,k=>chk (nI ops i st) (gb sx tt Γ ops i st fun st=>c4 sx tt Γ ops t st k)
 | .alt i t r,st,k=>bif r.isStop then gb sx tt Γ ops i st (fun st=>c4 sx tt Γ ops t st k)else jU (gb sx tt Γ ops i st (fun st=>c4 sx tt Γ ops t st k)) (c4 sx tt Γ ops r st k)
 | _,_,_=>none
noncomputable def nP (S:Sem) (tt:TT) (Γ:Gam) (ops:Array Oper):Tree->St->(St->Option ρ)->Option ρ
 | .sem ids t,st,k=>c4 ⟨ids,S⟩ tt Γ ops t st k
 | .done,st,k=>cn tt Γ ops .done st k
 | .first i t,st,k=>cn tt Γ ops (.first i t) st k
 | .pure i t,st,k=>cn tt Γ ops (.pure i t) st k
 | .keep i t,st,k=>cn tt Γ ops (.keep i t) st k
 | .quiet i t,st,k=>cn tt Γ ops (.quiet i t) st k
 | .grow i t,st,k=>cn tt Γ ops (.grow i t) st k
 | .alt i t r,st,k=>cn tt Γ ops (.alt i t r) st k
 | .stop,st,k=>cn tt Γ ops .stop st k
def iq (k:St->Option ρ) (Q:X->St->Option ρ):X->St->Option ρ
 | .normal,st=>k st
 | .ret,st=>Q .ret st
 | .exit id,st=>Q (.exit id) st
def jV (id:Nat) (Q:X->St->Option ρ):X->St->Option ρ
 | .normal,st=>Q .normal st
 | .ret,st=>Q .ret st
 | .exit id',st=>bif id'==id then Q .normal st else Q (.exit id') st
def rT (c:Operand) (st:St) (x y:St->Option ρ):Option ρ:=match st.ev c with
 | .one (.bool b)=>bif b then x (st.litO c true)else y (st.litO c false)
 | _=>none
def St.nrm (pins:Bool) (nm:Nm) (st:St):St:=bif pins then st.forget nm.keep else st.norm nm
def qw (F:(X->St->Option ρ)->St->Option ρ) (pins:Bool) (nm:Nm) (Q:X->St->Option ρ):Nat->St->Option ρ
 | 0,_=>none
 | n+1,st=>F (iq (fun a=>qw F pins nm Q n (a.nrm pins nm)) Q) st
def rid:Code->Nat
 | .region id _ _=>id
 | .seq a _=>rid a
 | .cond _ a _=>rid a
 | .block _ a=>rid a
 | .loop a=>rid a
 | _=>0
inductive Jn
 | nm (n:Nm)
 | at (p:Option Pre) (tb:Option TT)
 | nt (n:Nm) (tb:TT)
 | sf
def Jn.tb:Jn->Option TT
 | .sf=>none
 | .nm _=>none
 | .at _ tb=>tb
 | .nt _ tb=>some tb
structure Tab where
 tr:Nat->Tree
 lp:Nat->Nm
 ex:Nat->Option Nm
 rg:Nat->Option Nm
 fuel:Nat
 pins:Bool:=false
 sem:Sem:=dI
 jn:Nat->Option Jn:=fun _=>none
def nxt (pins:Bool) (o:Option Nm) (k:St->Option ρ):St->Option ρ:=match o with
 | none=>k
 | some nm=>fun st=>k (st.nrm pins nm)
noncomputable def cd (tt:TT) (Γ:Gam) (T:Tab):Code->(X->St->Option ρ)->St->Option ρ
 | .region id ops false,Q,st=>dJ T.sem tt Γ ops ops.toList st (nxt T.pins (T.rg id) (Q .normal))
 | .region id ops true,Q,st=>nP T.sem tt Γ ops (T.tr id) st (nxt T.pins (T.rg id) (Q .normal))
 | _,_,_=>none
noncomputable def sfR (tt:TT) (Γ:Gam) (T:Tab):Code->(X->St->Option ρ)->St->Option ρ
 | .region id ops false,Q,st=>ee T.sem tt Γ ops ops.toList st (nxt T.pins (T.rg id) (Q .normal))
 | _,_,_=>none
noncomputable def jnR (o:Option Jn) (tt:TT) (Γ:Gam) (T:Tab) (c:Code) (Q:X->St->Option ρ) (st:St):Option ρ:=match o with
 | none=>cd tt Γ T c Q st
 | some (.nm nm)=>cd tt Γ T c Q (st.nrm T.pins nm)
 | some (.at p tb)=>l4 p st fun st=>cd (tb.getD tt) Γ T c Q st
 | some (.nt nm tb)=>cd tb Γ T c Q (st.nrm T.pins nm)
 | some .sf=>sfR tt Γ T c Q st
noncomputable def qd (tt:TT) (Γ:Gam) (T:Tab):Code->(X->St->Option ρ)->St->Option ρ
 | .skip,Q,st=>Q .normal st
 | .region id ops d,Q,st=>jnR (T.jn id) tt Γ T (.region id ops d) Q st
 | .seq a b,Q,st=>qd tt Γ T a (iq (qd tt Γ T b Q) Q) st
 | .cond c x y,Q,st=>rT c st (qd tt Γ T x Q) (qd tt Γ T y Q)
 | .block id c,Q,st=>qd tt Γ T c (jV id Q) st
 | .loop c,Q,st=>qw (qd tt Γ T c) T.pins (T.lp (rid c)) Q T.fuel (st.nrm T.pins (T.lp (rid c)))
 | .exit id,Q,st=>match T.ex id with
   | none=>Q (.exit id) st
   | some nm=>Q (.exit id) (st.nrm T.pins nm)
 | .ret,Q,st=>Q .ret st
 | _,_,_=>none
section
variable {P : Program} {tt : TT} {Γ : Gam} {T : Tab} {w0 w : World} {mine : Mine} {r : ρ} {ops : Array Oper}
theorem rU {o:Oper} {st:St} {yes no:St->Option ρ} {yes' no':St->Prop} (g: ∀s,yes s=some r->yes' s) (c: ∀s,no s=some r->no' s) (h:fB ops o st yes no=some r):b2 ops o st yes' no':=by
 unfold fB at h
 unfold b2
 split
 ·rename_i f;simp only [f]at h;exact g _ h
 ·rename_i j want f
  simp only [f]at h
  split
  ·rename_i d;simp only [d]at h;exact c _ h
  ·rename_i t d
   simp only [d]at h
   split
   ·rename_i b hs
    simp only [hs]at h
    cases a:(b==want)with
    | true=>
      rw [a]at h
      refine ⟨fun _=>g _ h,fun e=> ?_⟩
      subst e;cases want<;>simp at a
    | false=>
      rw [a]at h
      refine ⟨fun e=> ?_,fun _=>c _ h⟩
      subst e;simp at a
   ·rename_i ls hs;simp only [hs]at h;exact c _ h
   ·rename_i hs;simp only [hs]at h;exact c _ h
   ·rename_i h1 h2 i
    split at h
    ·rename_i b hs;exact absurd hs (h1 b)
    ·rename_i ls hs;exact absurd hs (h2 ls)
    ·rename_i hs;exact absurd hs i
    ·simp at h
theorem Ka (hT:bm P tt) (n: ∀f g,Γ.get f=some g->Sound P f g) {S:Sem} (m:ih P S w0 mine) {k:St->Option ρ} {Q:Exit->Act->World->Prop} (l: ∀a w st,R w0 mine st a w->k st=some r->Q .normal a w):
 ∀(os pre:List Oper),ops.toList=pre++os-> ∀(st:St) (a:Act) (w:World),dJ S tt Γ ops os st k=some r->R w0 mine st a w->wpOps P ops Q (List.range' pre.length os.length) a w
 | [],pre,_,st,a,w,h,d=>l a w st d h
 | o::os,pre,he,st,a,w,h,d=>by
   have t:ops[pre.length]?=some o:=by rw [<-Array.getElem?_toList,he];simp
   have i: ∀b c w',dJ S tt Γ ops os b k=some r->R w0 mine b c w'->wpOps P ops Q (List.range' (pre.length+1) os.length) c w':=fun b c w' h' e=>by
    have:=Ka hT n m l os (pre++[o]) (by rw [he];simp) b c w' h' e
    simpa using this
   rw [List.length_cons,List.range'_succ,wpOps_cons]
   unfold wpOp
   simp only [t]
   have q:=rU (yes':=fun s=>opR S tt Γ o s (fun st=>dJ S tt Γ ops os st k)=some r) (no':=fun s=>dJ S tt Γ ops os (s.put o.dst (.tup [])) k=some r) (fun _ hs=>hs) (fun _ hs=>hs) h
   rcases yx q d with ⟨hw,h'⟩ | ⟨hw,h'⟩
   ·rw [if_pos hw]
    refine .inl ?_
    unfold opR at h'
    split at h'
    ·rename_i p b j
     have:=de.1 h'
     exact yw hT n j this.1 d fun c w' e=>i b c w' this.2 e
    ·unfold hb at h'
     split at h'
     ·rename_i p b j
      have:=de.1 h'
      exact m o st p b j this.1 a w _ _ d fun c w' e=>i b c w' this.2 e
     ·simp at h'
   ·rw [if_neg (by rw [hw];simp)]
    exact i _ _ _ h' (d.skip o.dst)
theorem Kb (hT:bm P tt) (n: ∀f g,Γ.get f=some g->Sound P f g) {S:Sem} (m:ih P S w0 mine) {k:St->Option ρ} {Q:Exit->Act->World->Prop} (l: ∀a w st,R w0 mine st a w->k st=some r->Q .normal a w):
 ∀(os pre:List Oper),ops.toList=pre++os-> ∀(st:St) (a:Act) (w:World),ee S tt Γ ops os st k=some r->R w0 mine st a w->wpOps P ops Q (List.range' pre.length os.length) a w
 | [],pre,_,st,a,w,h,d=>l a w st d h
 | o::os,pre,he,st,a,w,h,d=>by
   have t:ops[pre.length]?=some o:=by rw [<-Array.getElem?_toList,he];simp
   have i: ∀b c w',ee S tt Γ ops os b k=some r->R w0 mine b c w'->wpOps P ops Q (List.range' (pre.length+1) os.length) c w':=fun b c w' h' e=>by
    have:=Kb hT n m l os (pre++[o]) (by rw [he];simp) b c w' h' e
    simpa using this
   rw [List.length_cons,List.range'_succ,wpOps_cons]
   unfold wpOp
   simp only [t]
   have q:=rU (yes':=fun s=>opS S tt Γ o s (fun st=>ee S tt Γ ops os st k)=some r) (no':=fun s=>ee S tt Γ ops os (s.put o.dst (.tup [])) k=some r) (fun _ hs=>hs) (fun _ hs=>hs) h
   rcases yx q d with ⟨hw,h'⟩ | ⟨hw,h'⟩
   ·rw [if_pos hw]
    refine .inl ?_
    unfold opS at h'
    split at h'
    ·rename_i p b j
     have:=de.1 h'
     exact m o st p b j this.1 a w _ _ d fun c w' e=>i b c w' this.2 e
    ·unfold opR at h'
     split at h'
     ·rename_i p b j
      have:=de.1 h'
      exact yw hT n j this.1 d fun c w' e=>i b c w' this.2 e
     ·simp [hb,dI]at h'
   ·rw [if_neg (by rw [hw];simp)]
    exact i _ _ _ h' (d.skip o.dst)
theorem jW {i:Nat} {st:St} {k:St->Option ρ} {a:St->Prop} (hk: ∀s,k s=some r->a s) (h:ga tt Γ ops i st k=some r):eB sx0 tt Γ ops i st a:=by
 unfold ga at h
 unfold eB
 split at h
 ·simp at h
 ·rename_i o b
  rw [b]
  refine rU (fun s hs=> ?_) (fun s hs=>hk _ hs) h
  unfold opR at hs
  unfold eW fy
  simp only [sx0,List.contains_nil,cond_false]
  split at hs
  ·rename_i p d c
   rw [c]
   have:=de.1 hs
   exact ⟨this.1,hk _ this.2⟩
  ·simp [hb,dI]at hs
theorem hc {k:St->Option ρ}: ∀(t:Tree) (st:St),cn tt Γ ops t st k=some r->ed sx0 tt Γ ops t st (fun s=>k s=some r)
 | .done,_,h=>h
 | .quiet i t,st,h=>jW (fun s hs=>hc t s hs) h
 | .alt i t r,st,h=>by
   simp only [cn]at h
   cases hs:r.isStop with
   | true=>
     rw [hs]at h
     refine ⟨jW (fun s hs=>hc t s hs) h,?_⟩
     cases r<;>first | exact trivial | simp [Tree.isStop]at hs
   | false=>
     rw [hs]at h
     obtain ⟨h1,h2⟩:=J9 h
     exact ⟨jW (fun s hs=>hc t s hs) h1,hc r st h2⟩
 | .grow i t,st,h=>by
   simp only [cn]at h
   have:=de.1 h
   exact ⟨this.1,jW (fun s hs=>hc t s hs) this.2⟩
 | .pure i t,st,h=>by
   simp only [cn]at h
   have:=de.1 h
   exact ⟨this.1,jW (fun s hs=>hc t s hs) this.2⟩
 | .keep i t,st,h=>by
   simp only [cn]at h
   have:=de.1 h
   exact ⟨this.1,jW (fun s hs=>hc t s hs) this.2⟩
 | .first i t,st,h=>by
   simp only [cn]at h
   have:=de.1 h
   exact ⟨this.1,jW (fun s hs=>hc t s hs) this.2⟩
 | .stop,st,h=>by simp [cn]at h
 | .sem _ _,st,h=>by simp [cn]at h
theorem jX {sx:SX} {i:Nat} {st:St} {k:St->Option ρ} {c:St->Prop} (hk: ∀s,k s=some r->c s) (h:gb sx tt Γ ops i st k=some r):eB sx tt Γ ops i st c:=by
 unfold gb at h
 unfold eB
 split at h
 ·simp at h
 ·rename_i o d
  rw [d]
  refine rU (fun s hs=> ?_) (fun s hs=>hk _ hs) h
  unfold eW fy
  cases b:sx.ids.contains i with
  | true=>
    rw [b]at hs
    simp only [cond_true]at hs ⊢
    unfold hb at hs
    split at hs
    ·rename_i p e a
     rw [a]
     have:=de.1 hs
     exact ⟨this.1,hk _ this.2⟩
    ·simp at hs
  | false=>
    rw [b]at hs
    simp only [cond_false]at hs ⊢
    unfold opR at hs
    split at hs
    ·rename_i p e a
     rw [a]
     have:=de.1 hs
     exact ⟨this.1,hk _ this.2⟩
    ·simp [hb,dI]at hs
theorem hf {sx:SX} {k:St->Option ρ}: ∀(t:Tree) (st:St),c4 sx tt Γ ops t st k=some r->ed sx tt Γ ops t st (fun s=>k s=some r)
 | .done,_,h=>h
 | .quiet i t,st,h=>jX (fun s hs=>hf t s hs) h
 | .alt i t r,st,h=>by
   simp only [c4]at h
   cases hs:r.isStop with
   | true=>
     rw [hs]at h
     refine ⟨jX (fun s hs=>hf t s hs) h,?_⟩
     cases r<;>first | exact trivial | simp [Tree.isStop]at hs
   | false=>
     rw [hs]at h
     obtain ⟨h1,h2⟩:=J9 h
     exact ⟨jX (fun s hs=>hf t s hs) h1,hf r st h2⟩
 | .grow i t,st,h=>by
   simp only [c4]at h
   have:=de.1 h
   exact ⟨this.1,jX (fun s hs=>hf t s hs) this.2⟩
 | .pure i t,st,h=>by
   simp only [c4]at h
   have:=de.1 h
   exact ⟨this.1,jX (fun s hs=>hf t s hs) this.2⟩
 | .keep i t,st,h=>by
   simp only [c4]at h
   have:=de.1 h
   exact ⟨this.1,jX (fun s hs=>hf t s hs) this.2⟩
 | .first i t,st,h=>by
   simp only [c4]at h
   have:=de.1 h
   exact ⟨this.1,jX (fun s hs=>hf t s hs) this.2⟩
 | .stop,st,h=>by simp [c4]at h
 | .sem _ _,st,h=>by simp [c4]at h
def l5 (pins:Bool) (mine:Mine):Prop:=pins=false-> ∀id,mine.pin id=none
theorem l6 {pins:Bool} (c:l5 pins mine) {nm:Nm} {st:St} {a:Act} (b:R w0 mine st a w):R w0 mine (st.nrm pins nm) a w:=by
 cases pins with
 | true=>exact LeP.of_forget nm.keep rfl _ _ _ _ b
 | false=>exact Le.norm nm st _ _ _ _ (c rfl) b
theorem VZ (p:l5 T.pins mine) {c:Code} {Q:X->St->Option ρ} {nm:Nm} (o: ∀(Q:X->St->Option ρ) (st:St) (a:Act) (w:World),qd tt Γ T c Q st=some r->R w0 mine st a w->c.wp P (fY w0 mine fun x s=>Q x s=some r) a w) {n:Nat} {st:St} {a:Act} {w:World}
 (h:qw (qd tt Γ T c) T.pins nm Q n st=some r) (q:R w0 mine st a w):(Code.loop c).wp P (fY w0 mine fun x s=>Q x s=some r) a w:=by
 let b:Act->World->Nat->Prop:=fun a w n=> ∃s,R w0 mine s a w/\qw (qd tt Γ T c) T.pins nm Q n s=some r
 have f: ∀a w,(∃n,b a w n)-> ∃m,b a w m/\ ∀k,b a w k->m<=k:=fun a w ⟨n,d⟩=>VA d
 let M:Act->World->Nat:=fun a w=>open Classical in if h: ∃n,b a w n then Classical.choose (f a w h)else 0
 have l: ∀a w n,b a w n->b a w (M a w)/\M a w<=n:=fun a w n d=>by
  have hex: ∃n,b a w n:=⟨n,d⟩
  simp only [M,dif_pos hex]
  exact ⟨(Classical.choose_spec (f a w hex)).1,(Classical.choose_spec (f a w hex)).2 n d⟩
 refine wp_loop (I:=fun a w=> ∃n,b a w n) (μ:=M) ⟨n,st,q,h⟩ fun a w hex=> ?_
 obtain ⟨n,d⟩:=hex
 obtain ⟨⟨s,hs,g⟩,_⟩:=l a w n d
 generalize v:M a w=u at g ⊢
 cases u with
 | zero=>simp [qw]at g
 | succ k=>
   refine wp_mono (o _ s a w g hs) fun e i w' he=> ?_
   cases e with
   | normal=>
     obtain ⟨y,t,hk⟩:=he
     have j:b i w' k:=⟨_,l6 p t,hk⟩
     have:=(l i w' _ j).2
     exact ⟨⟨_,j⟩,by omega⟩
   | ret=>exact he
   | exit id=>exact he
   | _=>exact he
theorem yO {pins:Bool} (c:l5 pins mine) {o:Option Nm} {Q:X->St->Option ρ} {st:St} {a:Act} (b:R w0 mine st a w) (h:nxt pins o (Q .normal) st=some r):fY w0 mine (fun x s=>Q x s=some r) .normal a w:=by
 unfold nxt at h
 split at h
 ·exact ⟨st,b,h⟩
 ·exact ⟨_,l6 c b,h⟩
theorem nQ (hT:bm P tt) (j: ∀f g,Γ.get f=some g->Sound P f g) (hm:P.follows .mixedOrders=true) (e:ih P T.sem w0 mine) (i:l5 T.pins mine): ∀(c:Code),qi T.tr c=true-> ∀(Q:X->St->Option ρ) (st:St) (a:Act) (w:World),cd tt Γ T c Q st=some r->R w0 mine st a w->c.wp P (fY w0 mine fun x s=>Q x s=some r) a w
 | .region id ops false,_,Q,st,a,w,h,d=>by
   refine wp_region ?_
   have:=Ka (ops:=ops) (Q:=fY w0 mine fun x s=>Q x s=some r) hT j e (k:=nxt T.pins (T.rg id) (Q .normal)) (fun a w st d hk=>yO i d hk) ops.toList [] rfl st a w h d
   rw [List.range_eq_range']
   simpa using this
 | .region id ops true,b,Q,st,a,w,h,d=>by
   refine wp_region_any hm ?_
   have o:R w0 mine st a {w with drawn:=w.drawn+1}:=by
    obtain ⟨hd,m,H,he⟩:=d
    obtain ⟨l,n,hs⟩:=H.heap_eq (w':={w with drawn:=w.drawn+1}) rfl rfl rfl rfl (Nat.le_succ _)
    exact ⟨hd,m,l,bV n hs he⟩
   have fin: ∀(sx:SX) (t:Tree),ih P sx.S w0 mine->cc sx.ids ops t ops.size (Array.replicate ops.size false) []=true->ed sx tt Γ ops t st (fun s=>nxt T.pins (T.rg id) (Q .normal) s=some r)->wpAny P .any ops (fY w0 mine fun x s=>Q x s=some r) ops.size (Array.replicate ops.size false) a {w with drawn:=w.drawn+1}:=fun sx t e b hw=>
    rG hT j e (k:=fun s=>nxt T.pins (T.rg id) (Q .normal) s=some r) (fun a w st d hk=>yO i d hk) _ _ st a _ (ij t ops.size _ [] st b hw (fun _ _ _ h=>by simp at h)) o
   replace b:Jz ops (T.tr id)=true:=b
   replace h:nP T.sem tt Γ ops (T.tr id) st (nxt T.pins (T.rg id) (Q .normal))=some r:=h
   generalize T.tr id=t at h b
   cases t with
   | sem ids t=>exact fin ⟨ids,T.sem⟩ t e b (hf _ _ h)
   | _=>exact fin sx0 _ (qp P).at b (hc _ _ h)
 | .seq ..,_,_,_,_,_,h,_=>by simp [cd]at h
 | .cond ..,_,_,_,_,_,h,_=>by simp [cd]at h
 | .skip,_,_,_,_,_,h,_=>by simp [cd]at h
 | .block ..,_,_,_,_,_,h,_=>by simp [cd]at h
 | .loop ..,_,_,_,_,_,h,_=>by simp [cd]at h
 | .exit ..,_,_,_,_,_,h,_=>by simp [cd]at h
 | .ret,_,_,_,_,_,h,_=>by simp [cd]at h
 | .rangeFunc ..,_,_,_,_,_,h,_=>by simp [cd]at h
 | .scope _,_,_,_,_,_,h,_=>by simp [cd]at h
 | .label _,_,_,_,_,_,h,_=>by simp [cd]at h
 | .goto _,_,_,_,_,_,h,_=>by simp [cd]at h
 | .refuse _,_,_,_,_,_,h,_=>by simp [cd]at h
theorem V0 (hT:bm P tt) (i: ∀f g,Γ.get f=some g->Sound P f g) (d:ih P T.sem w0 mine) (e:l5 T.pins mine) (c:Code) (Q:X->St->Option ρ) (st:St) (a:Act) (w:World) (h:sfR tt Γ T c Q st=some r) (b:R w0 mine st a w):c.wp P (fY w0 mine fun x s=>Q x s=some r) a w:=by
 unfold sfR at h
 split at h
 ·rename_i id ops
  refine wp_region ?_
  have:=Kb (ops:=ops) (Q:=fY w0 mine fun x s=>Q x s=some r) hT i d (k:=nxt T.pins (T.rg id) (Q .normal)) (fun a w st b hk=>yO e b hk) ops.toList [] rfl st a w h b
  rw [List.range_eq_range']
  simpa using this
 ·simp at h
def qj (P:Program) (T:Tab):Prop:= ∀id j t,T.jn id=some j->Jn.tb j=some t->bm P t
theorem hg (hT:bm P tt) (o:qj P T) (n: ∀f g,Γ.get f=some g->Sound P f g) (hm:P.follows .mixedOrders=true) (l:ih P T.sem w0 mine) (k:l5 T.pins mine): ∀(c:Code),qi T.tr c=true-> ∀(Q:X->St->Option ρ) (st:St) (a:Act) (w:World),qd tt Γ T c Q st=some r->R w0 mine st a w->c.wp P (fY w0 mine fun x s=>Q x s=some r) a w
 | .skip,_,Q,st,a,w,h,i=>wp_skip ⟨st,i,h⟩
 | .region id ops d,j,Q,st,a,w,h,i=>by
   have h:jnR (T.jn id) tt Γ T (.region id ops d) Q st=some r:=h
   unfold jnR at h
   split at h
   ·exact nQ hT n hm l k _ j Q st a w h i
   ·exact nQ hT n hm l k _ j Q _ a w h (l6 k i)
   ·rename_i p tb u
    obtain ⟨A,z,hk⟩:=VX h i
    cases tb with
    | none=>exact nQ hT n hm l k _ j Q A a w hk z
    | some t=>exact nQ (o _ _ _ u rfl) n hm l k _ j Q A a w hk z
   ·rename_i nm tb u
    exact nQ (o _ _ _ u rfl) n hm l k _ j Q _ a w h (l6 k i)
   ·exact V0 hT n l k _ Q st a w h i
 | .seq x y,j,Q,st,a,w,h,i=>by
   simp only [qi,Bool.and_eq_true]at j
   refine wp_seq (wp_mono (hg hT o n hm l k x j.1 _ st a w h i) fun e v w' he=> ?_)
   cases e with
   | normal=>obtain ⟨s,hs,hk⟩:=he;exact hg hT o n hm l k y j.2 Q s v w' hk hs
   | ret=>exact he
   | exit id=>exact he
   | _=>exact he
 | .cond c x y,j,Q,st,a,w,h,i=>by
   simp only [qi,Bool.and_eq_true]at j
   simp only [qd,rT]at h
   split at h
   ·rename_i b q
    have B:a.eval c= .bool b:=by
        obtain ⟨hd,m,H,he⟩:=i
        have:=R.ev H he c
        rw [q]at this
        exact this
    refine wp_cond B ?_
    cases b with
    | true=>
      have h:qd tt Γ T x Q (st.litO c true)=some r:=h
      rw [R.litO (a:=a) (w:=w) q]at h
      exact hg hT o n hm l k x j.1 Q st a w h i
    | false=>
      have h:qd tt Γ T y Q (st.litO c false)=some r:=h
      rw [R.litO (a:=a) (w:=w) q]at h
      exact hg hT o n hm l k y j.2 Q st a w h i
   ·simp at h
 | .block id c,j,Q,st,a,w,h,i=>by
   refine wp_block (wp_mono (hg hT o n hm l k c j _ st a w h i) fun e v w' he=> ?_)
   cases e with
   | normal=>exact he
   | ret=>exact he
   | exit id'=>
     obtain ⟨s,hs,hk⟩:=he
     simp only [jV]at hk
     simp only [Exit.inBlock]
     split
     ·rename_i e
      subst e
      simp only [beq_self_eq_true,cond_true]at hk
      exact ⟨s,hs,hk⟩
     ·rename_i e
      have:(id'==id)=false:=by simpa using e
      simp only [this,cond_false]at hk
      exact ⟨s,hs,hk⟩
   | _=>exact he
 | .loop c,j,Q,st,a,w,h,i=>VZ k (fun Q st a w h i=>hg hT o n hm l k c j Q st a w h i) h (l6 k i)
 | .exit id,_,Q,st,a,w,h,i=>by
   refine wp_exit ?_
   simp only [qd]at h
   split at h
   ·exact ⟨st,i,h⟩
   ·exact ⟨_,l6 k i,h⟩
 | .ret,_,Q,st,a,w,h,i=>wp_ret ⟨st,i,h⟩
 | .rangeFunc ..,_,_,_,_,_,h,_=>by simp [qd]at h
 | .scope _,_,_,_,_,_,h,_=>by simp [qd]at h
 | .label _,_,_,_,_,_,h,_=>by simp [qd]at h
 | .goto _,_,_,_,_,_,h,_=>by simp [qd]at h
 | .refuse _,_,_,_,_,_,h,_=>by simp [qd]at h
def nR (h:List Blk) (ls:List LV):Bool:=bR h (ls.flatMap LV.cells)&&dc (qG (ls.flatMap LV.cells))
def qz (tt:TT) (dp:Bool) (rs:List TI) (a:List ResultVar) (st:St):Option (qb rs):=match eX tt st a with
 | none=>none
 | some ls=>match cQ st.heap rs ls with
   | none=>none
   | some y=>bif dp then (bif nR st.heap ls then some y else none)else some y
def qk (tt:TT) (dp:Bool) (rs:List TI) (a:List ResultVar):X->St->Option (qb rs)
 | .normal,st=>qz tt dp rs a st
 | .ret,st=>qz tt dp rs a st
 | .exit _,_=>none
theorem Kc {g:G} {d:List ResultVar} {y:qb g.rs} {st:St} (h:qz tt g.dp g.rs d st=some y):jQ tt g.dp g.rs d y st:=by
 unfold qz at h
 unfold jQ
 split at h
 ·simp at h
 ·rename_i ls e
  split at h
  ·simp at h
  ·rename_i z c
   rw [e]
   cases b:g.dp with
   | false=>rw [b]at h;simp only [cond_false]at h;cases h;exact ⟨c,by simp⟩
   | true=>
     rw [b]at h
     cases a:nR st.heap ls with
     | false=>rw [a]at h;simp at h
     | true=>
       rw [a]at h
       simp only [cond_true]at h
       cases h
       simp only [nR,Bool.and_eq_true]at a
       exact ⟨c,fun _=>a⟩
theorem yP {g:G} {a:List ResultVar} {x:qb g.ps} {e:X} {st:St} (h:qk tt g.dp g.rs a e st=some (g.fn x)):yE tt g a x e st:=by
 cases e with
 | normal=>exact Kc h
 | ret=>exact Kc h
 | exit id=>simp [qk]at h
theorem V2 (hT : bm P tt) (r : ∀ f g, Γ.get f = some g -> Sound P f g) (hm : P.follows .mixedOrders = true) {f : FuncId} {fn : Func} {c : Code} {g : G} (l : P.funcs[f]? = some fn) (k : fn.body = some c) (m : (fn.name == "runtime.NumGoroutine") = false)
 (p: ∀x:qb g.ps,g.pre x-> ∃T:Tab,qi T.tr c=true/\dt P T.sem/\qj P T/\qd tt Γ T c (qk tt g.dp g.rs fn.results.toList) (nM g fn.ntmps x)=some (g.fn x)):Sound P f g:=
 VE hT l k m fun x q w0 mine a w o d=>by
  obtain ⟨T,n,i,j,h⟩:=p x q
  refine wp_mono (hg hT j r hm i.at (fun _=>o) c n _ _ _ _ h d) fun e s w' he=> ?_
  cases e with
  | normal=>obtain ⟨st,b,h⟩:=he;exact ⟨st,b,yP h⟩
  | ret=>obtain ⟨st,b,h⟩:=he;exact ⟨st,b,yP h⟩
  | exit id=>obtain ⟨st,b,h⟩:=he;exact ⟨st,b,yP h⟩
  | _=>exact he
end
end Go.T
namespace Go.T
open Go
abbrev u:LV:= .one .undef
variable {ρ : Type}
def cut:List Bool->Code->Code
 | [],c=>c
 | false::r,.seq a _=>cut r a
 | true::r,.seq _ b=>cut r b
 | false::r,.cond _ a _=>cut r a
 | true::r,.cond _ _ b=>cut r b
 | _::r,.block _ a=>cut r a
 | _::r,.loop a=>cut r a
 | _,c=>c
def qm (ps:List TI) (ntmps:Nat) (x:qb ps):St:={env:=(fx 0 ps x).map LV1.lv++List.replicate (ntmps - ps.length) (.tup []),heap:=[]}
section
variable {tt : TT} {Γ : Gam} {T : Tab} {Q : X -> St -> Option ρ} {e : List LV} {h : List Blk}
@[simp] theorem q5V : qd tt Γ T .skip Q ⟨e, h⟩ = Q .normal ⟨e, h⟩ := rfl
@[simp] theorem q5Y {id : Nat} {ops : Array Oper} {d : Bool} : qd tt Γ T (.region id ops d) Q ⟨e, h⟩ = jnR (T.jn id) tt Γ T (.region id ops d) Q ⟨e, h⟩ := rfl
@[simp] theorem q4H {id : Nat} {ops : List Oper} : jnR none tt Γ T (.region id ⟨ops⟩ false) Q ⟨e, h⟩ = dJ T.sem tt Γ ⟨ops⟩ ops ⟨e, h⟩ (nxt T.pins (T.rg id) (Q .normal)) := rfl
@[simp] theorem q41 {id : Nat} {ops : Array Oper} : jnR none tt Γ T (.region id ops true) Q ⟨e, h⟩ = nP T.sem tt Γ ops (T.tr id) ⟨e, h⟩ (nxt T.pins (T.rg id) (Q .normal)) := rfl
@[simp] theorem q5d {nm : Nm} {c : Code} : jnR (some (.nm nm)) tt Γ T c Q ⟨e, h⟩ = cd tt Γ T c Q ((St.mk e h).nrm T.pins nm) := rfl
@[simp] theorem q33 {p : Option Pre} {tb : Option TT} {c : Code} : jnR (some (.at p tb)) tt Γ T c Q ⟨e, h⟩ = l4 p ⟨e, h⟩ fun st => cd (tb.getD tt) Γ T c Q st := rfl
@[simp] theorem q3G {nm : Nm} {tb : TT} {c : Code} : jnR (some (.nt nm tb)) tt Γ T c Q ⟨e, h⟩ = cd tb Γ T c Q ((St.mk e h).nrm T.pins nm) := rfl
@[simp] theorem q5c {id : Nat} {ops : List Oper} : jnR (some .sf) tt Γ T (.region id ⟨ops⟩ false) Q ⟨e, h⟩ = ee T.sem tt Γ ⟨ops⟩ ops ⟨e, h⟩ (nxt T.pins (T.rg id) (Q .normal)) := rfl
@[simp] theorem q5P {st : St} {k : St -> Option ρ} : l4 none st k = k st := rfl
theorem l7 {id:Nat} {ops:List Oper}:cd tt Γ T (.region id ⟨ops⟩ false) Q ⟨e,h⟩=dJ T.sem tt Γ ⟨ops⟩ ops ⟨e,h⟩ (nxt T.pins (T.rg id) (Q .normal)):=rfl
theorem V3 {id:Nat} {ops:Array Oper}:cd tt Γ T (.region id ops true) Q ⟨e,h⟩=nP T.sem tt Γ ops (T.tr id) ⟨e,h⟩ (nxt T.pins (T.rg id) (Q .normal)):=rfl
@[simp] theorem q4y {a b : Code} : qd tt Γ T (.seq a b) Q ⟨e, h⟩ = qd tt Γ T a (iq (qd tt Γ T b Q) Q) ⟨e, h⟩ := rfl
@[simp] theorem q32 {c : Operand} {x y : Code} : qd tt Γ T (.cond c x y) Q ⟨e, h⟩ = rT c ⟨e, h⟩ (qd tt Γ T x Q) (qd tt Γ T y Q) := rfl
@[simp] theorem q5U {id : Nat} {c : Code} : qd tt Γ T (.block id c) Q ⟨e, h⟩ = qd tt Γ T c (jV id Q) ⟨e, h⟩ := rfl
@[simp] theorem q4p {c : Code} : qd tt Γ T (.loop c) Q ⟨e, h⟩ = qw (qd tt Γ T c) T.pins (T.lp (rid c)) Q T.fuel ((St.mk e h).nrm T.pins (T.lp (rid c))) := rfl
@[simp] theorem q4h {id : Nat} : qd tt Γ T (.exit id) Q ⟨e, h⟩ = match T.ex id with
   | none=>Q (.exit id) ⟨e,h⟩
   | some nm=>Q (.exit id) ((St.mk e h).nrm T.pins nm):=rfl
@[simp] theorem q35 : qd tt Γ T .ret Q ⟨e, h⟩ = Q .ret ⟨e, h⟩ := rfl
theorem qD {F:(X->St->Option ρ)->St->Option ρ} {pins:Bool} {nm:Nm} {n:Nat} {st:St}:qw F pins nm Q (n+1) st=F (iq (fun a=>qw F pins nm Q n (a.nrm pins nm)) Q) st:=rfl
theorem qE {c a:Code} {st:St} (b:c=a):qd tt Γ T c Q st=qd tt Γ T a Q st:=by rw [b]
theorem Kd {c a:Code} {st:St} (b:c=a):cd tt Γ T c Q st=cd tt Γ T a Q st:=by rw [b]
abbrev qr (t:Tab) (tr:Nat->Tree) (lp:Nat->Nm) (ex rg:Nat->Option Nm) (jn:Nat->Option Jn) (n:Nat) (pins:Bool):Prop:=(∀i,t.tr i=tr i/\t.lp i=lp i/\t.ex i=ex i/\t.rg i=rg i/\t.jn i=jn i)/\t.fuel=n/\t.pins=pins
abbrev fC (t:Tab) (tr:Nat->Tree) (lp:Nat->Nm) (ex rg:Nat->Option Nm) (jn:Nat->Option Jn) (n:Nat) (pins:Bool) (sem:Sem):Prop:=(∀i,t.tr i=tr i/\t.lp i=lp i/\t.ex i=ex i/\t.rg i=rg i/\t.jn i=jn i)/\t.fuel=n/\t.pins=pins/\t.sem=sem
theorem qt {t:Tab}:qr t t.tr t.lp t.ex t.rg t.jn t.fuel t.pins:=⟨fun _=>⟨rfl,rfl,rfl,rfl,rfl⟩,rfl,rfl⟩
theorem gf {t:Tab}:fC t t.tr t.lp t.ex t.rg t.jn t.fuel t.pins t.sem:=⟨fun _=>⟨rfl,rfl,rfl,rfl,rfl⟩,rfl,rfl,rfl⟩
abbrev NmS (n:Nm) (k:List Bool) (f:List Fix) (z:Bool):Prop:=n.zero=z/\n.fix=f/\n.keep=k
theorem nmS {n:Nm}:NmS n n.keep n.fix n.zero:=⟨rfl,rfl,rfl⟩
def tr0:Nat->Tree:=fun _=> .done
def lp0:Nat->Nm:=fun _=>⟨[],[],false⟩
def ex0:Nat->Option Nm:=fun _=>none
def rg0:Nat->Option Nm:=fun _=>none
def jn0:Nat->Option Jn:=fun _=>none
@[simp] theorem q4x {i : Nat} : tr0 i = .done := rfl
@[simp] theorem q49 {i : Nat} : lp0 i = ⟨[], [], false⟩ := rfl
@[simp] theorem q3I {i : Nat} : ex0 i = none := rfl
@[simp] theorem q39 {i : Nat} : rg0 i = none := rfl
@[simp] theorem q55 {i : Nat} : jn0 i = none := rfl
variable {ops : Array Oper} {k : St -> Option ρ}
@[simp] theorem q43 {S : Sem} : dJ S tt Γ ops [] ⟨e, h⟩ k = k ⟨e, h⟩ := rfl
@[simp] theorem q5o {S : Sem} {d : Option Tmp} {op : Op} {ty : TypeId} {pos : String} {a : Array Edge} {os : List Oper} : dJ S tt Γ ops (⟨d, op, ty, pos, a, none⟩ :: os) ⟨e, h⟩ k = opR S tt Γ ⟨d, op, ty, pos, a, none⟩ ⟨e, h⟩ fun st => dJ S tt Γ ops os st k := rfl
@[simp] theorem q42 {S : Sem} {d : Option Tmp} {op : Op} {ty : TypeId} {pos : String} {a : Array Edge} {g : Nat × Bool} {os : List Oper} : dJ S tt Γ ops (⟨d, op, ty, pos, a, some g⟩ :: os) ⟨e, h⟩ k = fB ops ⟨d, op, ty, pos, a, some g⟩ ⟨e, h⟩ (fun st => opR S tt Γ ⟨d, op, ty, pos, a, some g⟩ st fun st => dJ S tt Γ ops os st k) (fun st => dJ S tt Γ ops os (st.put d (.tup [])) k) := rfl
@[simp] theorem q5s {S : Sem} : ee S tt Γ ops [] ⟨e, h⟩ k = k ⟨e, h⟩ := rfl
@[simp] theorem q5J {S : Sem} {d : Option Tmp} {op : Op} {ty : TypeId} {pos : String} {a : Array Edge} {os : List Oper} : ee S tt Γ ops (⟨d, op, ty, pos, a, none⟩ :: os) ⟨e, h⟩ k = opS S tt Γ ⟨d, op, ty, pos, a, none⟩ ⟨e, h⟩ fun st => ee S tt Γ ops os st k := rfl
@[simp] theorem q4A {S : Sem} {d : Option Tmp} {op : Op} {ty : TypeId} {pos : String} {a : Array Edge} {g : Nat × Bool} {os : List Oper} : ee S tt Γ ops (⟨d, op, ty, pos, a, some g⟩ :: os) ⟨e, h⟩ k = fB ops ⟨d, op, ty, pos, a, some g⟩ ⟨e, h⟩ (fun st => opS S tt Γ ⟨d, op, ty, pos, a, some g⟩ st fun st => ee S tt Γ ops os st k) (fun st => ee S tt Γ ops os (st.put d (.tup [])) k) := rfl
@[simp] theorem q5j {st : St} : iq k Q .normal st = k st := rfl
@[simp] theorem qA {st : St} : iq k Q .ret st = Q .ret st := rfl
@[simp] theorem q5M {st : St} {id : Nat} : iq k Q (.exit id) st = Q (.exit id) st := rfl
@[simp] theorem q37 {id : Nat} {st : St} : jV id Q .normal st = Q .normal st := rfl
@[simp] theorem qC {id : Nat} {st : St} : jV id Q .ret st = Q .ret st := rfl
@[simp] theorem q44 {id j : Nat} {st : St} : jV id Q (.exit j) st = bif j == id then Q .normal st else Q (.exit j) st := rfl
@[simp] theorem q4o : iq k Q .normal = k := rfl
@[simp] theorem q5p {id : Nat} : jV id Q .normal = Q .normal := rfl
@[simp] theorem q5m {S : Sem} {o : Oper} : opR S tt Γ o ⟨e, h⟩ k = (match b1 tt Γ o ⟨e, h⟩ with
  | some (p,a)=>chk p (k a)
  | none=>hb S o ⟨e,h⟩ k):=rfl
@[simp] theorem q3Q {S : Sem} {o : Oper} : opS S tt Γ o ⟨e, h⟩ k = (match S o ⟨e, h⟩ with
  | some (p,a)=>chk p (k a)
  | none=>opR dI tt Γ o ⟨e,h⟩ k):=rfl
theorem ir {S:Sem} {o:Oper}:hb S o ⟨e,h⟩ k=(match S o ⟨e,h⟩with
 | some (p,a)=>chk p (k a)
 | none=>none):=rfl
@[simp] theorem q4c {nm : Nm} : (St.mk e h).nrm false nm = (St.mk e h).norm nm := rfl
@[simp] theorem q4z {nm : Nm} : (St.mk e h).nrm true nm = ⟨jS nm.keep e, h⟩ := rfl
attribute [simp] jS
def brL (x:LV) (c:Operand) (e:List LV) (h:List Blk) (a b:St->Option ρ):Option ρ:=match x with
 | .one (.bool v)=>bif v then a ((St.mk e h).litO c true)else b ((St.mk e h).litO c false)
 | _=>none
@[simp] theorem q4G {c : Operand} {x y : St -> Option ρ} : rT c ⟨e, h⟩ x y = brL ((St.mk e h).ev c) c e h x y := rfl
@[simp high] theorem q5h {c : Operand} {x y : St -> Option ρ} : brL (.one (.bool true)) c e h x y = x ((St.mk e h).litO c true) := rfl
@[simp high] theorem q3X {c : Operand} {x y : St -> Option ρ} : brL (.one (.bool false)) c e h x y = y ((St.mk e h).litO c false) := rfl
@[simp low] theorem q5g {c : Operand} {x y : St -> Option ρ} {v : Bool} : brL (.one (.bool v)) c e h x y = bif v then x ((St.mk e h).litO c true) else y ((St.mk e h).litO c false) := rfl
def guA (d:Option Tmp) (want:Bool) (e:List LV) (h:List Blk) (a b:St->Option ρ):Option ρ:=match d with
 | none=>b ⟨e,h⟩
 | some t=>match e[t]? with
   | some (.one (.bool v))=>bif (v==want)then a ((St.mk e h).lit t want)else b ((St.mk e h).lit t (!want))
   | some (.tup _)=>b ⟨e,h⟩
   | none=>b ⟨e,h⟩
   | _=>none
def guB (x:Option LV) (t:Nat) (want:Bool) (e:List LV) (h:List Blk) (a b:St->Option ρ):Option ρ:=match x with
 | some (.one (.bool v))=>bif (v==want)then a ((St.mk e h).lit t want)else b ((St.mk e h).lit t (!want))
 | some (.tup _)=>b ⟨e,h⟩
 | none=>b ⟨e,h⟩
 | _=>none
theorem V4 {d:Option Tmp} {op:Op} {ty:TypeId} {pos:String} {c:Array Edge} {j:Nat} {want:Bool} {a b:St->Option ρ}:fB ops ⟨d,op,ty,pos,c,some (j,want)⟩ ⟨e,h⟩ a b=guA ((ops[j]?).bind (·.dst)) want e h a b:=by
 unfold fB guA
 first
  | rfl
  | (dsimp only;done)
  | (dsimp only;cases (ops[j]?).bind (·.dst)<;>rfl)
@[simp] theorem q5R {d : Option Tmp} {op : Op} {ty : TypeId} {pos : String} {c : Array Edge} {a b : St -> Option ρ} : fB ops ⟨d, op, ty, pos, c, none⟩ ⟨e, h⟩ a b = a ⟨e, h⟩ := rfl
@[simp] theorem q5N {want : Bool} {a b : St -> Option ρ} : guA none want e h a b = b ⟨e, h⟩ := rfl
@[simp] theorem q4K {t : Nat} {want : Bool} {a b : St -> Option ρ} : guA (some t) want e h a b = guB e[t]? t want e h a b := rfl
@[simp high] theorem q48 {t : Nat} {a b : St -> Option ρ} : guB (some (.one (.bool true))) t true e h a b = a ((St.mk e h).lit t true) := rfl
@[simp high] theorem q4W {t : Nat} {a b : St -> Option ρ} : guB (some (.one (.bool false))) t false e h a b = a ((St.mk e h).lit t false) := rfl
@[simp high] theorem q3M {t : Nat} {a b : St -> Option ρ} : guB (some (.one (.bool true))) t false e h a b = b ((St.mk e h).lit t true) := rfl
@[simp high] theorem q5D {t : Nat} {a b : St -> Option ρ} : guB (some (.one (.bool false))) t true e h a b = b ((St.mk e h).lit t false) := rfl
@[simp low] theorem q3S {t : Nat} {v : Bool} {a b : St -> Option ρ} : guB (some (.one (.bool v))) t true e h a b = bif v then a ((St.mk e h).lit t true) else b ((St.mk e h).lit t false) := by cases v <;> rfl
@[simp low] theorem q5Q {t : Nat} {v : Bool} {a b : St -> Option ρ} : guB (some (.one (.bool v))) t false e h a b = bif v then b ((St.mk e h).lit t true) else a ((St.mk e h).lit t false) := by cases v <;> rfl
@[simp] theorem q38 {t : Nat} {want : Bool} {l : List LV1} {a b : St -> Option ρ} : guB (some (.tup l)) t want e h a b = b ⟨e, h⟩ := rfl
attribute [simp] V4
@[simp] theorem q3J {pins : Bool} : nxt pins none k = k := rfl
@[simp] theorem q3F {pins : Bool} {nm : Nm} {e : List LV} {h : List Blk} : nxt pins (some nm) k ⟨e, h⟩ = k ((St.mk e h).nrm pins nm) := rfl
@[simp] theorem q4N {a : Option ρ} : jU a a = a := VY
@[simp] theorem Ke {k : Option ρ} : chk True k = k := qc trivial
@[simp] theorem q3U {k : Option ρ} : chk False k = none := by simp [chk]
@[simp] theorem q5B {nm : Nm} : (St.mk e h).norm nm = ((St.mk e h).fixes nm.fix).gc nm.zero nm.keep := rfl
@[simp] theorem q4r : (St.mk e h).fixes [] = ⟨e, h⟩ := rfl
@[simp] theorem q5q {f : Fix} {r : List Fix} : (St.mk e h).fixes (f :: r) = ((St.mk e h).fix1 f).fixes r := rfl
@[simp] theorem q4e {dp : Bool} {rs : List TI} {a : List ResultVar} : qz tt dp rs a ⟨e, h⟩ = match eX tt ⟨e, h⟩ a with
  | none=>none
  | some ls=>match cQ h rs ls with
    | none=>none
    | some y=>bif dp then (bif nR h ls then some y else none)else some y:=rfl
@[simp] theorem qJ {dp : Bool} {rs : List TI} {a : List ResultVar} {st : St} : qk tt dp rs a .ret st = qz tt dp rs a st := rfl
@[simp] theorem q5l {dp : Bool} {rs : List TI} {a : List ResultVar} {st : St} : qk tt dp rs a .normal st = qz tt dp rs a st := rfl
attribute [simp] x2 nI nJ yB nH nE nR St.fix1 St.undp St.frz ga cn gb c4 nP Tree.isStop qm rid cut
end
@[simp] theorem q3Z : List.range 2 = [0, 1] := rfl
@[simp] theorem q4B : List.range 3 = [0, 1, 2] := rfl
@[simp] theorem q3R : List.range 4 = [0, 1, 2, 3] := rfl
@[simp] theorem q5t : List.range 5 = [0, 1, 2, 3, 4] := rfl
@[simp] theorem q4D : List.range 6 = [0, 1, 2, 3, 4, 5] := rfl
@[simp] theorem q5e : List.range 7 = [0, 1, 2, 3, 4, 5, 6] := rfl
@[simp] theorem q5Z : List.range 8 = [0, 1, 2, 3, 4, 5, 6, 7] := rfl
theorem qn {P:Program} {T:Tab} (h: ∀i,T.jn i=none):qj P T:=fun id j t e=>by rw [h]at e;simp at e
theorem qo {P : Program} {tt : TT} {Γ : Gam} (hT : bm P tt) (h : ∀ f g, Γ.get f = some g -> Sound P f g) (hm : P.follows .mixedOrders = true) {f : FuncId} {fn : Func} {c : Code} {g : G} (b : P.funcs[f]? = some fn) (a : fn.body = some c) (d : (fn.name == "runtime.NumGoroutine") = false)
 (e: ∀x:qb g.ps,g.pre x-> ∃T:Tab,qi T.tr c=true/\dt P T.sem/\qj P T/\qd tt Γ T c (qk tt g.dp g.rs fn.results.toList) (qm g.ps fn.ntmps x)=some (g.fn x)):Sound P f g:=
 V2 hT h hm b a d e
end Go.T
namespace Go.T
open Go
variable {ρ α σ : Type}
theorem cL {xs:List α} {i:Nat} (h:i<xs.length):xs.drop i=xs[i]::xs.drop (i+1):=List.drop_eq_getElem_cons h
theorem nS {xs:List α} {i:Nat} (h:i<xs.length) (d:α):xs.getD i d=xs[i]:=by simp [List.getD,h]
theorem qB {xs:List α} {i:Nat} (h:i<xs.length) (d:α):xs.getD (Int.toNat (i:Int)) d=xs[i]:=by simp [List.getD,h]
theorem l8 {i n:Nat} (h:i<n) (a:n<=1048576):IntKind.i64.wrap ((i:Int)+1)=((i+1:Nat):Int):=b3 h a
def q5 (step:Nat->α->σ->(σ->Option ρ)->Option ρ):Nat->List α->σ->(σ->Option ρ)->Option ρ
 | _,[],s,k=>k s
 | i,x::r,s,k=>step i x s fun a=>q5 step (i+1) r a k
theorem Kf {F:Nat->Int->σ->Option ρ} {xs:List α} {step:Nat->α->σ->(σ->Option ρ)->Option ρ} {k:σ->Option ρ} (e:xs.length<=1048576)
 (d: ∀(n i:Nat) (s:σ) (h:i<xs.length),F (n+1) (i:Int) s=step i xs[i] s fun b=>F n (IntKind.i64.wrap ((i:Int)+1)) b) (c: ∀(n i:Nat) (s:σ),xs.length<=i->F (n+1) (i:Int) s=k s):
 ∀(n i:Nat) (s:σ),i<=xs.length->xs.length - i<n->F n (i:Int) s=q5 step i (xs.drop i) s k
 | 0,_,_,_,h=>by omega
 | n+1,i,s,f,h=>by
   by_cases a:i<xs.length
   ·rw [d n i s a,cL a,q5,l8 a e]
    congr 1
    funext b
    exact Kf e d c n (i+1) b (by omega) (by omega)
   ·rw [c n i s (by omega),List.drop_eq_nil_of_le (by omega),q5]
theorem bp {F:Nat->Int->σ->Option ρ} {xs:List α} {step:Nat->α->σ->(σ->Option ρ)->Option ρ} {k:σ->Option ρ} (c:xs.length<=1048576)
 (b: ∀(n i:Nat) (s:σ) (h:i<xs.length),F (n+1) (i:Int) s=step i xs[i] s fun d=>F n (IntKind.i64.wrap ((i:Int)+1)) d) (a: ∀(n i:Nat) (s:σ),xs.length<=i->F (n+1) (i:Int) s=k s)
 (n:Nat) (s:σ) (e:xs.length<n):F n 0 s=q5 step 0 xs s k:=by
 have:=Kf c b a n 0 s (by omega) (by omega)
 simpa using this
theorem dK {p:α->Bool} {r:Option ρ} {k:Unit->Option ρ}: ∀(xs:List α) (i:Nat),q5 (fun _ x _ K=>bif p x then K ()else r) i xs () k=bif xs.all p then k ()else r
 | [],_=>rfl
 | x::xs,i=>by
   rw [q5];dsimp only;rw [dK xs]
   cases h:p x<;>simp [h]
theorem Kg {f:σ->α->σ} {k:σ->Option ρ}: ∀(xs:List α) (i:Nat) (s:σ),q5 (fun _ x s K=>K (f s x)) i xs s k=k (xs.foldl f s)
 | [],_,_=>rfl
 | x::xs,i,s=>by rw [q5];dsimp only;rw [Kg xs];rfl
theorem b4 {b:Bool} {x y:α}:(bif !b then x else y)=bif b then y else x:=by cases b<;>rfl
theorem qg {p:Prop} [Decidable p] {x y:α} (h:p):(bif decide p then x else y)=x:=by simp [h]
theorem qf {p:Prop} [Decidable p] {x y:α} (h: ¬p):(bif decide p then x else y)=y:=by simp [h]
end Go.T
namespace Go.T
open Go
variable {ρ α : Type}
theorem Kh {t:Ty}: ∀(xs:List (Val t)) (i:Nat) (n:Int),0<=n->n<=1048576->(∀x∈xs,Sm t x)->
 q5 (fun _ x (s:Int) (K:Int->Option (Int×Unit))=>chk (nO t x s) (bif decide (szV t x s<0)then some ((-1:Int),())else K (szV t x s))) i xs n (fun s=>some (s,()))=some (szL (szV t) xs n,())
 | [],_,_,_,_,_=>rfl
 | x::xs,i,n,a,h1,hs=>by
   rw [q5,qc ⟨hs x (by simp),a,h1⟩,szL]
   by_cases c:szV t x n<0
   ·rw [qg c,if_pos c]
   ·rw [qf c,if_neg c]
    exact Kh xs (i+1) _ (by omega) (by have:=(eY t x n a).1;omega) fun y b=>hs y (by simp [b])
theorem Ki {F:Nat->Int->List α->Option ρ} {xs:List α} {k:List α->Option ρ} (d:α) (e:xs.length<=1048576)
 (c: ∀(n i:Nat) (s:List α) (h:i<xs.length),s.length=xs.length->F (n+1) (i:Int) s=F n (IntKind.i64.wrap ((i:Int)+1)) (s.set i xs[i])) (b: ∀(n i:Nat) (s:List α),xs.length<=i->F (n+1) (i:Int) s=k s):
 ∀(n i:Nat),i<=xs.length->xs.length - i<n->F n (i:Int) (eZ xs d i)=k xs
 | 0,_,_,h=>by omega
 | n+1,i,f,h=>by
   by_cases a:i<xs.length
   ·rw [c n i _ a (VQ f),l8 a e]
    have:(eZ xs d i).set i xs[i]=eZ xs d (i+1):=by
     have:=VT (d:=d) (d':=d) a
     rwa [List.getElem?_eq_getElem a,Option.getD_some]at this
    rw [this]
    exact Ki d e c b n (i+1) (by omega) (by omega)
   ·rw [b n i _ (by omega),VS (by omega)]
theorem jY {F:Nat->Int->List α->Option ρ} {xs:List α} {k:List α->Option ρ} (d:α) (c:xs.length<=1048576)
 (b: ∀(n i:Nat) (s:List α) (h:i<xs.length),s.length=xs.length->F (n+1) (i:Int) s=F n (IntKind.i64.wrap ((i:Int)+1)) (s.set i xs[i])) (a: ∀(n i:Nat) (s:List α),xs.length<=i->F (n+1) (i:Int) s=k s) (n:Nat) (e:xs.length<n):
 F n 0 (List.replicate xs.length d)=k xs:=by
 have:=Ki d c b a n 0 (by omega) (by omega)
 rw [<-VR]at this
 simpa using this
theorem Kj {f:α->α->Bool}: ∀(xs ys:List α),xs.length=ys.length->eqL f xs ys=(xs.zip ys).all fun p=>f p.1 p.2
 | [],[],_=>rfl
 | [],_::_,h=>by simp at h
 | _::_,[],h=>by simp at h
 | x::xs,y::ys,h=>by simp [eqL,Kj xs ys (by simpa using h)]
theorem yQ {f:α->α->Bool} {xs ys:List α} (d:xs.length<=1048576) (he:xs.length=ys.length) {F:Nat->Int->Option ρ} {k:Unit->Option ρ} {r:Option ρ}
 (b: ∀(n i:Nat) (h:i<xs.length) (h':i<ys.length),F (n+1) (i:Int)=bif f xs[i] ys[i]then F n (IntKind.i64.wrap ((i:Int)+1))else r) (a: ∀(n i:Nat),xs.length<=i->F (n+1) (i:Int)=k ()) (n:Nat) (e:xs.length<n):
 F n 0=bif eqL f xs ys then k ()else r:=by
 rw [Kj xs ys he]
 have g:(xs.zip ys).length=xs.length:=by simp [he]
 refine (bp (F:=fun n i (_:Unit)=>F n i) (xs:=xs.zip ys) (step:=fun _ p _ K=>bif f p.1 p.2 then K ()else r) (k:=k) (by omega) (fun n i s c=> ?_) (fun n i s c=> ?_) n () (by omega)).trans (dK _ 0)
 ·rw [b n i (by omega) (by omega)]
  simp
 ·exact a n i (by omega)
theorem V5 {a b:Ty} {x:Val a} {y:Val b} {n:Int} (h:szV a x n<0):szV (.pair a b) (x,y) n= -1:=VO (v:=(x,y)) h
theorem V6 {a b:Ty} {x:Val a} {y:Val b} {n:Int} (h:0<=szV a x n):szV (.pair a b) (x,y) n=szV b y (szV a x n):=JY (v:=(x,y)) h
theorem Kk {k:IntKind} {b:Ty} {x:Int} {y:Val b} {n:Int} (h:0<=n):szV (.pair (.int k) b) (x,y) n=szV b y n:=JY (a:= .int k) (v:=(x,y)) h
theorem yR {b:Bool}:(bif b then some (true,())else some (false,()):Option (Bool×Unit))=some (b,()):=by cases b<;>rfl
theorem eqS {e:Nat} {t:Ty} {x y:List (Val t)}:eqV (.slice e t) x y=eqL (eqV t) x y:=rfl
theorem Kl {n:Int} {k:Nat} (a:0<=n) (h1:n<=1048576) (hk:k<=maxLen):IntKind.i64.wrap (n - (k:Int))=n - k:=bn (by simp only [maxLen]at hk;omega) (by omega)
theorem V7 {α:Type} {xs:List α} {i:Nat} {x d:α} (h:i<xs.length):(xs.set (Int.toNat (i:Int)) x).getD (Int.toNat (i:Int)) d=x:=by simp [List.getD,h]
theorem jZ {k:Nat} (h:k<=1048576):(0:Int)<=(k:Int)/\(k:Int)<=(k:Int)/\(k:Int)<=1048576:=by omega
end Go.T
namespace Go.T
open Go
structure Gm where
 t:TI
 pre:Val t.ty->Int->Prop
 fv:Val t.ty->Int->Val t.ty
 fk:Val t.ty->Int->Int
structure SoundM (P:Program) (f:FuncId) (g:Gm):Prop where
 enters:ez P f
 runs: ∀(x:Val g.t.ty) (n:Int),g.pre x n-> ∀(w:World) (cs:List Value) (B:List Nat) (u:Value),M w g.t.ty x cs B->B.Nodup->cb g.t.agg cs u->
  Calls P f #[u,.int .i64 n] w fun e w'=>e= .returned (.int .i64 (g.fk x n))/\Fr (fun b=>b∈B) w w'/\ ∃B',M w' g.t.ty (g.fv x n) cs B'/\B'.Nodup/\ ∀b∈B',b∈B∨w.heap.size<=b
def dL (h:List Blk):List Nat->List Blk->List Blk
 | id::ids,b::bs=>dL (h.set id b) ids bs
 | _,_=>h
def gg:List LC->Bool
 | []=>true
 | .nils::_=>false
 | _::r=>gg r
def rV (g:Gm) (x y:LV) (d:Option Tmp) (st:St):Res:=match y with
 | .one (.int .i64 n)=>if x.isAgg=some g.t.agg/\gg x.cells=true/\bR st.heap x.cells=true/\dc (qG x.cells)=true then match qL st.heap g.t.ty x.cells with
    | some (v,[])=>some (g.pre v n,St.put ⟨st.env.map (LV.clamp (los st.heap st.heap.length (qG x.cells))),dL (st.heap.map (Blk.clamp (los st.heap st.heap.length (qG x.cells)))) (qG x.cells) (q9 0 g.t.ty (g.fv v n)).2⟩ d (.one (.int .i64 (g.fk v n))))
    | _=>none
   else none
 | _=>none
theorem Km (h bs:List Blk):dL h [] bs=h:=by cases bs<;>rfl
theorem Kn: ∀(ids:List Nat) (bs h:List Blk),(dL h ids bs).length=h.length
 | [],_,_=>by rw [Km]
 | _::_,[],_=>rfl
 | id::ids,b::bs,h=>by rw [dL,Kn ids bs];simp
theorem rW: ∀(ids:List Nat) (bs h:List Blk) (i:Nat),i∉ids->(dL h ids bs)[i]?=h[i]?
 | [],_,_,_,_=>by rw [Km]
 | _::_,[],_,_,_=>rfl
 | id::ids,b::bs,h,i,a=>by
   have c:id≠i:=fun e=>a (by rw [e];exact List.mem_cons_self)
   rw [dL,rW ids bs _ i (fun hm=>a (List.mem_cons_of_mem _ hm)),List.getElem?_set_ne c]
theorem yS: ∀(ids:List Nat) (bs h:List Blk),ids.Nodup->ids.length=bs.length->(∀i∈ids,i<h.length)-> ∀(k id:Nat),ids[k]?=some id->(dL h ids bs)[id]?=bs[k]?
 | [],_,_,_,_,_,k,id,hk=>by simp at hk
 | _::_,[],_,_,a,_,_,_,_=>by simp at a
 | i::ids,b::bs,h,e,a,c,k,id,hk=>by
   obtain ⟨h1,h2⟩:=List.nodup_cons.1 e
   rw [dL]
   cases k with
   | zero=>
     simp at hk;subst hk
     rw [rW ids bs _ i h1,List.getElem?_set_self (c i List.mem_cons_self)]
     rfl
   | succ k=>
     have:=yS ids bs (h.set i b) h2 (by simpa using a) (fun j d=>by simpa using c j (List.mem_cons_of_mem _ d)) k id (by simpa using hk)
     simpa using this
section
variable {P : Program} {w0 w w' : World} {mine : Mine} {m m' : Mp} {h : List Blk} {st : St} {a : Act} {o : Oper} {next : Act -> World -> Prop} {Q : Exit -> Act -> World -> Prop}
theorem V8 {a b:List LC}:gg (a++b)=(gg a&&gg b):=by
 induction a with
 | nil=>rfl
 | cons c r d=>cases c<;>simp [gg,d]
theorem yT: ∀(base:Nat) (t:Ty) (y:Val t),(q9 base t y).1.length=t.sz
 | _,.int _,_ | _,.bool,_ | _,.str,_ | _,.hdr,_ | _,.slice _ _,_=>rfl
 | base,.pair a b,y=>by
   simp only [q9,List.length_append,Ty.sz]
   rw [yT base a y.1,yT _ b y.2]
theorem yU {base0:Nat} {rl:List qU}: ∀{t:Ty} {lcs:List LC} {v:Val t} {rest:List LC},qL h t lcs=some (v,rest)->bR h lcs=true->gg lcs=true->
 ∃pre,lcs=pre++rest/\pre.length=t.sz/\ ∀(y:Val t) (off:Nat) (us:List Value),F2 (C w m h) pre us->F2 (dd base0 rl) (q9 (base0+off) t y).1 us->
  (qG pre).length=(q9 (base0+off) t y).2.length/\ ∀k id,(qG pre)[k]?=some id->(∃(e:Nat) (t':Ty) (xs ys:List (Val t')) (dp mt:Bool) (n:Nat),h[id]?=some (.row e t' xs dp mt n)/\(q9 (base0+off) t y).2[k]?=some (.row e t' ys true true 0))/\ ∃r,rl[off+k]?=some r/\r.1=m.val id
 | .int k,lcs,v,rest,d,_,_=>by
   cases lcs with
   | nil=>simp [qL]at d
   | cons c r=>
     cases c<;>simp [qL]at d
     obtain ⟨_,_,rfl⟩:=d
     exact ⟨[_],rfl,rfl,fun y off us _ _=>⟨rfl,fun k id hk=>by have hk:([]:List Nat)[k]?=some id:=hk;simp at hk⟩⟩
 | .bool,lcs,v,rest,d,_,_=>by
   cases lcs with
   | nil=>simp [qL]at d
   | cons c r=>
     cases c<;>simp [qL]at d
     obtain ⟨_,rfl⟩:=d
     exact ⟨[_],rfl,rfl,fun y off us _ _=>⟨rfl,fun k id hk=>by have hk:([]:List Nat)[k]?=some id:=hk;simp at hk⟩⟩
 | .str,lcs,v,rest,d,_,_=>by
   cases lcs with
   | nil=>simp [qL]at d
   | cons c r=>
     cases c<;>simp [qL]at d
     obtain ⟨_,rfl⟩:=d
     exact ⟨[_],rfl,rfl,fun y off us _ _=>⟨rfl,fun k id hk=>by have hk:([]:List Nat)[k]?=some id:=hk;simp at hk⟩⟩
 | .hdr,lcs,v,rest,d,_,_=>by
   cases lcs with
   | nil=>simp [qL]at d
   | cons c r=>
     cases c<;>simp [qL]at d
     obtain ⟨_,rfl⟩:=d
     exact ⟨[_],rfl,rfl,fun y off us _ _=>⟨rfl,fun k id hk=>by have hk:([]:List Nat)[k]?=some id:=hk;simp at hk⟩⟩
 | .slice e t,lcs,v,rest,d,hd,f=>by
   cases lcs with
   | nil=>simp [qL]at d
   | cons c r=>
     cases c<;>simp only [qL]at d<;>try (simp at d;done)
     ·simp [bR,LC.deep]at hd
     ·simp [gg]at f
     ·rename_i id
      split at d
      ·rename_i e' t' xs dp mt n p
       split at d
       ·rename_i he
        cases d
        refine ⟨[.own id],rfl,rfl,fun y off us i g=>⟨rfl,fun k id' hk=> ?_⟩⟩
        cases k with
        | succ k=>simp [qG,LC.movedId]at hk
        | zero=>
          simp [qG,LC.movedId]at hk
          subst hk
          obtain ⟨rfl,rfl⟩:=he
          refine ⟨⟨_,_,_,_,_,_,_,p,rfl⟩,?_⟩
          cases i with
          | cons h1 h2=>
            cases g with
            | cons B O=>
              obtain ⟨j,r,P,l,rfl⟩:=B
              simp only [C,p]at h1
              have:off+0=j:=by omega
              exact ⟨r,by rw [this];exact l,h1⟩
       ·simp at d
      ·simp at d
 | .pair a b,lcs,v,rest,d,hd,f=>by
   simp only [qL]at d
   split at d
   ·rename_i x o h1
    split at d
    ·rename_i R L h2
     cases d
     obtain ⟨s,rfl,e3,f1⟩:=yU h1 hd f
     have D:bR h o=true:=by
         simp only [bR,List.all_append,Bool.and_eq_true]at hd;exact hd.2
     have G:gg o=true:=by
         rw [V8,Bool.and_eq_true]at f;exact f.2
     obtain ⟨J,rfl,e4,f2⟩:=yU h2 D G
     refine ⟨s++J,by simp,by simp [e3,e4,Ty.sz],fun y off us i g=> ?_⟩
     obtain ⟨u,z,rfl,g1,g2⟩:=i.split
     have hlen:=g1.len
     obtain ⟨K,Q,H,c1,c2⟩:=g.split
     have E:K.length=u.length:=by
         have M:=c1.len
         have N:(q9 (base0+off) a y.1).1.length=a.sz:=yT _ _ _
         omega
     obtain ⟨rfl,rfl⟩:=List.append_inj H E.symm
     obtain ⟨q,k1⟩:=f1 y.1 off u g1 c1
     have A:F2 (dd base0 rl) (q9 (base0+(off+(q9 (base0+off) a y.1).2.length)) b y.2).1 z:=by rw [<-Nat.add_assoc];exact c2
     obtain ⟨I,k2⟩:=f2 y.2 _ z g2 A
     refine ⟨?_,fun k id hk=> ?_⟩
     ·rw [ns,List.length_append,q,I]
      simp only [q9,List.length_append,Nat.add_assoc]
     ·rw [ns]at hk
      by_cases F:k<(qG s).length
      ·rw [List.getElem?_append_left F]at hk
       obtain ⟨⟨e,t',xs,ys,dp,mt,n,g1,g2⟩,g3⟩:=k1 k id hk
       refine ⟨⟨e,t',xs,ys,dp,mt,n,g1,?_⟩,g3⟩
       simp only [q9]
       rw [List.getElem?_append_left (by omega)]
       exact g2
      ·rw [List.getElem?_append_right (by omega)]at hk
       obtain ⟨⟨e,t',xs,ys,dp,mt,n,g1,g2⟩,r,l,e'⟩:=k2 _ id hk
       refine ⟨⟨e,t',xs,ys,dp,mt,n,g1,?_⟩,r,?_,e'⟩
       ·simp only [q9]
        rw [List.getElem?_append_right (by omega)]
        rw [<-q]at g2 ⊢
        rw [Nat.add_assoc]
        exact g2
       ·rw [<-l];congr 1;omega
    ·simp at d
   ·simp at d
theorem Ko: ∀{l:List Nat} {j k id:Nat},l.Nodup->l[k]?=some id->cr l j id=some (j+k)
 | [],_,_,_,_,h=>by simp at h
 | x::r,j,k,id,a,h=>by
   obtain ⟨h1,h2⟩:=List.nodup_cons.1 a
   simp only [cr]
   cases k with
   | zero=>simp at h;simp [h]
   | succ k=>
     have hk:r[k]?=some id:=by simpa using h
     have b: ¬x=id:=fun e=>h1 (e▸List.mem_of_getElem? hk)
     rw [if_neg b,Ko h2 hk]
     congr 1;omega
theorem Kp: ∀{l:List Nat} {j id:Nat},id∉l->cr l j id=none
 | [],_,_,_=>rfl
 | x::r,j,id,h=>by
   simp only [cr]
   rw [if_neg (fun e=>h (by rw [e];exact List.mem_cons_self)),Kp fun hm=>h (List.mem_cons_of_mem _ hm)]
def Mp.marks (m:Mp) (ids:List Nat) (rl:List qU):Mp:={m with nst:=fun i=>match cr ids 0 i with
 | some k=>(rl.getD k (undef,[])).2
 | none=>m.nst i}
theorem Kq (H:HR w0 mine w m h) {ids:List Nat} (Y:ids.Nodup) {bl:List Blk} {rl:List qU} (hlen:ids.length=bl.length)
 (Z: ∀(k id:Nat),ids[k]?=some id-> ∃(e:Nat) (t:Ty) (xs ys:List (Val t)) (mt:Bool) (n:Nat),h[id]?=some (.row e t xs true mt n)/\bl[k]?=some (.row e t ys true true 0))
 (an:F2 (eb w') bl rl) (ad:(rl.flatMap qU.fp).Nodup) (am: ∀b∈rl.flatMap qU.fp,b∈qY m h ids∨w.heap.size<=b) (au: ∀(k id:Nat),ids[k]?=some id-> ∃r,rl[k]?=some r/\r.1=m.val id) (I:Fr (fun b=>b∈qY m h ids) w w'):
 HR w0 mine w' (m.marks ids rl) (dL (h.map (Blk.clamp (los h h.length ids))) ids bl)/\Keeps w w' m (m.marks ids rl) h (dL (h.map (Blk.clamp (los h h.length ids))) ids bl) (los h h.length ids):=by
 have V: ∀id∈ids,∃k,ids[k]?=some id:=fun id u=>List.getElem?_of_mem u
 have ae: ∀id∈ids,id<h.length:=fun id u=>by
  obtain ⟨k,hk⟩:=V id u
  obtain ⟨_,_,_,_,_,_,h1,_⟩:=Z k id hk
  exact (List.getElem?_eq_some_iff.1 h1).1
 have av: ∀(k id:Nat),ids[k]?=some id-> ∃r:qU,rl[k]?=some r/\r.1=m.val id/\(m.marks ids rl).nst id=r.2:=fun k id hk=>by
  obtain ⟨r,l,e⟩:=au k id hk
  refine ⟨r,l,e,?_⟩
  have o:cr ids 0 id=some k:=by rw [Ko Y hk,Nat.zero_add]
  simp only [Mp.marks,o,List.getD,l,Option.getD_some]
 have Q: ∀id,id∉ids->(m.marks ids rl).nst id=m.nst id:=fun id u=>by simp only [Mp.marks,Kp u]
 have N: ∀{k:Nat} {r:qU},rl[k]?=some r-> ∀b∈r.fp,b∈qY m h ids∨w.heap.size<=b:=fun hk b a=>am b (List.mem_flatMap.2 ⟨_,List.mem_of_getElem? hk,a⟩)
 have get: ∀i y,(dL (h.map (Blk.clamp (los h h.length ids))) ids bl)[i]?=some y->(∃k e t ys r,ids[k]?=some i/\y= .row e t ys true true 0/\rl[k]?=some r/\r.1=m.val i/\(m.marks ids rl).nst i=r.2/\eb w' y r)∨(i∉ids/\ ∃x,h[i]?=some x/\y=x.clamp (los h h.length ids)):=fun i y g=>by
  by_cases f:i∈ids
  ·obtain ⟨k,hk⟩:=V i f
   rw [yS ids bl _ Y hlen (fun j W=>by simpa using ae j W) k i hk]at g
   obtain ⟨e,t,xs,ys,mt,n,h1,h2⟩:=Z k i hk
   rw [g]at h2;cases h2
   obtain ⟨r,l,p,o⟩:=av k i hk
   obtain ⟨R,D,C⟩:=an.get g
   rw [l]at D;cases D
   exact .inl ⟨k,e,t,ys,r,hk,rfl,l,p,o,C⟩
  ·rw [rW ids bl _ i f,List.getElem?_map]at g
   cases d:h[i]? with
   | none=>rw [d]at g;simp at g
   | some x=>rw [d]at g;simp at g;exact .inr ⟨f,x,rfl,g.symm⟩
 have E: ∀i e t ys r,(m.marks ids rl).nst i=r.2->r.1=m.val i->fpB (m.marks ids rl) i (.row e t ys true true 0)=qU.fp r:=fun i e t ys r h1 h2=>by
  simp only [fpB,qU.fp,h1,h2];rfl
 have G: ∀i x,i∉ids-> ∀b,b∈fpB (m.marks ids rl) i (x.clamp (los h h.length ids))->b∈fpB m i x:=fun i x f b a=>by
  cases x with
  | dead=>exact a
  | box cs=>exact a
  | nst F t hs vs=>exact a
  | row e t xs dp mt n=>
    cases dp with
    | true=>
      have a:b∈(m.val i).ownBlock.toList++(m.marks ids rl).nst i:=a
      rw [Q i f]at a;exact a
    | false=>
      simp only [Blk.clamp]at a
      split at a
      ·exact a
      ·simp [fpB]at a
 have ab: ∀i x,i∉ids->h[i]?=some x-> ∀b∈fpB m i x,b∉qY m h ids:=fun i x f d b a al=>by
  obtain ⟨id,y,u,g,B⟩:=fT al
  exact H.dj i x id y (fun e=>f (e▸u)) d g b a B
 have same: ∀i x,i∉ids->h[i]?=some x-> ∀b∈fpB m i x,w'.heap[b]?=w.heap[b]?:=fun i x f d b a=>I.block b (H.lt i x d b a).1 (ab i x f d b a)
 have K:Keeps w w' m (m.marks ids rl) h (dL (h.map (Blk.clamp (los h h.length ids))) ids bl) (los h h.length ids):=by
  refine ⟨fun n b hle a ao=> ?_,fun id x d=> ?_⟩
  ·have af:=rq a hle
   refine ⟨I.block b ao af,a.1,fun i y g=> ?_⟩
   rcases get i y g with ⟨k,e,t,ys,r,hk,rfl,l,p,o,_⟩ | ⟨f,x,d,rfl⟩
   ·have ah:b∉r.fp:=fun hm=>by
     rcases N l b hm with h1 | h1
     ·exact af h1
     ·omega
    refine ⟨fun _ q=>ah ?_,fun _ _ hm=>ah ?_⟩
    ·have q:(m.val i).ownBlock=some b:=q
     simp only [qU.fp,p,q];simp
    ·rw [o]at hm;simp only [qU.fp];exact List.mem_append_right _ hm
   ·have:=a.2 i x d
    cases x with
    | dead=>trivial
    | box cs=>exact this
    | nst F t hs vs=>exact this
    | row e t xs dp mt k=>
      cases dp with
      | true=>
        refine ⟨this.1,fun h1 h2=> ?_⟩
        rw [Q i f];exact this.2 h1 h2
      | false=>
        simp only [Blk.clamp]
        split
        ·exact ⟨this.1,fun h=>by simp at h⟩
        ·trivial
  ·by_cases f:id∈ids
   ·obtain ⟨k,hk⟩:=V id f
    obtain ⟨e,t,xs,ys,mt,n,h1,h2⟩:=Z k id hk
    rw [d]at h1;cases h1
    refine ⟨.row e t ys true true 0,(by rw [yS ids bl _ Y hlen (fun j W=>by simpa using ae j W) k id hk];exact h2),rfl,rfl⟩
   ·refine ⟨x.clamp (los h h.length ids),by rw [rW ids bl _ id f,List.getElem?_map,d];rfl,?_⟩
    have a:=H.br id x d
    cases x with
    | dead=>trivial
    | box cs=>rfl
    | nst F t hs vs=>trivial
    | row e t xs dp mt k=>
      cases dp with
      | true=>exact ⟨rfl,rfl⟩
      | false=>
        simp only [Blk.clamp]
        split
        ·exact ⟨rfl,rfl⟩
        ·exact BR.rowOne a
 refine ⟨⟨fun i y g=> ?_,fun i y g=> ?_,fun i y A ai ag g L b a B=> ?_,fun i y g b a=> ?_,?_,H.mx,H.nx,fun i v aq=> ?_⟩,K⟩
 ·rcases get i y g with ⟨k,e,t,ys,r,hk,rfl,l,p,o,C⟩ | ⟨f,x,d,rfl⟩
  ·obtain ⟨e',t',aw,inner,L,q,hm⟩:=C
   cases L
   refine ⟨inner,?_,?_,Nat.zero_le _⟩
   ·have:(m.marks ids rl).val i=r.1:=p.symm
    rw [this];exact q
   ·rw [o];exact hm
  ·have a:=H.br i x d
   have S:=same i x f d
   cases x with
   | dead=>trivial
   | box cs=>
     obtain ⟨arr,ty,h1,h2,ak⟩:=a
     refine ⟨arr,ty,(S (m.blk i) (by simp [fpB])).trans h1,?_,ak⟩
     exact J1 K h2
   | nst F t hs vs=>exact nj a S
   | row e t xs dp mt k=>
     obtain ⟨inner,h1,h2⟩:=a
     have q:=x6 h1 fun b ar=>S b (by simp [fpB,ar])
     cases dp with
     | true=>
       refine ⟨inner,q,?_,h2.2⟩
       rw [Q i f]
       exact h2.1.imp fun x c b hk d=>dX d fun P J=>S P (by simp only [fpB];exact List.mem_append_right _ (hk P J))
     | false=>
       simp only [Blk.clamp]
       split
       ·rename_i hle
        exact ⟨inner,q,h2.imp fun x c hk=>cv (fun b a X=>(K.ok k b hle a X).1) (fun b a X=>(K.ok k b hle a X).2) hk⟩
       ·trivial
 ·rcases get i y g with ⟨k,e,t,ys,r,hk,rfl,l,p,o,C⟩ | ⟨f,x,d,rfl⟩
  ·rw [E i e t ys r o p]
   exact nB ad l
  ·have:=H.nd i x d
   cases x with
   | dead=>exact this
   | box cs=>exact this
   | nst F t hs vs=>exact this
   | row e t xs dp mt n=>
     cases dp with
     | true=>
       have e:fpB (m.marks ids rl) i ((Blk.row e t xs true mt n).clamp (los h h.length ids))=fpB m i (.row e t xs true mt n):=by
         show (m.val i).ownBlock.toList++(m.marks ids rl).nst i=_
         rw [Q i f];rfl
       rw [e];exact this
     | false=>
       simp only [Blk.clamp]
       split
       ·exact this
       ·exact List.nodup_nil
 ·rcases get i y g with ⟨k,e,t,ys,r,hk,rfl,l,p,o,C⟩ | ⟨f,x,d,rfl⟩
  ·rw [E i e t ys r o p]at a
   rcases get A ai L with ⟨P,e',t',ac,R,J,rfl,D,T,U,ap⟩ | ⟨M,x',O,rfl⟩
   ·rw [E A e' t' ac R U T]at B
    refine nA ad (fun aj=>ag ?_) l D b a B
    subst aj
    rw [hk]at J;cases J;rfl
   ·have s:=G A x' M b B
    rcases N l b a with h1 | h1
    ·exact ab A x' M O b s h1
    ·have:=(H.lt A x' O b s).1
     omega
  ·rcases get A ai L with ⟨P,e',t',ac,R,J,rfl,D,T,U,ap⟩ | ⟨M,x',O,rfl⟩
   ·rw [E A e' t' ac R U T]at B
    have s:=G i x f b a
    rcases N D b B with h1 | h1
    ·exact ab i x f d b s h1
    ·have:=(H.lt i x d b s).1
     omega
   ·exact H.dj i x A x' ag d O b (G i x f b a) (G A x' M b B)
 ·rcases get i y g with ⟨k,e,t,ys,r,hk,rfl,l,p,o,C⟩ | ⟨f,x,d,rfl⟩
  ·rw [E i e t ys r o p]at a
   rcases N l b a with h1 | h1
   ·obtain ⟨id,z,u,aa,s⟩:=fT h1
    have:=H.lt id z aa b s
    exact ⟨Nat.lt_of_lt_of_le this.1 I.size,this.2⟩
   ·refine ⟨?_,.inl (Nat.le_trans H.fr.size h1)⟩
    obtain ⟨e',t',aw,inner,L,q,hm⟩:=C
    rcases List.mem_append.1 a with a | a
    ·exact (q.lt b (by simpa using a)).2
    ·exact q0 (fun x c b d=>gQ d) hm b a
  ·have:=H.lt i x d b (G i x f b a)
   exact ⟨Nat.lt_of_lt_of_le this.1 I.size,this.2⟩
 ·refine H.fr.trans I fun k hk=> ?_
  obtain ⟨id,z,u,aa,s⟩:=fT hk
  exact (H.lt id z aa k s).2
 ·obtain ⟨h1,h2⟩:=H.pn i v aq
  exact ⟨by rw [Kn];simpa using h1,h2⟩
end
end Go.T
namespace Go.T
open Go
section
variable {P : Program} {w0 w w' : World} {mine : Mine} {m m' : Mp} {h : List Blk} {st : St} {a : Act} {o : Oper} {next : Act -> World -> Prop} {Q : Exit -> Act -> World -> Prop}
theorem V9 {cs:List LC} {v:Value} (hd:bR h cs=true) {id:Nat} (a:id∈qG cs) {e:Nat} {t:Ty} {xs:List (Val t)} {dp mt:Bool} {n:Nat} (d:h[id]?=some (.row e t xs dp mt n)):dp=true:=by
 simp only [qG,List.mem_filterMap]at a
 obtain ⟨c,b,he⟩:=a
 cases c<;>simp only [LC.movedId,Option.some.injEq,reduceCtorEq]at he
 subst he
 have:=List.all_eq_true.1 hd _ b
 simp only [LC.deep,d]at this
 exact this
theorem Wa {f:FuncId} {g:Gm} (S:SoundM P f g) {c:Call} {x y:Operand} (ad:o.op= .call c) (U:c.callee= .value (.func f)) (T:c.args= #[x,y]) {p:Prop} {F:St} (hs:rV g (st.ev x) (st.ev y) o.dst st=some (p,F)) (ae:p)
 (j:R w0 mine st a w) (aa: ∀q w',R w0 mine F q w'->next q w'):o.wp P a w next Q:=by
 obtain ⟨hd,m,H,he⟩:=j
 have b:=R.ev H he x
 have E:=R.ev H he y
 unfold rV at hs
 split at hs
 ·rename_i n I
  rw [I]at E
  have aj:a.eval y= .int .i64 n:=E
  split at hs
  ·rename_i W
   obtain ⟨O,ac,l,ab⟩:=W
   split at hs
   ·rename_i v u
    cases hs
    
    obtain ⟨us,i,ai⟩: ∃us,F2 (C w m st.heap) (st.ev x).cells us/\cb g.t.agg us (a.eval x):=by
     revert b O
     cases st.ev x with
     | tup=>intro _ h;simp [LV.isAgg]at h
     | one al=>
       intro b h
       simp only [LV.isAgg,Option.some.injEq]at h
       exact ⟨[a.eval x],.cons b .nil,by rw [<-h];rfl⟩
     | agg cs=>
       intro b h
       simp only [LV.isAgg,Option.some.injEq]at h
       obtain ⟨vs,ag,i⟩:=b
       exact ⟨vs.toList,i,by rw [<-h,ag];simp [cb]⟩
    obtain ⟨an,ao,pre,D,A,s,af⟩:=ie H.br i u l
    cases af
    rw [List.append_nil]at D A
    subst D
    rw [<-A]at s
    have z:=jJ ab
    have J:=jK H z
    unfold Oper.wp
    rw [lV ad U S.enters,Oper.upon_enter]
    have ah:c.args.map a.eval= #[a.eval x,.int .i64 n]:=by rw [T];simp [aj]
    rw [ah]
    refine Calls.mono (S.runs v n ae w us _ _ s J ai) fun e w' X=> ?_
    obtain ⟨rfl,Z,B',N,M,L⟩:=X
    obtain ⟨rl,Y,rfl,V⟩:=nz 0 N
    obtain ⟨am,B,_,d⟩:=yU (w:=w) (m:=m) (base0:=0) (rl:=rl) u l ac
    rw [List.append_nil]at B
    subst B
    obtain ⟨hlen,d⟩:=d (g.fv v n) 0 us i V
    obtain ⟨G,K⟩:=Kq H z hlen (fun k id hk=>by
     obtain ⟨⟨e,t',xs,ys,dp,mt,ak,h1,h2⟩,_⟩:=d k id hk
     have:=V9 (v:=undef) l (List.mem_of_getElem? hk) h1
     subst this
     exact ⟨e,t',xs,ys,mt,ak,h1,h2⟩) Y M L (fun k id hk=>by
     obtain ⟨_,r,j,e⟩:=d k id hk
     rw [Nat.zero_add]at j
     exact ⟨r,j,e⟩) Z
    refine aa _ _ ⟨by rw [c0];exact hd,m.marks (qG (st.ev x).cells) rl,?_,?_⟩
    ·rw [St.put_heap];exact G
    ·rw [St.put_heap,St.put_env]
     exact dY (yN K he) o.dst rfl
   ·simp at hs
  ·simp at hs
 ·simp at hs
end
end Go.T
namespace Go.T
open Go
structure Gms where
 e:Nat
 t:Ty
 pre:List (Val t)->Int->Prop
 fv:List (Val t)->Int->List (Val t)
 fk:List (Val t)->Int->Int
@[reducible] def Gms.gm (g : Gms) : Gm := { t := ⟨.slice g.e g.t, false, [], false⟩, pre := g.pre, fv := g.fv, fk := g.fk }
structure SoundMs (P:Program) (f:FuncId) (g:Gms):Prop where
 enters:ez P f
 runs: ∀(x:List (Val g.t)) (n:Int),g.pre x n-> ∀(w:World) (B:List Nat) (u:Value),M w (.slice g.e g.t) x [u] B->B.Nodup->
  Calls P f #[u,.int .i64 n] w fun e w'=>e= .returned (.int .i64 (g.fk x n))/\Fr (fun b=>b∈B) w w'/\M w' (.slice g.e g.t) (g.fv x n) [u] B
theorem SoundMs.gm {P:Program} {f:FuncId} {g:Gms} (S:SoundMs P f g):SoundM P f g.gm:=⟨S.enters,fun x n i w cs B u c a hw=>by
 have hw:cs=[u]:=hw
 subst hw
 exact Calls.mono (S.runs x n i w B u c a) fun e w' h=>⟨h.1,h.2.1,B,h.2.2,a,fun b d=> .inl d⟩⟩
def du (e':Nat) (t':Ty):(t:Ty)->Nat->Val t->Option (List (Val t'))
 | .slice e t,0,v=>if he:e=e'/\t=t' then some (he.2▸v)else none
 | .pair a b,f,v=>if f<a.sz then du e' t' a f v.1 else du e' t' b (f - a.sz) v.2
 | _,_,_=>none
def bM (e':Nat) (t':Ty):(t:Ty)->Nat->Val t->List (Val t')->Val t
 | .slice e t,0,v,y=>if he:e=e'/\t=t' then he.2▸y else v
 | .pair a b,f,v,y=>if f<a.sz then (bM e' t' a f v.1 y,v.2)else (v.1,bM e' t' b (f - a.sz) v.2 y)
 | _,_,v,_=>v
def q8:(t:Ty)->Nat->Val (hd t)->Option Value
 | .slice _ _,0,h=>some h
 | .pair a b,f,h=>if f<a.sz then q8 a f h.1 else q8 b (f - a.sz) h.2
 | _,_,_=>none
theorem yV {e':Nat} {t':Ty} {w:World}: ∀{t:Ty} {f:Nat} {v:Val t} {h:Val (hd t)} {B:List Nat} {u:Value} {x:List (Val t')},Nst w t v h B->q8 t f h=some u->du e' t' t f v=some x->
 ∃i g j,B=i++(g++j)/\M w (.slice e' t') x [u] g/\ ∀(w':World) (y:List (Val t')),(∀b,b∈i∨b∈j->w'.heap[b]?=w.heap[b]?)->M w' (.slice e' t') y [u] g->Nst w' t (bM e' t' t f v y) h B
 | .int _,_,_,_,_,_,_,_,c,_=>by simp [q8]at c
 | .bool,_,_,_,_,_,_,_,c,_=>by simp [q8]at c
 | .str,_,_,_,_,_,_,_,c,_=>by simp [q8]at c
 | .hdr,_,_,_,_,_,_,_,c,_=>by simp [q8]at c
 | .slice e t,f,v,h,B,u,x,m,c,hs=>by
   cases f with
   | succ f=>simp [q8]at c
   | zero=>
     have c:(h:Value)=u:=Option.some.inj c
     subst c
     simp only [du]at hs
     split at hs
     ·rename_i he
      obtain ⟨rfl,rfl⟩:=he
      cases hs
      exact ⟨[],B,[],by simp,m,fun w' y _ hm=>by simp [bM];exact hm⟩
     ·simp at hs
 | .pair a b,f,v,h,B,u,x,m,c,hs=>by
   obtain ⟨n,o,rfl,h1,h2⟩:=m
   simp only [q8]at c
   simp only [du]at hs
   by_cases k:f<a.sz
   ·rw [if_pos k]at c hs
    obtain ⟨i,g,j,rfl,hm,hk⟩:=yV h1 c hs
    refine ⟨i,g,j++o,by simp,hm,fun w' y hw l=> ?_⟩
    refine ⟨_,o,rfl,?_,?_⟩
    ·simp only [bM];rw [if_pos k]
     exact hk w' y (fun b d=>hw b (by rcases d with d | d<;>simp [d])) l
    ·simp only [bM];rw [if_pos k]
     exact gR h2 fun b d=>hw b (by simp [d])
   ·rw [if_neg k]at c hs
    obtain ⟨i,g,j,rfl,hm,hk⟩:=yV h2 c hs
    refine ⟨n++i,g,j,by simp,hm,fun w' y hw l=> ?_⟩
    refine ⟨n,_,rfl,?_,?_⟩
    ·simp only [bM];rw [if_neg k]
     exact gR h1 fun b d=>hw b (by simp [d])
    ·simp only [bM];rw [if_neg k]
     exact hk w' y (fun b d=>hw b (by rcases d with d | d<;>simp [d])) l
theorem Kr {e':Nat} {t':Ty} {w:World} {t:Ty} {f:Nat} {u:Value} {x:List (Val t')}: ∀{vs:List (Val t)} {hs:List (Val (hd t))} {B:List Nat} {i:Nat} {v:Val t} {h:Val (hd t)},b0 w t vs hs B->vs[i]?=some v->hs[i]?=some h->q8 t f h=some u->du e' t' t f v=some x->
 ∃d c e,B=d++(c++e)/\M w (.slice e' t') x [u] c/\ ∀(w':World) (y:List (Val t')),(∀b,b∈d∨b∈e->w'.heap[b]?=w.heap[b]?)->M w' (.slice e' t') y [u] c->b0 w' t (vs.set i (bM e' t' t f v y)) hs B
 | [],_,_,_,_,_,_,g,_,_,_=>by simp at g
 | _::_,[],_,_,_,_,l,_,_,_,_=>l.elim
 | q::vs,p::hs,B,i,v,h,l,g,j,hu,o=>by
   obtain ⟨m,n,rfl,h1,h2⟩:=l
   cases i with
   | zero=>
     simp at g j
     subst g;subst j
     obtain ⟨d,c,e,rfl,hm,hk⟩:=yV h1 hu o
     refine ⟨d,c,e++n,by simp,hm,fun w' y hw k=>⟨_,n,rfl,hk w' y (fun b a=>hw b (by rcases a with a | a<;>simp [a])) k,nj h2 fun b a=>hw b (by simp [a])⟩⟩
   | succ i=>
     obtain ⟨d,c,e,rfl,hm,hk⟩:=Kr h2 (by simpa using g) (by simpa using j) hu o
     refine ⟨m++d,c,e,by simp,hm,fun w' y hw k=>⟨m,_,rfl,gR h1 fun b a=>hw b (by simp [a]),hk w' y (fun b a=>hw b (by rcases a with a | a<;>simp [a])) k⟩⟩
def rX (g:Gms) (jn f:Nat) (i x y:LV) (d:Option Tmp) (st:St):Res:=match i,x,y,st.heap[jn]? with
 | .one (.int _ i),.one (.hdr u),.one (.int .i64 n),some (.nst F t hs vs)=>
   match du g.e g.t t f (vs.getD i.toNat (qa t)),q8 t f (hs.getD i.toNat (qa (hd t)))with
   | some xs,some a=>some (i.toNat<vs.length/\i.toNat<hs.length/\a=u/\g.pre xs n,
        St.put ⟨st.env,st.heap.set jn (.nst F t hs (vs.set i.toNat (bM g.e g.t t f (vs.getD i.toNat (qa t)) (g.fv xs n))))⟩ d (.one (.int .i64 (g.fk xs n))))
   | _,_=>none
 | _,_,_,_=>none
section
variable {P : Program} {w0 w w' : World} {mine : Mine} {m m' : Mp} {h : List Blk} {st : St} {a : Act} {o : Oper} {next : Act -> World -> Prop} {Q : Exit -> Act -> World -> Prop}
theorem HR.setNst (H:HR w0 mine w m h) {j:Nat} {F:List Nat} {t:Ty} {hs:List (Val (hd t))} {vs d:List (Val t)} (l:h[j]?=some (.nst F t hs vs)) (r:Fr (fun b=>b∈F) w w') (J:b0 w' t d hs F):
 HR w0 mine w' m (h.set j (.nst F t hs d))/\Oks w w' m m h (h.set j (.nst F t hs d))/\bA m m h (h.set j (.nst F t hs d)):=by
 have A:=(List.getElem?_eq_some_iff.1 l).1
 have get: ∀i y,(h.set j (.nst F t hs d))[i]?=some y->(i=j/\y= .nst F t hs d)∨(i≠j/\h[i]?=some y):=fun i y a=>by
  rw [List.getElem?_set]at a
  split at a
  ·rename_i e;subst e;simp [A]at a;exact .inl ⟨rfl,a.symm⟩
  ·rename_i e;exact .inr ⟨fun e'=>e e'.symm,a⟩
 have q: ∀i y,(h.set j (.nst F t hs d))[i]?=some y-> ∃c,h[i]?=some c/\fpB m i y=fpB m i c/\ ∀n b,okB m n b i y↔okB m n b i c:=fun i y a=>by
  rcases get i y a with ⟨rfl,rfl⟩ | ⟨_,a⟩
  ·exact ⟨_,l,rfl,fun _ _=>Iff.rfl⟩
  ·exact ⟨y,a,rfl,fun _ _=>Iff.rfl⟩
 have B:Oks w w' m m h (h.set j (.nst F t hs d)):=fun n b g K=>⟨r.block b K (g.2 j _ l),g.1,fun i y a=>by
  obtain ⟨c,f,_,h2⟩:=q i y a
  exact (h2 n b).2 (g.2 i c f)⟩
 have C:bA m m h (h.set j (.nst F t hs d)):=fun i x u=>by
  by_cases e:i=j
  ·subst e
   rw [l]at u;cases u
   exact ⟨.nst F t hs d,by simp [A],trivial⟩
  ·refine ⟨x,by rw [List.getElem?_set_ne (fun e'=>e e'.symm)];exact u,?_⟩
   cases x<;>simp [Sim]
 refine ⟨⟨fun i y a=> ?_,fun i y a=> ?_,fun i y D M s a p b o z=> ?_,fun i y a b o=> ?_,?_,H.mx,H.nx,fun i v L=> ?_⟩,B,C⟩
 ·rcases get i y a with ⟨rfl,rfl⟩ | ⟨s,p⟩
  ·exact J
  ·exact eT B C rfl rfl rfl (fun b g=>r.block b (H.lt i y p b g).1 (fun I=>H.dj i y j _ s p l b g I)) (H.br i y p)
 ·obtain ⟨c,f,h1,_⟩:=q i y a
  rw [h1];exact H.nd i c f
 ·obtain ⟨c,f,h1,_⟩:=q i y a
  obtain ⟨N,E,G,_⟩:=q D M p
  rw [h1]at o;rw [G]at z
  exact H.dj i c D N s f E b o z
 ·obtain ⟨c,f,h1,_⟩:=q i y a
  rw [h1]at o
  have:=H.lt i c f b o
  exact ⟨Nat.lt_of_lt_of_le this.1 r.size,this.2⟩
 ·refine H.fr.trans r fun k hk=>(H.lt j _ l k hk).2
 ·obtain ⟨h1,h2⟩:=H.pn i v L
  exact ⟨by simpa using h1,h2⟩
theorem Wb {f:FuncId} {g:Gms} (S:SoundMs P f g) {c:Call} {ix x y:Operand} {jn J:Nat} (ad:o.op= .call c) (U:c.callee= .value (.func f)) (O:c.args= #[x,y]) {p:Prop} {D:St} (hs:rX g jn J (st.ev ix) (st.ev x) (st.ev y) o.dst st=some (p,D)) (af:p)
 (ah:R w0 mine st a w) (s: ∀z w',R w0 mine D z w'->next z w'):o.wp P a w next Q:=by
 obtain ⟨hd,m,H,he⟩:=ah
 have B:=R.ev H he x
 have C:=R.ev H he y
 unfold rX at hs
 split at hs
 ·rename_i k i u n F t v vs an ex I l
  rw [ex]at B
  rw [I]at C
  have al:a.eval x=u:=B.1
  have am:a.eval y= .int .i64 n:=C
  split at hs
  ·rename_i xs E Y X
   cases hs
   obtain ⟨aa,ab,rfl,ag⟩:=af
   have M:b0 w t vs v F:=H.br jn _ l
   have aj:vs[i.toNat]?=some (vs.getD i.toNat (qa t)):=by simp [List.getD,aa]
   have Z:v[i.toNat]?=some (v.getD i.toNat (qa (Go.T.hd t))):=by simp [List.getD,ab]
   obtain ⟨q,j,r,rfl,K,hk⟩:=Kr M aj Z X Y
   have A:(q++(j++r)).Nodup:=H.nd jn _ l
   have ac:j.Nodup:=(List.nodup_append.1 (List.nodup_append.1 A).2.1).1
   unfold Oper.wp
   rw [lV ad U S.enters,Oper.upon_enter]
   have ak:c.args.map a.eval= #[E,.int .i64 n]:=by rw [O];simp [al,am]
   rw [ak]
   refine Calls.mono (S.runs xs n ag w j E K ac) fun e w' V=> ?_
   obtain ⟨rfl,h,L⟩:=V
   have W:Fr (fun b=>b∈q++(j++r)) w w':=⟨h.os,h.tape,h.output,h.size,fun k hk s=>h.block k hk fun hm=>s (by simp [hm]),h.drawn⟩
   have N:=hk w' (g.fv xs n) (fun b d=> ?_) L
   ·obtain ⟨G,ae,ai⟩:=H.setNst l W N
    refine s _ _ ⟨by rw [c0];exact hd,m,?_,?_⟩
    ·rw [St.put_heap];exact G
    ·rw [St.put_heap,St.put_env]
     exact dY (bV ae ai he) o.dst rfl
   ·refine h.block b ((H.lt jn _ l b (by show b∈q++(j++r);rcases d with d | d<;>simp [d])).1) fun hm=> ?_
    have h1:=List.nodup_append.1 A
    have h2:=List.nodup_append.1 h1.2.1
    rcases d with d | d
    ·exact h1.2.2 b d b (by simp [hm]) rfl
    ·exact h2.2.2 b hm b d rfl
  ·simp at hs
 ·simp at hs
end
end Go.T
namespace Go.T
open Go
def e1 (ti:TI) (ntmps:Nat) (x:Val ti.ty) (n:Int):St:={env:=[LV1.lv ⟨ti.agg,(q9 0 ti.ty x).1⟩,.one (.int .i64 n)]++List.replicate (ntmps - 2) (.tup []),heap:=(q9 0 ti.ty x).2}
def rY (h:List Blk) (id:Nat):Bool:=match h[id]? with
 | some (.row ..)=>true
 | _=>false
def fD (tt:TT) (t:Ty) (cells:List LC) (a:List ResultVar) (st:St):Option (Val t×Int):=match eX tt st a with
 | some [.one (.int .i64 k)]=>match qL st.heap t cells with
   | some (y,[])=>bif bR st.heap cells&&dc (qG cells)&&(qG cells).all (rY st.heap)then some (y,k)else none
   | _=>none
 | _=>none
def yW (e:Nat) (t:Ty) (ntmps:Nat) (F:List Nat) (hs:List (Val (hd t))) (xs:List (Val t)) (n:Int):St:={env:=[.one (.own 0),.one (.int .i64 n)]++List.replicate (ntmps - 2) (.tup []),heap:=[.row e (hd t) hs true true 0,.nst F t hs xs]}
noncomputable def l9 (tt:TT) (e:Nat) (t b:Ty) (F:List Nat) (hs:List (Val (hd t))) (f:List ResultVar) (st:St):Option (List (Val b)×List (Val t)×Int):=match eX tt st f with
 | some [.one (.int .i64 k)]=>match st.heap[0]?,st.heap[1]? with
   | some (Blk.row e' t' ys true _ _),some (Blk.nst c g d vs)=>if a:e'=e/\t'=b/\g=t then chk (c=F/\a.2.2▸d=hs) (some (a.2.1▸ys,a.2.2▸vs,k))else none
   | _,_=>none
 | _=>none
def e2 {ρ:Type} (r:St->Option ρ):X->St->Option ρ
 | .normal,st=>r st
 | .ret,st=>r st
 | .exit _,_=>none
section
variable {P : Program} {tt : TT} {Γ : Gam} {w0 w w' : World} {mine : Mine} {m m' : Mp} {h : List Blk} {st : St} {a : Act}
theorem Kt (hT:bm P tt) (c:R w0 mine st a w) {fn:Func} {k:Int} (d:eX tt st fn.results.toList=some [.one (.int .i64 k)]):(results fn a.tmps).run P w= .ok (.int .i64 k) w:=by
 obtain ⟨hd,m,H,he⟩:=c
 obtain ⟨vs,e,b⟩:=yF hT H he d
 have:=JA fn e
 cases b with
 | cons h1 h2=>
   cases h2
   have h1:_=Value.int .i64 k:=h1
   rw [h1]at this
   exact this
theorem yX (hT : bm P tt) (a1 : ∀ f g, Γ.get f = some g -> Sound P f g) (hm : P.follows .mixedOrders = true) {f : FuncId} {fn : Func} {c : Code} {g : Gm} (U : P.funcs[f]? = some fn) (i : fn.body = some c) (ak : (fn.name == "runtime.NumGoroutine") = false)
 (K: ∀(x:Val g.t.ty) (n:Int),g.pre x n-> ∃T:Tab,T.pins=true/\qi T.tr c=true/\(dt P T.sem/\qj P T)/\qd tt Γ T c (e2 (fD tt g.t.ty (q9 0 g.t.ty x).1 fn.results.toList)) (e1 g.t fn.ntmps x n)=some (g.fv x n,g.fk x n)):SoundM P f g:=by
 refine ⟨⟨fn,U,by rw [i];rfl,ak⟩,fun x n ax w cs B u N L hw=> ?_⟩
 refine calls_of_wp U i ?_
 obtain ⟨T,ap,ao,Q,K⟩:=K x n ax
 obtain ⟨rl,G,rfl,S⟩:=nz 0 N
 let mine:Mine:=⟨fun b=>b∈rl.flatMap qU.fp,fun _=>True,fun id=>(rl[id]?).map fun r=>(r.1,0)⟩
 let p:Mp:=⟨fun _=>undef,fun _=>0,fun _=>[],fun _=>True⟩
 have X: ∀{j:Nat} {r:qU},rl[j]?=some r-> ∀b∈r.fp,b∈rl.flatMap qU.fp:=fun W b i=>List.mem_flatMap.2 ⟨_,List.mem_of_getElem? W,i⟩
 have D: ∀{j:Nat} {y:Blk},(q9 0 g.t.ty x).2[j]?=some y-> ∃r,rl[j]?=some r/\eb w y r/\fpB (p.rows 0 rl) j y=r.fp/\(p.rows 0 rl).val j=r.1/\(p.rows 0 rl).nst j=r.2:=fun {j y} l=>by
  obtain ⟨r,d,F⟩:=G.get l
  obtain ⟨h1,h2⟩:=fV (m:=p) (n:=0) d
  rw [Nat.zero_add]at h1 h2
  refine ⟨r,d,F,?_,h1,h2⟩
  obtain ⟨e,t,xs,inner,rfl,_⟩:=F
  simp only [fpB,h1,h2,qU.fp]
 have H:HR w mine w (p.rows 0 rl) (q9 0 g.t.ty x).2:=by
  refine ⟨fun id y l=> ?_,fun id y l=> ?_,fun id y id' a7 am l az b i E=> ?_,fun id y l b i=> ?_,Fr.refl _ w,rfl,fun _ _=>trivial,fun id v s=> ?_⟩
  ·obtain ⟨r,d,F,_,h1,h2⟩:=D l
   obtain ⟨e,t,xs,inner,rfl,an,aj⟩:=F
   exact ⟨inner,by rw [h1];exact an,by rw [h2];exact aj,Nat.zero_le _⟩
  ·obtain ⟨r,d,_,h1,_⟩:=D l
   rw [h1];exact nB L d
  ·obtain ⟨r,d,_,h1,_⟩:=D l
   obtain ⟨a3,I,_,aa,_⟩:=D az
   rw [h1]at i;rw [aa]at E
   exact nA L am d I b i E
  ·obtain ⟨r,d,_,h1,_⟩:=D l
   rw [h1]at i
   exact ⟨gQ N b (X d b i),.inr (X d b i)⟩
  ·have s:((rl[id]?).map fun r=>((r.1,0):Value×Nat))=some v:=s
   cases d:rl[id]? with
   | none=>rw [d]at s;simp at s
   | some r=>
     rw [d]at s;simp only [Option.map_some,Option.some.injEq]at s;subst s
     obtain ⟨y,l,_⟩:=G.get' d
     obtain ⟨h1,_⟩:=fV (m:=p) (n:=0) d
     rw [Nat.zero_add]at h1
     exact ⟨(List.getElem?_eq_some_iff.1 l).1,h1,rfl⟩
 have ad:V1 w (p.rows 0 rl) ([]++(q9 0 g.t.ty x).2) ⟨g.t.agg,(q9 0 g.t.ty x).1⟩ u:=Vd (h:=[]) G ⟨cs,S,hw⟩
 have af:F2 (V w (p.rows 0 rl) (q9 0 g.t.ty x).2) (e1 g.t fn.ntmps x n).env ((#[u,.int .i64 n]:Array Value)++Array.replicate (fn.ntmps - 2) undef).toList:=by
  rw [Array.toList_append,Array.toList_replicate]
  refine F2.append (.cons (rb ad) (.cons rfl .nil)) ?_
  generalize fn.ntmps - 2=k
  induction k with
  | zero=>exact .nil
  | succ k a2=>rw [List.replicate_succ,List.replicate_succ];exact .cons ⟨#[],rfl,.nil⟩ a2
 have ac:R w mine (e1 g.t fn.ntmps x n) {tmps:=(#[u,.int .i64 n]:Array Value)++Array.replicate (fn.ntmps - 2) undef,defers:=[]} w:=⟨rfl,_,H,af⟩
 have fin: ∀(st:St) (a:Act) (w':World),R w mine st a w'->fD tt g.t.ty (q9 0 g.t.ty x).1 fn.results.toList st=some (g.fv x n,g.fk x n)->a.defers=[]/\ ∃v,(results fn a.tmps).run P w'= .ok v w'/\(Ending.returned v= .returned (.int .i64 (g.fk x n))/\Fr (fun b=>b∈rl.flatMap qU.fp) w w'/\ ∃B',M w' g.t.ty (g.fv x n) cs B'/\B'.Nodup/\ ∀b∈B',b∈rl.flatMap qU.fp∨w.heap.size<=b):=by
  intro st a w' d o
  unfold fD at o
  split at o
  ·rename_i k aq
   split at o
   ·rename_i y ag
    cases i:(bR st.heap (q9 0 g.t.ty x).1&&dc (qG (q9 0 g.t.ty x).1)&&(qG (q9 0 g.t.ty x).1).all (rY st.heap))with
    | false=>rw [i]at o;simp at o
    | true=>
      rw [i]at o
      simp only [cond_true,Option.some.injEq,Prod.mk.injEq]at o
      obtain ⟨rfl,rfl⟩:=o
      simp only [Bool.and_eq_true]at i
      obtain ⟨⟨ae,al⟩,av⟩:=i
      have au:=Kt hT d aq
      obtain ⟨hd,m',A,he⟩:=d
      refine ⟨hd,_,au,rfl,A.fr,?_⟩
      have ab:F2 (C w' m' st.heap) (q9 0 g.t.ty x).1 cs:=S.imp fun c a4 ai q=>by
            cases c<;>simp only [dd]at q<;>try exact q.elim
            ·exact q
            ·exact q
            ·exact q
            ·exact q
            ·rename_i id
             obtain ⟨j,r,W,I,rfl⟩:=q
             have ah:id=j:=by omega
             subst ah
             have J:=List.all_eq_true.1 av id (ru ai)
             unfold rY at J
             have aw:m'.val id=r.1:=(A.pn id (r.1,0) (by show ((rl[id]?).map fun r=>((r.1,0):Value×Nat))=_;rw [I];rfl)).2.1
             simp only [C]
             split at J
             ·rename_i ay;rw [ay];exact aw.symm
             ·simp at J
      obtain ⟨a5,a6,pre,Z,Y,O,ar⟩:=ie A.br ab ag ae
      cases ar
      rw [List.append_nil]at Z Y
      subst Z
      rw [<-Y]at O
      refine ⟨_,O,jK A (jJ al),fun b i=> ?_⟩
      obtain ⟨id,z,_,a0,E⟩:=fT i
      exact ((A.lt id z a0 b E).2).symm
   ·simp at o
  ·simp at o
 refine wp_mono (hg hT Q.2 a1 hm Q.1.at (fun h=>by rw [ap]at h;simp at h) c ao _ _ _ _ K ac) fun e a w' he=> ?_
 cases e with
 | normal=>obtain ⟨st,d,h⟩:=he;exact fin st a w' d h
 | ret=>obtain ⟨st,d,h⟩:=he;exact fin st a w' d h
 | exit id=>obtain ⟨st,_,h⟩:=he;simp [e2]at h
 | _=>exact he.elim
end
end Go.T
namespace Go.T
open Go
def bW:(t:Ty)->Val t->Val t
 | .int _,_=>(0:Int)
 | .bool,_=>false
 | .str,_=>ByteArray.empty
 | .hdr,_=>Value.slice none 0 0
 | .slice _ _,v=>v
 | .pair a b,v=>(bW a v.1,bW b v.2)
section
variable {P : Program} {tt : TT} {Γ : Gam} {w0 w w' : World} {mine : Mine} {m m' : Mp} {h : List Blk} {st : St} {a : Act}
theorem yY {w:World}: ∀{t:Ty} {v d:Val t} {h:Val (hd t)} {B:List Nat},bW t v=bW t d->Nst w t v h B->Nst w t d h B
 | .int _,_,_,_,_,_,c=>c
 | .bool,_,_,_,_,_,c=>c
 | .str,_,_,_,_,_,c=>c
 | .hdr,_,_,_,_,_,c=>c
 | .slice e t,v,d,_,_,he,c=>by
   have he:v=d:=he
   rw [<-he];exact c
 | .pair a b,v,d,_,_,he,c=>by
   obtain ⟨f,g,rfl,h1,h2⟩:=c
   have he:(bW a v.1,bW b v.2)=(bW a d.1,bW b d.2):=he
   obtain ⟨i,j⟩:=Prod.mk.injEq .. ▸he
   exact ⟨f,g,rfl,yY i h1,yY j h2⟩
theorem Ku {w:World} {t:Ty}: ∀{vs b:List (Val t)} {hs:List (Val (hd t))} {B:List Nat},vs.map (bW t)=b.map (bW t)->b0 w t vs hs B->b0 w t b hs B
 | [],[],_,_,_,a=>a
 | [],_::_,_,_,he,_=>by simp at he
 | _::_,[],_,_,he,_=>by simp at he
 | _::_,_::_,[],_,_,a=>a.elim
 | v::vs,e::b,h::hs,_,he,a=>by
   obtain ⟨c,d,rfl,h1,h2⟩:=a
   simp only [List.map_cons,List.cons.injEq]at he
   exact ⟨c,d,rfl,yY he.1 h1,Ku he.2 h2⟩
theorem Wc (hT : bm P tt) (aq : ∀ f g, Γ.get f = some g -> Sound P f g) (hm : P.follows .mixedOrders = true) {f : FuncId} {fn : Func} {c : Code} {g : Gms} (K : P.funcs[f]? = some fn) (i : fn.body = some c) (ag : (fn.name == "runtime.NumGoroutine") = false)
 (z: ∀(xs:List (Val g.t)) (hs:List (Val (hd g.t))) (n:Int) (F:List Nat),g.pre xs n->xs.length=hs.length->qZ g.t xs hs=hs-> ∃(T:Tab) (vs:List (Val g.t)),T.pins=true/\qi T.tr c=true/\(dt P T.sem/\qj P T)/\vs.map (bW g.t)=(g.fv xs n).map (bW g.t)/\
   qd tt Γ T c (e2 (l9 tt g.e g.t (hd g.t) F hs fn.results.toList)) (yW g.e g.t fn.ntmps F hs xs n)=some (qZ g.t (g.fv xs n) hs,vs,g.fk xs n)):SoundMs P f g:=by
 refine ⟨⟨fn,K,by rw [i];rfl,ag⟩,fun xs n ao w B u E X=> ?_⟩
 refine calls_of_wp K i ?_
 have ae:=gQ E
 obtain ⟨av,inner,F,hu,rfl,ah,af⟩:=E
 obtain rfl:u=av:=by simpa using hu
 obtain ⟨hs,m1,Q,U⟩:=yk af
 have hlen:=ny Q
 obtain ⟨T,aw,aj,ai,I,am,z⟩:=z xs hs n F ao hlen U
 let mine:Mine:=⟨fun b=>b∈u.ownBlock.toList++F,fun _=>True,fun id=>if id=0 then some (u,0)else none⟩
 let m0:Mp:=⟨fun _=>u,fun _=>0,fun _=>[],fun _=>True⟩
 have o: ∀{id:Nat} {y:Blk},[Blk.row g.e (hd g.t) hs true true 0,Blk.nst F g.t hs xs][id]?=some y->(id=0/\y= .row g.e (hd g.t) hs true true 0)∨(id=1/\y= .nst F g.t hs xs):=fun {id y} d=>by
  match id,d with
  | 0,d=>exact .inl ⟨rfl,by simpa using d.symm⟩
  | 1,d=>exact .inr ⟨rfl,by simpa using d.symm⟩
  | k+2,d=>simp at d
 have r:=List.nodup_append.1 X
 have H:HR w mine w m0 [Blk.row g.e (hd g.t) hs true true 0,Blk.nst F g.t hs xs]:=by
  refine ⟨fun id y d=> ?_,fun id y d=> ?_,fun id y id' az L d ap b i m=> ?_,fun id y d b i=> ?_,Fr.refl _ w,rfl,fun _ _=>trivial,fun id v p=> ?_⟩
  ·rcases o d with ⟨rfl,rfl⟩ | ⟨rfl,rfl⟩
   ·exact ⟨inner,by rw [ey,<-hlen];exact ah,m1,Nat.zero_le _⟩
   ·exact Q
  ·rcases o d with ⟨rfl,rfl⟩ | ⟨rfl,rfl⟩
   ·show (u.ownBlock.toList++[]).Nodup
    rw [List.append_nil];exact r.1
   ·exact r.2.1
  ·rcases o d with ⟨rfl,rfl⟩ | ⟨rfl,rfl⟩<;>rcases o ap with ⟨rfl,rfl⟩ | ⟨rfl,rfl⟩
   ·exact L rfl
   ·have i:b∈u.ownBlock.toList++[]:=i
    rw [List.append_nil]at i
    exact r.2.2 b i b m rfl
   ·have m:b∈u.ownBlock.toList++[]:=m
    rw [List.append_nil]at m
    exact r.2.2 b m b i rfl
   ·exact L rfl
  ·have J:b∈u.ownBlock.toList++F:=by
        rcases o d with ⟨rfl,rfl⟩ | ⟨rfl,rfl⟩
        ·have i:b∈u.ownBlock.toList++[]:=i
         rw [List.append_nil]at i
         exact List.mem_append_left _ i
        ·exact List.mem_append_right _ i
   exact ⟨ae b J,.inr J⟩
  ·have p:(if id=0 then some (u,0)else none)=some v:=p
   split at p
   ·rename_i e;subst e;cases p;exact ⟨by simp,rfl,rfl⟩
   ·simp at p
 have ac:F2 (V w m0 [Blk.row g.e (hd g.t) hs true true 0,Blk.nst F g.t hs xs]) (yW g.e g.t fn.ntmps F hs xs n).env ((#[u,.int .i64 n]:Array Value)++Array.replicate (fn.ntmps - 2) undef).toList:=by
  rw [Array.toList_append,Array.toList_replicate]
  refine F2.append (.cons (show V w m0 [Blk.row g.e (hd g.t) hs true true 0,Blk.nst F g.t hs xs] (.one (.own 0)) u from (rfl:u=u)) (.cons rfl .nil)) ?_
  generalize fn.ntmps - 2=k
  induction k with
  | zero=>exact .nil
  | succ k ar=>rw [List.replicate_succ,List.replicate_succ];exact .cons ⟨#[],rfl,.nil⟩ ar
 have Y:R w mine (yW g.e g.t fn.ntmps F hs xs n) {tmps:=(#[u,.int .i64 n]:Array Value)++Array.replicate (fn.ntmps - 2) undef,defers:=[]} w:=⟨rfl,m0,H,ac⟩
 have fin: ∀(st:St) (a:Act) (w':World),R w mine st a w'->l9 tt g.e g.t (hd g.t) F hs fn.results.toList st=some (qZ g.t (g.fv xs n) hs,aw,g.fk xs n)->a.defers=[]/\ ∃v,(results fn a.tmps).run P w'= .ok v w'/\(Ending.returned v= .returned (.int .i64 (g.fk xs n))/\Fr (fun b=>b∈u.ownBlock.toList++F) w w'/\M w' (.slice g.e g.t) (g.fv xs n) [u] (u.ownBlock.toList++F)):=by
  intro st a w' l j
  unfold l9 at j
  split at j
  ·rename_i k ak
   split at j
   ·rename_i e' t' ys mt ax S ay A vs W h1
    split at j
    ·rename_i Z
     obtain ⟨rfl,rfl,rfl⟩:=Z
     have aa:=de.1 j
     obtain ⟨⟨rfl,s⟩,O⟩:=aa
     have s:A=hs:=s
     subst s
     simp only [Option.some.injEq,Prod.mk.injEq]at O
     obtain ⟨D,C,rfl⟩:=O
     have D:ys=_:=D
     have C:vs=_:=C
     subst D
     subst C
     have al:=Kt hT l ak
     obtain ⟨ab,m',q,he⟩:=l
     refine ⟨ab,_,al,rfl,q.fr,?_⟩
     obtain ⟨au,N,x,_⟩:=q.br 0 _ W
     have G:b0 w' g.t (g.fv xs n) A S:=Ku am (q.br 1 _ h1)
     have an:m'.val 0=u:=(q.pn 0 (u,0) rfl).2.1
     have ad:(qZ g.t (g.fv xs n) A).length=(g.fv xs n).length:=by
            have:=ny G
            simp [qZ,this]
     rw [an,ad,ey]at N
     rw [nw x]at x
     exact ⟨u,au,_,rfl,rfl,N,I8 x G⟩
    ·simp at j
   ·simp at j
  ·simp at j
 refine wp_mono (hg hT I.2 aq hm I.1.at (fun h=>by rw [aj]at h;simp at h) c ai _ _ _ _ z Y) fun e a w' he=> ?_
 cases e with
 | normal=>obtain ⟨st,l,h⟩:=he;exact fin st a w' l h
 | ret=>obtain ⟨st,l,h⟩:=he;exact fin st a w' l h
 | exit id=>obtain ⟨st,_,h⟩:=he;simp [e2]at h
 | _=>exact he.elim
theorem Kv (hT : bm P tt) (D : ∀ f g, Γ.get f = some g -> Sound P f g) (hm : P.follows .mixedOrders = true) {f : FuncId} {fn : Func} {c : Code} {g : Gms} (d : P.funcs[f]? = some fn) (q : fn.body = some c) (z : (fn.name == "runtime.NumGoroutine") = false) (r : g.t.flat = true)
 (A: ∀(x:List (Val g.t)) (n:Int),g.pre x n-> ∃T:Tab,T.pins=true/\qi T.tr c=true/\(dt P T.sem/\qj P T)/\qd tt Γ T c (e2 (fD tt (.slice g.e g.t) [.own 0] fn.results.toList)) (e1 g.gm.t fn.ntmps x n)=some (g.fv x n,g.fk x n)):SoundMs P f g:=by
 have S:=yX (g:=g.gm) hT D hm d q z A
 refine ⟨S.enters,fun x n C w B u i p=> ?_⟩
 refine Calls.mono (S.runs x n C w [u] B u i p rfl) fun e w' h=> ?_
 obtain ⟨h1,h2,B',l,_,_⟩:=h
 refine ⟨h1,h2,?_⟩
 have fl: ∀{w:World} {y:List (Val g.t)} {B:List Nat},M w (.slice g.e g.t) y [u] B->B=u.ownBlock.toList:=fun i=>by
  obtain ⟨v,inner,E,hu,rfl,_,s⟩:=i
  obtain rfl:u=v:=by simpa using hu
  rw [k r s,List.append_nil]
 rw [fl i,<-fl l]
 exact l
 where
 k {w:World} {t:Ty} (d:t.flat=true): ∀{xs:List (Val t)} {cs:List Value} {B:List Nat},Ms (M w t) xs cs B->B=[]
  | [],_,_,h=>h.2
  | x::xs,_,_,h=>by
    obtain ⟨c1,c2,m,o,rfl,rfl,h1,h2⟩:=h
    rw [j d h1,k d h2];rfl
 j {w:World}: ∀{t:Ty} (_:t.flat=true) {v:Val t} {cs:List Value} {B:List Nat},M w t v cs B->B=[]
  | .int _,_,_,_,_,h=>h.2
  | .bool,_,_,_,_,h=>h.2
  | .str,_,_,_,_,h=>h.2
  | .hdr,_,_,_,_,h=>h.2
  | .slice _ _,d,_,_,_,_=>by simp [Ty.flat]at d
  | .pair a b,d,_,_,_,h=>by
    simp only [Ty.flat,Bool.and_eq_true]at d
    obtain ⟨c1,c2,m,o,rfl,rfl,h1,h2⟩:=h
    rw [j d.1 h1,j d.2 h2];rfl
end
end Go.T
namespace Go.T
open Go
abbrev ef:=List (Nat×Gm)
abbrev eg:=List (Nat×Nat×Gms×Nat×Nat)
def ef.get:ef->Nat->Option Gm
 | [],_=>none
 | (f,g)::r,a=>if f=a then some g else ef.get r a
def eg.get:eg->Nat->Option (Nat×Gms×Nat×Nat)
 | [],_=>none
 | (d,x)::r,d'=>if d=d' then some x else eg.get r d'
def hh (e:ef) (hs:eg):Sem:=fun o st=>match o.op,o.dst with
 | .call c,some d=>match c.callee,c.args.toList with
   | .value (.func f),[x,y]=>match eg.get hs d with
     | some (a,g,b,ix)=>if a=f then rX g 1 b (st.ev (.tmp ix)) (st.ev x) (st.ev y) (some d) st else none
     | none=>match ef.get e f with
       | some g=>rV g (st.ev x) (st.ev y) (some d) st
       | none=>none
   | _,_=>none
 | _,_=>none
theorem ma {P:Program} {r:ef} {hs:eg} (h1: ∀f g,ef.get r f=some g->SoundM P f g) (h2: ∀d f g j ix,eg.get hs d=some (f,g,j,ix)->SoundMs P f g):dt P (hh r hs):=by
 intro o st p t b n w0 mine a w next Q q l
 unfold hh at b
 split at b
 ·rename_i c d m hd
  split at b
  ·rename_i f x y k h
   have h:c.args= #[x,y]:=by rw [<-Array.toList_inj,h]
   split at b
   ·rename_i s g j ix i
    split at b
    ·rename_i e
     subst e
     exact Wb (h2 _ _ _ _ _ i) (ix:= .tmp ix) m k h (by rw [hd];exact b) n q l
    ·simp at b
   ·split at b
    ·rename_i g i
     exact Wa (h1 _ _ i) m k h (by rw [hd];exact b) n q l
    ·simp at b
  ·simp at b
 ·simp at b
theorem mb {P:Program}: ∀f g,ef.get [] f=some g->SoundM P f g:=fun _ _ h=>by simp [ef.get]at h
theorem mc {P:Program} {f0:Nat} {g0:Gm} {r:ef} (b:SoundM P f0 g0) (h: ∀f g,ef.get r f=some g->SoundM P f g): ∀f g,ef.get ((f0,g0)::r) f=some g->SoundM P f g:=fun f g a=>by
 simp only [ef.get]at a
 split at a
 ·rename_i e;cases a;subst e;exact b
 ·exact h f g a
theorem me {P:Program}: ∀d f g a ix,eg.get [] d=some (f,g,a,ix)->SoundMs P f g:=fun _ _ _ _ _ h=>by simp [eg.get]at h
theorem Wd {P:Program} {d0 f0 c i:Nat} {g0:Gms} {r:eg} (e:SoundMs P f0 g0) (h: ∀d f g a ix,eg.get r d=some (f,g,a,ix)->SoundMs P f g): ∀d f g a ix,eg.get ((d0,f0,g0,c,i)::r) d=some (f,g,a,ix)->SoundMs P f g:=fun d f g a ix b=>by
 simp only [eg.get]at b
 split at b
 ·cases b;exact e
 ·exact h d f g a ix b
attribute [simp] ef.get eg.get hh rV rX dL gg du bM q8 LC.clamp LV.clamp Blk.clamp fD l9 rY
section
variable {ρ : Type} {r : St -> Option ρ} {e : List LV} {h : List Blk} {st : St}
@[simp] theorem iu : e2 r .ret st = r st := rfl
@[simp] theorem q4m : e2 r .normal st = r st := rfl
end
end Go.T
namespace Go.T
open Go
variable {ρ : Type}
def nT:Nat->Nat->ByteArray->ByteArray
 | 0,_,acc=>acc
 | f+1,k,acc=>if k=0 then acc else nT f (k / 10) (ByteArray.mk #[UInt8.ofNat (48+k % 10)]++acc)
def rZ (k:Int):ByteArray:=if k<=0 then ByteArray.mk #[109,48]else ByteArray.mk #[109]++nT 64 k.toNat ByteArray.empty
def bH {α:Type} (f:α->Int->α×Int):List α->Int->List α×Int
 | [],k=>([],k)
 | x::r,k=>((f x k).1::(bH f r (f x k).2).1,(bH f r (f x k).2).2)
def mkE:(t:Ty)->Val t->Int->Val t×Int
 | .int _,_,k=>(k,IntKind.i64.wrap (k+1))
 | .bool,_,k=>(decide (k.tmod 3=0),IntKind.i64.wrap (k+1))
 | .str,_,k=>(rZ k,IntKind.i64.wrap (k+1))
 | .hdr,v,k=>(v,k)
 | .slice _ t,xs,k=>bH (mkE t) xs k
 | .pair a b,v,k=>(((mkE a v.1 k).1,(mkE b v.2 (mkE a v.1 k).2).1),(mkE b v.2 (mkE a v.1 k).2).2)
def mkT:(t:Ty)->Val t->Int->Val t×Int
 | .int _,v,k=>(v,k)
 | .bool,v,k=>(v,k)
 | .str,v,k=>(v,k)
 | .hdr,v,k=>(v,k)
 | .slice _ t,xs,k=>bH (mkE t) xs k
 | .pair a b,v,k=>(((mkT a v.1 k).1,(mkT b v.2 (mkT a v.1 k).2).1),(mkT b v.2 (mkT a v.1 k).2).2)
theorem yZ (n:Int):IntKind.i64.wrap n<=9223372036854775807:=by rw [IntKind.wrap_i64];omega
theorem y0 {α:Type} {f:α->Int->α×Int} (a: ∀(x:α) (k:Int),k<=9223372036854775807->(f x k).2<=9223372036854775807): ∀(xs:List α) (k:Int),k<=9223372036854775807->(bH f xs k).2<=9223372036854775807
 | [],_,h=>h
 | x::r,k,h=>y0 a r _ (a x k h)
theorem j0: ∀(t:Ty) (x:Val t) (k:Int),k<=9223372036854775807->(mkE t x k).2<=9223372036854775807
 | .int _,_,k,_=>yZ _
 | .bool,_,k,_=>yZ _
 | .str,_,k,_=>yZ _
 | .hdr,_,_,h=>h
 | .slice _ t,xs,k,h=>y0 (j0 t) xs k h
 | .pair a b,v,k,h=>j0 b v.2 _ (j0 a v.1 k h)
theorem r0: ∀(t:Ty) (x:Val t) (k:Int),k<=9223372036854775807->(mkT t x k).2<=9223372036854775807
 | .int _,_,k,h=>h
 | .bool,_,k,h=>h
 | .str,_,k,h=>h
 | .hdr,_,_,h=>h
 | .slice _ t,xs,k,h=>y0 (j0 t) xs k h
 | .pair a b,v,k,h=>r0 b v.2 _ (r0 a v.1 k h)
theorem y1 {α:Type} {f:α->Int->α×Int}: ∀(xs:List α) (k:Int),(bH f xs k).1.length=xs.length
 | [],_=>rfl
 | x::r,k=>by simp [bH,y1 r]
theorem Kw {α:Type} {f:α->Int->α×Int} {F:Nat->Int->Int->List α->Option ρ} {kf:Int->List α->Option ρ} {len:Nat} (c:len<=1048576) (hle: ∀(x:α) (k:Int),k<=9223372036854775807->(f x k).2<=9223372036854775807)
 (b: ∀(n i:Nat) (k:Int) (s:List α) (h:i<s.length),k<=9223372036854775807->s.length=len->F (n+1) (i:Int) k s=F n (IntKind.i64.wrap ((i:Int)+1)) (f s[i] k).2 (s.set i (f s[i] k).1)) (a: ∀(n i:Nat) (k:Int) (s:List α),s.length=len->len<=i->F (n+1) (i:Int) k s=kf k s):
 ∀(n:Nat) (P r:List α) (k:Int),k<=9223372036854775807->P.length+r.length=len->r.length<n->F n (P.length:Int) k (P++r)=kf (bH f r k).2 (P++(bH f r k).1)
 | 0,_,_,_,_,_,h=>by omega
 | n+1,P,[],k,_,hlen,h=>by
   rw [a n P.length k _ (by simpa using hlen) (by simp at hlen;omega)];rfl
 | n+1,P,x::r,k,hk,hlen,h=>by
   have g:P.length<(P++x::r).length:=by simp
   have j:(P++x::r).length=len:=by rw [List.length_append];exact hlen
   rw [b n P.length k _ g hk j,l8 (n:=len) (by omega) c]
   have d:(P++x::r)[P.length]=x:=by simp
   have e:(P++x::r).set P.length (f x k).1=(P++[(f x k).1])++r:=by simp
   rw [d,e]
   have:=Kw c hle b a n (P++[(f x k).1]) r (f x k).2 (hle x k hk) (by simp at hlen ⊢;omega) (by simp at h;omega)
   simp only [List.length_append,List.length_cons,List.length_nil]at this
   rw [this]
   simp [bH]
theorem Kx {α:Type} {f:α->Int->α×Int} {F:Nat->Int->Int->List α->Option ρ} {kf:Int->List α->Option ρ} (xs:List α) (c:xs.length<=1048576) (hle: ∀(x:α) (k:Int),k<=9223372036854775807->(f x k).2<=9223372036854775807)
 (b: ∀(n i:Nat) (k:Int) (s:List α) (h:i<s.length),k<=9223372036854775807->s.length=xs.length->F (n+1) (i:Int) k s=F n (IntKind.i64.wrap ((i:Int)+1)) (f s[i] k).2 (s.set i (f s[i] k).1)) (a: ∀(n i:Nat) (k:Int) (s:List α),s.length=xs.length->xs.length<=i->F (n+1) (i:Int) k s=kf k s)
 (n:Nat) (k:Int) (hk:k<=9223372036854775807) (d:xs.length<n):F n 0 k xs=kf (bH f xs k).2 (bH f xs k).1:=by
 have:=Kw c hle b a n [] xs k hk (by simp) d
 simpa using this
theorem Ky {t:Ty} {F:Nat->Int->Int->List (Val (hd t))->List (Val t)->Option ρ} {kf:Int->List (Val (hd t))->List (Val t)->Option ρ} {hs:List (Val (hd t))} (xs:List (Val t)) (j:hs.length<=1048576)
 (f: ∀(n i:Nat) (k:Int) (fs vs:List (Val t)) (c:i<fs.length) (w:i<hs.length) (z:i<vs.length),k<=9223372036854775807->fs.length=hs.length->vs.length=hs.length->bW t vs[i]=bW t fs[i]->(∃B:i<xs.length,fs[i]=xs[i])->
   ∃x,bW t x=bW t (mkE t fs[i] k).1/\F (n+1) (i:Int) k (qZ t fs hs) vs=F n (IntKind.i64.wrap ((i:Int)+1)) (mkE t fs[i] k).2 (qZ t (fs.set i (mkE t fs[i] k).1) hs) (vs.set i x))
 (e: ∀(n i:Nat) (k:Int) (ys:List (Val (hd t))) (vs:List (Val t)),ys.length=hs.length->hs.length<=i->F (n+1) (i:Int) k ys vs=kf k ys vs):
 ∀(n:Nat) (P r vs:List (Val t)) (k:Int),k<=9223372036854775807->P.length+r.length=hs.length->r=xs.drop P.length->r.length<n->vs.map (bW t)=(P++r).map (bW t)->
  ∃b,b.map (bW t)=(P++(bH (mkE t) r k).1).map (bW t)/\F n (P.length:Int) k (qZ t (P++r) hs) vs=kf (bH (mkE t) r k).2 (qZ t (P++(bH (mkE t) r k).1) hs) b
 | 0,_,_,_,_,_,_,_,h,_=>by omega
 | n+1,P,[],vs,k,_,hlen,_,h,hm=>⟨vs,hm,by
    rw [e n P.length k _ vs (by simp [qZ];simp at hlen;omega) (by simp at hlen;omega)];rfl⟩
 | n+1,P,x::r,vs,k,hk,hlen,a,h,hm=>by
   have A:vs.length=(P++x::r).length:=by have:=congrArg List.length hm;simpa using this
   have c:P.length<(P++x::r).length:=by simp
   have q:(P++x::r).length=hs.length:=by rw [List.length_append];exact hlen
   have d:(P++x::r)[P.length]=x:=by simp
   have u:bW t vs[P.length]=bW t (P++x::r)[P.length]:=by
    have:=congrArg (fun l=>l[P.length]?) hm
    simp only [List.getElem?_map,List.getElem?_eq_getElem (show P.length<vs.length by omega),List.getElem?_eq_getElem c,Option.map_some,Option.some.injEq]at this
    exact this
   have g:P.length<xs.length:=by
    rcases Nat.lt_or_ge P.length xs.length with h' | h'
    ·exact h'
    ·rw [List.drop_eq_nil_of_le h']at a;simp at a
   rw [cL g]at a
   obtain ⟨v,s⟩:=List.cons.inj a
   obtain ⟨y,m,p⟩:=f n P.length k (P++x::r) vs c (by omega) (by omega) hk q (by omega) u ⟨g,by rw [d,v]⟩
   rw [p,l8 (n:=hs.length) (by omega) j]
   rw [d]at m ⊢
   have o:(P++x::r).set P.length (mkE t x k).1=(P++[(mkE t x k).1])++r:=by simp
   rw [o]
   obtain ⟨b,h1,h2⟩:=Ky xs j f e n (P++[(mkE t x k).1]) r (vs.set P.length y) (mkE t x k).2 (j0 t x k hk) (by simp at hlen ⊢;omega) (by rw [s];simp) (by simp at h;omega) (by
    rw [List.map_set,hm,m]
    simp)
   simp only [List.length_append,List.length_cons,List.length_nil]at h2
   refine ⟨b,?_,?_⟩
   ·rw [h1];simp [bH]
   ·rw [h2];simp [bH]
theorem We {t:Ty} {F:Nat->Int->Int->List (Val (hd t))->List (Val t)->Option ρ} {kf:Int->List (Val (hd t))->List (Val t)->Option ρ} {hs:List (Val (hd t))} (xs:List (Val t)) (g:xs.length=hs.length) (e:qZ t xs hs=hs) (d:hs.length<=1048576)
 (c: ∀(n i:Nat) (k:Int) (fs vs:List (Val t)) (j:i<fs.length) (h:i<hs.length) (l:i<vs.length),k<=9223372036854775807->fs.length=hs.length->vs.length=hs.length->bW t vs[i]=bW t fs[i]->(∃m:i<xs.length,fs[i]=xs[i])->
   ∃x,bW t x=bW t (mkE t fs[i] k).1/\F (n+1) (i:Int) k (qZ t fs hs) vs=F n (IntKind.i64.wrap ((i:Int)+1)) (mkE t fs[i] k).2 (qZ t (fs.set i (mkE t fs[i] k).1) hs) (vs.set i x))
 (b: ∀(n i:Nat) (k:Int) (ys:List (Val (hd t))) (vs:List (Val t)),ys.length=hs.length->hs.length<=i->F (n+1) (i:Int) k ys vs=kf k ys vs) (n:Nat) (k:Int) (hk:k<=9223372036854775807) (f:xs.length<n):
 ∃a,a.map (bW t)=(bH (mkE t) xs k).1.map (bW t)/\F n 0 k hs xs=kf (bH (mkE t) xs k).2 (qZ t (bH (mkE t) xs k).1 hs) a:=by
 obtain ⟨a,h1,h2⟩:=Ky xs d c b n [] xs xs k hk (by simpa using g) rfl f rfl
 rw [List.nil_append,e]at h2
 exact ⟨a,by simpa using h1,by simpa using h2⟩
theorem r1 {t:Ty} {fs:List (Val t)} {hs:List (Val (hd t))} (h:fs.length=hs.length):(qZ t fs hs).length=hs.length:=by simp [qZ,h]
theorem y2 {t:Ty} {fs:List (Val t)} {hs:List (Val (hd t))} {i:Nat} (h:i<(qZ t fs hs).length) (h1:i<fs.length) (h2:i<hs.length):(qZ t fs hs)[i]=bC t fs[i] hs[i]:=by
 exact List.getElem_zipWith
theorem Wf {t:Ty} {fs:List (Val t)} {hs:List (Val (hd t))} {i:Nat} (h1:i<fs.length) (h2:i<hs.length) (a:fs.length=hs.length) (d:Val (hd t)):(qZ t fs hs).getD (Int.toNat (i:Int)) d=bC t fs[i] hs[i]:=by
 have h:i<(qZ t fs hs).length:=by rw [r1 a];exact h2
 rw [qB h,y2 h h1 h2]
theorem Wg {t:Ty} {fs:List (Val t)} {hs:List (Val (hd t))} {i:Nat} {x:Val t} (h2:i<hs.length) (b:fs.length=hs.length):(qZ t fs hs).set i (bC t x hs[i])=qZ t (fs.set i x) hs:=by
 have d:=r1 b
 have f:(qZ t (fs.set i x) hs).length=hs.length:=r1 (by simpa using b)
 apply List.ext_getElem (by rw [List.length_set,d,f])
 intro j g c
 have a:j<hs.length:=by omega
 rw [y2 c (by simp;omega) a,List.getElem_set,List.getElem_set]
 by_cases e:i=j
 ·subst e;simp
 ·rw [if_neg e,if_neg e,y2 (by omega) (by omega) a]
end Go.T
namespace Go.T
open Go
variable {ρ : Type}
def ct {α:Type} (f:α->Nat):List α->Nat
 | []=>0
 | x::r=>f x+ct f r
def bN:(t:Ty)->Val t->Nat
 | .int _,_=>1
 | .bool,_=>1
 | .str,_=>1
 | .hdr,_=>0
 | .slice _ t,xs=>ct (bN t) xs
 | .pair a b,v=>bN a v.1+bN b v.2
def bJ:(t:Ty)->Val t->Nat
 | .int _,_=>0
 | .bool,_=>0
 | .str,_=>0
 | .hdr,_=>0
 | .slice _ t,xs=>ct (bN t) xs
 | .pair a b,v=>bJ a v.1+bJ b v.2
theorem y3 {α:Type} {f:α->Int->α×Int} {c:α->Nat} (a: ∀(x:α) (k:Int),0<=k->k+c x<=4611686018427387904->(f x k).2=k+c x): ∀(xs:List α) (k:Int),0<=k->k+ct c xs<=4611686018427387904->(bH f xs k).2=k+ct c xs
 | [],k,_,_=>by simp [bH,ct]
 | x::r,k,b,d=>by
   simp only [ct]at d
   have h1:=a x k b (by omega)
   have h2:=y3 a r (f x k).2 (by omega) (by omega)
   simp only [bH,ct]
   rw [h2];omega
theorem nU: ∀(t:Ty) (x:Val t) (k:Int),0<=k->k+bN t x<=4611686018427387904->(mkE t x k).2=k+bN t x
 | .int _,_,k,d,c=>by simp only [bN]at c;show IntKind.i64.wrap (k+1)=_;rw [bn (by omega) (by omega)];rfl
 | .bool,_,k,d,c=>by simp only [bN]at c;show IntKind.i64.wrap (k+1)=_;rw [bn (by omega) (by omega)];rfl
 | .str,_,k,d,c=>by simp only [bN]at c;show IntKind.i64.wrap (k+1)=_;rw [bn (by omega) (by omega)];rfl
 | .hdr,_,k,_,_=>by simp [mkE,bN]
 | .slice _ t,xs,k,d,c=>y3 (fun x k d c=>nU t x k d c) xs k d c
 | .pair a b,v,k,d,c=>by
   simp only [bN]at c ⊢
   have h1:=nU a v.1 k d (by omega)
   have h2:=nU b v.2 (mkE a v.1 k).2 (by omega) (by omega)
   show (mkE b v.2 (mkE a v.1 k).2).2=_
   rw [h2];omega
theorem iv: ∀(t:Ty) (x:Val t) (k:Int),0<=k->k+bJ t x<=4611686018427387904->(mkT t x k).2=k+bJ t x
 | .int _,_,k,c,d=>by simp [mkT,bJ]
 | .bool,_,k,c,d=>by simp [mkT,bJ]
 | .str,_,k,c,d=>by simp [mkT,bJ]
 | .hdr,_,k,_,_=>by simp [mkT,bJ]
 | .slice _ t,xs,k,c,d=>y3 (fun x k c d=>nU t x k c d) xs k c d
 | .pair a b,v,k,c,d=>by
   simp only [bJ]at d ⊢
   have h1:=iv a v.1 k c (by omega)
   have h2:=iv b v.2 (mkT a v.1 k).2 (by omega) (by omega)
   show (mkT b v.2 (mkT a v.1 k).2).2=_
   rw [h2];omega
theorem y4 {α:Type} {f:α->Int->α×Int} (a: ∀x k,f (f x k).1 k=f x k): ∀(xs:List α) (k:Int),bH f (bH f xs k).1 k=bH f xs k
 | [],_=>rfl
 | x::r,k=>by
   simp only [bH,a]
   rw [y4 a r]
theorem r2: ∀(t:Ty) (x:Val t) (k:Int),mkE t (mkE t x k).1 k=mkE t x k
 | .int _,_,_=>rfl
 | .bool,_,_=>rfl
 | .str,_,_=>rfl
 | .hdr,_,_=>rfl
 | .slice _ t,xs,k=>y4 (r2 t) xs k
 | .pair a b,v,k=>by
   have h1:=r2 a v.1 k
   have h2:=r2 b v.2 (mkE a v.1 k).2
   simp only [mkE,h1,h2]
theorem r3: ∀(t:Ty) (x:Val t) (k:Int),mkT t (mkT t x k).1 k=mkT t x k
 | .int _,_,_=>rfl
 | .bool,_,_=>rfl
 | .str,_,_=>rfl
 | .hdr,_,_=>rfl
 | .slice _ t,xs,k=>y4 (r2 t) xs k
 | .pair a b,v,k=>by
   have h1:=r3 a v.1 k
   have h2:=r3 b v.2 (mkT a v.1 k).2
   simp only [mkT,h1,h2]
theorem y5 {α:Type} {f:α->Int->α×Int} {c:α->Nat} (a: ∀x k,c (f x k).1=c x): ∀(xs:List α) (k:Int),ct c (bH f xs k).1=ct c xs
 | [],_=>rfl
 | x::r,k=>by simp [bH,ct,a,y5 a r]
theorem r4: ∀(t:Ty) (x:Val t) (k:Int),bN t (mkE t x k).1=bN t x
 | .int _,_,_=>rfl
 | .bool,_,_=>rfl
 | .str,_,_=>rfl
 | .hdr,_,_=>rfl
 | .slice _ t,xs,k=>y5 (r4 t) xs k
 | .pair a b,v,k=>by simp only [mkE,bN];rw [r4 a,r4 b]
theorem y6: ∀(t:Ty) (x:Val t) (k:Int),bJ t (mkT t x k).1=bJ t x
 | .int _,_,_=>rfl
 | .bool,_,_=>rfl
 | .str,_,_=>rfl
 | .hdr,_,_=>rfl
 | .slice _ t,xs,k=>y5 (r4 t) xs k
 | .pair a b,v,k=>by simp only [mkT,bJ];rw [y6 a,y6 b]
theorem Wh (k:Int):(rZ k).size<=65:=by
 have a: ∀f n acc,(nT f n acc).size<=acc.size+f:=by
  intro f
  induction f with
  | zero=>intro n acc;simp [nT]
  | succ f b=>
    intro n acc
    simp only [nT]
    split
    ·omega
    ·have:=b (n / 10) (ByteArray.mk #[UInt8.ofNat (48+n % 10)]++acc)
     rw [ByteArray.size_append]at this
     have e:(ByteArray.mk #[UInt8.ofNat (48+n % 10)]).size=1:=rfl
     omega
 unfold rZ
 split
 ·decide
 ·have:=a 64 k.toNat ByteArray.empty
  rw [ByteArray.size_append]
  have e:(ByteArray.mk #[109]).size=1:=rfl
  have c:ByteArray.empty.size=0:=rfl
  omega
theorem y7 {α:Type} {f:α->Int->α×Int} {B:α->Prop} (b: ∀x k,B x->B (f x k).1): ∀(xs:List α) (k:Int),(∀x∈xs,B x)-> ∀x∈(bH f xs k).1,B x
 | [],_,_=>by simp [bH]
 | x::r,k,h=>by
   intro y a
   simp only [bH,List.mem_cons]at a
   rcases a with rfl | a
   ·exact b x k (h x (by simp))
   ·exact y7 b r _ (fun z c=>h z (by simp [c])) y a
theorem r5: ∀(t:Ty) (x:Val t) (k:Int),Bd t x->Bd t (mkE t x k).1
 | .int _,_,_,_=>trivial
 | .bool,_,_,_=>trivial
 | .str,_,k,_=>by have:=Wh k;show (rZ k).size<=1048576;omega
 | .hdr,_,_,_=>trivial
 | .slice _ t,xs,k,h=>⟨by show (bH (mkE t) xs k).1.length<=_;rw [y1];exact h.1,y7 (r5 t) xs k h.2⟩
 | .pair a b,v,k,h=>⟨r5 a _ _ h.1,r5 b _ _ h.2⟩
theorem y8: ∀(t:Ty) (x:Val t) (k:Int),Bd t x->Bd t (mkT t x k).1
 | .int _,_,_,_=>trivial
 | .bool,_,_,_=>trivial
 | .str,_,_,h=>h
 | .hdr,_,_,_=>trivial
 | .slice _ t,xs,k,h=>⟨by show (bH (mkE t) xs k).1.length<=_;rw [y1];exact h.1,y7 (r5 t) xs k h.2⟩
 | .pair a b,v,k,h=>⟨y8 a _ _ h.1,y8 b _ _ h.2⟩
def y9 (t:Ty) (x:Val t) (k:Int):Prop:=(mkT t x k).1=x/\Bd t x/\0<=k/\k+bJ t x<=4611686018427387904
theorem Kz {t:Ty} {F:Nat->Int->Int->Option ρ} {kf:Int->Option ρ} {xs:List (Val t)} (g:xs.length<=1048576)
 (f: ∀(n i:Nat) (k:Int) (h:i<xs.length),(mkE t xs[i] k).1=xs[i]->0<=k->k+bN t xs[i]<=4611686018427387904->F (n+1) (i:Int) k=F n (IntKind.i64.wrap ((i:Int)+1)) (mkE t xs[i] k).2) (d: ∀(n i:Nat) (k:Int),xs.length<=i->F (n+1) (i:Int) k=kf k):
 ∀(n i:Nat) (r:List (Val t)) (k:Int),r=xs.drop i->i<=xs.length->r.length<n->(bH (mkE t) r k).1=r->0<=k->k+ct (bN t) r<=4611686018427387904->F n (i:Int) k=kf (bH (mkE t) r k).2
 | 0,_,_,_,_,_,h,_,_,_=>by omega
 | n+1,i,[],k,a,l,_,_,_,_=>by
   have:xs.length<=i:=by
    rcases Nat.lt_or_ge i xs.length with h' | h'
    ·rw [cL h']at a;exact absurd a (by intro e;cases e)
    ·exact h'
   rw [d n i k this];rfl
 | n+1,i,x::r,k,a,l,h,hm,c,j=>by
   have b:i<xs.length:=by
    rcases Nat.lt_or_ge i xs.length with h' | h'
    ·exact h'
    ·rw [List.drop_eq_nil_of_le h']at a;simp at a
   rw [cL b]at a
   obtain ⟨rfl,rfl⟩:=List.cons.inj a
   simp only [bH,List.cons.injEq]at hm
   simp only [ct]at j
   have hk:=nU t xs[i] k c (by omega)
   rw [f n i k b hm.1 c (by omega),l8 b g]
   exact Kz g f d n (i+1) _ (mkE t xs[i] k).2 rfl (by omega) (by simp at h ⊢;omega) hm.2 (by omega) (by omega)
theorem KA {t:Ty} {F:Nat->Int->Int->Option ρ} {kf:Int->Option ρ} (xs:List (Val t)) (e:xs.length<=1048576)
 (c: ∀(n i:Nat) (k:Int) (h:i<xs.length),(mkE t xs[i] k).1=xs[i]->0<=k->k+bN t xs[i]<=4611686018427387904->F (n+1) (i:Int) k=F n (IntKind.i64.wrap ((i:Int)+1)) (mkE t xs[i] k).2) (b: ∀(n i:Nat) (k:Int),xs.length<=i->F (n+1) (i:Int) k=kf k)
 (n:Nat) (k:Int) (f:xs.length<n) (hm:(bH (mkE t) xs k).1=xs) (a:0<=k) (d:k+ct (bN t) xs<=4611686018427387904):F n 0 k=kf (bH (mkE t) xs k).2:=by
 simpa using Kz e c b n 0 xs k rfl (by omega) f hm a d
end Go.T
namespace Go.T
open Go
def hi:Ty->Bool
 | .slice _ t=>decide (t.sz<=64)&&hi t
 | .pair a b=>hi a&&hi b
 | _=>true
theorem za {α:Type} {f:α->Int->Int} {c:α->Nat} {s:Nat} (hs:s<=64) (hle: ∀(x:α) (n:Int),0<=n->f x n<=n) (b: ∀(x:α) (n:Int),0<=n->0<=f x n->(c x:Int)<=s+64*(n - f x n)): ∀(xs:List α) (n:Int),0<=n->0<=szL f xs n->(ct c xs:Int)<=64*xs.length+64*(n - szL f xs n)
 | [],n,a,_=>by simp [ct,szL]
 | x::xs,n,a,h=>by
   simp only [szL]at h ⊢
   split at h
   ·omega
   ·rename_i d
    rw [if_neg d]
    have h1:=b x n a (by omega)
    have h2:=za hs hle b xs (f x n) (by omega) h
    simp only [ct,List.length_cons]
    omega
theorem r6: ∀(t:Ty) (x:Val t) (n:Int),hi t=true->0<=n->0<=szV t x n->(bN t x:Int)<=t.sz+64*(n - szV t x n)
 | .int _,_,n,_,_,_=>by simp [bN,szV,Ty.sz]
 | .bool,_,n,_,_,_=>by simp [bN,szV,Ty.sz]
 | .hdr,_,n,_,_,_=>by simp [bN,szV,Ty.sz]
 | .str,s,n,_,d,h=>by
   simp only [szV]at h ⊢
   split at h
   ·omega
   ·rename_i i
    rw [if_neg i]
    simp only [bN,Ty.sz];omega
 | .slice e t,xs,n,g,d,h=>by
   simp only [hi,Bool.and_eq_true,decide_eq_true_eq]at g
   simp only [szV]at h ⊢
   split at h
   ·omega
   ·rename_i i
    rw [if_neg i]
    have:=za (f:=szV t) (c:=bN t) g.1 (fun x n d=>(eY t x n d).1) (fun x n d h=>r6 t x n g.2 d h) xs (n - xs.length) (by omega) h
    simp only [bN,Ty.sz];omega
 | .pair a b,v,n,g,d,h=>by
   simp only [hi,Bool.and_eq_true]at g
   simp only [szV]at h ⊢
   split at h
   ·omega
   ·rename_i i
    rw [if_neg i]
    have h1:=r6 a v.1 n g.1 d (by omega)
    have h2:=r6 b v.2 (szV a v.1 n) g.2 (by omega) h
    simp only [bN,Ty.sz];omega
theorem zb: ∀(t:Ty) (x:Val t) (n:Int),hi t=true->0<=n->0<=szV t x n->(bJ t x:Int)<=64*(n - szV t x n)
 | .int _,_,n,_,_,_=>by simp [bJ,szV]
 | .bool,_,n,_,_,_=>by simp [bJ,szV]
 | .hdr,_,n,_,_,_=>by simp [bJ,szV]
 | .str,s,n,_,d,h=>by
   have:=(eY .str s n d).1
   simp only [bJ];omega
 | .slice e t,xs,n,g,d,h=>by
   simp only [hi,Bool.and_eq_true,decide_eq_true_eq]at g
   simp only [szV]at h ⊢
   split at h
   ·omega
   ·rename_i i
    rw [if_neg i]
    have:=za (f:=szV t) (c:=bN t) g.1 (fun x n d=>(eY t x n d).1) (fun x n d h=>r6 t x n g.2 d h) xs (n - xs.length) (by omega) h
    simp only [bJ];omega
 | .pair a b,v,n,g,d,h=>by
   simp only [hi,Bool.and_eq_true]at g
   simp only [szV]at h ⊢
   split at h
   ·omega
   ·rename_i i
    rw [if_neg i]
    have h1:=zb a v.1 n g.1 d (by omega)
    have h2:=zb b v.2 (szV a v.1 n) g.2 (by omega) h
    simp only [bJ];omega
theorem nV {α:Type} {f:α->Nat} {c:Nat}: ∀(xs:List α),(∀x∈xs,f x<=c)->ct f xs<=xs.length*c
 | [],_=>by simp [ct]
 | x::r,h=>by
   have h1:=h x (by simp)
   have h2:=nV r fun y a=>h y (by simp [a])
   simp only [ct,List.length_cons,Nat.add_mul]
   omega
end Go.T
namespace Go.T
open Go
variable {ρ α β : Type}
theorem mf {f:α->β} {k:List β->Option ρ}: ∀(xs:List α) (i:Nat) (s:List β),s.length+xs.length<=1048576->
 q5 (fun _ x (s:List β) K=>chk (s.length+[f x].length<=1048576) (K (s++[f x]))) i xs s k=k (s++xs.map f)
 | [],_,_,_=>by rw [q5];simp
 | x::xs,i,s,h=>by
   simp only [List.length_cons]at h
   rw [q5]
   dsimp only
   rw [qc (by simp;omega),mf xs _ _ (by simp;omega)];simp
end Go.T
namespace Go.T
open Go
structure Gsr where
 e:Nat
 t:Ty
 cmp:FuncId
 pre:List (Val t)->Prop
 fv:List (Val t)->List (Val t)
structure SoundSr (P:Program) (f:FuncId) (g:Gsr):Prop where
 enters:ez P f
 runs: ∀(x:List (Val g.t)),g.pre x-> ∀(w:World) (B:List Nat) (u:Value),M w (.slice g.e g.t) x [u] B->B.Nodup->
  Calls P f #[u,.func (.func g.cmp) #[] #[]] w fun e w'=>e= .returned (.tuple #[])/\Fr (fun b=>b∈B) w w'/\ ∃B',M w' (.slice g.e g.t) (g.fv x) [u] B'/\B'.Nodup/\ ∀b∈B',b∈B∨w.heap.size<=b
def zc (g:Gsr) (id:Nat) (d:Option Tmp) (st:St):Option Blk->Res
 | some (.row e t xs true true _)=>if a:e=g.e/\t=g.t then some (g.pre (a.2▸xs),St.put ⟨st.env.map (LV.clamp (los st.heap st.heap.length [id])),dL (st.heap.map (Blk.clamp (los st.heap st.heap.length [id]))) [id] [.row g.e g.t (g.fv (a.2▸xs)) true true 0]⟩ d (.tup []))else none
 | _=>none
def r7 (g:Gsr) (x y:LV) (d:Option Tmp) (st:St):Res:=match x,y with
 | .one (.own id),.one (.fn c)=>if c=g.cmp then zc g id d st st.heap[id]? else none
 | _,_=>none
section
variable {P : Program} {w0 w w' : World} {mine : Mine} {m m' : Mp} {h : List Blk} {st : St} {a : Act} {o : Oper} {next : Act -> World -> Prop} {Q : Exit -> Act -> World -> Prop}
theorem Wi {f:FuncId} {g:Gsr} (S:SoundSr P f g) {c:Call} {x y:Operand} (W:o.op= .call c) (G:c.callee= .value (.func f)) (F:c.args= #[x,y]) {p:Prop} {s:St} (hs:r7 g (st.ev x) (st.ev y) o.dst st=some (p,s)) (Z:p)
 (aa:R w0 mine st a w) (U: ∀l w',R w0 mine s l w'->next l w'):o.wp P a w next Q:=by
 obtain ⟨I,m,H,he⟩:=aa
 have h:=R.ev H he x
 have r:=R.ev H he y
 unfold r7 at hs
 split at hs
 ·rename_i id k ex z
  rw [ex]at h
  rw [z]at r
  have ae:a.eval y= .func (.func k) #[] #[]:=r
  split at hs
  ·rename_i hk
   subst hk
   unfold zc at hs
   split at hs
   ·rename_i e t xs n d
    split at hs
    ·rename_i N
     obtain ⟨rfl,rfl⟩:=N
     simp only [Option.some.injEq,Prod.mk.injEq]at hs
     obtain ⟨rfl,rfl⟩:=hs
     have ad:a.eval x=m.val id:=by have h:C w m st.heap (.own id) (a.eval x):=h;simp only [C,d]at h;exact h
     obtain ⟨inner,X,O,hle⟩:=H.br id _ d
     have D:M w (.slice g.e g.t) xs [m.val id] (fpB m id (.row g.e g.t xs true true n)):=⟨m.val id,inner,m.nst id,rfl,rfl,X,O⟩
     have V:=H.nd id _ d
     unfold Oper.wp
     rw [lV W G S.enters,Oper.upon_enter]
     have ac:c.args.map a.eval= #[m.val id,.func (.func g.cmp) #[] #[]]:=by rw [F];simp [ae,ad]
     rw [ac]
     refine Calls.mono (S.runs xs Z w _ _ D V) fun e w' J=> ?_
     obtain ⟨rfl,L,B',E,B,A⟩:=J
     have q:qY m st.heap [id]=fpB m id (.row g.e g.t xs true true n):=by simp [qY,d]
     obtain ⟨v,af,i,ab,rfl,Y,T⟩:=E
     obtain rfl:m.val id=v:=by simpa using ab
     obtain ⟨u,K⟩:=Kq H (ids:=[id]) (by simp) (bl:=[.row g.e g.t (g.fv xs) true true 0]) (rl:=[(m.val id,i)]) rfl (fun k id' hk=>by
            cases k with
            | zero=>simp at hk;subst hk;exact ⟨_,_,_,_,_,_,d,rfl⟩
            | succ k=>simp at hk) (.cons ⟨_,_,_,af,rfl,Y,T⟩ .nil) (by simpa [qU.fp] using B) (fun b j=>by
            have j:b∈(m.val id).ownBlock.toList++i:=by simpa [qU.fp] using j
            rw [q];exact A b j) (fun k id' hk=>by
            cases k with
            | zero=>simp at hk;subst hk;exact ⟨_,rfl,rfl⟩
            | succ k=>simp at hk) (by rw [q];exact L)
     refine U _ _ ⟨by rw [c0];exact I,m.marks [id] [(m.val id,i)],?_,?_⟩
     ·rw [St.put_heap];exact u
     ·rw [St.put_heap,St.put_env]
      exact dY (yN K he) o.dst ⟨#[],rfl,.nil⟩
    ·simp at hs
   ·simp at hs
  ·simp at hs
 ·simp at hs
end
structure SoundGr (P:Program) (f:FuncId) (e:Nat) (t:Ty):Prop where
 enters:ez P f
 runs: ∀(n:Nat),n<=1048576-> ∀(w:World),Calls P f #[.slice none 0 0,.int .i64 n] w fun e' w'=> ∃v,e'= .returned v/\Fr (fun _=>False) w w'/\w'.ownsRow 0 e t.sz v 0 []/\ ∀b,v.ownBlock=some b->w.heap.size<=b
def r8 (e:Nat) (t:Ty) (x y:LV) (d:Option Tmp) (st:St):Res:=match x,y with
 | .one .nils,.one (.int .i64 n)=>some (0<=n/\n<=1048576,St.mk (st.put d (.one (.own st.heap.length))).env (st.heap++[.row e t [] true true 0]))
 | _,_=>none
section
variable {P : Program} {w0 w w' : World} {mine : Mine} {m m' : Mp} {h : List Blk} {st : St} {a : Act} {o : Oper} {next : Act -> World -> Prop} {Q : Exit -> Act -> World -> Prop}
theorem Wj {f:FuncId} {e:Nat} {t:Ty} (S:SoundGr P f e t) {c:Call} {x y:Operand} (E:o.op= .call c) (u:c.callee= .value (.func f)) (s:c.args= #[x,y]) {p:Prop} {k:St} (hs:r8 e t (st.ev x) (st.ev y) o.dst st=some (p,k)) (N:p)
 (I:R w0 mine st a w) (D: ∀d w',R w0 mine k d w'->next d w'):o.wp P a w next Q:=by
 obtain ⟨z,m,H,he⟩:=I
 have i:=R.ev H he x
 have j:=R.ev H he y
 unfold r8 at hs
 split at hs
 ·rename_i n ex r
  rw [ex]at i
  rw [r]at j
  have L:a.eval x= .slice none 0 0:=i
  have M:a.eval y= .int .i64 n:=j
  simp only [Option.some.injEq,Prod.mk.injEq]at hs
  obtain ⟨rfl,rfl⟩:=hs
  unfold Oper.wp
  rw [lV E u S.enters,Oper.upon_enter]
  have K:c.args.map a.eval= #[.slice none 0 0,.int .i64 (n.toNat:Int)]:=by rw [s];simp [M,L];omega
  rw [K]
  refine Calls.mono (S.runs n.toNat (by omega) w) fun e' w' A=> ?_
  obtain ⟨v,rfl,B,G,C⟩:=A
  have h:F2 (eb w') [.row e t [] true true 0] [((v,[]):qU)]:= .cons ⟨e,t,[],[],rfl,G,rfl,rfl⟩ .nil
  obtain ⟨q,F,J⟩:=HR.results H B h (by simp only [qU.fp,List.flatMap_cons,List.flatMap_nil,List.append_nil];cases v.ownBlock<;>simp) (fun b g=>by
   simp [qU.fp]at g
   exact C b g)
  refine D _ _ ⟨by rw [c0];exact z,_,q,?_⟩
  show F2 (V w' _ _) (st.put o.dst _).env _
  rw [St.put_env]
  exact dY (bV F J he) o.dst (l:= .one (.own st.heap.length)) (nC h (c:= .own st.heap.length) ⟨0,_,rfl,rfl,rfl⟩).1
 ·simp at hs
end
inductive Own1
 | sr (g:Gsr)
 | gr (e:Nat) (t:Ty)
def Own1.Ok (P:Program) (f:FuncId):Own1->Prop
 | .sr g=>SoundSr P f g
 | .gr e t=>SoundGr P f e t
abbrev Srs:=List (Nat×Own1)
def Srs.get:Srs->Nat->Option Own1
 | [],_=>none
 | (f,g)::r,a=>if f=a then some g else Srs.get r a
def KC (g:Own1) (x y:LV) (d:Option Tmp) (st:St):Res:=match g with
 | .sr g=>r7 g x y d st
 | .gr e t=>r8 e t x y d st
def r9 (sr:Srs):Sem:=fun o st=>match o.op with
 | .call c=>match c.callee,c.args.toList with
   | .value (.func f),[x,y]=>match Srs.get sr f with
     | some g=>KC g (st.ev x) (st.ev y) o.dst st
     | none=>none
   | _,_=>none
 | _=>none
theorem Wk {P:Program} {sr:Srs} (h1: ∀f g,Srs.get sr f=some g->g.Ok P f):dt P (r9 sr):=by
 intro o st p n b k w0 mine a w next Q l i
 unfold r9 at b
 split at b
 ·rename_i c j
  split at b
  ·rename_i f x y h d
   split at b
   ·rename_i g m
    have d:c.args= #[x,y]:=by rw [<-Array.toList_inj,d]
    have:=h1 _ _ m
    cases g with
    | sr g=>exact Wi this j h d b k l i
    | gr e t=>exact Wj this j h d b k l i
   ·simp at b
  ·simp at b
 ·simp at b
theorem Wl {P:Program}: ∀f g,Srs.get [] f=some g->g.Ok P f:=fun _ _ h=>by simp [Srs.get]at h
theorem Wm {P:Program} {f0:Nat} {g0:Own1} {r:Srs} (b:g0.Ok P f0) (h: ∀f g,Srs.get r f=some g->g.Ok P f): ∀f g,Srs.get ((f0,g0)::r) f=some g->g.Ok P f:=fun f g a=>by
 simp only [Srs.get]at a
 split at a
 ·rename_i e;cases a;subst e;exact b
 ·exact h f g a
@[simp] theorem q4j {F : List Nat} {t : Ty} {hs : List (Val (hd t))} {vs : List (Val t)} {r : List Blk} : List.find? gY (.nst F t hs vs :: r) = some (.nst F t hs vs) := rfl
@[simp] theorem q52 {cs : List LC} {r : List Blk} : List.find? gY (.box cs :: r) = List.find? gY r := rfl
@[simp] theorem q30 {e : Nat} {t : Ty} {xs : List (Val t)} {dp mt : Bool} {n : Nat} {r : List Blk} : List.find? gY (.row e t xs dp mt n :: r) = List.find? gY r := rfl
@[simp] theorem q3V {r : List Blk} : List.find? gY (.dead :: r) = List.find? gY r := rfl
attribute [simp] Srs.get r9 KC r7 zc r8 gY gX lS lR lQ fu fU yo J0 l4
end Go.T
