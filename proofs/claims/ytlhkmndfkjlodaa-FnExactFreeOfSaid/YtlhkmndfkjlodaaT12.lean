/- T: copy of a shared slice of whole numbers into an own row. -/
import Derived.Test.YtlhkmndfkjlodaaT11
import Derived.Laws.CopyOwn
set_option linter.unusedSimpArgs false
set_option linter.unusedVariables false
namespace Go.T
open Go
def qH7 (tt:TT) (t:Nat) (x y:LV) (d:Option Tmp) (st:St):Res:=match tt.get t,x,y with
 | some ti,.one (.own id),.one (.sl _ (.int k2) ys _)=>match ti.agg,ti.ty,st.heap[id]? with
   | false,.slice e (.int k),some (.row e' (.int k') xs dp true n)=>if e'=e∧k'=k∧k2=k then some (List.length (α:=Int) ys≤List.length (α:=Int) xs,({st with heap:=st.heap.set id (.row e' (.int k') (List.append (α:=Int) ys (List.drop (α:=Int) (List.length (α:=Int) ys) xs)) dp true n)}:St).put d (.one (.int .i64 (List.length (α:=Int) ys:Int))))else none
   | _,_,_=>none
 | _,_,_=>none
section
variable {P : Program} {tt : TT} {o : Oper} {a : Act} {w0 w : World} {mine : Mine} {st : St} {next : Act → World → Prop} {Q : Exit → Act → World → Prop}
end
def qLf (tt:TT) (S:Sem):Sem:=fun o st=>match o.op with
 | .call c=>match c.callee,c.args.toList,c.argTypes.toList with
   | .builtin .copy,[x,y],[t,_]=>qH7 tt t (st.ev x) (st.ev y) o.dst st
   | _,_,_=>S o st
 | _=>S o st
attribute [simp] qLf qH7
end Go.T
/- T: arrays of bools: in boxes, as values. -/
namespace Go.T
open Go
def qh3:List LC→Option (List Bool)
 | []=>some []
 | .bool b::r=>match qh3 r with
   | some l=>some (b::l)
   | none=>none
 | _=>none
def qcc (f:Nat):Nat→List Bool→Bool
 | _,[]=>false
 | i,b::r=>bif decide (f=i)then b else qcc f (i+1) r
def qao (f:Nat) (v:Bool) (i:Nat) (b:Bool):Bool:=bif decide (f=i)then v else b
def qfl (f:Nat) (v:Bool):Nat→List LC→Option (List LC)
 | _,[]=>some []
 | i,.bool b::r=>match qfl f v (i+1) r with
   | some l=>some (.bool (qao f v i b)::l)
   | none=>none
 | _,_=>none
abbrev Ars:=List (Nat×Nat)
def Ars.get:Ars→Nat→Option Nat
 | [],_=>none
 | (t,n)::r,t'=>if t=t' then some n else Ars.get r t'
def qjZ (P:Program) (as:Ars):Bool:=as.all fun p=>match P.underlying p.1 with
 | some (.array n e)=>n==p.2&&(match P.underlying e,P.info? e with
   | some .bool,some i=>i.size==1
   | _,_=>false)
 | _=>false
def qqn (tt:TT) (as:Ars) (o:Oper) (st:St):Res:=match o.op with
 | .indexAddr t x y=>match Ars.get as t,st.ev x,st.ev y with
   | some n,.one (.ptr id 0 0),.one (.int _ i)=>match st.heap[id]? with
     | some (.box cs)=>if cs.length=n then some (0≤i∧i<(n:Int),st.put o.dst (.one (.ptr id 0 i.toNat)))else none
     | _=>none
   | _,_,_=>none
 | .index t x y=>match Ars.get as t,st.ev x,st.ev y with
   | some n,.agg cs,.one (.int _ i)=>if cs.length=n then match qh3 cs with
     | some l=>some (0≤i∧i<(n:Int),st.put o.dst (.one (.bool (qcc i.toNat 0 l))))
     | none=>none
     else none
   | _,_,_=>none
 | .build t ps=>match Ars.get as t,tt.get t,ps.toList with
   | some _,some ti,[]=>some (True,st.put o.dst (.agg (qc9 ti.ty)))
   | _,_,_=>none
 | .load t x=>match tt.get t,st.ev x with
   | some ti,.one (.ptr id 0 f)=>if ti.agg=false∧ti.ty= .bool then match st.heap[id]? with
     | some (.box (c1::c2::cs))=>match qh3 (c1::c2::cs)with
       | some l=>some (f<(c1::c2::cs).length,st.put o.dst (.one (.bool (qcc f 0 l))))
       | none=>none
     | _=>none
     else none
   | _,_=>none
 | .store t x y=>match tt.get t,st.ev x,st.ev y,o.dst with
   | some ti,.one (.ptr id 0 f),.one (.bool v),none=>if ti.agg=false∧ti.ty= .bool then match st.heap[id]? with
     | some (.box (c1::c2::cs))=>match qfl f v 0 (c1::c2::cs)with
       | some l=>some (f<(c1::c2::cs).length,{st with heap:=st.heap.set id (.box l)})
       | none=>none
     | _=>none
     else none
   | _,_,_,_=>none
 | _=>none
theorem qEP {f:Nat}: ∀{cs:List LC} {i:Nat} {l:List Bool},qh3 cs=some l→i≤f→f<i+cs.length→cs[f - i]?=some (.bool (qcc f i l))
 | [],i,l,_,h1,h2=>by simp at h2;omega
 | c::r,i,l,h,h1,h2=>by
   cases c with
   | bool x=>
     simp only [qh3]at h
     split at h
     ·rename_i e he
      cases h
      by_cases hf:f=i
      ·subst hf;simp [qcc]
      ·have:=qEP he (f:=f) (i:=i+1) (by omega) (by simp at h2;omega)
       rw [show f - i=(f - (i+1))+1 by omega]
       simpa [hf,qcc] using this
     ·simp at h
   | _=>simp [qh3]at h
theorem qJv {f:Nat} {v:Bool}: ∀{cs:List LC} {i:Nat} {l:List LC},qfl f v i cs=some l→f<i→l=cs
 | [],i,l,h,_=>by simp [qfl]at h;exact h
 | c::r,i,l,h,hf=>by
   cases c with
   | bool x=>
     simp only [qfl]at h
     split at h
     ·rename_i e he
      cases h
      rw [qJv he (by omega)]
      have: ¬f=i:=by omega
      simp [this,qao]
     ·simp at h
   | _=>simp [qfl]at h
theorem qG8 {f:Nat} {v:Bool}: ∀{cs:List LC} {i:Nat} {l:List LC},qfl f v i cs=some l→i≤f→f<i+cs.length→l=cs.take (f - i)++[.bool v]++cs.drop (f - i+1)
 | [],i,l,_,h1,h2=>by simp at h2;omega
 | c::r,i,l,h,h1,h2=>by
   cases c with
   | bool x=>
     simp only [qfl]at h
     split at h
     ·rename_i e he
      cases h
      by_cases hf:f=i
      ·subst hf
       rw [qJv he (by omega)]
       simp [qao]
      ·have:=qG8 he (by omega) (by simp at h2;omega)
       rw [show f - i=(f - (i+1))+1 by omega,this]
       simp [hf,qao]
     ·simp at h
   | _=>simp [qfl]at h
section
variable {P : Program} {tt : TT} {as : Ars} {o : Oper} {a : Act} {w0 w : World} {mine : Mine} {st : St} {next : Act → World → Prop} {Q : Exit → Act → World → Prop}
theorem qt1 (h:qjZ P as=true) {t n:Nat} (hg:Ars.get as t=some n): ∃e i,P.underlying t=some (.array n e)∧P.underlying e=some .bool∧P.info? e=some i∧i.size=1:=by
 induction as with
 | nil=>simp [Ars.get]at hg
 | cons p r ih=>
   obtain ⟨t0,n0⟩:=p
   simp only [qjZ,List.all_cons,Bool.and_eq_true]at h
   simp only [Ars.get]at hg
   split at hg
   ·rename_i e;cases hg;subst e
    have h:=h.1
    split at h
    ·rename_i n' e hu
     simp only [Bool.and_eq_true,beq_iff_eq]at h
     obtain ⟨rfl,h2⟩:=h
     split at h2
     ·rename_i i hb hi
      exact ⟨e,i,hu,hb,hi,by simpa using h2⟩
     ·simp at h2
    ·simp at h
   ·exact ih h.2 hg
theorem qUA (hT:qS P tt) (hA:qjZ P as=true) {p:Prop} {st':St} (hs:qqn tt as o st=some (p,st')) (hp:p) (hr:R w0 mine st a w) (hn: ∀a' w',R w0 mine st' a' w'→next a' w'):o.wp P a w next Q:=by
 unfold qqn at hs
 split at hs
 ·-- indexAddr
  rename_i t x y ho
  split at hs
  ·rename_i n id k i hg ex ey
   split at hs
   ·rename_i cs hb
    split at hs
    ·rename_i hl
     cases hs
     obtain ⟨hd,m,H,he⟩:=hr
     obtain ⟨e,ie,hu,_,hi,hsz⟩:=qt1 hA hg
     have hx:=R.ev H he x
     have hy:=R.ev H he y
     rw [ex]at hx;rw [ey]at hy
     have hyv:a.eval y= .int k i:=hy
     simp only [V,C,hb]at hx
     have hxv:=hx.2
     refine qbW hd H he hn (v:= .pointer (some ⟨m.blk id,i.toNat,none⟩)) ?_ ?_
     ·have hadd:(⟨m.blk id,0,none⟩:Addr).add i.toNat=⟨m.blk id,i.toNat,none⟩:=qiY _ _
      simp [execOp,ho,hxv,hyv,Instr.indexAt,Instr.sureAddr,asIntOf,run_underlying hu,hp,sizeOf,typeInfo,hi,hsz,hadd]
     ·simp only [C,hb]
      exact ⟨trivial,trivial⟩
    ·simp at hs
   ·simp at hs
  ·simp at hs
 ·-- index
  rename_i t x y ho
  split at hs
  ·rename_i n cs k i hg ex ey
   split at hs
   ·rename_i hl
    split at hs
    ·rename_i l hb
     cases hs
     obtain ⟨hd,m,H,he⟩:=hr
     obtain ⟨e,ie,hu,hub,hi,hsz⟩:=qt1 hA hg
     have hx:=R.ev H he x
     have hy:=R.ev H he y
     rw [ex]at hx;rw [ey]at hy
     have hyv:a.eval y= .int k i:=hy
     obtain ⟨vs,hxv,hf⟩:=hx
     have hsel:=qEP (f:=i.toNat) (i:=0) hb (Nat.zero_le _) (by omega)
     obtain ⟨u,hu2,hC⟩:=hf.get hsel
     have hC:u= .bool (qcc i.toNat 0 l):=hC
     subst hC
     have hget:vs[i.toNat]?=some (.bool (qcc i.toNat 0 l)):=by rw [←Array.getElem?_toList];simpa using hu2
     refine qbW hd H he hn (v:= .bool (qcc i.toNat 0 l)) ?_ rfl
     have hag:(isAgg e).run P w= .ok false w:=by simp [Go.isAgg,run_underlying hub]
     simp [execOp,ho,hxv,hyv,Instr.index,asIntOf,run_underlying hu,hp,sizeOf,typeInfo,hi,hsz,Go.part,hag,hget]
    ·simp at hs
   ·simp at hs
  ·simp at hs
 ·-- build
  rename_i t ps ho
  split at hs
  ·rename_i n ti hg ht hps
   cases hs
   obtain ⟨hd,m,H,he⟩:=hr
   obtain ⟨e,ie,hu,hub,hi,hsz⟩:=qt1 hA hg
   obtain ⟨i,z,hi2,hs2,hz,hzc,_⟩:=(hT t ti ht).info
   have hb:P.built t (ps.map fun p=>(p.1,a.eval p.2)).toList=some z.cells:=by
        unfold Program.built
        simp only [hi2,hu,hz,hi]
        simp [hps,Instr.fill]
   have hrun:=run_build (P:=P) w t _ z.cells hb
   refine qeT (v:= .agg z.cells) (w':=w) ?_ (hn _ _ (R.put ⟨hd,m,H,he⟩ _ fun m' H' he'=> ?_))
   ·simp only [execOp,ho];rw [Sem.run_bind,hrun];rfl
   ·exact ⟨z.cells,rfl,by rw [hzc];exact qkd _ _ _ _⟩
  ·simp at hs
 ·-- load
  rename_i t x ho
  split at hs
  ·rename_i ti id f ht ex
   split at hs
   ·rename_i hty
    split at hs
    ·rename_i c1 c2 cs0 hb
     split at hs
     ·rename_i l hsel
      cases hs
      generalize c1::c2::cs0=cs at*
      generalize hbv:qcc f 0 l=b at*
      have h1:=qEP (f:=f) (i:=0) hsel (Nat.zero_le _) (by omega)
      rw [hbv]at h1
      refine qI8 hT ho (p:=f+ti.ty.sz≤cs.length) (st':=st.put o.dst (.one (.bool b))) ?_ ?_ hr hn
      ·unfold qiB
       rw [ht,ex]
       simp only [hb]
       have:(cs.drop f).take ti.ty.sz=[.bool b]:=by
               rw [hty.2]
               rw [Nat.sub_zero]at h1
               have hlt:=(List.getElem?_eq_some_iff.1 h1).1
               have e1:=(List.getElem?_eq_some_iff.1 h1).2
               show (cs.drop f).take 1=_
               rw [List.drop_eq_getElem_cons hlt,e1]
               rfl
       rw [this,hty.1]
       rfl
      ·rw [hty.2];exact hp
     ·simp at hs
    ·simp at hs
   ·simp at hs
  ·simp at hs
 ·-- store
  rename_i t x y ho
  split at hs
  ·rename_i ti id f v ht ex ey hdst
   split at hs
   ·rename_i hty
    split at hs
    ·rename_i c1 c2 cs0 hb
     split at hs
     ·rename_i l hput
      cases hs
      generalize c1::c2::cs0=cs at*
      have h1:=qG8 hput (Nat.zero_le _) (by omega)
      rw [Nat.sub_zero]at h1
      refine qHP hT ht ho hdst ex hb (by rw [ey,hty.2];rfl) (by rw [ey];rfl) (by rw [hty.2];exact hp) hr fun a' w' hr'=>hn _ _ ?_
      rw [h1]
      rw [ey]at hr'
      exact hr'
     ·simp at hs
    ·simp at hs
   ·simp at hs
  ·simp at hs
 ·simp at hs
end
def qkX (tt:TT) (as:Ars) (S:Sem):Sem:=fun o st=>match qqn tt as o st with
 | some r=>some r
 | none=>S o st
theorem qF7 {P:Program} {tt:TT} (hT:qS P tt) {as:Ars} (hA:qjZ P as=true) {S:Sem} (h:qff P S):qff P (qkX tt as S):=by
 intro o st p st' hs hp w0 mine a w next Q hr hn
 unfold qkX at hs
 split at hs
 ·rename_i r hr1
  cases hs
  exact qUA hT hA hr1 hp hr hn
 ·exact h o st p st' hs hp w0 mine a w next Q hr hn
attribute [simp] qkX qqn qh3 qfl Ars.get qcN
end Go.T
/- T: functions that call themselves: contracts by a measure. -/
namespace Go.T
open Go
structure RN where
 n:Nat
 k:Nat
instance:CoeOut RN Nat:=⟨RN.n⟩
theorem qMX {P : Program} {f : FuncId} {fn : Func} {c : Code} {g : G} (hf : P.funcs[f]? = some fn) (hb : fn.body = some c) (hname : (fn.name == "runtime.NumGoroutine") = false) (h : ∀ x, ¬ g.pre x) : Sound P f g :=
 ⟨⟨fn,hf,by rw [hb];rfl,hname⟩,fun x hx=>(h x hx).elim⟩
end Go.T
