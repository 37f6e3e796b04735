/- T: indexes, numbers, tuples. -/
import Derived.Test.YtlhkmndfkjlodaaT3
import Derived.Laws.BytesString
import Derived.Laws.Entries
set_option linter.unusedSimpArgs false
set_option linter.unusedVariables false
namespace Go.T
open Go
section
variable {P : Program} {tt : TT} {o : Oper} {a : Act} {w0 w : World} {mine : Mine} {st : St} {next : Act → World → Prop} {Q : Exit → Act → World → Prop}
theorem qfZ {m:Mp} (hd:a.defers=[]) (H:HR w0 mine w m st.heap) (he:F2 (V w m st.heap) st.env a.tmps.toList) {v:Value} {l:LV} (hrun:(execOp a.eval o).run P w= .ok (.value v) w) (hv:V w m st.heap l v)
 (hn: ∀a' w',R w0 mine (st.put o.dst l) a' w'→next a' w'):o.wp P a w next Q:=by
 refine qbC hrun (hn _ _ ⟨by rw [qa5];exact hd,m,by rw [St.put_heap];exact H,?_⟩)
 rw [St.put_heap,St.put_env]
 exact qcl he _ hv
theorem qah {m:Mp} (hd:a.defers=[]) (H:HR w0 mine w m st.heap) (he:F2 (V w m st.heap) st.env a.tmps.toList) {v:Value} {c:LC} (hn: ∀a' w',R w0 mine (st.put o.dst (.one c)) a' w'→next a' w')
 (hrun:(execOp a.eval o).run P w= .ok (.value v) w) (hv:C w m st.heap c v):o.wp P a w next Q:=qfZ hd H he (l:= .one c) hrun hv hn
theorem TI.row_spec {ti:TI} {e:Nat} {t:Ty} (h:ti.row e t=true):ti.agg=false∧ ∃t',ti.ty= .slice e t'∧t'.sz=t.sz:=by
 unfold TI.row at h
 simp only [Bool.and_eq_true,Bool.not_eq_true']at h
 refine ⟨h.1,?_⟩
 have h2:=h.2
 split at h2
 ·rename_i e' t' hty
  simp only [Bool.and_eq_true,beq_iff_eq]at h2
  obtain ⟨rfl,h3⟩:=h2
  exact ⟨t',hty,h3⟩
 ·simp at h2
theorem qIy (hT:qN P tt) {t:Nat} {x y:Operand} (ho:o.op= .indexAddr t x y) {p:Prop} {st':St} (hs:qfV tt t (st.ev x) (st.ev y) o.dst st=some (p,st')) (hp:p) (hr:R w0 mine st a w)
 (hn: ∀a' w',R w0 mine st' a' w'→next a' w'):o.wp P a w next Q:=by
 obtain ⟨hd,m,H,he⟩:=hr
 have hx:=R.ev H he x
 have hy:=R.ev H he y
 unfold qfV at hs
 cases ht:tt.get t with
 | none=>simp [ht]at hs
 | some ti=>
   have hti:=hT t ti ht
   simp only [ht]at hs
   have run: ∀{e:Nat} {t':Ty} {k:IntKind} {i:Int} {ad:Addr} {n c:Nat},ti.agg=false→ti.ty= .slice e t'→a.eval x= .slice (some ad) n c→a.eval y= .int k i→0≤i→i<n→
        (execOp a.eval o).run P w= .ok (.value (.pointer (some (ad.add (i.toNat*t'.sz))))) w:=by
    intro e t' k i ad n c hag hty hxv hyv h0 hlt
    obtain ⟨hu,tie,hte,htt⟩:=hti.slc hag e t' hty
    have hsz:=(hT e tie hte).sizeOf w
    rw [htt]at hsz
    simp [execOp,ho,hxv,hyv,Instr.indexAt,asIntOf,run_underlying hu,h0,hlt,hsz]
   split at hs
   ·rename_i e t' xs n k i ex ey
    rw [ex]at hx;rw [ey]at hy
    have hy':a.eval y= .int k i:=hy
    obtain ⟨A,c,hxv,hc,hrd⟩:=hx
    split at hs
    ·rename_i hty
     cases hs
     obtain ⟨h0,hlt⟩:=hp
     have hlen:i.toNat<xs.length:=by omega
     obtain ⟨ad,cs,hA,hok,hk,hat⟩:=hrd i.toNat xs[i.toNat] (by simp [hlen])
     subst hA
     refine qfZ hd H he (run hty.1 hty.2 hxv hy' h0 hlt) ?_ hn
     show C w m st.heap (.tptr _ _ _ _) _
     simp only [C]
     refine ⟨ad.add (i.toNat*t'.sz),cs,by rw [qen,Nat.add_zero],?_,hat,by rw [qc4];exact hok⟩
     rw [show xs.getD i.toNat (qc t')=xs[i.toNat] by simp [List.getD,hlen]]
     exact hk
    ·simp at hs
   ·rename_i id k i ex ey
    rw [ex]at hx;rw [ey]at hy
    have hy':a.eval y= .int k i:=hy
    split at hs
    ·rename_i e t' xs dp mt n hb
     split at hs
     ·rename_i hrow
      obtain ⟨hag,t2,hty,hsz⟩:=TI.row_spec hrow
      cases hs
      obtain ⟨h0,hlt⟩:=hp
      simp only [V,C,hb]at hx
      obtain ⟨inner,hown,_⟩:=H.br id _ hb
      obtain ⟨A,c,hv,hc,hA,hnn⟩:=qc8 hown
      cases A with
      | none=>have:=hnn rfl;omega
      | some ad=>
        obtain ⟨hbk,had⟩:=hA ad rfl
        rw [hv]at hx
        have hrun:=run hag hty hx hy' h0 hlt
        rw [hsz]at hrun
        refine qfZ hd H he hrun ?_ hn
        show C w m st.heap (.ptr _ _ _) _
        simp only [C,hb]
        exact ⟨ad.block,hbk,by rw [had,qhu];rfl⟩
     ·simp at hs
    ·simp at hs
   ·simp at hs
theorem qLT {op:BinOp} {k:IntKind} {i j:Int} {c:LC} (h:qog op k i j=some c) (t:TypeId) (x y:Operand) (w:World):
 ∃v,(do eqGuard op t x y (.int k i) (.int k j);binOp op t (.int k i) (.int k j)).run P w= .ok v w∧ ∀w m h,C w m h c v:=by
 cases op<;>simp only [qog,reduceCtorEq,Option.some.injEq]at h<;>subst h<;>refine ⟨_,by simp [eqGuard,binOp,Op.intArith,Op.intCmp];rfl,fun _ _ _=> ?_⟩<;>simp only [C]<;>first | rfl | skip
 all_goals trace_state
theorem qQL {op:BinOp} {i j:ByteArray} {c:LC} (h:qlo op i j=some c) (t:TypeId) (x y:Operand) (w:World):
 ∃v,(do eqGuard op t x y (.string i) (.string j);binOp op t (.string i) (.string j)).run P w= .ok v w∧ ∀w m h,C w m h c v:=by
 cases op<;>simp only [qlo,reduceCtorEq,Option.some.injEq]at h<;>subst h<;>refine ⟨_,by simp [eqGuard,binOp,Op.stringOp];rfl,fun _ _ _=> ?_⟩<;>simp only [C]<;>rfl
theorem qDr {t:TypeId} (hu:P.underlying t=some .bool) (i j:Bool) (w:World):(Op.equal t (.bool i) (.bool j)).run P w= .ok (i==j) w:=by
 have h: ∀d,(Op.equalIn (d+1) t (.bool i) (.bool j)).run P w= .ok (i==j) w:=fun d=>by simp [Op.equalIn,run_underlying hu]
 exact h 9999
theorem qDe {m:Mp} {h:List Blk} {k l:IntKind} {i j:Int}: ∀{us:Array Value},F2 (C w m h) [.int k i,.int l j] us.toList→us= #[.int k i,.int l j]
 | ⟨us⟩,hf=>by
   simp only at hf
   match us,hf with
   | [u,v],.cons c1 (.cons c2 .nil)=>simp only [C]at c1 c2;subst c1;subst c2;rfl
theorem qQ8 {t : TypeId} {f g : Field} {k l : IntKind} (hu : P.underlying t = some (.struct #[f, g])) (hst : P.stoodInHeld t = false) (hf : f.offset = 0) (hg : g.offset = 1) (hfn : f.name ≠ "_") (hgn : g.name ≠ "_")
 (huf:P.underlying f.type=some (.int k)) (hug:P.underlying g.type=some (.int l)) (k1 l1:IntKind) (a b a' b':Int) (w:World):
 (Op.equal t (.agg #[.int k1 a,.int l1 b]) (.agg #[.int k1 a',.int l1 b'])).run P w= .ok (decide (a=a')&&decide (b=b')) w:=by
 have h1: ∀d (x y:Int),(Op.equalIn (d+1) f.type (.int k1 x) (.int k1 y)).run P w= .ok (x==y) w:=fun d x y=>by simp [Op.equalIn,run_underlying huf]
 have h2: ∀d (x y:Int),(Op.equalIn (d+1) g.type (.int l1 x) (.int l1 y)).run P w= .ok (x==y) w:=fun d x y=>by simp [Op.equalIn,run_underlying hug]
 have af:(isAgg f.type).run P w= .ok false w:=by simp [isAgg,run_underlying huf]
 have ag:(isAgg g.type).run P w= .ok false w:=by simp [isAgg,run_underlying hug]
 have h: ∀d,(Op.equalIn (d+2) t (.agg #[.int k1 a,.int l1 b]) (.agg #[.int k1 a',.int l1 b'])).run P w= .ok (decide (a=a')&&decide (b=b')) w:=fun d=>by
  rw [show d+2=(d+1)+1 from rfl,Op.equalIn]
  simp only [Sem.run_bind,run_underlying hu,Result.andThen_ok]
  by_cases e1:a=a'<;>by_cases e2:b=b'<;>simp [hst,hf,hg,hfn,hgn,part,af,ag,h1,h2,e1,e2]
 exact h 9998
theorem qPX (hT:qN P tt) {op:BinOp} {t ty:Nat} {x y:Operand} (ho:o.op= .binOp op t x y ty) {p:Prop} {st':St} (hs:qfw tt op t (st.ev x) (st.ev y) o.dst st=some (p,st')) (hp:p) (hr:R w0 mine st a w)
 (hn: ∀a' w',R w0 mine st' a' w'→next a' w'):o.wp P a w next Q:=by
 obtain ⟨hd,m,H,he⟩:=hr
 have hx:=R.ev H he x
 have hy:=R.ev H he y
 unfold qfw at hs
 split at hs
 ·rename_i k i k' j ex ey
  rw [ex]at hx;rw [ey]at hy
  have hx':a.eval x= .int k i:=hx
  have hy':a.eval y= .int k' j:=hy
  split at hs
  ·rename_i hk
   subst hk
   split at hs
   ·cases hs
    refine qah hd H he hn (v:= .int k (k.wrap (i.tdiv j))) ?_ rfl
    simp [execOp,ho,hx',hy',eqGuard,binOp,Op.intDiv,hp]
   ·cases hs
    refine qah hd H he hn (v:= .int k (i.tmod j)) ?_ rfl
    simp [execOp,ho,hx',hy',eqGuard,binOp,Op.intDiv,hp]
   ·split at hs
    ·rename_i c hc
     cases hs
     obtain ⟨v,hrun,hv⟩:=qLT (P:=P) hc t x y w
     refine qah hd H he hn (v:=v) ?_ (hv _ _ _)
     simp only [execOp,ho,hx',hy']
     rw [Sem.run_bind,hrun];rfl
    ·simp at hs
  ·simp at hs
 ·rename_i i j ex ey
  rw [ex]at hx;rw [ey]at hy
  have hx':a.eval x= .string i:=hx
  have hy':a.eval y= .string j:=hy
  split at hs
  ·cases hs
   refine qah hd H he hn (v:= .string (i++j)) ?_ rfl
   have: ¬(9223372036854775807:Int)<(i.size:Int)+(j.size:Int):=by omega
   simp [execOp,ho,hx',hy',eqGuard,binOp,Op.stringOp,IntKind.max,IntKind.signed,IntKind.bits,this]
  ·split at hs
   ·rename_i c hc
    cases hs
    obtain ⟨v,hrun,hv⟩:=qQL (P:=P) hc t x y w
    refine qah hd H he hn (v:=v) ?_ (hv _ _ _)
    simp only [execOp,ho,hx',hy']
    rw [Sem.run_bind,hrun];rfl
   ·simp at hs
 ·rename_i i j ex ey
  rw [ex]at hx;rw [ey]at hy
  have hx':a.eval x= .bool i:=hx
  have hy':a.eval y= .bool j:=hy
  cases ht:tt.get t with
  | none=>simp [ht]at hs
  | some ti=>
    simp only [ht]at hs
    split at hs
    ·rename_i hty
     have hu:=(hT t ti ht).bool hty.2 hty.1
     cases op<;>simp only [reduceCtorEq]at hs
     ·cases hs
      refine qah hd H he hn (v:= .bool (i==j)) ?_ rfl
      simp [execOp,ho,hx',hy',eqGuard,binOp,qDr hu]
     ·cases hs
      refine qah hd H he hn (v:= .bool (!(i==j))) ?_ rfl
      simp [execOp,ho,hx',hy',eqGuard,binOp,qDr hu]
    ·simp at hs
 ·rename_i as bs ex ey
  rw [ex]at hx;rw [ey]at hy
  cases ht:tt.get t with
  | none=>simp [ht]at hs
  | some ti=>
    simp only [ht]at hs
    split at hs
    ·rename_i hin
     obtain ⟨f,g,k,l,hu,hst,heg,hf,hg,hfn,hgn,huf,hug⟩:=(hT t ti ht).ints hin
     split at hs
     ·rename_i e hei
      obtain ⟨us,hxv,hfx⟩:=hx
      obtain ⟨vs,hyv,hfy⟩:=hy
      unfold quJ at hei
      split at hei
      ·rename_i k1 i1 l1 i2 k2 j1 l2 j2
       split at hei
       ·rename_i hkl
        obtain ⟨rfl,rfl⟩:=hkl
        cases hei
        have hus:=qDe hfx
        have hvs:=qDe hfy
        subst hus;subst hvs
        have hE:=fun w=>qQ8 (P:=P) (w:=w) hu hst hf hg hfn hgn huf hug k1 l1 i1 i2 j1 j2
        cases op<;>simp only [reduceCtorEq]at hs
        ·cases hs
         refine qah hd H he hn (v:= .bool (decide (i1=j1)&&decide (i2=j2))) ?_ rfl
         simp [execOp,ho,hxv,hyv,eqGuard,binOp,hE,heg]
        ·cases hs
         refine qah hd H he hn (v:= .bool (!(decide (i1=j1)&&decide (i2=j2)))) ?_ rfl
         simp [execOp,ho,hxv,hyv,eqGuard,binOp,hE,heg]
       ·simp at hei
      ·simp at hei
     ·simp at hs
    ·simp at hs
 ·simp at hs
theorem qQD {op:UnOp} {t:Nat} {x:Operand} (ho:o.op= .unOp op t x) {p:Prop} {st':St} (hs:qfq op (st.ev x) o.dst st=some (p,st')) (hr:R w0 mine st a w)
 (hn: ∀a' w',R w0 mine st' a' w'→next a' w'):o.wp P a w next Q:=by
 obtain ⟨hd,m,H,he⟩:=hr
 have hx:=R.ev H he x
 unfold qfq at hs
 split at hs
 ·rename_i k i ex
  rw [ex]at hx
  have hx':a.eval x= .int k i:=hx
  cases hs
  refine qah hd H he hn (v:= .int k (k.wrap (0 - i))) ?_ rfl
  simp [execOp,ho,hx',Op.unary,Op.intArith]
 ·rename_i b ex
  rw [ex]at hx
  have hx':a.eval x= .bool b:=hx
  cases hs
  refine qah hd H he hn (v:= .bool (!b)) ?_ rfl
  simp [execOp,ho,hx',Op.unary]
 ·simp at hs
theorem qsF {w:World} {m:Mp} {h:List Blk} {l:LV1} {v:Value} (hv:V1 w m h l v):V w m h l.lv v:=by
 unfold V1 at hv
 unfold LV1.lv
 split at hv
 ·rename_i e;rw [e];exact hv
 ·rename_i e
  obtain ⟨c,hc,hC,_⟩:=hv
  rw [e,hc];exact hC
theorem qM9 {x:Operand} {i:Nat} {vs:List LV1} {l:LV1} (ho:o.op= .extract x i) (ex:st.ev x= .tup vs) (hl:vs[i]?=some l) (hr:R w0 mine st a w)
 (hn: ∀a' w',R w0 mine (st.put o.dst l.lv) a' w'→next a' w'):o.wp P a w next Q:=by
 obtain ⟨hd,m,H,he⟩:=hr
 have hx:=R.ev H he x
 rw [ex]at hx
 obtain ⟨us,hxv,hf⟩:=hx
 obtain ⟨u,hu,hV⟩:=hf.get hl
 refine qfZ hd H he (v:=u) ?_ (qsF hV) hn
 simp only [Array.getElem?_toList]at hu
 simp [execOp,ho,hxv,Instr.extract,hu]
theorem qKp {x:Operand} {id i f:Nat} (ho:o.op= .nilCheck x) (ex:st.ev x= .one (.ptr id i f)) (hb:st.heap[id]?≠some .dead) (hr:R w0 mine st a w)
 (hn: ∀a' w',R w0 mine (st.put o.dst (.one (.ptr id i f))) a' w'→next a' w'):o.wp P a w next Q:=by
 obtain ⟨hd,m,H,he⟩:=hr
 have hx:=R.ev H he x
 rw [ex]at hx
 have hp: ∃ad,a.eval x= .pointer (some ad):=by
  simp only [V,C]at hx
  cases hb':st.heap[id]? with
  | none=>rw [hb']at hx;exact hx.elim
  | some b=>
    rw [hb']at hx
    cases b with
    | box cs=>exact ⟨_,hx.2⟩
    | row e t xs dp mt n=>obtain ⟨g,_,hv⟩:=hx;exact ⟨_,hv⟩
    | nst=>exact hx.elim
    | dead=>exact absurd hb' hb
 obtain ⟨ad,hxv⟩:=hp
 refine qfZ hd H he (v:=a.eval x) ?_ hx hn
 simp [execOp,ho,hxv]
theorem qPq (hT:qN P tt) {c:Call} {t:Nat} {ti:TI} {x:Operand} {n:Int} (ho:o.op= .call c) (hc:c.callee= .builtin .len) (ha:c.args= #[x]) (hat:c.argTypes= #[t]) (ht:tt.get t=some ti)
 (hl:lenOf ti st.heap (st.ev x)=some n) (hr:R w0 mine st a w) (hn: ∀a' w',R w0 mine (st.put o.dst (.one (.int .i64 n))) a' w'→next a' w'):o.wp P a w next Q:=by
 obtain ⟨hd,m,H,he⟩:=hr
 have hx:=R.ev H he x
 have hti:=hT t ti ht
 have key:(Builtin.len_ #[t] o.type #[a.eval x]).run P w= .ok (.int .i64 n) w:=by
  unfold lenOf at hl
  split at hl
  ·rename_i s ex
   rw [ex]at hx
   have hxv:a.eval x= .string s:=hx
   split at hl
   ·rename_i hty;cases hl
    simp [Builtin.len_,run_underlying (hti.str hty.1 hty.2),hxv,goInt]
   ·simp at hl
  ·rename_i e t' xs k ex
   rw [ex]at hx
   obtain ⟨A,cp,hxv,_⟩:=hx
   split at hl
   ·rename_i hty;cases hl
    obtain ⟨hu,_⟩:=hti.slc hty.1 _ _ hty.2
    simp [Builtin.len_,run_underlying hu,hxv,goInt]
   ·simp at hl
  ·rename_i ex
   rw [ex]at hx
   have hxv:a.eval x= .slice none 0 0:=hx
   split at hl
   ·rename_i e te hag hty;cases hl
    obtain ⟨hu,_⟩:=hti.slc hag _ _ hty
    simp [Builtin.len_,run_underlying hu,hxv,goInt]
   ·simp at hl
  ·rename_i id ex
   rw [ex]at hx
   split at hl
   ·rename_i e t' xs dp mt k hb
    simp only [V,C,hb]at hx
    obtain ⟨inner,hown,_⟩:=H.br id _ hb
    obtain ⟨A,cp,hv,_⟩:=qc8 hown
    rw [hv]at hx
    split at hl
    ·rename_i hrow;cases hl
     obtain ⟨hag,t2,hty,_⟩:=TI.row_spec hrow
     obtain ⟨hu,_⟩:=hti.slc hag _ _ hty
     simp [Builtin.len_,run_underlying hu,hx,goInt]
    ·simp at hl
   ·simp at hl
  ·simp at hl
 refine qah hd H he hn (v:= .int .i64 n) ?_ rfl
 simp [execOp,ho,resolve,hc,ha,hat,invoke,builtin,key]
theorem qDh {c:Call} {mx:Bool} {x y:Operand} (ho:o.op= .call c) (hc:c.callee= .builtin (bif mx then .max else .min)) (ha:c.args= #[x,y]) {p:Prop} {st':St} (hs:qee mx (st.ev x) (st.ev y) o.dst st=some (p,st')) (hr:R w0 mine st a w)
 (hn: ∀a' w',R w0 mine st' a' w'→next a' w'):o.wp P a w next Q:=by
 obtain ⟨hd,m,H,he⟩:=hr
 have hx:=R.ev H he x
 have hy:=R.ev H he y
 unfold qee at hs
 split at hs
 ·rename_i k n k' n' ex ey
  rw [ex]at hx
  rw [ey]at hy
  have hxv:a.eval x= .int k n:=hx
  have hyv:a.eval y= .int k' n':=hy
  split at hs
  ·rename_i e
   subst e
   cases hs
   cases mx with
   | true=>
     refine qah hd H he hn (v:= .int k (max n n')) ?_ rfl
     have:(if n'>n then n' else n)=max n n':=by rw [Int.max_def];split<;>split<;>omega
     simp [execOp,ho,resolve,hc,ha,invoke,builtin,hxv,hyv,Builtin.max_,Builtin.max2,this]
   | false=>
     refine qah hd H he hn (v:= .int k (min n n')) ?_ rfl
     have:(if n'<n then n' else n)=min n n':=by rw [Int.min_def];split<;>split<;>omega
     simp [execOp,ho,resolve,hc,ha,invoke,builtin,hxv,hyv,Builtin.min_,Builtin.min2,this]
  ·simp at hs
 ·simp at hs
theorem qoY {m:Mp} {qc i:Int} {b:Option Operand} {y:Nat} {code:BoundsCode} (H:HR w0 mine w m st.heap) (he:F2 (V w m st.heap) st.env a.tmps.toList) (hb:qaR qc (b.map st.ev)=some i) (h0:0≤i) (h1:i≤y) (hd:b=none→qc=i):
 (match b.map a.eval with
   | some v=>Instr.sliceBound v y code
   | none=>(pure qc.toNat:Sem Nat)).run P w= .ok i.toNat w:=by
 cases b with
 | none=>simp [hd rfl]
 | some x=>
   have hx:=R.ev H he x
   simp only [Option.map_some,qaR]at hb
   split at hb
   ·simp at*
   ·rename_i k j e
    simp only [Option.some.injEq]at e hb
    rw [e]at hx
    have hxv:a.eval x= .int k j:=hx
    subst hb
    simp [Instr.sliceBound,hxv,asIntOf,h0,h1]
   ·simp at hb
theorem qC0 (hT:qN P tt) {m:Mp} {t:Nat} {x:Operand} {lo hi:Option Operand} (ho:o.op= .slice t x lo hi none) {ti:TI} (hti:TIok P tt t ti) {e:Nat} {te:Ty} {xs:List (Val te)} {n:Nat} (hd:a.defers=[]) (H:HR w0 mine w m st.heap) (he:F2 (V w m st.heap) st.env a.tmps.toList)
 (hx:C w m st.heap (.sl e te xs n) (a.eval x)) {l h:Int} (hl:qaR 0 (lo.map st.ev)=some l) (hh:qaR xs.length (hi.map st.ev)=some h) (hty:ti.agg=false∧ti.ty= .slice e te) (hp:0≤l∧l≤h∧h≤xs.length)
 (hn: ∀a' w',R w0 mine (st.put o.dst (.one (.sl e te ((xs.take h.toNat).drop l.toNat) n))) a' w'→next a' w'):o.wp P a w next Q:=by
 obtain ⟨A,cp,hxv,hlen,hrd⟩:=hx
 obtain ⟨h0,h1,h2⟩:=hp
 obtain ⟨hu,tie,hte,hteq⟩:=hti.slc hty.1 _ _ hty.2
 have hsz:=(hT e tie hte).sizeOf w
 rw [hteq]at hsz
 have e1:=qoY (P:=P) (y:=cp) (code:= .sliceAcap) H he hh (by omega) (by omega) (fun e=>by subst e;simpa [qaR] using hh)
 have e2:=qoY (P:=P) (y:=h.toNat) (code:= .sliceB) H he hl h0 (by omega) (fun e=>by subst e;simpa [qaR] using hl)
 simp only [Int.toNat_natCast,Int.toNat_zero]at e1 e2
 refine qah hd H he hn (v:= .slice (if cp=l.toNat then A else A.map (·.add (l.toNat*te.sz))) (h.toNat - l.toNat) (cp - l.toNat)) ?_ ⟨(if cp=l.toNat then A else A.map (·.add (l.toNat*te.sz))),cp - l.toNat,?_,?_,?_⟩
 ·simp only [execOp,ho,Instr.sliceAt,Sem.run_bind,run_underlying hu,Result.andThen_ok,Option.map_none,hxv,Instr.slice,Instr.sliceBounds,Sem.run_pure,e1,e2,hsz]
  cases hi<;>cases lo<;>simp_all [Instr.sliceBounds]
 ·congr 1
  simp;omega
 ·simp;omega
 ·intro i y hy
  have hi':i<h.toNat - l.toNat:=by
   have:=(List.getElem?_eq_some_iff.1 hy).1
   simp at this;omega
  have hy2:xs[l.toNat+i]?=some y:=by
   rw [List.getElem?_drop,List.getElem?_take]at hy
   rw [if_pos (by omega)]at hy
   exact hy
  obtain ⟨ad,cs,rfl,hok,hk,hat⟩:=hrd _ y hy2
  have hne: ¬cp=l.toNat:=by omega
  refine ⟨ad.add (l.toNat*te.sz),cs,by simp [hne],by rw [qc4];exact hok,hk,?_⟩
  rw [qen,←Nat.add_mul]
  exact hat
theorem qDK (hT:qN P tt) {t:Nat} {x:Operand} {lo hi:Option Operand} (ho:o.op= .slice t x lo hi none) {p:Prop} {st':St} (hs:qbi tt t (st.ev x) (lo.map st.ev) (hi.map st.ev) o.dst st=some (p,st')) (hp:p) (hr:R w0 mine st a w)
 (hn: ∀a' w',R w0 mine st' a' w'→next a' w'):o.wp P a w next Q:=by
 obtain ⟨hd,m,H,he⟩:=hr
 have hx:=R.ev H he x
 unfold qbi at hs
 split at hs
 ·simp at hs
 ·rename_i ti ht
  have hti:=hT t ti ht
  split at hs
  ·rename_i s ex
   rw [ex]at hx
   have hxv:a.eval x= .string s:=hx
   split at hs
   ·rename_i l h hl hh
    split at hs
    ·rename_i hty
     cases hs
     obtain ⟨h0,h1,h2⟩:=hp
     refine qah hd H he hn (v:= .string (s.extract l.toNat h.toNat)) ?_ rfl
     have e1:=qoY (P:=P) (y:=s.size) (code:= .sliceAlen) H he hh (by omega) h2 (fun e=>by subst e;simpa [qaR] using hh)
     have e2:=qoY (P:=P) (y:=h.toNat) (code:= .sliceB) H he hl h0 (by omega) (fun e=>by subst e;simpa [qaR] using hl)
     simp only [Int.toNat_natCast,Int.toNat_zero]at e1 e2
     simp only [execOp,ho,Instr.sliceAt,Sem.run_bind,run_underlying (hti.str hty.1 hty.2),Result.andThen_ok,Option.map_none,hxv,Instr.slice,Option.isSome_none,Bool.false_eq_true,if_false,Instr.sliceBounds,Sem.run_pure,e1,e2]
     cases hi<;>cases lo<;>simp_all [Instr.sliceBounds]
    ·simp at hs
   ·simp at hs
  ·rename_i e te xs n ex
   rw [ex]at hx
   split at hs
   ·rename_i l h hl hh
    split at hs
    ·rename_i hty
     cases hs
     exact qC0 hT ho hti hd H he hx hl hh hty hp hn
    ·simp at hs
   ·simp at hs
  ·simp at hs
theorem qD9 {A:Option Addr} {c:Nat} {xs:List (Val (.int .u8))} {ok:Nat→Prop} (hr:Rd w ok 1 (K w ok (.int .u8)) A xs):(Conv.bytesToString (.slice A xs.length c)).run P w= .ok (.string (qgf xs)) w:=by
 cases A with
 | none=>
   have hx:xs=[]:=by
    cases xs with
    | nil=>rfl
    | cons x r=>
      obtain ⟨a,_,h,_⟩:=hr 0 x rfl
      simp at h
   subst hx
   simp [Conv.bytesToString,qgf]
 | some a=>
   refine run_bytesToString w a xs.length c xs ?_
   have hat: ∀j v,(List.map (α:=Int) (Value.int .u8) xs)[j]?=some v→w.cell? (a.add j)=some v:=fun j v hv=>by
    rw [List.getElem?_map]at hv
    cases hx:xs[j]? with
    | none=>rw [hx]at hv;simp at hv
    | some x=>
      rw [hx]at hv
      obtain ⟨a',cs,ha,_,hk,hat⟩:=hr j x hx
      cases ha
      have hk:cs=[.int .u8 x]:=hk
      subst hk
      have:=hat 0 (.int .u8 x) rfl
      rw [qen,Nat.mul_one,Nat.add_zero]at this
      rw [this]
      exact hv
   have:=run_loadCells_list (P:=P) w a _ hat
   simpa using this
theorem qFe (hT:qN P tt) {s t:Nat} {ts td:TI} (hs:tt.get s=some ts) (ht:tt.get t=some td) (h:qj0 tt ts td=true): ∃e,P.underlying s=some (.slice e)∧P.underlying e=some (.int .u8)∧P.underlying t=some .string:=by
 unfold qj0 at h
 split at h
 ·rename_i e hag hty
  split at h
  ·rename_i tie hte
   simp only [Bool.and_eq_true,Bool.not_eq_true']at h
   obtain ⟨⟨h1,h2⟩,h3⟩:=h
   split at h3
   ·rename_i hstr
    obtain ⟨hu,tie',hte',hty'⟩:=(hT s ts hs).slc hag e _ hty
    rw [hte]at hte';cases hte'
    exact ⟨e,hu,(hT e tie hte).int h1 _ hty',(hT t td ht).str h2 hstr⟩
   ·simp at h3
  ·simp at h
 ·simp at h
theorem qMh (hT:qN P tt) {s t:Nat} {x:Operand} (ho:o.op= .convert s t x) {p:Prop} {st':St} (hs:qgi tt s t (st.ev x) o.dst st=some (p,st')) (hr:R w0 mine st a w)
 (hn: ∀a' w',R w0 mine st' a' w'→next a' w'):o.wp P a w next Q:=by
 obtain ⟨hd,m,H,he⟩:=hr
 have hx:=R.ev H he x
 unfold qgi at hs
 split at hs
 ·rename_i ts td hts htd
  split at hs
  ·rename_i k n ex
   rw [ex]at hx
   have hxv:a.eval x= .int k n:=hx
   split at hs
   ·rename_i k' hag hty
    cases hs
    refine qah hd H he hn (v:= .int k' (k'.wrap n)) ?_ rfl
    have hu:=(hT t td htd).int hag _ hty
    obtain ⟨ds,hus,_⟩:=(hT s ts hts).desc
    simp only [execOp,ho,hxv,Sem.run_bind]
    have:(convert s t (.int k n)).run P w= .ok (.int k' (k'.wrap n)) w:=by
     simp only [convert,Sem.run_bind,run_underlying hus,run_underlying hu,Result.andThen_ok,Conv.intToInt]
     rfl
    simp [this]
   ·simp at hs
  ·rename_i id ex
   rw [ex]at hx
   split at hs
   ·rename_i e xs dp mt k hb
    split at hs
    ·rename_i hbt
     cases hs
     obtain ⟨e',hu1,hu2,hu3⟩:=qFe hT hts htd hbt
     simp only [V,C,hb]at hx
     obtain ⟨inner,hown,hms⟩:=H.br id _ hb
     obtain ⟨A,cp,hv,hc,hrd⟩:=qmx (ok:=fun _=>True) (R:=K w (fun _=>True) (.int .u8)) hown (fun x c hx=>qaj hx) (by
            cases dp with
            | true=>exact hms.1.toKs fun x c b _ hx=>M_K hx fun _ _=>trivial
            | false=>exact hms.imp fun x c hk=>qaf (fun _ _ _=>rfl) (fun _ _ _=>trivial) hk) (fun _ _=>trivial)
     refine qah hd H he hn (v:= .string (qgf xs)) ?_ rfl
     have h1:=qD9 (P:=P) (c:=cp) hrd
     have h2:=run_convert_bytes_string (P:=P) w s t e' A xs.length cp hu1 hu2 hu3
     rw [h1]at h2
     rw [hv]at hx
     simp [execOp,ho,hx,h2]
    ·simp at hs
   ·simp at hs
  ·rename_i e xs n ex
   rw [ex]at hx
   obtain ⟨A,cp,hxv,hlen,hrd⟩:=hx
   split at hs
   ·rename_i hbt
    cases hs
    obtain ⟨e',hu1,hu2,hu3⟩:=qFe hT hts htd hbt
    refine qah hd H he hn (v:= .string (qgf xs)) ?_ rfl
    have h1:=qD9 (P:=P) (c:=cp) hrd
    have h2:=run_convert_bytes_string (P:=P) w s t e' A xs.length cp hu1 hu2 hu3
    rw [h1]at h2
    simp [execOp,ho,hxv,h2]
   ·simp at hs
  ·simp at hs
 ·simp at hs
theorem qFw (hT:qN P tt) {t:Nat} {x y:Operand} (ho:o.op= .index t x y) {p:Prop} {st':St} (hs:qg0 tt t (st.ev x) (st.ev y) o.dst st=some (p,st')) (hp:p) (hr:R w0 mine st a w)
 (hn: ∀a' w',R w0 mine st' a' w'→next a' w'):o.wp P a w next Q:=by
 obtain ⟨hd,m,H,he⟩:=hr
 have hx:=R.ev H he x
 have hy:=R.ev H he y
 unfold qg0 at hs
 cases ht:tt.get t with
 | none=>simp [ht]at hs
 | some ti=>
   simp only [ht]at hs
   split at hs
   ·rename_i s k i ex ey
    rw [ex]at hx;rw [ey]at hy
    have hxv:a.eval x= .string s:=hx
    have hyv:a.eval y= .int k i:=hy
    split at hs
    ·rename_i hty;cases hs
     have hu:=(hT t ti ht).str hty.1 hty.2
     have hlt:i.toNat<s.size:=by omega
     refine qah hd H he hn (v:= .int .u8 (qxX s i.toNat)) ?_ rfl
     have hg:s[i.toNat]?=some s[i.toNat]:=by simp [hlt]
     simp [execOp,ho,hxv,hyv,Instr.index,asIntOf,run_underlying hu,hp.1,qxX,hlt]
    ·simp at hs
   ·simp at hs
end
end Go.T
