import Derived.Test.YtllelgnepalfjaaGreatT3
import Derived.Laws.BytesString
import Derived.Laws.Entries
set_option linter.unusedSimpArgs false
set_option linter.unusedVariables false
namespace Go.T
open Go
section
variable {P : Program} {tt : TT} {o : Oper} {a : Act} {w0 w : World} {mine : Mine} {st : St} {next : Act -> World -> Prop} {Q : Exit -> Act -> World -> Prop}
theorem lN {m:Mp} (hd:a.defers=[]) (H:HR w0 mine w m st.heap) (he:F2 (V w m st.heap) st.env a.tmps.toList) {v:Value} {l:LV} (d:(execOp a.eval o).run P w= .ok (.value v) w) (e:V w m st.heap l v)
 (c: ∀b w',R w0 mine (st.put o.dst l) b w'->next b w'):o.wp P a w next Q:=by
 refine dZ d (c _ _ ⟨by rw [c0];exact hd,m,by rw [St.put_heap];exact H,?_⟩)
 rw [St.put_heap,St.put_env]
 exact dY he _ e
theorem cF {m:Mp} (hd:a.defers=[]) (H:HR w0 mine w m st.heap) (he:F2 (V w m st.heap) st.env a.tmps.toList) {v:Value} {c:LC} (d: ∀b w',R w0 mine (st.put o.dst (.one c)) b w'->next b w')
 (e:(execOp a.eval o).run P w= .ok (.value v) w) (f:C w m st.heap c v):o.wp P a w next Q:=lN hd H he (l:= .one c) e f d
theorem TI.row_spec {ti:TI} {e:Nat} {t:Ty} (h:ti.row e t=true):ti.agg=false/\ ∃t',ti.ty= .slice e t'/\t'.sz=t.sz:=by
 unfold TI.row at h
 simp only [Bool.and_eq_true,Bool.not_eq_true']at h
 refine ⟨h.1,?_⟩
 have h2:=h.2
 split at h2
 ·rename_i e' t' b
  simp only [Bool.and_eq_true,beq_iff_eq]at h2
  obtain ⟨rfl,a⟩:=h2
  exact ⟨t',b,a⟩
 ·simp at h2
theorem Ux (hT:bm P tt) {t:Nat} {x y:Operand} (O:o.op= .indexAddr t x y) {p:Prop} {I:St} (hs:lF tt t (st.ev x) (st.ev y) o.dst st=some (p,I)) (F:p) (U:R w0 mine st a w)
 (E: ∀D w',R w0 mine I D w'->next D w'):o.wp P a w next Q:=by
 obtain ⟨hd,m,H,he⟩:=U
 have f:=R.ev H he x
 have l:=R.ev H he y
 unfold lF at hs
 cases v:tt.get t with
 | none=>simp [v]at hs
 | some ti=>
   have Z:=hT t ti v
   simp only [v]at hs
   have run: ∀{e:Nat} {t':Ty} {k:IntKind} {i:Int} {b:Addr} {n c:Nat},ti.agg=false->ti.ty= .slice e t'->a.eval x= .slice (some b) n c->a.eval y= .int k i->0<=i->i<n->
        (execOp a.eval o).run P w= .ok (.value (.pointer (some (b.add (i.toNat*t'.sz))))) w:=by
    intro e t' k i b n c s d z ac g h
    obtain ⟨hu,tie,Y,aa⟩:=Z.slc s e t' d
    have j:=(hT e tie Y).sizeOf w
    rw [aa]at j
    simp [execOp,O,z,ac,Instr.indexAt,asIntOf,run_underlying hu,g,h,j]
   split at hs
   ·rename_i e t' xs n k i ex q
    rw [ex]at f;rw [q]at l
    have B:a.eval y= .int k i:=l
    obtain ⟨A,c,z,M,W⟩:=f
    split at hs
    ·rename_i d
     cases hs
     obtain ⟨g,h⟩:=F
     have hlen:i.toNat<xs.length:=by omega
     obtain ⟨b,cs,r,S,hk,K⟩:=W i.toNat xs[i.toNat] (by simp [hlen])
     subst r
     refine lN hd H he (run d.1 d.2 z B g h) ?_ E
     show C w m st.heap (.tptr _ _ _ _) _
     simp only [C]
     refine ⟨b.add (i.toNat*t'.sz),cs,by rw [jH,Nat.add_zero],?_,K,by rw [ia];exact S⟩
     rw [show xs.getD i.toNat (qa t')=xs[i.toNat] by simp [List.getD,hlen]]
     exact hk
    ·simp at hs
   ·rename_i id k i ex q
    rw [ex]at f;rw [q]at l
    have B:a.eval y= .int k i:=l
    split at hs
    ·rename_i e t' xs dp mt n u
     split at hs
     ·rename_i X
      obtain ⟨s,t2,d,j⟩:=TI.row_spec X
      cases hs
      obtain ⟨g,h⟩:=F
      simp only [V,C,u]at f
      obtain ⟨inner,T,_⟩:=H.br id _ u
      obtain ⟨A,c,ab,M,r,N⟩:=gP T
      cases A with
      | none=>have:=N rfl;omega
      | some b=>
        obtain ⟨L,J⟩:=r b rfl
        rw [ab]at f
        have G:=run s d f B g h
        rw [j]at G
        refine lN hd H he G ?_ E
        show C w m st.heap (.ptr _ _ _) _
        simp only [C,u]
        exact ⟨b.block,L,by rw [J,nr];rfl⟩
     ·simp at hs
    ·simp at hs
   ·simp at hs
theorem Uy {op:BinOp} {k:IntKind} {i j:Int} {c:LC} (h:p0 op k i j=some c) (t:TypeId) (x y:Operand) (w:World):
 ∃v,(do eqGuard op t x y (.int k i) (.int k j);binOp op t (.int k i) (.int k j)).run P w= .ok v w/\ ∀w m h,C w m h c v:=by
 cases op<;>simp only [p0,reduceCtorEq,Option.some.injEq]at h<;>subst h<;>refine ⟨_,by simp [eqGuard,binOp,Op.intArith,Op.intCmp];rfl,fun _ _ _=> ?_⟩<;>simp only [C]<;>first | rfl | skip
 all_goals trace_state
theorem Uz {op:BinOp} {i j:ByteArray} {c:LC} (h:p1 op i j=some c) (t:TypeId) (x y:Operand) (w:World):
 ∃v,(do eqGuard op t x y (.string i) (.string j);binOp op t (.string i) (.string j)).run P w= .ok v w/\ ∀w m h,C w m h c v:=by
 cases op<;>simp only [p1,reduceCtorEq,Option.some.injEq]at h<;>subst h<;>refine ⟨_,by simp [eqGuard,binOp,Op.stringOp];rfl,fun _ _ _=> ?_⟩<;>simp only [C]<;>rfl
theorem IL {t:TypeId} (hu:P.underlying t=some .bool) (i j:Bool) (w:World):(Op.equal t (.bool i) (.bool j)).run P w= .ok (i==j) w:=by
 have h: ∀d,(Op.equalIn (d+1) t (.bool i) (.bool j)).run P w= .ok (i==j) w:=fun d=>by simp [Op.equalIn,run_underlying hu]
 exact h 9999
theorem IM {m:Mp} {h:List Blk} {k l:IntKind} {i j:Int}: ∀{us:Array Value},F2 (C w m h) [.int k i,.int l j] us.toList->us= #[.int k i,.int l j]
 | ⟨us⟩,a=>by
   simp only at a
   match us,a with
   | [u,v],.cons c1 (.cons c2 .nil)=>simp only [C]at c1 c2;subst c1;subst c2;rfl
theorem UA {t : TypeId} {f g : Field} {k l : IntKind} (hu : P.underlying t = some (.struct #[f, g])) (z : P.stoodInHeld t = false) (r : f.offset = 0) (u : g.offset = 1) (s : f.name ≠ "_") (v : g.name ≠ "_")
 (j:P.underlying f.type=some (.int k)) (m:P.underlying g.type=some (.int l)) (k1 c:IntKind) (a b e i:Int) (w:World):
 (Op.equal t (.agg #[.int k1 a,.int c b]) (.agg #[.int k1 e,.int c i])).run P w= .ok (decide (a=e)&&decide (b=i)) w:=by
 have h1: ∀d (x y:Int),(Op.equalIn (d+1) f.type (.int k1 x) (.int k1 y)).run P w= .ok (x==y) w:=fun d x y=>by simp [Op.equalIn,run_underlying j]
 have h2: ∀d (x y:Int),(Op.equalIn (d+1) g.type (.int c x) (.int c y)).run P w= .ok (x==y) w:=fun d x y=>by simp [Op.equalIn,run_underlying m]
 have n:(isAgg f.type).run P w= .ok false w:=by simp [isAgg,run_underlying j]
 have o:(isAgg g.type).run P w= .ok false w:=by simp [isAgg,run_underlying m]
 have h: ∀d,(Op.equalIn (d+2) t (.agg #[.int k1 a,.int c b]) (.agg #[.int k1 e,.int c i])).run P w= .ok (decide (a=e)&&decide (b=i)) w:=fun d=>by
  rw [show d+2=(d+1)+1 from rfl,Op.equalIn]
  simp only [Sem.run_bind,run_underlying hu,Result.andThen_ok]
  by_cases p:a=e<;>by_cases q:b=i<;>simp [z,r,u,s,v,part,n,o,h1,h2,p,q]
 exact h 9998
theorem UB (hT:bm P tt) {op:BinOp} {t ty:Nat} {x y:Operand} (d:o.op= .binOp op t x y ty) {p:Prop} {N:St} (hs:lA tt op t (st.ev x) (st.ev y) o.dst st=some (p,N)) (J:p) (Z:R w0 mine st a w)
 (b: ∀F w',R w0 mine N F w'->next F w'):o.wp P a w next Q:=by
 obtain ⟨hd,m,H,he⟩:=Z
 have q:=R.ev H he x
 have r:=R.ev H he y
 unfold lA at hs
 split at hs
 ·rename_i k i af j ex s
  rw [ex]at q;rw [s]at r
  have h:a.eval x= .int k i:=q
  have n:a.eval y= .int af j:=r
  split at hs
  ·rename_i hk
   subst hk
   split at hs
   ·cases hs
    refine cF hd H he b (v:= .int k (k.wrap (i.tdiv j))) ?_ rfl
    simp [execOp,d,h,n,eqGuard,binOp,Op.intDiv,J]
   ·cases hs
    refine cF hd H he b (v:= .int k (i.tmod j)) ?_ rfl
    simp [execOp,d,h,n,eqGuard,binOp,Op.intDiv,J]
   ·split at hs
    ·rename_i c A
     cases hs
     obtain ⟨v,B,C⟩:=Uy (P:=P) A t x y w
     refine cF hd H he b (v:=v) ?_ (C _ _ _)
     simp only [execOp,d,h,n]
     rw [Sem.run_bind,B];rfl
    ·simp at hs
  ·simp at hs
 ·rename_i i j ex s
  rw [ex]at q;rw [s]at r
  have h:a.eval x= .string i:=q
  have n:a.eval y= .string j:=r
  split at hs
  ·cases hs
   refine cF hd H he b (v:= .string (i++j)) ?_ rfl
   have: ¬(9223372036854775807:Int)<(i.size:Int)+(j.size:Int):=by omega
   simp [execOp,d,h,n,eqGuard,binOp,Op.stringOp,IntKind.max,IntKind.signed,IntKind.bits,this]
  ·split at hs
   ·rename_i c A
    cases hs
    obtain ⟨v,B,C⟩:=Uz (P:=P) A t x y w
    refine cF hd H he b (v:=v) ?_ (C _ _ _)
    simp only [execOp,d,h,n]
    rw [Sem.run_bind,B];rfl
   ·simp at hs
 ·rename_i i j ex s
  rw [ex]at q;rw [s]at r
  have h:a.eval x= .bool i:=q
  have n:a.eval y= .bool j:=r
  cases u:tt.get t with
  | none=>simp [u]at hs
  | some ti=>
    simp only [u]at hs
    split at hs
    ·rename_i K
     have hu:=(hT t ti u).bool K.2 K.1
     cases op<;>simp only [reduceCtorEq]at hs
     ·cases hs
      refine cF hd H he b (v:= .bool (i==j)) ?_ rfl
      simp [execOp,d,h,n,eqGuard,binOp,IL hu]
     ·cases hs
      refine cF hd H he b (v:= .bool (!(i==j))) ?_ rfl
      simp [execOp,d,h,n,eqGuard,binOp,IL hu]
    ·simp at hs
 ·rename_i a_s bs ex s
  rw [ex]at q;rw [s]at r
  cases u:tt.get t with
  | none=>simp [u]at hs
  | some ti=>
    simp only [u]at hs
    split at hs
    ·rename_i X
     obtain ⟨f,g,k,l,hu,aa,I,O,V,S,W,ab,ac⟩:=(hT t ti u).ints X
     split at hs
     ·rename_i e z
      obtain ⟨us,L,T⟩:=q
      obtain ⟨vs,M,U⟩:=r
      unfold x2 at z
      split at z
      ·rename_i k1 i1 ag i2 k2 D ah E
       split at z
       ·rename_i Y
        obtain ⟨rfl,rfl⟩:=Y
        cases z
        have ad:=IM T
        have ae:=IM U
        subst ad;subst ae
        have G:=fun w=>UA (P:=P) (w:=w) hu aa O V S W ab ac k1 ag i1 i2 D E
        cases op<;>simp only [reduceCtorEq]at hs
        ·cases hs
         refine cF hd H he b (v:= .bool (decide (i1=D)&&decide (i2=E))) ?_ rfl
         simp [execOp,d,L,M,eqGuard,binOp,G,I]
        ·cases hs
         refine cF hd H he b (v:= .bool (!(decide (i1=D)&&decide (i2=E)))) ?_ rfl
         simp [execOp,d,L,M,eqGuard,binOp,G,I]
       ·simp at z
      ·simp at z
     ·simp at hs
    ·simp at hs
 ·simp at hs
theorem UC {op:UnOp} {t:Nat} {x:Operand} (g:o.op= .unOp op t x) {p:Prop} {h:St} (hs:lB op (st.ev x) o.dst st=some (p,h)) (j:R w0 mine st a w)
 (f: ∀e w',R w0 mine h e w'->next e w'):o.wp P a w next Q:=by
 obtain ⟨hd,m,H,he⟩:=j
 have c:=R.ev H he x
 unfold lB at hs
 split at hs
 ·rename_i k i ex
  rw [ex]at c
  have d:a.eval x= .int k i:=c
  cases hs
  refine cF hd H he f (v:= .int k (k.wrap (0 - i))) ?_ rfl
  simp [execOp,g,d,Op.unary,Op.intArith]
 ·rename_i b ex
  rw [ex]at c
  have d:a.eval x= .bool b:=c
  cases hs
  refine cF hd H he f (v:= .bool (!b)) ?_ rfl
  simp [execOp,g,d,Op.unary]
 ·simp at hs
theorem rb {w:World} {m:Mp} {h:List Blk} {l:LV1} {v:Value} (a:V1 w m h l v):V w m h l.lv v:=by
 unfold V1 at a
 unfold LV1.lv
 split at a
 ·rename_i e;rw [e];exact a
 ·rename_i e
  obtain ⟨c,d,b,_⟩:=a
  rw [e,d];exact b
theorem UD {x:Operand} {i:Nat} {vs:List LV1} {l:LV1} (h:o.op= .extract x i) (ex:st.ev x= .tup vs) (f:vs[i]?=some l) (j:R w0 mine st a w)
 (g: ∀b w',R w0 mine (st.put o.dst l.lv) b w'->next b w'):o.wp P a w next Q:=by
 obtain ⟨hd,m,H,he⟩:=j
 have c:=R.ev H he x
 rw [ex]at c
 obtain ⟨us,k,e⟩:=c
 obtain ⟨u,hu,d⟩:=e.get f
 refine lN hd H he (v:=u) ?_ (rb d) g
 simp only [Array.getElem?_toList]at hu
 simp [execOp,h,k,Instr.extract,hu]
theorem UE {x:Operand} {id i f:Nat} (p:o.op= .nilCheck x) (ex:st.ev x= .one (.ptr id i f)) (k:st.heap[id]?≠some .dead) (r:R w0 mine st a w)
 (l: ∀h w',R w0 mine (st.put o.dst (.one (.ptr id i f))) h w'->next h w'):o.wp P a w next Q:=by
 obtain ⟨hd,m,H,he⟩:=r
 have c:=R.ev H he x
 rw [ex]at c
 have q: ∃j,a.eval x= .pointer (some j):=by
  simp only [V,C]at c
  cases d:st.heap[id]? with
  | none=>rw [d]at c;exact c.elim
  | some b=>
    rw [d]at c
    cases b with
    | box cs=>exact ⟨_,c.2⟩
    | row e t xs dp mt n=>obtain ⟨g,_,s⟩:=c;exact ⟨_,s⟩
    | nst=>exact c.elim
    | dead=>exact absurd d k
 obtain ⟨j,u⟩:=q
 refine lN hd H he (v:=a.eval x) ?_ c l
 simp [execOp,p,u]
theorem UF (hT:bm P tt) {c:Call} {t:Nat} {ti:TI} {x:Operand} {n:Int} (z:o.op= .call c) (u:c.callee= .builtin .len) (q:c.args= #[x]) (r:c.argTypes= #[t]) (F:tt.get t=some ti)
 (b:lenOf ti st.heap (st.ev x)=some n) (D:R w0 mine st a w) (y: ∀j w',R w0 mine (st.put o.dst (.one (.int .i64 n))) j w'->next j w'):o.wp P a w next Q:=by
 obtain ⟨hd,m,H,he⟩:=D
 have d:=R.ev H he x
 have h:=hT t ti F
 have key:(Builtin.len_ #[t] o.type #[a.eval x]).run P w= .ok (.int .i64 n) w:=by
  unfold lenOf at b
  split at b
  ·rename_i s ex
   rw [ex]at d
   have g:a.eval x= .string s:=d
   split at b
   ·rename_i f;cases b
    simp [Builtin.len_,run_underlying (h.str f.1 f.2),g,goInt]
   ·simp at b
  ·rename_i e t' xs k ex
   rw [ex]at d
   obtain ⟨A,p,g,_⟩:=d
   split at b
   ·rename_i f;cases b
    obtain ⟨hu,_⟩:=h.slc f.1 _ _ f.2
    simp [Builtin.len_,run_underlying hu,g,goInt]
   ·simp at b
  ·rename_i ex
   rw [ex]at d
   have g:a.eval x= .slice none 0 0:=d
   split at b
   ·rename_i e te i f;cases b
    obtain ⟨hu,_⟩:=h.slc i _ _ f
    simp [Builtin.len_,run_underlying hu,g,goInt]
   ·simp at b
  ·rename_i id ex
   rw [ex]at d
   split at b
   ·rename_i e t' xs dp mt k l
    simp only [V,C,l]at d
    obtain ⟨inner,B,_⟩:=H.br id _ l
    obtain ⟨A,p,G,_⟩:=gP B
    rw [G]at d
    split at b
    ·rename_i E;cases b
     obtain ⟨i,t2,f,_⟩:=TI.row_spec E
     obtain ⟨hu,_⟩:=h.slc i _ _ f
     simp [Builtin.len_,run_underlying hu,d,goInt]
    ·simp at b
   ·simp at b
  ·simp at b
 refine cF hd H he y (v:= .int .i64 n) ?_ rfl
 simp [execOp,z,resolve,u,q,r,invoke,builtin,key]
theorem IN {c:Call} {mx:Bool} {x y:Operand} (i:o.op= .call c) (g:c.callee= .builtin (bif mx then .max else .min)) (f:c.args= #[x,y]) {p:Prop} {s:St} (hs:jF mx (st.ev x) (st.ev y) o.dst st=some (p,s)) (u:R w0 mine st a w)
 (h: ∀d w',R w0 mine s d w'->next d w'):o.wp P a w next Q:=by
 obtain ⟨hd,m,H,he⟩:=u
 have j:=R.ev H he x
 have q:=R.ev H he y
 unfold jF at hs
 split at hs
 ·rename_i k n z b ex t
  rw [ex]at j
  rw [t]at q
  have l:a.eval x= .int k n:=j
  have r:a.eval y= .int z b:=q
  split at hs
  ·rename_i e
   subst e
   cases hs
   cases mx with
   | true=>
     refine cF hd H he h (v:= .int k (max n b)) ?_ rfl
     have:(if b>n then b else n)=max n b:=by rw [Int.max_def];split<;>split<;>omega
     simp [execOp,i,resolve,g,f,invoke,builtin,l,r,Builtin.max_,Builtin.max2,this]
   | false=>
     refine cF hd H he h (v:= .int k (min n b)) ?_ rfl
     have:(if b<n then b else n)=min n b:=by rw [Int.min_def];split<;>split<;>omega
     simp [execOp,i,resolve,g,f,invoke,builtin,l,r,Builtin.min_,Builtin.min2,this]
  ·simp at hs
 ·simp at hs
theorem re {m:Mp} {qa i:Int} {b:Option Operand} {y:Nat} {code:BoundsCode} (H:HR w0 mine w m st.heap) (he:F2 (V w m st.heap) st.env a.tmps.toList) (c:dG qa (b.map st.ev)=some i) (f:0<=i) (h1:i<=y) (hd:b=none->qa=i):
 (match b.map a.eval with
   | some v=>Instr.sliceBound v y code
   | none=>(pure qa.toNat:Sem Nat)).run P w= .ok i.toNat w:=by
 cases b with
 | none=>simp [hd rfl]
 | some x=>
   have d:=R.ev H he x
   simp only [Option.map_some,dG]at c
   split at c
   ·simp at*
   ·rename_i k j e
    simp only [Option.some.injEq]at e c
    rw [e]at d
    have g:a.eval x= .int k j:=d
    subst c
    simp [Instr.sliceBound,g,asIntOf,f,h1]
   ·simp at c
theorem IP (hT:bm P tt) {m:Mp} {t:Nat} {x:Operand} {lo d:Option Operand} (E:o.op= .slice t x lo d none) {ti:TI} (L:TIok P tt t ti) {e:Nat} {te:Ty} {xs:List (Val te)} {n:Nat} (hd:a.defers=[]) (H:HR w0 mine w m st.heap) (he:F2 (V w m st.heap) st.env a.tmps.toList)
 (M:C w m st.heap (.sl e te xs n) (a.eval x)) {l h:Int} (p:dG 0 (lo.map st.ev)=some l) (k:dG xs.length (d.map st.ev)=some h) (r:ti.agg=false/\ti.ty= .slice e te) (G:0<=l/\l<=h/\h<=xs.length)
 (B: ∀f w',R w0 mine (st.put o.dst (.one (.sl e te ((xs.take h.toNat).drop l.toNat) n))) f w'->next f w'):o.wp P a w next Q:=by
 obtain ⟨A,b,N,hlen,I⟩:=M
 obtain ⟨u,h1,h2⟩:=G
 obtain ⟨hu,tie,J,K⟩:=L.slc r.1 _ _ r.2
 have q:=(hT e tie J).sizeOf w
 rw [K]at q
 have g:=re (P:=P) (y:=b) (code:= .sliceAcap) H he k (by omega) (by omega) (fun e=>by subst e;simpa [dG] using k)
 have j:=re (P:=P) (y:=h.toNat) (code:= .sliceB) H he p u (by omega) (fun e=>by subst e;simpa [dG] using p)
 simp only [Int.toNat_natCast,Int.toNat_zero]at g j
 refine cF hd H he B (v:= .slice (if b=l.toNat then A else A.map (·.add (l.toNat*te.sz))) (h.toNat - l.toNat) (b - l.toNat)) ?_ ⟨(if b=l.toNat then A else A.map (·.add (l.toNat*te.sz))),b - l.toNat,?_,?_,?_⟩
 ·simp only [execOp,E,Instr.sliceAt,Sem.run_bind,run_underlying hu,Result.andThen_ok,Option.map_none,N,Instr.slice,Instr.sliceBounds,Sem.run_pure,g,j,q]
  cases d<;>cases lo<;>simp_all [Instr.sliceBounds]
 ·congr 1
  simp;omega
 ·simp;omega
 ·intro i y c
  have S:i<h.toNat - l.toNat:=by
   have:=(List.getElem?_eq_some_iff.1 c).1
   simp at this;omega
  have O:xs[l.toNat+i]?=some y:=by
   rw [List.getElem?_drop,List.getElem?_take]at c
   rw [if_pos (by omega)]at c
   exact c
  obtain ⟨s,cs,rfl,F,hk,z⟩:=I _ y O
  have D: ¬b=l.toNat:=by omega
  refine ⟨s.add (l.toNat*te.sz),cs,by simp [D],by rw [ia];exact F,hk,?_⟩
  rw [jH,<-Nat.add_mul]
  exact z
theorem IQ (hT:bm P tt) {t:Nat} {x:Operand} {lo g:Option Operand} (r:o.op= .slice t x lo g none) {p:Prop} {A:St} (hs:ew tt t (st.ev x) (lo.map st.ev) (g.map st.ev) o.dst st=some (p,A)) (u:p) (C:R w0 mine st a w)
 (q: ∀i w',R w0 mine A i w'->next i w'):o.wp P a w next Q:=by
 obtain ⟨hd,m,H,he⟩:=C
 have f:=R.ev H he x
 unfold ew at hs
 split at hs
 ·simp at hs
 ·rename_i ti D
  have z:=hT t ti D
  split at hs
  ·rename_i s ex
   rw [ex]at f
   have E:a.eval x= .string s:=f
   split at hs
   ·rename_i l h c b
    split at hs
    ·rename_i d
     cases hs
     obtain ⟨B,h1,h2⟩:=u
     refine cF hd H he q (v:= .string (s.extract l.toNat h.toNat)) ?_ rfl
     have j:=re (P:=P) (y:=s.size) (code:= .sliceAlen) H he b (by omega) h2 (fun e=>by subst e;simpa [dG] using b)
     have k:=re (P:=P) (y:=h.toNat) (code:= .sliceB) H he c B (by omega) (fun e=>by subst e;simpa [dG] using c)
     simp only [Int.toNat_natCast,Int.toNat_zero]at j k
     simp only [execOp,r,Instr.sliceAt,Sem.run_bind,run_underlying (z.str d.1 d.2),Result.andThen_ok,Option.map_none,E,Instr.slice,Option.isSome_none,Bool.false_eq_true,if_false,Instr.sliceBounds,Sem.run_pure,j,k]
     cases g<;>cases lo<;>simp_all [Instr.sliceBounds]
    ·simp at hs
   ·simp at hs
  ·rename_i e te xs n ex
   rw [ex]at f
   split at hs
   ·rename_i l h c b
    split at hs
    ·rename_i d
     cases hs
     exact IP hT r z hd H he f c b d u q
    ·simp at hs
   ·simp at hs
  ·simp at hs
theorem IS {A:Option Addr} {c:Nat} {xs:List (Val (.int .u8))} {ok:Nat->Prop} (f:Rd w ok 1 (K w ok (.int .u8)) A xs):(Conv.bytesToString (.slice A xs.length c)).run P w= .ok (.string (lI xs)) w:=by
 cases A with
 | none=>
   have d:xs=[]:=by
    cases xs with
    | nil=>rfl
    | cons x r=>
      obtain ⟨a,_,h,_⟩:=f 0 x rfl
      simp at h
   subst d
   simp [Conv.bytesToString,lI]
 | some a=>
   refine run_bytesToString w a xs.length c xs ?_
   have e: ∀j v,(List.map (α:=Int) (Value.int .u8) xs)[j]?=some v->w.cell? (a.add j)=some v:=fun j v b=>by
    rw [List.getElem?_map]at b
    cases d:xs[j]? with
    | none=>rw [d]at b;simp at b
    | some x=>
      rw [d]at b
      obtain ⟨i,cs,g,_,hk,e⟩:=f j x d
      cases g
      have hk:cs=[.int .u8 x]:=hk
      subst hk
      have:=e 0 (.int .u8 x) rfl
      rw [jH,Nat.mul_one,Nat.add_zero]at this
      rw [this]
      exact b
   have:=run_loadCells_list (P:=P) w a _ e
   simpa using this
theorem IT (hT:bm P tt) {s t:Nat} {b a:TI} (hs:tt.get s=some b) (j:tt.get t=some a) (h:ni tt b a=true): ∃e,P.underlying s=some (.slice e)/\P.underlying e=some (.int .u8)/\P.underlying t=some .string:=by
 unfold ni at h
 split at h
 ·rename_i e g k
  split at h
  ·rename_i tie d
   simp only [Bool.and_eq_true,Bool.not_eq_true']at h
   obtain ⟨⟨h1,h2⟩,c⟩:=h
   split at c
   ·rename_i i
    obtain ⟨hu,m,f,l⟩:=(hT s b hs).slc g e _ k
    rw [d]at f;cases f
    exact ⟨e,hu,(hT e tie d).int h1 _ l,(hT t a j).str h2 i⟩
   ·simp at c
  ·simp at h
 ·simp at h
theorem UG (hT:bm P tt) {s t:Nat} {x:Operand} (j:o.op= .convert s t x) {p:Prop} {G:St} (hs:lJ tt s t (st.ev x) o.dst st=some (p,G)) (L:R w0 mine st a w)
 (i: ∀D w',R w0 mine G D w'->next D w'):o.wp P a w next Q:=by
 obtain ⟨hd,m,H,he⟩:=L
 have d:=R.ev H he x
 unfold lJ at hs
 split at hs
 ·rename_i T S r q
  split at hs
  ·rename_i k n ex
   rw [ex]at d
   have B:a.eval x= .int k n:=d
   split at hs
   ·rename_i g I M
    cases hs
    refine cF hd H he i (v:= .int g (g.wrap n)) ?_ rfl
    have hu:=(hT t S q).int I _ M
    obtain ⟨U,N,_⟩:=(hT s T r).desc
    simp only [execOp,j,B,Sem.run_bind]
    have:(convert s t (.int k n)).run P w= .ok (.int g (g.wrap n)) w:=by
     simp only [convert,Sem.run_bind,run_underlying N,run_underlying hu,Result.andThen_ok,Conv.intToInt]
     rfl
    simp [this]
   ·simp at hs
  ·rename_i id ex
   rw [ex]at d
   split at hs
   ·rename_i e xs dp mt k E
    split at hs
    ·rename_i h
     cases hs
     obtain ⟨e',u,y,z⟩:=IT hT r q h
     simp only [V,C,E]at d
     obtain ⟨inner,J,F⟩:=H.br id _ E
     obtain ⟨A,f,O,W,l⟩:=p2 (ok:=fun _=>True) (R:=K w (fun _=>True) (.int .u8)) J (fun x c d=>cE d) (by
            cases dp with
            | true=>exact F.1.toKs fun x c b _ d=>M_K d fun _ _=>trivial
            | false=>exact F.imp fun x c hk=>cv (fun _ _ _=>rfl) (fun _ _ _=>trivial) hk) (fun _ _=>trivial)
     refine cF hd H he i (v:= .string (lI xs)) ?_ rfl
     have h1:=IS (P:=P) (c:=f) l
     have h2:=run_convert_bytes_string (P:=P) w s t e' A xs.length f u y z
     rw [h1]at h2
     rw [O]at d
     simp [execOp,j,d,h2]
    ·simp at hs
   ·simp at hs
  ·rename_i e xs n ex
   rw [ex]at d
   obtain ⟨A,f,B,hlen,l⟩:=d
   split at hs
   ·rename_i h
    cases hs
    obtain ⟨e',u,y,z⟩:=IT hT r q h
    refine cF hd H he i (v:= .string (lI xs)) ?_ rfl
    have h1:=IS (P:=P) (c:=f) l
    have h2:=run_convert_bytes_string (P:=P) w s t e' A xs.length f u y z
    rw [h1]at h2
    simp [execOp,j,B,h2]
   ·simp at hs
  ·simp at hs
 ·simp at hs
theorem UH (hT:bm P tt) {t:Nat} {x y:Operand} (n:o.op= .index t x y) {p:Prop} {h:St} (hs:lH tt t (st.ev x) (st.ev y) o.dst st=some (p,h)) (q:p) (r:R w0 mine st a w)
 (l: ∀c w',R w0 mine h c w'->next c w'):o.wp P a w next Q:=by
 obtain ⟨hd,m,H,he⟩:=r
 have f:=R.ev H he x
 have g:=R.ev H he y
 unfold lH at hs
 cases b:tt.get t with
 | none=>simp [b]at hs
 | some ti=>
   simp only [b]at hs
   split at hs
   ·rename_i s k i ex j
    rw [ex]at f;rw [j]at g
    have u:a.eval x= .string s:=f
    have z:a.eval y= .int k i:=g
    split at hs
    ·rename_i e;cases hs
     have hu:=(hT t ti b).str e.1 e.2
     have d:i.toNat<s.size:=by omega
     refine cF hd H he l (v:= .int .u8 (x3 s i.toNat)) ?_ rfl
     have A:s[i.toNat]?=some s[i.toNat]:=by simp [d]
     simp [execOp,n,u,z,Instr.index,asIntOf,run_underlying hu,q.1,x3,d]
    ·simp at hs
   ·simp at hs
end
end Go.T
