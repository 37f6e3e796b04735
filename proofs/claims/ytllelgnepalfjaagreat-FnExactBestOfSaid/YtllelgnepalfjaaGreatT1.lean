import Derived.Below
set_option linter.unusedSimpArgs false
set_option linter.unusedVariables false
namespace Go.T
inductive Ty
 | int (k:IntKind) | bool | str | hdr | slice (e:Nat) (t:Ty) | pair (a b:Ty)
 deriving DecidableEq
@[reducible] def Val : Ty -> Type
  | .int _=>Int
  | .bool=>Bool
  | .str=>ByteArray
  | .hdr=>Go.Value
  | .slice _ t=>List (Val t)
  | .pair a b=>Val a×Val b
def Ty.sz:Ty->Nat
 | .pair a b=>a.sz+b.sz
 | _=>1
@[reducible] def hd : Ty -> Ty
  | .slice _ _=> .hdr
  | .pair a b=> .pair (hd a) (hd b)
  | .int k=> .int k
  | .bool=> .bool
  | .str=> .str
  | .hdr=> .hdr
def qa:(t:Ty)->Val t
 | .int _=>(0:Int)
 | .bool=>false
 | .str=>ByteArray.empty
 | .hdr=>Go.Value.slice none 0 0
 | .slice _ _=>[]
 | .pair a b=>(qa a,qa b)
inductive LC
 | int (k:IntKind) (n:Int)
 | bool (b:Bool)
 | str (s:ByteArray)
 | hdr (v:Go.Value)
 | sl (e:Nat) (t:Ty) (xs:List (Val t)) (n:Nat)
 | nils
 | nilp
 | own (id:Nat)
 | ptr (id i f:Nat)
 | tptr (t:Ty) (v:Val t) (f n:Nat)
 | fn (f:Nat)
 | clo (f:Nat) (ids:List Nat)
 | undef
structure LV1 where
 agg:Bool
 cs:List LC
inductive LV
 | one (c:LC)
 | agg (cs:List LC)
 | tup (vs:List LV1)
inductive Blk
 | box (cs:List LC)
 | row (e:Nat) (t:Ty) (xs:List (Val t)) (dp mt:Bool) (n:Nat)
 | nst (F:List Nat) (t:Ty) (hs:List (Val (hd t))) (vs:List (Val t))
 | dead
structure St where
 env:List LV
 heap:List Blk
def LV.cells:LV->List LC
 | .one c=>[c]
 | .agg cs=>cs
 | .tup _=>[]
def LV1.lv (v:LV1):LV:=match v.agg,v.cs with
 | false,[c]=> .one c
 | _,cs=> .agg cs
def eu (n:Nat):(t:Ty)->Val t->List LC
 | .int k,v=>[.int k v]
 | .bool,v=>[.bool v]
 | .str,v=>[.str v]
 | .hdr,v=>[.hdr v]
 | .slice e t,v=>[.sl e t v n]
 | .pair a b,v=>eu n a v.1++eu n b v.2
def eS:(t:Ty)->List LC
 | .int k=>[.int k 0]
 | .bool=>[.bool false]
 | .str=>[.str ByteArray.empty]
 | .hdr=>[.hdr (Go.Value.slice none 0 0)]
 | .slice _ _=>[.nils]
 | .pair a b=>eS a++eS b
def qL (h:List Blk):(t:Ty)->List LC->Option (Val t×List LC)
 | .int k,.int c n::r=>if k=c then some (n,r)else none
 | .bool,.bool b::r=>some (b,r)
 | .str,.str s::r=>some (s,r)
 | .hdr,.hdr v::r=>some (v,r)
 | .slice _ _,.nils::r=>some ([],r)
 | .slice e t,.sl e' t' xs _::r=>if he:e'=e/\t'=t then some (he.2▸xs,r)else none
 | .slice e t,.own id::r=>match h[id]? with
   | some (.row e' t' xs _ _ _)=>if he:e'=e/\t'=t then some (he.2▸xs,r)else none
   | _=>none
 | .pair a b,cs=>match qL h a cs with
   | some (x,cs)=>match qL h b cs with
     | some (y,cs)=>some ((x,y),cs)
     | none=>none
   | none=>none
 | _,_=>none
def LC.movedId:LC->Option Nat
 | .own id=>some id
 | _=>none
def qG (cs:List LC):List Nat:=cs.filterMap LC.movedId
def LC.deep (h:List Blk):LC->Bool
 | .sl .. =>false
 | .own id=>match h[id]? with
   | some (.row _ _ _ dp _ _)=>dp
   | _=>false
 | _=>true
def bR (h:List Blk) (cs:List LC):Bool:=cs.all (LC.deep h)
def kill (h:List Blk) (ids:List Nat):List Blk:=ids.foldl (fun h i=>h.set i .dead) h
def Blk.froze:Blk->Blk
 | .row e t xs dp _ n=> .row e t xs dp false n
 | b=>b
def freeze (h:List Blk) (ids:List Nat):List Blk:=ids.foldl (fun h i=>h.modify i Blk.froze) h
structure TI where
 ty:Ty
 agg:Bool
 offs:List (Nat×Nat)
 ints:Bool:=false
abbrev TT:=List (Nat×TI)
def TT.get (tt:TT) (t:Nat):Option TI:=match tt with
 | []=>none
 | (u,ti)::r=>if u=t then some ti else TT.get r t
def LC.isDef:LC->Bool
 | .undef=>false
 | _=>true
def h8 (agg:Bool) (cs:List LC):LV:=match agg,cs with
 | false,[c]=> .one c
 | _,cs=> .agg cs
def nh:Value->LV
 | .int k n=> .one (.int k n)
 | .bool b=> .one (.bool b)
 | .string s=> .one (.str s)
 | .slice none 0 0=> .one .nils
 | .pointer none=> .one .nilp
 | _=> .one .undef
def St.ev (st:St):Operand->LV
 | .tmp t=>st.env.getD t (.one .undef)
 | .const v=>nh v
 | .func f=> .one (.fn f)
 | _=> .one .undef
def St.put (st:St) (d:Option Tmp) (v:LV):St:=match d with
 | some t=>{st with env:=st.env.set t v}
 | none=>st
end Go.T
namespace Go.T
def p0 (op:BinOp) (k:IntKind) (a b:Int):Option LC:=match op with
 | .add=>some (.int k (k.wrap (a+b)))
 | .sub=>some (.int k (k.wrap (a - b)))
 | .mul=>some (.int k (k.wrap (a*b)))
 | .lss=>some (.bool (decide (a<b)))
 | .leq=>some (.bool (decide (a<=b)))
 | .gtr=>some (.bool (decide (b<a)))
 | .geq=>some (.bool (decide (b<=a)))
 | .eql=>some (.bool (decide (a=b)))
 | .neq=>some (.bool (!decide (a=b)))
 | _=>none
def p1 (op:BinOp) (a b:ByteArray):Option LC:=match op with
 | .eql=>some (.bool (a.toList==b.toList))
 | .neq=>some (.bool (!(a.toList==b.toList)))
 | _=>none
def x2:List LC->List LC->Option Bool
 | [.int k a,.int l b],[.int e c,.int l' d]=>if k=e/\l=l' then some (decide (a=c)&&decide (b=d))else none
 | _,_=>none
abbrev Res:=Option (Prop×St)
def St.go (st:St) (d:Option Tmp) (c:LC):Res:=some (True,st.put d (.one c))
def lA (tt:TT) (op:BinOp) (t:Nat) (x y:LV) (d:Option Tmp) (st:St):Res:=
 match x,y with
 | .one (.int k a),.one (.int f b)=>if k=f then match op with
   | .quo=>some (b≠0,st.put d (.one (.int k (k.wrap (a.tdiv b)))))
   | .rem=>some (b≠0,st.put d (.one (.int k (a.tmod b))))
   | op=>match p0 op k a b with
     | some c=>st.go d c
     | none=>none
   else none
 | .one (.str a),.one (.str b)=>match op with
   | .add=>some (a.size+b.size<4611686018427387904,st.put d (.one (.str (a++b))))
   | op=>match p1 op a b with
     | some c=>st.go d c
     | none=>none
 | .one (.bool a),.one (.bool b)=>match tt.get t with
   | some ti=>if ti.ty= .bool/\ti.agg=false then match op with
     | .eql=>st.go d (.bool (a==b))
     | .neq=>st.go d (.bool (!(a==b)))
     | _=>none
     else none
   | none=>none
 | .agg a,.agg b=>match tt.get t with
   | some ti=>if ti.ints=true then match x2 a b with
     | some e=>match op with
       | .eql=>st.go d (.bool e)
       | .neq=>st.go d (.bool (!e))
       | _=>none
     | none=>none
     else none
   | none=>none
 | _,_=>none
def lB (op:UnOp) (x:LV) (d:Option Tmp) (st:St):Res:=match op,x with
 | .neg,.one (.int k n)=>st.go d (.int k (k.wrap (0 - n)))
 | .not,.one (.bool b)=>st.go d (.bool (!b))
 | _,_=>none
def St.new (st:St) (d:Option Tmp) (b:Blk) (c:LC):St:={(st.put d (.one c))with heap:=st.heap++[b]}
def lC (tt:TT) (t:Nat) (x:LV) (d:Option Tmp) (st:St):Res:=match tt.get t with
 | none=>none
 | some ti=>match x with
   | .one (.ptr id i f)=>match st.heap[id]? with
     | some (.box cs)=>some (f+ti.ty.sz<=cs.length,st.put d (h8 ti.agg ((cs.drop f).take ti.ty.sz)))
     | some (.row _ t xs dp _ n)=>some (i<xs.length/\f+ti.ty.sz<=t.sz,st.put d (h8 ti.agg (((eu (bif dp then n+1 else n) t (xs.getD i (qa t))).drop f).take ti.ty.sz)))
     | _=>none
   | .one (.tptr t v f n)=>some (f+ti.ty.sz<=t.sz,st.put d (h8 ti.agg (((eu n t v).drop f).take ti.ty.sz)))
   | _=>none
def bS:(t:Ty)->Val t->Nat->LC->Option (Val t)
 | .int k,_,0,.int d n=>if k=d then some n else none
 | .bool,_,0,.bool b=>some b
 | .str,_,0,.str s=>some s
 | .pair a b,v,f,c=>if f<a.sz then match bS a v.1 f c with
    | some x=>some (x,v.2)
    | none=>none
   else match bS b v.2 (f - a.sz) c with
    | some y=>some (v.1,y)
    | none=>none
 | _,_,_,_=>none
def Ty.flat:Ty->Bool
 | .slice _ _=>false
 | .pair a b=>a.flat&&b.flat
 | _=>true
def lo (h:List Blk) (id:Nat):Nat:=match h[id]? with
 | some (.row _ _ _ true _ n)=>min id n
 | _=>id
def los (h:List Blk) (n:Nat) (ids:List Nat):Nat:=ids.foldl (fun n id=>min n (lo h id)) n
def dc (l:List Nat):Bool:=match l with
 | []=>true
 | x::r=> !r.contains x&&dc r
def lD (tt:TT) (t:Nat) (x y:LV) (st:St):Res:=match tt.get t with
 | none=>none
 | some ti=>match x with
   | .one (.ptr id i f)=>
     let cs:=y.cells
     match st.heap[id]? with
     | some (.box a)=>some (cs.length=ti.ty.sz/\cs.all LC.isDef=true/\f+ti.ty.sz<=a.length,{st with heap:=st.heap.set id (.box (a.take f++cs++a.drop (f+cs.length)))})
     | some (.row e t xs dp true n)=>if ti.agg=false/\ti.ty.flat=true then match cs with
        | [c]=>match bS t (xs.getD i (qa t)) f c with
          | some v=>some (i<xs.length,{st with heap:=st.heap.set id (.row e t (xs.set i v) dp true n)})
          | none=>none
        | _=>none
       else if f=0/\ti.ty=t/\dc (qG cs)=true/\(qG cs).contains id=false/\cs.all LC.isDef=true then match qL st.heap t cs with
           | some (v,[])=>bif dp&&bR st.heap cs then some (i<xs.length,{st with heap:=(kill st.heap (qG cs)).set id (.row e t (xs.set i v) true true (los st.heap n (qG cs)))})
             else some (i<xs.length,{st with heap:=(kill st.heap (qG cs)).set id (.row e t (xs.set i v) false true st.heap.length)})
           | _=>none
        else none
     | _=>none
   | _=>none
def lE (tt:TT) (t f:Nat) (x:LV) (d:Option Tmp) (st:St):Res:=match tt.get t with
 | none=>none
 | some ti=>match x,ti.offs[f]? with
   | .one (.ptr id i g),some o=>match st.heap[id]? with
     | some .dead=>none
     | _=>st.go d (.ptr id i (g+o.1))
   | .one (.tptr t v g n),some o=>st.go d (.tptr t v (g+o.1) n)
   | _,_=>none
def TI.row (ti:TI) (e:Nat) (t:Ty):Bool:= !ti.agg&&match ti.ty with
 | .slice e' t'=>e'==e&&t'.sz==t.sz
 | _=>false
def lF (tt:TT) (t:Nat) (x y:LV) (d:Option Tmp) (st:St):Res:=match tt.get t with
 | none=>none
 | some ti=>match x,y with
   | .one (.sl e t xs n),.one (.int _ i)=>if ti.agg=false/\ti.ty= .slice e t then some (0<=i/\i<xs.length,st.put d (.one (.tptr t (xs.getD i.toNat (qa t)) 0 n)))else none
   | .one (.own id),.one (.int _ i)=>match st.heap[id]? with
     | some (.row e t xs _ _ _)=>if ti.row e t=true then some (0<=i/\i<xs.length,st.put d (.one (.ptr id i.toNat 0)))else none
     | _=>none
   | _,_=>none
def lenOf (ti:TI) (h:List Blk):LV->Option Int
 | .one (.str s)=>if ti.agg=false/\ti.ty= .str then some s.size else none
 | .one (.sl e t xs _)=>if ti.agg=false/\ti.ty= .slice e t then some xs.length else none
 | .one .nils=>match ti.agg,ti.ty with
   | false,.slice _ _=>some 0
   | _,_=>none
 | .one (.own id)=>match h[id]? with
   | some (.row e t xs _ _ _)=>if ti.row e t=true then some xs.length else none
   | _=>none
 | _=>none
def newRow (h:List Blk) (e:Nat) (t:Ty) (xs:List (Val t)) (dp:Bool) (ids:List Nat):List Blk:=
 kill h ids++[.row e t xs dp true (bif dp then los h h.length ids else h.length+1)]
def dF (h:List Blk) (t:Ty):List (List LC)->Option (List (Val t))
 | []=>some []
 | cs::r=>match qL h t cs with
   | some (v,[])=>match dF h t r with
     | some vs=>some (v::vs)
     | none=>none
   | _=>none
def h9 (h:List Blk) (e:Nat) (te:Ty):LV->Option (List (Val te)×Bool×List Nat)
 | .one .nils=>some ([],true,[])
 | .one (.own id)=>match h[id]? with
   | some (.row e' t' xs dp true _)=>if he:e'=e/\t'=te then some (he.2▸xs,dp,[id])else none
   | _=>none
 | _=>none
def lG (h:List Blk) (e:Nat) (te:Ty):LV->Option (List (Val te)×Bool×List Nat)
 | .one .nils=>some ([],true,[])
 | .one (.own id)=>match h[id]? with
   | some (.row e' t' xs dp _ _)=>if he:e'=e/\t'=te then some (he.2▸xs,dp,if te.flat then []else [id])else none
   | _=>none
 | .one (.sl e' t' xs _)=>if he:e'=e/\t'=te then some (he.2▸xs,te.flat,[])else none
 | _=>none
def jE (tt:TT) (t:Nat) (x y:LV) (d:Option Tmp) (st:St):Res:=match tt.get t with
 | none=>none
 | some ti=>match ti.agg,ti.ty with
   | false,.slice e te=>match h9 st.heap e te x with
     | some (xs,d1,i1)=>match lG st.heap e te y with
       | some (ys,d2,i2)=>
         if dc (i1++i2)=true then
          some (xs.length+ys.length<=1048576,{(st.put d (.one (.own st.heap.length)))with heap:=newRow st.heap e te (xs++ys) (te.flat||(d1&&d2)) (i1++i2)})
         else none
       | none=>none
     | none=>none
   | _,_=>none
def x3 (s:ByteArray) (i:Nat):Int:=if h:i<s.size then (s[i].toNat:Int)else 0
def lH (tt:TT) (t:Nat) (x y:LV) (d:Option Tmp) (st:St):Res:=match tt.get t with
 | none=>none
 | some ti=>match x,y with
   | .one (.str s),.one (.int _ i)=>if ti.agg=false/\ti.ty= .str then some (0<=i/\i<s.size,st.put d (.one (.int .u8 (x3 s i.toNat))))else none
   | _,_=>none
def jF (mx:Bool) (x y:LV) (d:Option Tmp) (st:St):Res:=match x,y with
 | .one (.int k a),.one (.int c b)=>if k=c then st.go d (.int k (bif mx then max a b else min a b))else none
 | _,_=>none
def dG (qa:Int):Option LV->Option Int
 | none=>some qa
 | some (.one (.int _ i))=>some i
 | _=>none
def ew (tt:TT) (t:Nat) (x:LV) (lo a:Option LV) (d:Option Tmp) (st:St):Res:=match tt.get t with
 | none=>none
 | some ti=>match x with
   | .one (.str s)=>match dG 0 lo,dG s.size a with
     | some l,some h=>if ti.agg=false/\ti.ty= .str then some (0<=l/\l<=h/\h<=s.size,st.put d (.one (.str (s.extract l.toNat h.toNat))))else none
     | _,_=>none
   | .one (.sl e t xs n)=>match dG 0 lo,dG xs.length a with
     | some l,some h=>if ti.agg=false/\ti.ty= .slice e t then some (0<=l/\l<=h/\h<=xs.length,st.put d (.one (.sl e t ((xs.take h.toNat).drop l.toNat) n)))else none
     | _,_=>none
   | _=>none
def lI (a:List Int):ByteArray:=a.foldl (fun r n=>r.push (UInt8.ofNat n.toNat)) ByteArray.empty
def ni (tt:TT) (b a:TI):Bool:=match b.agg,b.ty with
 | false,.slice e (.int .u8)=>match tt.get e with
   | some tie=> !tie.agg&& !a.agg&&match a.ty with
     | .str=>true
     | _=>false
   | none=>false
 | _,_=>false
def lJ (tt:TT) (s t:Nat) (x:LV) (d:Option Tmp) (st:St):Res:=match tt.get s,tt.get t with
 | some b,some a=>match x with
   | .one (.int _ n)=>match a.agg,a.ty with
     | false,.int k=>st.go d (.int k (k.wrap n))
     | _,_=>none
   | .one (.own id)=>match st.heap[id]? with
     | some (.row _ (.int .u8) xs _ _ _)=>if ni tt b a=true then st.go d (.str (lI xs))else none
     | _=>none
   | .one (.sl _ (.int .u8) xs _)=>if ni tt b a=true then st.go d (.str (lI xs))else none
   | _=>none
 | _,_=>none
def jG (offs:List (Nat×Nat)) (cs:List LC):List (Nat×List LC)->Option (List LC)
 | []=>some cs
 | (i,c)::r=>match offs[i]? with
   | some (f,n)=>if c.length=n/\c.all LC.isDef=true then jG offs (cs.take f++c++cs.drop (f+n)) r else none
   | none=>none
def bz (tt:TT) (o:Oper) (st:St):Res:=
 match o.op with
 | .move x | .assign x=>some (True,st.put o.dst (st.ev x))
 | .pick c a b=>match st.ev c with
   | .one (.bool c)=>match st.ev a,st.ev b with
     | .one (.bool x),.one (.bool y)=>st.go o.dst (.bool (bif c then x else y))
     | x,y=>some (True,st.put o.dst (bif c then x else y))
   | _=>none
 | .alloc t=>match tt.get t with
   | some ti=>some (True,st.new o.dst (.box (eS ti.ty)) (.ptr st.heap.length 0 0))
   | none=>none
 | .box t x=>match tt.get t with
   | some ti=>some ((st.ev x).cells.length=ti.ty.sz/\(st.ev x).cells.all LC.isDef=true,st.new o.dst (.box (st.ev x).cells) (.ptr st.heap.length 0 0))
   | none=>none
 | .build t ps=>match tt.get t with
   | some ti=>if ti.offs.isEmpty=true then none else match jG ti.offs (eS ti.ty) (ps.toList.map fun p=>(p.1,(st.ev p.2).cells))with
     | some cs=>some (True,st.put o.dst (.agg cs))
     | none=>none
   | none=>none
 | .load t x=>lC tt t (st.ev x) o.dst st
 | .store t x y=>match o.dst with
   | none=>lD tt t (st.ev x) (st.ev y) st
   | some _=>none
 | .fieldAddr t x f=>lE tt t f (st.ev x) o.dst st
 | .indexAddr t x y=>lF tt t (st.ev x) (st.ev y) o.dst st
 | .binOp op t x y _=>lA tt op t (st.ev x) (st.ev y) o.dst st
 | .unOp op _ x=>lB op (st.ev x) o.dst st
 | .extract x i=>match st.ev x with
   | .tup vs=>match vs[i]? with
     | some v=>some (True,st.put o.dst v.lv)
     | none=>none
   | _=>none
 | .nilCheck x=>match st.ev x with
   | .one (.ptr id i f)=>match st.heap[id]? with
     | some .dead=>none
     | _=>st.go o.dst (.ptr id i f)
   | _=>none
 | .makeSlice t l c=>match tt.get t,st.ev l,st.ev c with
   | some ti,.one (.int _ n),.one (.int _ m)=>match ti.agg,ti.ty with
     | false,.slice e t=>some (0<=n/\n<=m/\m<=1048576,st.new o.dst (.row e t (List.replicate n.toNat (qa t)) true true st.heap.length) (.own st.heap.length))
     | _,_=>none
   | _,_,_=>none
 | .buildSlice t n ps=>match tt.get t with
   | some ti=>match ti.agg,ti.ty with
     | false,.slice e te=>
       let cs:=ps.toList.map fun p=>(st.ev p.2).cells
       let all:=cs.flatten
       if ps.toList.map (·.1)=List.range n/\n*te.sz<=65536/\dc (qG all)=true/\all.all LC.isDef=true then match dF st.heap te cs with
        | some xs=>some (True,{(st.put o.dst (.one (.own st.heap.length)))with heap:=newRow st.heap e te xs (te.flat||bR st.heap all) (qG all)})
        | none=>none
       else none
     | _,_=>none
   | none=>none
 | .index t x y=>lH tt t (st.ev x) (st.ev y) o.dst st
 | .call c=>match c.callee with
   | .builtin .len=>match c.args.toList,c.argTypes.toList with
     | [x],[t]=>match tt.get t with
       | some ti=>match lenOf ti st.heap (st.ev x)with
         | some n=>st.go o.dst (.int .i64 n)
         | none=>none
       | none=>none
     | _,_=>none
   | .builtin .append=>match c.args.toList,c.argTypes.toList with
     | [x,y],[t,t']=>if t=t' then jE tt t (st.ev x) (st.ev y) o.dst st else none
     | _,_=>none
   | .builtin .max=>match c.args.toList with
     | [x,y]=>jF true (st.ev x) (st.ev y) o.dst st
     | _=>none
   | .builtin .min=>match c.args.toList with
     | [x,y]=>jF false (st.ev x) (st.ev y) o.dst st
     | _=>none
   | _=>none
 | .convert s t x=>lJ tt s t (st.ev x) o.dst st
 | .slice t x lo d none=>ew tt t (st.ev x) (lo.map st.ev) (d.map st.ev) o.dst st
 | _=>none
end Go.T
