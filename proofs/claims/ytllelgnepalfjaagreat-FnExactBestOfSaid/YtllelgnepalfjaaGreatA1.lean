import Derived.Test.YtllelgnepalfjaaGreatT13
import Derived.KernelRfl
import Derived.Test.YtllelgnepalfjaaGreatProg
set_option linter.unusedSimpArgs false
set_option linter.unusedVariables false
namespace Go.T
open Go Go.Proofs
abbrev Y56:Ty:= .pair (.slice 3 (.int .i64)) (.pair (.int .i64) .bool)
abbrev Y24:Ty:= .pair (.int .i64) (.slice 56 Y56)
abbrev Y28:Ty:= .pair (.int .i64) (.int .i64)
abbrev Y31:Ty:= .pair (.int .i64) (.pair Y28 (.pair .bool (.pair (.slice 28 Y28) (.pair (.slice 28 Y28) (.slice 3 (.int .i64))))))
abbrev Y68:Ty:= .pair (.slice 3 (.int .i64)) (.pair (.int .i64) .bool)
abbrev Y35:Ty:= .pair (.int .i64) (.slice 68 Y68)
abbrev Y60:Ty:= .pair .bool (.pair Y28 (.pair .bool (.pair .bool (.pair Y28 (.pair .bool .bool)))))
abbrev qv:Ty:= .pair (.slice 3 (.int .i64)) (.pair (.int .i64) (.pair .bool (.slice 3 (.int .i64))))
abbrev i3:TI:=⟨.int .i64,false,[],false⟩
abbrev i4:TI:=⟨.bool,false,[],false⟩
abbrev i22:TI:=⟨.slice 56 Y56,false,[],false⟩
abbrev i24:TI:=⟨Y24,true,[(0,1),(1,1)],false⟩
abbrev i25:TI:=⟨.slice 3 (.int .i64),false,[],false⟩
abbrev i28:TI:=⟨Y28,true,[(0,1),(1,1)],true⟩
abbrev i29:TI:=⟨.slice 28 Y28,false,[],false⟩
abbrev i31:TI:=⟨Y31,true,[(0,1),(1,2),(3,1),(4,1),(5,1),(6,1)],false⟩
abbrev i33:TI:=⟨.slice 68 Y68,false,[],false⟩
abbrev i35:TI:=⟨Y35,true,[(0,1),(1,1)],false⟩
abbrev i56:TI:=⟨Y56,true,[(0,1),(1,1),(2,1)],false⟩
abbrev i60:TI:=⟨Y60,true,[(0,1),(1,2),(3,1),(4,1),(5,2),(7,1),(8,1)],false⟩
abbrev i68:TI:=⟨Y68,true,[(0,1),(1,1),(2,1)],false⟩
abbrev i92:TI:=⟨.slice 35 Y35,false,[],false⟩
abbrev i98:TI:=⟨.slice 100 qv,false,[],false⟩
abbrev bE:TI:=⟨qv,true,[(0,1),(1,1),(2,1),(3,1)],false⟩
abbrev b5:TI:=⟨.slice 111 (.slice 3 (.int .i64)),false,[],false⟩
abbrev cw:TI:=⟨.slice 3 (.int .i64),false,[],false⟩
abbrev so:TI:=⟨.int .u64,false,[],false⟩
abbrev sp:TI:=⟨.int .i64,false,[],false⟩
abbrev sq:TI:=⟨.int .u64,false,[],false⟩
abbrev ss:TI:=⟨.int .u64,false,[],false⟩
def tt:TT:=[(3,i3),(4,i4),(22,i22),(24,i24),(25,i25),(28,i28),(29,i29),(31,i31),(33,i33),(35,i35),(56,i56),(60,i60),(68,i68),(92,i92),(98,i98),(100,bE),(110,b5),(111,cw),(134,so),(136,sp),(146,sq),(147,ss)]
@[simp] theorem tt3 : TT.get tt 3 = some i3 := rfl
@[simp] theorem tt4 : TT.get tt 4 = some i4 := rfl
@[simp] theorem q51 : TT.get tt 22 = some i22 := rfl
@[simp] theorem q4C : TT.get tt 24 = some i24 := rfl
@[simp] theorem q4V : TT.get tt 25 = some i25 := rfl
@[simp] theorem q4Y : TT.get tt 28 = some i28 := rfl
@[simp] theorem q5S : TT.get tt 29 = some i29 := rfl
@[simp] theorem q5I : TT.get tt 31 = some i31 := rfl
@[simp] theorem q53 : TT.get tt 33 = some i33 := rfl
@[simp] theorem q31 : TT.get tt 35 = some i35 := rfl
@[simp] theorem q3P : TT.get tt 56 = some i56 := rfl
@[simp] theorem q4U : TT.get tt 60 = some i60 := rfl
@[simp] theorem q4J : TT.get tt 68 = some i68 := rfl
@[simp] theorem q4E : TT.get tt 92 = some i92 := rfl
@[simp] theorem q4Z : TT.get tt 98 = some i98 := rfl
@[simp] theorem q40 : TT.get tt 100 = some bE := rfl
@[simp] theorem q5A : TT.get tt 110 = some b5 := rfl
@[simp] theorem q5X : TT.get tt 111 = some cw := rfl
@[simp] theorem q5r : TT.get tt 134 = some so := rfl
@[simp] theorem q4T : TT.get tt 136 = some sp := rfl
@[simp] theorem q5W : TT.get tt 146 = some sq := rfl
@[simp] theorem q5w : TT.get tt 147 = some ss := rfl
theorem hT:bm Tryz.prog tt:=JG (by kernel_rfl)
theorem hm:Tryz.prog.follows .mixedOrders=true:=by kernel_rfl
abbrev H68:Ty:=(.pair .hdr (.pair (.int .i64) .bool))
abbrev La:TI:=⟨hd Y68,true,[(0,1),(1,1),(2,1)],false⟩
abbrev Lb:TI:=⟨.slice 68 (hd Y68),false,[],false⟩
def ttH:TT:=[(3,i3),(4,i4),(22,i22),(24,i24),(25,i25),(28,i28),(29,i29),(31,i31),(33,Lb),(35,i35),(56,i56),(60,i60),(68,La),(92,i92),(98,i98),(100,bE),(110,b5),(111,cw),(134,so),(136,sp),(146,sq),(147,ss)]
@[simp] theorem q4s : TT.get ttH 3 = some i3 := rfl
@[simp] theorem q47 : TT.get ttH 4 = some i4 := rfl
@[simp] theorem q5T : TT.get ttH 22 = some i22 := rfl
@[simp] theorem q4I : TT.get ttH 24 = some i24 := rfl
@[simp] theorem q5K : TT.get ttH 25 = some i25 := rfl
@[simp] theorem q5y : TT.get ttH 28 = some i28 := rfl
@[simp] theorem q3K : TT.get ttH 29 = some i29 := rfl
@[simp] theorem q4g : TT.get ttH 31 = some i31 := rfl
@[simp] theorem q4k : TT.get ttH 33 = some Lb := rfl
@[simp] theorem q5O : TT.get ttH 35 = some i35 := rfl
@[simp] theorem q4F : TT.get ttH 56 = some i56 := rfl
@[simp] theorem q4L : TT.get ttH 60 = some i60 := rfl
@[simp] theorem q34 : TT.get ttH 68 = some La := rfl
@[simp] theorem q4t : TT.get ttH 92 = some i92 := rfl
@[simp] theorem q4u : TT.get ttH 98 = some i98 := rfl
@[simp] theorem q5f : TT.get ttH 100 = some bE := rfl
@[simp] theorem q4X : TT.get ttH 110 = some b5 := rfl
@[simp] theorem q4O : TT.get ttH 111 = some cw := rfl
@[simp] theorem q50 : TT.get ttH 134 = some so := rfl
@[simp] theorem q4M : TT.get ttH 136 = some sp := rfl
@[simp] theorem q45 : TT.get ttH 146 = some sq := rfl
@[simp] theorem q3O : TT.get ttH 147 = some ss := rfl
theorem hTH:bm Tryz.prog ttH:=JG (by kernel_rfl)
theorem ql {P:Program}: ∀f g,Gam.get [] f=some g->Sound P f g:=fun _ _ h=>by simp [Gam.get]at h
theorem qe {P:Program} {f0:Nat} {g0:G} {Γ:Gam} (b:Sound P f0 g0) (h: ∀f g,Gam.get Γ f=some g->Sound P f g): ∀f g,Gam.get ((f0,g0)::Γ) f=some g->Sound P f g:=fun f g a=>by
 simp only [Gam.get]at a
 split at a
 ·rename_i e;cases a;subst e;exact b
 ·exact h f g a
@[simp] theorem q5u : qG [] = [] := rfl
@[simp] theorem q3T (c : LC) (r : List LC) : qG (c :: r) = match c.movedId with
   | some i=>i::qG r
   | none=>qG r:=by simp [qG,List.filterMap_cons];split<;>simp_all
abbrev ZO (l:List TI):=Option (qb l)
abbrev ZQ (l:List TI):=X->St->ZO l
abbrev Za:=List (List (Val (.int .i64)))
abbrev Zb:=List (Val (.int .i64))
abbrev Zc:=Val (.int .i64)
abbrev Zd:Ty:=(.int .i64)
abbrev Ze:=List (Val Y68)
abbrev Zf:=Val Y68
abbrev Zg:=List (Val Y28)
abbrev Zh:=Val Y28
abbrev Zi:=List (Val Y35)
abbrev Zj:=Val Y35
abbrev Zk:=Val Y60
abbrev Zl:=List (Val Y56)
abbrev I:=true
abbrev O:=false
end Go.T
