/- T: contracts of functions; several new rows at once. -/
import Derived.Test.YtkjiecjpdbpghaaT21
namespace Go.T
open Go

@[reducible] def Vals : List TI → Type
  | [] => Unit
  | ti :: r => Val ti.ty × Vals r

/-- What a function does: its parameters, its results; are the results its own; where it is sure; what it gives. -/
structure G where
  ps : List TI
  rs : List TI
  dp : Bool
  pre : Vals ps → Prop
  fn : Vals ps → Vals rs

def wrapped (agg : Bool) (cs : List Value) (u : Value) : Prop := match agg with
  | true => u = .agg cs.toArray
  | false => cs = [u]
def VKs (w : World) (ok : Nat → Prop) : (tis : List TI) → Vals tis → List Value → Prop
  | [], _, us => us = []
  | ti :: r, x, us => ∃ u rest cs, us = u :: rest ∧ K w ok ti.ty x.1 cs ∧ wrapped ti.agg cs u ∧ VKs w ok r x.2 rest
def VMs (w : World) : (tis : List TI) → Vals tis → List Value → List Nat → Prop
  | [], _, us, B => us = [] ∧ B = []
  | ti :: r, x, us, B => ∃ u rest cs B1 B2, us = u :: rest ∧ B = B1 ++ B2 ∧ M w ti.ty x.1 cs B1 ∧ wrapped ti.agg cs u ∧ VMs w r x.2 rest B2

def retV : List Value → Value
  | [u] => u
  | us => .tuple us.toArray

def Enters (P : Program) (f : FuncId) : Prop := ∃ fn, P.funcs[f]? = some fn ∧ fn.body.isNone = false ∧ (fn.name == "runtime.NumGoroutine") = false

structure Sound (P : Program) (f : FuncId) (g : G) : Prop where
  enters : Enters P f
  runs : ∀ x : Vals g.ps, g.pre x → ∀ (w : World) (ext : Nat → Prop) (vs : Array Value), VKs w ext g.ps x vs.toList → (∀ b, w.heap.size ≤ b → ext b) →
    Calls P f vs w fun e w' => ∃ us, e = .returned (retV us) ∧ Fr (fun _ => False) w w' ∧ (match g.dp with
      | true => ∃ B, VMs w' g.rs (g.fn x) us B ∧ B.Nodup ∧ ∀ b ∈ B, w.heap.size ≤ b
      | false => VKs w' ext g.rs (g.fn x) us)

/-! ### the caller's side -/
def LV.isAgg : LV → Option Bool
  | .one _ => some false
  | .agg _ => some true
  | .tup _ => none
def implodeArgs (h : List Blk) : (tis : List TI) → List LV → Option (Vals tis)
  | [], [] => some ()
  | ti :: r, l :: ls => if l.isAgg = some ti.agg then match implode h ti.ty l.cells with
      | some (x, []) => match implodeArgs h r ls with
        | some xs => some (x, xs)
        | none => none
      | _ => none
    else none
  | _, _ => none

/-- A value whose rows are new ones, numbered from base. -/
def explodeOwn : (base : Nat) → (t : Ty) → Val t → List LC × List Blk
  | _, .int k, v => ([.int k v], [])
  | _, .bool, v => ([.bool v], [])
  | _, .str, v => ([.str v], [])
  | base, .slice e t, v => ([.own base], [.row e t v true true 0])
  | base, .pair a b, v =>
    ((explodeOwn base a v.1).1 ++ (explodeOwn (base + (explodeOwn base a v.1).2.length) b v.2).1, (explodeOwn base a v.1).2 ++ (explodeOwn (base + (explodeOwn base a v.1).2.length) b v.2).2)
def explodeOwns : (base : Nat) → (tis : List TI) → Vals tis → List LV1 × List Blk
  | _, [], _ => ([], [])
  | base, ti :: r, x =>
    (⟨ti.agg, (explodeOwn base ti.ty x.1).1⟩ :: (explodeOwns (base + (explodeOwn base ti.ty x.1).2.length) r x.2).1, (explodeOwn base ti.ty x.1).2 ++ (explodeOwns (base + (explodeOwn base ti.ty x.1).2.length) r x.2).2)
def explodes (n : Nat) : (tis : List TI) → Vals tis → List LV1
  | [], _ => []
  | ti :: r, x => ⟨ti.agg, explode n ti.ty x.1⟩ :: explodes n r x.2
def retLV : List LV1 → LV
  | [v] => v.lv
  | vs => .tup vs

abbrev Gam := List (Nat × G)
def Gam.get : Gam → Nat → Option G
  | [], _ => none
  | (f, g) :: r, f' => if f = f' then some g else Gam.get r f'

def stepCall (Γ : Gam) (f : Nat) (args : List LV) (d : Option Tmp) (st : St) : Res := match Γ.get f with
  | none => none
  | some g => match implodeArgs st.heap g.ps args with
    | none => none
    | some x => match g.dp with
      | true => some (g.pre x, st.res d (retLV (explodeOwns st.heap.length g.rs (g.fn x)).1) (st.heap ++ (explodeOwns st.heap.length g.rs (g.fn x)).2))
      | false => some (g.pre x, st.res d (retLV (explodes st.heap.length g.rs (g.fn x))) (freeze st.heap (moved (args.flatMap LV.cells))))

theorem call_does (Γ : Gam) (f : Nat) (args : List LV) (d : Option Tmp) : Does (stepCall Γ f args d) d := by
  intro st p s hs
  unfold stepCall at hs ⊢
  split at hs
  · simp at hs
  · rename_i g hg
    split at hs
    · simp at hs
    · rename_i x hx
      split at hs
      · rename_i hd
        cases hs
        exact ⟨_, _, rfl, fun st2 h2 => by simp only [hg, h2, hx, hd]⟩
      · rename_i hd
        cases hs
        exact ⟨_, _, rfl, fun st2 h2 => by simp only [hg, h2, hx, hd]⟩

section
variable {w0 w w' : World} {mine : Mine} {m m' : Mp} {h h1 : List Blk}

/-- Several new blocks. -/
theorem HR.newL {xs : List Blk} (H : HR w0 mine w m h) (hw : Weakers h h1) (hfr : Fr (fun _ => False) w w')
    (hval : ∀ i, i < h.length → m'.val i = m.val i) (hblk : ∀ i, i < h.length → m'.blk i = m.blk i) (hnst : ∀ i, i < h.length → m'.nst i = m.nst i) (hext : m'.ext = m.ext)
    (hokx : ∀ n b, okAt m h n b → b < w.heap.size → ∀ j x, xs[j]? = some x → okB m' n b (h.length + j) x)
    (hbr : ∀ j x, xs[j]? = some x → BR w' m' (h1 ++ xs) (h.length + j) x)
    (hnd : ∀ j x, xs[j]? = some x → (fpB m' (h.length + j) x).Nodup)
    (hdj : ∀ j x j' x', j ≠ j' → xs[j]? = some x → xs[j']? = some x' → ∀ b ∈ fpB m' (h.length + j) x, b ∉ fpB m' (h.length + j') x')
    (hlt : ∀ j x, xs[j]? = some x → ∀ b ∈ fpB m' (h.length + j) x, w.heap.size ≤ b ∧ b < w'.heap.size) :
    HR w0 mine w' m' (h1 ++ xs) ∧ Oks w w' m m' h (h1 ++ xs) ∧ Sims m m' h (h1 ++ xs) := by
  obtain ⟨H1, hok1, hs1⟩ := H.weaker hw
  have hl1 := hw.1
  have get : ∀ id y, (h1 ++ xs)[id]? = some y → (id < h.length ∧ h1[id]? = some y) ∨ (∃ j, id = h.length + j ∧ xs[j]? = some y) := fun id y hy => by
    by_cases hl : id < h1.length
    · rw [List.getElem?_append_left hl] at hy; exact .inl ⟨by omega, hy⟩
    · rw [List.getElem?_append_right (by omega)] at hy
      exact .inr ⟨id - h1.length, by omega, hy⟩
  have okB_eq : ∀ n b id y, id < h.length → (okB m' n b id y ↔ okB m n b id y) := fun n b id y hl => by
    cases y <;> simp [okB, hval id hl, hblk id hl, hnst id hl]
  have fpB_eq : ∀ id y, id < h.length → fpB m' id y = fpB m id y := fun id y hl => by
    cases y <;> simp [fpB, hval id hl, hblk id hl, hnst id hl]
  have hok : Oks w w' m m' h (h1 ++ xs) := fun n b hb hl => ⟨hfr.block b hl (fun h => h), by rw [hext]; exact hb.1, fun id y hy => by
    rcases get id y hy with ⟨hl', hy'⟩ | ⟨j, rfl, hy'⟩
    · exact (okB_eq n b id y hl').2 ((hok1 n b hb hl).2.2 id y hy')
    · exact hokx n b hb hl j y hy'⟩
  have hs : Sims m m' h (h1 ++ xs) := fun id y hy => by
    have hl := (List.getElem?_eq_some_iff.1 hy).1
    obtain ⟨y1, hy1, hsm⟩ := hs1 id y hy
    refine ⟨y1, by rw [List.getElem?_append_left (by omega)]; exact hy1, ?_⟩
    cases y <;> cases y1 <;> simp_all [Sim]
  refine ⟨⟨fun id y hy => ?_, fun id y hy => ?_, fun id y1 id' y2 hne h1' h2' b hb hb' => ?_, fun id y hy b hb => ?_, ?_, hext.trans H.mx, H.nx⟩, hok, hs⟩
  · rcases get id y hy with ⟨hl, hy'⟩ | ⟨j, rfl, hy'⟩
    · obtain ⟨y0, hy0, hwk⟩ : ∃ y0, h[id]? = some y0 ∧ Weaker y0 y := ⟨h[id], List.getElem?_eq_getElem hl, hw.2 id _ _ (List.getElem?_eq_getElem hl) hy'⟩
      exact BR_mono hok hs (hval id hl) (hblk id hl) (hnst id hl) (fun b hb => hfr.block b (H1.lt id y hy' b hb).1 (fun hA => hA)) (BR_weaker hwk (H.br id y0 hy0))
    · exact hbr j y hy'
  · rcases get id y hy with ⟨hl, hy'⟩ | ⟨j, rfl, hy'⟩
    · rw [fpB_eq id y hl]; exact H1.nd id y hy'
    · exact hnd j y hy'
  · rcases get id y1 h1' with ⟨hl1, hy1⟩ | ⟨j1, rfl, hy1⟩ <;> rcases get id' y2 h2' with ⟨hl2, hy2⟩ | ⟨j2, rfl, hy2⟩
    · rw [fpB_eq id y1 hl1] at hb; rw [fpB_eq id' y2 hl2] at hb'
      exact H1.dj id y1 id' y2 hne hy1 hy2 b hb hb'
    · rw [fpB_eq id y1 hl1] at hb
      have h1 := (H1.lt id y1 hy1 b hb).1
      have h2 := (hlt j2 y2 hy2 b hb').1
      omega
    · rw [fpB_eq id' y2 hl2] at hb'
      have h1 := (H1.lt id' y2 hy2 b hb').1
      have h2 := (hlt j1 y1 hy1 b hb).1
      omega
    · exact hdj j1 y1 j2 y2 (fun e => hne (by omega)) hy1 hy2 b hb hb'
  · rcases get id y hy with ⟨hl, hy'⟩ | ⟨j, rfl, hy'⟩
    · rw [fpB_eq id y hl] at hb
      have := H1.lt id y hy' b hb
      exact ⟨Nat.lt_of_lt_of_le this.1 hfr.size, this.2⟩
    · have := hlt j y hy' b hb
      exact ⟨this.2, .inl (Nat.le_trans H.fr.size this.1)⟩
  · exact hfr.lift H fun k hk => hk.elim
end
end Go.T
