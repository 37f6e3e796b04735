/- T: what is forgotten, what is renumbered. -/
import Derived.Test.YtkjiecjpdbpghaaT31
namespace Go.T
open Go

def LC.ren (π : Nat → Option Nat) (top : Nat) : LC → LC
  | .own id => match π id with
    | some j => .own j
    | none => .undef
  | .ptr id i f => match π id with
    | some j => .ptr j i f
    | none => .undef
  | .sl e t xs _ => .sl e t xs top
  | .tptr t v f _ => .tptr t v f top
  | .int k n => .int k n
  | .bool b => .bool b
  | .str s => .str s
  | .nils => .nils
  | .nilp => .nilp
  | .fn f => .fn f
  | .undef => .undef
def LV.ren (π : Nat → Option Nat) (top : Nat) : LV → LV
  | .one c => .one (c.ren π top)
  | .agg cs => .agg (cs.map (LC.ren π top))
  | .tup vs => .tup (vs.map fun v => ⟨v.agg, v.cs.map (LC.ren π top)⟩)
def Blk.ren (π : Nat → Option Nat) (top : Nat) : Blk → Blk
  | .box cs => .box (cs.map (LC.ren π top))
  | .row e t xs dp mt _ => .row e t xs dp mt (bif dp then 0 else top)
  | .dead => .dead

def posOf : List Nat → Nat → Nat → Option Nat
  | [], _, _ => none
  | x :: r, k, id => if x = id then some k else posOf r (k + 1) id
def keepEnv (π : Nat → Option Nat) (top : Nat) : List Bool → List LV → List LV
  | _, [] => []
  | [], _ :: r => .one .undef :: keepEnv π top [] r
  | true :: ks, l :: r => l.ren π top :: keepEnv π top ks r
  | false :: ks, _ :: r => .one .undef :: keepEnv π top ks r
def St.renum (order : List Nat) (keep : List Bool) (st : St) : St := { env := keepEnv (posOf order 0) order.length keep st.env, heap := order.map fun id => (st.heap.getD id .dead).ren (posOf order 0) order.length }

/-- The rows and boxes that cells name. -/
def LC.idOf : LC → Option Nat
  | .own id => some id
  | .ptr id _ _ => some id
  | _ => none
def addIds (acc : List Nat) : List LC → List Nat
  | [] => acc
  | c :: r => match c.idOf with
    | some id => if acc.contains id then addIds acc r else addIds (acc ++ [id]) r
    | none => addIds acc r
def keptCells : List Bool → List LV → List LC
  | true :: ks, l :: r => l.cells ++ keptCells ks r
  | false :: ks, _ :: r => keptCells ks r
  | _, _ => []
def boxCellsOf (h : List Blk) (id : Nat) : List LC := match h[id]? with
  | some (Blk.box cs) => cs
  | _ => []
def boxCells (h : List Blk) (ids : List Nat) : List LC := ids.flatMap (boxCellsOf h)
def St.order (st : St) (keep : List Bool) : List Nat :=
  let a := addIds [] (keptCells keep st.env)
  addIds a (boxCells st.heap a)
def St.gc (keep : List Bool) (st : St) : St := st.renum (st.order keep) keep

theorem addIds_nodup : ∀ {cs : List LC} {acc : List Nat}, acc.Nodup → (addIds acc cs).Nodup
  | [], _, h => h
  | c :: r, acc, h => by
    simp only [addIds]
    split
    · rename_i id _
      split
      · exact addIds_nodup h
      · rename_i hn
        refine addIds_nodup ?_
        rw [List.nodup_append]
        refine ⟨h, by simp, fun x hx y hy e => hn ?_⟩
        simp at hy
        subst hy; subst e
        simpa using hx
    · exact addIds_nodup h

theorem posOf_spec : ∀ {l : List Nat} {k id j : Nat}, posOf l k id = some j → k ≤ j ∧ l[j - k]? = some id
  | x :: r, k, id, j, h => by
    simp only [posOf] at h
    split at h
    · rename_i e; cases h; subst e; simp
    · obtain ⟨h1, h2⟩ := posOf_spec h
      refine ⟨by omega, ?_⟩
      rw [show j - k = (j - (k + 1)) + 1 by omega]
      simpa using h2

section
variable {w0 w : World} {mine : Mine} {m : Mp} {h : List Blk} {order : List Nat}

def Mp.ren (m : Mp) (order : List Nat) : Mp := { m with val := fun j => m.val (order.getD j 0), blk := fun j => m.blk (order.getD j 0), nst := fun j => m.nst (order.getD j 0) }
def renH (h : List Blk) (order : List Nat) : List Blk := order.map fun id => (h.getD id .dead).ren (posOf order 0) order.length

theorem renH_get {j : Nat} {y : Blk} (hy : (renH h order)[j]? = some y) : ∃ id, order[j]? = some id ∧ order.getD j 0 = id ∧ j < order.length ∧ y = (h.getD id .dead).ren (posOf order 0) order.length := by
  simp only [renH, List.getElem?_map] at hy
  cases ho : order[j]? with
  | none => rw [ho] at hy; simp at hy
  | some id =>
    rw [ho] at hy
    simp at hy
    exact ⟨id, rfl, by simp [ho], (List.getElem?_eq_some_iff.1 ho).1, by rw [← hy]; simp⟩
theorem renH_at {j id : Nat} {x : Blk} (hp : posOf order 0 id = some j) (hx : h[id]? = some x) : (renH h order)[j]? = some (x.ren (posOf order 0) order.length) ∧ order.getD j 0 = id := by
  obtain ⟨_, h2⟩ := posOf_spec hp
  simp only [Nat.sub_zero] at h2
  refine ⟨?_, by simp [h2]⟩
  simp only [renH, List.getElem?_map, h2, Option.map_some, List.getD, hx, Option.getD_some]

theorem ren_ok {n b : Nat} (hb : okAt m h n b) : okAt (m.ren order) (renH h order) order.length b := by
  refine ⟨hb.1, fun j y hy => ?_⟩
  obtain ⟨id, ho, hg, hj, rfl⟩ := renH_get hy
  cases hx : h[id]? with
  | none => simp only [List.getD, hx, Option.getD_none, Blk.ren]; trivial
  | some x =>
    have := hb.2 id x hx
    simp only [List.getD, hx, Option.getD_some]
    cases x with
    | dead => trivial
    | box cs => simp only [Blk.ren, okB, Mp.ren, hg]; exact this
    | row e t xs dp mt k =>
      refine ⟨fun hm => ?_, fun hd hle => ?_⟩
      · have h1 := this.1 (.inl (hm.resolve_right (by omega)))
        simp only [Mp.ren, hg]; exact h1
      · subst hd
        simp at hle
        rw [hle] at hj
        simp at hj

theorem ren_C : ∀ {c : LC} {v : Value}, C w m h c v → C w (m.ren order) (renH h order) (c.ren (posOf order 0) order.length) v
  | .int _ _, _, hc | .bool _, _, hc | .str _, _, hc | .nils, _, hc | .nilp, _, hc | .fn _, _, hc => hc
  | .undef, _, _ => trivial
  | .sl e t xs n, v, hc => by
    obtain ⟨A, c, he, hl, hr⟩ := hc
    exact ⟨A, c, he, hl, Rd_step (fun _ _ _ => rfl) (fun b hb _ => ren_ok hb) hr⟩
  | .tptr t x f n, v, hc => by
    obtain ⟨a, cs, he, hk, hat, hb⟩ := hc
    exact ⟨a, cs, he, K_step (fun _ _ _ => rfl) (fun b hb _ => ren_ok hb) hk, hat, ren_ok hb⟩
  | .own id, v, hc => by
    simp only [LC.ren]
    cases hp : posOf order 0 id with
    | none => trivial
    | some j =>
      simp only [C] at hc ⊢
      cases hx : h[id]? with
      | none => rw [hx] at hc; exact hc.elim
      | some x =>
        obtain ⟨h1, h2⟩ := renH_at hp hx
        rw [hx] at hc
        rw [h1]
        cases x with
        | box => exact hc.elim
        | dead => exact hc
        | row e t xs dp mt k => simp only [Blk.ren, Mp.ren, h2]; exact hc
  | .ptr id i f, v, hc => by
    simp only [LC.ren]
    cases hp : posOf order 0 id with
    | none => trivial
    | some j =>
      simp only [C] at hc ⊢
      cases hx : h[id]? with
      | none => rw [hx] at hc; exact hc.elim
      | some x =>
        obtain ⟨h1, h2⟩ := renH_at hp hx
        rw [hx] at hc
        rw [h1]
        cases x with
        | box => simp only [Blk.ren, Mp.ren, h2]; exact hc
        | dead => exact hc
        | row e t xs dp mt k => simp only [Blk.ren, Mp.ren, h2]; exact hc

theorem ren_F2 {cs : List LC} {vs : List Value} (hf : F2 (C w m h) cs vs) : F2 (C w (m.ren order) (renH h order)) (cs.map (LC.ren (posOf order 0) order.length)) vs := by
  induction hf with
  | nil => exact .nil
  | cons h1 _ ih => exact .cons (ren_C h1) ih
theorem ren_V : ∀ {l : LV} {v : Value}, V w m h l v → V w (m.ren order) (renH h order) (l.ren (posOf order 0) order.length) v
  | .one c, v, hv => ren_C (c := c) hv
  | .agg cs, v, hv => by obtain ⟨vs, he, hf⟩ := hv; exact ⟨vs, he, ren_F2 hf⟩
  | .tup ls, v, hv => by
    obtain ⟨vs, he, hf⟩ := hv
    refine ⟨vs, he, ?_⟩
    clear he
    generalize vs.toList = us at hf
    induction hf with
    | nil => exact .nil
    | cons h1 _ ih =>
      refine .cons ?_ ih
      unfold V1 at h1 ⊢
      split at h1
      · rename_i e; simp only [e]; obtain ⟨vs, he, hf⟩ := h1; exact ⟨vs, he, ren_F2 hf⟩
      · rename_i e; simp only [e]; obtain ⟨c, he, hc, h2⟩ := h1; exact ⟨_, by rw [he]; rfl, ren_C hc, h2⟩

theorem ren_HR (hn : order.Nodup) (H : HR w0 mine w m h) : HR w0 mine w (m.ren order) (renH h order) := by
  have back : ∀ j y, (renH h order)[j]? = some y → (∃ id x, order[j]? = some id ∧ order.getD j 0 = id ∧ h[id]? = some x ∧ y = x.ren (posOf order 0) order.length) ∨ y = .dead := fun j y hy => by
    obtain ⟨id, ho, hg, hj, rfl⟩ := renH_get hy
    cases hx : h[id]? with
    | none => right; simp only [List.getD, hx, Option.getD_none, Blk.ren]
    | some x => left; exact ⟨id, x, ho, hg, hx, by simp only [List.getD, hx, Option.getD_some]⟩
  have fp : ∀ j id x, order.getD j 0 = id → fpB (m.ren order) j (x.ren (posOf order 0) order.length) = fpB m id x := fun j id x hg => by
    cases x <;> simp only [Blk.ren, fpB, Mp.ren, hg]
  refine ⟨fun j y hy => ?_, fun j y hy => ?_, fun j y j' y' hne hy hy' b hb hb' => ?_, fun j y hy b hb => ?_, H.fr, H.mx, H.nx⟩
  · rcases back j y hy with ⟨id, x, ho, hg, hx, rfl⟩ | rfl
    · have := H.br id x hx
      cases x with
      | dead => trivial
      | box cs =>
        obtain ⟨arr, ty, h1, h2, h3⟩ := this
        exact ⟨arr, ty, by simp only [Mp.ren, hg]; exact h1, ren_F2 h2, h3⟩
      | row e t xs dp mt k =>
        obtain ⟨inner, h1, h2⟩ := this
        refine ⟨inner, by simp only [Mp.ren, hg]; exact h1, ?_⟩
        cases dp with
        | true => simp only [Mp.ren, hg] at h2 ⊢; exact ⟨h2.1, Nat.zero_le _⟩
        | false => exact h2.imp fun x c hk => K_step (fun _ _ _ => rfl) (fun b hb _ => ren_ok hb) hk
    · trivial
  · rcases back j y hy with ⟨id, x, ho, hg, hx, rfl⟩ | rfl
    · rw [fp j id x hg]; exact H.nd id x hx
    · exact List.nodup_nil
  · rcases back j y hy with ⟨id, x, ho, hg, hx, rfl⟩ | rfl
    · rcases back j' y' hy' with ⟨id', x', ho', hg', hx', rfl⟩ | rfl
      · rw [fp j id x hg] at hb
        rw [fp j' id' x' hg'] at hb'
        refine H.dj id x id' x' (fun e => hne ?_) hx hx' b hb hb'
        subst e
        have h1 := (List.getElem?_eq_some_iff.1 ho)
        have h2 := (List.getElem?_eq_some_iff.1 ho')
        exact (List.getElem_inj hn).1 (h1.2.trans h2.2.symm)
      · simp [fpB] at hb'
    · simp [fpB] at hb
  · rcases back j y hy with ⟨id, x, ho, hg, hx, rfl⟩ | rfl
    · rw [fp j id x hg] at hb; exact H.lt id x hx b hb
    · simp [fpB] at hb

theorem keep_F2 {ks : List Bool} : ∀ {env : List LV} {vs : List Value}, F2 (V w m h) env vs → F2 (V w (m.ren order) (renH h order)) (keepEnv (posOf order 0) order.length ks env) vs := by
  intro env vs hf
  induction hf generalizing ks with
  | nil => cases ks with
    | nil => exact .nil
    | cons k ks => cases k <;> exact .nil
  | cons h1 _ ih => cases ks with
    | nil => exact .cons trivial ih
    | cons k ks => cases k with
      | true => exact .cons (ren_V h1) ih
      | false => exact .cons trivial ih

theorem Le.renum {st : St} (keep : List Bool) (hn : order.Nodup) : Le st (st.renum order keep) := fun w0 mine a w hr => by
  obtain ⟨hd, m, H, he⟩ := hr
  exact ⟨hd, m.ren order, ren_HR hn H, keep_F2 he⟩
theorem Le.gc (st : St) (keep : List Bool) : Le st (st.gc keep) := Le.renum keep (addIds_nodup (addIds_nodup List.nodup_nil))
theorem Le.of_gc {st st' : St} (keep : List Bool) (h : st.gc keep = st') : Le st st' := h ▸ Le.gc st keep
end
end Go.T
