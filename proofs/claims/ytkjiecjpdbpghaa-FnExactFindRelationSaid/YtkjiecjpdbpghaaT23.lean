/- T: what a call gives. -/
import Derived.Test.YtkjiecjpdbpghaaT22
namespace Go.T
open Go

abbrev RowR := Value × List Nat
def RowR.fp (r : RowR) : List Nat := r.1.ownBlock.toList ++ r.2
def RowOk (w : World) (x : Blk) (r : RowR) : Prop := ∃ (e : Nat) (t : Ty) (xs : List (Val t)) (inner : List Value), x = .row e t xs true true 0 ∧ w.ownsRow 0 e t.sz r.1 xs.length inner ∧ Ms (M w t) xs inner r.2
def CellR (base : Nat) (rl : List RowR) : LC → Value → Prop
  | .own id, u => ∃ j r, id = base + j ∧ rl[j]? = some r ∧ u = r.1
  | .int k n, u => u = .int k n
  | .bool b, u => u = .bool b
  | .str s, u => u = .string s
  | _, _ => False

theorem CellR.left {base : Nat} {rl rl2 : List RowR} {c : LC} {u : Value} (h : CellR base rl c u) : CellR base (rl ++ rl2) c u := by
  cases c <;> simp only [CellR] at h ⊢ <;> try exact h
  obtain ⟨j, r, h1, h2, h3⟩ := h
  exact ⟨j, r, h1, by rw [List.getElem?_append_left (List.getElem?_eq_some_iff.1 h2).1]; exact h2, h3⟩
theorem CellR.right {base : Nat} {rl rl2 : List RowR} {c : LC} {u : Value} (h : CellR (base + rl.length) rl2 c u) : CellR base (rl ++ rl2) c u := by
  cases c <;> simp only [CellR] at h ⊢ <;> try exact h
  obtain ⟨j, r, h1, h2, h3⟩ := h
  exact ⟨rl.length + j, r, by omega, by rw [List.getElem?_append_right (by omega)]; simpa using h2, h3⟩

theorem M_rows {w : World} : ∀ {t : Ty} {v : Val t} {cs : List Value} {B : List Nat} (base : Nat), M w t v cs B → ∃ rl : List RowR, F2 (RowOk w) (explodeOwn base t v).2 rl ∧ B = rl.flatMap RowR.fp ∧ F2 (CellR base rl) (explodeOwn base t v).1 cs
  | .int _, _, _, _, _, h => by rw [M] at h; obtain ⟨rfl, rfl⟩ := h; exact ⟨[], .nil, rfl, .cons rfl .nil⟩
  | .bool, _, _, _, _, h => by rw [M] at h; obtain ⟨rfl, rfl⟩ := h; exact ⟨[], .nil, rfl, .cons rfl .nil⟩
  | .str, _, _, _, _, h => by rw [M] at h; obtain ⟨rfl, rfl⟩ := h; exact ⟨[], .nil, rfl, .cons rfl .nil⟩
  | .slice e t, xs, _, _, base, h => by
    rw [M] at h
    obtain ⟨v, inner, Bs, rfl, rfl, ho, hm⟩ := h
    exact ⟨[(v, Bs)], .cons ⟨e, t, xs, inner, rfl, ho, hm⟩ .nil, by simp [RowR.fp], .cons ⟨0, (v, Bs), by simp, rfl, rfl⟩ .nil⟩
  | .pair a b, v, _, _, base, h => by
    rw [M] at h
    obtain ⟨c1, c2, B1, B2, rfl, rfl, h1, h2⟩ := h
    obtain ⟨r1, f1, rfl, g1⟩ := M_rows base h1
    obtain ⟨r2, f2, rfl, g2⟩ := M_rows (base + (explodeOwn base a v.1).2.length) h2
    refine ⟨r1 ++ r2, f1.append f2, by simp, (g1.imp fun _ _ _ h => h.left).append (g2.imp fun _ _ _ h => ?_)⟩
    rw [f1.len] at h
    exact h.right

/-- The results' rows. -/
def V1R (base : Nat) (rl : List RowR) (l : LV1) (u : Value) : Prop := ∃ cs, F2 (CellR base rl) l.cs cs ∧ wrapped l.agg cs u
theorem VMs_rows {w : World} : ∀ {tis : List TI} {x : Vals tis} {us : List Value} {B : List Nat} (base : Nat), VMs w tis x us B → ∃ rl : List RowR, F2 (RowOk w) (explodeOwns base tis x).2 rl ∧ B = rl.flatMap RowR.fp ∧ F2 (V1R base rl) (explodeOwns base tis x).1 us
  | [], _, _, _, _, h => by obtain ⟨rfl, rfl⟩ := h; exact ⟨[], .nil, rfl, .nil⟩
  | ti :: r, x, _, _, base, h => by
    obtain ⟨u, rest, cs, B1, B2, rfl, rfl, h1, hw, h2⟩ := h
    obtain ⟨r1, f1, rfl, g1⟩ := M_rows base h1
    obtain ⟨r2, f2, rfl, g2⟩ := VMs_rows (base + (explodeOwn base ti.ty x.1).2.length) h2
    refine ⟨r1 ++ r2, f1.append f2, by simp, .cons ⟨cs, g1.imp fun _ _ _ h => h.left, hw⟩ (g2.imp fun _ _ _ h => ?_)⟩
    obtain ⟨cs', hf, hw'⟩ := h
    refine ⟨cs', hf.imp fun _ _ _ h => ?_, hw'⟩
    rw [f1.len] at h
    exact h.right

theorem flatMap_disj {α : Type} {f : α → List Nat} : ∀ {l : List α} {i j : Nat} {x y : α}, (l.flatMap f).Nodup → i ≠ j → l[i]? = some x → l[j]? = some y → ∀ b ∈ f x, b ∉ f y
  | a :: l, i, j, x, y, hn, hne, hi, hj, b, hx => by
    rw [List.flatMap_cons, List.nodup_append] at hn
    obtain ⟨_, h2, h3⟩ := hn
    have mem : ∀ {k : Nat} {z : α}, l[k]? = some z → ∀ b ∈ f z, b ∈ l.flatMap f := fun hk b hb => List.mem_flatMap.2 ⟨_, List.mem_of_getElem? hk, hb⟩
    cases i with
    | zero =>
      simp at hi; subst hi
      cases j with
      | zero => exact absurd rfl hne
      | succ j => exact fun hy => h3 b hx b (mem (by simpa using hj) b hy) rfl
    | succ i =>
      cases j with
      | zero =>
        simp at hj; subst hj
        exact fun hy => h3 b hy b (mem (by simpa using hi) b hx) rfl
      | succ j => exact flatMap_disj (i := i) (j := j) h2 (fun e => hne (by omega)) (by simpa using hi) (by simpa using hj) b hx
theorem flatMap_nodup {α : Type} {f : α → List Nat} : ∀ {l : List α} {i : Nat} {x : α}, (l.flatMap f).Nodup → l[i]? = some x → (f x).Nodup
  | a :: l, i, x, hn, hi => by
    rw [List.flatMap_cons, List.nodup_append] at hn
    cases i with
    | zero => simp at hi; subst hi; exact hn.1
    | succ i => exact flatMap_nodup hn.2.1 (by simpa using hi)

section
variable {w0 w w' : World} {mine : Mine} {m m' : Mp} {h h1 : List Blk}

def Mp.rows (m : Mp) (n : Nat) (rl : List RowR) : Mp := { m with val := fun i => if i < n then m.val i else (rl.getD (i - n) (undef, [])).1, nst := fun i => if i < n then m.nst i else (rl.getD (i - n) (undef, [])).2 }
theorem rows_get {m : Mp} {n j : Nat} {rl : List RowR} {r : RowR} (h : rl[j]? = some r) : (m.rows n rl).val (n + j) = r.1 ∧ (m.rows n rl).nst (n + j) = r.2 := by
  have : ¬ (n + j < n) := by omega
  simp [Mp.rows, h, List.getD, this]

theorem HR.results (H : HR w0 mine w m h) (hfr : Fr (fun _ => False) w w') {bl : List Blk} {rl : List RowR} (hf : F2 (RowOk w') bl rl) (hn : (rl.flatMap RowR.fp).Nodup) (hlo : ∀ b ∈ rl.flatMap RowR.fp, w.heap.size ≤ b) :
    HR w0 mine w' (m.rows h.length rl) (h ++ bl) ∧ Oks w w' m (m.rows h.length rl) h (h ++ bl) ∧ Sims m (m.rows h.length rl) h (h ++ bl) := by
  have hmem : ∀ {j : Nat} {r : RowR}, rl[j]? = some r → ∀ b ∈ r.fp, b ∈ rl.flatMap RowR.fp := fun hj b hb => List.mem_flatMap.2 ⟨_, List.mem_of_getElem? hj, hb⟩
  have hfp : ∀ {j : Nat} {x : Blk} {r : RowR}, rl[j]? = some r → RowOk w' x r → fpB (m.rows h.length rl) (h.length + j) x = r.fp := fun {j x r} hr hx => by
    obtain ⟨e, t, xs, inner, rfl, _⟩ := hx
    obtain ⟨h1, h2⟩ := rows_get (m := m) (n := h.length) hr
    simp only [fpB, h1, h2, RowR.fp]
  refine H.newL (Weakers.refl h) hfr (fun i hi => by simp [Mp.rows, hi]) (fun _ _ => rfl) (fun i hi => by simp [Mp.rows, hi]) rfl (fun n b hb hl j x hx => ?_) (fun j x hx => ?_) (fun j x hx => ?_) (fun j x j' x' hne hx hx' => ?_) (fun j x hx b hb => ?_)
  · obtain ⟨r, hr, hok⟩ := hf.get hx
    have hnb : b ∉ r.fp := fun hm => by have := hlo b (hmem hr b hm); omega
    obtain ⟨h1, h2⟩ := rows_get (m := m) (n := h.length) hr
    obtain ⟨e, t, xs, inner, rfl, _⟩ := hok
    refine ⟨fun _ ho => hnb ?_, fun _ _ hm => hnb ?_⟩
    · rw [h1] at ho; simp [RowR.fp, ho]
    · rw [h2] at hm; simp only [RowR.fp]; exact List.mem_append_right _ hm
  · obtain ⟨r, hr, hok⟩ := hf.get hx
    obtain ⟨h1, h2⟩ := rows_get (m := m) (n := h.length) hr
    obtain ⟨e, t, xs, inner, rfl, ho, hm⟩ := hok
    exact ⟨inner, by rw [h1]; exact ho, by simp only; rw [h2]; exact ⟨hm, Nat.zero_le _⟩⟩
  · obtain ⟨r, hr, hok⟩ := hf.get hx
    rw [hfp hr hok]
    exact flatMap_nodup hn hr
  · obtain ⟨r, hr, hok⟩ := hf.get hx
    obtain ⟨r', hr', hok'⟩ := hf.get hx'
    rw [hfp hr hok, hfp hr' hok']
    exact flatMap_disj hn hne hr hr'
  · obtain ⟨r, hr, hok⟩ := hf.get hx
    rw [hfp hr hok] at hb
    refine ⟨hlo b (hmem hr b hb), ?_⟩
    obtain ⟨e, t, xs, inner, rfl, ho, hm⟩ := hok
    rcases List.mem_append.1 hb with hb | hb
    · exact (ho.lt b (by simpa using hb)).2
    · exact Ms_lt (fun x c b hx => M_lt hx) hm b hb

theorem CellR_C {bl : List Blk} {rl : List RowR} (hf : F2 (RowOk w') bl rl) {c : LC} {u : Value} (hc : CellR h.length rl c u) : C w' (m.rows h.length rl) (h ++ bl) c u ∧ u.oneCell' = true := by
  cases c <;> simp only [CellR] at hc <;> try exact hc.elim
  · subst hc; exact ⟨rfl, rfl⟩
  · subst hc; exact ⟨rfl, rfl⟩
  · subst hc; exact ⟨rfl, rfl⟩
  · obtain ⟨j, r, rfl, hr, rfl⟩ := hc
    obtain ⟨x, hx, hok⟩ := hf.get' hr
    obtain ⟨h1, h2⟩ := rows_get (m := m) (n := h.length) hr
    obtain ⟨e, t, xs, inner, rfl, ho, hm⟩ := hok
    have : (h ++ bl)[h.length + j]? = some (.row e t xs true true 0) := by rw [List.getElem?_append_right (by omega)]; simpa using hx
    refine ⟨by simp only [C, this]; exact h1.symm, ?_⟩
    obtain ⟨A, c, hv, _⟩ := ownsRow_slice ho
    rw [hv]; rfl
theorem V1R_V1 {bl : List Blk} {rl : List RowR} (hf : F2 (RowOk w') bl rl) {l : LV1} {u : Value} (hc : V1R h.length rl l u) : V1 w' (m.rows h.length rl) (h ++ bl) l u := by
  obtain ⟨agg, lcs⟩ := l
  obtain ⟨cs, h1, h2⟩ := hc
  cases agg with
  | true =>
    simp only [wrapped] at h2
    subst h2
    exact ⟨cs.toArray, rfl, by simpa using h1.imp fun _ _ _ hc => (CellR_C hf hc).1⟩
  | false =>
    simp only [wrapped] at h2
    subst h2
    cases h1 with
    | cons hc hr => cases hr; exact ⟨_, rfl, (CellR_C (m := m) hf hc).1, (CellR_C (m := m) (h := h) hf hc).2⟩

theorem ret_V {ls : List LV1} {us : List Value} (hf : F2 (V1 w m h) ls us) : V w m h (retLV ls) (retV us) := by
  cases hf with
  | nil => exact ⟨#[], rfl, .nil⟩
  | cons h1 h2 =>
    cases h2 with
    | nil => exact V1_V h1
    | cons h2 h3 => exact ⟨_, rfl, by simpa using .cons h1 (.cons h2 h3)⟩
end
end Go.T
