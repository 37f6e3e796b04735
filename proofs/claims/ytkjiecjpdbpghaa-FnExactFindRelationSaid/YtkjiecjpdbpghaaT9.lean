/- T: what is put together and what is stored. -/
import Derived.Test.YtkjiecjpdbpghaaT8
import Derived.Laws.CopyRow
namespace Go.T
open Go

/-! ### cells into values -/
/-- What a cell leads to lies in blocks that are ok. -/
def okC (w : World) (m : Mp) (h : List Blk) (ok : Nat → Prop) : LC → Prop
  | .sl _ _ _ n => ∀ b, okAt m h n b → b < w.heap.size → ok b
  | .own id => ∀ x, h[id]? = some x → (∀ b ∈ fpB m id x, ok b) ∧ (match x with
    | .row _ _ _ false _ n => ∀ b, okAt m h n b → b < w.heap.size → ok b
    | _ => True)
  | _ => True

theorem implode_K {w : World} {m : Mp} {h : List Blk} {ok : Nat → Prop} (H : ∀ id x, h[id]? = some x → BR w m h id x) : ∀ {t : Ty} {lcs : List LC} {vs : List Value} {v : Val t} {rest : List LC},
    F2 (C w m h) lcs vs → implode h t lcs = some (v, rest) → (∀ c ∈ lcs, okC w m h ok c) → ∃ v1 v2, vs = v1 ++ v2 ∧ K w ok t v v1 ∧ F2 (C w m h) rest v2 ∧ ∃ pre, lcs = pre ++ rest
  | .int k, lcs, vs, v, rest, hf, hi, _hok => by
    cases hf with
    | nil => simp [implode] at hi
    | cons hc hr =>
      rename_i c u cs us
      cases c <;> first | (simp [implode] at hi; done) | skip
      all_goals simp only [implode] at hi
      split at hi
      · rename_i e; subst e; cases hi
        simp only [C] at hc; subst hc
        exact ⟨[_], us, rfl, by rw [K], hr, [_], rfl⟩
      · simp at hi
  | .bool, lcs, vs, v, rest, hf, hi, _hok => by
    cases hf with
    | nil => simp [implode] at hi
    | cons hc hr =>
      rename_i c u cs us
      cases c <;> first | (simp [implode] at hi; done) | skip
      all_goals simp only [implode] at hi
      cases hi
      simp only [C] at hc; subst hc
      exact ⟨[_], us, rfl, by rw [K], hr, [_], rfl⟩
  | .str, lcs, vs, v, rest, hf, hi, _hok => by
    cases hf with
    | nil => simp [implode] at hi
    | cons hc hr =>
      rename_i c u cs us
      cases c <;> first | (simp [implode] at hi; done) | skip
      all_goals simp only [implode] at hi
      cases hi
      simp only [C] at hc; subst hc
      exact ⟨[_], us, rfl, by rw [K], hr, [_], rfl⟩
  | .slice e t, lcs, vs, v, rest, hf, hi, hok => by
    cases hf with
    | nil => simp [implode] at hi
    | cons hc hr =>
      rename_i c u cs us
      have hokc := hok c (by simp)
      cases c <;> first | (simp [implode] at hi; done) | skip
      all_goals simp only [implode] at hi
      case sl e' t' xs n =>
        split at hi
        · rename_i he
          obtain ⟨rfl, rfl⟩ := he
          cases hi
          obtain ⟨A, c, rfl, hl, hrd⟩ := hc
          exact ⟨[_], us, rfl, by rw [K]; exact ⟨A, c, rfl, hl, Rd_step (fun b _ _ => rfl) (fun b hb hlt => hokc b hb hlt) hrd⟩, hr, [_], rfl⟩
        · simp at hi
      case nils =>
        cases hi
        simp only [C] at hc; subst hc
        exact ⟨[_], us, rfl, by rw [K]; exact ⟨none, 0, rfl, Nat.le_refl _, fun i x hx => by simp at hx⟩, hr, [_], rfl⟩
      case own id =>
        split at hi
        · rename_i e' t' xs dp mt n hx
          split at hi
          · rename_i he
            obtain ⟨rfl, rfl⟩ := he
            cases hi
            simp only [C, hx] at hc
            subst hc
            obtain ⟨hfp, hn⟩ := hokc _ hx
            obtain ⟨inner, hown, hin⟩ := H id _ hx
            have hks : Ks (K w ok t') xs inner := by
              cases dp with
              | true =>
                exact hin.1.toKs fun x c b hb hM => M_K hM fun k hk => hfp k (by simp only [fpB]; exact List.mem_append_right _ (hb k hk))
              | false =>
                simp only at hin
                exact hin.imp fun x c hk => K_step (fun b _ _ => rfl) (fun b hb hlt => hn b hb hlt) hk
            obtain ⟨A, c, hv, hl, hrd⟩ := ownsRow_Rd (ok := ok) hown (fun x c hk => K_len hk) hks (fun b hb => hfp b (by simp only [fpB]; exact List.mem_append_left _ (by simp [hb])))
            refine ⟨[_], us, rfl, ?_, hr, [_], rfl⟩
            rw [K]
            exact ⟨A, c, by rw [hv], hl, hrd⟩
          · simp at hi
        · simp at hi
  | .pair a b, lcs, vs, v, rest, hf, hi, hok => by
    simp only [implode] at hi
    split at hi
    · rename_i x cs ha
      split at hi
      · rename_i y cs' hb
        cases hi
        obtain ⟨v1, v2, rfl, hk1, hf2, pre, hpre⟩ := implode_K H hf ha hok
        obtain ⟨v3, v4, rfl, hk2, hf4, pre', hpre'⟩ := implode_K H hf2 hb (fun c hc => hok c (by rw [hpre]; simp [hc]))
        refine ⟨v1 ++ v3, v4, by simp, ?_, hf4, pre ++ pre', by rw [hpre, hpre']; simp⟩
        rw [K]
        exact ⟨v1, v3, rfl, hk1, hk2⟩
      · simp at hi
    · simp at hi

/-- The blocks of the rows that cells hand on. -/
def fpIds (m : Mp) (h : List Blk) (ids : List Nat) : List Nat := ids.flatMap fun id => match h[id]? with
  | some x => fpB m id x
  | none => []
theorem fpIds_append (m : Mp) (h : List Blk) (a b : List Nat) : fpIds m h (a ++ b) = fpIds m h a ++ fpIds m h b := by simp [fpIds]
theorem moved_append (a b : List LC) : moved (a ++ b) = moved a ++ moved b := by simp [moved]

theorem ownsRow_len {w : World} {base : Nat} {e : TypeId} {size : Nat} {v : Value} {n : Nat} {xs : List Value} (h : w.ownsRow base e size v n xs) : xs.length = n * size := h.1

theorem flat_M {w : World} {ok : Nat → Prop} : ∀ {t : Ty} {v : Val t} {cs : List Value}, t.flat = true → K w ok t v cs → M w t v cs []
  | .int _, _, _, _, h => by rw [K] at h; rw [M]; exact ⟨h, rfl⟩
  | .bool, _, _, _, h => by rw [K] at h; rw [M]; exact ⟨h, rfl⟩
  | .str, _, _, _, h => by rw [K] at h; rw [M]; exact ⟨h, rfl⟩
  | .slice _ _, _, _, hf, _ => by simp [Ty.flat] at hf
  | .pair a b, _, _, hf, h => by
    simp [Ty.flat] at hf
    rw [K] at h; rw [M]
    obtain ⟨c1, c2, rfl, h1, h2⟩ := h
    exact ⟨c1, c2, [], [], rfl, rfl, flat_M hf.1 h1, flat_M hf.2 h2⟩
theorem flat_Ms {w : World} {ok : Nat → Prop} {t : Ty} (hf : t.flat = true) : ∀ {xs : List (Val t)} {cs : List Value}, Ks (K w ok t) xs cs → Ms (M w t) xs cs []
  | [], _, h => ⟨h, rfl⟩
  | x :: xs, _, h => by
    obtain ⟨c1, c2, rfl, h1, h2⟩ := h
    exact ⟨c1, c2, [], [], rfl, rfl, flat_M hf h1, flat_Ms hf h2⟩

theorem implode_M {w : World} {m : Mp} {h : List Blk} (H : ∀ id x, h[id]? = some x → BR w m h id x) : ∀ {t : Ty} {lcs : List LC} {vs : List Value} {v : Val t} {rest : List LC},
    F2 (C w m h) lcs vs → implode h t lcs = some (v, rest) → deepOf h lcs = true → ∃ v1 v2 pre, vs = v1 ++ v2 ∧ lcs = pre ++ rest ∧ M w t v v1 (fpIds m h (moved pre)) ∧ F2 (C w m h) rest v2
  | .int k, lcs, vs, v, rest, hf, hi, _hok => by
    cases hf with
    | nil => simp [implode] at hi
    | cons hc hr =>
      rename_i c u cs us
      cases c <;> first | (simp [implode] at hi; done) | skip
      all_goals simp only [implode] at hi
      split at hi
      · rename_i e; subst e; cases hi
        simp only [C] at hc; subst hc
        exact ⟨[_], us, [_], rfl, rfl, by rw [M]; exact ⟨rfl, rfl⟩, hr⟩
      · simp at hi
  | .bool, lcs, vs, v, rest, hf, hi, _hok => by
    cases hf with
    | nil => simp [implode] at hi
    | cons hc hr =>
      rename_i c u cs us
      cases c <;> first | (simp [implode] at hi; done) | skip
      all_goals simp only [implode] at hi
      cases hi
      simp only [C] at hc; subst hc
      exact ⟨[_], us, [_], rfl, rfl, by rw [M]; exact ⟨rfl, rfl⟩, hr⟩
  | .str, lcs, vs, v, rest, hf, hi, _hok => by
    cases hf with
    | nil => simp [implode] at hi
    | cons hc hr =>
      rename_i c u cs us
      cases c <;> first | (simp [implode] at hi; done) | skip
      all_goals simp only [implode] at hi
      cases hi
      simp only [C] at hc; subst hc
      exact ⟨[_], us, [_], rfl, rfl, by rw [M]; exact ⟨rfl, rfl⟩, hr⟩
  | .slice e t, lcs, vs, v, rest, hf, hi, hdp => by
    cases hf with
    | nil => simp [implode] at hi
    | cons hc hr =>
      rename_i c u cs us
      simp only [deepOf, List.all_cons, Bool.and_eq_true] at hdp
      cases c <;> first | (simp [implode] at hi; done) | skip
      all_goals simp only [implode] at hi
      case sl e' t' xs n => simp [LC.deep] at hdp
      case nils =>
        cases hi
        simp only [C] at hc; subst hc
        exact ⟨[_], us, [_], rfl, rfl, by rw [M]; exact ⟨.slice none 0 0, [], [], rfl, by simp [fpIds, moved, LC.movedId, Value.ownBlock], World.ownsRow_nil w 0 e t.sz, rfl, rfl⟩, hr⟩
      case own id =>
        split at hi
        · rename_i e' t' xs dp mt n hx
          split at hi
          · rename_i he
            obtain ⟨rfl, rfl⟩ := he
            cases hi
            simp only [C, hx] at hc
            subst hc
            have hdp1 : dp = true := by simpa [LC.deep, hx] using hdp.1
            subst hdp1
            obtain ⟨inner, hown, hin⟩ := H id _ hx
            refine ⟨[_], us, [_], rfl, rfl, ?_, hr⟩
            rw [M]
            exact ⟨_, inner, m.nst id, rfl, by simp [fpIds, moved, LC.movedId, hx, fpB], hown, hin.1⟩
          · simp at hi
        · simp at hi
  | .pair a b, lcs, vs, v, rest, hf, hi, hdp => by
    simp only [implode] at hi
    split at hi
    · rename_i x cs ha
      split at hi
      · rename_i y cs' hb
        cases hi
        obtain ⟨v1, v2, pre, rfl, hpre, hk1, hf2⟩ := implode_M H hf ha hdp
        obtain ⟨v3, v4, pre', rfl, hpre', hk2, hf4⟩ := implode_M H hf2 hb (by
          subst hpre
          simp only [deepOf, List.all_append, Bool.and_eq_true] at hdp
          exact hdp.2)
        refine ⟨v1 ++ v3, v4, pre ++ pre', by simp, by rw [hpre, hpre']; simp, ?_, hf4⟩
        rw [M, moved_append, fpIds_append]
        exact ⟨v1, v3, _, _, rfl, rfl, hk1, hk2⟩
      · simp at hi
    · simp at hi

/-! ### one cell put into a value -/
theorem setV_K {w : World} {m : Mp} {h : List Blk} {ok : Nat → Prop} : ∀ {t : Ty} {v v' : Val t} {cs : List Value} {f : Nat} {c : LC} {u : Value}, K w ok t v cs → setV t v f c = some v' → C w m h c u → f < t.sz ∧ K w ok t v' (cs.set f u)
  | .int k, v, v', cs, f, c, u, hk, hs, hc => by
    rw [K] at hk; subst hk
    cases f <;> cases c <;> first | (simp [setV] at hs; done) | skip
    all_goals simp only [setV] at hs
    split at hs
    · rename_i e; subst e; cases hs
      simp only [C] at hc; subst hc
      exact ⟨by simp [Ty.sz], by rw [K]; rfl⟩
    · simp at hs
  | .bool, v, v', cs, f, c, u, hk, hs, hc => by
    rw [K] at hk; subst hk
    cases f <;> cases c <;> first | (simp [setV] at hs; done) | skip
    all_goals simp only [setV] at hs
    cases hs
    simp only [C] at hc; subst hc
    exact ⟨by simp [Ty.sz], by rw [K]; rfl⟩
  | .str, v, v', cs, f, c, u, hk, hs, hc => by
    rw [K] at hk; subst hk
    cases f <;> cases c <;> first | (simp [setV] at hs; done) | skip
    all_goals simp only [setV] at hs
    cases hs
    simp only [C] at hc; subst hc
    exact ⟨by simp [Ty.sz], by rw [K]; rfl⟩
  | .slice _ _, v, v', cs, f, c, u, hk, hs, hc => by
    cases f <;> cases c <;> simp [setV] at hs
  | .pair a b, v, v', cs, f, c, u, hk, hs, hc => by
    rw [K] at hk
    obtain ⟨c1, c2, rfl, h1, h2⟩ := hk
    have hl := K_len h1
    simp only [setV] at hs
    split at hs
    · rename_i hf
      split at hs
      · rename_i x hx; cases hs
        obtain ⟨h3, h4⟩ := setV_K h1 hx hc
        refine ⟨by simp [Ty.sz]; omega, ?_⟩
        rw [K, List.set_append_left _ _ (by omega)]
        exact ⟨_, _, rfl, h4, h2⟩
      · simp at hs
    · rename_i hf
      split at hs
      · rename_i y hy; cases hs
        obtain ⟨h3, h4⟩ := setV_K h2 hy hc
        refine ⟨by simp [Ty.sz]; omega, ?_⟩
        rw [K, List.set_append_right _ _ (by omega), hl]
        exact ⟨_, _, rfl, h1, h4⟩
      · simp at hs
theorem setV_M {w : World} {m : Mp} {h : List Blk} : ∀ {t : Ty} {v v' : Val t} {cs : List Value} {B : List Nat} {f : Nat} {c : LC} {u : Value}, M w t v cs B → setV t v f c = some v' → C w m h c u → M w t v' (cs.set f u) B
  | .int k, v, v', cs, B, f, c, u, hk, hs, hc => by
    rw [M] at hk; obtain ⟨rfl, rfl⟩ := hk
    cases f <;> cases c <;> first | (simp [setV] at hs; done) | skip
    all_goals simp only [setV] at hs
    split at hs
    · rename_i e; subst e; cases hs
      simp only [C] at hc; subst hc
      rw [M]; exact ⟨rfl, rfl⟩
    · simp at hs
  | .bool, v, v', cs, B, f, c, u, hk, hs, hc => by
    rw [M] at hk; obtain ⟨rfl, rfl⟩ := hk
    cases f <;> cases c <;> first | (simp [setV] at hs; done) | skip
    all_goals simp only [setV] at hs
    cases hs
    simp only [C] at hc; subst hc
    rw [M]; exact ⟨rfl, rfl⟩
  | .str, v, v', cs, B, f, c, u, hk, hs, hc => by
    rw [M] at hk; obtain ⟨rfl, rfl⟩ := hk
    cases f <;> cases c <;> first | (simp [setV] at hs; done) | skip
    all_goals simp only [setV] at hs
    cases hs
    simp only [C] at hc; subst hc
    rw [M]; exact ⟨rfl, rfl⟩
  | .slice _ _, v, v', cs, B, f, c, u, hk, hs, hc => by
    cases f <;> cases c <;> simp [setV] at hs
  | .pair a b, v, v', cs, B, f, c, u, hk, hs, hc => by
    rw [M] at hk
    obtain ⟨c1, c2, B1, B2, rfl, rfl, h1, h2⟩ := hk
    have hl := M_len h1
    simp only [setV] at hs
    split at hs
    · rename_i hf
      split at hs
      · rename_i x hx; cases hs
        rw [M, List.set_append_left _ _ (by omega)]
        exact ⟨_, _, _, _, rfl, rfl, setV_M h1 hx hc, h2⟩
      · simp at hs
    · rename_i hf
      split at hs
      · rename_i y hy; cases hs
        rw [M, List.set_append_right _ _ (by omega), hl]
        exact ⟨_, _, _, _, rfl, rfl, h1, setV_M h2 hy hc⟩
      · simp at hs

theorem Ms_set {α : Type} {T : α → List Value → List Nat → Prop} {xs : List α} {cs : List Value} {B : List Nat} {sz : Nat} (hs : ∀ x c b, T x c b → c.length = sz) (h : Ms T xs cs B) {i : Nat} {x : α} (hi : xs[i]? = some x) :
    ∃ B1 b B2, B = B1 ++ b ++ B2 ∧ T x ((cs.drop (i * sz)).take sz) b ∧ ∀ x' c' b', T x' c' b' → Ms T (xs.set i x') (cs.take (i * sz) ++ c' ++ cs.drop (i * sz + sz)) (B1 ++ b' ++ B2) := by
  induction xs generalizing cs B i with
  | nil => simp at hi
  | cons y xs ih =>
    obtain ⟨c1, c2, b1, b2, rfl, rfl, h1, h2⟩ := h
    have hl := hs _ _ _ h1
    cases i with
    | zero =>
      simp at hi; subst hi
      refine ⟨[], b1, b2, by simp, ?_, fun x' c' b' ht => ?_⟩
      · have : ((c1 ++ c2).drop (0 * sz)).take sz = c1 := by simp [← hl]
        rw [this]; exact h1
      · simp only [Nat.zero_mul, List.take_zero, List.nil_append, Nat.zero_add, List.set_cons_zero]
        exact ⟨c', c2, b', b2, by rw [← hl]; simp, rfl, ht, h2⟩
    | succ i =>
      obtain ⟨B1, b, B2, rfl, ht, hset⟩ := ih h2 (i := i) (by simpa using hi)
      have e : (i + 1) * sz = c1.length + i * sz := by rw [hl, Nat.succ_mul, Nat.add_comm]
      refine ⟨b1 ++ B1, b, B2, by simp, ?_, fun x' c' b' ht' => ?_⟩
      · rw [e, List.drop_append, List.drop_eq_nil_of_le (by omega)]
        simpa using ht
      · refine ⟨c1, c2.take (i * sz) ++ c' ++ c2.drop (i * sz + sz), b1, B1 ++ b' ++ B2, ?_, by simp, h1, hset x' c' b' ht'⟩
        rw [e, show c1.length + i * sz + sz = c1.length + (i * sz + sz) by omega, List.drop_append, List.take_append, List.drop_eq_nil_of_le (by omega), List.take_of_length_le (by omega)]
        simp
end Go.T
