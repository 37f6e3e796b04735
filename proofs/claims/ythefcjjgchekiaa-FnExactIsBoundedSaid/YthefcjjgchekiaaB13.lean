/- Bounds: what the functions compute. -/
import Derived.Test.YthefcjjgchekiaaB12
set_option linter.unusedSimpArgs false
set_option linter.unusedVariables false
namespace Go.T
open Go Go.Proofs
set_option maxHeartbeats 4000000
set_option maxRecDepth 100000
theorem okR_in {r : Val Y64} (h : okR r) : inRt r := by
  rcases h with h | h
  · exact ratio_in h
  · subst h; exact ⟨⟨by decide, by decide⟩, ⟨by decide, by decide⟩⟩
theorem limit_ok {a : Val Y36} {v : Int} (ha : okA a) (h0 : cfV v a ≠ 0) : isRatio (makeR (-(a.2.1 : Int)) (cfV v a)) = true := by
  have hc := okA_c ha
  have hx := cfV_in (v := v) ha
  have hc' : -400000000 ≤ -(a.2.1 : Int) ∧ -(a.2.1 : Int) ≤ 400000000 := ⟨Int.neg_le_neg hc.2, by have := Int.neg_le_neg hc.1; exact this⟩
  rw [makeR_redR hc' hx]
  exact redR_ratio hc' hx h0
theorem e69 (b : Val Y66) (a : Val Y36) (v : Int) (h : narB_pre b a v) : ∃ N, m69 N b a v = some (narB b a v, ()) := ⟨0, by
  obtain ⟨hb, ha, hv⟩ := h
  obtain ⟨hl, l, lo, hh, g, ho, em⟩ := b
  have hcc := okA_c ha
  have hc : inI a.2.1 := (atom_in ha).2.1
  have hl' : inRt l := okR_in hb.1.1
  have hg' : inRt g := okR_in hb.2.1
  rw [m69]
  rw [chk_pos (show 0 ≤ v ∧ v < (List.length (α := Val (.int .i64)) a.1 : Int) from hv), cfV_eq v a, neg_in hc]
  unfold narB
  have hlim := fun h0 => limit_ok (v := v) ha h0
  generalize cfV v a = x at *
  generalize makeR (-(a.2.1 : Int)) x = r at *
  have er : (((r.1 : Int), (r.2 : Int)) : Val Y64) = r := rfl
  rw [er]
  by_cases hx : 0 < x
  · have hr : inRt r := ratio_in (hlim (by omega))
    have hx' : ¬ x < 0 := by omega
    simp only [decide_eq_true hx, decide_eq_false hx', cond_true, cond_false]
    have p : lessR_pre r g := ⟨hr, hg'⟩
    by_cases he : r = g
    · subst he
      cases hh <;> simp only [Bool.not_true, Bool.not_false, cond_true, cond_false, Bool.true_or, Bool.false_or]
      rw [chk_pos p]
      cases lessR r r <;> cases a.2.2 <;> simp
    · have hne : (decide ((r.1 : Int) = (g.1 : Int)) && decide ((r.2 : Int) = (g.2 : Int))) = false := by
        rw [Bool.eq_false_iff]
        intro h
        simp only [Bool.and_eq_true, decide_eq_true_eq] at h
        exact he (Prod.ext h.1 h.2)
      cases hh <;> simp only [Bool.not_true, Bool.not_false, cond_true, cond_false, Bool.true_or, Bool.false_or]
      rw [chk_pos p]
      simp only [hne, decide_eq_false he, cond_false, Bool.false_and, Bool.or_false]
      cases lessR r g <;> rfl
  · by_cases hx2 : x < 0
    · have hr : inRt r := ratio_in (hlim (by omega))
      simp only [decide_eq_false hx, decide_eq_true hx2, cond_true, cond_false]
      have p : lessR_pre l r := ⟨hl', hr⟩
      by_cases he : r = l
      · subst he
        cases hl <;> simp only [Bool.not_true, Bool.not_false, cond_true, cond_false, Bool.true_or, Bool.false_or]
        rw [chk_pos p]
        cases lessR r r <;> cases a.2.2 <;> simp
      · have hne : (decide ((r.1 : Int) = (l.1 : Int)) && decide ((r.2 : Int) = (l.2 : Int))) = false := by
          rw [Bool.eq_false_iff]
          intro h
          simp only [Bool.and_eq_true, decide_eq_true_eq] at h
          exact he (Prod.ext h.1 h.2)
        cases hl <;> simp only [Bool.not_true, Bool.not_false, cond_true, cond_false, Bool.true_or, Bool.false_or]
        rw [chk_pos p]
        simp only [hne, decide_eq_false he, cond_false, Bool.false_and, Bool.or_false]
        cases lessR l r <;> rfl
    · simp only [decide_eq_false hx, decide_eq_false hx2, cond_false]⟩
theorem s69 : Sound Try.prog 69 g69 := sound_run (tt := tt) (Γ := Γ69) hT (ok_cons s70 (ok_cons s85 ok_nil)) hm (fn := Try.f69) Try.func69 (c := Try.f69.body.getD .skip) (by kernel_rfl) (by kernel_rfl) fun x hx => by
  obtain ⟨N, h⟩ := e69 x.1 x.2.1 x.2.2.1 hx
  exact ⟨T69 N, p69, noSem_ok _, tb69 N, (run69 N x.1 x.2.1 x.2.2.1).trans h⟩
end Go.T
