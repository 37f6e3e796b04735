/- Bounds of a variable in a cell: what the functions compute. -/
import Derived.Test.YthefcjjgchekiaaB17
set_option linter.unusedSimpArgs false
set_option linter.unusedVariables false
namespace Go.T
open Go Go.Proofs
set_option maxHeartbeats 4000000
set_option maxRecDepth 100000
abbrev noBounds : Option (Vals [i66, i4]) := some ((false, ((0 : Int), (0 : Int)), false, false, ((0 : Int), (0 : Int)), false, false), false, ())
theorem t41 (N : Nat) (d v : Int) (hd : 0 ≤ d ∧ d ≤ 4) (K : Int → List (Val Y36) → Option (Vals [i66, i4])) : ∀ (k : Nat) (x : Val Y32), okN d x → (k : Int) ≤ d → ∀ n, k < n →
    m41_l5 N v false 0 0 false false 0 0 false false K n ((k : Int) - 1) x.1 x.2 = match dropAll v k x with
      | some y => K y.1 y.2
      | none => noBounds
  | 0, x, _, _, n + 1, _ => by
    rw [m41_l5, bif_decN (by omega)]
    rfl
  | k + 1, x, hx, hk, n + 1, hn => by
    have e : ((k + 1 : Nat) : Int) - 1 = (k : Int) := by omega
    have e2 : IntKind.i64.wrap ((k : Int) - 1) = (k : Int) - 1 := wrap64 (by omega) (by omega)
    rw [e, m41_l5, bif_dec (by omega), e2, dropAll]
    by_cases h : (k : Int) = v
    · rw [bif_dec h, if_pos h]
      exact t41 N d v hd K k x hx (by omega) n (by omega)
    · rw [bif_decN h, if_neg h]
      obtain ⟨h1, h2, h3⟩ := hx
      have ex : (((x.1 : Int), (x.2 : List (Val Y36))) : Val Y32) = x := rfl
      have hr : 0 ≤ (k : Int) ∧ (k : Int) < (x.1 : Int) := ⟨by omega, by rw [h3]; omega⟩
      have ed : dropV x k = dropL x k := by unfold dropV; rw [h1, decide_eq_true hr]; rfl
      rw [ex, ed]
      cases hm : (dropL x k).2 with
      | false => rfl
      | true =>
        have hN := dropL_N h1 hm
        rw [h3] at hN
        exact t41 N d v hd K k (dropL x k).1 hN (by omega) n (by omega)
theorem t39 (N : Nat) (d v : Int) (hd : 0 ≤ d ∧ d ≤ 4) (K : Int → List (Val Y36) → Option (Vals [i66, i4])) : ∀ (k : Nat) (x : Val Y32), okN d x → (k : Int) ≤ d → ∀ n, k < n →
    m39_l5 N v false 0 0 false false 0 0 false false K n ((k : Int) - 1) x.1 x.2 = match dropAll v k x with
      | some y => K y.1 y.2
      | none => noBounds
  | 0, x, _, _, n + 1, _ => by
    rw [m39_l5, bif_decN (by omega)]
    rfl
  | k + 1, x, hx, hk, n + 1, hn => by
    have e : ((k + 1 : Nat) : Int) - 1 = (k : Int) := by omega
    have e2 : IntKind.i64.wrap ((k : Int) - 1) = (k : Int) - 1 := wrap64 (by omega) (by omega)
    rw [e, m39_l5, bif_dec (by omega), e2, dropAll]
    by_cases h : (k : Int) = v
    · rw [bif_dec h, if_pos h]
      exact t39 N d v hd K k x hx (by omega) n (by omega)
    · rw [bif_decN h, if_neg h]
      obtain ⟨h1, h2, h3⟩ := hx
      have ex : (((x.1 : Int), (x.2 : List (Val Y36))) : Val Y32) = x := rfl
      have hr : 0 ≤ (k : Int) ∧ (k : Int) < (x.1 : Int) := ⟨by omega, by rw [h3]; omega⟩
      rw [ex, chk_pos (show dropL_pre x k from ⟨h1, hr⟩)]
      cases hm : (dropL x k).2 with
      | false => rfl
      | true =>
        have hN := dropL_N h1 hm
        rw [h3] at hN
        exact t39 N d v hd K k (dropL x k).1 hN (by omega) n (by omega)
theorem dropAll_N {d v : Int} : ∀ (k : Nat) {x y : Val Y32}, okN d x → dropAll v k x = some y → okN d y
  | 0, x, y, hx, h => by simp only [dropAll, Option.some.injEq] at h; subst h; exact hx
  | k + 1, x, y, hx, h => by
    rw [dropAll] at h
    by_cases hk : (k : Int) = v
    · rw [if_pos hk] at h; exact dropAll_N k hx h
    · rw [if_neg hk] at h
      cases hm : (dropL x k).2 with
      | false => rw [hm] at h; simp at h
      | true =>
        rw [hm] at h
        have hN := dropL_N hx.1 hm
        rw [hx.2.2] at hN
        exact dropAll_N k hN h
theorem e39 (c : Val Y32) (v : Int) (h : bndsOf_pre c v) : ∃ N, m39 N c v = some ((bndsOf c v).1, (bndsOf c v).2, ()) := ⟨6, by
  rw [m39, chk_pos (show isCell_pre c from h)]
  unfold bndsOf
  cases hc : isCell c with
  | false => rfl
  | true =>
  obtain ⟨hd, hl, hok⟩ := cell_in hc
  obtain ⟨hL, hN⟩ := okL_cell hc
  have e1 : IntKind.i64.wrap ((c.1 : Int) - 1) = (c.1 : Int) - 1 := wrap64 (Int.le_sub_right_of_add_le (Int.le_trans (by decide) hd.1)) (Int.le_trans (Int.sub_le_self _ (by decide)) (Int.le_trans hd.2 (by decide)))
  rw [e1]
  by_cases hv : 0 ≤ v ∧ v < (c.1 : Int)
  · rw [inR_iff (show 0 ≤ v ∧ v ≤ (c.1 : Int) - 1 from ⟨hv.1, Int.le_sub_one_of_lt hv.2⟩), decide_eq_true hv]
    simp only [Bool.not_true, cond_false, Bool.and_self, cond_true]
    rw [chk_pos (show nrmV_pre c.1 c.2 from hL)]
    have ed : (((c.1 : Int).toNat : Nat) : Int) = (c.1 : Int) := Int.toNat_of_nonneg hd.1
    have hk : (c.1 : Int).toNat < 6 := by have := hd.2; have : (((c.1 : Int).toNat : Nat) : Int) ≤ 4 := by rw [ed]; exact this
                                          omega
    have t := t39 6 c.1 v hd (fun v17 v18 => chk (bnds_pre (v17, v18) v) (some (bnds (v17, v18) v, true, ()))) (c.1 : Int).toNat (nrmV c.1 c.2) hN (by rw [ed]; exact Int.le_refl _) 6 hk
    rw [ed] at t
    refine (show _ = _ from t).trans ?_
    cases hm : dropAll v (c.1 : Int).toNat (nrmV c.1 c.2) with
    | none => rfl
    | some y =>
      have hy := dropAll_N _ hN hm
      exact chk_pos (show bnds_pre y v from ⟨hy.1, hy.2.1, hv.1, by rw [hy.2.2]; exact hv.2⟩)
  · rw [inR_not (show ¬ (0 ≤ v ∧ v ≤ (c.1 : Int) - 1) from fun h => hv ⟨h.1, Int.lt_of_le_sub_one h.2⟩), decide_eq_false hv]
    rfl⟩
theorem s39 : Sound Try.prog 39 g39 := sound_run (tt := tt) (Γ := Γ39) hT (ok_cons s38 (ok_cons s44 (ok_cons s49 (ok_cons s50 (ok_cons s51 ok_nil))))) hm (fn := Try.f39) Try.func39 (c := Try.f39.body.getD .skip) (by kernel_rfl) (by kernel_rfl) fun x hx => by
  obtain ⟨N, h⟩ := e39 x.1 x.2.1 hx
  exact ⟨T39 N, p39, noSem_ok _, tb39 N, (run39 N x.1 x.2.1).trans h⟩
theorem e41 (c : Val Y32) (v : Int) : ∃ N, m41 N c v = some ((bndsOf c v).1, (bndsOf c v).2, ()) := ⟨6, by
  rw [m41]
  unfold bndsOf
  cases hc : isCell c with
  | false => rfl
  | true =>
  obtain ⟨hd, hl, hok⟩ := cell_in hc
  obtain ⟨hL, hN⟩ := okL_cell hc
  have e1 : IntKind.i64.wrap ((c.1 : Int) - 1) = (c.1 : Int) - 1 := wrap64 (Int.le_sub_right_of_add_le (Int.le_trans (by decide) hd.1)) (Int.le_trans (Int.sub_le_self _ (by decide)) (Int.le_trans hd.2 (by decide)))
  simp only [Bool.not_true, cond_false, Bool.true_and]
  by_cases h1 : v < 0
  · rw [bif_dec h1, decide_eq_false (fun h => absurd h.1 (Int.not_le.2 h1))]; rfl
  rw [bif_decN h1]
  by_cases h2 : (c.1 : Int) ≤ v
  · rw [bif_dec h2, decide_eq_false (fun h => absurd h.2 (Int.not_lt.2 h2))]; rfl
  have hv : 0 ≤ v ∧ v < (c.1 : Int) := ⟨Int.not_lt.1 h1, Int.not_le.1 h2⟩
  rw [bif_decN h2, decide_eq_true hv, e1, chk_pos (show nrmV_pre c.1 c.2 from hL)]
  simp only [cond_true]
  have ed : (((c.1 : Int).toNat : Nat) : Int) = (c.1 : Int) := Int.toNat_of_nonneg hd.1
  have hk : (c.1 : Int).toNat < 6 := by
    have := hd.2
    have : (((c.1 : Int).toNat : Nat) : Int) ≤ 4 := by rw [ed]; exact this
    omega
  have t := fun K => t41 6 c.1 v hd K (c.1 : Int).toNat (nrmV c.1 c.2) hN (by rw [ed]; exact Int.le_refl _) 6 hk
  simp only [ed] at t
  refine (t _).trans ?_
  cases hm : dropAll v (c.1 : Int).toNat (nrmV c.1 c.2) with
  | none => rfl
  | some y =>
    have hy := dropAll_N _ hN hm
    have hvy : v < (y.1 : Int) := by rw [hy.2.2]; exact hv.2
    dsimp only
    have ey : (((y.1 : Int), (y.2 : List (Val Y36))) : Val Y32) = y := rfl
    rw [ey, chk_pos (show isNoneC_pre y from hy.1), chk_pos (show bndsL_pre y v from ⟨hy.1, hv.1, hvy⟩)]
    unfold bnds
    cases isNoneC y with
    | true => rfl
    | false =>
      obtain ⟨_, _, hoky⟩ := cell_in hy.1
      have hb : okBn (bndsL y v) := foldB_ok noB_ok fun a ha => (hoky a ha).1
      generalize bndsL y v = b at hb
      obtain ⟨hl, l, lo, hh, g, ho, em⟩ := b
      have el : (((l.1 : Int), (l.2 : Int)) : Val Y64) = l := rfl
      have eg : (((g.1 : Int), (g.2 : Int)) : Val Y64) = g := rfl
      unfold endB
      dsimp only
      rw [el, eg]
      cases hl with
      | false => rfl
      | true =>
        cases hh with
        | false => rfl
        | true =>
          have rl : isRatio l = true := hb.1.2 rfl
          have rg : isRatio g = true := hb.2.2 rfl
          rw [cmpR_gt rl rg]
          by_cases he : l = g
          · subst he
            rw [bif_dec ((cmpR_eq rl rl).2 rfl)]
            cases lessR l l <;> cases lo <;> cases ho <;> simp [empB]
          · rw [bif_decN (fun h => he ((cmpR_eq rl rg).1 h)), decide_eq_false (fun h => he h.symm)]
            cases lessR g l <;> rfl⟩
theorem s41 : Sound Try.prog 41 g41 := sound_run (tt := tt) (Γ := Γ41) hT (ok_cons s40 (ok_cons s52 (ok_cons s53 (ok_cons s54 (ok_cons s55 (ok_cons s56 ok_nil)))))) hm (fn := Try.f41) Try.func41 (c := Try.f41.body.getD .skip) (by kernel_rfl) (by kernel_rfl) fun x hx => by
  obtain ⟨N, h⟩ := e41 x.1 x.2.1
  exact ⟨T41 N, p41, noSem_ok _, tb41 N, (run41 N x.1 x.2.1).trans h⟩
end Go.T
