/- Boxes: what the functions compute. -/
import Derived.Test.YthefcjjgchekiaaB19
set_option linter.unusedSimpArgs false
set_option linter.unusedVariables false
namespace Go.T
open Go Go.Proofs
set_option maxHeartbeats 4000000
set_option maxRecDepth 100000
abbrev noBox : Option (Vals [i46, i4]) := some (([] : List (Val Y66)), false, ())
theorem t20 (N : Nat) (c : Val Y32) (hd : (c.1 : Int) ≤ 4) (K : List (Val Y66) → Option (Vals [i46, i4])) : ∀ (k v : Nat) (s : List (Val Y66)), ((v + k : Nat) : Int) = c.1 → s.length + k ≤ 1000 → ∀ n, k < n →
    m20_l5 N c.1 c.2 K n v s = match boxGo c k v s with
      | some l => K l
      | none => noBox
  | 0, v, s, hv, _, n + 1, _ => by
    rw [m20_l5, bif_decN (by rw [← hv]; omega)]
    rfl
  | k + 1, v, s, hv, hs, n + 1, hn => by
    have h4 : ((v + (k + 1) : Nat) : Int) ≤ 4 := Int.le_trans (Int.le_of_eq hv) hd
    have e2 : IntKind.i64.wrap ((v : Int) + 1) = ((v + 1 : Nat) : Int) := by rw [wrap64 (by omega) (by omega)]; omega
    have ex : (((c.1 : Int), (c.2 : List (Val Y36))) : Val Y32) = c := rfl
    rw [m20_l5, bif_dec (by rw [← hv]; omega), ex, e2, boxGo]
    cases hb : (bndsOf c v).2 with
    | false => rfl
    | true =>
      simp only [Bool.not_true, cond_false, cond_true]
      rw [chk_pos (by simp; omega)]
      exact t20 N c hd K k (v + 1) _ (by rw [← hv]; omega) (by simp; omega) n (by omega)
theorem e20 (c : Val Y32) : ∃ N, m20 N c = some ((boxOf c).1, (boxOf c).2, ()) := ⟨6, by
  rw [m20]
  unfold boxOf
  cases hc : isCell c with
  | false => rfl
  | true =>
  obtain ⟨hd, hl, hok⟩ := cell_in hc
  have ed : (((c.1 : Int).toNat : Nat) : Int) = (c.1 : Int) := Int.toNat_of_nonneg hd.1
  have hk : (c.1 : Int).toNat < 6 := by
    have := hd.2
    have : (((c.1 : Int).toNat : Nat) : Int) ≤ 4 := by rw [ed]; exact this
    omega
  simp only [Bool.not_true, cond_false, cond_true]
  refine (t20 6 c hd.2 _ (c.1 : Int).toNat 0 [] (by rw [Nat.zero_add, ed]) (by simp; omega) 6 hk).trans ?_
  cases boxGo c (c.1 : Int).toNat 0 [] <;> rfl⟩
theorem s20 : Sound Try.prog 20 g20 := sound_run (tt := tt) (Γ := Γ20) hT (ok_cons s40 (ok_cons s41 ok_nil)) hm (fn := Try.f20) Try.func20 (c := Try.f20.body.getD .skip) (by kernel_rfl) (by kernel_rfl) fun x hx => by
  obtain ⟨N, h⟩ := e20 x.1
  exact ⟨T20 N, p20, noSem_ok _, tb20 N, (run20 N x.1).trans h⟩
theorem t19 (N : Nat) (c : Val Y32) (hc : isCell c = true) (hd : (c.1 : Int) ≤ 4) (hp : isCell_pre c) (K : List (Val Y66) → Option (Vals [i46, i4])) : ∀ (k v : Nat) (s : List (Val Y66)), ((v + k : Nat) : Int) = c.1 → s.length + k ≤ 1000 → ∀ n, k < n →
    m19_l3 N c.1 c.2 K n v s = match boxGo c k v s with
      | some l => K l
      | none => noBox
  | 0, v, s, hv, _, n + 1, _ => by
    rw [m19_l3, bif_decN (by rw [← hv]; omega)]
    rfl
  | k + 1, v, s, hv, hs, n + 1, hn => by
    have h4 : ((v + (k + 1) : Nat) : Int) ≤ 4 := Int.le_trans (Int.le_of_eq hv) hd
    have e2 : IntKind.i64.wrap ((v : Int) + 1) = ((v + 1 : Nat) : Int) := by rw [wrap64 (by omega) (by omega)]; omega
    have ex : (((c.1 : Int), (c.2 : List (Val Y36))) : Val Y32) = c := rfl
    rw [m19_l3, bif_dec (by rw [← hv]; omega), ex, e2, boxGo, chk_pos hp, hc, cond_true, chk_pos (show bndsOf_pre c v from hp)]
    cases hb : (bndsOf c v).2 with
    | false => rfl
    | true =>
      simp only [Bool.not_true, cond_false, cond_true]
      rw [chk_pos (by simp; omega)]
      exact t19 N c hc hd hp K k (v + 1) _ (by rw [← hv]; omega) (by simp; omega) n (by omega)
theorem e19 (c : Val Y32) (h : boxOf_pre c) : ∃ N, m19 N c = some ((boxOf c).1, (boxOf c).2, ()) := ⟨6, by
  have hp : isCell_pre c := h
  rw [m19]
  unfold boxOf
  cases hc : isCell c with
  | false =>
    have ex : (((c.1 : Int), (c.2 : List (Val Y36))) : Val Y32) = c := rfl
    rw [m19_l3, ex, chk_pos hp, hc, chk_pos hp]
    cases decide ((0 : Int) < (c.1 : Int)) <;> rfl
  | true =>
  obtain ⟨hd, hl, hok⟩ := cell_in hc
  have ed : (((c.1 : Int).toNat : Nat) : Int) = (c.1 : Int) := Int.toNat_of_nonneg hd.1
  have hk : (c.1 : Int).toNat < 6 := by
    have := hd.2
    have : (((c.1 : Int).toNat : Nat) : Int) ≤ 4 := by rw [ed]; exact this
    omega
  simp only [cond_true]
  refine (t19 6 c hc hd.2 hp _ (c.1 : Int).toNat 0 [] (by rw [Nat.zero_add, ed]) (by simp; omega) 6 hk).trans ?_
  cases boxGo c (c.1 : Int).toNat 0 [] with
  | none => rfl
  | some l => exact chk_pos hp⟩
theorem s19 : Sound Try.prog 19 g19 := sound_run (tt := tt) (Γ := Γ19) hT (ok_cons s38 (ok_cons s39 ok_nil)) hm (fn := Try.f19) Try.func19 (c := Try.f19.body.getD .skip) (by kernel_rfl) (by kernel_rfl) fun x hx => by
  obtain ⟨N, h⟩ := e19 x.1 hx
  exact ⟨T19 N, p19, noSem_ok _, tb19 N, (run19 N x.1).trans h⟩
theorem boxGo_len (c : Val Y32) : ∀ (k v : Nat) {s l : List (Val Y66)}, boxGo c k v s = some l → l.length = s.length + k
  | 0, v, s, l, h => by simp only [boxGo, Option.some.injEq] at h; subst h; rfl
  | k + 1, v, s, l, h => by
    rw [boxGo] at h
    cases hb : (bndsOf c v).2 with
    | false => rw [hb] at h; simp at h
    | true =>
      rw [hb] at h
      have := boxGo_len c k (v + 1) h
      simp at this
      omega
theorem boxOf_len (c : Val Y32) : List.length (α := Val Y66) (boxOf c).1 ≤ 4 ∧ ((boxOf c).2 = false → (boxOf c).1 = []) := by
  unfold boxOf
  cases hc : isCell c with
  | false => exact ⟨by simp, fun _ => rfl⟩
  | true =>
    obtain ⟨hd, _, _⟩ := cell_in hc
    have ed : (((c.1 : Int).toNat : Nat) : Int) = (c.1 : Int) := Int.toNat_of_nonneg hd.1
    have hk : (c.1 : Int).toNat ≤ 4 := by
      have := hd.2
      have : (((c.1 : Int).toNat : Nat) : Int) ≤ 4 := by rw [ed]; exact this
      omega
    cases hb : boxGo c (c.1 : Int).toNat 0 [] with
    | none => exact ⟨by simp, fun _ => rfl⟩
    | some l =>
      have := boxGo_len c _ _ hb
      exact ⟨by simp at this ⊢; omega, fun h => by simp at h⟩
theorem t18 (N : Nat) (l : List (Val Y66)) (hl : l.length ≤ 1048576) (K : Unit → Option (Vals [i4, i4])) : ∀ (k i : Nat), l.length - i = k → ∀ n, k < n →
    m18_l5 N l.length l K n i = bif (l.drop i).any openB then some (false, true, ()) else K ()
  | 0, i, hi, n + 1, _ => by
    rw [m18_l5, bif_decN (by omega), List.drop_eq_nil_of_le (by omega)]
    rfl
  | k + 1, i, hi, n + 1, hn => by
    have h1 : i < l.length := by omega
    rw [m18_l5, bif_dec (by omega), chk_pos (by omega), chk_pos (by simp; omega), getD_atI h1, wrap_succ h1 hl, drop_at h1, List.any_cons, t18 N l hl K k (i + 1) (by omega) n (by omega)]
    unfold openB
    cases l[i].2.2.2.2.2.2 <;> cases l[i].1 <;> cases l[i].2.2.2.1 <;> rfl
theorem e18 (c : Val Y32) : ∃ N, m18 N c = some ((isBd c).1, (isBd c).2, ()) := ⟨6, by
  obtain ⟨h4, _⟩ := boxOf_len c
  rw [m18]
  unfold isBd
  cases hb : (boxOf c).2 with
  | false => rfl
  | true =>
    simp only [Bool.not_true, cond_false, cond_true]
    refine (t18 6 (boxOf c).1 (by omega) _ _ 0 rfl 6 (by omega)).trans ?_
    rw [List.drop_zero]
    cases List.any (α := Val Y66) (boxOf c).1 openB <;> rfl⟩
theorem s18 : Sound Try.prog 18 g18 := sound_run (tt := tt) (Γ := Γ18) hT (ok_cons s20 ok_nil) hm (fn := Try.f18) Try.func18 (c := Try.f18.body.getD .skip) (by kernel_rfl) (by kernel_rfl) fun x hx => by
  obtain ⟨N, h⟩ := e18 x.1
  exact ⟨T18 N, p18, noSem_ok _, tb18 N, (run18 N x.1).trans h⟩
theorem t17 (N : Nat) (b : Bool) (l : List (Val Y66)) (hl : l.length ≤ 1048576) (K : Unit → Option (Vals [i4, i4])) : ∀ (k i : Nat), l.length - i = k → ∀ n, k < n →
    m17_l3 N b l K n i = bif (l.drop i).any openB then some (false, true, ()) else K ()
  | 0, i, hi, n + 1, _ => by
    rw [m17_l3, bif_decN (by omega), List.drop_eq_nil_of_le (by omega)]
    rfl
  | k + 1, i, hi, n + 1, hn => by
    have h1 : i < l.length := by omega
    rw [m17_l3, bif_dec (by omega), getD_atI h1, wrap_succ h1 hl, drop_at h1, List.any_cons, t17 N b l hl K k (i + 1) (by omega) n (by omega)]
    rw [chk_pos (show 0 ≤ (i : Int) ∧ (i : Int) < (l.length : Int) by omega), chk_pos (show (i : Int).toNat < l.length by simp; omega), chk_pos (show 0 ≤ (i : Int) ∧ (i : Int) < (l.length : Int) by omega), chk_pos (show (i : Int).toNat < l.length by simp; omega)]
    unfold openB
    cases l[i].2.2.2.2.2.2 <;> cases l[i].1 <;> simp only [Bool.not_true, Bool.not_false, cond_true, cond_false, Bool.true_and, Bool.false_and, Bool.true_or, Bool.false_or]
    all_goals first | rfl | (rw [chk_pos (show 0 ≤ (i : Int) ∧ (i : Int) < (l.length : Int) by omega), chk_pos (show (i : Int).toNat < l.length by simp; omega)]; cases l[i].2.2.2.1 <;> rfl)
theorem e17 (c : Val Y32) (h : isBd_pre c) : ∃ N, m17 N c = some ((isBd c).1, (isBd c).2, ()) := ⟨6, by
  obtain ⟨h4, h0⟩ := boxOf_len c
  rw [m17, chk_pos (show boxOf_pre c from h)]
  unfold isBd
  refine (t17 6 (boxOf c).2 (boxOf c).1 (by omega) _ _ 0 rfl 6 (by omega)).trans ?_
  rw [List.drop_zero]
  cases hb : (boxOf c).2 with
  | false => rw [h0 hb]; rfl
  | true => cases List.any (α := Val Y66) (boxOf c).1 openB <;> rfl⟩
theorem s17 : Sound Try.prog 17 g17 := sound_run (tt := tt) (Γ := Γ17) hT (ok_cons s19 ok_nil) hm (fn := Try.f17) Try.func17 (c := Try.f17.body.getD .skip) (by kernel_rfl) (by kernel_rfl) fun x hx => by
  obtain ⟨N, h⟩ := e17 x.1 hx
  exact ⟨T17 N, p17, noSem_ok _, tb17 N, (run17 N x.1).trans h⟩
end Go.T
