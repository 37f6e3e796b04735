/- Neat regions: what the functions compute. -/
import Derived.Test.YthefcjjgchekiaaGreatE8
set_option linter.unusedSimpArgs false
set_option linter.unusedVariables false
namespace Go.T
open Go Go.Proofs
set_option maxHeartbeats 4000000
set_option maxRecDepth 100000
theorem addV_len (r : Val Y50) (c : Val Y33) : List.length (α := Val Y33) (addV r c).1.2 ≤ List.length (α := Val Y33) r.2 + 1 := by
  unfold addV
  cases (minV c).2 with
  | false => exact Nat.le_succ _
  | true =>
    cases isNoneC (minV c).1 with
    | true => exact Nat.le_succ _
    | false =>
      cases decide (12 ≤ (List.length (α := Val Y33) r.2 : Int)) with
      | true => exact Nat.le_succ _
      | false => exact Nat.le_of_eq (List.length_append ..)
theorem mapL_K (f : Vals [i33] → Vals [i33, i4]) : ∀ (cs : List (Val Y33)) (r : Val Y50), (bif (mapL f cs r).2 then some ((mapL f cs r).1, true, ()) else some (((0 : Int), ([] : List (Val Y33))), false, ()) : Option (Vals [i50, i4])) = some ((mapL f cs r).1, (mapL f cs r).2, ())
  | [], r => rfl
  | c :: cs, r => by
    simp only [mapL]
    cases (f (c, ())).2.1 with
    | false => rfl
    | true =>
      cases (addV r (f (c, ())).1).2 with
      | false => rfl
      | true => exact mapL_K f cs _
theorem t144 (N : HN [i33] [i33, i4]) (xs : List (Val Y33)) (v4 : Int) (K : Int → List (Val Y33) → Option (Vals [i50, i4])) (hl : xs.length ≤ 12) (hp : ∀ c ∈ xs, N.pre (c, ())) : ∀ (k i : Nat), i + k = xs.length → ∀ n, k < n → ∀ (r : Val Y50), List.length (α := Val Y33) r.2 ≤ i →
    m144_l3 N xs xs.length v4 K n (i : Int) r.1 r.2 = bif (mapL N.fn (xs.drop i) r).2 then K (mapL N.fn (xs.drop i) r).1.1 (mapL N.fn (xs.drop i) r).1.2 else some (((0 : Int), []), false, ())
  | 0, i, hi, n + 1, _, r, _ => by
    rw [m144_l3, bif_decN (by omega), List.drop_eq_nil_of_le (by omega)]
    rfl
  | k + 1, i, hi, n + 1, hn, r, hr => by
    have h1 : i < xs.length := by omega
    rw [m144_l3, bif_dec (by omega), chk_pos (by omega), getD_atI h1, chk_pos (hp _ (List.getElem_mem h1)), wrap_succ h1 (by omega), drop_at h1]
    simp only [mapL]
    cases (N.fn (xs[i], ())).2.1 with
    | false => rfl
    | true =>
      simp only [Bool.not_true, cond_false, cond_true]
      rw [chk_pos (show addV_pre r _ from by show _ ≤ 12; omega)]
      show (bif !(addV r (N.fn (xs[i], ())).1).2 then _ else _) = _
      cases (addV r (N.fn (xs[i], ())).1).2 with
      | false => rfl
      | true =>
        simp only [Bool.not_true, cond_false, cond_true]
        exact t144 N xs v4 K hl hp k (i + 1) (by omega) n (by omega) (addV r (N.fn (xs[i], ())).1).1 (by have := addV_len r (N.fn (xs[i], ())).1; omega)
theorem e144 (pre : Vals [i33] → Prop) (gf : Vals [i33] → Vals [i33, i4]) (x : Val Y50) (fv : Value) (hx : mapV_pre pre gf x) : ∃ n, m144 ⟨n, fv, pre, gf⟩ x = some ((mapV gf x).1, (mapV gf x).2, ()) := ⟨List.length (α := Val Y33) x.2 + 1, by
  rw [m144]
  exact (t144 ⟨_, fv, pre, gf⟩ x.2 0 _ hx.1 hx.2 (List.length (α := Val Y33) x.2) 0 (by omega) _ (Nat.lt_succ_self _) (x.1, []) (by simp)).trans (mapL_K gf x.2 (x.1, []))⟩
theorem sh144 : SoundH Tryz.prog 144 gh144 := sound_h (tt := tt) (Γ := Γ144) hT ok_nil hm (fn := Tryz.f144) Tryz.func144 (c := Tryz.f144.body.getD .skip) (by kernel_rfl) (by kernel_rfl) fun pre gf x fv hx => by
  obtain ⟨n, h⟩ := e144 pre gf x fv hx
  exact ⟨T144 ⟨n, fv, pre, gf⟩, _, p144, ⟨rfl, hSem_ok (bx_cons sb222 bx_nil) hn_nil⟩, tb144 _, (run144 ⟨n, fv, pre, gf⟩ x).trans h⟩
theorem e211 (c : Val Y33) (_ : True) : ∃ N, m211 N c = some ((idC c).1, (idC c).2, ()) := ⟨0, rfl⟩
theorem sc211 : SoundC Tryz.prog 211 gc211 := sound_c (tt := tt) (Γ := Γ211) hT ok_nil hm (fn := Tryz.f211) Tryz.func211 (c := Tryz.f211.body.getD .skip) (by kernel_rfl) (by kernel_rfl) fun c x hx => by
  obtain ⟨N, h⟩ := e211  x.1 hx
  exact ⟨T211 N, p211, noSem_ok _, tb211 N, (run211 N x.1 ).trans h⟩
theorem e133 (r : Val Y50) : ∃ N, m133 N r = some ((neatV r).1, (neatV r).2, ()) := ⟨0, by
  rw [m133]
  unfold neatV
  cases h : isReg r with
  | false => rfl
  | true =>
    simp only [Bool.not_true, cond_false, cond_true]
    obtain ⟨_, h2, _⟩ := reg_in h
    exact chk_pos (show mapV_pre _ _ r from ⟨h2, fun _ _ => trivial⟩)⟩
theorem s133 : Sound Tryz.prog 133 g133 := sound_run (tt := tt) (Γ := Γ133) hT (ok_cons s124 ok_nil) hm (fn := Tryz.f133) Tryz.func133 (c := Tryz.f133.body.getD .skip) (by kernel_rfl) (by kernel_rfl) fun x hx => by
  obtain ⟨N, h⟩ := e133 x.1
  exact ⟨T133 N, p133, hSem_ok bx_nil (hn_cons sh144 (cl_cons sc211 cl_nil) hn_nil), tb133 N, (run133 N x.1).trans h⟩
theorem add4_eq {c : Val Y33} (h : isCell c = true) (r : Val Y50) : (add4V r c).2 = (addV r c).2 ∧ ((addV r c).2 = true → (add4V r c).1 = (addV r c).1) := by
  have e : minV c = minN (nrmV c.1 c.2) := by unfold minV; rw [h]; rfl
  unfold add4V addV
  rw [e]
  cases (minN (nrmV c.1 c.2)).2 with
  | false => exact ⟨rfl, fun h => absurd h (by simp)⟩
  | true =>
    cases isNoneC (minN (nrmV c.1 c.2)).1 with
    | true => exact ⟨rfl, fun _ => rfl⟩
    | false =>
      simp only [cond_true, cond_false]
      by_cases hl : (12 : Int) ≤ (List.length (α := Val Y33) r.2 : Int)
      · rw [decide_eq_true hl, decide_eq_false (by omega)]
        exact ⟨rfl, fun h => absurd h (by simp)⟩
      · rw [decide_eq_false hl, decide_eq_true (by omega)]
        exact ⟨rfl, fun _ => rfl⟩
theorem t131 (N : Nat) (d : Int) (xs : List (Val Y33)) (v4 : Int) (K : Int → List (Val Y33) → Option (Vals [i50, i4])) (hl : xs.length ≤ 12) (hp : ∀ c ∈ xs, isCell c = true) : ∀ (k i : Nat), i + k = xs.length → ∀ n, k < n → ∀ (r : Val Y50), List.length (α := Val Y33) r.2 ≤ i →
    m131_l5 N d xs v4 K n (i : Int) r.1 r.2 = bif (mapL idF (xs.drop i) r).2 then K (mapL idF (xs.drop i) r).1.1 (mapL idF (xs.drop i) r).1.2 else some (((0 : Int), []), false, ())
  | 0, i, hi, n + 1, _, r, _ => by
    rw [m131_l5, bif_decN (by omega), List.drop_eq_nil_of_le (by omega)]
    rfl
  | k + 1, i, hi, n + 1, hn, r, hr => by
    have h1 : i < xs.length := by omega
    have hc := hp _ (List.getElem_mem h1)
    obtain ⟨e1, e2⟩ := add4_eq hc r
    rw [m131_l5, bif_dec (by omega), chk_pos (by omega), getD_atI h1, chk_pos (show add4V_pre r xs[i] from ⟨hc, by omega⟩), wrap_succ h1 (by omega), drop_at h1]
    show (bif !(add4V r xs[i]).2 then _ else m131_l5 N d xs v4 K n _ (add4V r xs[i]).1.1 (add4V r xs[i]).1.2) = _
    rw [e1]
    simp only [mapL]
    show _ = bif (bif (addV r xs[i]).2 then mapL idF (xs.drop (i + 1)) (addV r xs[i]).1 else failR).2 then K (bif (addV r xs[i]).2 then mapL idF (xs.drop (i + 1)) (addV r xs[i]).1 else failR).1.1 (bif (addV r xs[i]).2 then mapL idF (xs.drop (i + 1)) (addV r xs[i]).1 else failR).1.2 else _
    cases ha : (addV r xs[i]).2 with
    | false => rfl
    | true =>
      simp only [Bool.not_true, cond_false, cond_true]
      rw [e2 ha]
      exact t131 N d xs v4 K hl hp k (i + 1) (by omega) n (by omega) (addV r xs[i]).1 (by have := addV_len r xs[i]; omega)
theorem e131 (r : Val Y50) (h : neatV_pre r) : ∃ N, m131 N r = some ((neatV r).1, (neatV r).2, ()) := ⟨List.length (α := Val Y33) r.2 + 1, by
  rw [m131, chk_pos (show isReg_pre r from h)]
  unfold neatV
  cases hr : isReg r with
  | false => rfl
  | true =>
    simp only [Bool.not_true, cond_false, cond_true]
    obtain ⟨_, h2, h3⟩ := reg_in hr
    exact (t131 _ r.1 r.2 0 _ h2 (fun c hc => (h3 c hc).1) (List.length (α := Val Y33) r.2) 0 (by omega) _ (Nat.lt_succ_self _) (r.1, []) (by simp)).trans (mapL_K idF r.2 (r.1, []))⟩
theorem s131 : Sound Tryz.prog 131 g131 := sound_run (tt := tt) (Γ := Γ131) hT (ok_cons s117 (ok_cons s143 ok_nil)) hm (fn := Tryz.f131) Tryz.func131 (c := Tryz.f131.body.getD .skip) (by kernel_rfl) (by kernel_rfl) fun x hx => by
  obtain ⟨N, h⟩ := e131 x.1 hx
  exact ⟨T131 N, p131, noSem_ok _, tb131 N, (run131 N x.1).trans h⟩
end Go.T
