/- Differences of regions: what the functions compute. -/
import Derived.Test.YthefcjjgchekiaaGreatE12
set_option linter.unusedSimpArgs false
set_option linter.unusedVariables false
namespace Go.T
open Go Go.Proofs
set_option maxHeartbeats 4000000
set_option maxRecDepth 100000
theorem isReg_of {r : Val Y50} (h1 : 0 ≤ (r.1 : Int) ∧ (r.1 : Int) ≤ 4) (h2 : List.length (α := Val Y33) r.2 ≤ 12) (h3 : ∀ c ∈ (r.2 : List (Val Y33)), isCell c = true ∧ (c.1 : Int) = (r.1 : Int)) : isReg r = true := by
  unfold isReg
  simp only [Bool.and_eq_true, decide_eq_true_eq]
  refine ⟨⟨h1, by omega⟩, ?_⟩
  rw [List.all_eq_true]
  intro a ha
  obtain ⟨g1, g2⟩ := h3 a ha
  simp only [Bool.and_eq_true, decide_eq_true_eq]
  exact ⟨g1, g2⟩
def okR (d : Int) (r : Val Y50) : Prop := isReg r = true ∧ (r.1 : Int) = d
theorem okR_nil {d : Int} {r : Val Y50} (h : okR d r) : okR d ((r.1, []) : Val Y50) :=
  ⟨isReg_of (reg_in h.1).1 (Nat.zero_le _) (fun c hc => by cases hc), h.2⟩
theorem addV_R {d : Int} {r : Val Y50} {c : Val Y33} (h : okR d r) (hc : (c.1 : Int) = d) : okR d (addV r c).1 := by
  have hm := @minV_N c
  unfold addV
  cases h2 : (minV c).2 with
  | false => exact h
  | true =>
    cases isNoneC (minV c).1 with
    | true => exact h
    | false =>
      simp only [cond_true, cond_false]
      obtain ⟨r1, r2, r3⟩ := reg_in h.1
      by_cases hl : (12 : Int) ≤ (List.length (α := Val Y33) r.2 : Int)
      · rw [decide_eq_true hl]; exact h
      · rw [decide_eq_false hl]
        refine ⟨isReg_of r1 ?_ ?_, h.2⟩
        · refine Nat.le_trans (Nat.le_of_eq (List.length_append ..)) ?_
          show List.length (α := Val Y33) r.2 + 1 ≤ 12
          omega
        · intro x hx
          rcases List.mem_append.1 (show x ∈ (r.2 : List (Val Y33)) ++ [(minV c).1] from hx) with hx | hx
          · exact r3 x hx
          · obtain rfl := List.mem_singleton.1 hx
            obtain ⟨_, g1, _, g3⟩ := hm h2
            exact ⟨g1, g3.trans (hc.trans h.2.symm)⟩
theorem mapL_R {d : Int} : ∀ (cs : List (Val Y33)) (r : Val Y50), okR d r → (∀ c ∈ cs, (c.1 : Int) = d) → (mapL idF cs r).2 = true → okR d (mapL idF cs r).1
  | [], r, h, _, _ => h
  | c :: cs, r, h, hc, h2 => by
    have hA := addV_R h (hc c (by simp))
    change (bif (addV r c).2 then mapL idF cs (addV r c).1 else failR).2 = true at h2
    show okR d (bif (addV r c).2 then mapL idF cs (addV r c).1 else failR).1
    cases ha : (addV r c).2 with
    | false => rw [ha] at h2; exact absurd h2 (by simp)
    | true => rw [ha] at h2; exact mapL_R cs _ hA (fun x hx => hc x (by simp [hx])) h2
theorem neatV_R {r : Val Y50} (h2 : (neatV r).2 = true) : isReg r = true ∧ okR r.1 (neatV r).1 := by
  unfold neatV at h2 ⊢
  cases h : isReg r with
  | false => rw [h] at h2; exact absurd h2 (by simp)
  | true =>
    rw [h] at h2
    exact ⟨rfl, mapL_R r.2 (r.1, []) (okR_nil ⟨h, rfl⟩) (fun c hc => ((reg_in h).2.2 c hc).2) h2⟩
theorem lessK_R {d : Int} (l : List (Val Y108)) {c : Val Y33} (hc : (c.1 : Int) = d) : ∀ (n k : Nat) (r : Val Y50), okR d r → (lessK d l c n k r).2 = true → okR d (lessK d l c n k r).1
  | 0, _, _, h, _ => h
  | n + 1, k, r, h, h2 => by
    simp only [lessK] at h2 ⊢
    have hm := @meet_N c (pieV d l k)
    generalize meetV c (pieV d l k) = m at hm h2 ⊢
    cases hm2 : m.2 with
    | false => rw [hm2] at h2; exact absurd h2 (by simp)
    | true =>
      rw [hm2] at h2
      have hA := addV_R h ((hm hm2).2.2.trans hc)
      cases ha : (addV r m.1).2 with
      | false => rw [ha] at h2; exact absurd h2 (by simp)
      | true => rw [ha] at h2; exact lessK_R l hc n (k + 1) _ hA h2
theorem lessC_R {d : Int} (l : List (Val Y108)) : ∀ (cs : List (Val Y33)) (r : Val Y50), okR d r → (∀ c ∈ cs, (c.1 : Int) = d) → (lessC d l cs r).2 = true → okR d (lessC d l cs r).1
  | [], _, h, _, _ => h
  | c :: cs, r, h, hc, h2 => by
    simp only [lessC] at h2 ⊢
    have hK := lessK_R l (hc c (by simp)) l.length 0 r h
    cases ha : (lessK d l c l.length 0 r).2 with
    | false => rw [ha] at h2; exact absurd h2 (by simp)
    | true => rw [ha] at h2; exact lessC_R l cs _ (hK ha) (fun x hx => hc x (by simp [hx])) h2
theorem lessV_R {d : Int} {r : Val Y50} {m : Val Y33} (h : okR d r) (h2 : (lessV r m).2 = true) : okR d (lessV r m).1 := by
  obtain rfl := h.2
  exact lessC_R m.2 r.2 (r.1, []) (okR_nil h) (fun c hc => ((reg_in h.1).2.2 c hc).2) h2
theorem diffL_K : ∀ (cs : List (Val Y33)) (r : Val Y50), (bif (diffL cs r).2 then some ((diffL cs r).1, true, ()) else some (((0 : Int), ([] : List (Val Y33))), false, ()) : Option (Vals [i50, i4])) = some ((diffL cs r).1, (diffL cs r).2, ())
  | [], r => rfl
  | c :: cs, r => by
    simp only [diffL]
    cases (minV c).2 with
    | false => rfl
    | true =>
      cases (lessV r (minV c).1).2 with
      | false => rfl
      | true => exact diffL_K cs _
theorem t45 (N : Nat) (d : Int) (xs : List (Val Y33)) (v5 : Int) (K : Int → List (Val Y33) → Option (Vals [i50, i4])) (hx : xs.length ≤ 12) (hd : ∀ c ∈ xs, (c.1 : Int) = d) : ∀ (k i : Nat), i + k = xs.length → ∀ n, k < n → ∀ (r : Val Y50), okR d r →
    m45_l7 N xs xs.length v5 K n (i : Int) r.1 r.2 = bif (diffL (xs.drop i) r).2 then K (diffL (xs.drop i) r).1.1 (diffL (xs.drop i) r).1.2 else some (((0 : Int), []), false, ())
  | 0, i, hi, n + 1, _, r, _ => by
    rw [m45_l7, bif_decN (by omega), List.drop_eq_nil_of_le (by omega)]
    rfl
  | k + 1, i, hi, n + 1, hn, r, hr => by
    have h1 : i < xs.length := by omega
    have hm := @minV_N xs[i]
    rw [m45_l7, bif_dec (by omega), chk_pos (by omega), getD_atI h1, wrap_succ h1 (by omega), drop_at h1]
    simp only [diffL]
    cases h2 : (minV xs[i]).2 with
    | false => rfl
    | true =>
      obtain ⟨_, g1, _, g3⟩ := hm h2
      simp only [Bool.not_true, cond_false, cond_true]
      rw [chk_pos (show lessV_pre r (minV xs[i]).1 from ⟨hr.1, g1, g3.trans ((hd _ (List.getElem_mem h1)).trans hr.2.symm)⟩)]
      show (bif !(lessV r (minV xs[i]).1).2 then _ else m45_l7 N xs xs.length v5 K n _ (lessV r (minV xs[i]).1).1.1 (lessV r (minV xs[i]).1).1.2) = _
      have hL := @lessV_R d r (minV xs[i]).1 hr
      cases h3 : (lessV r (minV xs[i]).1).2 with
      | false => rfl
      | true =>
        simp only [Bool.not_true, cond_false, cond_true]
        exact t45 N d xs v5 K hx hd k (i + 1) (by omega) n (by omega) _ (hL h3)
theorem e45 (a b : Val Y50) : ∃ N, m45 N a b = some ((diffV a b).1, (diffV a b).2, ()) := ⟨30, by
  rw [m45]
  unfold diffV
  cases ha : isReg a with
  | false => rfl
  | true =>
    cases hb : isReg b with
    | false => rfl
    | true =>
      simp only [Bool.not_true, cond_false, Bool.true_and]
      by_cases hd : (a.1 : Int) = (b.1 : Int)
      · rw [decide_eq_true hd]
        simp only [Bool.not_true, cond_false, cond_true]
        cases hn : (neatV a).2 with
        | false => rfl
        | true =>
          simp only [Bool.not_true, cond_false, cond_true]
          obtain ⟨_, hb2, hb3⟩ := reg_in hb
          exact (t45 30 a.1 b.2 0 _ hb2 (fun c hc => ((hb3 c hc).2).trans hd.symm) (List.length (α := Val Y33) b.2) 0 (by omega) 30 (by omega) (neatV a).1 (neatV_R hn).2).trans (diffL_K b.2 (neatV a).1)
      · rw [decide_eq_false hd]
        rfl⟩
theorem s45 : Sound Tryz.prog 45 g45 := sound_run (tt := tt) (Γ := Γ45) hT (ok_cons s124 (ok_cons s133 (ok_cons s138 (ok_cons s139 ok_nil)))) hm (fn := Tryz.f45) Tryz.func45 (c := Tryz.f45.body.getD .skip) (by kernel_rfl) (by kernel_rfl) fun x hx => by
  obtain ⟨N, h⟩ := e45 x.1 x.2.1
  exact ⟨T45 N, p45, noSem_ok _, tb45 N, (run45 N x.1 x.2.1).trans h⟩
theorem less4_eq {c : Val Y33} (h : isCell c = true) (r : Val Y50) : less4V r c = bif (minV c).2 then lessV r (minV c).1 else failR := by
  have e : minV c = minN (nrmV c.1 c.2) := by unfold minV; rw [h]; rfl
  unfold less4V
  rw [e]
theorem t44 (N : Nat) (d v3 : Int) (xs : List (Val Y33)) (v5 : Int) (K : Int → List (Val Y33) → Option (Vals [i50, i4])) (hx : xs.length ≤ 12) (hd : ∀ c ∈ xs, isCell c = true ∧ (c.1 : Int) = d) : ∀ (k i : Nat), i + k = xs.length → ∀ n, k < n → ∀ (r : Val Y50), okR d r →
    m44_l5 N v3 xs v5 K n (i : Int) r.1 r.2 = bif (diffL (xs.drop i) r).2 then K (diffL (xs.drop i) r).1.1 (diffL (xs.drop i) r).1.2 else some (((0 : Int), []), false, ())
  | 0, i, hi, n + 1, _, r, _ => by
    rw [m44_l5, bif_decN (by omega), List.drop_eq_nil_of_le (by omega)]
    rfl
  | k + 1, i, hi, n + 1, hn, r, hr => by
    have h1 : i < xs.length := by omega
    obtain ⟨hc, hcd⟩ := hd _ (List.getElem_mem h1)
    rw [m44_l5, bif_dec (by omega), chk_pos (by omega), getD_atI h1, wrap_succ h1 (by omega), drop_at h1]
    rw [chk_pos (show less4V_pre r xs[i] from ⟨hr.1, hc, hcd.trans hr.2.symm⟩)]
    simp only [diffL]
    show (bif !(less4V r xs[i]).2 then _ else m44_l5 N v3 xs v5 K n _ (less4V r xs[i]).1.1 (less4V r xs[i]).1.2) = _
    rw [less4_eq hc]
    cases h2 : (minV xs[i]).2 with
    | false => rfl
    | true =>
      simp only [cond_true]
      have hL := @lessV_R d r (minV xs[i]).1 hr
      cases h3 : (lessV r (minV xs[i]).1).2 with
      | false => rfl
      | true =>
        simp only [Bool.not_true, cond_false, cond_true]
        exact t44 N d v3 xs v5 K hx hd k (i + 1) (by omega) n (by omega) _ (hL h3)
theorem e44 (a b : Val Y50) (h : diffV_pre a b) : ∃ N, m44 N a b = some ((diffV a b).1, (diffV a b).2, ()) := ⟨30, by
  rw [m44, chk_pos (show neatV_pre a from h.1)]
  unfold diffV
  cases hn : (neatV a).2 with
  | false =>
    cases isReg a && isReg b && decide ((a.1 : Int) = (b.1 : Int)) <;> rfl
  | true =>
    obtain ⟨ha, hR⟩ := neatV_R hn
    simp only [Bool.not_true, cond_false, cond_true]
    rw [chk_pos (show isReg_pre b from h.2), ha]
    cases hb : isReg b with
    | false => rfl
    | true =>
      simp only [Bool.not_true, cond_false, Bool.true_and]
      by_cases hd : (a.1 : Int) = (b.1 : Int)
      · rw [decide_eq_true hd]
        simp only [Bool.not_true, cond_false, cond_true]
        obtain ⟨_, hb2, hb3⟩ := reg_in hb
        exact (t44 30 a.1 b.1 b.2 0 _ hb2 (fun c hc => ⟨(hb3 c hc).1, ((hb3 c hc).2).trans hd.symm⟩) (List.length (α := Val Y33) b.2) 0 (by omega) 30 (by omega) (neatV a).1 hR).trans (diffL_K b.2 (neatV a).1)
      · rw [decide_eq_false hd]
        rfl⟩
theorem s44 : Sound Tryz.prog 44 g44 := sound_run (tt := tt) (Γ := Γ44) hT (ok_cons s117 (ok_cons s131 (ok_cons s137 ok_nil))) hm (fn := Tryz.f44) Tryz.func44 (c := Tryz.f44.body.getD .skip) (by kernel_rfl) (by kernel_rfl) fun x hx => by
  obtain ⟨N, h⟩ := e44 x.1 x.2.1 hx
  exact ⟨T44 N, p44, noSem_ok _, tb44 N, (run44 N x.1 x.2.1).trans h⟩
theorem e130 (a b : Val Y50) : ∃ N, m130 N a b = some ((covV a b).1, (covV a b).2, ()) := ⟨0, by
  rw [m130]
  unfold covV
  cases (diffV b a).2 <;> rfl⟩
theorem s130 : Sound Tryz.prog 130 g130 := sound_run (tt := tt) (Γ := Γ130) hT (ok_cons s45 ok_nil) hm (fn := Tryz.f130) Tryz.func130 (c := Tryz.f130.body.getD .skip) (by kernel_rfl) (by kernel_rfl) fun x hx => by
  obtain ⟨N, h⟩ := e130 x.1 x.2.1
  exact ⟨T130 N, p130, noSem_ok _, tb130 N, (run130 N x.1 x.2.1).trans h⟩
theorem e129 (a b : Val Y50) (h : covV_pre a b) : ∃ N, m129 N a b = some ((covV a b).1, (covV a b).2, ()) := ⟨0, by
  rw [m129, chk_pos (show diffV_pre b a from h)]
  unfold covV
  cases (diffV b a).2 <;> rfl⟩
theorem s129 : Sound Tryz.prog 129 g129 := sound_run (tt := tt) (Γ := Γ129) hT (ok_cons s44 ok_nil) hm (fn := Tryz.f129) Tryz.func129 (c := Tryz.f129.body.getD .skip) (by kernel_rfl) (by kernel_rfl) fun x hx => by
  obtain ⟨N, h⟩ := e129 x.1 x.2.1 hx
  exact ⟨T129 N, p129, noSem_ok _, tb129 N, (run129 N x.1 x.2.1).trans h⟩
theorem e39 (a b : Val Y50) : ∃ N, m39 N a b = some ((sameV a b).1, (sameV a b).2, ()) := ⟨0, by
  rw [m39]
  unfold sameV
  cases (covV a b).2 <;> cases (covV b a).2 <;> cases (covV a b).1 <;> rfl⟩
theorem s39 : Sound Tryz.prog 39 g39 := sound_run (tt := tt) (Γ := Γ39) hT (ok_cons s130 ok_nil) hm (fn := Tryz.f39) Tryz.func39 (c := Tryz.f39.body.getD .skip) (by kernel_rfl) (by kernel_rfl) fun x hx => by
  obtain ⟨N, h⟩ := e39 x.1 x.2.1
  exact ⟨T39 N, p39, noSem_ok _, tb39 N, (run39 N x.1 x.2.1).trans h⟩
theorem e38 (a b : Val Y50) (h : sameV_pre a b) : ∃ N, m38 N a b = some ((sameV a b).1, (sameV a b).2, ()) := ⟨0, by
  rw [m38, chk_pos (show covV_pre a b from ⟨h.2, h.1⟩), chk_pos (show covV_pre b a from h)]
  unfold sameV
  cases (covV a b).2 <;> cases (covV b a).2 <;> cases (covV a b).1 <;> rfl⟩
theorem s38 : Sound Tryz.prog 38 g38 := sound_run (tt := tt) (Γ := Γ38) hT (ok_cons s129 ok_nil) hm (fn := Tryz.f38) Tryz.func38 (c := Tryz.f38.body.getD .skip) (by kernel_rfl) (by kernel_rfl) fun x hx => by
  obtain ⟨N, h⟩ := e38 x.1 x.2.1 hx
  exact ⟨T38 N, p38, noSem_ok _, tb38 N, (run38 N x.1 x.2.1).trans h⟩
end Go.T
