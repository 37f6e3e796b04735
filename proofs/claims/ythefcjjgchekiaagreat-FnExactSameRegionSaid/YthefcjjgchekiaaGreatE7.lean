/- Regions: cells that are added. What the functions compute. -/
import Derived.Test.YthefcjjgchekiaaGreatE6
set_option linter.unusedSimpArgs false
set_option linter.unusedVariables false
namespace Go.T
open Go Go.Proofs
set_option maxHeartbeats 4000000
set_option maxRecDepth 100000
theorem e240 (c : Val Y33) (h : isNoneC_pre c) : ∃ N, m240 N c = some (isNoneC c, ()) := ⟨0, by
  obtain ⟨hd, hl, hok⟩ := cell_in h
  rw [m240]
  unfold isNoneC
  obtain ⟨d, l⟩ := c
  match l with
  | [] => rfl
  | [a] =>
    have ha : okA a := (hok a (by simp)).1
    have e0 : List.getD (α := Val Y108) ((d, [a]) : Val Y33).2 (Int.toNat 0) (dflt Y108) = a := rfl
    have e1 : List.length (α := Val Y108) ((d, [a]) : Val Y33).2 = 1 := rfl
    rw [e0, e1, bif_dec (by omega), chk_pos (by omega), chk_pos (show hasVar_pre a from ha)]
    show _ = some (!hasVar a && decide ((a.2.1 : Int) = 1) && !a.2.2, ())
    cases hasVar a with
    | true => rfl
    | false =>
      simp only [Bool.not_false, cond_true, Bool.true_and]
      rw [chk_pos (by omega), chk_pos (by omega)]
      cases decide ((a.2.1 : Int) = 1) <;> rfl
  | a :: b :: r =>
    rw [bif_decN (by simp; omega)]⟩
theorem s240 : Sound Tryz.prog 240 g240 := sound_run (tt := tt) (Γ := Γ240) hT (ok_cons s287 ok_nil) hm (fn := Tryz.f240) Tryz.func240 (c := Tryz.f240.body.getD .skip) (by kernel_rfl) (by kernel_rfl) fun x hx => by
  obtain ⟨N, h⟩ := e240 x.1 hx
  exact ⟨T240 N, p240, noSem_ok _, tb240 N, (run240 N x.1).trans h⟩
theorem t117 (N : Nat) (d : Int) (xs : List (Val Y33)) (K : Unit → Option (Vals [i4])) (hl : xs.length ≤ 1048576) (hp : ∀ c ∈ xs, isCell_pre c) (n : Nat) (hn : xs.length < n) : m117_l2 N d xs K n 0 = bif xs.all (fun c => isCell c && decide ((c.1 : Int) = d)) then K () else some (false, ()) :=
  (loop_fold (F := fun n i (_ : Unit) => m117_l2 N d xs K n i) (step := fun _ x _ K => bif (isCell x && decide ((x.1 : Int) = d)) then K () else some (false, ())) (k := K) hl (fun n i s hi => by
    rw [m117_l2, bif_dec (by omega), chk_pos (by omega), getD_atI hi, chk_pos (show isCell_pre _ from hp _ (List.getElem_mem hi)), chk_pos (show (0 : Int) ≤ i ∧ (i : Int) < xs.length by omega)]
    cases isCell xs[i] <;> simp [bif_not]) (fun n i s hi => by rw [m117_l2, bif_decN (by omega)]) n () hn).trans (foldK_all xs 0)
theorem t124 (N : Nat) (d : Int) (xs ys : List (Val Y33)) (K : Unit → Option (Vals [i4])) (hl : xs.length ≤ 1048576) (n : Nat) (hn : xs.length < n) : m124_l4 N xs xs.length d ys K n 0 = bif xs.all (fun c => isCell c && decide ((c.1 : Int) = d)) then K () else some (false, ()) :=
  (loop_fold (F := fun n i (_ : Unit) => m124_l4 N xs xs.length d ys K n i) (step := fun _ x _ K => bif (isCell x && decide ((x.1 : Int) = d)) then K () else some (false, ())) (k := K) hl (fun n i s hi => by
    rw [m124_l4, bif_dec (by omega), chk_pos (by omega), getD_atI hi]
    cases isCell xs[i] <;> simp [bif_not]) (fun n i s hi => by rw [m124_l4, bif_decN (by omega)]) n () hn).trans (foldK_all xs 0)
theorem e117 (r : Val Y50) (h : isReg_pre r) : ∃ N, m117 N r = some (isReg r, ()) := ⟨List.length (α := Val Y33) r.2 + 1, by
  obtain ⟨d, xs⟩ := r
  change Int at d
  change List (Val Y33) at xs
  rw [m117, isReg]
  dsimp only
  rw [t117 _ _ _ _ h.1 h.2 _ (Nat.lt_succ_self _)]
  simp only [inR]
  cases List.all xs _ <;> cases decide (0 ≤ d ∧ d ≤ 4) <;> simp⟩
theorem s117 : Sound Tryz.prog 117 g117 := sound_run (tt := tt) (Γ := Γ117) hT (ok_cons s104 (ok_cons s118 ok_nil)) hm (fn := Tryz.f117) Tryz.func117 (c := Tryz.f117.body.getD .skip) (by kernel_rfl) (by kernel_rfl) fun x hx => by
  obtain ⟨N, h⟩ := e117 x.1 hx
  exact ⟨T117 N, p117, noSem_ok _, tb117 N, (run117 N x.1).trans h⟩
theorem e124 (r : Val Y50) : ∃ N, m124 N r = some (isReg r, ()) := ⟨List.length (α := Val Y33) r.2 + 1, by
  obtain ⟨d, xs⟩ := r
  change Int at d
  change List (Val Y33) at xs
  rw [m124, isReg]
  dsimp only
  by_cases h1 : d < 0
  · have : ¬ (0 ≤ d ∧ d ≤ 4) := by omega
    simp [h1, this]
  · by_cases h2 : 4 < d
    · have : ¬ (0 ≤ d ∧ d ≤ 4) := by omega
      simp [h1, h2, this]
    · have : 0 ≤ d ∧ d ≤ 4 := by omega
      by_cases h3 : (12 : Int) < xs.length
      · have h3' : ¬ (xs.length : Int) ≤ 12 := by omega
        simp only [h1, h2, h3, h3', decide_true, decide_false, cond_true, cond_false, Bool.and_false, Bool.false_and]
      · have h3' : (xs.length : Int) ≤ 12 := by omega
        rw [t124 _ _ _ _ _ (by omega) _ (Nat.lt_succ_self _)]
        simp only [h1, h2, h3, h3', this, decide_true, decide_false, cond_true, cond_false, Bool.true_and, and_self]
        cases List.all xs _ <;> rfl⟩
theorem s124 : Sound Tryz.prog 124 g124 := sound_run (tt := tt) (Γ := Γ124) hT (ok_cons s199 ok_nil) hm (fn := Tryz.f124) Tryz.func124 (c := Tryz.f124.body.getD .skip) (by kernel_rfl) (by kernel_rfl) fun x hx => by
  obtain ⟨N, h⟩ := e124 x.1
  exact ⟨T124 N, p124, noSem_ok _, tb124 N, (run124 N x.1).trans h⟩
theorem reg_in {r : Val Y50} (h : isReg r = true) : (0 ≤ (r.1 : Int) ∧ (r.1 : Int) ≤ 4) ∧ List.length (α := Val Y33) r.2 ≤ 12 ∧ ∀ c ∈ (r.2 : List (Val Y33)), isCell c = true ∧ (c.1 : Int) = (r.1 : Int) := by
  unfold isReg at h
  simp only [Bool.and_eq_true, decide_eq_true_eq] at h
  obtain ⟨⟨h1, h2⟩, h3⟩ := h
  refine ⟨h1, by omega, fun a ha => ?_⟩
  have := List.all_eq_true.1 h3 a ha
  simp only [Bool.and_eq_true, decide_eq_true_eq] at this
  exact this
theorem noneC_at (d : Int) : hasVar ((List.replicate d.toNat (0 : Int), (1 : Int), false) : Val Y108) = false := by
  unfold hasVar
  rw [decide_eq_false_iff_not, ne_eq, Decidable.not_not]
  exact gL_zero.2 fun x hx => (List.mem_replicate.1 hx).2
theorem isNoneC_noneC {c : Val Y33} (h : c = noneC c.1) : isNoneC c = true := by
  rw [h]
  show (!hasVar ((List.replicate (c.1 : Int).toNat (0 : Int), (1 : Int), false) : Val Y108) && decide ((1 : Int) = 1) && !false) = true
  rw [noneC_at]; rfl
theorem isNoneC_var {c : Val Y33} (h : ∀ a ∈ (c.2 : List (Val Y108)), hasVar a = true) : isNoneC c = false := by
  unfold isNoneC
  split
  · rename_i a ha
    have := h a (by rw [ha]; simp)
    rw [this]; rfl
  · rfl
theorem minL_sub (d : Int) : ∀ (n i : Nat) (l : List (Val Y108)) {r : List (Val Y108)}, minL d n i l = some r → r.Sublist l
  | 0, _, l, r, h => by simp only [minL, Option.some.injEq] at h; subst h; exact List.Sublist.refl _
  | n + 1, i, l, r, h => by
    simp only [minL] at h
    by_cases hi : i < l.length
    · rw [if_pos hi] at h
      generalize impV (d, l.take i ++ l.drop (i + 1)) (l.getD i dA) = q at h
      cases hq : q.2 with
      | false => rw [hq] at h; simp at h
      | true =>
        rw [hq] at h
        cases hq1 : q.1 with
        | true => rw [hq1] at h; exact (minL_sub d n i _ h).trans (td_sub l i)
        | false => rw [hq1] at h; exact minL_sub d n (i + 1) l h
    · rw [if_neg hi] at h
      simp only [Option.some.injEq] at h
      subst h; exact List.Sublist.refl _
theorem noneC_cell {d : Int} (hd : 0 ≤ d ∧ d ≤ 4) : isCell (noneC d) = true :=
  isCell_of hd (by show 1 ≤ 16; omega) fun a ha => by
    obtain rfl : a = ((List.replicate d.toNat (0 : Int), (1 : Int), false) : Val Y108) := List.mem_singleton.1 ha
    exact noneC_ok hd
theorem minN_N {d : Int} {x : Val Y33} (hx : okN d x) (h2 : (minN x).2 = true) : okN d (minN x).1 := by
  obtain ⟨h, hF, hd⟩ := hx
  obtain ⟨hb, hl, hok⟩ := cell_in h
  unfold minN at h2 ⊢
  cases hk : (empV x).2 with
  | false => rw [hk] at h2; exact absurd h2 (by simp)
  | true =>
    rw [hk] at h2
    cases he : (empV x).1 with
    | true =>
      simp only [cond_true]
      exact ⟨noneC_cell hb, .inl rfl, hd⟩
    | false =>
      rw [he] at h2
      simp only [cond_true, cond_false] at h2 ⊢
      cases hm : minL x.1 (List.length (α := Val Y108) x.2 + 1) 0 x.2 with
      | none => rw [hm] at h2; exact absurd h2 (by simp)
      | some l =>
        have hs := minL_sub _ _ _ _ hm
        refine ⟨isCell_of hb (by have := hs.length_le; show List.length (α := Val Y108) l ≤ 16; omega) fun a ha => hok a (hs.subset ha), ?_, hd⟩
        rcases hF with hF | hF
        · have e2 : x.2 = (noneC x.1).2 := by rw [← hF]
          have hs : l.Sublist [((List.replicate (x.1 : Int).toNat (0 : Int), (1 : Int), false) : Val Y108)] := by rw [e2] at hs; exact hs
          cases hs with
          | cons _ h => 
            cases h
            exact .inr fun a ha => by cases ha
          | cons_cons _ h =>
            cases h
            exact .inl rfl
        · exact .inr fun a ha => hF a (hs.subset ha)
theorem minV_N {c : Val Y33} (h2 : (minV c).2 = true) : isCell c = true ∧ okN c.1 (minV c).1 := by
  unfold minV at h2 ⊢
  cases hc : isCell c with
  | false => rw [hc] at h2; exact absurd h2 (by simp)
  | true =>
    rw [hc] at h2
    exact ⟨rfl, minN_N (okL_cell hc).2 h2⟩
theorem const_iff {m : Val Y33} (h : nrmF m) : (decide (List.length (α := Val Y108) m.2 = 1) && ncon (List.getD (α := Val Y108) m.2 0 dA)) = isNoneC m := by
  rcases h with h | h
  · rw [isNoneC_noneC h, h]
    show (true && !hasVar ((List.replicate (m.1 : Int).toNat (0 : Int), (1 : Int), false) : Val Y108)) = true
    rw [noneC_at]; rfl
  · rw [isNoneC_var h]
    obtain ⟨d, l⟩ := m
    change List (Val Y108) at l
    show (decide (l.length = 1) && ncon (l.getD 0 dA)) = false
    match l, h with
    | [], _ => rfl
    | [a], h => 
      show (true && !hasVar a) = false
      rw [h a (by simp)]; rfl
    | a :: b :: r, _ => simp
theorem e222 (r : Val Y50) (c : Val Y33) (h : addV_pre r c) : ∃ N, m222 N r c = some (addV_v r c, (addV_r r c, ())) := ⟨0, by
  replace h : List.length (α := Val Y33) r.2 ≤ 12 := h
  rw [m222]
  unfold addV_v addV_r addV
  cases hm : (minV c).2 with
  | false => rfl
  | true =>
    have hn := (minV_N hm).2
    simp only [Bool.not_true, cond_false, cond_true]
    rw [chk_pos (show isNoneC_pre _ from hn.1)]
    show (bif isNoneC (minV c).1 then _ else _) = _
    cases isNoneC (minV c).1 with
    | true => rfl
    | false =>
      simp only [cond_false]
      by_cases hl : (12 : Int) ≤ (List.length (α := Val Y33) r.2 : Int)
      · rw [bif_dec hl, decide_eq_true hl]; rfl
      · rw [bif_decN hl, decide_eq_false hl, chk_pos (by simp only [List.length_singleton]; omega)]; rfl⟩
theorem sb222 : SoundB Tryz.prog 222 gb222 := sound_b (tt := tt) (Γ := Γ222) hT (ok_cons s138 (ok_cons s240 ok_nil)) hm (fn := Tryz.f222) Tryz.func222 (c := Tryz.f222.body.getD .skip) (by kernel_rfl) (by kernel_rfl) fun v x hx => by
  obtain ⟨N, h⟩ := e222 v x.1 hx
  exact ⟨T222 N, rfl, p222, ⟨noSem_ok _, tb222 N⟩, (run222 N v x.1).trans h⟩
theorem e143 (r : Val Y50) (c : Val Y33) (h : add4V_pre r c) : ∃ N, m143 N r c = some ((add4V r c).1, (add4V r c).2, ()) := ⟨0, by
  obtain ⟨hc, hl⟩ := h
  obtain ⟨hL, hN⟩ := okL_cell hc
  rw [m143, chk_pos (show nrmV_pre c.1 c.2 from hL), chk_pos (show minN_pre _ from hN.1)]
  unfold add4V
  cases hm : (minN (nrmV c.1 c.2)).2 with
  | false => rfl
  | true =>
    have hn := minN_N hN hm
    generalize (minN (nrmV c.1 c.2)).1 = m at *
    obtain ⟨hb, hml, hmo⟩ := cell_in hn.1
    have hci := const_iff hn.2.1
    simp only [Bool.not_true, cond_false, cond_true]
    rw [bif_decN (by omega), ← hci]
    have e0 : ∀ x : List (Val Y33), ([] : List (Val Y33)) ++ x = x := fun x => List.nil_append x
    have hfin : (chk (([] : List (Val Y33)).length + List.length (α := Val Y33) r.2 ≤ 1048576) (chk ((([] : List (Val Y33)) ++ (r.2 : List (Val Y33))).length + ([m] : List (Val Y33)).length ≤ 1048576) (some (((r.1, (([] : List (Val Y33)) ++ (r.2 : List (Val Y33))) ++ [m]) : Val Y50), decide ((((([] : List (Val Y33)) ++ (r.2 : List (Val Y33))) ++ ([m] : List (Val Y33))).length : Int) ≤ (12 : Int)), ()))) : Option (Vals [i50, i4])) = some (((r.1, (r.2 : List (Val Y33)) ++ [m]) : Val Y50), decide ((List.length (α := Val Y33) r.2 : Int) + 1 ≤ 12), ()) := by
      rw [chk_pos (by simp only [List.length_nil]; omega), e0, chk_pos (by simp only [List.length_singleton]; omega)]
      simp only [List.length_append, List.length_singleton, Int.natCast_add]; rfl
    by_cases h1 : List.length (α := Val Y108) m.2 = 1
    · rw [bif_dec (by omega), chk_pos (by omega), chk_pos (by show 0 < _; omega)]
      have ha : okA (List.getD (α := Val Y108) m.2 0 dA) := by
        rw [getD_at (by omega)]
        exact (hmo _ (List.getElem_mem _)).1
      rw [chk_pos (show ncon_pre (List.getD (α := Val Y108) m.2 (Int.toNat 0) (dflt Y108)) from ha), decide_eq_true h1]
      show (bif ncon (List.getD (α := Val Y108) m.2 0 dA) then _ else _) = _
      cases ncon (List.getD (α := Val Y108) m.2 0 dA) with
      | true => rfl
      | false => exact hfin
    · rw [bif_decN (by omega), decide_eq_false h1]
      exact hfin⟩
theorem s143 : Sound Tryz.prog 143 g143 := sound_run (tt := tt) (Γ := Γ143) hT (ok_cons s150 (ok_cons s217 (ok_cons s229 ok_nil))) hm (fn := Tryz.f143) Tryz.func143 (c := Tryz.f143.body.getD .skip) (by kernel_rfl) (by kernel_rfl) fun x hx => by
  obtain ⟨N, h⟩ := e143 x.1 x.2.1 hx
  exact ⟨T143 N, p143, noSem_ok _, tb143 N, (run143 N x.1 x.2.1).trans h⟩
end Go.T
