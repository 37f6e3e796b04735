/- Regions: cells that are added. What the functions compute. -/
import Derived.Test.YthefcjjgchekiaaGreatE6
set_option linter.unusedSimpArgs false
set_option linter.unusedVariables false
namespace Go.T
open Go Go.Proofs
set_option maxHeartbeats 4000000
set_option maxRecDepth 100000
theorem zbI (c : Val Y33) (h : quj c) : ∃ N, qvW N c = some (qbJ c, ()) := ⟨0, by
  obtain ⟨hd, hl, hok⟩ := qbi h
  rw [qvW]
  unfold qbJ
  obtain ⟨d, l⟩ := c
  match l with
  | [] => rfl
  | [a] =>
    have ha : okA a := (hok a (by simp)).1
    have e0 : List.getD (α := Val qa) ((d, [a]) : Val Y33).2 (Int.toNat 0) (qc qa) = a := rfl
    have e1 : List.length (α := Val qa) ((d, [a]) : Val Y33).2 = 1 := rfl
    rw [e0, e1, qn (by omega), qe (by omega), qe (show qkV a from ha)]
    show _ = some (!qab a && decide ((a.2.1 : Int) = 1) && !a.2.2, ())
    cases qab a with
    | true => rfl
    | false =>
      simp only [Bool.not_false, cond_true, Bool.true_and]
      rw [qe (by omega), qe (by omega)]
      cases decide ((a.2.1 : Int) = 1) <;> rfl
  | a :: b :: r =>
    rw [ql (by simp; omega)]⟩
theorem zd1 : Sound Tryz.prog 240 quf := qt (tt := tt) (Γ := qBB) hT (qg qQC qo) hm (fn := Tryz.f240) Tryz.func240 (c := Tryz.f240.body.getD .skip) (by kernel_rfl) (by kernel_rfl) fun x hx => by
  obtain ⟨N, h⟩ := zbI x.1 hx
  exact ⟨qeI N, za3, qw _, q4O N, (zeH N x.1).trans h⟩
theorem zbA (N : Nat) (d : Int) (xs : List (Val Y33)) (K : Unit → Option (qb [i4])) (hl : xs.length ≤ 1048576) (hp : ∀ c ∈ xs, qbW c) (n : Nat) (hn : xs.length < n) : qgz N d xs K n 0 = bif xs.all (fun c => qz c && decide ((c.1 : Int) = d)) then K () else some (false, ()) :=
  (qax (F := fun n i (_ : Unit) => qgz N d xs K n i) (step := fun _ x _ K => bif (qz x && decide ((x.1 : Int) = d)) then K () else some (false, ())) (k := K) hl (fun n i s hi => by
    rw [qgz, qn (by omega), qe (by omega), qG hi, qe (show qbW _ from hp _ (List.getElem_mem hi)), qe (show (0 : Int) ≤ i ∧ (i : Int) < xs.length by omega)]
    cases qz xs[i] <;> simp [qaP]) (fun n i s hi => by rw [qgz, ql (by omega)]) n () hn).trans (qfz xs 0)
theorem q9C (N : Nat) (d : Int) (xs ys : List (Val Y33)) (K : Unit → Option (qb [i4])) (hl : xs.length ≤ 1048576) (n : Nat) (hn : xs.length < n) : qfL N xs xs.length d ys K n 0 = bif xs.all (fun c => qz c && decide ((c.1 : Int) = d)) then K () else some (false, ()) :=
  (qax (F := fun n i (_ : Unit) => qfL N xs xs.length d ys K n i) (step := fun _ x _ K => bif (qz x && decide ((x.1 : Int) = d)) then K () else some (false, ())) (k := K) hl (fun n i s hi => by
    rw [qfL, qn (by omega), qe (by omega), qG hi]
    cases qz xs[i] <;> simp [qaP]) (fun n i s hi => by rw [qfL, ql (by omega)]) n () hn).trans (qfz xs 0)
theorem q4C (r : Val Y50) (h : qbH r) : ∃ N, qv9 N r = some (qV r, ()) := ⟨List.length (α := Val Y33) r.2 + 1, by
  obtain ⟨d, xs⟩ := r
  change Int at d
  change List (Val Y33) at xs
  rw [qv9, qV]
  dsimp only
  rw [zbA _ _ _ _ h.1 h.2 _ (Nat.lt_succ_self _)]
  simp only [inR]
  cases List.all xs _ <;> cases decide (0 ≤ d ∧ d ≤ 4) <;> simp⟩
theorem qzr : Sound Tryz.prog 117 qbc := qt (tt := tt) (Γ := qhv) hT (qg qOU (qg qwV qo)) hm (fn := Tryz.f117) Tryz.func117 (c := Tryz.f117.body.getD .skip) (by kernel_rfl) (by kernel_rfl) fun x hx => by
  obtain ⟨N, h⟩ := q4C x.1 hx
  exact ⟨qcF N, q4o, qw _, qXz N, (q5U N x.1).trans h⟩
theorem qZM (r : Val Y50) : ∃ N, qzH N r = some (qV r, ()) := ⟨List.length (α := Val Y33) r.2 + 1, by
  obtain ⟨d, xs⟩ := r
  change Int at d
  change List (Val Y33) at xs
  rw [qzH, qV]
  dsimp only
  by_cases h1 : d < 0
  · have : ¬ (0 ≤ d ∧ d ≤ 4) := by omega
    simp [h1, this]
  · by_cases h2 : 4 < d
    · have : ¬ (0 ≤ d ∧ d ≤ 4) := by omega
      simp [h1, h2, this]
    · have : 0 ≤ d ∧ d ≤ 4 := by omega
      by_cases h3 : (12 : Int) < xs.length
      · have h3' : ¬ (xs.length : Int) ≤ 12 := by omega
        simp only [h1, h2, h3, h3', decide_true, decide_false, cond_true, cond_false, Bool.and_false, Bool.false_and]
      · have h3' : (xs.length : Int) ≤ 12 := by omega
        rw [q9C _ _ _ _ _ (by omega) _ (Nat.lt_succ_self _)]
        simp only [h1, h2, h3, h3', this, decide_true, decide_false, cond_true, cond_false, Bool.true_and, and_self]
        cases List.all xs _ <;> rfl⟩
theorem qyB : Sound Tryz.prog 124 qbC := qt (tt := tt) (Γ := qkQ) hT (qg qnN qo) hm (fn := Tryz.f124) Tryz.func124 (c := Tryz.f124.body.getD .skip) (by kernel_rfl) (by kernel_rfl) fun x hx => by
  obtain ⟨N, h⟩ := qZM x.1
  exact ⟨qcU N, q6v, qw _, qX1 N, (q4v N x.1).trans h⟩
theorem qb3 {r : Val Y50} (h : qV r = true) : (0 ≤ (r.1 : Int) ∧ (r.1 : Int) ≤ 4) ∧ List.length (α := Val Y33) r.2 ≤ 12 ∧ ∀ c ∈ (r.2 : List (Val Y33)), qz c = true ∧ (c.1 : Int) = (r.1 : Int) := by
  unfold qV at h
  simp only [Bool.and_eq_true, decide_eq_true_eq] at h
  obtain ⟨⟨h1, h2⟩, h3⟩ := h
  refine ⟨h1, by omega, fun a ha => ?_⟩
  have := List.all_eq_true.1 h3 a ha
  simp only [Bool.and_eq_true, decide_eq_true_eq] at this
  exact this
theorem qUa (d : Int) : qab ((List.replicate d.toNat (0 : Int), (1 : Int), false) : Val qa) = false := by
  unfold qab
  rw [decide_eq_false_iff_not, ne_eq, Decidable.not_not]
  exact qBy.2 fun x hx => (List.mem_replicate.1 hx).2
theorem zfl {c : Val Y33} (h : c = qaQ c.1) : qbJ c = true := by
  rw [h]
  show (!qab ((List.replicate (c.1 : Int).toNat (0 : Int), (1 : Int), false) : Val qa) && decide ((1 : Int) = 1) && !false) = true
  rw [qUa]; rfl
theorem ze8 {c : Val Y33} (h : ∀ a ∈ (c.2 : List (Val qa)), qab a = true) : qbJ c = false := by
  unfold qbJ
  split
  · rename_i a ha
    have := h a (by rw [ha]; simp)
    rw [this]; rfl
  · rfl
theorem qOW (d : Int) : ∀ (n i : Nat) (l : List (Val qa)) {r : List (Val qa)}, qbz d n i l = some r → r.Sublist l
  | 0, _, l, r, h => by simp only [qbz, Option.some.injEq] at h; subst h; exact List.Sublist.refl _
  | n + 1, i, l, r, h => by
    simp only [qbz] at h
    by_cases hi : i < l.length
    · rw [if_pos hi] at h
      generalize qar (d, l.take i ++ l.drop (i + 1)) (l.getD i dA) = q at h
      cases hq : q.2 with
      | false => rw [hq] at h; simp at h
      | true =>
        rw [hq] at h
        cases hq1 : q.1 with
        | true => rw [hq1] at h; exact (qOW d n i _ h).trans (quN l i)
        | false => rw [hq1] at h; exact qOW d n (i + 1) l h
    · rw [if_neg hi] at h
      simp only [Option.some.injEq] at h
      subst h; exact List.Sublist.refl _
theorem qVF {d : Int} (hd : 0 ≤ d ∧ d ≤ 4) : qz (qaQ d) = true :=
  qCP hd (by show 1 ≤ 16; omega) fun a ha => by
    obtain rfl : a = ((List.replicate d.toNat (0 : Int), (1 : Int), false) : Val qa) := List.mem_singleton.1 ha
    exact qTn hd
theorem qKA {d : Int} {x : Val Y33} (hx : okN d x) (h2 : (qW x).2 = true) : okN d (qW x).1 := by
  obtain ⟨h, hF, hd⟩ := hx
  obtain ⟨hb, hl, hok⟩ := qbi h
  unfold qW at h2 ⊢
  cases hk : (qaw x).2 with
  | false => rw [hk] at h2; exact absurd h2 (by simp)
  | true =>
    rw [hk] at h2
    cases he : (qaw x).1 with
    | true =>
      simp only [cond_true]
      exact ⟨qVF hb, .inl rfl, hd⟩
    | false =>
      rw [he] at h2
      simp only [cond_true, cond_false] at h2 ⊢
      cases hm : qbz x.1 (List.length (α := Val qa) x.2 + 1) 0 x.2 with
      | none => rw [hm] at h2; exact absurd h2 (by simp)
      | some l =>
        have hs := qOW _ _ _ _ hm
        refine ⟨qCP hb (by have := hs.length_le; show List.length (α := Val qa) l ≤ 16; omega) fun a ha => hok a (hs.subset ha), ?_, hd⟩
        rcases hF with hF | hF
        · have e2 : x.2 = (qaQ x.1).2 := by rw [← hF]
          have hs : l.Sublist [((List.replicate (x.1 : Int).toNat (0 : Int), (1 : Int), false) : Val qa)] := by rw [e2] at hs; exact hs
          cases hs with
          | cons _ h => 
            cases h
            exact .inr fun a ha => by cases ha
          | cons_cons _ h =>
            cases h
            exact .inl rfl
        · exact .inr fun a ha => hF a (hs.subset ha)
theorem qCJ {c : Val Y33} (h2 : (qH c).2 = true) : qz c = true ∧ okN c.1 (qH c).1 := by
  unfold qH at h2 ⊢
  cases hc : qz c with
  | false => rw [hc] at h2; exact absurd h2 (by simp)
  | true =>
    rw [hc] at h2
    exact ⟨rfl, qKA (qha hc).2 h2⟩
theorem q5K {m : Val Y33} (h : qN5 m) : (decide (List.length (α := Val qa) m.2 = 1) && qbQ (List.getD (α := Val qa) m.2 0 dA)) = qbJ m := by
  rcases h with h | h
  · rw [zfl h, h]
    show (true && !qab ((List.replicate (m.1 : Int).toNat (0 : Int), (1 : Int), false) : Val qa)) = true
    rw [qUa]; rfl
  · rw [ze8 h]
    obtain ⟨d, l⟩ := m
    change List (Val qa) at l
    show (decide (l.length = 1) && qbQ (l.getD 0 dA)) = false
    match l, h with
    | [], _ => rfl
    | [a], h => 
      show (true && !qab a) = false
      rw [h a (by simp)]; rfl
    | a :: b :: r, _ => simp
theorem q0r (r : Val Y50) (c : Val Y33) (h : qhy r c) : ∃ N, qvV N r c = some (qhR r c, (qqa r c, ())) := ⟨0, by
  replace h : List.length (α := Val Y33) r.2 ≤ 12 := h
  rw [qvV]
  unfold qhR qqa q4
  cases hm : (qH c).2 with
  | false => rfl
  | true =>
    have hn := (qCJ hm).2
    simp only [Bool.not_true, cond_false, cond_true]
    rw [qe (show quj _ from hn.1)]
    show (bif qbJ (qH c).1 then _ else _) = _
    cases qbJ (qH c).1 with
    | true => rfl
    | false =>
      simp only [cond_false]
      by_cases hl : (12 : Int) ≤ (List.length (α := Val Y33) r.2 : Int)
      · rw [qn hl, decide_eq_true hl]; rfl
      · rw [ql hl, decide_eq_false hl, qe (by simp only [List.length_singleton]; omega)]; rfl⟩
theorem qUo : SoundB Tryz.prog 222 qdK := q0X (tt := tt) (Γ := qyY) hT (qg qQ8 (qg zd1 qo)) hm (fn := Tryz.f222) Tryz.func222 (c := Tryz.f222.body.getD .skip) (by kernel_rfl) (by kernel_rfl) fun v x hx => by
  obtain ⟨N, h⟩ := q0r v x.1 hx
  exact ⟨qew N, rfl, qY4, ⟨qw _, qWN N⟩, (q0U N v x.1).trans h⟩
theorem qWp (r : Val Y50) (c : Val Y33) (h : qkm r c) : ∃ N, qz6 N r c = some ((qa8 r c).1, (qa8 r c).2, ()) := ⟨0, by
  obtain ⟨hc, hl⟩ := h
  obtain ⟨hL, hN⟩ := qha hc
  rw [qz6, qe (show qaX c.1 c.2 from hL), qe (show qkw _ from hN.1)]
  unfold qa8
  cases hm : (qW (qr c.1 c.2)).2 with
  | false => rfl
  | true =>
    have hn := qKA hN hm
    generalize (qW (qr c.1 c.2)).1 = m at *
    obtain ⟨hb, hml, hmo⟩ := qbi hn.1
    have hci := q5K hn.2.1
    simp only [Bool.not_true, cond_false, cond_true]
    rw [ql (by omega), ← hci]
    have e0 : ∀ x : List (Val Y33), ([] : List (Val Y33)) ++ x = x := fun x => List.nil_append x
    have hfin : (chk (([] : List (Val Y33)).length + List.length (α := Val Y33) r.2 ≤ 1048576) (chk ((([] : List (Val Y33)) ++ (r.2 : List (Val Y33))).length + ([m] : List (Val Y33)).length ≤ 1048576) (some (((r.1, (([] : List (Val Y33)) ++ (r.2 : List (Val Y33))) ++ [m]) : Val Y50), decide ((((([] : List (Val Y33)) ++ (r.2 : List (Val Y33))) ++ ([m] : List (Val Y33))).length : Int) ≤ (12 : Int)), ()))) : Option (qb [i50, i4])) = some (((r.1, (r.2 : List (Val Y33)) ++ [m]) : Val Y50), decide ((List.length (α := Val Y33) r.2 : Int) + 1 ≤ 12), ()) := by
      rw [qe (by simp only [List.length_nil]; omega), e0, qe (by simp only [List.length_singleton]; omega)]
      simp only [List.length_append, List.length_singleton, Int.natCast_add]; rfl
    by_cases h1 : List.length (α := Val qa) m.2 = 1
    · rw [qn (by omega), qe (by omega), qe (by show 0 < _; omega)]
      have ha : okA (List.getD (α := Val qa) m.2 0 dA) := by
        rw [qdF (by omega)]
        exact (hmo _ (List.getElem_mem _)).1
      rw [qe (show qk4 (List.getD (α := Val qa) m.2 (Int.toNat 0) (qc qa)) from ha), decide_eq_true h1]
      show (bif qbQ (List.getD (α := Val qa) m.2 0 dA) then _ else _) = _
      cases qbQ (List.getD (α := Val qa) m.2 0 dA) with
      | true => rfl
      | false => exact hfin
    · rw [ql (by omega), decide_eq_false h1]
      exact hfin⟩
theorem qRG : Sound Tryz.prog 143 qcq := qt (tt := tt) (Γ := qmR) hT (qg qoV (qg qQV (qg qUN qo))) hm (fn := Tryz.f143) Tryz.func143 (c := Tryz.f143.body.getD .skip) (by kernel_rfl) (by kernel_rfl) fun x hx => by
  obtain ⟨N, h⟩ := qWp x.1 x.2.1 hx
  exact ⟨qdM N, q0h, qw _, zd3 N, (zaG N x.1 x.2.1).trans h⟩
end Go.T
