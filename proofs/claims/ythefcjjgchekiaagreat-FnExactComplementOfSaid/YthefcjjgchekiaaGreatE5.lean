/- Minimal cells: what the functions compute. -/
import Derived.Test.YthefcjjgchekiaaGreatE4
set_option linter.unusedSimpArgs false
set_option linter.unusedVariables false
namespace Go.T
open Go Go.Proofs
set_option maxHeartbeats 4000000
set_option maxRecDepth 100000
theorem qQz {α β : Type} (f : α → β) (l : List α) (i : Nat) : (l.map f).take i ++ (l.map f).drop (i + 1) = (l.take i ++ l.drop (i + 1)).map f := by
  rw [List.map_append, List.map_take, List.map_drop]
theorem qUc {α β : Type} (f : α → β) (l : List α) (i : Nat) (h : i < l.length) (d : β) (d' : α) : (l.map f).getD i d = f (l.getD i d') := by
  simp [List.getD, h]
theorem quN {α : Type} (l : List α) (i : Nat) : (l.take i ++ l.drop (i + 1)).Sublist l := by
  rw [← List.eraseIdx_eq_take_drop_succ]
  exact List.eraseIdx_sublist ..
theorem qTU {α : Type} (l : List α) (i : Nat) (h : i < l.length) : (l.take i ++ l.drop (i + 1)).length + 1 = l.length := by
  simp; omega
theorem qGZ (d : Int) (vs : List (Val qa)) : ∀ (n i : Nat) (is : List Nat), (qch d vs n i is).map (fun l => l.map fun j => vs.getD j dA) = qbz d n i (is.map fun j => vs.getD j dA)
  | 0, _, _ => rfl
  | n + 1, i, is => by
    simp only [qch, qbz]
    rw [List.length_map]
    by_cases h : i < is.length
    · rw [if_pos h, if_pos h, qQz, qUc (fun j => vs.getD j dA) is i h dA 0]
      generalize qar (d, (is.take i ++ is.drop (i + 1)).map fun j => vs.getD j dA) (vs.getD (is.getD i 0) dA) = r
      cases r.2 with
      | false => rfl
      | true =>
        cases r.1 with
        | true => exact qGZ d vs n i _
        | false => exact qGZ d vs n (i + 1) is
    · rw [if_neg h, if_neg h]; rfl
theorem qCS (d : Int) (vs : List (Val qa)) : ∀ (n i : Nat) (is : List Nat) {r : List Nat}, qch d vs n i is = some r → r.Sublist is
  | 0, _, is, r, h => by simp only [qch, Option.some.injEq] at h; subst h; exact List.Sublist.refl _
  | n + 1, i, is, r, h => by
    simp only [qch] at h
    by_cases hi : i < is.length
    · rw [if_pos hi] at h
      generalize qar (d, (is.take i ++ is.drop (i + 1)).map fun j => vs.getD j dA) (vs.getD (is.getD i 0) dA) = q at h
      cases hq : q.2 with
      | false => rw [hq] at h; simp at h
      | true =>
        rw [hq] at h
        cases hq1 : q.1 with
        | true => rw [hq1] at h; exact (qCS d vs n i _ h).trans (quN is i)
        | false => rw [hq1] at h; exact qCS d vs n (i + 1) is h
    · rw [if_neg hi] at h
      simp only [Option.some.injEq] at h
      subst h; exact List.Sublist.refl _
theorem zab (c : Val Y33) : ∃ N, qzL N c = some ((qam c).1, (qam c).2, ()) := ⟨0, by
  rw [qzL]
  unfold qam
  cases hc : qz c with
  | false => rfl
  | true =>
    simp only [Bool.not_true, cond_false, cond_true]
    rw [qe (show qaX c.1 c.2 from (qha hc).1)]⟩
theorem q8w : Sound Tryz.prog 215 qgr := qt (tt := tt) (Γ := qAf) hT (qg qnN (qg qQs qo)) hm (fn := Tryz.f215) Tryz.func215 (c := Tryz.f215.body.getD .skip) (by kernel_rfl) (by kernel_rfl) fun x hx => by
  obtain ⟨N, h⟩ := zab x.1
  exact ⟨qd8 N, zak, qw _, qWe N, (zbv N x.1).trans h⟩
abbrev gH (hs : List (Val (hd qa))) (j : Nat) : Val (hd qa) := hs.getD j (qc (hd qa))
abbrev qLz : Option (qb [i33, i4]) := some (((0 : Int), ([] : List (Val qa))), false, ())
theorem qPB (N : Nat) (hs : List (Val (hd qa))) (vs : List (Val qa)) (d : Int) (v5 : List (Val qa)) (v6 : Int) (K : Int → List (Val (hd qa)) → Option (qb [i33, i4])) (hp : qc3 qa hs vs) (hl : vs.length ≤ 16) : ∀ (n i : Nat) (is : List Nat), (∀ j ∈ is, j < vs.length) → is.length ≤ 16 → i ≤ is.length → is.length - i < n →
    qeY N hs vs d v5 v6 K n (i : Int) d (is.map (gH hs)) = match qch d vs n i is with
      | some r => K d (r.map (gH hs))
      | none => qLz
  | 0, _, _, _, _, _, h => by omega
  | n + 1, i, is, hin, h16, hi, hn => by
    have hl2 : hs.length = vs.length := hp.1
    have e1 : IntKind.i64.wrap ((i : Int) + 1) = ((i + 1 : Nat) : Int) := by rw [qaH (by omega) (by omega)]; omega
    have hlm : (is.map (gH hs)).length = is.length := List.length_map ..
    rw [qeY, qch, e1, hlm]
    by_cases h : i < is.length
    · have ec : qkX ([((is.map (gH hs)).take (i : Int).toNat).drop (0 : Int).toNat, ((is.map (gH hs)).take ((is.length : Nat) : Int).toNat).drop (((i + 1 : Nat) : Int)).toNat] : List (Val (.slice 108 (hd qa)))) = (is.take i ++ is.drop (i + 1)).map (gH hs) := by
        rw [← qQz]
        unfold qkX
        have a1 : ((i : Nat) : Int).toNat = i := rfl
        have a2 : ((is.length : Nat) : Int).toNat = is.length := rfl
        have a3 : (((i + 1 : Nat) : Int)).toNat = i + 1 := rfl
        rw [a1, a2, a3, show (0 : Int).toNat = 0 from rfl, List.drop_zero, ← hlm, List.take_length]
        simp
      have hmem : ∀ j ∈ is, gH hs j ∈ hs := fun j hj => by
        have hj' : j < hs.length := by rw [hl2]; exact hin j hj
        show hs.getD j _ ∈ hs
        rw [qdF hj']
        exact List.getElem_mem hj'
      have hlk : ∀ j ∈ is, lk qa hs vs (gH hs j) = vs.getD j dA := fun j hj => qRl hp (hin j hj)
      have hsub := quN is i
      have eg : (is.map (gH hs)).getD (i : Int).toNat (qc (hd qa)) = gH hs (is.getD i 0) := qUc (gH hs) is i h _ 0
      have hgi : is.getD i 0 ∈ is := by rw [qdF h]; exact List.getElem_mem h
      have em : ((is.take i ++ is.drop (i + 1)).map (gH hs)).map (lk qa hs vs) = (is.take i ++ is.drop (i + 1)).map fun j => vs.getD j dA := by
        rw [List.map_map]
        exact List.map_congr_left fun j hj => hlk j (hsub.subset hj)
      have htl := qTU is i h
      rw [qn (by omega), if_pos h, qxS, e1, hlm, qe (by omega), qe (by omega), ec]
      rw [qe (show qx6 _ from ⟨by show 2 ≤ 1048576; decide, by rw [ec, List.length_map]; omega⟩), qe (by omega), qe (show (i : Int).toNat < is.length from h), eg]
      rw [qe ⟨hp.2.1, fun y hy => by
        obtain ⟨j, hj, rfl⟩ := List.mem_map.1 hy
        exact hmem j (hsub.subset hj), hmem _ hgi⟩]
      rw [show lk qa hs vs (gH hs (is.getD i 0)) = vs.getD (is.getD i 0) dA from hlk _ hgi, em]
      generalize qar (d, (is.take i ++ is.drop (i + 1)).map fun j => vs.getD j dA) (vs.getD (is.getD i 0) dA) = r
      cases r.2 with
      | false => rfl
      | true =>
        cases r.1 with
        | true => exact qPB N hs vs d v5 v6 K hp hl n i _ (fun j hj => hin j (hsub.subset hj)) (by omega) (by omega) (by omega)
        | false => exact qPB N hs vs d v5 v6 K hp hl n (i + 1) is hin h16 (by omega) (by omega)
    · rw [ql (by omega), if_neg h]
theorem q7p {d : Int} {vs : List (Val qa)} (h : ∀ a ∈ vs, (List.length (α := Int) a.1 : Int) = d) : qch (qE2 vs) vs (vs.length + 1) 0 (List.range vs.length) = qch d vs (vs.length + 1) 0 (List.range vs.length) := by
  cases vs with
  | nil => rfl
  | cons a r =>
    have : qE2 (a :: r) = d := h a (by simp)
    rw [this]
theorem qR6 {α : Type} (vs : List α) (d : α) : (List.range vs.length).map (fun j => vs.getD j d) = vs := by
  apply List.ext_getElem
  · simp
  · intro i h1 h2
    simp [List.getD, h2]
theorem q3e (c : Val Y33) : ∃ N, qum N c = some ((qH c).1, (qH c).2, ()) := ⟨List.length (α := Val qa) (qr c.1 c.2).2 + 1, by
  rw [qum]
  unfold qam qH qW
  cases hc : qz c with
  | false => rfl
  | true =>
  obtain ⟨hd, hl, hok⟩ := qbi hc
  obtain ⟨hL, hN⟩ := qha hc
  obtain ⟨d, xs⟩ := c
  change Int at d
  change List (Val qa) at xs
  change 0 ≤ d ∧ d ≤ 4 at hd
  change okN d (qr d xs) at hN
  have edim : ((qr d xs).1 : Int) = d := hN.2.2
  have ex : ((((qr d xs).1 : Int), ((qr d xs).2 : List (Val qa))) : Val Y33) = qr d xs := rfl
  simp only [Bool.not_true, cond_false, cond_true]
  rw [ex]
  obtain ⟨_, hnl, hnok⟩ := qbi hN.1
  generalize hx : qr d xs = x at *
  obtain ⟨dx, vs⟩ := x
  change Int at dx
  change List (Val qa) at vs
  obtain rfl : dx = d := edim
  change vs.length ≤ 16 at hnl
  have hdl : ∀ a ∈ vs, (List.length (α := Int) a.1 : Int) = dx := fun a ha => (hnok a ha).2
  cases hk : (qaw (dx, vs)).2 with
  | false => rfl
  | true =>
    cases he : (qaw (dx, vs)).1 with
    | true =>
      simp only [Bool.not_true, cond_false, cond_true]
      rw [qe (show qcV dx from ⟨hd.1, by omega⟩)]
      first | done | rfl
    | false =>
      simp only [Bool.not_true, cond_false, cond_true]
      have hmi := q7p hdl
      have hmm := qGZ dx vs (vs.length + 1) 0 (List.range vs.length)
      rw [qR6] at hmm
      have hr := fun r h => qCS dx vs (vs.length + 1) 0 (List.range vs.length) (r := r) h
      obtain ⟨hs0, g0⟩ := qSr qa vs
      refine qyg ⟨([], hs0), g0⟩ fun p hp => ?_
      obtain ⟨F, hs⟩ := p
      have hp : qc3 qa hs vs := hp
      have hl2 : hs.length = vs.length := hp.1
      have est : (List.range vs.length).map (gH hs) = hs := by rw [← hl2]; exact qR6 hs _
      have t := fun K => qPB (vs.length + 1) hs vs dx xs 0 K hp hnl (vs.length + 1) 0 (List.range vs.length) (fun j hj => List.mem_range.1 hj) (by simp; omega) (by simp) (by simp)
      rw [est] at t
      refine (t _).trans ?_
      have em : qbz dx (vs.length + 1) 0 vs = (qch dx vs (vs.length + 1) 0 (List.range vs.length)).map (fun l => l.map fun j => vs.getD j dA) := hmm.symm
      show _ = some ((match qbz dx (vs.length + 1) 0 vs with | some l => ((dx, l), true) | none => qfG).1, (match qbz dx (vs.length + 1) 0 vs with | some l => ((dx, l), true) | none => qfG).2, ())
      rw [em]
      cases hm : qch dx vs (vs.length + 1) 0 (List.range vs.length) with
      | none => rfl
      | some r =>
        have hsub := hr r hm
        have hS : qdn vs = r := by unfold qdn; rw [hmi, hm]; rfl
        dsimp only [Option.map_some]
        rw [hS, qe ⟨rfl, hsub.nodup List.nodup_range, fun i hi => List.mem_range.1 (hsub.subset hi), hp.2.1, hl2⟩]⟩
theorem qQ8 : Sound Tryz.prog 138 qe5 := qt (tt := tt) (Γ := qcr) hT (qg qUH (qg qTM (qg q8w (qg q6I (qg q9R qo))))) hm (fn := Tryz.f138) Tryz.func138 (c := Tryz.f138.body.getD .skip) (by kernel_rfl) (by kernel_rfl) fun x hx => by
  obtain ⟨N, h⟩ := q3e x.1
  exact ⟨qbF N, ze5, qw _, zaK N, (q8a N x.1).trans h⟩
theorem qZg (c : Val Y33) (h : qi3 c) : ∃ N, qAd N c = some (cpC c, ()) := ⟨List.length (α := Val qa) c.2 + 1, by
  obtain ⟨d, xs⟩ := c
  change Int at d
  change List (Val qa) at xs
  obtain ⟨-, h1, h2⟩ := h
  replace h1 : xs.length ≤ 1048576 := h1
  rw [qAd, cpC]
  refine (qax (F := fun n i s => qic _ d xs 0 d _ n i s) (step := fun _ x s K => chk (s.length + [x].length ≤ 1048576) (K (s ++ [x]))) (k := fun s => some ((d, s), ())) h1 (fun n i s hi => ?_) (fun n i s hi => ?_) _ [] (Nat.lt_succ_self _)).trans ?_
  · rw [qic, qn (by omega), qe (by omega), qG hi, qe (show qba _ from (h2 _ (List.getElem_mem hi)).1.1)]
    rfl
  · rw [qic, ql (by omega)]
  · exact (qUs (f := fun x => x) xs 0 [] (by simpa using h1)).trans (by simp)⟩
theorem q3y : Sound Tryz.prog 210 qgF := qt (tt := tt) (Γ := qlL) hT (qg qUF qo) hm (fn := Tryz.f210) Tryz.func210 (c := Tryz.f210.body.getD .skip) (by kernel_rfl) (by kernel_rfl) fun x hx => by
  obtain ⟨N, h⟩ := qZg x.1 hx
  exact ⟨qc1 N, qYj, qw _, qXd N, (qZr N x.1).trans h⟩
theorem qTi {d : Int} {l : List (Val qa)} (h : ∀ a ∈ l, okD d a) (hl : l.length ≤ 1048576) : Bd Y33 ((d, l) : Val Y33) :=
  ⟨trivial, hl, fun a ha => ⟨⟨by have := (qa5 (h a ha).1).1; show List.length (α := Int) a.1 ≤ 1048576; omega, fun _ _ => trivial⟩, trivial, trivial⟩⟩
theorem q73 {d : Int} {a : Val qa} (h : okD d a) : qba a := by
  have := (qa5 h.1).1
  show List.length (α := Int) a.1 ≤ 1048576
  omega
theorem qEY (N : Nat) (d : Int) (v3 : List (Val qa)) (v4 : Int) (K : Int → List (Val qa) → Option (qb [i33, i4])) : ∀ (n i : Nat) (l : List (Val qa)), (∀ a ∈ l, okD d a) → l.length ≤ 16 → i ≤ l.length → l.length - i < n →
    qe1 N d v3 v4 K n (i : Int) d l = match qbz d n i l with
      | some r => K d r
      | none => qLz
  | 0, _, _, _, _, _, h => by omega
  | n + 1, i, l, hok, h16, hi, hn => by
    have e1 : IntKind.i64.wrap ((i : Int) + 1) = ((i + 1 : Nat) : Int) := by rw [qaH (by omega) (by omega)]; omega
    rw [qe1, qbz, e1]
    by_cases h : i < l.length
    · have a1 : ((i : Nat) : Int).toNat = i := rfl
      have a2 : ((l.length : Nat) : Int).toNat = l.length := rfl
      have a3 : (((i + 1 : Nat) : Int)).toNat = i + 1 := rfl
      have ec : ([] : List (Val qa)) ++ (l.take i).drop 0 ++ (l.take l.length).drop (i + 1) = l.take i ++ l.drop (i + 1) := by
        rw [List.take_length, List.drop_zero, List.nil_append]
      have hsub := quN l i
      have htl := qTU l i h
      have hok' : ∀ a ∈ l.take i ++ l.drop (i + 1), okD d a := fun a ha => hok a (hsub.subset ha)
      have hgi : l.getD i dA ∈ l := by rw [qdF h]; exact List.getElem_mem h
      have hlen1 : (l.take i).length ≤ 16 := by rw [List.length_take]; omega
      have hlen2 : (l.drop (i + 1)).length ≤ 16 := by rw [List.length_drop]; omega
      rw [qn (by omega), if_pos h, qvB, e1, a1, a2, a3, show (0 : Int).toNat = 0 from rfl, qe (by omega), qe (by rw [List.drop_zero, List.length_nil]; omega), qe (by omega), qe (by rw [List.take_length, List.drop_zero, List.nil_append]; omega), ec, qe (by omega), qe h]
      rw [qe (show qof (d, l.take i ++ l.drop (i + 1)) (l.getD i dA) from ⟨by show List.length (α := Val qa) (l.take i ++ l.drop (i + 1)) ≤ 1048576; omega, q73 (hok _ hgi)⟩)]
      rw [qe (show qi3 (d, l.take i ++ l.drop (i + 1)) from qTi hok' (by omega))]
      show _ = match (bif (qar (d, l.take i ++ l.drop (i + 1)) (l.getD i dA)).2 then _ else _) with | some r => K d r | none => qLz
      generalize hr : qar (d, l.take i ++ l.drop (i + 1)) (l.getD i dA) = r
      cases r.2 with
      | false => rfl
      | true =>
        cases r.1 with
        | true => exact qEY N d v3 v4 K n i (l.take i ++ l.drop (i + 1)) hok' (by omega) (by omega) (by omega)
        | false => exact qEY N d v3 v4 K n (i + 1) l hok h16 (by omega) (by omega)
    · rw [ql (by omega), if_neg h]
theorem q8x (x : Val Y33) (h : qkw x) : ∃ N, qwm N x = some ((qW x).1, (qW x).2, ()) := ⟨List.length (α := Val qa) x.2 + 1, by
  have h : qz x = true := h
  obtain ⟨hd, hl, hok⟩ := qbi h
  obtain ⟨d, l⟩ := x
  change Int at d
  change List (Val qa) at l
  change 0 ≤ d ∧ d ≤ 4 at hd
  change l.length ≤ 16 at hl
  rw [qwm, qe (show qn6 (d, l) from by show l.length ≤ 1048576; omega)]
  unfold qW
  cases hk : (qaw (d, l)).2 with
  | false => rfl
  | true =>
    cases he : (qaw (d, l)).1 with
    | true =>
      simp only [Bool.not_true, cond_false, cond_true]
      rw [qe (show qcV d from ⟨hd.1, by omega⟩)]
      first | done | rfl
    | false =>
      simp only [Bool.not_true, cond_false, cond_true]
      rw [qe (show qi3 (d, l) from qTi hok (by omega))]
      refine (qEY _ d l 0 _ (l.length + 1) 0 l hok hl (by omega) (by omega)).trans ?_
      show _ = some ((match qbz d (l.length + 1) 0 l with | some l => ((d, l), true) | none => qfG).1, (match qbz d (l.length + 1) 0 l with | some l => ((d, l), true) | none => qfG).2, ())
      cases qbz d (l.length + 1) 0 l <;> rfl⟩
theorem qQV : Sound Tryz.prog 217 qdI := qt (tt := tt) (Γ := qde) hT (qg qUw (qg qU6 (qg q3y (qg qWP qo)))) hm (fn := Tryz.f217) Tryz.func217 (c := Tryz.f217.body.getD .skip) (by kernel_rfl) (by kernel_rfl) fun x hx => by
  obtain ⟨N, h⟩ := q8x x.1 hx
  exact ⟨qbI N, q1N, qw _, q4g N, (zcG N x.1).trans h⟩
end Go.T
