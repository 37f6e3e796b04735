/- Minimal cells: what the functions compute. -/
import Derived.Test.YthefcjjgchekiaaGreatE4
set_option linter.unusedSimpArgs false
set_option linter.unusedVariables false
namespace Go.T
open Go Go.Proofs
set_option maxHeartbeats 4000000
set_option maxRecDepth 100000
theorem take_drop_map {α β : Type} (f : α → β) (l : List α) (i : Nat) : (l.map f).take i ++ (l.map f).drop (i + 1) = (l.take i ++ l.drop (i + 1)).map f := by
  rw [List.map_append, List.map_take, List.map_drop]
theorem getD_mapA {α β : Type} (f : α → β) (l : List α) (i : Nat) (h : i < l.length) (d : β) (d' : α) : (l.map f).getD i d = f (l.getD i d') := by
  simp [List.getD, h]
theorem td_sub {α : Type} (l : List α) (i : Nat) : (l.take i ++ l.drop (i + 1)).Sublist l := by
  rw [← List.eraseIdx_eq_take_drop_succ]
  exact List.eraseIdx_sublist ..
theorem td_len {α : Type} (l : List α) (i : Nat) (h : i < l.length) : (l.take i ++ l.drop (i + 1)).length + 1 = l.length := by
  simp; omega
theorem minI_map (d : Int) (vs : List (Val Y108)) : ∀ (n i : Nat) (is : List Nat), (minI d vs n i is).map (fun l => l.map fun j => vs.getD j dA) = minL d n i (is.map fun j => vs.getD j dA)
  | 0, _, _ => rfl
  | n + 1, i, is => by
    simp only [minI, minL]
    rw [List.length_map]
    by_cases h : i < is.length
    · rw [if_pos h, if_pos h, take_drop_map, getD_mapA (fun j => vs.getD j dA) is i h dA 0]
      generalize impV (d, (is.take i ++ is.drop (i + 1)).map fun j => vs.getD j dA) (vs.getD (is.getD i 0) dA) = r
      cases r.2 with
      | false => rfl
      | true =>
        cases r.1 with
        | true => exact minI_map d vs n i _
        | false => exact minI_map d vs n (i + 1) is
    · rw [if_neg h, if_neg h]; rfl
theorem minI_sub (d : Int) (vs : List (Val Y108)) : ∀ (n i : Nat) (is : List Nat) {r : List Nat}, minI d vs n i is = some r → r.Sublist is
  | 0, _, is, r, h => by simp only [minI, Option.some.injEq] at h; subst h; exact List.Sublist.refl _
  | n + 1, i, is, r, h => by
    simp only [minI] at h
    by_cases hi : i < is.length
    · rw [if_pos hi] at h
      generalize impV (d, (is.take i ++ is.drop (i + 1)).map fun j => vs.getD j dA) (vs.getD (is.getD i 0) dA) = q at h
      cases hq : q.2 with
      | false => rw [hq] at h; simp at h
      | true =>
        rw [hq] at h
        cases hq1 : q.1 with
        | true => rw [hq1] at h; exact (minI_sub d vs n i _ h).trans (td_sub is i)
        | false => rw [hq1] at h; exact minI_sub d vs n (i + 1) is h
    · rw [if_neg hi] at h
      simp only [Option.some.injEq] at h
      subst h; exact List.Sublist.refl _
theorem e215 (c : Val Y33) : ∃ N, m215 N c = some ((nrmC c).1, (nrmC c).2, ()) := ⟨0, by
  rw [m215]
  unfold nrmC
  cases hc : isCell c with
  | false => rfl
  | true =>
    simp only [Bool.not_true, cond_false, cond_true]
    rw [chk_pos (show nrmV_pre c.1 c.2 from (okL_cell hc).1)]⟩
theorem s215 : Sound Tryz.prog 215 g215 := sound_run (tt := tt) (Γ := Γ215) hT (ok_cons s199 (ok_cons s230 ok_nil)) hm (fn := Tryz.f215) Tryz.func215 (c := Tryz.f215.body.getD .skip) (by kernel_rfl) (by kernel_rfl) fun x hx => by
  obtain ⟨N, h⟩ := e215 x.1
  exact ⟨T215 N, p215, noSem_ok _, tb215 N, (run215 N x.1).trans h⟩
abbrev gH (hs : List (Val (hd Y108))) (j : Nat) : Val (hd Y108) := hs.getD j (dflt (hd Y108))
abbrev noC2 : Option (Vals [i33, i4]) := some (((0 : Int), ([] : List (Val Y108))), false, ())
theorem t138 (N : Nat) (hs : List (Val (hd Y108))) (vs : List (Val Y108)) (d : Int) (v5 : List (Val Y108)) (v6 : Int) (K : Int → List (Val (hd Y108)) → Option (Vals [i33, i4])) (hp : Good Y108 hs vs) (hl : vs.length ≤ 16) : ∀ (n i : Nat) (is : List Nat), (∀ j ∈ is, j < vs.length) → is.length ≤ 16 → i ≤ is.length → is.length - i < n →
    m138_l10 N hs vs d v5 v6 K n (i : Int) d (is.map (gH hs)) = match minI d vs n i is with
      | some r => K d (r.map (gH hs))
      | none => noC2
  | 0, _, _, _, _, _, h => by omega
  | n + 1, i, is, hin, h16, hi, hn => by
    have hl2 : hs.length = vs.length := hp.1
    have e1 : IntKind.i64.wrap ((i : Int) + 1) = ((i + 1 : Nat) : Int) := by rw [wrap64 (by omega) (by omega)]; omega
    have hlm : (is.map (gH hs)).length = is.length := List.length_map ..
    rw [m138_l10, minI, e1, hlm]
    by_cases h : i < is.length
    · have ec : catH ([((is.map (gH hs)).take (i : Int).toNat).drop (0 : Int).toNat, ((is.map (gH hs)).take ((is.length : Nat) : Int).toNat).drop (((i + 1 : Nat) : Int)).toNat] : List (Val (.slice 108 (hd Y108)))) = (is.take i ++ is.drop (i + 1)).map (gH hs) := by
        rw [← take_drop_map]
        unfold catH
        have a1 : ((i : Nat) : Int).toNat = i := rfl
        have a2 : ((is.length : Nat) : Int).toNat = is.length := rfl
        have a3 : (((i + 1 : Nat) : Int)).toNat = i + 1 := rfl
        rw [a1, a2, a3, show (0 : Int).toNat = 0 from rfl, List.drop_zero, ← hlm, List.take_length]
        simp
      have hmem : ∀ j ∈ is, gH hs j ∈ hs := fun j hj => by
        have hj' : j < hs.length := by rw [hl2]; exact hin j hj
        show hs.getD j _ ∈ hs
        rw [getD_at hj']
        exact List.getElem_mem hj'
      have hlk : ∀ j ∈ is, lk Y108 hs vs (gH hs j) = vs.getD j dA := fun j hj => lk_getD hp (hin j hj)
      have hsub := td_sub is i
      have eg : (is.map (gH hs)).getD (i : Int).toNat (dflt (hd Y108)) = gH hs (is.getD i 0) := getD_mapA (gH hs) is i h _ 0
      have hgi : is.getD i 0 ∈ is := by rw [getD_at h]; exact List.getElem_mem h
      have em : ((is.take i ++ is.drop (i + 1)).map (gH hs)).map (lk Y108 hs vs) = (is.take i ++ is.drop (i + 1)).map fun j => vs.getD j dA := by
        rw [List.map_map]
        exact List.map_congr_left fun j hj => hlk j (hsub.subset hj)
      have htl := td_len is i h
      rw [bif_dec (by omega), if_pos h, m138_l1011, e1, hlm, chk_pos (by omega), chk_pos (by omega), ec]
      rw [chk_pos (show catH_pre _ from ⟨by show 2 ≤ 1048576; decide, by rw [ec, List.length_map]; omega⟩), chk_pos (by omega), chk_pos (show (i : Int).toNat < is.length from h), eg]
      rw [chk_pos ⟨hp.2.1, fun y hy => by
        obtain ⟨j, hj, rfl⟩ := List.mem_map.1 hy
        exact hmem j (hsub.subset hj), hmem _ hgi⟩]
      rw [show lk Y108 hs vs (gH hs (is.getD i 0)) = vs.getD (is.getD i 0) dA from hlk _ hgi, em]
      generalize impV (d, (is.take i ++ is.drop (i + 1)).map fun j => vs.getD j dA) (vs.getD (is.getD i 0) dA) = r
      cases r.2 with
      | false => rfl
      | true =>
        cases r.1 with
        | true => exact t138 N hs vs d v5 v6 K hp hl n i _ (fun j hj => hin j (hsub.subset hj)) (by omega) (by omega) (by omega)
        | false => exact t138 N hs vs d v5 v6 K hp hl n (i + 1) is hin h16 (by omega) (by omega)
    · rw [bif_decN (by omega), if_neg h]
theorem minI_dim {d : Int} {vs : List (Val Y108)} (h : ∀ a ∈ vs, (List.length (α := Int) a.1 : Int) = d) : minI (dimL vs) vs (vs.length + 1) 0 (List.range vs.length) = minI d vs (vs.length + 1) 0 (List.range vs.length) := by
  cases vs with
  | nil => rfl
  | cons a r =>
    have : dimL (a :: r) = d := h a (by simp)
    rw [this]
theorem range_map_getD {α : Type} (vs : List α) (d : α) : (List.range vs.length).map (fun j => vs.getD j d) = vs := by
  apply List.ext_getElem
  · simp
  · intro i h1 h2
    simp [List.getD, h2]
theorem e138 (c : Val Y33) : ∃ N, m138 N c = some ((minV c).1, (minV c).2, ()) := ⟨List.length (α := Val Y108) (nrmV c.1 c.2).2 + 1, by
  rw [m138]
  unfold nrmC minV minN
  cases hc : isCell c with
  | false => rfl
  | true =>
  obtain ⟨hd, hl, hok⟩ := cell_in hc
  obtain ⟨hL, hN⟩ := okL_cell hc
  obtain ⟨d, xs⟩ := c
  change Int at d
  change List (Val Y108) at xs
  change 0 ≤ d ∧ d ≤ 4 at hd
  change okN d (nrmV d xs) at hN
  have edim : ((nrmV d xs).1 : Int) = d := hN.2.2
  have ex : ((((nrmV d xs).1 : Int), ((nrmV d xs).2 : List (Val Y108))) : Val Y33) = nrmV d xs := rfl
  simp only [Bool.not_true, cond_false, cond_true]
  rw [ex]
  obtain ⟨_, hnl, hnok⟩ := cell_in hN.1
  generalize hx : nrmV d xs = x at *
  obtain ⟨dx, vs⟩ := x
  change Int at dx
  change List (Val Y108) at vs
  obtain rfl : dx = d := edim
  change vs.length ≤ 16 at hnl
  have hdl : ∀ a ∈ vs, (List.length (α := Int) a.1 : Int) = dx := fun a ha => (hnok a ha).2
  cases hk : (empV (dx, vs)).2 with
  | false => rfl
  | true =>
    cases he : (empV (dx, vs)).1 with
    | true =>
      simp only [Bool.not_true, cond_false, cond_true]
      rw [chk_pos (show noneC_pre dx from ⟨hd.1, by omega⟩)]
      first | done | rfl
    | false =>
      simp only [Bool.not_true, cond_false, cond_true]
      have hmi := minI_dim hdl
      have hmm := minI_map dx vs (vs.length + 1) 0 (List.range vs.length)
      rw [range_map_getD] at hmm
      have hr := fun r h => minI_sub dx vs (vs.length + 1) 0 (List.range vs.length) (r := r) h
      obtain ⟨hs0, g0⟩ := good_ex Y108 vs
      refine allG_eq ⟨([], hs0), g0⟩ fun p hp => ?_
      obtain ⟨F, hs⟩ := p
      have hp : Good Y108 hs vs := hp
      have hl2 : hs.length = vs.length := hp.1
      have est : (List.range vs.length).map (gH hs) = hs := by rw [← hl2]; exact range_map_getD hs _
      have t := fun K => t138 (vs.length + 1) hs vs dx xs 0 K hp hnl (vs.length + 1) 0 (List.range vs.length) (fun j hj => List.mem_range.1 hj) (by simp; omega) (by simp) (by simp)
      rw [est] at t
      refine (t _).trans ?_
      have em : minL dx (vs.length + 1) 0 vs = (minI dx vs (vs.length + 1) 0 (List.range vs.length)).map (fun l => l.map fun j => vs.getD j dA) := hmm.symm
      show _ = some ((match minL dx (vs.length + 1) 0 vs with | some l => ((dx, l), true) | none => failC).1, (match minL dx (vs.length + 1) 0 vs with | some l => ((dx, l), true) | none => failC).2, ())
      rw [em]
      cases hm : minI dx vs (vs.length + 1) 0 (List.range vs.length) with
      | none => rfl
      | some r =>
        have hsub := hr r hm
        have hS : minS vs = r := by unfold minS; rw [hmi, hm]; rfl
        dsimp only [Option.map_some]
        rw [hS, chk_pos ⟨rfl, hsub.nodup List.nodup_range, fun i hi => List.mem_range.1 (hsub.subset hi), hp.2.1, hl2⟩]⟩
theorem s138 : Sound Tryz.prog 138 g138 := sound_run (tt := tt) (Γ := Γ138) hT (ok_cons s212 (ok_cons s213 (ok_cons s215 (ok_cons sH219 (ok_cons s220 ok_nil))))) hm (fn := Tryz.f138) Tryz.func138 (c := Tryz.f138.body.getD .skip) (by kernel_rfl) (by kernel_rfl) fun x hx => by
  obtain ⟨N, h⟩ := e138 x.1
  exact ⟨T138 N, p138, noSem_ok _, tb138 N, (run138 N x.1).trans h⟩
theorem e210 (c : Val Y33) (h : cpC_pre c) : ∃ N, m210 N c = some (cpC c, ()) := ⟨List.length (α := Val Y108) c.2 + 1, by
  obtain ⟨d, xs⟩ := c
  change Int at d
  change List (Val Y108) at xs
  obtain ⟨-, h1, h2⟩ := h
  replace h1 : xs.length ≤ 1048576 := h1
  rw [m210, cpC]
  refine (loop_fold (F := fun n i s => m210_l3 _ d xs 0 d _ n i s) (step := fun _ x s K => chk (s.length + [x].length ≤ 1048576) (K (s ++ [x]))) (k := fun s => some ((d, s), ())) h1 (fun n i s hi => ?_) (fun n i s hi => ?_) _ [] (Nat.lt_succ_self _)).trans ?_
  · rw [m210_l3, bif_dec (by omega), chk_pos (by omega), getD_atI hi, chk_pos (show idA_pre _ from (h2 _ (List.getElem_mem hi)).1.1)]
    rfl
  · rw [m210_l3, bif_decN (by omega)]
  · exact (foldK_map (f := fun x => x) xs 0 [] (by simpa using h1)).trans (by simp)⟩
theorem s210 : Sound Tryz.prog 210 g210 := sound_run (tt := tt) (Γ := Γ210) hT (ok_cons s234 ok_nil) hm (fn := Tryz.f210) Tryz.func210 (c := Tryz.f210.body.getD .skip) (by kernel_rfl) (by kernel_rfl) fun x hx => by
  obtain ⟨N, h⟩ := e210 x.1 hx
  exact ⟨T210 N, p210, noSem_ok _, tb210 N, (run210 N x.1).trans h⟩
theorem okD_Bd {d : Int} {l : List (Val Y108)} (h : ∀ a ∈ l, okD d a) (hl : l.length ≤ 1048576) : Bd Y33 ((d, l) : Val Y33) :=
  ⟨trivial, hl, fun a ha => ⟨⟨by have := (atom_in (h a ha).1).1; show List.length (α := Int) a.1 ≤ 1048576; omega, fun _ _ => trivial⟩, trivial, trivial⟩⟩
theorem okD_id {d : Int} {a : Val Y108} (h : okD d a) : idA_pre a := by
  have := (atom_in h.1).1
  show List.length (α := Int) a.1 ≤ 1048576
  omega
theorem t217 (N : Nat) (d : Int) (v3 : List (Val Y108)) (v4 : Int) (K : Int → List (Val Y108) → Option (Vals [i33, i4])) : ∀ (n i : Nat) (l : List (Val Y108)), (∀ a ∈ l, okD d a) → l.length ≤ 16 → i ≤ l.length → l.length - i < n →
    m217_l8 N d v3 v4 K n (i : Int) d l = match minL d n i l with
      | some r => K d r
      | none => noC2
  | 0, _, _, _, _, _, h => by omega
  | n + 1, i, l, hok, h16, hi, hn => by
    have e1 : IntKind.i64.wrap ((i : Int) + 1) = ((i + 1 : Nat) : Int) := by rw [wrap64 (by omega) (by omega)]; omega
    rw [m217_l8, minL, e1]
    by_cases h : i < l.length
    · have a1 : ((i : Nat) : Int).toNat = i := rfl
      have a2 : ((l.length : Nat) : Int).toNat = l.length := rfl
      have a3 : (((i + 1 : Nat) : Int)).toNat = i + 1 := rfl
      have ec : ([] : List (Val Y108)) ++ (l.take i).drop 0 ++ (l.take l.length).drop (i + 1) = l.take i ++ l.drop (i + 1) := by
        rw [List.take_length, List.drop_zero, List.nil_append]
      have hsub := td_sub l i
      have htl := td_len l i h
      have hok' : ∀ a ∈ l.take i ++ l.drop (i + 1), okD d a := fun a ha => hok a (hsub.subset ha)
      have hgi : l.getD i dA ∈ l := by rw [getD_at h]; exact List.getElem_mem h
      have hlen1 : (l.take i).length ≤ 16 := by rw [List.length_take]; omega
      have hlen2 : (l.drop (i + 1)).length ≤ 16 := by rw [List.length_drop]; omega
      rw [bif_dec (by omega), if_pos h, m217_l1009, e1, a1, a2, a3, show (0 : Int).toNat = 0 from rfl, chk_pos (by omega), chk_pos (by rw [List.drop_zero, List.length_nil]; omega), chk_pos (by omega), chk_pos (by rw [List.take_length, List.drop_zero, List.nil_append]; omega), ec, chk_pos (by omega), chk_pos h]
      rw [chk_pos (show impV_pre (d, l.take i ++ l.drop (i + 1)) (l.getD i dA) from ⟨by show List.length (α := Val Y108) (l.take i ++ l.drop (i + 1)) ≤ 1048576; omega, okD_id (hok _ hgi)⟩)]
      rw [chk_pos (show cpC_pre (d, l.take i ++ l.drop (i + 1)) from okD_Bd hok' (by omega))]
      show _ = match (bif (impV (d, l.take i ++ l.drop (i + 1)) (l.getD i dA)).2 then _ else _) with | some r => K d r | none => noC2
      generalize hr : impV (d, l.take i ++ l.drop (i + 1)) (l.getD i dA) = r
      cases r.2 with
      | false => rfl
      | true =>
        cases r.1 with
        | true => exact t217 N d v3 v4 K n i (l.take i ++ l.drop (i + 1)) hok' (by omega) (by omega) (by omega)
        | false => exact t217 N d v3 v4 K n (i + 1) l hok h16 (by omega) (by omega)
    · rw [bif_decN (by omega), if_neg h]
theorem e217 (x : Val Y33) (h : minN_pre x) : ∃ N, m217 N x = some ((minN x).1, (minN x).2, ()) := ⟨List.length (α := Val Y108) x.2 + 1, by
  have h : isCell x = true := h
  obtain ⟨hd, hl, hok⟩ := cell_in h
  obtain ⟨d, l⟩ := x
  change Int at d
  change List (Val Y108) at l
  change 0 ≤ d ∧ d ≤ 4 at hd
  change l.length ≤ 16 at hl
  rw [m217, chk_pos (show empV_pre (d, l) from by show l.length ≤ 1048576; omega)]
  unfold minN
  cases hk : (empV (d, l)).2 with
  | false => rfl
  | true =>
    cases he : (empV (d, l)).1 with
    | true =>
      simp only [Bool.not_true, cond_false, cond_true]
      rw [chk_pos (show noneC_pre d from ⟨hd.1, by omega⟩)]
      first | done | rfl
    | false =>
      simp only [Bool.not_true, cond_false, cond_true]
      rw [chk_pos (show cpC_pre (d, l) from okD_Bd hok (by omega))]
      refine (t217 _ d l 0 _ (l.length + 1) 0 l hok hl (by omega) (by omega)).trans ?_
      show _ = some ((match minL d (l.length + 1) 0 l with | some l => ((d, l), true) | none => failC).1, (match minL d (l.length + 1) 0 l with | some l => ((d, l), true) | none => failC).2, ())
      cases minL d (l.length + 1) 0 l <;> rfl⟩
theorem s217 : Sound Tryz.prog 217 g217 := sound_run (tt := tt) (Γ := Γ217) hT (ok_cons s208 (ok_cons s209 (ok_cons s210 (ok_cons s283 ok_nil)))) hm (fn := Tryz.f217) Tryz.func217 (c := Tryz.f217.body.getD .skip) (by kernel_rfl) (by kernel_rfl) fun x hx => by
  obtain ⟨N, h⟩ := e217 x.1 hx
  exact ⟨T217 N, p217, noSem_ok _, tb217 N, (run217 N x.1).trans h⟩
end Go.T
