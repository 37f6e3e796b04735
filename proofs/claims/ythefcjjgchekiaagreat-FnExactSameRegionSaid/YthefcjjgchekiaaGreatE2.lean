/- Emptiness; what cells imply: what the functions compute. -/
import Derived.Test.YthefcjjgchekiaaGreatE1
set_option linter.unusedSimpArgs false
set_option linter.unusedVariables false
namespace Go.T
open Go Go.Proofs
set_option maxHeartbeats 4000000
set_option maxRecDepth 100000
abbrev dC : Val Y33 := dflt Y33
theorem rep_get {α : Type} (k : Nat) (d x : α) (t : List α) : (List.replicate k d ++ x :: t).getD k d = x := by
  simp [List.getD]
theorem rep_set {α : Type} (k : Nat) (d x : α) (t : List α) : (List.replicate (k + 1) d ++ t).set k x = List.replicate k d ++ x :: t := by
  rw [List.replicate_succ', List.append_assoc, List.set_append_right _ _ (by simp)]
  simp
theorem dropV_eq {d : Int} {x : Val Y33} {k : Nat} (hx : okN d x) (hk : (k : Int) < d) : dropV x k = dropL x k := by
  obtain ⟨h1, h2, h3⟩ := hx
  have hr : 0 ≤ (k : Int) ∧ (k : Int) < (x.1 : Int) := ⟨by omega, by rw [h3]; omega⟩
  unfold dropV; rw [h1, decide_eq_true hr]; rfl
theorem dropL_N' {d : Int} {x : Val Y33} {k : Nat} (hx : okN d x) (hm : (dropL x k).2 = true) : okN d (dropL x k).1 := by
  have := dropL_N hx.1 hm
  rw [hx.2.2] at this
  exact this
abbrev noCells : Option (Vals [i48, i4]) := some (([] : List (Val Y33)), false, ())
theorem t225 (N : Nat) (d : Int) (hd : 0 ≤ d ∧ d ≤ 4) (K : List (Val Y33) → Option (Vals [i48, i4])) : ∀ (k : Nat) (x : Val Y33) (t : List (Val Y33)), okN d x → (k : Int) ≤ d → ∀ n, k < n →
    m225_l6 N K n ((k : Int) - 1) (List.replicate k dC ++ x :: t) = match projL k x with
      | some l => K (l ++ t)
      | none => noCells
  | 0, x, t, _, _, n + 1, _ => by
    rw [m225_l6, bif_decN (by omega)]
    rfl
  | k + 1, x, t, hx, hk, n + 1, hn => by
    have e : ((k + 1 : Nat) : Int) - 1 = (k : Int) := by omega
    have e1 : IntKind.i64.wrap ((k : Int) + 1) = ((k + 1 : Nat) : Int) := by rw [wrap64 (by omega) (by omega)]; omega
    have e2 : IntKind.i64.wrap ((k : Int) - 1) = (k : Int) - 1 := wrap64 (by omega) (by omega)
    have hl : (List.replicate (k + 1) dC ++ x :: t).length = k + 1 + (t.length + 1) := by simp; omega
    have g1 : (List.replicate (k + 1) dC ++ x :: t).getD (((k + 1 : Nat) : Int)).toNat (dflt Y33) = x := rep_get (k + 1) dC x t
    rw [e, m225_l6, bif_dec (by omega), e1, e2, chk_pos (by omega), chk_pos (by omega), g1, dropV_eq hx (by omega), projL]
    cases hm : (dropL x k).2 with
    | false => rfl
    | true =>
      have hN := dropL_N' hx hm
      simp only [Bool.not_true, cond_false, cond_true]
      rw [chk_pos (by omega), chk_pos (by omega)]
      have ex : (((((dropL x k).1).1 : Int), (((dropL x k).1).2 : List (Val Y108))) : Val Y33) = (dropL x k).1 := rfl
      have es : (List.replicate (k + 1) dC ++ x :: t).set (k : Int).toNat (dropL x k).1 = List.replicate k dC ++ (dropL x k).1 :: x :: t := rep_set k dC _ _
      rw [ex, es, t225 N d hd K k (dropL x k).1 (x :: t) hN (by omega) n (by omega)]
      cases projL k (dropL x k).1 with
      | none => rfl
      | some l => simp
theorem e225 (c : Val Y33) : ∃ N, m225 N c = some ((projV c).1, (projV c).2, ()) := ⟨6, by
  rw [m225]
  unfold projV
  cases hc : isCell c with
  | false => rfl
  | true =>
  obtain ⟨hd, hl, hok⟩ := cell_in hc
  obtain ⟨hL, hN⟩ := okL_cell hc
  obtain ⟨d, xs⟩ := c
  change Int at d
  change List (Val Y108) at xs
  change 0 ≤ d ∧ d ≤ 4 at hd
  change okN d _ at hN
  have e0 : IntKind.i64.wrap (d + 1) = d + 1 := wrap64 (by omega) (by omega)
  have e1 : IntKind.i64.wrap (d - 1) = d - 1 := wrap64 (by omega) (by omega)
  have ed : ((d.toNat : Nat) : Int) = d := Int.toNat_of_nonneg hd.1
  have e2 : (d + 1).toNat = d.toNat + 1 := by omega
  simp only [Bool.not_true, cond_false, cond_true]
  rw [e0, e1, chk_pos (by omega), chk_pos (show nrmV_pre d xs from hL), e2, chk_pos (show 0 ≤ d ∧ d < (((List.replicate (d.toNat + 1) dC).length : Nat) : Int) from by rw [List.length_replicate]; omega), chk_pos (show d.toNat < (List.replicate (d.toNat + 1) dC).length from by rw [List.length_replicate]; omega)]
  have ex : ((((nrmV d xs).1 : Int), ((nrmV d xs).2 : List (Val Y108))) : Val Y33) = nrmV d xs := rfl
  have es : (List.replicate (d.toNat + 1) (dflt Y33)).set d.toNat (nrmV d xs) = List.replicate d.toNat dC ++ [nrmV d xs] := by
    have := rep_set d.toNat dC (nrmV d xs) []
    rw [List.append_nil] at this
    exact this
  have t := fun K => t225 6 d hd K d.toNat (nrmV d xs) [] hN (by omega) 6 (by omega)
  simp only [ed] at t
  rw [ex, es]
  refine (t _).trans ?_
  cases projL d.toNat (nrmV d xs) with
  | none => rfl
  | some l => simp⟩
theorem s225 : Sound Tryz.prog 225 g225 := sound_run (tt := tt) (Γ := Γ225) hT (ok_cons s199 (ok_cons s230 (ok_cons s237 ok_nil))) hm (fn := Tryz.f225) Tryz.func225 (c := Tryz.f225.body.getD .skip) (by kernel_rfl) (by kernel_rfl) fun x hx => by
  obtain ⟨N, h⟩ := e225 x.1
  exact ⟨T225 N, p225, noSem_ok _, tb225 N, (run225 N x.1).trans h⟩
theorem projL_drop : ∀ (k : Nat) (x : Val Y33), (projL k x).map (fun l => l.getD 0 dC) = dropAll (-1) k x ∧ ∀ l, projL k x = some l → 0 < l.length
  | 0, x => ⟨rfl, fun l h => by simp only [projL, Option.some.injEq] at h; subst h; simp⟩
  | k + 1, x => by
    have hk : ¬ (k : Int) = -1 := by omega
    simp only [projL, dropAll, if_neg hk]
    cases hm : (dropL x k).2 with
    | false => exact ⟨rfl, fun l h => by simp at h⟩
    | true =>
      obtain ⟨h1, h2⟩ := projL_drop k (dropL x k).1
      simp only [cond_true]
      rw [← h1]
      cases hp : projL k (dropL x k).1 with
      | none => exact ⟨rfl, fun l h => by simp at h⟩
      | some l =>
        have hl := h2 l hp
        refine ⟨?_, fun l' h => ?_⟩
        · simp only [Option.map_some]
          congr 1
          show (l ++ [x]).getD 0 dC = l.getD 0 dC
          rw [List.getD_eq_getElem?_getD, List.getD_eq_getElem?_getD, List.getElem?_append_left hl]
        · simp only [Option.some.injEq] at h
          subst h; simp
theorem e212 (c : Val Y33) : ∃ N, m212 N c = some ((empV c).1, (empV c).2, ()) := ⟨0, by
  rw [m212]
  unfold projV empV
  cases hc : isCell c with
  | false => rfl
  | true =>
    obtain ⟨h1, h2⟩ := projL_drop (c.1 : Int).toNat (nrmV c.1 c.2)
    simp only [cond_true]
    rw [← h1]
    cases hp : projL (c.1 : Int).toNat (nrmV c.1 c.2) with
    | none => rfl
    | some l =>
      have hl := h2 l hp
      simp only [Bool.not_true, cond_false, Option.map_some]
      rw [chk_pos (by omega), chk_pos (by simpa using hl)]
      rfl⟩
theorem s212 : Sound Tryz.prog 212 g212 := sound_run (tt := tt) (Γ := Γ212) hT (ok_cons s225 ok_nil) hm (fn := Tryz.f212) Tryz.func212 (c := Tryz.f212.body.getD .skip) (by kernel_rfl) (by kernel_rfl) fun x hx => by
  obtain ⟨N, h⟩ := e212 x.1
  exact ⟨T212 N, p212, noSem_ok _, tb212 N, (run212 N x.1).trans h⟩
abbrev noTwo : Option (Vals [i4, i4]) := some (false, false, ())
theorem t208 (N : Nat) (d : Int) (hd : 0 ≤ d ∧ d ≤ 4) (K : Int → List (Val Y108) → Option (Vals [i4, i4])) : ∀ (k : Nat) (x : Val Y33), okN d x → (k : Int) ≤ d → ∀ n, k < n →
    m208_l5 N K n ((k : Int) - 1) x.1 x.2 = match dropAll (-1) k x with
      | some y => K y.1 y.2
      | none => noTwo
  | 0, x, _, _, n + 1, _ => by
    rw [m208_l5, bif_decN (by omega)]
    rfl
  | k + 1, x, hx, hk, n + 1, hn => by
    have e : ((k + 1 : Nat) : Int) - 1 = (k : Int) := by omega
    have e2 : IntKind.i64.wrap ((k : Int) - 1) = (k : Int) - 1 := wrap64 (by omega) (by omega)
    have hkn : ¬ (k : Int) = -1 := by omega
    have ex : (((x.1 : Int), (x.2 : List (Val Y108))) : Val Y33) = x := rfl
    have hr : 0 ≤ (k : Int) ∧ (k : Int) < (x.1 : Int) := ⟨by omega, by rw [hx.2.2]; omega⟩
    rw [e, m208_l5, bif_dec (by omega), e2, dropAll, if_neg hkn, ex, chk_pos (show dropL_pre x k from ⟨hx.1, hr⟩)]
    cases hm : (dropL x k).2 with
    | false => rfl
    | true => exact t208 N d hd K k (dropL x k).1 (dropL_N' hx hm) (by omega) n (by omega)
theorem e208 (c : Val Y33) (h : empV_pre c) : ∃ N, m208 N c = some ((empV c).1, (empV c).2, ()) := ⟨6, by
  rw [m208, chk_pos (show isCell_pre c from h)]
  unfold empV
  cases hc : isCell c with
  | false => rfl
  | true =>
  obtain ⟨hd, hl, hok⟩ := cell_in hc
  obtain ⟨hL, hN⟩ := okL_cell hc
  obtain ⟨d, xs⟩ := c
  change Int at d
  change List (Val Y108) at xs
  change 0 ≤ d ∧ d ≤ 4 at hd
  change okN d _ at hN
  have e1 : IntKind.i64.wrap (d - 1) = d - 1 := wrap64 (by omega) (by omega)
  have ed : ((d.toNat : Nat) : Int) = d := Int.toNat_of_nonneg hd.1
  simp only [Bool.not_true, cond_false, cond_true]
  rw [e1, chk_pos (show nrmV_pre d xs from hL)]
  have t := fun K => t208 6 d hd K d.toNat (nrmV d xs) hN (by omega) 6 (by omega)
  simp only [ed] at t
  refine (t _).trans ?_
  cases dropAll (-1) d.toNat (nrmV d xs) <;> rfl⟩
theorem s208 : Sound Tryz.prog 208 g208 := sound_run (tt := tt) (Γ := Γ208) hT (ok_cons s104 (ok_cons s150 (ok_cons s151 ok_nil))) hm (fn := Tryz.f208) Tryz.func208 (c := Tryz.f208.body.getD .skip) (by kernel_rfl) (by kernel_rfl) fun x hx => by
  obtain ⟨N, h⟩ := e208 x.1 hx
  exact ⟨T208 N, p208, noSem_ok _, tb208 N, (run208 N x.1).trans h⟩
theorem meetV_ok {a b : Val Y33} (h : (meetV a b).2 = true) : okN a.1 (meetV a b).1 := by
  unfold meetV at *
  cases ha : isCell a with
  | false => rw [ha] at h; simp at h
  | true =>
    cases hb : isCell b with
    | false => rw [ha, hb] at h; simp at h
    | true =>
      by_cases hd : (a.1 : Int) = (b.1 : Int)
      · rw [ha, hb, decide_eq_true hd] at h
        rw [decide_eq_true hd]
        exact limV_N (okL_meet ha hb hd).1 h
      · rw [ha, hb, decide_eq_false hd] at h; simp at h
theorem negV_len {a : Val Y108} (h : (negV a).2 = true) : List.length (α := Int) (negV a).1.1 = List.length (α := Int) a.1 := by
  unfold negV at *
  cases ha : isAtom a with
  | false => rw [ha] at h; simp at h
  | true => simp
theorem e220 (c : Val Y33) (a : Val Y108) : ∃ N, m220 N c a = some ((impV c a).1, (impV c a).2, ()) := ⟨0, by
  rw [m220]
  unfold impV
  cases hn : (negV a).2 with
  | false => rfl
  | true =>
    have e1 := negV_len hn
    have ex : ((((negV a).1.1 : List (Val (.int .i64))), (((negV a).1.2).1 : Int), (((negV a).1.2).2 : Bool)) : Val Y108) = (negV a).1 := rfl
    have e2 : ((((List.length (α := Int) (negV a).1.1 : Nat) : Int), ([(negV a).1] : List (Val Y108))) : Val Y33) = oneA (negV a).1 (List.length (α := Int) a.1 : Int) := by rw [e1]; rfl
    rw [ex]
    simp only [Bool.not_true, cond_false, Bool.true_and]
    rw [show (((((negV a).1.1 : List (Val (.int .i64))).length : Int), ([(negV a).1] : List (Val Y108))) : Val Y33) = oneA (negV a).1 (List.length (α := Int) a.1 : Int) from e2]
    cases (meetV c (oneA (negV a).1 (List.length (α := Int) a.1 : Int))).2 <;> rfl⟩
theorem s220 : Sound Tryz.prog 220 g220 := sound_run (tt := tt) (Γ := Γ220) hT (ok_cons s182 (ok_cons s212 (ok_cons s221 ok_nil))) hm (fn := Tryz.f220) Tryz.func220 (c := Tryz.f220.body.getD .skip) (by kernel_rfl) (by kernel_rfl) fun x hx => by
  obtain ⟨N, h⟩ := e220 x.1 x.2.1
  exact ⟨T220 N, p220, noSem_ok _, tb220 N, (run220 N x.1 x.2.1).trans h⟩
theorem e283 (c : Val Y33) (a : Val Y108) (h : impV_pre c a) : ∃ N, m283 N c a = some ((impV c a).1, (impV c a).2, ()) := ⟨0, by
  have ex : ((((negV a).1.1 : List (Val (.int .i64))), (((negV a).1.2).1 : Int), (((negV a).1.2).2 : Bool)) : Val Y108) = (negV a).1 := rfl
  have e2 : ((((a.1 : List (Val (.int .i64))).length : Int), ([(negV a).1] : List (Val Y108))) : Val Y33) = oneA (negV a).1 (List.length (α := Int) a.1 : Int) := rfl
  rw [m283, ex, e2, chk_pos (show negV_pre a from h.2), chk_pos (show meetV_pre c (oneA (negV a).1 _) from ⟨h.1, by show 1 ≤ 1048576; decide⟩)]
  unfold impV
  cases hn : (negV a).2 with
  | false => rfl
  | true =>
    cases hm : (meetV c (oneA (negV a).1 (List.length (α := Int) a.1 : Int))).2 with
    | false => rfl
    | true =>
      simp only [Bool.not_true, cond_false, Bool.and_self, cond_true]
      refine chk_pos ?_
      have := (cell_in (meetV_ok hm).1).2.1
      show List.length (α := Val Y108) _ ≤ 1048576
      omega⟩
theorem s283 : Sound Tryz.prog 283 g283 := sound_run (tt := tt) (Γ := Γ283) hT (ok_cons s178 (ok_cons s208 (ok_cons s218 ok_nil))) hm (fn := Tryz.f283) Tryz.func283 (c := Tryz.f283.body.getD .skip) (by kernel_rfl) (by kernel_rfl) fun x hx => by
  obtain ⟨N, h⟩ := e283 x.1 x.2.1 hx
  exact ⟨T283 N, p283, noSem_ok _, tb283 N, (run283 N x.1 x.2.1).trans h⟩
end Go.T
