/- Emptiness; what cells imply: what the functions compute. -/
import Derived.Test.YthefcjjgchekiaaGreatE1
set_option linter.unusedSimpArgs false
set_option linter.unusedVariables false
namespace Go.T
open Go Go.Proofs
set_option maxHeartbeats 4000000
set_option maxRecDepth 100000
abbrev dC : Val Y33 := qc Y33
theorem q8s {α : Type} (k : Nat) (d x : α) (t : List α) : (List.replicate k d ++ x :: t).getD k d = x := by
  simp [List.getD]
theorem qTk {α : Type} (k : Nat) (d x : α) (t : List α) : (List.replicate (k + 1) d ++ t).set k x = List.replicate k d ++ x :: t := by
  rw [List.replicate_succ', List.append_assoc, List.set_append_right _ _ (by simp)]
  simp
theorem qVw {d : Int} {x : Val Y33} {k : Nat} (hx : okN d x) (hk : (k : Int) < d) : qev x k = qad x k := by
  obtain ⟨h1, h2, h3⟩ := hx
  have hr : 0 ≤ (k : Int) ∧ (k : Int) < (x.1 : Int) := ⟨by omega, by rw [h3]; omega⟩
  unfold qev; rw [h1, decide_eq_true hr]; rfl
theorem qSE {d : Int} {x : Val Y33} {k : Nat} (hx : okN d x) (hm : (qad x k).2 = true) : okN d (qad x k).1 := by
  have := q9h hx.1 hm
  rw [hx.2.2] at this
  exact this
abbrev q0s : Option (qb [i48, i4]) := some (([] : List (Val Y33)), false, ())
theorem qUD (N : Nat) (d : Int) (hd : 0 ≤ d ∧ d ≤ 4) (K : List (Val Y33) → Option (qb [i48, i4])) : ∀ (k : Nat) (x : Val Y33) (t : List (Val Y33)), okN d x → (k : Int) ≤ d → ∀ n, k < n →
    qh2 N K n ((k : Int) - 1) (List.replicate k dC ++ x :: t) = match qdc k x with
      | some l => K (l ++ t)
      | none => q0s
  | 0, x, t, _, _, n + 1, _ => by
    rw [qh2, ql (by omega)]
    rfl
  | k + 1, x, t, hx, hk, n + 1, hn => by
    have e : ((k + 1 : Nat) : Int) - 1 = (k : Int) := by omega
    have e1 : IntKind.i64.wrap ((k : Int) + 1) = ((k + 1 : Nat) : Int) := by rw [qaH (by omega) (by omega)]; omega
    have e2 : IntKind.i64.wrap ((k : Int) - 1) = (k : Int) - 1 := qaH (by omega) (by omega)
    have hl : (List.replicate (k + 1) dC ++ x :: t).length = k + 1 + (t.length + 1) := by simp; omega
    have g1 : (List.replicate (k + 1) dC ++ x :: t).getD (((k + 1 : Nat) : Int)).toNat (qc Y33) = x := q8s (k + 1) dC x t
    rw [e, qh2, qn (by omega), e1, e2, qe (by omega), qe (by omega), g1, qVw hx (by omega), qdc]
    cases hm : (qad x k).2 with
    | false => rfl
    | true =>
      have hN := qSE hx hm
      simp only [Bool.not_true, cond_false, cond_true]
      rw [qe (by omega), qe (by omega)]
      have ex : (((((qad x k).1).1 : Int), (((qad x k).1).2 : List (Val qa))) : Val Y33) = (qad x k).1 := rfl
      have es : (List.replicate (k + 1) dC ++ x :: t).set (k : Int).toNat (qad x k).1 = List.replicate k dC ++ (qad x k).1 :: x :: t := qTk k dC _ _
      rw [ex, es, qUD N d hd K k (qad x k).1 (x :: t) hN (by omega) n (by omega)]
      cases qdc k (qad x k).1 with
      | none => rfl
      | some l => simp
theorem zan (c : Val Y33) : ∃ N, qvb N c = some ((qel c).1, (qel c).2, ()) := ⟨6, by
  rw [qvb]
  unfold qel
  cases hc : qz c with
  | false => rfl
  | true =>
  obtain ⟨hd, hl, hok⟩ := qbi hc
  obtain ⟨hL, hN⟩ := qha hc
  obtain ⟨d, xs⟩ := c
  change Int at d
  change List (Val qa) at xs
  change 0 ≤ d ∧ d ≤ 4 at hd
  change okN d _ at hN
  have e0 : IntKind.i64.wrap (d + 1) = d + 1 := qaH (by omega) (by omega)
  have e1 : IntKind.i64.wrap (d - 1) = d - 1 := qaH (by omega) (by omega)
  have ed : ((d.toNat : Nat) : Int) = d := Int.toNat_of_nonneg hd.1
  have e2 : (d + 1).toNat = d.toNat + 1 := by omega
  simp only [Bool.not_true, cond_false, cond_true]
  rw [e0, e1, qe (by omega), qe (show qaX d xs from hL), e2, qe (show 0 ≤ d ∧ d < (((List.replicate (d.toNat + 1) dC).length : Nat) : Int) from by rw [List.length_replicate]; omega), qe (show d.toNat < (List.replicate (d.toNat + 1) dC).length from by rw [List.length_replicate]; omega)]
  have ex : ((((qr d xs).1 : Int), ((qr d xs).2 : List (Val qa))) : Val Y33) = qr d xs := rfl
  have es : (List.replicate (d.toNat + 1) (qc Y33)).set d.toNat (qr d xs) = List.replicate d.toNat dC ++ [qr d xs] := by
    have := qTk d.toNat dC (qr d xs) []
    rw [List.append_nil] at this
    exact this
  have t := fun K => qUD 6 d hd K d.toNat (qr d xs) [] hN (by omega) 6 (by omega)
  simp only [ed] at t
  rw [ex, es]
  refine (t _).trans ?_
  cases qdc d.toNat (qr d xs) with
  | none => rfl
  | some l => simp⟩
theorem q2n : Sound Tryz.prog 225 qt7 := qt (tt := tt) (Γ := qfU) hT (qg qnN (qg qQs (qg q3b qo))) hm (fn := Tryz.f225) Tryz.func225 (c := Tryz.f225.body.getD .skip) (by kernel_rfl) (by kernel_rfl) fun x hx => by
  obtain ⟨N, h⟩ := zan x.1
  exact ⟨qcE N, q2U, qw _, qWf N, (q5h N x.1).trans h⟩
theorem qRy : ∀ (k : Nat) (x : Val Y33), (qdc k x).map (fun l => l.getD 0 dC) = qfJ (-1) k x ∧ ∀ l, qdc k x = some l → 0 < l.length
  | 0, x => ⟨rfl, fun l h => by simp only [qdc, Option.some.injEq] at h; subst h; simp⟩
  | k + 1, x => by
    have hk : ¬ (k : Int) = -1 := by omega
    simp only [qdc, qfJ, if_neg hk]
    cases hm : (qad x k).2 with
    | false => exact ⟨rfl, fun l h => by simp at h⟩
    | true =>
      obtain ⟨h1, h2⟩ := qRy k (qad x k).1
      simp only [cond_true]
      rw [← h1]
      cases hp : qdc k (qad x k).1 with
      | none => exact ⟨rfl, fun l h => by simp at h⟩
      | some l =>
        have hl := h2 l hp
        refine ⟨?_, fun l' h => ?_⟩
        · simp only [Option.map_some]
          congr 1
          show (l ++ [x]).getD 0 dC = l.getD 0 dC
          rw [List.getD_eq_getElem?_getD, List.getD_eq_getElem?_getD, List.getElem?_append_left hl]
        · simp only [Option.some.injEq] at h
          subst h; simp
theorem za7 (c : Val Y33) : ∃ N, qwD N c = some ((qaw c).1, (qaw c).2, ()) := ⟨0, by
  rw [qwD]
  unfold qel qaw
  cases hc : qz c with
  | false => rfl
  | true =>
    obtain ⟨h1, h2⟩ := qRy (c.1 : Int).toNat (qr c.1 c.2)
    simp only [cond_true]
    rw [← h1]
    cases hp : qdc (c.1 : Int).toNat (qr c.1 c.2) with
    | none => rfl
    | some l =>
      have hl := h2 l hp
      simp only [Bool.not_true, cond_false, Option.map_some]
      rw [qe (by omega), qe (by simpa using hl)]
      rfl⟩
theorem qUH : Sound Tryz.prog 212 qdo := qt (tt := tt) (Γ := qC7) hT (qg q2n qo) hm (fn := Tryz.f212) Tryz.func212 (c := Tryz.f212.body.getD .skip) (by kernel_rfl) (by kernel_rfl) fun x hx => by
  obtain ⟨N, h⟩ := za7 x.1
  exact ⟨qeD N, qVs, qw _, q6k N, (q91 N x.1).trans h⟩
abbrev q9c : Option (qb [i4, i4]) := some (false, false, ())
theorem qUt (N : Nat) (d : Int) (hd : 0 ≤ d ∧ d ≤ 4) (K : Int → List (Val qa) → Option (qb [i4, i4])) : ∀ (k : Nat) (x : Val Y33), okN d x → (k : Int) ≤ d → ∀ n, k < n →
    qg8 N K n ((k : Int) - 1) x.1 x.2 = match qfJ (-1) k x with
      | some y => K y.1 y.2
      | none => q9c
  | 0, x, _, _, n + 1, _ => by
    rw [qg8, ql (by omega)]
    rfl
  | k + 1, x, hx, hk, n + 1, hn => by
    have e : ((k + 1 : Nat) : Int) - 1 = (k : Int) := by omega
    have e2 : IntKind.i64.wrap ((k : Int) - 1) = (k : Int) - 1 := qaH (by omega) (by omega)
    have hkn : ¬ (k : Int) = -1 := by omega
    have ex : (((x.1 : Int), (x.2 : List (Val qa))) : Val Y33) = x := rfl
    have hr : 0 ≤ (k : Int) ∧ (k : Int) < (x.1 : Int) := ⟨by omega, by rw [hx.2.2]; omega⟩
    rw [e, qg8, qn (by omega), e2, qfJ, if_neg hkn, ex, qe (show qyL x k from ⟨hx.1, hr⟩)]
    cases hm : (qad x k).2 with
    | false => rfl
    | true => exact qUt N d hd K k (qad x k).1 (qSE hx hm) (by omega) n (by omega)
theorem zbM (c : Val Y33) (h : qn6 c) : ∃ N, qvd N c = some ((qaw c).1, (qaw c).2, ()) := ⟨6, by
  rw [qvd, qe (show qbW c from h)]
  unfold qaw
  cases hc : qz c with
  | false => rfl
  | true =>
  obtain ⟨hd, hl, hok⟩ := qbi hc
  obtain ⟨hL, hN⟩ := qha hc
  obtain ⟨d, xs⟩ := c
  change Int at d
  change List (Val qa) at xs
  change 0 ≤ d ∧ d ≤ 4 at hd
  change okN d _ at hN
  have e1 : IntKind.i64.wrap (d - 1) = d - 1 := qaH (by omega) (by omega)
  have ed : ((d.toNat : Nat) : Int) = d := Int.toNat_of_nonneg hd.1
  simp only [Bool.not_true, cond_false, cond_true]
  rw [e1, qe (show qaX d xs from hL)]
  have t := fun K => qUt 6 d hd K d.toNat (qr d xs) hN (by omega) 6 (by omega)
  simp only [ed] at t
  refine (t _).trans ?_
  cases qfJ (-1) d.toNat (qr d xs) <;> rfl⟩
theorem qUw : Sound Tryz.prog 208 qdk := qt (tt := tt) (Γ := qfZ) hT (qg qOU (qg qoV (qg qY7 qo))) hm (fn := Tryz.f208) Tryz.func208 (c := Tryz.f208.body.getD .skip) (by kernel_rfl) (by kernel_rfl) fun x hx => by
  obtain ⟨N, h⟩ := zbM x.1 hx
  exact ⟨qcy N, q07, qw _, q1O N, (q1n N x.1).trans h⟩
theorem q9u {a b : Val Y33} (h : (qO a b).2 = true) : okN a.1 (qO a b).1 := by
  unfold qO at *
  cases ha : qz a with
  | false => rw [ha] at h; simp at h
  | true =>
    cases hb : qz b with
    | false => rw [ha, hb] at h; simp at h
    | true =>
      by_cases hd : (a.1 : Int) = (b.1 : Int)
      · rw [ha, hb, decide_eq_true hd] at h
        rw [decide_eq_true hd]
        exact qAC (qtP ha hb hd).1 h
      · rw [ha, hb, decide_eq_false hd] at h; simp at h
theorem q32 {a : Val qa} (h : (qh a).2 = true) : List.length (α := Int) (qh a).1.1 = List.length (α := Int) a.1 := by
  unfold qh at *
  cases ha : qD a with
  | false => rw [ha] at h; simp at h
  | true => simp
theorem q2B (c : Val Y33) (a : Val qa) : ∃ N, quk N c a = some ((qar c a).1, (qar c a).2, ()) := ⟨0, by
  rw [quk]
  unfold qar
  cases hn : (qh a).2 with
  | false => rfl
  | true =>
    have e1 := q32 hn
    have ex : ((((qh a).1.1 : List (Val (.int .i64))), (((qh a).1.2).1 : Int), (((qh a).1.2).2 : Bool)) : Val qa) = (qh a).1 := rfl
    have e2 : ((((List.length (α := Int) (qh a).1.1 : Nat) : Int), ([(qh a).1] : List (Val qa))) : Val Y33) = qgI (qh a).1 (List.length (α := Int) a.1 : Int) := by rw [e1]; rfl
    rw [ex]
    simp only [Bool.not_true, cond_false, Bool.true_and]
    rw [show (((((qh a).1.1 : List (Val (.int .i64))).length : Int), ([(qh a).1] : List (Val qa))) : Val Y33) = qgI (qh a).1 (List.length (α := Int) a.1 : Int) from e2]
    cases (qO c (qgI (qh a).1 (List.length (α := Int) a.1 : Int))).2 <;> rfl⟩
theorem q9R : Sound Tryz.prog 220 qgN := qt (tt := tt) (Γ := qmi) hT (qg qUk (qg qUH (qg qSC qo))) hm (fn := Tryz.f220) Tryz.func220 (c := Tryz.f220.body.getD .skip) (by kernel_rfl) (by kernel_rfl) fun x hx => by
  obtain ⟨N, h⟩ := q2B x.1 x.2.1
  exact ⟨qdO N, qYg, qw _, zco N, (q2d N x.1 x.2.1).trans h⟩
theorem zd7 (c : Val Y33) (a : Val qa) (h : qof c a) : ∃ N, qxo N c a = some ((qar c a).1, (qar c a).2, ()) := ⟨0, by
  have ex : ((((qh a).1.1 : List (Val (.int .i64))), (((qh a).1.2).1 : Int), (((qh a).1.2).2 : Bool)) : Val qa) = (qh a).1 := rfl
  have e2 : ((((a.1 : List (Val (.int .i64))).length : Int), ([(qh a).1] : List (Val qa))) : Val Y33) = qgI (qh a).1 (List.length (α := Int) a.1 : Int) := rfl
  rw [qxo, ex, e2, qe (show qky a from h.2), qe (show qlu c (qgI (qh a).1 _) from ⟨h.1, by show 1 ≤ 1048576; decide⟩)]
  unfold qar
  cases hn : (qh a).2 with
  | false => rfl
  | true =>
    cases hm : (qO c (qgI (qh a).1 (List.length (α := Int) a.1 : Int))).2 with
    | false => rfl
    | true =>
      simp only [Bool.not_true, cond_false, Bool.and_self, cond_true]
      refine qe ?_
      have := (qbi (q9u hm).1).2.1
      show List.length (α := Val qa) _ ≤ 1048576
      omega⟩
theorem qWP : Sound Tryz.prog 283 qfX := qt (tt := tt) (Γ := qnm) hT (qg qQX (qg qUw (qg qS2 qo))) hm (fn := Tryz.f283) Tryz.func283 (c := Tryz.f283.body.getD .skip) (by kernel_rfl) (by kernel_rfl) fun x hx => by
  obtain ⟨N, h⟩ := zd7 x.1 x.2.1 hx
  exact ⟨qen N, qWJ, qw _, q8n N, (zdG N x.1 x.2.1).trans h⟩
end Go.T
