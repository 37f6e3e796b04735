/- A cell taken from a region: what the functions compute. -/
import Derived.Test.YthefcjjgchekiaaGreatE10
set_option linter.unusedSimpArgs false
set_option linter.unusedVariables false
namespace Go.T
open Go Go.Proofs
set_option maxHeartbeats 4000000
set_option maxRecDepth 100000
theorem addV_12 {r : Val Y50} (c : Val Y33) (h : List.length (α := Val Y33) r.2 ≤ 12) : List.length (α := Val Y33) (addV r c).1.2 ≤ 12 := by
  unfold addV
  cases (minV c).2 with
  | false => exact h
  | true =>
    cases isNoneC (minV c).1 with
    | true => exact h
    | false =>
      simp only [cond_true, cond_false]
      by_cases hl : (12 : Int) ≤ (List.length (α := Val Y33) r.2 : Int)
      · rw [decide_eq_true hl]; exact h
      · rw [decide_eq_false hl]
        refine Nat.le_trans (Nat.le_of_eq (List.length_append ..)) ?_
        show List.length (α := Val Y33) r.2 + 1 ≤ 12
        omega
theorem lessK_12 (d : Int) (l : List (Val Y108)) (c : Val Y33) : ∀ (n k : Nat) (r : Val Y50), List.length (α := Val Y33) r.2 ≤ 12 → List.length (α := Val Y33) (lessK d l c n k r).1.2 ≤ 12
  | 0, _, _, h => h
  | n + 1, k, r, h => by
    simp only [lessK]
    cases (meetV c (pieV d l k)).2 with
    | false => exact Nat.zero_le _
    | true =>
      cases (addV r (meetV c (pieV d l k)).1).2 with
      | false => exact Nat.zero_le _
      | true => exact lessK_12 d l c n (k + 1) _ (addV_12 _ h)
theorem lessC_K (d : Int) (l : List (Val Y108)) : ∀ (cs : List (Val Y33)) (r : Val Y50), (bif (lessC d l cs r).2 then some ((lessC d l cs r).1, true, ()) else some (((0 : Int), ([] : List (Val Y33))), false, ()) : Option (Vals [i50, i4])) = some ((lessC d l cs r).1, (lessC d l cs r).2, ())
  | [], r => rfl
  | c :: cs, r => by
    simp only [lessC]
    cases (lessK d l c l.length 0 r).2 with
    | false => rfl
    | true => exact lessC_K d l cs _
theorem pie_eq {d : Int} {l : List (Val Y108)} {i : Nat} (h : i < l.length) : ((d, ([] : List (Val Y108)) ++ (l.take (i : Int).toNat).drop (0 : Int).toNat ++ [(((negV l[i]).1.1 : List (Val (.int .i64))), ((negV l[i]).1.2.1 : Int), ((negV l[i]).1.2.2 : Bool))]) : Val Y33) = pieV d l i := by
  unfold pieV
  rw [getD_at h]
  show ((d, ([] : List (Val Y108)) ++ (l.take i).drop 0 ++ [(negV l[i]).1]) : Val Y33) = _
  rw [List.drop_zero, List.nil_append]
theorem neg_ok {a : Val Y108} (h : isAtom a = true) : (negV a).2 = true := by unfold negV; rw [h]; rfl
theorem t6139 (N : Nat) (a : List (Val Y33)) (b e : Int) (l : List (Val Y108)) (d : Int) (f : List (Val Y33)) (g h : Int) (c : Val Y33) (K : Int → List (Val Y33) → Option (Vals [i50, i4])) (hl : l.length ≤ 16) (ha : ∀ x ∈ l, isAtom x = true) : ∀ (k i : Nat), i + k = l.length → ∀ n, k < n → ∀ (r : Val Y50), List.length (α := Val Y33) r.2 ≤ 12 →
    m139_l6 N a b e l l.length d f g l h c.1 c.2 K n (i : Int) r.1 r.2 = bif (lessK d l c k i r).2 then K (lessK d l c k i r).1.1 (lessK d l c k i r).1.2 else some (((0 : Int), []), false, ())
  | 0, i, hi, n + 1, _, r, _ => by
    rw [m139_l6, bif_decN (by omega)]
    rfl
  | k + 1, i, hi, n + 1, hn, r, hr => by
    have h1 : i < l.length := by omega
    have htl : ((l.take (i : Int).toNat).drop (0 : Int).toNat).length ≤ 16 := by
      show ((l.take i).drop 0).length ≤ 16
      rw [List.drop_zero, List.length_take]; omega
    rw [m139_l6, bif_dec (by omega), chk_pos (by omega), getD_atI h1, neg_ok (ha _ (List.getElem_mem h1)), wrap_succ h1 (by omega)]
    simp only [Bool.not_true, cond_false]
    rw [chk_pos (by omega), chk_pos (by simp only [List.length_nil]; omega), chk_pos (by simp only [List.length_append, List.length_nil, List.length_singleton]; omega), pie_eq h1]
    simp only [lessK]
    show (bif !(meetV c (pieV d l i)).2 then _ else chk (addV_pre r (meetV c (pieV d l i)).1) (bif !(addV r (meetV c (pieV d l i)).1).2 then _ else m139_l6 N a b e l l.length d f g l h c.1 c.2 K n _ (addV r (meetV c (pieV d l i)).1).1.1 (addV r (meetV c (pieV d l i)).1).1.2)) = _
    generalize meetV c (pieV d l i) = m
    cases m.2 with
    | false => rfl
    | true =>
      simp only [Bool.not_true, cond_false, cond_true]
      rw [chk_pos (show addV_pre r m.1 from hr)]
      cases (addV r m.1).2 with
      | false => rfl
      | true =>
        simp only [Bool.not_true, cond_false, cond_true]
        exact t6139 N a b e l d f g h c K hl ha k (i + 1) (by omega) n (by omega) (addV r m.1).1 (addV_12 _ hr)
theorem t3139 (N : Nat) (xs : List (Val Y33)) (d : Int) (f : List (Val Y33)) (g : Int) (l : List (Val Y108)) (h : Int) (K : Int → List (Val Y33) → Option (Vals [i50, i4])) (hx : xs.length ≤ 12) (hl : l.length ≤ 16) (hN : 16 < N) (ha : ∀ x ∈ l, isAtom x = true) : ∀ (k i : Nat), i + k = xs.length → ∀ n, k < n → ∀ (r : Val Y50), List.length (α := Val Y33) r.2 ≤ 12 →
    m139_l3 N xs xs.length d f g l h K n (i : Int) r.1 r.2 = bif (lessC d l (xs.drop i) r).2 then K (lessC d l (xs.drop i) r).1.1 (lessC d l (xs.drop i) r).1.2 else some (((0 : Int), []), false, ())
  | 0, i, hi, n + 1, _, r, _ => by
    rw [m139_l3, bif_decN (by omega), List.drop_eq_nil_of_le (by omega)]
    rfl
  | k + 1, i, hi, n + 1, hn, r, hr => by
    have h1 : i < xs.length := by omega
    rw [m139_l3, bif_dec (by omega), chk_pos (by omega), getD_atI h1, wrap_succ h1 (by omega), drop_at h1]
    refine (t6139 N xs xs.length i l d f g h xs[i] _ hl ha l.length 0 (by omega) N (by omega) r hr).trans ?_
    simp only [lessC]
    cases (lessK d l xs[i] l.length 0 r).2 with
    | false => rfl
    | true =>
      simp only [cond_true]
      exact t3139 N xs d f g l h K hx hl hN ha k (i + 1) (by omega) n (by omega) _ (lessK_12 d l xs[i] _ _ r hr)
theorem e139 (r : Val Y50) (m : Val Y33) (h : lessV_pre r m) : ∃ N, m139 N r m = some ((lessV r m).1, (lessV r m).2, ()) := ⟨30, by
  obtain ⟨h1, h2, h3⟩ := h
  obtain ⟨_, hl, _⟩ := reg_in h1
  obtain ⟨_, ml, mo⟩ := cell_in h2
  rw [m139]
  exact (t3139 30 r.2 r.1 r.2 m.1 m.2 0 _ hl ml (by omega) (fun x hx => (mo x hx).1) (List.length (α := Val Y33) r.2) 0 (by omega) 30 (by omega) (r.1, []) (by simp)).trans (lessC_K r.1 m.2 r.2 (r.1, []))⟩
theorem s139 : Sound Tryz.prog 139 g139 := sound_run (tt := tt) (Γ := Γ139) hT (ok_cons s182 (ok_cons s221 ok_nil)) hm (fn := Tryz.f139) Tryz.func139 (c := Tryz.f139.body.getD .skip) (by kernel_rfl) (by kernel_rfl) fun x hx => by
  obtain ⟨N, h⟩ := e139 x.1 x.2.1 hx
  exact ⟨T139 N, p139, hSem_ok (bx_cons sb222 bx_nil) hn_nil, tb139 N, (run139 N x.1 x.2.1).trans h⟩
theorem meet_N {a b : Val Y33} (h : (meetV a b).2 = true) : okN a.1 (meetV a b).1 := by
  unfold meetV at h ⊢
  cases ha : isCell a with
  | false => rw [ha] at h; exact absurd h (by simp)
  | true =>
    cases hb : isCell b with
    | false => rw [ha, hb] at h; exact absurd h (by simp)
    | true =>
      by_cases hd : (a.1 : Int) = (b.1 : Int)
      · rw [ha, hb, decide_eq_true hd] at h
        rw [decide_eq_true hd]
        exact limV_N (okL_meet ha hb hd).1 h
      · rw [ha, hb, decide_eq_false hd] at h; exact absurd h (by simp)
theorem t9137 (N : Nat) (j : Nat) (d : Int) (xs : List (Val Y33)) (f g : Int) (l : List (Val Y108)) (K : Int → List (Val Y33) → Option (Vals [i50, i4])) (hj : j < xs.length) (hx : xs.length ≤ 12) (hc : ∀ c ∈ xs, isCell c = true) (hl : l.length ≤ 16) (ha : ∀ x ∈ l, isAtom x = true) : ∀ (k i : Nat), i + k = l.length → ∀ n, k < n → ∀ (r : Val Y50), List.length (α := Val Y33) r.2 ≤ 12 →
    m137_l9 N (j : Int) d xs f g l K n (i : Int) r.1 r.2 = bif (lessK d l xs[j] k i r).2 then K (lessK d l xs[j] k i r).1.1 (lessK d l xs[j] k i r).1.2 else some (((0 : Int), []), false, ())
  | 0, i, hi, n + 1, _, r, _ => by
    rw [m137_l9, bif_decN (by omega)]
    rfl
  | k + 1, i, hi, n + 1, hn, r, hr => by
    have h1 : i < l.length := by omega
    have htl : ((l.take (i : Int).toNat).drop (0 : Int).toNat).length ≤ 16 := by
      show ((l.take i).drop 0).length ≤ 16
      rw [List.drop_zero, List.length_take]; omega
    have hat := ha _ (List.getElem_mem h1)
    have hcj := hc _ (List.getElem_mem hj)
    rw [m137_l9, bif_dec (by omega), chk_pos (by omega), chk_pos (show (i : Int).toNat < l.length from h1), getD_atI h1, chk_pos (show negV_pre l[i] from by have := (atom_in hat).1; show List.length (α := Int) _ ≤ 1048576; omega), wrap_succ h1 (by omega)]
    rw [chk_pos (by omega), chk_pos (by simp only [List.length_nil]; omega), chk_pos (by simp only [List.length_append, List.length_nil, List.length_singleton]; omega), pie_eq h1, chk_pos (by omega), getD_atI hj]
    rw [chk_pos (show meetV_pre xs[j] (pieV d l i) from ⟨by have := (cell_in hcj).2.1; show _ ≤ 1048576; omega, by show (l.take i ++ [_]).length ≤ 1048576; simp only [List.length_append, List.length_take, List.length_singleton]; omega⟩)]
    simp only [lessK]
    have hm := @meet_N xs[j] (pieV d l i)
    generalize meetV xs[j] (pieV d l i) = m at hm ⊢
    cases h2 : m.2 with
    | false => rfl
    | true =>
      have hmc := (hm h2).1
      obtain ⟨e1, e2⟩ := add4_eq hmc r
      simp only [Bool.not_true, cond_false, cond_true]
      rw [chk_pos (show add4V_pre (r.1, r.2) m.1 from ⟨hmc, hr⟩)]
      show (bif !(add4V r m.1).2 then _ else m137_l9 N (j : Int) d xs f g l K n _ (add4V r m.1).1.1 (add4V r m.1).1.2) = _
      rw [e1]
      cases h3 : (addV r m.1).2 with
      | false => rfl
      | true =>
        simp only [Bool.not_true, cond_false, cond_true]
        rw [e2 h3]
        exact t9137 N j d xs f g l K hj hx hc hl ha k (i + 1) (by omega) n (by omega) (addV r m.1).1 (addV_12 _ hr)
theorem t6137 (N : Nat) (d : Int) (xs : List (Val Y33)) (f g : Int) (l : List (Val Y108)) (K : Int → List (Val Y33) → Option (Vals [i50, i4])) (hx : xs.length ≤ 12) (hc : ∀ c ∈ xs, isCell c = true) (hl : l.length ≤ 16) (hN : 16 < N) (ha : ∀ x ∈ l, isAtom x = true) : ∀ (k i : Nat), i + k = xs.length → ∀ n, k < n → ∀ (r : Val Y50), List.length (α := Val Y33) r.2 ≤ 12 →
    m137_l6 N d xs f g l K n (i : Int) r.1 r.2 = bif (lessC d l (xs.drop i) r).2 then K (lessC d l (xs.drop i) r).1.1 (lessC d l (xs.drop i) r).1.2 else some (((0 : Int), []), false, ())
  | 0, i, hi, n + 1, _, r, _ => by
    rw [m137_l6, bif_decN (by omega), List.drop_eq_nil_of_le (by omega)]
    rfl
  | k + 1, i, hi, n + 1, hn, r, hr => by
    have h1 : i < xs.length := by omega
    rw [m137_l6, bif_dec (by omega), wrap_succ h1 (by omega), drop_at h1]
    refine (t9137 N i d xs f g l _ h1 hx hc hl ha l.length 0 (by omega) N (by omega) r hr).trans ?_
    simp only [lessC]
    cases (lessK d l xs[i] l.length 0 r).2 with
    | false => rfl
    | true =>
      simp only [cond_true]
      exact t6137 N d xs f g l K hx hc hl hN ha k (i + 1) (by omega) n (by omega) _ (lessK_12 d l xs[i] _ _ r hr)
theorem e137 (r : Val Y50) (c : Val Y33) (h : less4V_pre r c) : ∃ N, m137 N r c = some ((less4V r c).1, (less4V r c).2, ()) := ⟨30, by
  obtain ⟨hr, hc, hd⟩ := h
  obtain ⟨_, hl, ho⟩ := reg_in hr
  obtain ⟨hL, hN⟩ := okL_cell hc
  rw [m137, chk_pos (show nrmV_pre c.1 c.2 from hL), chk_pos (show minN_pre _ from hN.1)]
  unfold less4V
  cases hm : (minN (nrmV c.1 c.2)).2 with
  | false => rfl
  | true =>
    have hn := minN_N hN hm
    generalize (minN (nrmV c.1 c.2)).1 = m at *
    obtain ⟨_, ml, mo⟩ := cell_in hn.1
    simp only [Bool.not_true, cond_false, cond_true]
    exact (t6137 30 r.1 r.2 0 m.1 m.2 _ hl (fun c hc => (ho c hc).1) ml (by omega) (fun x hx => (mo x hx).1) (List.length (α := Val Y33) r.2) 0 (by omega) 30 (by omega) (r.1, []) (by simp)).trans (lessC_K r.1 m.2 r.2 (r.1, []))⟩
theorem s137 : Sound Tryz.prog 137 g137 := sound_run (tt := tt) (Γ := Γ137) hT (ok_cons s143 (ok_cons s150 (ok_cons s178 (ok_cons s217 (ok_cons s218 ok_nil))))) hm (fn := Tryz.f137) Tryz.func137 (c := Tryz.f137.body.getD .skip) (by kernel_rfl) (by kernel_rfl) fun x hx => by
  obtain ⟨N, h⟩ := e137 x.1 x.2.1 hx
  exact ⟨T137 N, p137, noSem_ok _, tb137 N, (run137 N x.1 x.2.1).trans h⟩
end Go.T
