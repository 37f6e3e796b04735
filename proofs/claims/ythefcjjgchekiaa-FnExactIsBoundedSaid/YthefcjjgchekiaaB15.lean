/- Bounds of a normal cell: the program's. -/
import Derived.Test.YthefcjjgchekiaaB14
set_option linter.unusedSimpArgs false
set_option linter.unusedVariables false
namespace Go.T
open Go Go.Proofs
set_option maxHeartbeats 4000000
set_option maxRecDepth 100000
abbrev KB8 := Bool → Int → Int → Bool → Bool → Int → Int → Bool → Option (Vals [i66])
def apB8 (K : KB8) (b : Val Y66) : Option (Vals [i66]) := K b.1 b.2.1.1 b.2.1.2 b.2.2.1 b.2.2.2.1 b.2.2.2.2.1.1 b.2.2.2.2.1.2 b.2.2.2.2.2.1
theorem narB_emp (b : Val Y66) (a : Val Y36) (v : Int) : (narB b a v).2.2.2.2.2.2 = b.2.2.2.2.2.2 := by
  unfold narB
  cases decide (0 < cfV v a) with
  | true => cases (!b.2.2.2.1 || lessR (makeR (-(a.2.1 : Int)) (cfV v a)) b.2.2.2.2.1 || (decide (makeR (-(a.2.1 : Int)) (cfV v a) = b.2.2.2.2.1) && a.2.2)) <;> rfl
  | false =>
    cases decide (cfV v a < 0) with
    | true => cases (!b.1 || lessR b.2.1 (makeR (-(a.2.1 : Int)) (cfV v a)) || (decide (makeR (-(a.2.1 : Int)) (cfV v a) = b.2.1) && a.2.2)) <;> rfl
    | false => rfl
theorem foldB_emp {v : Int} : ∀ (l : List (Val Y36)) (b : Val Y66), (l.foldl (fun b a => narB b a v) b).2.2.2.2.2.2 = b.2.2.2.2.2.2
  | [], _ => rfl
  | a :: r, b => (foldB_emp r (narB b a v)).trans (narB_emp b a v)
theorem narB_step (REC : KB8) {b : Val Y66} {a : Val Y36} {v : Int} (hb : okBn b) (ha : okA a) :
    (bif decide (cfV v a = 0) then apB8 REC b else chk (redR_pre (-(a.2.1 : Int)) (cfV v a)) (bif decide (0 < cfV v a) then (bif !b.2.2.2.1 then REC b.1 b.2.1.1 b.2.1.2 b.2.2.1 true (redR (-(a.2.1 : Int)) (cfV v a)).1 (redR (-(a.2.1 : Int)) (cfV v a)).2 a.2.2 else bif decide (cmpR (redR (-(a.2.1 : Int)) (cfV v a)) b.2.2.2.2.1 < 0) then REC b.1 b.2.1.1 b.2.1.2 b.2.2.1 true (redR (-(a.2.1 : Int)) (cfV v a)).1 (redR (-(a.2.1 : Int)) (cfV v a)).2 a.2.2 else bif decide (cmpR (redR (-(a.2.1 : Int)) (cfV v a)) b.2.2.2.2.1 = 0) then (bif a.2.2 then REC b.1 b.2.1.1 b.2.1.2 b.2.2.1 true (redR (-(a.2.1 : Int)) (cfV v a)).1 (redR (-(a.2.1 : Int)) (cfV v a)).2 a.2.2 else apB8 REC b) else apB8 REC b)
      else (bif !b.1 then REC true (redR (-(a.2.1 : Int)) (cfV v a)).1 (redR (-(a.2.1 : Int)) (cfV v a)).2 a.2.2 b.2.2.2.1 b.2.2.2.2.1.1 b.2.2.2.2.1.2 b.2.2.2.2.2.1 else bif decide (0 < cmpR (redR (-(a.2.1 : Int)) (cfV v a)) b.2.1) then REC true (redR (-(a.2.1 : Int)) (cfV v a)).1 (redR (-(a.2.1 : Int)) (cfV v a)).2 a.2.2 b.2.2.2.1 b.2.2.2.2.1.1 b.2.2.2.2.1.2 b.2.2.2.2.2.1 else bif decide (cmpR (redR (-(a.2.1 : Int)) (cfV v a)) b.2.1 = 0) then (bif a.2.2 then REC true (redR (-(a.2.1 : Int)) (cfV v a)).1 (redR (-(a.2.1 : Int)) (cfV v a)).2 a.2.2 b.2.2.2.1 b.2.2.2.2.1.1 b.2.2.2.2.1.2 b.2.2.2.2.2.1 else apB8 REC b) else apB8 REC b))) = apB8 REC (narB b a v) := by
  have hcc := okA_c ha
  have hxx := cfV_in (v := v) ha
  have hc' : -400000000 ≤ -(a.2.1 : Int) ∧ -(a.2.1 : Int) ≤ 400000000 := ⟨Int.neg_le_neg hcc.2, by have := Int.neg_le_neg hcc.1; exact this⟩
  have hpre : redR_pre (-(a.2.1 : Int)) (cfV v a) := ⟨neg_inI (atom_in ha).2.1, by unfold inI; omega⟩
  have hlim := fun h0 => limit_ok (v := v) ha h0
  have hmk : makeR (-(a.2.1 : Int)) (cfV v a) = redR (-(a.2.1 : Int)) (cfV v a) := makeR_redR hc' hxx
  rw [chk_pos hpre]
  unfold narB
  rw [hmk] at hlim ⊢
  generalize cfV v a = x at *
  generalize redR (-(a.2.1 : Int)) x = r at *
  obtain ⟨hl, l, lo, hh, g, ho, em⟩ := b
  by_cases h0 : x = 0
  · subst h0; rfl
  have hr := hlim h0
  rw [bif_decN h0]
  by_cases hx : 0 < x
  · rw [bif_dec hx, bif_dec hx]
    cases hh with
    | false => rfl
    | true =>
      have hg : isRatio g = true := hb.2.2 rfl
      dsimp only
      rw [cmpR_lt hr hg]
      by_cases he : r = g
      · subst he
        rw [bif_dec ((cmpR_eq hr hr).2 rfl)]
        cases lessR r r <;> cases a.2.2 <;> simp [apB8]
      · rw [bif_decN (fun h => he ((cmpR_eq hr hg).1 h)), decide_eq_false he]
        cases lessR r g <;> rfl
  · rw [bif_decN hx, bif_decN hx, bif_dec (show x < 0 by omega)]
    cases hl with
    | false => rfl
    | true =>
      have hg : isRatio l = true := hb.1.2 rfl
      dsimp only
      rw [cmpR_gt hr hg]
      by_cases he : r = l
      · subst he
        rw [bif_dec ((cmpR_eq hr hr).2 rfl)]
        cases lessR r r <;> cases a.2.2 <;> simp [apB8]
      · rw [bif_decN (fun h => he ((cmpR_eq hr hg).1 h)), decide_eq_false he]
        cases lessR l r <;> rfl
theorem t55 (N : Nat) (d v : Int) (hv : 0 ≤ v ∧ v < d) (l : List (Val Y36)) (hl : l.length ≤ 16) (h : ∀ a ∈ l, okD d a) (K : KB8) : ∀ (k i : Nat), l.length - i = k → ∀ n, k < n → ∀ b : Val Y66, okBn b →
    apB8 (m55_l3 N v l l.length false 0 0 false false 0 0 false false false K n i) b = apB8 K ((l.drop i).foldl (fun b a => narB b a v) b)
  | 0, i, hi, n + 1, _, b, _ => by
    unfold apB8
    rw [m55_l3, bif_decN (by omega), List.drop_eq_nil_of_le (by omega)]
    rfl
  | k + 1, i, hi, n + 1, hn, b, hb => by
    have h1 : i < l.length := by omega
    have ha := h _ (List.getElem_mem h1)
    have had := ha.2
    rw [drop_at h1, List.foldl_cons]
    refine Eq.trans ?_ (t55 N d v hv l hl h K k (i + 1) (by omega) n (by omega) (narB b l[i] v) (narB_ok hb ha.1))
    rw [← narB_step _ hb ha.1]
    have hc : inI l[i].2.1 := (atom_in ha.1).2.1
    conv => lhs; unfold apB8
    rw [m55_l3, bif_dec (by omega), chk_pos (by omega), getD_atI h1, chk_pos ⟨hv.1, by rw [show (List.length (α := Val (.int .i64)) l[i].1 : Int) = d from had]; exact hv.2⟩, cfV_eq v l[i], neg_in hc, wrap_succ h1 (by omega)]
    rfl
theorem e55 (c : Val Y32) (v : Int) (h : bndsL_pre c v) : ∃ N, m55 N c v = some (bndsL c v, ()) := ⟨List.length (α := Val Y36) c.2 + 1, by
  obtain ⟨hc, hv⟩ := h
  obtain ⟨hd, hl, hok⟩ := cell_in hc
  rw [m55]
  have t := t55 (List.length (α := Val Y36) c.2 + 1) c.1 v hv c.2 hl hok
  refine (t _ _ 0 rfl _ (Nat.lt_succ_self _) noB noB_ok).trans ?_
  rw [List.drop_zero]
  have he : (bndsL c v).2.2.2.2.2.2 = false := foldB_emp _ noB
  rw [show List.foldl (fun (b : Val Y66) (a : Val Y36) => narB b a v) noB (c.2 : List (Val Y36)) = bndsL c v from rfl]
  generalize bndsL c v = b at he
  obtain ⟨hl, l, lo, hh, g, ho, em⟩ := b
  have he : em = false := he
  subst he
  rfl⟩
theorem s55 : Sound Try.prog 55 g55 := sound_run (tt := tt) (Γ := Γ55) hT (ok_cons s56 (ok_cons s78 ok_nil)) hm (fn := Try.f55) Try.func55 (c := Try.f55.body.getD .skip) (by kernel_rfl) (by kernel_rfl) fun x hx => by
  obtain ⟨N, h⟩ := e55 x.1 x.2.1 hx
  exact ⟨T55 N, p55, noSem_ok _, tb55 N, (run55 N x.1 x.2.1).trans h⟩
theorem e54 (c : Val Y32) (h : isNoneC_pre c) : ∃ N, m54 N c = some (isNoneC c, ()) := ⟨0, by
  obtain ⟨hd, hl, hok⟩ := cell_in h
  rw [m54]
  unfold isNoneC
  obtain ⟨d, l⟩ := c
  match l with
  | [] => rfl
  | [a] =>
    have ha : okA a := (hok a (by simp)).1
    have e0 : List.getD (α := Val Y36) ((d, [a]) : Val Y32).2 (Int.toNat 0) (dflt Y36) = a := rfl
    have e1 : List.length (α := Val Y36) ((d, [a]) : Val Y32).2 = 1 := rfl
    rw [e0, e1, bif_dec (by omega), chk_pos (by omega), chk_pos (show hasVar_pre a from ha)]
    show _ = some (!hasVar a && decide ((a.2.1 : Int) = 1) && !a.2.2, ())
    cases hasVar a with
    | true => rfl
    | false =>
      simp only [Bool.not_false, cond_true, Bool.true_and]
      rw [chk_pos (by omega), chk_pos (by omega)]
      cases decide ((a.2.1 : Int) = 1) <;> rfl
  | a :: b :: r =>
    rw [bif_decN (by simp; omega)]⟩
theorem s54 : Sound Try.prog 54 g54 := sound_run (tt := tt) (Γ := Γ54) hT (ok_cons s71 ok_nil) hm (fn := Try.f54) Try.func54 (c := Try.f54.body.getD .skip) (by kernel_rfl) (by kernel_rfl) fun x hx => by
  obtain ⟨N, h⟩ := e54 x.1 hx
  exact ⟨T54 N, p54, noSem_ok _, tb54 N, (run54 N x.1).trans h⟩
end Go.T
