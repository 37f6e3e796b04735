/- Bounds of a normal cell: the reference's. -/
import Derived.Test.YthefcjjgchekiaaB13
set_option linter.unusedSimpArgs false
set_option linter.unusedVariables false
namespace Go.T
open Go Go.Proofs
set_option maxHeartbeats 4000000
set_option maxRecDepth 100000
theorem okR_of {r : Val Y64} (h : isRatio r = true) : okR r := .inl h
theorem narB_ok {b : Val Y66} {a : Val Y36} {v : Int} (hb : okBn b) (ha : okA a) : okBn (narB b a v) := by
  unfold narB
  by_cases hx : 0 < cfV v a
  · have hr := limit_ok (v := v) ha (by omega)
    rw [bif_dec hx]
    cases (!b.2.2.2.1 || lessR (makeR (-(a.2.1 : Int)) (cfV v a)) b.2.2.2.2.1 || (decide (makeR (-(a.2.1 : Int)) (cfV v a) = b.2.2.2.2.1) && a.2.2)) with
    | true => exact ⟨hb.1, okR_of hr, fun _ => hr⟩
    | false => exact hb
  · rw [bif_decN hx]
    by_cases hx2 : cfV v a < 0
    · have hr := limit_ok (v := v) ha (by omega)
      rw [bif_dec hx2]
      cases (!b.1 || lessR b.2.1 (makeR (-(a.2.1 : Int)) (cfV v a)) || (decide (makeR (-(a.2.1 : Int)) (cfV v a) = b.2.1) && a.2.2)) with
      | true => exact ⟨⟨okR_of hr, fun _ => hr⟩, hb.2⟩
      | false => exact hb
    · rw [bif_decN hx2]; exact hb
theorem noB_ok : okBn noB := ⟨⟨.inr rfl, fun h => by simp [noB] at h⟩, .inr rfl, fun h => by simp [noB] at h⟩
theorem foldB_ok {v : Int} : ∀ {l : List (Val Y36)} {b : Val Y66}, okBn b → (∀ a ∈ l, okA a) → okBn (l.foldl (fun b a => narB b a v) b)
  | [], _, hb, _ => hb
  | a :: r, b, hb, h => foldB_ok (l := r) (narB_ok hb (h a (by simp))) fun c hc => h c (by simp [hc])
abbrev KB := Bool → Int → Int → Bool → Bool → Int → Int → Bool → Bool → Option (Vals [i66])
def apB (K : KB) (b : Val Y66) : Option (Vals [i66]) := K b.1 b.2.1.1 b.2.1.2 b.2.2.1 b.2.2.2.1 b.2.2.2.2.1.1 b.2.2.2.2.1.2 b.2.2.2.2.2.1 b.2.2.2.2.2.2
theorem t51 (N : Nat) (d v : Int) (hv : 0 ≤ v ∧ v < d) (l : List (Val Y36)) (hl : l.length ≤ 16) (h : ∀ a ∈ l, okD d a ∧ hasVar a = true) (K : KB) : ∀ (k i : Nat), l.length - i = k → ∀ n, k < n → ∀ b : Val Y66, okBn b →
    apB (m51_l3 N v d l false 0 0 false false 0 0 false false K n i) b = apB K ((l.drop i).foldl (fun b a => narB b a v) b)
  | 0, i, hi, n + 1, _, b, _ => by
    unfold apB
    rw [m51_l3, bif_decN (by omega), List.drop_eq_nil_of_le (by omega)]
    rfl
  | k + 1, i, hi, n + 1, hn, b, hb => by
    have h1 : i < l.length := by omega
    obtain ⟨ha, hva⟩ := h _ (List.getElem_mem h1)
    have hn0 : ncon l[i] = false := by unfold ncon; rw [hva]; rfl
    have had := ha.2
    have hp : narB_pre b l[i] v := ⟨hb, ha.1, hv.1, by rw [had]; exact hv.2⟩
    rw [drop_at h1, List.foldl_cons]
    refine Eq.trans ?_ (t51 N d v hv l hl h K k (i + 1) (by omega) n (by omega) (narB b l[i] v) (narB_ok hb ha.1))
    unfold apB
    rw [m51_l3, bif_dec (by omega), chk_pos (by omega), getD_atI h1, chk_pos (show ncon_pre l[i] from ha.1), hn0, cond_false, chk_pos (by omega), wrap_succ h1 (by omega)]
    exact chk_pos hp
theorem noneC_at (d : Int) : hasVar ((List.replicate d.toNat (0 : Int), (1 : Int), false) : Val Y36) = false := by
  unfold hasVar
  rw [decide_eq_false_iff_not, ne_eq, Decidable.not_not]
  exact gL_zero.2 fun x hx => (List.mem_replicate.1 hx).2
theorem isNoneC_noneC {c : Val Y32} (h : c = noneC c.1) : isNoneC c = true := by
  rw [h]
  show (!hasVar ((List.replicate (c.1 : Int).toNat (0 : Int), (1 : Int), false) : Val Y36) && decide ((1 : Int) = 1) && !false) = true
  rw [noneC_at]; rfl
theorem isNoneC_var {c : Val Y32} (h : ∀ a ∈ (c.2 : List (Val Y36)), hasVar a = true) : isNoneC c = false := by
  unfold isNoneC
  split
  · rename_i a ha
    have := h a (by rw [ha]; simp)
    rw [this]; rfl
  · rfl
theorem e51 (c : Val Y32) (v : Int) (h : bnds_pre c v) : ∃ N, m51 N c v = some (bnds c v, ()) := ⟨List.length (α := Val Y36) c.2 + 1, by
  obtain ⟨hc, hn, hv⟩ := h
  obtain ⟨hd, hl, hok⟩ := cell_in hc
  rw [m51]
  unfold bnds
  rcases hn with hn | hn
  · rw [isNoneC_noneC hn]
    have e2 : (c.2 : List (Val Y36)) = [(List.replicate (c.1 : Int).toNat (0 : Int), (1 : Int), false)] := congrArg Prod.snd hn
    have ho : okA ((List.replicate (c.1 : Int).toNat (0 : Int), (1 : Int), false) : Val Y36) := (hok _ (by rw [e2]; simp)).1
    have hnc : ncon ((List.replicate (c.1 : Int).toNat (0 : Int), (1 : Int), false) : Val Y36) = true := by unfold ncon; rw [noneC_at]; rfl
    have e3 : List.length (α := Val Y36) c.2 = 1 := by rw [e2]; rfl
    have e4 : List.getD (α := Val Y36) c.2 (Int.toNat 0) (dflt Y36) = (List.replicate (c.1 : Int).toNat (0 : Int), (1 : Int), false) := by rw [e2]; rfl
    rw [m51_l3, bif_dec (by omega), chk_pos (by omega), e4, chk_pos (show ncon_pre _ from ho), hnc, cond_true, chk_pos (by omega)]
    rfl
  · rw [isNoneC_var hn]
    have t := t51 (List.length (α := Val Y36) c.2 + 1) c.1 v hv c.2 hl (fun a ha => ⟨hok a ha, hn a ha⟩)
    refine (t _ _ 0 rfl _ (Nat.lt_succ_self _) noB noB_ok).trans ?_
    rw [List.drop_zero]
    have hb : okBn (bndsL c v) := foldB_ok noB_ok fun a ha => (hok a ha).1
    rw [show List.foldl (fun (b : Val Y66) (a : Val Y36) => narB b a v) noB (c.2 : List (Val Y36)) = bndsL c v from rfl]
    generalize bndsL c v = b at hb
    obtain ⟨hl, l, lo, hh, g, ho, em⟩ := b
    unfold apB endB
    dsimp only
    have hl' : inRt l := okR_in hb.1.1
    have hg' : inRt g := okR_in hb.2.1
    have p : lessR_pre g l := ⟨hg', hl'⟩
    have eg : (((g.1 : Int), (g.2 : Int)) : Val Y64) = g := rfl
    have el : (((l.1 : Int), (l.2 : Int)) : Val Y64) = l := rfl
    rw [eg, el, chk_pos p]
    by_cases he : g = l
    · subst he
      cases hl <;> cases hh <;> cases lessR g g <;> cases lo <;> cases ho <;> simp [empB]
    · have hne : (decide ((g.1 : Int) = (l.1 : Int)) && decide ((g.2 : Int) = (l.2 : Int))) = false := by
        rw [Bool.eq_false_iff]
        intro h
        simp only [Bool.and_eq_true, decide_eq_true_eq] at h
        exact he (Prod.ext h.1 h.2)
      rw [hne, decide_eq_false he]
      cases hl <;> cases hh <;> cases lessR g l <;> cases lo <;> cases ho <;> rfl⟩
theorem s51 : Sound Try.prog 51 g51 := sound_run (tt := tt) (Γ := Γ51) hT (ok_cons s60 (ok_cons s61 (ok_cons s69 (ok_cons s70 ok_nil)))) hm (fn := Try.f51) Try.func51 (c := Try.f51.body.getD .skip) (by kernel_rfl) (by kernel_rfl) fun x hx => by
  obtain ⟨N, h⟩ := e51 x.1 x.2.1 hx
  exact ⟨T51 N, p51, noSem_ok _, tb51 N, (run51 N x.1 x.2.1).trans h⟩
end Go.T
