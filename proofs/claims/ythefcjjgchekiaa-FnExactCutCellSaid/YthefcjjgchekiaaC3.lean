/- The law of CutCell, shown. -/
import Derived.Test.YthefcjjgchekiaaC2
set_option linter.unusedSimpArgs false
set_option linter.unusedVariables false
namespace Go.T
open Go Go.Proofs
set_option maxHeartbeats 4000000
set_option maxRecDepth 100000
def smC (x : Val Y32) : Prop := List.length (α := Val Y36) x.2 ≤ 16 ∧ ∀ a ∈ (x.2 : List (Val Y36)), List.length (α := Int) a.1 ≤ 4
theorem smC_nil (d : Int) : smC ((d, []) : Val Y32) := ⟨Nat.zero_le _, fun a ha => by simp at ha⟩
theorem nrmL_mem {xs : List (Val Y36)} {x : Val Y36} (h : x ∈ nrmL xs) : x ∈ xs := by
  have go : ∀ (xs s : List Atm) {x : Atm}, x ∈ xs.foldl putA s → x ∈ s ∨ x ∈ xs := by
    intro xs
    induction xs with
    | nil => intro s x h; exact .inl h
    | cons b r ih =>
      intro s x h
      rcases ih (putA s b) h with h | h
      · rcases putA_mem h with rfl | h
        · exact .inr (by simp)
        · exact .inl h
      · exact .inr (by simp [h])
  rcases go xs [] h with h | h
  · simp at h
  · exact h
theorem nrmV_in {d : Int} {l : List (Val Y36)} (h : okL d l) : ∀ a ∈ ((nrmV d l).2 : List (Val Y36)), List.length (α := Int) a.1 ≤ 4 := by
  intro a ha
  unfold nrmV at ha
  cases hb : l.any badA with
  | true =>
    rw [hb] at ha
    have ha : a ∈ ([(List.replicate d.toNat (0 : Int), (1 : Int), false)] : List (Val Y36)) := ha
    simp only [List.mem_singleton] at ha
    subst ha
    have := h.1
    simp
    omega
  | false =>
    rw [hb] at ha
    have ha : a ∈ nrmL (l.filter hasVar) := ha
    have hm := (List.mem_filter.1 (nrmL_mem ha)).1
    exact (atom_in (h.2.2 a hm).1).1
theorem limV_sm {d : Int} {l : List (Val Y36)} (h : okL d l) : smC (limV d l).1 := by
  unfold limV
  by_cases c : (16 : Int) < (List.length (α := Val Y36) (nrmV d l).2 : Int)
  · rw [decide_eq_true c]; exact smC_nil 0
  · rw [decide_eq_false c]; exact ⟨by show List.length (α := Val Y36) (nrmV d l).2 ≤ 16; omega, nrmV_in h⟩
theorem meetV_sm (a b : Val Y32) : smC (meetV a b).1 := by
  unfold meetV
  cases ha : isCell a with
  | false => exact smC_nil 0
  | true =>
    cases hb : isCell b with
    | false => exact smC_nil 0
    | true =>
      by_cases h : (a.1 : Int) = (b.1 : Int)
      · rw [decide_eq_true h]; exact limV_sm (okL_meet ha hb h).1
      · rw [decide_eq_false h]; exact smC_nil 0
theorem cutV_sm (c : Val Y32) (a : Val Y36) : smC (cutV c a).1 ∧ smC (cutV c a).2.1 := by
  unfold cutV
  cases (negV a).2 && (meetV c ((List.length (α := Val (.int .i64)) a.1 : Int), [a])).2 && (meetV c ((List.length (α := Val (.int .i64)) a.1 : Int), [(negV a).1])).2 with
  | true => exact ⟨meetV_sm _ _, meetV_sm _ _⟩
  | false => exact ⟨smC_nil 0, smC_nil 0⟩
theorem e3 (x : Val Y24) (y : Val Y27) (h : law3_pre x y) : ∃ N, m3 N x y = some (law3 x y, ()) := ⟨0, by
  rw [m3, chk_pos (show sz_Cell_pre x 1048576 from ⟨h.1, by omega, by omega⟩)]
  by_cases c : sz_Cell x 1048576 < 0
  · rw [bif_dec c]; rfl
  rw [bif_decN c]
  have hsz : 0 ≤ szV Y24 x 1048576 := by have : ¬ szV Y24 x 1048576 < 0 := c; omega
  have hsl := (szV_le Y24 x 1048576 (by omega)).1
  have hb : Bd Y24 x := szV_Bd Y24 x 1048576 (by omega) (by omega) hsz
  have hcx := cntT_sz Y32 x 1048576 rfl (by omega) hsz
  rw [chk_pos (show sz_Atom_pre y (sz_Cell x 1048576) from ⟨h.2.1, hsz, hsl⟩)]
  generalize hr : sz_Cell x 1048576 = r at *
  have hr' : szV Y24 x 1048576 = r := hr
  by_cases c2 : sz_Atom y r < 0
  · rw [bif_dec c2]; rfl
  rw [bif_decN c2]
  have hr0 : 0 ≤ r := by omega
  have hr1 : r ≤ 1048576 := by omega
  have hsz2 : 0 ≤ szV Y27 y r := by have : ¬ szV Y27 y r < 0 := c2; omega
  have hy : Bd Y27 y := szV_Bd Y27 y r hr0 hr1 hsz2
  have hcy := cntT_sz Y36 y r rfl hr0 hsz2
  have hcx' : (cntT Y32 x : Int) ≤ 67108864 := by have : szV Y32 x 1048576 = r := hr; omega
  have hcy' : (cntT Y36 y : Int) ≤ 67108864 := by have : 0 ≤ szV Y36 y r := hsz2; omega
  have hk1 : mk_Cell_k x 1 = 1 + cntT Y32 x := mkT_k Y32 x 1 (by omega) (by omega)
  have hk2 : mk_Atom_k y (mk_Cell_k x 1) = mk_Cell_k x 1 + cntT Y36 y := mkT_k Y36 y _ (by omega) (by omega)
  have eX : ((((to_Cell x).1 : Int), ((to_Cell x).2 : List (Val Y36))) : Val Y32) = to_Cell x := rfl
  have eA : ((((to_Atom y).1 : List (Val (.int .i64))), (((to_Atom y).2).1 : Int), (((to_Atom y).2).2 : Bool)) : Val Y36) = to_Atom y := rfl
  rw [eX, eA]
  have hpc := cutV_sm (to_Cell x) (to_Atom y)
  have hpre : cutV_pre (to_Cell x) (to_Atom y) := ⟨hb.2.1, hy.1.1⟩
  generalize cutV (to_Cell x) (to_Atom y) = p at hpc ⊢
  obtain ⟨p, q, b⟩ := p
  have hp : smC p := hpc.1
  have hq : smC q := hpc.2
  obtain ⟨hpb, hpn⟩ := smallCell hp
  obtain ⟨hqb, hqn⟩ := smallCell hq
  have hK1 : mk_Cell_k p 1 = 1 + cntT Y32 p := mkT_k Y32 p 1 (by omega) (by omega)
  have hK2 : mk_Cell_k q (mk_Cell_k p 1) = mk_Cell_k p 1 + cntT Y32 q := mkT_k Y32 q _ (by omega) (by omega)
  have hv1 : held_Cell (((p.1 : Int), ((mk_Cell_v p 1).2 : List (Val Y36))) : Val Y32) 1 = mk_Cell_k p 1 := congrArg Prod.snd (mkT_idem Y32 p 1)
  have hh1 : held_Cell_pre (((p.1 : Int), ((mk_Cell_v p 1).2 : List (Val Y36))) : Val Y32) 1 := ⟨congrArg Prod.fst (mkT_idem Y32 p 1), Bd_mkT _ _ _ hpb, by omega, by
    have : cntT Y32 (mk_Cell_v p 1) = cntT Y32 p := cntT_mk _ _ _
    have e : cntT Y32 (((p.1 : Int), ((mk_Cell_v p 1).2 : List (Val Y36))) : Val Y32) = cntT Y32 (mk_Cell_v p 1) := rfl
    omega⟩
  generalize hKe : mk_Cell_k p 1 = K at *
  have hv2 : held_Cell (((q.1 : Int), ((mk_Cell_v q K).2 : List (Val Y36))) : Val Y32) K = mk_Cell_k q K := congrArg Prod.snd (mkT_idem Y32 q K)
  have hh2 : held_Cell_pre (((q.1 : Int), ((mk_Cell_v q K).2 : List (Val Y36))) : Val Y32) K := ⟨congrArg Prod.fst (mkT_idem Y32 q K), Bd_mkT _ _ _ hqb, by omega, by
    have : cntT Y32 (mk_Cell_v q K) = cntT Y32 q := cntT_mk _ _ _
    have e : cntT Y32 (((q.1 : Int), ((mk_Cell_v q K).2 : List (Val Y36))) : Val Y32) = cntT Y32 (mk_Cell_v q K) := rfl
    omega⟩
  have rf : ∀ z : Val Y32, eq_Cell z z = true := fun z => eqV_refl _ _
  have rfa : eq_Atom (to_Atom y) (to_Atom y) = true := eqV_refl _ _
  have ep : eq_Cell_pre p p := hpb
  have eq' : eq_Cell_pre q q := hqb
  have tx : to_Cell_pre x := hb
  have ty : to_Atom_pre y := hy
  have exx : eq_Cell_pre (to_Cell x) (to_Cell x) := hb
  have eyy : eq_Atom_pre (to_Atom y) (to_Atom y) := hy
  have m1 : mk_Cell_pre (to_Cell x) 1 := ⟨hb, by omega⟩
  have e1 : mk_Cell_k (to_Cell x) 1 = mk_Cell_k x 1 := rfl
  have e2 : mk_Atom_k (to_Atom y) (mk_Cell_k (to_Cell x) 1) = mk_Atom_k y (mk_Cell_k x 1) := rfl
  have m2 : mk_Atom_pre (to_Atom y) (mk_Cell_k (to_Cell x) 1) := ⟨hy, by omega⟩
  have m3 : mk_Cell_pre p 1 := ⟨hpb, by omega⟩
  have m4 : mk_Cell_pre q K := ⟨hqb, by omega⟩
  have n1 : ¬ mk_Atom_k (to_Atom y) (mk_Cell_k (to_Cell x) 1) < 0 := by omega
  have n2 : ¬ K < 0 := by omega
  have n3 : ¬ mk_Cell_k q K < 0 := by omega
  dsimp only
  simp only [hKe, hv1, hv2, chk_pos tx, chk_pos ty, chk_pos hpre, chk_pos ep, chk_pos eq', chk_pos exx, chk_pos eyy, chk_pos m1, chk_pos m2, chk_pos m3, chk_pos m4, chk_pos hh1, chk_pos hh2, rf, rfa, decide_eq_false n1, decide_eq_false n2, decide_eq_false n3, Bool.not_true, cond_false, beq_self_eq_true, decide_true]
  rfl⟩
theorem s3 : Sound Try.prog 3 g3 := sound_run (tt := tt) (Γ := Γ3) hT (ok_cons s6 (ok_cons s7 (ok_cons s8 (ok_cons s9 (ok_cons s10 (ok_cons s11 (ok_cons s12 (ok_cons s13 (ok_cons s16 ok_nil))))))))) hm (fn := Try.f3) Try.func3 (c := Try.f3.body.getD .skip) (by kernel_rfl) (by kernel_rfl) fun x hx => by
  obtain ⟨N, h⟩ := e3 x.1 x.2.1 hx
  exact ⟨T3 N, p3, markSem_ok (own_cons sm14 (own_cons sm15 own_nil)) hdr_nil, tb3 N, (run3 N x.1 x.2.1).trans h⟩
end Go.T
