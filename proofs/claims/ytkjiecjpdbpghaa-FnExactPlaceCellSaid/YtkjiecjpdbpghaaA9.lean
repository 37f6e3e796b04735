/- The law of PlaceCell. -/
import Derived.Test.YtkjiecjpdbpghaaA4
import Derived.Test.YtkjiecjpdbpghaaA7
import Derived.Test.YtkjiecjpdbpghaaA8
set_option linter.unusedSimpArgs false
set_option linter.unusedVariables false
namespace Go.T
open Go Go.Proofs
set_option maxHeartbeats 4000000
set_option maxRecDepth 100000
theorem mkAtom_ok {co : List (Val (.int .i64))} {k : Int} {s : Bool} : List.length (α := Int) (mkAtom co k s).1.1 ≤ 4 := by
  unfold mkAtom mkAtomG
  generalize max 1 (gL k.natAbs co) = g
  cases h : isAtom (List.map (α := Int) (fun x => x.tdiv (g : Int)) co, k.tdiv (g : Int), s) with
  | true => exact (atom_in h).1
  | false => exact Nat.zero_le _
theorem placeAtoms_ok (vars : List Int) : ∀ (xs s l : List (Val Y106)), placeAtoms vars xs s = some l → (∀ a ∈ s, List.length (α := Int) a.1 ≤ 4) → l.length ≤ s.length + xs.length ∧ ∀ a ∈ l, List.length (α := Int) a.1 ≤ 4
  | [], s, l, h, hs => by
    simp only [placeAtoms, Option.some.injEq] at h
    subst h
    exact ⟨by simp, hs⟩
  | a :: xs, s, l, h, hs => by
    simp only [placeAtoms] at h
    split at h
    · simp at h
    · rename_i co hp
      cases hm : (mkAtom co a.2.1 a.2.2).2 with
      | false => rw [hm] at h; simp at h
      | true =>
        rw [hm] at h
        simp only [cond_true] at h
        obtain ⟨h1, h2⟩ := placeAtoms_ok vars xs _ l h (fun b hb => by
          rcases List.mem_append.1 hb with hb | hb
          · exact hs b hb
          · simp only [List.mem_singleton] at hb; subst hb; exact mkAtom_ok)
        exact ⟨by simp at h1 ⊢; omega, h2⟩
theorem placeCell_ok (c : Val Y36) (vars : List (Val (.int .i64))) : List.length (α := Val Y106) (placeCell c vars).1.2 ≤ 16 ∧ ∀ a ∈ ((placeCell c vars).1.2 : List (Val Y106)), List.length (α := Int) a.1 ≤ 4 := by
  unfold placeCell
  cases hc : isCell c with
  | false => exact ⟨Nat.zero_le _, fun a ha => by simp at ha⟩
  | true =>
    cases decide ((vars.length : Int) = (c.1 : Int)) with
    | false => exact ⟨Nat.zero_le _, fun a ha => by simp at ha⟩
    | true =>
      have h3 := (cell_in hc).2.1
      simp only [Bool.and_self, cond_true]
      cases hp : placeAtoms vars c.2 [] with
      | none => exact ⟨Nat.zero_le _, fun a ha => by simp at ha⟩
      | some l =>
        obtain ⟨h1, h2⟩ := placeAtoms_ok vars _ _ _ hp (by simp)
        exact ⟨by simp at h1; exact Nat.le_trans h1 h3, h2⟩
theorem smallCell {x : Val Y36} (h : List.length (α := Val Y106) x.2 ≤ 16 ∧ ∀ a ∈ (x.2 : List (Val Y106)), List.length (α := Int) a.1 ≤ 4) : Bd Y36 x ∧ cntT Y36 x ≤ 96 := by
  refine ⟨⟨trivial, Nat.le_trans h.1 (by decide), fun a ha => ⟨⟨Nat.le_trans (h.2 a ha) (by decide), fun _ _ => trivial⟩, trivial, trivial⟩⟩, ?_⟩
  have e : cntT Y36 x = 0 + sumL (cntE Y106) x.2 := rfl
  have := sum_le (f := cntE Y106) (c := 6) x.2 fun a ha => by
    have e : cntE Y106 a = sumL (cntE (.int .i64)) a.1 + (1 + 1) := rfl
    rw [e, sum_int]
    have := h.2 a ha
    omega
  rw [e]
  have h1 := h.1
  have : List.length (α := Val Y106) x.2 * 6 ≤ 16 * 6 := Nat.mul_le_mul_right _ h1
  omega
-- laws.FnExactPlaceCell
noncomputable def m4 (N : Nat) (v0 : Val Y31) (v1 : List (Val (.int .i64))) : Option (Vals [i4]) := bif (decide ((1048576 : Int) < (v1.length : Int))) then (some (true, ())) else (chk (sz_Cell_pre v0 (1048576 : Int)) (bif (decide (((sz_Cell v0 (1048576 : Int)) : Int) < (0 : Int))) then (some (true, ())) else (chk (to_Cell_pre v0) (chk (to_IntS_pre v1) (chk (placeCell_pre (((to_Cell v0).1 : Int), ((to_Cell v0).2 : List (Val Y106))) ((to_IntS v1) : List (Val (.int .i64)))) (chk (to_Cell_pre v0) (chk (to_IntS_pre v1) (chk (eq_Cell_pre ((((placeCell (((to_Cell v0).1 : Int), ((to_Cell v0).2 : List (Val Y106))) ((to_IntS v1) : List (Val (.int .i64)))).1).1 : Int), (((placeCell (((to_Cell v0).1 : Int), ((to_Cell v0).2 : List (Val Y106))) ((to_IntS v1) : List (Val (.int .i64)))).1).2 : List (Val Y106))) ((((placeCell (((to_Cell v0).1 : Int), ((to_Cell v0).2 : List (Val Y106))) ((to_IntS v1) : List (Val (.int .i64)))).1).1 : Int), (((placeCell (((to_Cell v0).1 : Int), ((to_Cell v0).2 : List (Val Y106))) ((to_IntS v1) : List (Val (.int .i64)))).1).2 : List (Val Y106)))) (bif (!((eq_Cell ((((placeCell (((to_Cell v0).1 : Int), ((to_Cell v0).2 : List (Val Y106))) ((to_IntS v1) : List (Val (.int .i64)))).1).1 : Int), (((placeCell (((to_Cell v0).1 : Int), ((to_Cell v0).2 : List (Val Y106))) ((to_IntS v1) : List (Val (.int .i64)))).1).2 : List (Val Y106))) ((((placeCell (((to_Cell v0).1 : Int), ((to_Cell v0).2 : List (Val Y106))) ((to_IntS v1) : List (Val (.int .i64)))).1).1 : Int), (((placeCell (((to_Cell v0).1 : Int), ((to_Cell v0).2 : List (Val Y106))) ((to_IntS v1) : List (Val (.int .i64)))).1).2 : List (Val Y106)))) : Bool)) then (some (false, ())) else (bif (!(((placeCell (((to_Cell v0).1 : Int), ((to_Cell v0).2 : List (Val Y106))) ((to_IntS v1) : List (Val (.int .i64)))).2 : Bool) == ((placeCell (((to_Cell v0).1 : Int), ((to_Cell v0).2 : List (Val Y106))) ((to_IntS v1) : List (Val (.int .i64)))).2 : Bool))) then (some (false, ())) else (chk (to_Cell_pre v0) (chk (eq_Cell_pre (((to_Cell v0).1 : Int), ((to_Cell v0).2 : List (Val Y106))) (((to_Cell v0).1 : Int), ((to_Cell v0).2 : List (Val Y106)))) (bif (!((eq_Cell (((to_Cell v0).1 : Int), ((to_Cell v0).2 : List (Val Y106))) (((to_Cell v0).1 : Int), ((to_Cell v0).2 : List (Val Y106)))) : Bool)) then (some (false, ())) else (chk (to_IntS_pre v1) (chk (eq_IntS_pre ((to_IntS v1) : List (Val (.int .i64))) ((to_IntS v1) : List (Val (.int .i64)))) (bif (!((eq_IntS ((to_IntS v1) : List (Val (.int .i64))) ((to_IntS v1) : List (Val (.int .i64)))) : Bool)) then (some (false, ())) else (chk (mk_Cell_pre (((to_Cell v0).1 : Int), ((to_Cell v0).2 : List (Val Y106))) (1 : Int)) (chk (mk_IntS_pre ((to_IntS v1) : List (Val (.int .i64))) (mk_Cell_k (((to_Cell v0).1 : Int), ((to_Cell v0).2 : List (Val Y106))) (1 : Int))) (bif (decide ((mk_IntS_k ((to_IntS v1) : List (Val (.int .i64))) (mk_Cell_k (((to_Cell v0).1 : Int), ((to_Cell v0).2 : List (Val Y106))) (1 : Int))) < (0 : Int))) then (some (false, ())) else (chk (eq_Cell_pre ((((placeCell (((to_Cell v0).1 : Int), ((to_Cell v0).2 : List (Val Y106))) ((to_IntS v1) : List (Val (.int .i64)))).1).1 : Int), (((placeCell (((to_Cell v0).1 : Int), ((to_Cell v0).2 : List (Val Y106))) ((to_IntS v1) : List (Val (.int .i64)))).1).2 : List (Val Y106))) ((((placeCell (((to_Cell v0).1 : Int), ((to_Cell v0).2 : List (Val Y106))) ((to_IntS v1) : List (Val (.int .i64)))).1).1 : Int), (((placeCell (((to_Cell v0).1 : Int), ((to_Cell v0).2 : List (Val Y106))) ((to_IntS v1) : List (Val (.int .i64)))).1).2 : List (Val Y106)))) (bif (!((eq_Cell ((((placeCell (((to_Cell v0).1 : Int), ((to_Cell v0).2 : List (Val Y106))) ((to_IntS v1) : List (Val (.int .i64)))).1).1 : Int), (((placeCell (((to_Cell v0).1 : Int), ((to_Cell v0).2 : List (Val Y106))) ((to_IntS v1) : List (Val (.int .i64)))).1).2 : List (Val Y106))) ((((placeCell (((to_Cell v0).1 : Int), ((to_Cell v0).2 : List (Val Y106))) ((to_IntS v1) : List (Val (.int .i64)))).1).1 : Int), (((placeCell (((to_Cell v0).1 : Int), ((to_Cell v0).2 : List (Val Y106))) ((to_IntS v1) : List (Val (.int .i64)))).1).2 : List (Val Y106)))) : Bool)) then (some (false, ())) else (bif (!(((placeCell (((to_Cell v0).1 : Int), ((to_Cell v0).2 : List (Val Y106))) ((to_IntS v1) : List (Val (.int .i64)))).2 : Bool) == ((placeCell (((to_Cell v0).1 : Int), ((to_Cell v0).2 : List (Val Y106))) ((to_IntS v1) : List (Val (.int .i64)))).2 : Bool))) then (some (false, ())) else (chk (mk_Cell_pre ((((placeCell (((to_Cell v0).1 : Int), ((to_Cell v0).2 : List (Val Y106))) ((to_IntS v1) : List (Val (.int .i64)))).1).1 : Int), (((placeCell (((to_Cell v0).1 : Int), ((to_Cell v0).2 : List (Val Y106))) ((to_IntS v1) : List (Val (.int .i64)))).1).2 : List (Val Y106))) (1 : Int)) (chk (held_Cell_pre ((((placeCell (((to_Cell v0).1 : Int), ((to_Cell v0).2 : List (Val Y106))) ((to_IntS v1) : List (Val (.int .i64)))).1).1 : Int), ((mk_Cell_v ((((placeCell (((to_Cell v0).1 : Int), ((to_Cell v0).2 : List (Val Y106))) ((to_IntS v1) : List (Val (.int .i64)))).1).1 : Int), (((placeCell (((to_Cell v0).1 : Int), ((to_Cell v0).2 : List (Val Y106))) ((to_IntS v1) : List (Val (.int .i64)))).1).2 : List (Val Y106))) (1 : Int)).2 : List (Val Y106))) (1 : Int)) (bif (decide (((held_Cell ((((placeCell (((to_Cell v0).1 : Int), ((to_Cell v0).2 : List (Val Y106))) ((to_IntS v1) : List (Val (.int .i64)))).1).1 : Int), ((mk_Cell_v ((((placeCell (((to_Cell v0).1 : Int), ((to_Cell v0).2 : List (Val Y106))) ((to_IntS v1) : List (Val (.int .i64)))).1).1 : Int), (((placeCell (((to_Cell v0).1 : Int), ((to_Cell v0).2 : List (Val Y106))) ((to_IntS v1) : List (Val (.int .i64)))).1).2 : List (Val Y106))) (1 : Int)).2 : List (Val Y106))) (1 : Int)) : Int) < (0 : Int))) then (some (false, ())) else (bif (!(decide (((held_Cell ((((placeCell (((to_Cell v0).1 : Int), ((to_Cell v0).2 : List (Val Y106))) ((to_IntS v1) : List (Val (.int .i64)))).1).1 : Int), ((mk_Cell_v ((((placeCell (((to_Cell v0).1 : Int), ((to_Cell v0).2 : List (Val Y106))) ((to_IntS v1) : List (Val (.int .i64)))).1).1 : Int), (((placeCell (((to_Cell v0).1 : Int), ((to_Cell v0).2 : List (Val Y106))) ((to_IntS v1) : List (Val (.int .i64)))).1).2 : List (Val Y106))) (1 : Int)).2 : List (Val Y106))) (1 : Int)) : Int) = (mk_Cell_k ((((placeCell (((to_Cell v0).1 : Int), ((to_Cell v0).2 : List (Val Y106))) ((to_IntS v1) : List (Val (.int .i64)))).1).1 : Int), (((placeCell (((to_Cell v0).1 : Int), ((to_Cell v0).2 : List (Val Y106))) ((to_IntS v1) : List (Val (.int .i64)))).1).2 : List (Val Y106))) (1 : Int))))) then (some (false, ())) else (chk (to_Cell_pre v0) (chk (to_IntS_pre v1) (chk (eq_Cell_pre ((((placeCell (((to_Cell v0).1 : Int), ((to_Cell v0).2 : List (Val Y106))) ((to_IntS v1) : List (Val (.int .i64)))).1).1 : Int), (((placeCell (((to_Cell v0).1 : Int), ((to_Cell v0).2 : List (Val Y106))) ((to_IntS v1) : List (Val (.int .i64)))).1).2 : List (Val Y106))) ((((placeCell (((to_Cell v0).1 : Int), ((to_Cell v0).2 : List (Val Y106))) ((to_IntS v1) : List (Val (.int .i64)))).1).1 : Int), (((placeCell (((to_Cell v0).1 : Int), ((to_Cell v0).2 : List (Val Y106))) ((to_IntS v1) : List (Val (.int .i64)))).1).2 : List (Val Y106)))) (bif (!((eq_Cell ((((placeCell (((to_Cell v0).1 : Int), ((to_Cell v0).2 : List (Val Y106))) ((to_IntS v1) : List (Val (.int .i64)))).1).1 : Int), (((placeCell (((to_Cell v0).1 : Int), ((to_Cell v0).2 : List (Val Y106))) ((to_IntS v1) : List (Val (.int .i64)))).1).2 : List (Val Y106))) ((((placeCell (((to_Cell v0).1 : Int), ((to_Cell v0).2 : List (Val Y106))) ((to_IntS v1) : List (Val (.int .i64)))).1).1 : Int), (((placeCell (((to_Cell v0).1 : Int), ((to_Cell v0).2 : List (Val Y106))) ((to_IntS v1) : List (Val (.int .i64)))).1).2 : List (Val Y106)))) : Bool)) then (some (false, ())) else (bif (!(((placeCell (((to_Cell v0).1 : Int), ((to_Cell v0).2 : List (Val Y106))) ((to_IntS v1) : List (Val (.int .i64)))).2 : Bool) == ((placeCell (((to_Cell v0).1 : Int), ((to_Cell v0).2 : List (Val Y106))) ((to_IntS v1) : List (Val (.int .i64)))).2 : Bool))) then (some (false, ())) else (chk (held_Cell_pre ((((placeCell (((to_Cell v0).1 : Int), ((to_Cell v0).2 : List (Val Y106))) ((to_IntS v1) : List (Val (.int .i64)))).1).1 : Int), ((mk_Cell_v ((((placeCell (((to_Cell v0).1 : Int), ((to_Cell v0).2 : List (Val Y106))) ((to_IntS v1) : List (Val (.int .i64)))).1).1 : Int), (((placeCell (((to_Cell v0).1 : Int), ((to_Cell v0).2 : List (Val Y106))) ((to_IntS v1) : List (Val (.int .i64)))).1).2 : List (Val Y106))) (1 : Int)).2 : List (Val Y106))) (1 : Int)) (bif (decide (((held_Cell ((((placeCell (((to_Cell v0).1 : Int), ((to_Cell v0).2 : List (Val Y106))) ((to_IntS v1) : List (Val (.int .i64)))).1).1 : Int), ((mk_Cell_v ((((placeCell (((to_Cell v0).1 : Int), ((to_Cell v0).2 : List (Val Y106))) ((to_IntS v1) : List (Val (.int .i64)))).1).1 : Int), (((placeCell (((to_Cell v0).1 : Int), ((to_Cell v0).2 : List (Val Y106))) ((to_IntS v1) : List (Val (.int .i64)))).1).2 : List (Val Y106))) (1 : Int)).2 : List (Val Y106))) (1 : Int)) : Int) < (0 : Int))) then (some (false, ())) else (bif (!(decide (((held_Cell ((((placeCell (((to_Cell v0).1 : Int), ((to_Cell v0).2 : List (Val Y106))) ((to_IntS v1) : List (Val (.int .i64)))).1).1 : Int), ((mk_Cell_v ((((placeCell (((to_Cell v0).1 : Int), ((to_Cell v0).2 : List (Val Y106))) ((to_IntS v1) : List (Val (.int .i64)))).1).1 : Int), (((placeCell (((to_Cell v0).1 : Int), ((to_Cell v0).2 : List (Val Y106))) ((to_IntS v1) : List (Val (.int .i64)))).1).2 : List (Val Y106))) (1 : Int)).2 : List (Val Y106))) (1 : Int)) : Int) = (mk_Cell_k ((((placeCell (((to_Cell v0).1 : Int), ((to_Cell v0).2 : List (Val Y106))) ((to_IntS v1) : List (Val (.int .i64)))).1).1 : Int), (((placeCell (((to_Cell v0).1 : Int), ((to_Cell v0).2 : List (Val Y106))) ((to_IntS v1) : List (Val (.int .i64)))).1).2 : List (Val Y106))) (1 : Int))))) then (some (false, ())) else (some (true, ()))))))))))))))))))))))))))))))))))))
def Γ4 : Gam := [(18, g18), (19, g19), (20, g20), (21, g21), (22, g22), (23, g23), (24, g24), (27, g27)]
theorem Γ4_18 : Gam.get Γ4 18 = some g18 := rfl
theorem Γ4_19 : Gam.get Γ4 19 = some g19 := rfl
theorem Γ4_20 : Gam.get Γ4 20 = some g20 := rfl
theorem Γ4_21 : Gam.get Γ4 21 = some g21 := rfl
theorem Γ4_22 : Gam.get Γ4 22 = some g22 := rfl
theorem Γ4_23 : Gam.get Γ4 23 = some g23 := rfl
theorem Γ4_24 : Gam.get Γ4 24 = some g24 := rfl
theorem Γ4_27 : Gam.get Γ4 27 = some g27 := rfl
theorem Γ4_25 : Gam.get Γ4 25 = none := rfl
theorem Γ4_26 : Gam.get Γ4 26 = none := rfl
def sem4 : Sem := markSem [(25, gm25), (26, gm26.gm)] []
def tr4 : Nat → Tree := fun i => if i = 13 then .quiet 1 (.alt 0 (.alt 2 (.alt 3 (.quiet 4 .done) .stop) .stop) (.alt 2 (.quiet 0 (.alt 3 (.quiet 4 .done) .stop)) .stop)) else .done
def lp4 : Nat → Nm := fun _ => ⟨[], []⟩
def ex4 : Nat → Option Nm := fun _ => none
def rg4 : Nat → Option Nm := fun _ => none
theorem p4 : plansOk tr4 (Try.f4.body.getD .skip) = true := by kernel_rfl
def T4 (N : Nat) : Tab := { tr := tr4, lp := lp4, ex := ex4, rg := rg4, fuel := N, sem := sem4 }
theorem T4_pins (N : Nat) : (T4 N).pins = false := rfl
theorem T4_sem (N : Nat) : (T4 N).sem = sem4 := rfl
theorem T4_tr (N i : Nat) : (T4 N).tr i = tr4 i := rfl
theorem T4_lp (N i : Nat) : (T4 N).lp i = lp4 i := rfl
theorem T4_ex (N i : Nat) : (T4 N).ex i = ex4 i := rfl
theorem T4_rg (N i : Nat) : (T4 N).rg i = rg4 i := rfl
theorem T4_fuel (N : Nat) : (T4 N).fuel = N := rfl
theorem run4 (N : Nat) (v0 : Val Y31) (v1 : List (Val (.int .i64))) : runT tt Γ4 (T4 N) (Try.f4.body.getD .skip) (retR tt true [i4] [.tmp 4]) (entryP [i31, i32] 117 (v0, v1, ())) = m4 N v0 v1 := by
  rw [m4]; unfold Try.f4
  simp (maxSteps := 10000000) -implicitDefEqProofs [T4_tr, tr4, T4_lp, lp4, T4_ex, ex4, T4_rg, rg4, T4_fuel, T4_pins, T4_sem, sem4, semR', Γ4_25, Γ4_26, gm25, gm26, Γ4_18, Γ4_19, Γ4_20, Γ4_21, Γ4_22, Γ4_23, Γ4_24, Γ4_27, g18, g19, g20, g21, g22, g23, g24, g27]
  try rfl
def law4 (_ : Val Y31) (_ : List (Val (.int .i64))) : Bool := true
def law4_pre (x0 : Val Y31) (x1 : List (Val (.int .i64))) : Prop := Sms [i31, i32] (x0, x1, ())
def g4 : G := { ps := [i31, i32], rs := [i4], dp := true, pre := fun x => law4_pre x.1 x.2.1, fn := fun x => (law4 x.1 x.2.1, ()) }
theorem e4 (x : Val Y31) (y : List (Val (.int .i64))) (h : law4_pre x y) : ∃ N, m4 N x y = some (law4 x y, ()) := ⟨0, by
  rw [m4]
  by_cases cy : (1048576 : Int) < (y.length : Int)
  · rw [bif_dec cy]; rfl
  rw [bif_decN cy, chk_pos (show sz_Cell_pre x 1048576 from ⟨h.1, by omega, by omega⟩)]
  by_cases c : sz_Cell x 1048576 < 0
  · rw [bif_dec c]; rfl
  have hsz : 0 ≤ szV Y31 x 1048576 := by have : ¬ szV Y31 x 1048576 < 0 := c; omega
  have hb : Bd Y31 x := szV_Bd Y31 x 1048576 (by omega) (by omega) hsz
  have hy : Bd (.slice 3 (.int .i64)) y := ⟨by omega, fun _ _ => trivial⟩
  have hcx := cntT_sz Y36 x 1048576 rfl (by omega) hsz
  have hcy : cntT (.slice 3 (.int .i64)) y = y.length := sum_int y
  have hk1 : mk_Cell_k x 1 = 1 + cntT Y36 x := mkT_k Y36 x 1 (by omega) (by have : 0 ≤ szV Y36 x 1048576 := hsz; omega)
  have hk2 : mk_IntS_k y (mk_Cell_k x 1) = mk_Cell_k x 1 + cntT (.slice 3 (.int .i64)) y := mkT_k (.slice 3 (.int .i64)) y _ (by omega) (by have : 0 ≤ szV Y36 x 1048576 := hsz; omega)
  generalize hp : placeCell (to_Cell x) (to_IntS y) = p
  obtain ⟨hpb, hpc⟩ := smallCell (hp ▸ placeCell_ok (to_Cell x) (to_IntS y))
  have hh : held_Cell_pre (mk_Cell_v p.1 1) 1 := ⟨congrArg Prod.fst (mkT_idem Y36 p.1 1), Bd_mkT _ _ _ hpb, by omega, by
    have : cntT Y36 (mk_Cell_v p.1 1) = cntT Y36 p.1 := cntT_mk _ _ _
    omega⟩
  have hv : held_Cell (mk_Cell_v p.1 1) 1 = mk_Cell_k p.1 1 := congrArg Prod.snd (mkT_idem Y36 p.1 1)
  have hk3 : mk_Cell_k p.1 1 = 1 + cntT Y36 p.1 := mkT_k Y36 p.1 1 (by omega) (by omega)
  have rf : ∀ z : Val Y36, eq_Cell z z = true := fun z => eqV_refl _ _
  have rfy : eq_IntS (to_IntS y) (to_IntS y) = true := eqV_refl _ _
  have ep : eq_Cell_pre p.1 p.1 := hpb
  have tx : to_Cell_pre x := hb
  have ty : to_IntS_pre y := hy
  have hx0 : 0 ≤ mk_IntS_k (to_IntS y) (mk_Cell_k (to_Cell x) 1) := by
    have e : mk_IntS_k (to_IntS y) (mk_Cell_k (to_Cell x) 1) = mk_IntS_k y (mk_Cell_k x 1) := rfl
    omega
  have hh' : held_Cell_pre (p.1.1, (mk_Cell_v p.1 1).2) 1 := hh
  have hv' : held_Cell (p.1.1, (mk_Cell_v p.1 1).2) 1 = mk_Cell_k p.1 1 := hv
  have hv0 : ¬ held_Cell (p.1.1, (mk_Cell_v p.1 1).2) 1 < 0 := by omega
  rw [bif_decN c, chk_pos tx, chk_pos ty, chk_pos (show placeCell_pre (to_Cell x) (to_IntS y) from hb.2.1), chk_pos tx, chk_pos ty, chk_pos ep, bif_not, bif_true (rf _), bif_not, bif_true (beq_self_eq_true _), chk_pos tx,
    chk_pos (show eq_Cell_pre (to_Cell x) (to_Cell x) from hb), bif_not, bif_true (rf _), chk_pos ty, chk_pos (show eq_IntS_pre (to_IntS y) (to_IntS y) from hy), bif_not, bif_true rfy, chk_pos (show mk_Cell_pre (to_Cell x) 1 from hb),
    chk_pos (show mk_IntS_pre (to_IntS y) (mk_Cell_k (to_Cell x) 1) from hy), bif_decN (show ¬ (mk_IntS_k (to_IntS y) (mk_Cell_k (to_Cell x) 1) < 0) from Int.not_lt.2 hx0), chk_pos ep, bif_not, bif_true (rf _), bif_not, bif_true (beq_self_eq_true _), chk_pos (show mk_Cell_pre p.1 1 from hpb), chk_pos hh', bif_decN hv0, bif_not, bif_dec hv',
    chk_pos tx, chk_pos ty, chk_pos ep, bif_not, bif_true (rf _), bif_not, bif_true (beq_self_eq_true _), chk_pos hh', bif_decN hv0, bif_not, bif_dec hv']
  rfl⟩
theorem s4 : Sound Try.prog 4 g4 := sound_run (tt := tt) (Γ := Γ4) hT (ok_cons s18 (ok_cons s19 (ok_cons s20 (ok_cons s21 (ok_cons s22 (ok_cons s23 (ok_cons s24 (ok_cons s27 ok_nil)))))))) hm (fn := Try.f4) Try.func4 (c := Try.f4.body.getD .skip) (by kernel_rfl) (by kernel_rfl) fun x hx => by
  obtain ⟨N, h⟩ := e4 x.1 x.2.1 hx
  exact ⟨T4 N, p4, markSem_ok (own_cons sm25 (own_cons sm26.gm own_nil)) hdr_nil, (run4 N x.1 x.2.1).trans h⟩
end Go.T
