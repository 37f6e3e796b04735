/- Whole numbers; atoms; cells; relations: what the functions compute. -/
import Derived.Test.YthefcjjgchekiaaGreatA1
set_option linter.unusedSimpArgs false
set_option linter.unusedVariables false
namespace Go.T
open Go Go.Proofs
set_option maxHeartbeats 1000000
set_option maxRecDepth 100000
def inI (n : Int) : Prop := -9223372036854775807 ≤ n ∧ n ≤ 9223372036854775807
def absI (n : Int) : Int := (n.natAbs : Int)
def absI_pre (n : Int) : Prop := inI n
def gcdI (a b : Int) : Int := (Nat.gcd a.natAbs b.natAbs : Nat)
def gcdI_pre (a b : Int) : Prop := inI a ∧ inI b
def gcdL (xs : List (Val (.int .i64))) (k : Int) : Int := (gL k.natAbs xs : Nat)
def gcdL_pre (xs : List (Val (.int .i64))) (k : Int) : Prop := xs.length ≤ 1048576 ∧ inI k ∧ ∀ x ∈ xs, inI x
def gcdM (xs : List (Val (.int .i64))) : Int := (gL 0 xs : Nat)
def gcdM_pre (xs : List (Val (.int .i64))) : Prop := xs.length ≤ 1048576 ∧ ∀ x ∈ xs, inI x
def isNum (n : Int) : Bool := decide (-400000000 ≤ n ∧ n ≤ 400000000)
def inR (x a b : Int) : Bool := decide (a ≤ x ∧ x ≤ b)
def g313 : G := { ps := [i3], rs := [i3], dp := true, pre := fun x => absI_pre x.1, fn := fun x => (absI x.1, ()) }
noncomputable def m313 (N : Nat) (v0 : Int) : Option (Vals [i3]) := bif (decide (v0 < (0 : Int))) then (some ((IntKind.i64.wrap (0 - v0)), ())) else (some (v0, ()))
def Γ313 : Gam := []
def tr313 : Nat → Tree := fun _ => .done
def lp313 : Nat → Nm := fun _ => ⟨[], [], false⟩
def jn313 : Nat → Option Jn := fun _ => none
def ex313 : Nat → Option Nm := fun _ => none
def rg313 : Nat → Option Nm := fun _ => none
theorem p313 : plansOk tr313 (Tryz.f313.body.getD .skip) = true := by kernel_rfl
def T313 (N : Nat) : Tab := { tr := tr313, lp := lp313, ex := ex313, rg := rg313, jn := jn313, fuel := N }
theorem T313_pins (N : Nat) : (T313 N).pins = false := rfl
theorem tb313 (N : Nat) : TbOk Tryz.prog (T313 N) := tb_none fun _ => rfl
theorem T313_tr (N : Nat) (i : Nat) : (T313 N).tr i = tr313 i := rfl
theorem T313_lp (N : Nat) (i : Nat) : (T313 N).lp i = lp313 i := rfl
theorem T313_ex (N : Nat) (i : Nat) : (T313 N).ex i = ex313 i := rfl
theorem T313_rg (N : Nat) (i : Nat) : (T313 N).rg i = rg313 i := rfl
theorem T313_jn (N : Nat) (i : Nat) : (T313 N).jn i = jn313 i := rfl
theorem T313_fuel (N : Nat) : (T313 N).fuel = N := rfl
theorem run313 (N : Nat) (v0 : Int) : runT tt Γ313 (T313 N) (Tryz.f313.body.getD .skip) (retR tt true [i3] [.tmp 2]) (entryP [i3] 8 (v0, ())) = m313 N v0 := by
  rw [m313]; unfold Tryz.f313
  simp (maxSteps := 10000000) -implicitDefEqProofs [T313_tr, tr313, T313_lp, lp313, T313_ex, ex313, T313_rg, rg313, T313_jn, jn313, T313_fuel, T313_pins]
  try rfl
theorem e313 (n : Int) (h : inI n) : ∃ N, m313 N n = some (absI n, ()) := ⟨0, by
  unfold inI at h
  simp only [m313, absI]
  by_cases h0 : n < 0
  · have e : IntKind.i64.wrap (0 - n) = (n.natAbs : Int) := by rw [wrap64 (by omega) (by omega)]; omega
    simp only [h0, decide_true, cond_true, e]
  · have e : (n.natAbs : Int) = n := by omega
    simp [h0, e]⟩
theorem s313 : Sound Tryz.prog 313 g313 := sound_run (tt := tt) (Γ := Γ313) hT ok_nil hm (fn := Tryz.f313) Tryz.func313 (c := Tryz.f313.body.getD .skip) (by kernel_rfl) (by kernel_rfl) fun x hx => by
  obtain ⟨N, h⟩ := e313 x.1 hx
  exact ⟨T313 N, p313, noSem_ok _, tb313 N, (run313 N x.1).trans h⟩
noncomputable def m280_l2 (N : Nat)  (k0 : Int → Option (Vals [i3])) : Nat → Int → Int → Option (Vals [i3])
  | 0, _, _ => none
  | n + 1, v2, v3 => bif (!(decide (v3 = (0 : Int)))) then (chk (v3 ≠ 0) (m280_l2 N  k0 n v3 (v2.tmod v3))) else (k0 v2)
noncomputable def m280 (N : Nat) (v0 : Int) (v1 : Int) : Option (Vals [i3]) := chk (absI_pre v0) (chk (absI_pre v1) (m280_l2 N  (fun (v5 : Int) => some (v5, ())) N ((absI v0) : Int) ((absI v1) : Int)))
def Γ280 : Gam := [(313, g313)]
theorem Γ280_313 : Gam.get Γ280 313 = some g313 := rfl
def nl280_2 : Nm := ⟨[true, true], [], false⟩
theorem nl280_2_zero : nl280_2.zero = false := rfl
theorem nl280_2_fix : nl280_2.fix = [] := rfl
theorem nl280_2_keep : nl280_2.keep = [true, true] := rfl
def nx280_0 : Nm := ⟨[true], [], false⟩
theorem nx280_0_zero : nx280_0.zero = false := rfl
theorem nx280_0_fix : nx280_0.fix = [] := rfl
theorem nx280_0_keep : nx280_0.keep = [true] := rfl
def tr280 : Nat → Tree := fun i => if i = 3 then .quiet 0 (.quiet 1 (.quiet 2 (.quiet 3 (.quiet 4 (.quiet 5 .done))))) else .done
def lp280 : Nat → Nm := fun i => if i = 2 then nl280_2 else ⟨[], [], false⟩
def jn280 : Nat → Option Jn := fun _ => none
def ex280 : Nat → Option Nm := fun i => if i = 0 then some nx280_0 else none
def rg280 : Nat → Option Nm := fun _ => none
theorem p280 : plansOk tr280 (Tryz.f280.body.getD .skip) = true := by kernel_rfl
def T280 (N : Nat) : Tab := { tr := tr280, lp := lp280, ex := ex280, rg := rg280, jn := jn280, fuel := N }
theorem T280_pins (N : Nat) : (T280 N).pins = false := rfl
theorem tb280 (N : Nat) : TbOk Tryz.prog (T280 N) := tb_none fun _ => rfl
theorem T280_tr (N : Nat) (i : Nat) : (T280 N).tr i = tr280 i := rfl
theorem T280_lp (N : Nat) (i : Nat) : (T280 N).lp i = lp280 i := rfl
theorem T280_ex (N : Nat) (i : Nat) : (T280 N).ex i = ex280 i := rfl
theorem T280_rg (N : Nat) (i : Nat) : (T280 N).rg i = rg280 i := rfl
theorem T280_jn (N : Nat) (i : Nat) : (T280 N).jn i = jn280 i := rfl
theorem T280_fuel (N : Nat) : (T280 N).fuel = N := rfl
noncomputable def c280_2 : Code := cut [true, true, false, true, true] (Tryz.f280.body.getD .skip)
theorem c280_2_at {N : Nat} {Q : X → St → Option (Vals [i3])} {e : List LV} {h : List Blk} : runT tt Γ280 (T280 N) c280_2 Q ⟨e, h⟩ = runT tt Γ280 (T280 N) (cut [true, true, false, true, true] (Tryz.f280.body.getD .skip)) Q ⟨e, h⟩ := rfl
theorem r280_l2 (N : Nat)  {k0 : Int → Option (Vals [i3])} {Q : X → St → Option (Vals [i3])} {c : Code} (hc : c = c280_2) (hret : ∀ st, Q .ret st = retS tt true [i3] [.tmp 4] st) (h0 : ∀ (v4 : Int), Q (.exit 0) ⟨[.one (.int .i64 v4), u, u, u, u, u, u, u, u, u, u, u, u, u, u, u], []⟩ = k0 v4) : ∀ (n : Nat) (v2 : Int) (v3 : Int), loopR (runT tt Γ280 (T280 N) c) false nl280_2 Q n ⟨[.one (.int .i64 v2), .one (.int .i64 v3), u, u, u, u, u, u, u, u, u, u, u, u, u, u], []⟩ = m280_l2 N  k0 n v2 v3 := by
  subst hc; intro n; induction n with
  | zero => intros; rfl
  | succ n ih =>
    intro v2 v3
    rw [loop_succ, c280_2_at, m280_l2]; unfold Tryz.f280
    simp (maxSteps := 10000000) -implicitDefEqProofs [T280_tr, tr280, T280_lp, lp280, T280_ex, ex280, T280_rg, rg280, T280_jn, jn280, T280_fuel, T280_pins, nl280_2_fix, nl280_2_keep, nl280_2_zero, nx280_0_fix, nx280_0_keep, nx280_0_zero, Γ280_313, g313, hret, h0, ih]
theorem run280 (N : Nat) (v0 : Int) (v1 : Int) : runT tt Γ280 (T280 N) (Tryz.f280.body.getD .skip) (retR tt true [i3] [.tmp 4]) (entryP [i3, i3] 16 (v0, v1, ())) = m280 N v0 v1 := by
  unfold Tryz.f280
  simp (maxSteps := 10000000) -implicitDefEqProofs [T280_tr, tr280, T280_lp, lp280, T280_ex, ex280, T280_rg, rg280, T280_jn, jn280, T280_fuel, T280_pins, nl280_2_fix, nl280_2_keep, nl280_2_zero, nx280_0_fix, nx280_0_keep, nx280_0_zero, Γ280_313, g313]
  rewrite [r280_l2 (k0 := (fun (v5 : Int) => some (v5, ()))) N  ?_ ?_ ?_]
  · rewrite [m280]; first | rfl | simp (maxSteps := 10000000) -implicitDefEqProofs []
  · rfl
  · intro; simp only [seqR_ret, blockR_ret, retR_ret, retX_ret]
  · intro v5; simp (maxSteps := 10000000) -implicitDefEqProofs [T280_tr, tr280, T280_lp, lp280, T280_ex, ex280, T280_rg, rg280, T280_jn, jn280, T280_fuel, T280_pins, nl280_2_fix, nl280_2_keep, nl280_2_zero, nx280_0_fix, nx280_0_keep, nx280_0_zero, Γ280_313, g313]
theorem t280 (N : Nat) (k : Int → Option (Vals [i3])) : ∀ (n a b : Nat), b < n → m280_l2 N k n (a : Int) (b : Int) = k (Nat.gcd a b : Nat)
  | 0, _, _, h => by omega
  | n + 1, a, b, h => by
    rw [m280_l2]
    by_cases hb : b = 0
    · subst hb; simp
    · have hb' : ¬ ((b : Int) = 0) := by omega
      have hlt : a % b < b := Nat.mod_lt _ (by omega)
      have hm : ((a : Int).tmod (b : Int)) = ((a % b : Nat) : Int) := by rw [Int.tmod_eq_emod_of_nonneg (by omega)]; rfl
      simp only [hb', decide_false, Bool.not_false, cond_true, ne_eq, not_false_eq_true, chk_true]
      rw [hm, t280 N k n b (a % b) (by omega)]
      congr 2
      rw [Nat.gcd_comm b, ← Nat.gcd_rec, Nat.gcd_comm]
def g280 : G := { ps := [i3, i3], rs := [i3], dp := true, pre := fun x => gcdI_pre x.1 x.2.1, fn := fun x => (gcdI x.1 x.2.1, ()) }
theorem e280 (a b : Int) (h : gcdI_pre a b) : ∃ N, m280 N a b = some (gcdI a b, ()) := ⟨b.natAbs + 1, by
  rw [m280, chk_pos (show absI_pre a from h.1), chk_pos (show absI_pre b from h.2)]
  simp only [absI]
  rw [t280 _ _ _ _ _ (Nat.lt_succ_self _)]
  rfl⟩
theorem s280 : Sound Tryz.prog 280 g280 := sound_run (tt := tt) (Γ := Γ280) hT (ok_cons s313 ok_nil) hm (fn := Tryz.f280) Tryz.func280 (c := Tryz.f280.body.getD .skip) (by kernel_rfl) (by kernel_rfl) fun x hx => by
  obtain ⟨N, h⟩ := e280 x.1 x.2.1 hx
  exact ⟨T280 N, p280, noSem_ok _, tb280 N, (run280 N x.1 x.2.1).trans h⟩
theorem gcdI_in {g : Nat} {x : Int} (hg : (g : Int) ≤ 9223372036854775807) (hx : inI x) : gcdI_pre (g : Int) x ∧ ((Nat.gcd g x.natAbs : Nat) : Int) ≤ 9223372036854775807 := by
  refine ⟨⟨⟨by omega, hg⟩, hx⟩, ?_⟩
  unfold inI at hx
  by_cases h0 : x.natAbs = 0
  · rw [h0]; simpa using hg
  · have := Nat.gcd_le_right (m := g) (n := x.natAbs) (by omega)
    omega
theorem gcd_fold {ρ : Type} : ∀ (xs : List Int) (i g : Nat) (k : Int → Option ρ), (g : Int) ≤ 9223372036854775807 → (∀ x ∈ xs, inI x) → foldK (fun _ x s K => chk (gcdI_pre s x) (K (gcdI s x))) i xs (g : Int) k = k (gL g xs : Nat)
  | [], _, _, _, _, _ => rfl
  | x :: xs, i, g, k, hg, hx => by
    obtain ⟨h1, h2⟩ := gcdI_in hg (hx x (by simp))
    rw [foldK, chk_pos h1]
    exact gcd_fold xs (i + 1) _ k h2 fun y hy => hx y (by simp [hy])
noncomputable def m282_l3 (N : Nat) (v2 : List (Val (.int .i64))) (v3 : Int) (k0 : Int → Option (Vals [i3])) : Nat → Int → Int → Option (Vals [i3])
  | 0, _, _ => none
  | n + 1, v1, v4 => bif (decide (v4 < v3)) then (chk (0 ≤ v4 ∧ v4 < (v2.length : Int)) (chk (gcdI_pre v1 ((v2.getD v4.toNat (dflt (.int .i64))) : Int)) (m282_l3 N v2 v3 k0 n ((gcdI v1 ((v2.getD v4.toNat (dflt (.int .i64))) : Int)) : Int) (IntKind.i64.wrap (v4 + (1 : Int)))))) else (k0 v1)
noncomputable def m282 (N : Nat) (v0 : List (Val (.int .i64))) : Option (Vals [i3]) := m282_l3 N v0 (v0.length : Int) (fun (v6 : Int) => some (v6, ())) N (0 : Int) (0 : Int)
def Γ282 : Gam := [(280, g280)]
theorem Γ282_280 : Gam.get Γ282 280 = some g280 := rfl
def nl282_3 : Nm := ⟨[false, false, false, true, false, false, true, true, true], [], false⟩
theorem nl282_3_zero : nl282_3.zero = false := rfl
theorem nl282_3_fix : nl282_3.fix = [] := rfl
theorem nl282_3_keep : nl282_3.keep = [false, false, false, true, false, false, true, true, true] := rfl
def nx282_0 : Nm := ⟨[false, false, false, true], [], false⟩
theorem nx282_0_zero : nx282_0.zero = false := rfl
theorem nx282_0_fix : nx282_0.fix = [] := rfl
theorem nx282_0_keep : nx282_0.keep = [false, false, false, true] := rfl
def tr282 : Nat → Tree := fun _ => .done
def lp282 : Nat → Nm := fun i => if i = 3 then nl282_3 else ⟨[], [], false⟩
def jn282 : Nat → Option Jn := fun _ => none
def ex282 : Nat → Option Nm := fun i => if i = 0 then some nx282_0 else none
def rg282 : Nat → Option Nm := fun _ => none
theorem p282 : plansOk tr282 (Tryz.f282.body.getD .skip) = true := by kernel_rfl
def T282 (N : Nat) : Tab := { tr := tr282, lp := lp282, ex := ex282, rg := rg282, jn := jn282, fuel := N }
theorem T282_pins (N : Nat) : (T282 N).pins = false := rfl
theorem tb282 (N : Nat) : TbOk Tryz.prog (T282 N) := tb_none fun _ => rfl
theorem T282_tr (N : Nat) (i : Nat) : (T282 N).tr i = tr282 i := rfl
theorem T282_lp (N : Nat) (i : Nat) : (T282 N).lp i = lp282 i := rfl
theorem T282_ex (N : Nat) (i : Nat) : (T282 N).ex i = ex282 i := rfl
theorem T282_rg (N : Nat) (i : Nat) : (T282 N).rg i = rg282 i := rfl
theorem T282_jn (N : Nat) (i : Nat) : (T282 N).jn i = jn282 i := rfl
theorem T282_fuel (N : Nat) : (T282 N).fuel = N := rfl
noncomputable def c282_3 : Code := cut [true, true, false, true, true, true] (Tryz.f282.body.getD .skip)
theorem c282_3_at {N : Nat} {Q : X → St → Option (Vals [i3])} {e : List LV} {h : List Blk} : runT tt Γ282 (T282 N) c282_3 Q ⟨e, h⟩ = runT tt Γ282 (T282 N) (cut [true, true, false, true, true, true] (Tryz.f282.body.getD .skip)) Q ⟨e, h⟩ := rfl
theorem r282_l3 (N : Nat) (v2 : List (Val (.int .i64))) (v3 : Int) {k0 : Int → Option (Vals [i3])} {Q : X → St → Option (Vals [i3])} {c : Code} (hc : c = c282_3) (hret : ∀ st, Q .ret st = retS tt true [i3] [.tmp 2] st) (h0 : ∀ (v5 : Int), Q (.exit 0) ⟨[u, u, u, .one (.int .i64 v5), u, u, u, u, u, u, u, u, u, u, u, u, u], []⟩ = k0 v5) : ∀ (n : Nat) (v1 : Int) (v4 : Int), loopR (runT tt Γ282 (T282 N) c) false nl282_3 Q n ⟨[u, u, u, .one (.int .i64 v1), u, u, .one (.sl 3 (.int .i64) v2 0), .one (.int .i64 v3), .one (.int .i64 v4), u, u, u, u, u, u, u, u], []⟩ = m282_l3 N v2 v3 k0 n v1 v4 := by
  subst hc; intro n; induction n with
  | zero => intros; rfl
  | succ n ih =>
    intro v1 v4
    rw [loop_succ, c282_3_at, m282_l3]; unfold Tryz.f282
    simp (maxSteps := 10000000) -implicitDefEqProofs [T282_tr, tr282, T282_lp, lp282, T282_ex, ex282, T282_rg, rg282, T282_jn, jn282, T282_fuel, T282_pins, nl282_3_fix, nl282_3_keep, nl282_3_zero, nx282_0_fix, nx282_0_keep, nx282_0_zero, Γ282_280, g280, hret, h0, ih]
theorem run282 (N : Nat) (v0 : List (Val (.int .i64))) : runT tt Γ282 (T282 N) (Tryz.f282.body.getD .skip) (retR tt true [i3] [.tmp 2]) (entryP [i25] 17 (v0, ())) = m282 N v0 := by
  unfold Tryz.f282
  simp (maxSteps := 10000000) -implicitDefEqProofs [T282_tr, tr282, T282_lp, lp282, T282_ex, ex282, T282_rg, rg282, T282_jn, jn282, T282_fuel, T282_pins, nl282_3_fix, nl282_3_keep, nl282_3_zero, nx282_0_fix, nx282_0_keep, nx282_0_zero, Γ282_280, g280]
  rewrite [r282_l3 (k0 := (fun (v6 : Int) => some (v6, ()))) N _ _ ?_ ?_ ?_]
  · rewrite [m282]; first | rfl | simp (maxSteps := 10000000) -implicitDefEqProofs []
  · rfl
  · intro; simp only [seqR_ret, blockR_ret, retR_ret, retX_ret]
  · intro v6; simp (maxSteps := 10000000) -implicitDefEqProofs [T282_tr, tr282, T282_lp, lp282, T282_ex, ex282, T282_rg, rg282, T282_jn, jn282, T282_fuel, T282_pins, nl282_3_fix, nl282_3_keep, nl282_3_zero, nx282_0_fix, nx282_0_keep, nx282_0_zero, Γ282_280, g280]
def g282 : G := { ps := [i25], rs := [i3], dp := true, pre := fun x => gcdM_pre x.1, fn := fun x => (gcdM x.1, ()) }
theorem e282 (xs : List (Val (.int .i64))) (h : gcdM_pre xs) : ∃ N, m282 N xs = some (gcdM xs, ()) := ⟨xs.length + 1, by
  rw [m282]
  rw [loop_fold (F := fun n i s => m282_l3 _ xs xs.length _ n s i) (step := fun _ x s K => chk (gcdI_pre s x) (K (gcdI s x))) (k := fun s => some (s, ())) h.1 ?_ ?_ _ _ (Nat.lt_succ_self _)]
  · exact gcd_fold xs 0 0 _ (by omega) h.2
  · intro n i s hi
    rw [m282_l3, bif_dec (by omega), chk_pos (by omega), getD_atI hi]
  · intro n i s hi
    rw [m282_l3, bif_decN (by omega)]⟩
theorem s282 : Sound Tryz.prog 282 g282 := sound_run (tt := tt) (Γ := Γ282) hT (ok_cons s280 ok_nil) hm (fn := Tryz.f282) Tryz.func282 (c := Tryz.f282.body.getD .skip) (by kernel_rfl) (by kernel_rfl) fun x hx => by
  obtain ⟨N, h⟩ := e282 x.1 hx
  exact ⟨T282 N, p282, noSem_ok _, tb282 N, (run282 N x.1).trans h⟩
def g278 : G := { ps := [i3], rs := [i3], dp := true, pre := fun x => absI_pre x.1, fn := fun x => (absI x.1, ()) }
noncomputable def m278 (N : Nat) (v0 : Int) : Option (Vals [i3]) := some ((max v0 (IntKind.i64.wrap (0 - v0))), ())
def Γ278 : Gam := []
def tr278 : Nat → Tree := fun _ => .done
def lp278 : Nat → Nm := fun _ => ⟨[], [], false⟩
def jn278 : Nat → Option Jn := fun _ => none
def ex278 : Nat → Option Nm := fun _ => none
def rg278 : Nat → Option Nm := fun _ => none
theorem p278 : plansOk tr278 (Tryz.f278.body.getD .skip) = true := by kernel_rfl
def T278 (N : Nat) : Tab := { tr := tr278, lp := lp278, ex := ex278, rg := rg278, jn := jn278, fuel := N }
theorem T278_pins (N : Nat) : (T278 N).pins = false := rfl
theorem tb278 (N : Nat) : TbOk Tryz.prog (T278 N) := tb_none fun _ => rfl
theorem T278_tr (N : Nat) (i : Nat) : (T278 N).tr i = tr278 i := rfl
theorem T278_lp (N : Nat) (i : Nat) : (T278 N).lp i = lp278 i := rfl
theorem T278_ex (N : Nat) (i : Nat) : (T278 N).ex i = ex278 i := rfl
theorem T278_rg (N : Nat) (i : Nat) : (T278 N).rg i = rg278 i := rfl
theorem T278_jn (N : Nat) (i : Nat) : (T278 N).jn i = jn278 i := rfl
theorem T278_fuel (N : Nat) : (T278 N).fuel = N := rfl
theorem run278 (N : Nat) (v0 : Int) : runT tt Γ278 (T278 N) (Tryz.f278.body.getD .skip) (retR tt true [i3] [.tmp 2]) (entryP [i3] 7 (v0, ())) = m278 N v0 := by
  rw [m278]; unfold Tryz.f278
  simp (maxSteps := 10000000) -implicitDefEqProofs [T278_tr, tr278, T278_lp, lp278, T278_ex, ex278, T278_rg, rg278, T278_jn, jn278, T278_fuel, T278_pins]
  try rfl
theorem e278 (n : Int) (h : inI n) : ∃ N, m278 N n = some (absI n, ()) := ⟨0, by
  unfold inI at h
  rw [m278, wrap64 (by omega) (by omega)]
  have e : max n (0 - n) = absI n := by unfold absI; omega
  rw [e]⟩
theorem s278 : Sound Tryz.prog 278 g278 := sound_run (tt := tt) (Γ := Γ278) hT ok_nil hm (fn := Tryz.f278) Tryz.func278 (c := Tryz.f278.body.getD .skip) (by kernel_rfl) (by kernel_rfl) fun x hx => by
  obtain ⟨N, h⟩ := e278 x.1 hx
  exact ⟨T278 N, p278, noSem_ok _, tb278 N, (run278 N x.1).trans h⟩
noncomputable def m118 (N : Nat) (v0 : Int) (v1 : Int) (v2 : Int) : Option (Vals [i4]) := bif (decide (v1 ≤ v0)) then (some ((decide (v0 ≤ v2)), ())) else (some (false, ()))
def Γ118 : Gam := []
def tr118 : Nat → Tree := fun _ => .done
def lp118 : Nat → Nm := fun _ => ⟨[], [], false⟩
def jn118 : Nat → Option Jn := fun _ => none
def ex118 : Nat → Option Nm := fun _ => none
def rg118 : Nat → Option Nm := fun _ => none
theorem p118 : plansOk tr118 (Tryz.f118.body.getD .skip) = true := by kernel_rfl
def T118 (N : Nat) : Tab := { tr := tr118, lp := lp118, ex := ex118, rg := rg118, jn := jn118, fuel := N }
theorem T118_pins (N : Nat) : (T118 N).pins = false := rfl
theorem tb118 (N : Nat) : TbOk Tryz.prog (T118 N) := tb_none fun _ => rfl
theorem T118_tr (N : Nat) (i : Nat) : (T118 N).tr i = tr118 i := rfl
theorem T118_lp (N : Nat) (i : Nat) : (T118 N).lp i = lp118 i := rfl
theorem T118_ex (N : Nat) (i : Nat) : (T118 N).ex i = ex118 i := rfl
theorem T118_rg (N : Nat) (i : Nat) : (T118 N).rg i = rg118 i := rfl
theorem T118_jn (N : Nat) (i : Nat) : (T118 N).jn i = jn118 i := rfl
theorem T118_fuel (N : Nat) : (T118 N).fuel = N := rfl
theorem run118 (N : Nat) (v0 : Int) (v1 : Int) (v2 : Int) : runT tt Γ118 (T118 N) (Tryz.f118.body.getD .skip) (retR tt true [i4] [.tmp 6]) (entryP [i3, i3, i3] 15 (v0, v1, v2, ())) = m118 N v0 v1 v2 := by
  rw [m118]; unfold Tryz.f118
  simp (maxSteps := 10000000) -implicitDefEqProofs [T118_tr, tr118, T118_lp, lp118, T118_ex, ex118, T118_rg, rg118, T118_jn, jn118, T118_fuel, T118_pins]
  try rfl
def g118 : G := { ps := [i3, i3, i3], rs := [i4], dp := true, pre := fun _ => True, fn := fun x => (inR x.1 x.2.1 x.2.2.1, ()) }
theorem e118 (x a b : Int) : ∃ N, m118 N x a b = some (inR x a b, ()) := ⟨0, by
  simp only [m118, inR]
  by_cases h1 : a ≤ x <;> by_cases h2 : x ≤ b <;> simp [h1, h2]⟩
theorem s118 : Sound Tryz.prog 118 g118 := sound_run (tt := tt) (Γ := Γ118) hT ok_nil hm (fn := Tryz.f118) Tryz.func118 (c := Tryz.f118.body.getD .skip) (by kernel_rfl) (by kernel_rfl) fun x hx => by
  obtain ⟨N, h⟩ := e118 x.1 x.2.1 x.2.2.1
  exact ⟨T118 N, p118, noSem_ok _, tb118 N, (run118 N x.1 x.2.1 x.2.2.1).trans h⟩
noncomputable def m194 (N : Nat) (v0 : Int) : Option (Vals [i4]) := some (((inR v0 (-400000000 : Int) (400000000 : Int)) : Bool), ())
def Γ194 : Gam := [(118, g118)]
theorem Γ194_118 : Gam.get Γ194 118 = some g118 := rfl
def tr194 : Nat → Tree := fun _ => .done
def lp194 : Nat → Nm := fun _ => ⟨[], [], false⟩
def jn194 : Nat → Option Jn := fun _ => none
def ex194 : Nat → Option Nm := fun _ => none
def rg194 : Nat → Option Nm := fun _ => none
theorem p194 : plansOk tr194 (Tryz.f194.body.getD .skip) = true := by kernel_rfl
def T194 (N : Nat) : Tab := { tr := tr194, lp := lp194, ex := ex194, rg := rg194, jn := jn194, fuel := N }
theorem T194_pins (N : Nat) : (T194 N).pins = false := rfl
theorem tb194 (N : Nat) : TbOk Tryz.prog (T194 N) := tb_none fun _ => rfl
theorem T194_tr (N : Nat) (i : Nat) : (T194 N).tr i = tr194 i := rfl
theorem T194_lp (N : Nat) (i : Nat) : (T194 N).lp i = lp194 i := rfl
theorem T194_ex (N : Nat) (i : Nat) : (T194 N).ex i = ex194 i := rfl
theorem T194_rg (N : Nat) (i : Nat) : (T194 N).rg i = rg194 i := rfl
theorem T194_jn (N : Nat) (i : Nat) : (T194 N).jn i = jn194 i := rfl
theorem T194_fuel (N : Nat) : (T194 N).fuel = N := rfl
theorem run194 (N : Nat) (v0 : Int) : runT tt Γ194 (T194 N) (Tryz.f194.body.getD .skip) (retR tt true [i4] [.tmp 2]) (entryP [i3] 5 (v0, ())) = m194 N v0 := by
  rw [m194]; unfold Tryz.f194
  simp (maxSteps := 10000000) -implicitDefEqProofs [T194_tr, tr194, T194_lp, lp194, T194_ex, ex194, T194_rg, rg194, T194_jn, jn194, T194_fuel, T194_pins, Γ194_118, g118]
  try rfl
noncomputable def m204 (N : Nat) (v0 : Int) : Option (Vals [i4]) := bif (decide ((-400000000 : Int) ≤ v0)) then (some ((decide (v0 ≤ (400000000 : Int))), ())) else (some (false, ()))
def Γ204 : Gam := []
def tr204 : Nat → Tree := fun _ => .done
def lp204 : Nat → Nm := fun _ => ⟨[], [], false⟩
def jn204 : Nat → Option Jn := fun _ => none
def ex204 : Nat → Option Nm := fun _ => none
def rg204 : Nat → Option Nm := fun _ => none
theorem p204 : plansOk tr204 (Tryz.f204.body.getD .skip) = true := by kernel_rfl
def T204 (N : Nat) : Tab := { tr := tr204, lp := lp204, ex := ex204, rg := rg204, jn := jn204, fuel := N }
theorem T204_pins (N : Nat) : (T204 N).pins = false := rfl
theorem tb204 (N : Nat) : TbOk Tryz.prog (T204 N) := tb_none fun _ => rfl
theorem T204_tr (N : Nat) (i : Nat) : (T204 N).tr i = tr204 i := rfl
theorem T204_lp (N : Nat) (i : Nat) : (T204 N).lp i = lp204 i := rfl
theorem T204_ex (N : Nat) (i : Nat) : (T204 N).ex i = ex204 i := rfl
theorem T204_rg (N : Nat) (i : Nat) : (T204 N).rg i = rg204 i := rfl
theorem T204_jn (N : Nat) (i : Nat) : (T204 N).jn i = jn204 i := rfl
theorem T204_fuel (N : Nat) : (T204 N).fuel = N := rfl
theorem run204 (N : Nat) (v0 : Int) : runT tt Γ204 (T204 N) (Tryz.f204.body.getD .skip) (retR tt true [i4] [.tmp 2]) (entryP [i3] 9 (v0, ())) = m204 N v0 := by
  rw [m204]; unfold Tryz.f204
  simp (maxSteps := 10000000) -implicitDefEqProofs [T204_tr, tr204, T204_lp, lp204, T204_ex, ex204, T204_rg, rg204, T204_jn, jn204, T204_fuel, T204_pins]
  try rfl
def g194 : G := { ps := [i3], rs := [i4], dp := true, pre := fun _ => True, fn := fun x => (isNum x.1, ()) }
def g204 : G := { ps := [i3], rs := [i4], dp := true, pre := fun _ => True, fn := fun x => (isNum x.1, ()) }
theorem e194 (x : Int) : ∃ N, m194 N x = some (isNum x, ()) := ⟨0, by
  simp only [m194, inR, isNum]⟩
theorem s194 : Sound Tryz.prog 194 g194 := sound_run (tt := tt) (Γ := Γ194) hT (ok_cons s118 ok_nil) hm (fn := Tryz.f194) Tryz.func194 (c := Tryz.f194.body.getD .skip) (by kernel_rfl) (by kernel_rfl) fun x hx => by
  obtain ⟨N, h⟩ := e194 x.1
  exact ⟨T194 N, p194, noSem_ok _, tb194 N, (run194 N x.1).trans h⟩
theorem e204 (x : Int) : ∃ N, m204 N x = some (isNum x, ()) := ⟨0, by
  simp only [m204, isNum]
  by_cases h1 : -400000000 ≤ x <;> by_cases h2 : x ≤ 400000000 <;> simp [h1, h2]⟩
theorem s204 : Sound Tryz.prog 204 g204 := sound_run (tt := tt) (Γ := Γ204) hT ok_nil hm (fn := Tryz.f204) Tryz.func204 (c := Tryz.f204.body.getD .skip) (by kernel_rfl) (by kernel_rfl) fun x hx => by
  obtain ⟨N, h⟩ := e204 x.1
  exact ⟨T204 N, p204, noSem_ok _, tb204 N, (run204 N x.1).trans h⟩
noncomputable def m231_l6 (N : Nat) (v11 : List (Val (.int .i64))) (v13 : Int) (k2 : Int → Option (Vals [i3])) : Nat → Int → Int → Option (Vals [i3])
  | 0, _, _ => none
  | n + 1, v12, v14 => bif (!(decide (v14 = (0 : Int)))) then (chk (v14 ≠ 0) (m231_l6 N v11 v13 k2 n v14 (v12.tmod v14))) else (k2 v12)
noncomputable def m231_l3 (N : Nat) (v2 : List (Val (.int .i64))) (k0 : Int → Option (Vals [i3])) : Nat → Int → Int → Option (Vals [i3])
  | 0, _, _ => none
  | n + 1, v3, v4 => bif (decide (v4 < (v2.length : Int))) then (chk (0 ≤ v4 ∧ v4 < (v2.length : Int)) (chk (absI_pre ((v2.getD v4.toNat (dflt (.int .i64))) : Int)) (m231_l6 N v2 v4 (fun (v16 : Int) => m231_l3 N v2 k0 n v16 (IntKind.i64.wrap (v4 + (1 : Int)))) N v3 ((absI ((v2.getD v4.toNat (dflt (.int .i64))) : Int)) : Int)))) else (k0 v3)
noncomputable def m231 (N : Nat) (v0 : List (Val (.int .i64))) (v1 : Int) : Option (Vals [i3]) := chk (absI_pre v1) (m231_l3 N v0 (fun (v18 : Int) => some (v18, ())) N ((absI v1) : Int) (0 : Int))
def Γ231 : Gam := [(278, g278)]
theorem Γ231_278 : Gam.get Γ231 278 = some g278 := rfl
def nl231_6 : Nm := ⟨[true, false, false, false, false, true, true, true], [], false⟩
theorem nl231_6_zero : nl231_6.zero = false := rfl
theorem nl231_6_fix : nl231_6.fix = [] := rfl
theorem nl231_6_keep : nl231_6.keep = [true, false, false, false, false, true, true, true] := rfl
def nl231_3 : Nm := ⟨[true, false, false, false, false, true, true], [], false⟩
theorem nl231_3_zero : nl231_3.zero = false := rfl
theorem nl231_3_fix : nl231_3.fix = [] := rfl
theorem nl231_3_keep : nl231_3.keep = [true, false, false, false, false, true, true] := rfl
def nx231_0 : Nm := ⟨[false, false, false, false, false, true], [], false⟩
theorem nx231_0_zero : nx231_0.zero = false := rfl
theorem nx231_0_fix : nx231_0.fix = [] := rfl
theorem nx231_0_keep : nx231_0.keep = [false, false, false, false, false, true] := rfl
def nx231_2 : Nm := ⟨[true, false, false, false, false, true, true], [], false⟩
theorem nx231_2_zero : nx231_2.zero = false := rfl
theorem nx231_2_fix : nx231_2.fix = [] := rfl
theorem nx231_2_keep : nx231_2.keep = [true, false, false, false, false, true, true] := rfl
def tr231 : Nat → Tree := fun i => if i = 7 then .quiet 0 (.quiet 1 (.quiet 2 (.quiet 3 (.quiet 4 (.quiet 5 .done))))) else .done
def lp231 : Nat → Nm := fun i => if i = 6 then nl231_6 else if i = 3 then nl231_3 else ⟨[], [], false⟩
def jn231 : Nat → Option Jn := fun _ => none
def ex231 : Nat → Option Nm := fun i => if i = 0 then some nx231_0 else if i = 2 then some nx231_2 else none
def rg231 : Nat → Option Nm := fun _ => none
theorem p231 : plansOk tr231 (Tryz.f231.body.getD .skip) = true := by kernel_rfl
def T231 (N : Nat) : Tab := { tr := tr231, lp := lp231, ex := ex231, rg := rg231, jn := jn231, fuel := N }
theorem T231_pins (N : Nat) : (T231 N).pins = false := rfl
theorem tb231 (N : Nat) : TbOk Tryz.prog (T231 N) := tb_none fun _ => rfl
theorem T231_tr (N : Nat) (i : Nat) : (T231 N).tr i = tr231 i := rfl
theorem T231_lp (N : Nat) (i : Nat) : (T231 N).lp i = lp231 i := rfl
theorem T231_ex (N : Nat) (i : Nat) : (T231 N).ex i = ex231 i := rfl
theorem T231_rg (N : Nat) (i : Nat) : (T231 N).rg i = rg231 i := rfl
theorem T231_jn (N : Nat) (i : Nat) : (T231 N).jn i = jn231 i := rfl
theorem T231_fuel (N : Nat) : (T231 N).fuel = N := rfl
noncomputable def c231_6 : Code := cut [true, true, false, true, true, true, true, false, true, true, true, true] (Tryz.f231.body.getD .skip)
theorem c231_6_at {N : Nat} {Q : X → St → Option (Vals [i3])} {e : List LV} {h : List Blk} : runT tt Γ231 (T231 N) c231_6 Q ⟨e, h⟩ = runT tt Γ231 (T231 N) (cut [true, true, false, true, true, true, true, false, true, true, true, true] (Tryz.f231.body.getD .skip)) Q ⟨e, h⟩ := rfl
theorem r231_l6 (N : Nat) (v11 : List (Val (.int .i64))) (v13 : Int) {k2 : Int → Option (Vals [i3])} {Q : X → St → Option (Vals [i3])} {c : Code} (hc : c = c231_6) (hret : ∀ st, Q .ret st = retS tt true [i3] [.tmp 4] st) (h2 : ∀ (v15 : Int), Q (.exit 2) ⟨[.one (.sl 3 (.int .i64) v11 0), u, u, u, u, .one (.int .i64 v15), .one (.int .i64 v13), u, u, u, u, u, u, u, u, u, u, u, u, u, u, u, u, u, u, u, u, u], []⟩ = k2 v15) : ∀ (n : Nat) (v12 : Int) (v14 : Int), loopR (runT tt Γ231 (T231 N) c) false nl231_6 Q n ⟨[.one (.sl 3 (.int .i64) v11 0), u, u, u, u, .one (.int .i64 v12), .one (.int .i64 v13), .one (.int .i64 v14), u, u, u, u, u, u, u, u, u, u, u, u, u, u, u, u, u, u, u, u], []⟩ = m231_l6 N v11 v13 k2 n v12 v14 := by
  subst hc; intro n; induction n with
  | zero => intros; rfl
  | succ n ih =>
    intro v12 v14
    rw [loop_succ, c231_6_at, m231_l6]; unfold Tryz.f231
    simp (maxSteps := 10000000) -implicitDefEqProofs [T231_tr, tr231, T231_lp, lp231, T231_ex, ex231, T231_rg, rg231, T231_jn, jn231, T231_fuel, T231_pins, nl231_6_fix, nl231_6_keep, nl231_6_zero, nl231_3_fix, nl231_3_keep, nl231_3_zero, nx231_0_fix, nx231_0_keep, nx231_0_zero, nx231_2_fix, nx231_2_keep, nx231_2_zero, Γ231_278, g278, hret, h2, ih]
noncomputable def c231_3 : Code := cut [true, true, false, true, true, true] (Tryz.f231.body.getD .skip)
theorem c231_3_at {N : Nat} {Q : X → St → Option (Vals [i3])} {e : List LV} {h : List Blk} : runT tt Γ231 (T231 N) c231_3 Q ⟨e, h⟩ = runT tt Γ231 (T231 N) (cut [true, true, false, true, true, true] (Tryz.f231.body.getD .skip)) Q ⟨e, h⟩ := rfl
theorem r231_l3 (N : Nat) (v2 : List (Val (.int .i64))) {k0 : Int → Option (Vals [i3])} {Q : X → St → Option (Vals [i3])} {c : Code} (hc : c = c231_3) (hret : ∀ st, Q .ret st = retS tt true [i3] [.tmp 4] st) (h0 : ∀ (v17 : Int), Q (.exit 0) ⟨[u, u, u, u, u, .one (.int .i64 v17), u, u, u, u, u, u, u, u, u, u, u, u, u, u, u, u, u, u, u, u, u, u], []⟩ = k0 v17) : ∀ (n : Nat) (v3 : Int) (v4 : Int), loopR (runT tt Γ231 (T231 N) c) false nl231_3 Q n ⟨[.one (.sl 3 (.int .i64) v2 0), u, u, u, u, .one (.int .i64 v3), .one (.int .i64 v4), u, u, u, u, u, u, u, u, u, u, u, u, u, u, u, u, u, u, u, u, u], []⟩ = m231_l3 N v2 k0 n v3 v4 := by
  subst hc; intro n; induction n with
  | zero => intros; rfl
  | succ n ih =>
    intro v3 v4
    rw [loop_succ, c231_3_at]; unfold Tryz.f231
    simp (maxSteps := 10000000) -implicitDefEqProofs [T231_tr, tr231, T231_lp, lp231, T231_ex, ex231, T231_rg, rg231, T231_jn, jn231, T231_fuel, T231_pins, nl231_6_fix, nl231_6_keep, nl231_6_zero, nl231_3_fix, nl231_3_keep, nl231_3_zero, nx231_0_fix, nx231_0_keep, nx231_0_zero, nx231_2_fix, nx231_2_keep, nx231_2_zero, Γ231_278, g278, hret, h0, ih]
    rewrite [r231_l6 (k2 := (fun (v16 : Int) => m231_l3 N v2 k0 n v16 (IntKind.i64.wrap (v4 + (1 : Int))))) N _ _ ?_ ?_ ?_]
    · rewrite [m231_l3]; first | rfl | simp (maxSteps := 10000000) -implicitDefEqProofs [ih]
    · rfl
    · intro; simp only [seqR_ret, blockR_ret, retR_ret, retX_ret, hret]
    · intro v16; simp (maxSteps := 10000000) -implicitDefEqProofs [T231_tr, tr231, T231_lp, lp231, T231_ex, ex231, T231_rg, rg231, T231_jn, jn231, T231_fuel, T231_pins, nl231_6_fix, nl231_6_keep, nl231_6_zero, nl231_3_fix, nl231_3_keep, nl231_3_zero, nx231_0_fix, nx231_0_keep, nx231_0_zero, nx231_2_fix, nx231_2_keep, nx231_2_zero, Γ231_278, g278, hret, h0, ih]
theorem run231 (N : Nat) (v0 : List (Val (.int .i64))) (v1 : Int) : runT tt Γ231 (T231 N) (Tryz.f231.body.getD .skip) (retR tt true [i3] [.tmp 4]) (entryP [i25, i3] 28 (v0, v1, ())) = m231 N v0 v1 := by
  unfold Tryz.f231
  simp (maxSteps := 10000000) -implicitDefEqProofs [T231_tr, tr231, T231_lp, lp231, T231_ex, ex231, T231_rg, rg231, T231_jn, jn231, T231_fuel, T231_pins, nl231_6_fix, nl231_6_keep, nl231_6_zero, nl231_3_fix, nl231_3_keep, nl231_3_zero, nx231_0_fix, nx231_0_keep, nx231_0_zero, nx231_2_fix, nx231_2_keep, nx231_2_zero, Γ231_278, g278]
  rewrite [r231_l3 (k0 := (fun (v18 : Int) => some (v18, ()))) N _ ?_ ?_ ?_]
  · rewrite [m231]; first | rfl | simp (maxSteps := 10000000) -implicitDefEqProofs []
  · rfl
  · intro; simp only [seqR_ret, blockR_ret, retR_ret, retX_ret]
  · intro v18; simp (maxSteps := 10000000) -implicitDefEqProofs [T231_tr, tr231, T231_lp, lp231, T231_ex, ex231, T231_rg, rg231, T231_jn, jn231, T231_fuel, T231_pins, nl231_6_fix, nl231_6_keep, nl231_6_zero, nl231_3_fix, nl231_3_keep, nl231_3_zero, nx231_0_fix, nx231_0_keep, nx231_0_zero, nx231_2_fix, nx231_2_keep, nx231_2_zero, Γ231_278, g278]
theorem t231i (N : Nat) (xs : List (Val (.int .i64))) (v : Int) (k : Int → Option (Vals [i3])) : ∀ (n b a : Nat), b < n → m231_l6 N xs v k n (a : Int) (b : Int) = k (Nat.gcd a b : Nat)
  | 0, _, _, h => by omega
  | n + 1, b, a, h => by
    rw [m231_l6]
    by_cases hb : b = 0
    · subst hb; simp
    · have hb' : ¬ ((b : Int) = 0) := by omega
      have hlt : a % b < b := Nat.mod_lt _ (by omega)
      have hm : ((a : Int).tmod (b : Int)) = ((a % b : Nat) : Int) := by rw [Int.tmod_eq_emod_of_nonneg (by omega)]; rfl
      simp only [hb', decide_false, Bool.not_false, cond_true, ne_eq, not_false_eq_true, chk_true]
      rw [hm, t231i N xs v k n (a % b) b (by omega)]
      congr 2
      rw [Nat.gcd_comm b, ← Nat.gcd_rec, Nat.gcd_comm]
theorem t231v (N : Nat) (xs : List (Val (.int .i64))) (v v' : Int) (k : Int → Option (Vals [i3])) : ∀ (n : Nat) (a b : Int), m231_l6 N xs v k n a b = m231_l6 N xs v' k n a b
  | 0, _, _ => rfl
  | n + 1, a, b => by rw [m231_l6, m231_l6, t231v N xs v v' k n]
theorem t231 (N : Nat) (hN : 9223372036854775807 < N) (ys : List (Val (.int .i64))) : ∀ (xs : List Int) (i g : Nat) (k : Int → Option (Vals [i3])), (∀ x ∈ xs, inI x) → foldK (fun _ x s K => chk (absI_pre x) (m231_l6 N ys 0 K N s (absI x))) i xs (g : Int) k = k (gL g xs : Nat)
  | [], _, _, _, _ => rfl
  | x :: xs, i, g, k, hx => by
    have h1 := hx x (by simp)
    rw [foldK, chk_pos (show absI_pre x from h1)]
    simp only [absI]
    rw [t231i _ _ _ _ _ _ _ (by unfold inI at h1; omega)]
    exact t231 N hN ys xs (i + 1) _ k fun y hy => hx y (by simp [hy])
def g231 : G := { ps := [i25, i3], rs := [i3], dp := true, pre := fun x => gcdL_pre x.1 x.2.1, fn := fun x => (gcdL x.1 x.2.1, ()) }
theorem e231 (xs : List (Val (.int .i64))) (k : Int) (h : gcdL_pre xs k) : ∃ N, m231 N xs k = some (gcdL xs k, ()) := ⟨9223372036854775808 + xs.length, by
  rw [m231, chk_pos (show absI_pre k from h.2.1)]
  rw [loop_fold (F := fun n i s => m231_l3 _ xs _ n s i) (step := fun _ x s K => chk (absI_pre x) (m231_l6 (9223372036854775808 + xs.length) xs 0 K (9223372036854775808 + xs.length) s (absI x))) (k := fun s => some (s, ())) h.1 ?_ ?_ _ _ (by omega)]
  · exact t231 _ (by omega) xs xs 0 k.natAbs _ h.2.2
  · intro n i s hi
    rw [m231_l3, bif_dec (by omega), chk_pos (by omega), getD_atI hi]
    congr 1
    exact t231v ..
  · intro n i s hi
    rw [m231_l3, bif_decN (by omega)]⟩
theorem s231 : Sound Tryz.prog 231 g231 := sound_run (tt := tt) (Γ := Γ231) hT (ok_cons s278 ok_nil) hm (fn := Tryz.f231) Tryz.func231 (c := Tryz.f231.body.getD .skip) (by kernel_rfl) (by kernel_rfl) fun x hx => by
  obtain ⟨N, h⟩ := e231 x.1 x.2.1 hx
  exact ⟨T231 N, p231, noSem_ok _, tb231 N, (run231 N x.1 x.2.1).trans h⟩
def isAtom (a : Val Y108) : Bool := decide ((a.1 : List Int).length ≤ 4) && isNum a.2.1 && (a.1 : List Int).all isNum && decide (((gL (Int.natAbs a.2.1) a.1 : Nat) : Int) ≤ 1)
noncomputable def m193_l4 (N : Nat) (v2 : List (Val (.int .i64))) (v3 : Int) (v4 : Bool) (k0 : Unit → Option (Vals [i4])) : Nat → Int → Option (Vals [i4])
  | 0, _ => none
  | n + 1, v1 => bif (decide (v1 < (v2.length : Int))) then (chk (0 ≤ v1 ∧ v1 < (v2.length : Int)) (bif (!((isNum ((v2.getD v1.toNat (dflt (.int .i64))) : Int)) : Bool)) then (some (false, ())) else (m193_l4 N v2 v3 v4 k0 n (IntKind.i64.wrap (v1 + (1 : Int)))))) else (k0 ())
noncomputable def m193 (N : Nat) (v0 : Val Y108) : Option (Vals [i4]) := bif (decide ((4 : Int) < ((v0.1 : List (Val (.int .i64))).length : Int))) then (some (false, ())) else (bif (!((isNum (v0.2.1 : Int)) : Bool)) then (some (false, ())) else (m193_l4 N (v0.1 : List (Val (.int .i64))) (v0.2.1 : Int) (v0.2.2 : Bool) (fun (_ : Unit) => chk (gcdL_pre (v0.1 : List (Val (.int .i64))) (v0.2.1 : Int)) (some ((decide (((gcdL (v0.1 : List (Val (.int .i64))) (v0.2.1 : Int)) : Int) ≤ (1 : Int))), ()))) N (0 : Int)))
def Γ193 : Gam := [(194, g194), (231, g231)]
theorem Γ193_194 : Gam.get Γ193 194 = some g194 := rfl
theorem Γ193_231 : Gam.get Γ193 231 = some g231 := rfl
def nl193_4 : Nm := ⟨[false, true, false, true], [], false⟩
theorem nl193_4_zero : nl193_4.zero = false := rfl
theorem nl193_4_fix : nl193_4.fix = [] := rfl
theorem nl193_4_keep : nl193_4.keep = [false, true, false, true] := rfl
def nx193_0 : Nm := ⟨[false, true], [], false⟩
theorem nx193_0_zero : nx193_0.zero = false := rfl
theorem nx193_0_fix : nx193_0.fix = [] := rfl
theorem nx193_0_keep : nx193_0.keep = [false, true] := rfl
def tr193 : Nat → Tree := fun _ => .done
def lp193 : Nat → Nm := fun i => if i = 4 then nl193_4 else ⟨[], [], false⟩
def jn193 : Nat → Option Jn := fun _ => none
def ex193 : Nat → Option Nm := fun i => if i = 0 then some nx193_0 else none
def rg193 : Nat → Option Nm := fun _ => none
theorem p193 : plansOk tr193 (Tryz.f193.body.getD .skip) = true := by kernel_rfl
def T193 (N : Nat) : Tab := { tr := tr193, lp := lp193, ex := ex193, rg := rg193, jn := jn193, fuel := N }
theorem T193_pins (N : Nat) : (T193 N).pins = false := rfl
theorem tb193 (N : Nat) : TbOk Tryz.prog (T193 N) := tb_none fun _ => rfl
theorem T193_tr (N : Nat) (i : Nat) : (T193 N).tr i = tr193 i := rfl
theorem T193_lp (N : Nat) (i : Nat) : (T193 N).lp i = lp193 i := rfl
theorem T193_ex (N : Nat) (i : Nat) : (T193 N).ex i = ex193 i := rfl
theorem T193_rg (N : Nat) (i : Nat) : (T193 N).rg i = rg193 i := rfl
theorem T193_jn (N : Nat) (i : Nat) : (T193 N).jn i = jn193 i := rfl
theorem T193_fuel (N : Nat) : (T193 N).fuel = N := rfl
noncomputable def c193_4 : Code := cut [true, true, false, true, true, true] (Tryz.f193.body.getD .skip)
theorem c193_4_at {N : Nat} {Q : X → St → Option (Vals [i4])} {e : List LV} {h : List Blk} : runT tt Γ193 (T193 N) c193_4 Q ⟨e, h⟩ = runT tt Γ193 (T193 N) (cut [true, true, false, true, true, true] (Tryz.f193.body.getD .skip)) Q ⟨e, h⟩ := rfl
theorem r193_l4 (N : Nat) (v2 : List (Val (.int .i64))) (v3 : Int) (v4 : Bool) {k0 : Unit → Option (Vals [i4])} {Q : X → St → Option (Vals [i4])} {c : Code} (hc : c = c193_4) (hret : ∀ st, Q .ret st = retS tt true [i4] [.tmp 2] st) (h0 : Q (.exit 0) ⟨[u, .one (.ptr 0 0 0), u, u, u, u, u, u, u, u, u, u, u, u, u, u, u, u, u, u, u, u, u, u, u, u, u, u, u, u, u, u, u, u], [.box [.sl 3 (.int .i64) v2 1, .int .i64 v3, .bool v4]]⟩ = k0 ()) : ∀ (n : Nat) (v1 : Int), loopR (runT tt Γ193 (T193 N) c) false nl193_4 Q n ⟨[u, .one (.ptr 0 0 0), u, .one (.int .i64 v1), u, u, u, u, u, u, u, u, u, u, u, u, u, u, u, u, u, u, u, u, u, u, u, u, u, u, u, u, u, u], [.box [.sl 3 (.int .i64) v2 1, .int .i64 v3, .bool v4]]⟩ = m193_l4 N v2 v3 v4 k0 n v1 := by
  subst hc; intro n; induction n with
  | zero => intros; rfl
  | succ n ih =>
    intro v1
    rw [loop_succ, c193_4_at, m193_l4]; unfold Tryz.f193
    simp (maxSteps := 10000000) -implicitDefEqProofs [T193_tr, tr193, T193_lp, lp193, T193_ex, ex193, T193_rg, rg193, T193_jn, jn193, T193_fuel, T193_pins, nl193_4_fix, nl193_4_keep, nl193_4_zero, nx193_0_fix, nx193_0_keep, nx193_0_zero, Γ193_194, Γ193_231, g194, g231, hret, h0, ih]
theorem run193 (N : Nat) (v0 : Val Y108) : runT tt Γ193 (T193 N) (Tryz.f193.body.getD .skip) (retR tt true [i4] [.tmp 2]) (entryP [i108] 34 (v0, ())) = m193 N v0 := by
  unfold Tryz.f193
  simp (maxSteps := 10000000) -implicitDefEqProofs [T193_tr, tr193, T193_lp, lp193, T193_ex, ex193, T193_rg, rg193, T193_jn, jn193, T193_fuel, T193_pins, nl193_4_fix, nl193_4_keep, nl193_4_zero, nx193_0_fix, nx193_0_keep, nx193_0_zero, Γ193_194, Γ193_231, g194, g231]
  rewrite [r193_l4 (k0 := (fun (_ : Unit) => chk (gcdL_pre (v0.1 : List (Val (.int .i64))) (v0.2.1 : Int)) (some ((decide (((gcdL (v0.1 : List (Val (.int .i64))) (v0.2.1 : Int)) : Int) ≤ (1 : Int))), ())))) N _ _ _ ?_ ?_ ?_]
  · rewrite [m193]; first | rfl | simp (maxSteps := 10000000) -implicitDefEqProofs []
  · rfl
  · intro; simp only [seqR_ret, blockR_ret, retR_ret, retX_ret]
  · simp (maxSteps := 10000000) -implicitDefEqProofs [T193_tr, tr193, T193_lp, lp193, T193_ex, ex193, T193_rg, rg193, T193_jn, jn193, T193_fuel, T193_pins, nl193_4_fix, nl193_4_keep, nl193_4_zero, nx193_0_fix, nx193_0_keep, nx193_0_zero, Γ193_194, Γ193_231, g194, g231]
noncomputable def m279_l4 (N : Nat) (v1 : List (Val (.int .i64))) (v2 : Int) (v4 : List (Val (.int .i64))) (v5 : Int) (v6 : Bool) (k0 : Unit → Option (Vals [i4])) : Nat → Int → Option (Vals [i4])
  | 0, _ => none
  | n + 1, v3 => bif (decide (v3 < v2)) then (chk (0 ≤ v3 ∧ v3 < (v1.length : Int)) (bif (!((isNum ((v1.getD v3.toNat (dflt (.int .i64))) : Int)) : Bool)) then (some (false, ())) else (m279_l4 N v1 v2 v4 v5 v6 k0 n (IntKind.i64.wrap (v3 + (1 : Int)))))) else (k0 ())
noncomputable def m279 (N : Nat) (v0 : Val Y108) : Option (Vals [i4]) := bif (decide ((4 : Int) < ((v0.1 : List (Val (.int .i64))).length : Int))) then (some (false, ())) else (bif (!((isNum (v0.2.1 : Int)) : Bool)) then (some (false, ())) else (m279_l4 N (v0.1 : List (Val (.int .i64))) ((v0.1 : List (Val (.int .i64))).length : Int) (v0.1 : List (Val (.int .i64))) (v0.2.1 : Int) (v0.2.2 : Bool) (fun (_ : Unit) => chk (gcdM_pre (v0.1 : List (Val (.int .i64)))) (chk (gcdI_pre ((gcdM (v0.1 : List (Val (.int .i64)))) : Int) (v0.2.1 : Int)) (some ((decide (((gcdI ((gcdM (v0.1 : List (Val (.int .i64)))) : Int) (v0.2.1 : Int)) : Int) ≤ (1 : Int))), ())))) N (0 : Int)))
def Γ279 : Gam := [(204, g204), (280, g280), (282, g282)]
theorem Γ279_204 : Gam.get Γ279 204 = some g204 := rfl
theorem Γ279_280 : Gam.get Γ279 280 = some g280 := rfl
theorem Γ279_282 : Gam.get Γ279 282 = some g282 := rfl
def nl279_4 : Nm := ⟨[false, true, false, false, false, false, false, false, false, false, false, false, false, false, false, false, true, true, true], [], false⟩
theorem nl279_4_zero : nl279_4.zero = false := rfl
theorem nl279_4_fix : nl279_4.fix = [] := rfl
theorem nl279_4_keep : nl279_4.keep = [false, true, false, false, false, false, false, false, false, false, false, false, false, false, false, false, true, true, true] := rfl
def nx279_0 : Nm := ⟨[false, true], [], false⟩
theorem nx279_0_zero : nx279_0.zero = false := rfl
theorem nx279_0_fix : nx279_0.fix = [] := rfl
theorem nx279_0_keep : nx279_0.keep = [false, true] := rfl
def nr279_9 : Nm := ⟨[false, false, true], [], false⟩
theorem nr279_9_zero : nr279_9.zero = false := rfl
theorem nr279_9_fix : nr279_9.fix = [] := rfl
theorem nr279_9_keep : nr279_9.keep = [false, false, true] := rfl
def tr279 : Nat → Tree := fun i => if i = 9 then .quiet 0 (.quiet 1 (.alt 2 (.quiet 3 (.quiet 4 (.alt 5 (.quiet 6 (.quiet 7 .done)) .stop))) (.alt 3 (.alt 2 (.quiet 4 (.alt 5 (.quiet 6 (.quiet 7 .done)) .stop)) (.alt 4 (.alt 2 (.alt 5 (.quiet 6 (.quiet 7 .done)) .stop) .stop) .stop)) .stop))) else .done
def lp279 : Nat → Nm := fun i => if i = 4 then nl279_4 else ⟨[], [], false⟩
def jn279 : Nat → Option Jn := fun _ => none
def ex279 : Nat → Option Nm := fun i => if i = 0 then some nx279_0 else none
def rg279 : Nat → Option Nm := fun i => if i = 9 then some nr279_9 else none
theorem p279 : plansOk tr279 (Tryz.f279.body.getD .skip) = true := by kernel_rfl
def T279 (N : Nat) : Tab := { tr := tr279, lp := lp279, ex := ex279, rg := rg279, jn := jn279, fuel := N }
theorem T279_pins (N : Nat) : (T279 N).pins = false := rfl
theorem tb279 (N : Nat) : TbOk Tryz.prog (T279 N) := tb_none fun _ => rfl
theorem T279_tr (N : Nat) (i : Nat) : (T279 N).tr i = tr279 i := rfl
theorem T279_lp (N : Nat) (i : Nat) : (T279 N).lp i = lp279 i := rfl
theorem T279_ex (N : Nat) (i : Nat) : (T279 N).ex i = ex279 i := rfl
theorem T279_rg (N : Nat) (i : Nat) : (T279 N).rg i = rg279 i := rfl
theorem T279_jn (N : Nat) (i : Nat) : (T279 N).jn i = jn279 i := rfl
theorem T279_fuel (N : Nat) : (T279 N).fuel = N := rfl
noncomputable def c279_4 : Code := cut [true, true, false, true, true, true] (Tryz.f279.body.getD .skip)
theorem c279_4_at {N : Nat} {Q : X → St → Option (Vals [i4])} {e : List LV} {h : List Blk} : runT tt Γ279 (T279 N) c279_4 Q ⟨e, h⟩ = runT tt Γ279 (T279 N) (cut [true, true, false, true, true, true] (Tryz.f279.body.getD .skip)) Q ⟨e, h⟩ := rfl
theorem r279_l4 (N : Nat) (v1 : List (Val (.int .i64))) (v2 : Int) (v4 : List (Val (.int .i64))) (v5 : Int) (v6 : Bool) {k0 : Unit → Option (Vals [i4])} {Q : X → St → Option (Vals [i4])} {c : Code} (hc : c = c279_4) (hret : ∀ st, Q .ret st = retS tt true [i4] [.tmp 2] st) (h0 : Q (.exit 0) ⟨[u, .one (.ptr 0 0 0), u, u, u, u, u, u, u, u, u, u, u, u, u, u, u, u, u, u, u, u, u, u, u, u, u, u, u, u, u, u, u], [.box [.sl 3 (.int .i64) v4 1, .int .i64 v5, .bool v6]]⟩ = k0 ()) : ∀ (n : Nat) (v3 : Int), loopR (runT tt Γ279 (T279 N) c) false nl279_4 Q n ⟨[u, .one (.ptr 0 0 0), u, u, u, u, u, u, u, u, u, u, u, u, u, u, .one (.sl 3 (.int .i64) v1 1), .one (.int .i64 v2), .one (.int .i64 v3), u, u, u, u, u, u, u, u, u, u, u, u, u, u], [.box [.sl 3 (.int .i64) v4 1, .int .i64 v5, .bool v6]]⟩ = m279_l4 N v1 v2 v4 v5 v6 k0 n v3 := by
  subst hc; intro n; induction n with
  | zero => intros; rfl
  | succ n ih =>
    intro v3
    rw [loop_succ, c279_4_at, m279_l4]; unfold Tryz.f279
    simp (maxSteps := 10000000) -implicitDefEqProofs [T279_tr, tr279, T279_lp, lp279, T279_ex, ex279, T279_rg, rg279, T279_jn, jn279, T279_fuel, T279_pins, nl279_4_fix, nl279_4_keep, nl279_4_zero, nx279_0_fix, nx279_0_keep, nx279_0_zero, nr279_9_fix, nr279_9_keep, nr279_9_zero, Γ279_204, Γ279_280, Γ279_282, g204, g280, g282, hret, h0, ih]
theorem run279 (N : Nat) (v0 : Val Y108) : runT tt Γ279 (T279 N) (Tryz.f279.body.getD .skip) (retR tt true [i4] [.tmp 2]) (entryP [i108] 33 (v0, ())) = m279 N v0 := by
  unfold Tryz.f279
  simp (maxSteps := 10000000) -implicitDefEqProofs [T279_tr, tr279, T279_lp, lp279, T279_ex, ex279, T279_rg, rg279, T279_jn, jn279, T279_fuel, T279_pins, nl279_4_fix, nl279_4_keep, nl279_4_zero, nx279_0_fix, nx279_0_keep, nx279_0_zero, nr279_9_fix, nr279_9_keep, nr279_9_zero, Γ279_204, Γ279_280, Γ279_282, g204, g280, g282]
  rewrite [r279_l4 (k0 := (fun (_ : Unit) => chk (gcdM_pre (v0.1 : List (Val (.int .i64)))) (chk (gcdI_pre ((gcdM (v0.1 : List (Val (.int .i64)))) : Int) (v0.2.1 : Int)) (some ((decide (((gcdI ((gcdM (v0.1 : List (Val (.int .i64)))) : Int) (v0.2.1 : Int)) : Int) ≤ (1 : Int))), ()))))) N _ _ _ _ _ ?_ ?_ ?_]
  · rewrite [m279]; first | rfl | simp (maxSteps := 10000000) -implicitDefEqProofs []
  · rfl
  · intro; simp only [seqR_ret, blockR_ret, retR_ret, retX_ret]
  · simp (maxSteps := 10000000) -implicitDefEqProofs [T279_tr, tr279, T279_lp, lp279, T279_ex, ex279, T279_rg, rg279, T279_jn, jn279, T279_fuel, T279_pins, nl279_4_fix, nl279_4_keep, nl279_4_zero, nx279_0_fix, nx279_0_keep, nx279_0_zero, nr279_9_fix, nr279_9_keep, nr279_9_zero, Γ279_204, Γ279_280, Γ279_282, g204, g280, g282]
theorem numIn {n : Int} (h : isNum n = true) : inI n := by
  unfold isNum at h; unfold inI; have := of_decide_eq_true h; omega
def g193 : G := { ps := [i108], rs := [i4], dp := true, pre := fun _ => True, fn := fun x => (isAtom x.1, ()) }
def g279 : G := { ps := [i108], rs := [i4], dp := true, pre := fun _ => True, fn := fun x => (isAtom x.1, ()) }
theorem t193 (N : Nat) (xs : List (Val (.int .i64))) (c : Int) (b : Bool) (K : Unit → Option (Vals [i4])) (hl : xs.length ≤ 1048576) (n : Nat) (hn : xs.length < n) : m193_l4 N xs c b K n 0 = bif List.all (α := Int) xs isNum then K () else some (false, ()) :=
  (loop_fold (F := fun n i (_ : Unit) => m193_l4 N xs c b K n i) (step := fun _ x _ K => bif isNum x then K () else some (false, ())) (k := K) hl (fun n i s hi => by rw [m193_l4, bif_dec (by omega), chk_pos (by omega), getD_atI hi, bif_not]) (fun n i s hi => by rw [m193_l4, bif_decN (by omega)]) n () hn).trans (foldK_all xs 0)
theorem t279 (N : Nat) (xs ys : List (Val (.int .i64))) (c : Int) (b : Bool) (K : Unit → Option (Vals [i4])) (hl : xs.length ≤ 1048576) (n : Nat) (hn : xs.length < n) : m279_l4 N xs xs.length ys c b K n 0 = bif List.all (α := Int) xs isNum then K () else some (false, ()) :=
  (loop_fold (F := fun n i (_ : Unit) => m279_l4 N xs xs.length ys c b K n i) (step := fun _ x _ K => bif isNum x then K () else some (false, ())) (k := K) hl (fun n i s hi => by rw [m279_l4, bif_dec (by omega), chk_pos (by omega), getD_atI hi, bif_not]) (fun n i s hi => by rw [m279_l4, bif_decN (by omega)]) n () hn).trans (foldK_all xs 0)
theorem e193 (a : Val Y108) : ∃ N, m193 N a = some (isAtom a, ()) := ⟨(a.1 : List (Val (.int .i64))).length + 1, by
  obtain ⟨xs, c, b⟩ := a
  change List (Val (.int .i64)) at xs
  change Int at c
  change Bool at b
  rw [m193, isAtom]
  dsimp only
  by_cases h4 : xs.length ≤ 4
  · rw [bif_decN (by omega)]
    cases hc : isNum c with
    | false => simp
    | true =>
      rw [t193 _ xs _ _ _ (by omega) _ (Nat.lt_succ_self _)]
      cases ha : List.all (α := Int) xs isNum with
      | false => simp
      | true =>
        rw [chk_pos (show gcdL_pre xs c from ⟨by omega, numIn hc, fun x hx => numIn (List.all_eq_true.1 ha x hx)⟩)]
        simp [h4, gcdL]
        rfl
  · rw [bif_dec (by omega)]
    simp [h4]⟩
theorem s193 : Sound Tryz.prog 193 g193 := sound_run (tt := tt) (Γ := Γ193) hT (ok_cons s194 (ok_cons s231 ok_nil)) hm (fn := Tryz.f193) Tryz.func193 (c := Tryz.f193.body.getD .skip) (by kernel_rfl) (by kernel_rfl) fun x hx => by
  obtain ⟨N, h⟩ := e193 x.1
  exact ⟨T193 N, p193, noSem_ok _, tb193 N, (run193 N x.1).trans h⟩
theorem gL_in : ∀ (xs : List Int) (g : Nat), (g : Int) ≤ 9223372036854775807 → (∀ x ∈ xs, inI x) → inI (gL g xs : Nat)
  | [], g, h, _ => by unfold inI gL; omega
  | x :: xs, g, h, hx => gL_in xs _ (gcdI_in h (hx x (by simp))).2 fun y hy => hx y (by simp [hy])
theorem e279 (a : Val Y108) : ∃ N, m279 N a = some (isAtom a, ()) := ⟨(a.1 : List (Val (.int .i64))).length + 1, by
  obtain ⟨xs, c, b⟩ := a
  change List (Val (.int .i64)) at xs
  change Int at c
  change Bool at b
  rw [m279, isAtom]
  dsimp only
  by_cases h4 : xs.length ≤ 4
  · rw [bif_decN (by omega)]
    cases hc : isNum c with
    | false => simp
    | true =>
      rw [t279 _ xs _ _ _ _ (by omega) _ (Nat.lt_succ_self _)]
      cases ha : List.all (α := Int) xs isNum with
      | false => simp
      | true =>
        have hx : ∀ x ∈ xs, inI x := fun x hx => numIn (List.all_eq_true.1 ha x hx)
        have e : Nat.gcd (gL 0 xs) c.natAbs = gL c.natAbs xs := by rw [← gL_gcd, Nat.gcd_zero_left]
        rw [chk_pos (show gcdM_pre xs from ⟨by omega, hx⟩), chk_pos (show gcdI_pre (gcdM xs) c from ⟨gL_in xs 0 (by omega) hx, numIn hc⟩)]
        simp [h4, gcdM, gcdI, e]
  · rw [bif_dec (by omega)]
    simp [h4]⟩
theorem s279 : Sound Tryz.prog 279 g279 := sound_run (tt := tt) (Γ := Γ279) hT (ok_cons s204 (ok_cons s280 (ok_cons s282 ok_nil))) hm (fn := Tryz.f279) Tryz.func279 (c := Tryz.f279.body.getD .skip) (by kernel_rfl) (by kernel_rfl) fun x hx => by
  obtain ⟨N, h⟩ := e279 x.1
  exact ⟨T279 N, p279, noSem_ok _, tb279 N, (run279 N x.1).trans h⟩
end Go.T
