/- Whole numbers; atoms; cells; relations: what the functions compute. -/
import Derived.Test.YthefcjjgchekiaaA1
set_option linter.unusedSimpArgs false
set_option linter.unusedVariables false
namespace Go.T
open Go Go.Proofs
set_option maxHeartbeats 1000000
set_option maxRecDepth 100000
def inI (n : Int) : Prop := -9223372036854775807 ≤ n ∧ n ≤ 9223372036854775807
def absI (n : Int) : Int := (n.natAbs : Int)
def absI_pre (n : Int) : Prop := inI n
def gcdI (a b : Int) : Int := (Nat.gcd a.natAbs b.natAbs : Nat)
def gcdI_pre (a b : Int) : Prop := inI a ∧ inI b
def gcdL (xs : List (Val (.int .i64))) (k : Int) : Int := (gL k.natAbs xs : Nat)
def gcdL_pre (xs : List (Val (.int .i64))) (k : Int) : Prop := xs.length ≤ 1048576 ∧ inI k ∧ ∀ x ∈ xs, inI x
def gcdM (xs : List (Val (.int .i64))) : Int := (gL 0 xs : Nat)
def gcdM_pre (xs : List (Val (.int .i64))) : Prop := xs.length ≤ 1048576 ∧ ∀ x ∈ xs, inI x
def isNum (n : Int) : Bool := decide (-400000000 ≤ n ∧ n ≤ 400000000)
def inR (x a b : Int) : Bool := decide (a ≤ x ∧ x ≤ b)
def g83 : G := { ps := [i3], rs := [i3], dp := true, pre := fun x => absI_pre x.1, fn := fun x => (absI x.1, ()) }
-- impl.absolute
noncomputable def m83 (N : Nat) (v0 : Int) : Option (Vals [i3]) := bif (decide (v0 < (0 : Int))) then (some ((IntKind.i64.wrap (0 - v0)), ())) else (some (v0, ()))
def Γ83 : Gam := []
def tr83 : Nat → Tree := fun _ => .done
def lp83 : Nat → Nm := fun _ => ⟨[], []⟩
def jn83 : Nat → Option Jn := fun _ => none
def ex83 : Nat → Option Nm := fun _ => none
def rg83 : Nat → Option Nm := fun _ => none
theorem p83 : plansOk tr83 (Try.f83.body.getD .skip) = true := by kernel_rfl
def T83 (N : Nat) : Tab := { tr := tr83, lp := lp83, ex := ex83, rg := rg83, jn := jn83, fuel := N }
theorem T83_pins (N : Nat) : (T83 N).pins = false := rfl
theorem tb83 (N : Nat) : TbOk Try.prog (T83 N) := tb_none fun _ => rfl
theorem T83_tr (N i : Nat) : (T83 N).tr i = tr83 i := rfl
theorem T83_lp (N i : Nat) : (T83 N).lp i = lp83 i := rfl
theorem T83_ex (N i : Nat) : (T83 N).ex i = ex83 i := rfl
theorem T83_rg (N i : Nat) : (T83 N).rg i = rg83 i := rfl
theorem T83_jn (N i : Nat) : (T83 N).jn i = jn83 i := rfl
theorem T83_fuel (N : Nat) : (T83 N).fuel = N := rfl
theorem run83 (N : Nat) (v0 : Int) : runT tt Γ83 (T83 N) (Try.f83.body.getD .skip) (retR tt true [i3] [.tmp 2]) (entryP [i3] 8 (v0, ())) = m83 N v0 := by
  rw [m83]; unfold Try.f83
  simp (maxSteps := 10000000) -implicitDefEqProofs [T83_tr, tr83, T83_lp, lp83, T83_ex, ex83, T83_rg, rg83, T83_jn, jn83, T83_fuel, T83_pins]
  try rfl
theorem e83 (n : Int) (h : inI n) : ∃ N, m83 N n = some (absI n, ()) := ⟨0, by
  unfold inI at h
  simp only [m83, absI]
  by_cases h0 : n < 0
  · have e : IntKind.i64.wrap (0 - n) = (n.natAbs : Int) := by rw [wrap64 (by omega) (by omega)]; omega
    simp only [h0, decide_true, cond_true, e]
  · have e : (n.natAbs : Int) = n := by omega
    simp [h0, e]⟩
theorem s83 : Sound Try.prog 83 g83 := sound_run (tt := tt) (Γ := Γ83) hT ok_nil hm (fn := Try.f83) Try.func83 (c := Try.f83.body.getD .skip) (by kernel_rfl) (by kernel_rfl) fun x hx => by
  obtain ⟨N, h⟩ := e83 x.1 hx
  exact ⟨T83 N, p83, noSem_ok _, tb83 N, (run83 N x.1).trans h⟩
-- impl.commonDivisor
noncomputable def m65_l2 (N : Nat)  (k0 : Int → Option (Vals [i3])) : Nat → Int → Int → Option (Vals [i3])
  | 0, _, _ => none
  | n + 1, v2, v3 => bif (!(decide (v3 = (0 : Int)))) then (chk (v3 ≠ 0) (m65_l2 N  k0 n v3 (v2.tmod v3))) else (k0 v2)
noncomputable def m65 (N : Nat) (v0 : Int) (v1 : Int) : Option (Vals [i3]) := chk (absI_pre v0) (chk (absI_pre v1) (m65_l2 N  (fun (v5 : Int) => some (v5, ())) N ((absI v0) : Int) ((absI v1) : Int)))
def Γ65 : Gam := [(83, g83)]
theorem Γ65_83 : Gam.get Γ65 83 = some g83 := rfl
def nl65_2 : Nm := ⟨[true, true], []⟩
theorem nl65_2_fix : nl65_2.fix = [] := rfl
theorem nl65_2_keep : nl65_2.keep = [true, true] := rfl
def nx65_0 : Nm := ⟨[true], []⟩
theorem nx65_0_fix : nx65_0.fix = [] := rfl
theorem nx65_0_keep : nx65_0.keep = [true] := rfl
def tr65 : Nat → Tree := fun i => if i = 3 then .quiet 0 (.quiet 1 (.quiet 2 (.quiet 3 (.quiet 4 (.quiet 5 .done))))) else .done
def lp65 : Nat → Nm := fun i => if i = 2 then nl65_2 else ⟨[], []⟩
def jn65 : Nat → Option Jn := fun _ => none
def ex65 : Nat → Option Nm := fun i => if i = 0 then some nx65_0 else none
def rg65 : Nat → Option Nm := fun _ => none
theorem p65 : plansOk tr65 (Try.f65.body.getD .skip) = true := by kernel_rfl
def T65 (N : Nat) : Tab := { tr := tr65, lp := lp65, ex := ex65, rg := rg65, jn := jn65, fuel := N }
theorem T65_pins (N : Nat) : (T65 N).pins = false := rfl
theorem tb65 (N : Nat) : TbOk Try.prog (T65 N) := tb_none fun _ => rfl
theorem T65_tr (N i : Nat) : (T65 N).tr i = tr65 i := rfl
theorem T65_lp (N i : Nat) : (T65 N).lp i = lp65 i := rfl
theorem T65_ex (N i : Nat) : (T65 N).ex i = ex65 i := rfl
theorem T65_rg (N i : Nat) : (T65 N).rg i = rg65 i := rfl
theorem T65_jn (N i : Nat) : (T65 N).jn i = jn65 i := rfl
theorem T65_fuel (N : Nat) : (T65 N).fuel = N := rfl
noncomputable def c65_2 : Code := cut [true, true, false, true, true] (Try.f65.body.getD .skip)
theorem c65_2_at {N : Nat} {Q : X → St → Option (Vals [i3])} {e : List LV} {h : List Blk} : runT tt Γ65 (T65 N) c65_2 Q ⟨e, h⟩ = runT tt Γ65 (T65 N) (cut [true, true, false, true, true] (Try.f65.body.getD .skip)) Q ⟨e, h⟩ := rfl
theorem r65_l2 (N : Nat)  {k0 : Int → Option (Vals [i3])} {Q : X → St → Option (Vals [i3])} {c : Code} (hc : c = c65_2) (hret : ∀ st, Q .ret st = retS tt true [i3] [.tmp 4] st) (h0 : ∀ (v4 : Int), Q (.exit 0) ⟨[.one (.int .i64 v4), u, u, u, u, u, u, u, u, u, u, u, u, u, u, u], []⟩ = k0 v4) : ∀ (n : Nat) (v2 : Int) (v3 : Int), loopR (runT tt Γ65 (T65 N) c) false nl65_2 Q n ⟨[.one (.int .i64 v2), .one (.int .i64 v3), u, u, u, u, u, u, u, u, u, u, u, u, u, u], []⟩ = m65_l2 N  k0 n v2 v3 := by
  subst hc; intro n; induction n with
  | zero => intros; rfl
  | succ n ih =>
    intro v2 v3
    rw [loop_succ, c65_2_at, m65_l2]; unfold Try.f65
    simp (maxSteps := 10000000) -implicitDefEqProofs [T65_tr, tr65, T65_lp, lp65, T65_ex, ex65, T65_rg, rg65, T65_jn, jn65, T65_fuel, T65_pins, nl65_2_fix, nl65_2_keep, nx65_0_fix, nx65_0_keep, Γ65_83, g83, hret, h0, ih]
theorem run65 (N : Nat) (v0 : Int) (v1 : Int) : runT tt Γ65 (T65 N) (Try.f65.body.getD .skip) (retR tt true [i3] [.tmp 4]) (entryP [i3, i3] 16 (v0, v1, ())) = m65 N v0 v1 := by
  unfold Try.f65
  simp (maxSteps := 10000000) -implicitDefEqProofs [T65_tr, tr65, T65_lp, lp65, T65_ex, ex65, T65_rg, rg65, T65_jn, jn65, T65_fuel, T65_pins, nl65_2_fix, nl65_2_keep, nx65_0_fix, nx65_0_keep, Γ65_83, g83]
  rewrite [r65_l2 (k0 := (fun (v5 : Int) => some (v5, ()))) N  ?_ ?_ ?_]
  · rewrite [m65]; first | rfl | simp (maxSteps := 10000000) -implicitDefEqProofs []
  · rfl
  · intro; simp only [seqR_ret, blockR_ret, retR_ret, retX_ret]
  · intro v5; simp (maxSteps := 10000000) -implicitDefEqProofs [T65_tr, tr65, T65_lp, lp65, T65_ex, ex65, T65_rg, rg65, T65_jn, jn65, T65_fuel, T65_pins, nl65_2_fix, nl65_2_keep, nx65_0_fix, nx65_0_keep, Γ65_83, g83]
theorem t65 (N : Nat) (k : Int → Option (Vals [i3])) : ∀ (n a b : Nat), b < n → m65_l2 N k n (a : Int) (b : Int) = k (Nat.gcd a b : Nat)
  | 0, _, _, h => by omega
  | n + 1, a, b, h => by
    rw [m65_l2]
    by_cases hb : b = 0
    · subst hb; simp
    · have hb' : ¬ ((b : Int) = 0) := by omega
      have hlt : a % b < b := Nat.mod_lt _ (by omega)
      have hm : ((a : Int).tmod (b : Int)) = ((a % b : Nat) : Int) := by rw [Int.tmod_eq_emod_of_nonneg (by omega)]; rfl
      simp only [hb', decide_false, Bool.not_false, cond_true, ne_eq, not_false_eq_true, chk_true]
      rw [hm, t65 N k n b (a % b) (by omega)]
      congr 2
      rw [Nat.gcd_comm b, ← Nat.gcd_rec, Nat.gcd_comm]
def g65 : G := { ps := [i3, i3], rs := [i3], dp := true, pre := fun x => gcdI_pre x.1 x.2.1, fn := fun x => (gcdI x.1 x.2.1, ()) }
theorem e65 (a b : Int) (h : gcdI_pre a b) : ∃ N, m65 N a b = some (gcdI a b, ()) := ⟨b.natAbs + 1, by
  rw [m65, chk_pos (show absI_pre a from h.1), chk_pos (show absI_pre b from h.2)]
  simp only [absI]
  rw [t65 _ _ _ _ _ (Nat.lt_succ_self _)]
  rfl⟩
theorem s65 : Sound Try.prog 65 g65 := sound_run (tt := tt) (Γ := Γ65) hT (ok_cons s83 ok_nil) hm (fn := Try.f65) Try.func65 (c := Try.f65.body.getD .skip) (by kernel_rfl) (by kernel_rfl) fun x hx => by
  obtain ⟨N, h⟩ := e65 x.1 x.2.1 hx
  exact ⟨T65 N, p65, noSem_ok _, tb65 N, (run65 N x.1 x.2.1).trans h⟩
theorem gcdI_in {g : Nat} {x : Int} (hg : (g : Int) ≤ 9223372036854775807) (hx : inI x) : gcdI_pre (g : Int) x ∧ ((Nat.gcd g x.natAbs : Nat) : Int) ≤ 9223372036854775807 := by
  refine ⟨⟨⟨by omega, hg⟩, hx⟩, ?_⟩
  unfold inI at hx
  by_cases h0 : x.natAbs = 0
  · rw [h0]; simpa using hg
  · have := Nat.gcd_le_right (m := g) (n := x.natAbs) (by omega)
    omega
theorem gcd_fold {ρ : Type} : ∀ (xs : List Int) (i g : Nat) (k : Int → Option ρ), (g : Int) ≤ 9223372036854775807 → (∀ x ∈ xs, inI x) → foldK (fun _ x s K => chk (gcdI_pre s x) (K (gcdI s x))) i xs (g : Int) k = k (gL g xs : Nat)
  | [], _, _, _, _, _ => rfl
  | x :: xs, i, g, k, hg, hx => by
    obtain ⟨h1, h2⟩ := gcdI_in hg (hx x (by simp))
    rw [foldK, chk_pos h1]
    exact gcd_fold xs (i + 1) _ k h2 fun y hy => hx y (by simp [hy])
-- impl.divisorOf
noncomputable def m66_l3 (N : Nat) (v2 : List (Val (.int .i64))) (v3 : Int) (k0 : Int → Option (Vals [i3])) : Nat → Int → Int → Option (Vals [i3])
  | 0, _, _ => none
  | n + 1, v1, v4 => bif (decide (v4 < v3)) then (chk (0 ≤ v4 ∧ v4 < (v2.length : Int)) (chk (gcdI_pre v1 ((v2.getD v4.toNat (dflt (.int .i64))) : Int)) (m66_l3 N v2 v3 k0 n ((gcdI v1 ((v2.getD v4.toNat (dflt (.int .i64))) : Int)) : Int) (IntKind.i64.wrap (v4 + (1 : Int)))))) else (k0 v1)
noncomputable def m66 (N : Nat) (v0 : List (Val (.int .i64))) : Option (Vals [i3]) := m66_l3 N v0 (v0.length : Int) (fun (v6 : Int) => some (v6, ())) N (0 : Int) (0 : Int)
def Γ66 : Gam := [(65, g65)]
theorem Γ66_65 : Gam.get Γ66 65 = some g65 := rfl
def nl66_3 : Nm := ⟨[false, false, false, true, false, false, true, true, true], []⟩
theorem nl66_3_fix : nl66_3.fix = [] := rfl
theorem nl66_3_keep : nl66_3.keep = [false, false, false, true, false, false, true, true, true] := rfl
def nx66_0 : Nm := ⟨[false, false, false, true], []⟩
theorem nx66_0_fix : nx66_0.fix = [] := rfl
theorem nx66_0_keep : nx66_0.keep = [false, false, false, true] := rfl
def tr66 : Nat → Tree := fun _ => .done
def lp66 : Nat → Nm := fun i => if i = 3 then nl66_3 else ⟨[], []⟩
def jn66 : Nat → Option Jn := fun _ => none
def ex66 : Nat → Option Nm := fun i => if i = 0 then some nx66_0 else none
def rg66 : Nat → Option Nm := fun _ => none
theorem p66 : plansOk tr66 (Try.f66.body.getD .skip) = true := by kernel_rfl
def T66 (N : Nat) : Tab := { tr := tr66, lp := lp66, ex := ex66, rg := rg66, jn := jn66, fuel := N }
theorem T66_pins (N : Nat) : (T66 N).pins = false := rfl
theorem tb66 (N : Nat) : TbOk Try.prog (T66 N) := tb_none fun _ => rfl
theorem T66_tr (N i : Nat) : (T66 N).tr i = tr66 i := rfl
theorem T66_lp (N i : Nat) : (T66 N).lp i = lp66 i := rfl
theorem T66_ex (N i : Nat) : (T66 N).ex i = ex66 i := rfl
theorem T66_rg (N i : Nat) : (T66 N).rg i = rg66 i := rfl
theorem T66_jn (N i : Nat) : (T66 N).jn i = jn66 i := rfl
theorem T66_fuel (N : Nat) : (T66 N).fuel = N := rfl
noncomputable def c66_3 : Code := cut [true, true, false, true, true, true] (Try.f66.body.getD .skip)
theorem c66_3_at {N : Nat} {Q : X → St → Option (Vals [i3])} {e : List LV} {h : List Blk} : runT tt Γ66 (T66 N) c66_3 Q ⟨e, h⟩ = runT tt Γ66 (T66 N) (cut [true, true, false, true, true, true] (Try.f66.body.getD .skip)) Q ⟨e, h⟩ := rfl
theorem r66_l3 (N : Nat) (v2 : List (Val (.int .i64))) (v3 : Int) {k0 : Int → Option (Vals [i3])} {Q : X → St → Option (Vals [i3])} {c : Code} (hc : c = c66_3) (hret : ∀ st, Q .ret st = retS tt true [i3] [.tmp 2] st) (h0 : ∀ (v5 : Int), Q (.exit 0) ⟨[u, u, u, .one (.int .i64 v5), u, u, u, u, u, u, u, u, u, u, u, u, u], []⟩ = k0 v5) : ∀ (n : Nat) (v1 : Int) (v4 : Int), loopR (runT tt Γ66 (T66 N) c) false nl66_3 Q n ⟨[u, u, u, .one (.int .i64 v1), u, u, .one (.sl 3 (.int .i64) v2 0), .one (.int .i64 v3), .one (.int .i64 v4), u, u, u, u, u, u, u, u], []⟩ = m66_l3 N v2 v3 k0 n v1 v4 := by
  subst hc; intro n; induction n with
  | zero => intros; rfl
  | succ n ih =>
    intro v1 v4
    rw [loop_succ, c66_3_at, m66_l3]; unfold Try.f66
    simp (maxSteps := 10000000) -implicitDefEqProofs [T66_tr, tr66, T66_lp, lp66, T66_ex, ex66, T66_rg, rg66, T66_jn, jn66, T66_fuel, T66_pins, nl66_3_fix, nl66_3_keep, nx66_0_fix, nx66_0_keep, Γ66_65, g65, hret, h0, ih]
theorem run66 (N : Nat) (v0 : List (Val (.int .i64))) : runT tt Γ66 (T66 N) (Try.f66.body.getD .skip) (retR tt true [i3] [.tmp 2]) (entryP [i25] 17 (v0, ())) = m66 N v0 := by
  unfold Try.f66
  simp (maxSteps := 10000000) -implicitDefEqProofs [T66_tr, tr66, T66_lp, lp66, T66_ex, ex66, T66_rg, rg66, T66_jn, jn66, T66_fuel, T66_pins, nl66_3_fix, nl66_3_keep, nx66_0_fix, nx66_0_keep, Γ66_65, g65]
  rewrite [r66_l3 (k0 := (fun (v6 : Int) => some (v6, ()))) N _ _ ?_ ?_ ?_]
  · rewrite [m66]; first | rfl | simp (maxSteps := 10000000) -implicitDefEqProofs []
  · rfl
  · intro; simp only [seqR_ret, blockR_ret, retR_ret, retX_ret]
  · intro v6; simp (maxSteps := 10000000) -implicitDefEqProofs [T66_tr, tr66, T66_lp, lp66, T66_ex, ex66, T66_rg, rg66, T66_jn, jn66, T66_fuel, T66_pins, nl66_3_fix, nl66_3_keep, nx66_0_fix, nx66_0_keep, Γ66_65, g65]
def g66 : G := { ps := [i25], rs := [i3], dp := true, pre := fun x => gcdM_pre x.1, fn := fun x => (gcdM x.1, ()) }
theorem e66 (xs : List (Val (.int .i64))) (h : gcdM_pre xs) : ∃ N, m66 N xs = some (gcdM xs, ()) := ⟨xs.length + 1, by
  rw [m66]
  rw [loop_fold (F := fun n i s => m66_l3 _ xs xs.length _ n s i) (step := fun _ x s K => chk (gcdI_pre s x) (K (gcdI s x))) (k := fun s => some (s, ())) h.1 ?_ ?_ _ _ (Nat.lt_succ_self _)]
  · exact gcd_fold xs 0 0 _ (by omega) h.2
  · intro n i s hi
    rw [m66_l3, bif_dec (by omega), chk_pos (by omega), getD_atI hi]
  · intro n i s hi
    rw [m66_l3, bif_decN (by omega)]⟩
theorem s66 : Sound Try.prog 66 g66 := sound_run (tt := tt) (Γ := Γ66) hT (ok_cons s65 ok_nil) hm (fn := Try.f66) Try.func66 (c := Try.f66.body.getD .skip) (by kernel_rfl) (by kernel_rfl) fun x hx => by
  obtain ⟨N, h⟩ := e66 x.1 hx
  exact ⟨T66 N, p66, noSem_ok _, tb66 N, (run66 N x.1).trans h⟩
def g80 : G := { ps := [i3], rs := [i3], dp := true, pre := fun x => absI_pre x.1, fn := fun x => (absI x.1, ()) }
-- spec.l1Abs
noncomputable def m80 (N : Nat) (v0 : Int) : Option (Vals [i3]) := some ((max v0 (IntKind.i64.wrap (0 - v0))), ())
def Γ80 : Gam := []
def tr80 : Nat → Tree := fun _ => .done
def lp80 : Nat → Nm := fun _ => ⟨[], []⟩
def jn80 : Nat → Option Jn := fun _ => none
def ex80 : Nat → Option Nm := fun _ => none
def rg80 : Nat → Option Nm := fun _ => none
theorem p80 : plansOk tr80 (Try.f80.body.getD .skip) = true := by kernel_rfl
def T80 (N : Nat) : Tab := { tr := tr80, lp := lp80, ex := ex80, rg := rg80, jn := jn80, fuel := N }
theorem T80_pins (N : Nat) : (T80 N).pins = false := rfl
theorem tb80 (N : Nat) : TbOk Try.prog (T80 N) := tb_none fun _ => rfl
theorem T80_tr (N i : Nat) : (T80 N).tr i = tr80 i := rfl
theorem T80_lp (N i : Nat) : (T80 N).lp i = lp80 i := rfl
theorem T80_ex (N i : Nat) : (T80 N).ex i = ex80 i := rfl
theorem T80_rg (N i : Nat) : (T80 N).rg i = rg80 i := rfl
theorem T80_jn (N i : Nat) : (T80 N).jn i = jn80 i := rfl
theorem T80_fuel (N : Nat) : (T80 N).fuel = N := rfl
theorem run80 (N : Nat) (v0 : Int) : runT tt Γ80 (T80 N) (Try.f80.body.getD .skip) (retR tt true [i3] [.tmp 2]) (entryP [i3] 7 (v0, ())) = m80 N v0 := by
  rw [m80]; unfold Try.f80
  simp (maxSteps := 10000000) -implicitDefEqProofs [T80_tr, tr80, T80_lp, lp80, T80_ex, ex80, T80_rg, rg80, T80_jn, jn80, T80_fuel, T80_pins]
  try rfl
theorem e80 (n : Int) (h : inI n) : ∃ N, m80 N n = some (absI n, ()) := ⟨0, by
  unfold inI at h
  rw [m80, wrap64 (by omega) (by omega)]
  have e : max n (0 - n) = absI n := by unfold absI; omega
  rw [e]⟩
theorem s80 : Sound Try.prog 80 g80 := sound_run (tt := tt) (Γ := Γ80) hT ok_nil hm (fn := Try.f80) Try.func80 (c := Try.f80.body.getD .skip) (by kernel_rfl) (by kernel_rfl) fun x hx => by
  obtain ⟨N, h⟩ := e80 x.1 hx
  exact ⟨T80 N, p80, noSem_ok _, tb80 N, (run80 N x.1).trans h⟩
-- spec.l1In
noncomputable def m49 (N : Nat) (v0 : Int) (v1 : Int) (v2 : Int) : Option (Vals [i4]) := bif (decide (v1 ≤ v0)) then (some ((decide (v0 ≤ v2)), ())) else (some (false, ()))
def Γ49 : Gam := []
def tr49 : Nat → Tree := fun _ => .done
def lp49 : Nat → Nm := fun _ => ⟨[], []⟩
def jn49 : Nat → Option Jn := fun _ => none
def ex49 : Nat → Option Nm := fun _ => none
def rg49 : Nat → Option Nm := fun _ => none
theorem p49 : plansOk tr49 (Try.f49.body.getD .skip) = true := by kernel_rfl
def T49 (N : Nat) : Tab := { tr := tr49, lp := lp49, ex := ex49, rg := rg49, jn := jn49, fuel := N }
theorem T49_pins (N : Nat) : (T49 N).pins = false := rfl
theorem tb49 (N : Nat) : TbOk Try.prog (T49 N) := tb_none fun _ => rfl
theorem T49_tr (N i : Nat) : (T49 N).tr i = tr49 i := rfl
theorem T49_lp (N i : Nat) : (T49 N).lp i = lp49 i := rfl
theorem T49_ex (N i : Nat) : (T49 N).ex i = ex49 i := rfl
theorem T49_rg (N i : Nat) : (T49 N).rg i = rg49 i := rfl
theorem T49_jn (N i : Nat) : (T49 N).jn i = jn49 i := rfl
theorem T49_fuel (N : Nat) : (T49 N).fuel = N := rfl
theorem run49 (N : Nat) (v0 : Int) (v1 : Int) (v2 : Int) : runT tt Γ49 (T49 N) (Try.f49.body.getD .skip) (retR tt true [i4] [.tmp 6]) (entryP [i3, i3, i3] 15 (v0, v1, v2, ())) = m49 N v0 v1 v2 := by
  rw [m49]; unfold Try.f49
  simp (maxSteps := 10000000) -implicitDefEqProofs [T49_tr, tr49, T49_lp, lp49, T49_ex, ex49, T49_rg, rg49, T49_jn, jn49, T49_fuel, T49_pins]
  try rfl
def g49 : G := { ps := [i3, i3, i3], rs := [i4], dp := true, pre := fun _ => True, fn := fun x => (inR x.1 x.2.1 x.2.2.1, ()) }
theorem e49 (x a b : Int) : ∃ N, m49 N x a b = some (inR x a b, ()) := ⟨0, by
  simp only [m49, inR]
  by_cases h1 : a ≤ x <;> by_cases h2 : x ≤ b <;> simp [h1, h2]⟩
theorem s49 : Sound Try.prog 49 g49 := sound_run (tt := tt) (Γ := Γ49) hT ok_nil hm (fn := Try.f49) Try.func49 (c := Try.f49.body.getD .skip) (by kernel_rfl) (by kernel_rfl) fun x hx => by
  obtain ⟨N, h⟩ := e49 x.1 x.2.1 x.2.2.1
  exact ⟨T49 N, p49, noSem_ok _, tb49 N, (run49 N x.1 x.2.1 x.2.2.1).trans h⟩
-- spec.IsNumber
noncomputable def m58 (N : Nat) (v0 : Int) : Option (Vals [i4]) := some (((inR v0 (-400000000 : Int) (400000000 : Int)) : Bool), ())
def Γ58 : Gam := [(49, g49)]
theorem Γ58_49 : Gam.get Γ58 49 = some g49 := rfl
def tr58 : Nat → Tree := fun _ => .done
def lp58 : Nat → Nm := fun _ => ⟨[], []⟩
def jn58 : Nat → Option Jn := fun _ => none
def ex58 : Nat → Option Nm := fun _ => none
def rg58 : Nat → Option Nm := fun _ => none
theorem p58 : plansOk tr58 (Try.f58.body.getD .skip) = true := by kernel_rfl
def T58 (N : Nat) : Tab := { tr := tr58, lp := lp58, ex := ex58, rg := rg58, jn := jn58, fuel := N }
theorem T58_pins (N : Nat) : (T58 N).pins = false := rfl
theorem tb58 (N : Nat) : TbOk Try.prog (T58 N) := tb_none fun _ => rfl
theorem T58_tr (N i : Nat) : (T58 N).tr i = tr58 i := rfl
theorem T58_lp (N i : Nat) : (T58 N).lp i = lp58 i := rfl
theorem T58_ex (N i : Nat) : (T58 N).ex i = ex58 i := rfl
theorem T58_rg (N i : Nat) : (T58 N).rg i = rg58 i := rfl
theorem T58_jn (N i : Nat) : (T58 N).jn i = jn58 i := rfl
theorem T58_fuel (N : Nat) : (T58 N).fuel = N := rfl
theorem run58 (N : Nat) (v0 : Int) : runT tt Γ58 (T58 N) (Try.f58.body.getD .skip) (retR tt true [i4] [.tmp 2]) (entryP [i3] 5 (v0, ())) = m58 N v0 := by
  rw [m58]; unfold Try.f58
  simp (maxSteps := 10000000) -implicitDefEqProofs [T58_tr, tr58, T58_lp, lp58, T58_ex, ex58, T58_rg, rg58, T58_jn, jn58, T58_fuel, T58_pins, Γ58_49, g49]
  try rfl
-- impl.IsNumber
noncomputable def m64 (N : Nat) (v0 : Int) : Option (Vals [i4]) := bif (decide ((-400000000 : Int) ≤ v0)) then (some ((decide (v0 ≤ (400000000 : Int))), ())) else (some (false, ()))
def Γ64 : Gam := []
def tr64 : Nat → Tree := fun _ => .done
def lp64 : Nat → Nm := fun _ => ⟨[], []⟩
def jn64 : Nat → Option Jn := fun _ => none
def ex64 : Nat → Option Nm := fun _ => none
def rg64 : Nat → Option Nm := fun _ => none
theorem p64 : plansOk tr64 (Try.f64.body.getD .skip) = true := by kernel_rfl
def T64 (N : Nat) : Tab := { tr := tr64, lp := lp64, ex := ex64, rg := rg64, jn := jn64, fuel := N }
theorem T64_pins (N : Nat) : (T64 N).pins = false := rfl
theorem tb64 (N : Nat) : TbOk Try.prog (T64 N) := tb_none fun _ => rfl
theorem T64_tr (N i : Nat) : (T64 N).tr i = tr64 i := rfl
theorem T64_lp (N i : Nat) : (T64 N).lp i = lp64 i := rfl
theorem T64_ex (N i : Nat) : (T64 N).ex i = ex64 i := rfl
theorem T64_rg (N i : Nat) : (T64 N).rg i = rg64 i := rfl
theorem T64_jn (N i : Nat) : (T64 N).jn i = jn64 i := rfl
theorem T64_fuel (N : Nat) : (T64 N).fuel = N := rfl
theorem run64 (N : Nat) (v0 : Int) : runT tt Γ64 (T64 N) (Try.f64.body.getD .skip) (retR tt true [i4] [.tmp 2]) (entryP [i3] 9 (v0, ())) = m64 N v0 := by
  rw [m64]; unfold Try.f64
  simp (maxSteps := 10000000) -implicitDefEqProofs [T64_tr, tr64, T64_lp, lp64, T64_ex, ex64, T64_rg, rg64, T64_jn, jn64, T64_fuel, T64_pins]
  try rfl
def g58 : G := { ps := [i3], rs := [i4], dp := true, pre := fun _ => True, fn := fun x => (isNum x.1, ()) }
def g64 : G := { ps := [i3], rs := [i4], dp := true, pre := fun _ => True, fn := fun x => (isNum x.1, ()) }
theorem e58 (x : Int) : ∃ N, m58 N x = some (isNum x, ()) := ⟨0, by
  simp only [m58, inR, isNum]⟩
theorem s58 : Sound Try.prog 58 g58 := sound_run (tt := tt) (Γ := Γ58) hT (ok_cons s49 ok_nil) hm (fn := Try.f58) Try.func58 (c := Try.f58.body.getD .skip) (by kernel_rfl) (by kernel_rfl) fun x hx => by
  obtain ⟨N, h⟩ := e58 x.1
  exact ⟨T58 N, p58, noSem_ok _, tb58 N, (run58 N x.1).trans h⟩
theorem e64 (x : Int) : ∃ N, m64 N x = some (isNum x, ()) := ⟨0, by
  simp only [m64, isNum]
  by_cases h1 : -400000000 ≤ x <;> by_cases h2 : x ≤ 400000000 <;> simp [h1, h2]⟩
theorem s64 : Sound Try.prog 64 g64 := sound_run (tt := tt) (Γ := Γ64) hT ok_nil hm (fn := Try.f64) Try.func64 (c := Try.f64.body.getD .skip) (by kernel_rfl) (by kernel_rfl) fun x hx => by
  obtain ⟨N, h⟩ := e64 x.1
  exact ⟨T64 N, p64, noSem_ok _, tb64 N, (run64 N x.1).trans h⟩
-- spec.l2Gcd
noncomputable def m59_l6 (N : Nat) (v11 : List (Val (.int .i64))) (v13 : Int) (k2 : Int → Option (Vals [i3])) : Nat → Int → Int → Option (Vals [i3])
  | 0, _, _ => none
  | n + 1, v12, v14 => bif (!(decide (v14 = (0 : Int)))) then (chk (v14 ≠ 0) (m59_l6 N v11 v13 k2 n v14 (v12.tmod v14))) else (k2 v12)
noncomputable def m59_l3 (N : Nat) (v2 : List (Val (.int .i64))) (k0 : Int → Option (Vals [i3])) : Nat → Int → Int → Option (Vals [i3])
  | 0, _, _ => none
  | n + 1, v3, v4 => bif (decide (v4 < (v2.length : Int))) then (chk (0 ≤ v4 ∧ v4 < (v2.length : Int)) (chk (absI_pre ((v2.getD v4.toNat (dflt (.int .i64))) : Int)) (m59_l6 N v2 v4 (fun (v16 : Int) => m59_l3 N v2 k0 n v16 (IntKind.i64.wrap (v4 + (1 : Int)))) N v3 ((absI ((v2.getD v4.toNat (dflt (.int .i64))) : Int)) : Int)))) else (k0 v3)
noncomputable def m59 (N : Nat) (v0 : List (Val (.int .i64))) (v1 : Int) : Option (Vals [i3]) := chk (absI_pre v1) (m59_l3 N v0 (fun (v18 : Int) => some (v18, ())) N ((absI v1) : Int) (0 : Int))
def Γ59 : Gam := [(80, g80)]
theorem Γ59_80 : Gam.get Γ59 80 = some g80 := rfl
def nl59_6 : Nm := ⟨[true, false, false, false, false, true, true, true], []⟩
theorem nl59_6_fix : nl59_6.fix = [] := rfl
theorem nl59_6_keep : nl59_6.keep = [true, false, false, false, false, true, true, true] := rfl
def nl59_3 : Nm := ⟨[true, false, false, false, false, true, true], []⟩
theorem nl59_3_fix : nl59_3.fix = [] := rfl
theorem nl59_3_keep : nl59_3.keep = [true, false, false, false, false, true, true] := rfl
def nx59_0 : Nm := ⟨[false, false, false, false, false, true], []⟩
theorem nx59_0_fix : nx59_0.fix = [] := rfl
theorem nx59_0_keep : nx59_0.keep = [false, false, false, false, false, true] := rfl
def nx59_2 : Nm := ⟨[true, false, false, false, false, true, true], []⟩
theorem nx59_2_fix : nx59_2.fix = [] := rfl
theorem nx59_2_keep : nx59_2.keep = [true, false, false, false, false, true, true] := rfl
def tr59 : Nat → Tree := fun i => if i = 7 then .quiet 0 (.quiet 1 (.quiet 2 (.quiet 3 (.quiet 4 (.quiet 5 .done))))) else .done
def lp59 : Nat → Nm := fun i => if i = 6 then nl59_6 else if i = 3 then nl59_3 else ⟨[], []⟩
def jn59 : Nat → Option Jn := fun _ => none
def ex59 : Nat → Option Nm := fun i => if i = 0 then some nx59_0 else if i = 2 then some nx59_2 else none
def rg59 : Nat → Option Nm := fun _ => none
theorem p59 : plansOk tr59 (Try.f59.body.getD .skip) = true := by kernel_rfl
def T59 (N : Nat) : Tab := { tr := tr59, lp := lp59, ex := ex59, rg := rg59, jn := jn59, fuel := N }
theorem T59_pins (N : Nat) : (T59 N).pins = false := rfl
theorem tb59 (N : Nat) : TbOk Try.prog (T59 N) := tb_none fun _ => rfl
theorem T59_tr (N i : Nat) : (T59 N).tr i = tr59 i := rfl
theorem T59_lp (N i : Nat) : (T59 N).lp i = lp59 i := rfl
theorem T59_ex (N i : Nat) : (T59 N).ex i = ex59 i := rfl
theorem T59_rg (N i : Nat) : (T59 N).rg i = rg59 i := rfl
theorem T59_jn (N i : Nat) : (T59 N).jn i = jn59 i := rfl
theorem T59_fuel (N : Nat) : (T59 N).fuel = N := rfl
noncomputable def c59_6 : Code := cut [true, true, false, true, true, true, true, false, true, true, true, true] (Try.f59.body.getD .skip)
theorem c59_6_at {N : Nat} {Q : X → St → Option (Vals [i3])} {e : List LV} {h : List Blk} : runT tt Γ59 (T59 N) c59_6 Q ⟨e, h⟩ = runT tt Γ59 (T59 N) (cut [true, true, false, true, true, true, true, false, true, true, true, true] (Try.f59.body.getD .skip)) Q ⟨e, h⟩ := rfl
theorem r59_l6 (N : Nat) (v11 : List (Val (.int .i64))) (v13 : Int) {k2 : Int → Option (Vals [i3])} {Q : X → St → Option (Vals [i3])} {c : Code} (hc : c = c59_6) (hret : ∀ st, Q .ret st = retS tt true [i3] [.tmp 4] st) (h2 : ∀ (v15 : Int), Q (.exit 2) ⟨[.one (.sl 3 (.int .i64) v11 0), u, u, u, u, .one (.int .i64 v15), .one (.int .i64 v13), u, u, u, u, u, u, u, u, u, u, u, u, u, u, u, u, u, u, u, u, u], []⟩ = k2 v15) : ∀ (n : Nat) (v12 : Int) (v14 : Int), loopR (runT tt Γ59 (T59 N) c) false nl59_6 Q n ⟨[.one (.sl 3 (.int .i64) v11 0), u, u, u, u, .one (.int .i64 v12), .one (.int .i64 v13), .one (.int .i64 v14), u, u, u, u, u, u, u, u, u, u, u, u, u, u, u, u, u, u, u, u], []⟩ = m59_l6 N v11 v13 k2 n v12 v14 := by
  subst hc; intro n; induction n with
  | zero => intros; rfl
  | succ n ih =>
    intro v12 v14
    rw [loop_succ, c59_6_at, m59_l6]; unfold Try.f59
    simp (maxSteps := 10000000) -implicitDefEqProofs [T59_tr, tr59, T59_lp, lp59, T59_ex, ex59, T59_rg, rg59, T59_jn, jn59, T59_fuel, T59_pins, nl59_6_fix, nl59_6_keep, nl59_3_fix, nl59_3_keep, nx59_0_fix, nx59_0_keep, nx59_2_fix, nx59_2_keep, Γ59_80, g80, hret, h2, ih]
noncomputable def c59_3 : Code := cut [true, true, false, true, true, true] (Try.f59.body.getD .skip)
theorem c59_3_at {N : Nat} {Q : X → St → Option (Vals [i3])} {e : List LV} {h : List Blk} : runT tt Γ59 (T59 N) c59_3 Q ⟨e, h⟩ = runT tt Γ59 (T59 N) (cut [true, true, false, true, true, true] (Try.f59.body.getD .skip)) Q ⟨e, h⟩ := rfl
theorem r59_l3 (N : Nat) (v2 : List (Val (.int .i64))) {k0 : Int → Option (Vals [i3])} {Q : X → St → Option (Vals [i3])} {c : Code} (hc : c = c59_3) (hret : ∀ st, Q .ret st = retS tt true [i3] [.tmp 4] st) (h0 : ∀ (v17 : Int), Q (.exit 0) ⟨[u, u, u, u, u, .one (.int .i64 v17), u, u, u, u, u, u, u, u, u, u, u, u, u, u, u, u, u, u, u, u, u, u], []⟩ = k0 v17) : ∀ (n : Nat) (v3 : Int) (v4 : Int), loopR (runT tt Γ59 (T59 N) c) false nl59_3 Q n ⟨[.one (.sl 3 (.int .i64) v2 0), u, u, u, u, .one (.int .i64 v3), .one (.int .i64 v4), u, u, u, u, u, u, u, u, u, u, u, u, u, u, u, u, u, u, u, u, u], []⟩ = m59_l3 N v2 k0 n v3 v4 := by
  subst hc; intro n; induction n with
  | zero => intros; rfl
  | succ n ih =>
    intro v3 v4
    rw [loop_succ, c59_3_at]; unfold Try.f59
    simp (maxSteps := 10000000) -implicitDefEqProofs [T59_tr, tr59, T59_lp, lp59, T59_ex, ex59, T59_rg, rg59, T59_jn, jn59, T59_fuel, T59_pins, nl59_6_fix, nl59_6_keep, nl59_3_fix, nl59_3_keep, nx59_0_fix, nx59_0_keep, nx59_2_fix, nx59_2_keep, Γ59_80, g80, hret, h0, ih]
    rewrite [r59_l6 (k2 := (fun (v16 : Int) => m59_l3 N v2 k0 n v16 (IntKind.i64.wrap (v4 + (1 : Int))))) N _ _ ?_ ?_ ?_]
    · rewrite [m59_l3]; first | rfl | simp (maxSteps := 10000000) -implicitDefEqProofs [ih]
    · rfl
    · intro; simp only [seqR_ret, blockR_ret, retR_ret, retX_ret, hret]
    · intro v16; simp (maxSteps := 10000000) -implicitDefEqProofs [T59_tr, tr59, T59_lp, lp59, T59_ex, ex59, T59_rg, rg59, T59_jn, jn59, T59_fuel, T59_pins, nl59_6_fix, nl59_6_keep, nl59_3_fix, nl59_3_keep, nx59_0_fix, nx59_0_keep, nx59_2_fix, nx59_2_keep, Γ59_80, g80, hret, h0, ih]
theorem run59 (N : Nat) (v0 : List (Val (.int .i64))) (v1 : Int) : runT tt Γ59 (T59 N) (Try.f59.body.getD .skip) (retR tt true [i3] [.tmp 4]) (entryP [i25, i3] 28 (v0, v1, ())) = m59 N v0 v1 := by
  unfold Try.f59
  simp (maxSteps := 10000000) -implicitDefEqProofs [T59_tr, tr59, T59_lp, lp59, T59_ex, ex59, T59_rg, rg59, T59_jn, jn59, T59_fuel, T59_pins, nl59_6_fix, nl59_6_keep, nl59_3_fix, nl59_3_keep, nx59_0_fix, nx59_0_keep, nx59_2_fix, nx59_2_keep, Γ59_80, g80]
  rewrite [r59_l3 (k0 := (fun (v18 : Int) => some (v18, ()))) N _ ?_ ?_ ?_]
  · rewrite [m59]; first | rfl | simp (maxSteps := 10000000) -implicitDefEqProofs []
  · rfl
  · intro; simp only [seqR_ret, blockR_ret, retR_ret, retX_ret]
  · intro v18; simp (maxSteps := 10000000) -implicitDefEqProofs [T59_tr, tr59, T59_lp, lp59, T59_ex, ex59, T59_rg, rg59, T59_jn, jn59, T59_fuel, T59_pins, nl59_6_fix, nl59_6_keep, nl59_3_fix, nl59_3_keep, nx59_0_fix, nx59_0_keep, nx59_2_fix, nx59_2_keep, Γ59_80, g80]
theorem t59i (N : Nat) (xs : List (Val (.int .i64))) (v : Int) (k : Int → Option (Vals [i3])) : ∀ (n b a : Nat), b < n → m59_l6 N xs v k n (a : Int) (b : Int) = k (Nat.gcd a b : Nat)
  | 0, _, _, h => by omega
  | n + 1, b, a, h => by
    rw [m59_l6]
    by_cases hb : b = 0
    · subst hb; simp
    · have hb' : ¬ ((b : Int) = 0) := by omega
      have hlt : a % b < b := Nat.mod_lt _ (by omega)
      have hm : ((a : Int).tmod (b : Int)) = ((a % b : Nat) : Int) := by rw [Int.tmod_eq_emod_of_nonneg (by omega)]; rfl
      simp only [hb', decide_false, Bool.not_false, cond_true, ne_eq, not_false_eq_true, chk_true]
      rw [hm, t59i N xs v k n (a % b) b (by omega)]
      congr 2
      rw [Nat.gcd_comm b, ← Nat.gcd_rec, Nat.gcd_comm]
theorem t59v (N : Nat) (xs : List (Val (.int .i64))) (v v' : Int) (k : Int → Option (Vals [i3])) : ∀ (n : Nat) (a b : Int), m59_l6 N xs v k n a b = m59_l6 N xs v' k n a b
  | 0, _, _ => rfl
  | n + 1, a, b => by rw [m59_l6, m59_l6, t59v N xs v v' k n]
theorem t59 (N : Nat) (hN : 9223372036854775807 < N) (ys : List (Val (.int .i64))) : ∀ (xs : List Int) (i g : Nat) (k : Int → Option (Vals [i3])), (∀ x ∈ xs, inI x) → foldK (fun _ x s K => chk (absI_pre x) (m59_l6 N ys 0 K N s (absI x))) i xs (g : Int) k = k (gL g xs : Nat)
  | [], _, _, _, _ => rfl
  | x :: xs, i, g, k, hx => by
    have h1 := hx x (by simp)
    rw [foldK, chk_pos (show absI_pre x from h1)]
    simp only [absI]
    rw [t59i _ _ _ _ _ _ _ (by unfold inI at h1; omega)]
    exact t59 N hN ys xs (i + 1) _ k fun y hy => hx y (by simp [hy])
def g59 : G := { ps := [i25, i3], rs := [i3], dp := true, pre := fun x => gcdL_pre x.1 x.2.1, fn := fun x => (gcdL x.1 x.2.1, ()) }
theorem e59 (xs : List (Val (.int .i64))) (k : Int) (h : gcdL_pre xs k) : ∃ N, m59 N xs k = some (gcdL xs k, ()) := ⟨9223372036854775808 + xs.length, by
  rw [m59, chk_pos (show absI_pre k from h.2.1)]
  rw [loop_fold (F := fun n i s => m59_l3 _ xs _ n s i) (step := fun _ x s K => chk (absI_pre x) (m59_l6 (9223372036854775808 + xs.length) xs 0 K (9223372036854775808 + xs.length) s (absI x))) (k := fun s => some (s, ())) h.1 ?_ ?_ _ _ (by omega)]
  · exact t59 _ (by omega) xs xs 0 k.natAbs _ h.2.2
  · intro n i s hi
    rw [m59_l3, bif_dec (by omega), chk_pos (by omega), getD_atI hi]
    congr 1
    exact t59v ..
  · intro n i s hi
    rw [m59_l3, bif_decN (by omega)]⟩
theorem s59 : Sound Try.prog 59 g59 := sound_run (tt := tt) (Γ := Γ59) hT (ok_cons s80 ok_nil) hm (fn := Try.f59) Try.func59 (c := Try.f59.body.getD .skip) (by kernel_rfl) (by kernel_rfl) fun x hx => by
  obtain ⟨N, h⟩ := e59 x.1 x.2.1 hx
  exact ⟨T59 N, p59, noSem_ok _, tb59 N, (run59 N x.1 x.2.1).trans h⟩
/-- An atom within the limits and in lowest terms. -/
def isAtom (a : Val Y36) : Bool := decide ((a.1 : List Int).length ≤ 4) && isNum a.2.1 && (a.1 : List Int).all isNum && decide (((gL (Int.natAbs a.2.1) a.1 : Nat) : Int) ≤ 1)
-- spec.IsAtom
noncomputable def m43_l4 (N : Nat) (v2 : List (Val (.int .i64))) (v3 : Int) (v4 : Bool) (k0 : Unit → Option (Vals [i4])) : Nat → Int → Option (Vals [i4])
  | 0, _ => none
  | n + 1, v1 => bif (decide (v1 < (v2.length : Int))) then (chk (0 ≤ v1 ∧ v1 < (v2.length : Int)) (bif (!((isNum ((v2.getD v1.toNat (dflt (.int .i64))) : Int)) : Bool)) then (some (false, ())) else (m43_l4 N v2 v3 v4 k0 n (IntKind.i64.wrap (v1 + (1 : Int)))))) else (k0 ())
noncomputable def m43 (N : Nat) (v0 : Val Y36) : Option (Vals [i4]) := bif (decide ((4 : Int) < ((v0.1 : List (Val (.int .i64))).length : Int))) then (some (false, ())) else (bif (!((isNum (v0.2.1 : Int)) : Bool)) then (some (false, ())) else (m43_l4 N (v0.1 : List (Val (.int .i64))) (v0.2.1 : Int) (v0.2.2 : Bool) (fun (_ : Unit) => chk (gcdL_pre (v0.1 : List (Val (.int .i64))) (v0.2.1 : Int)) (some ((decide (((gcdL (v0.1 : List (Val (.int .i64))) (v0.2.1 : Int)) : Int) ≤ (1 : Int))), ()))) N (0 : Int)))
def Γ43 : Gam := [(58, g58), (59, g59)]
theorem Γ43_58 : Gam.get Γ43 58 = some g58 := rfl
theorem Γ43_59 : Gam.get Γ43 59 = some g59 := rfl
def nl43_4 : Nm := ⟨[false, true, false, true], []⟩
theorem nl43_4_fix : nl43_4.fix = [] := rfl
theorem nl43_4_keep : nl43_4.keep = [false, true, false, true] := rfl
def nx43_0 : Nm := ⟨[false, true], []⟩
theorem nx43_0_fix : nx43_0.fix = [] := rfl
theorem nx43_0_keep : nx43_0.keep = [false, true] := rfl
def tr43 : Nat → Tree := fun _ => .done
def lp43 : Nat → Nm := fun i => if i = 4 then nl43_4 else ⟨[], []⟩
def jn43 : Nat → Option Jn := fun _ => none
def ex43 : Nat → Option Nm := fun i => if i = 0 then some nx43_0 else none
def rg43 : Nat → Option Nm := fun _ => none
theorem p43 : plansOk tr43 (Try.f43.body.getD .skip) = true := by kernel_rfl
def T43 (N : Nat) : Tab := { tr := tr43, lp := lp43, ex := ex43, rg := rg43, jn := jn43, fuel := N }
theorem T43_pins (N : Nat) : (T43 N).pins = false := rfl
theorem tb43 (N : Nat) : TbOk Try.prog (T43 N) := tb_none fun _ => rfl
theorem T43_tr (N i : Nat) : (T43 N).tr i = tr43 i := rfl
theorem T43_lp (N i : Nat) : (T43 N).lp i = lp43 i := rfl
theorem T43_ex (N i : Nat) : (T43 N).ex i = ex43 i := rfl
theorem T43_rg (N i : Nat) : (T43 N).rg i = rg43 i := rfl
theorem T43_jn (N i : Nat) : (T43 N).jn i = jn43 i := rfl
theorem T43_fuel (N : Nat) : (T43 N).fuel = N := rfl
noncomputable def c43_4 : Code := cut [true, true, false, true, true, true] (Try.f43.body.getD .skip)
theorem c43_4_at {N : Nat} {Q : X → St → Option (Vals [i4])} {e : List LV} {h : List Blk} : runT tt Γ43 (T43 N) c43_4 Q ⟨e, h⟩ = runT tt Γ43 (T43 N) (cut [true, true, false, true, true, true] (Try.f43.body.getD .skip)) Q ⟨e, h⟩ := rfl
theorem r43_l4 (N : Nat) (v2 : List (Val (.int .i64))) (v3 : Int) (v4 : Bool) {k0 : Unit → Option (Vals [i4])} {Q : X → St → Option (Vals [i4])} {c : Code} (hc : c = c43_4) (hret : ∀ st, Q .ret st = retS tt true [i4] [.tmp 2] st) (h0 : Q (.exit 0) ⟨[u, .one (.ptr 0 0 0), u, u, u, u, u, u, u, u, u, u, u, u, u, u, u, u, u, u, u, u, u, u, u, u, u, u, u, u, u, u, u, u], [.box [.sl 3 (.int .i64) v2 1, .int .i64 v3, .bool v4]]⟩ = k0 ()) : ∀ (n : Nat) (v1 : Int), loopR (runT tt Γ43 (T43 N) c) false nl43_4 Q n ⟨[u, .one (.ptr 0 0 0), u, .one (.int .i64 v1), u, u, u, u, u, u, u, u, u, u, u, u, u, u, u, u, u, u, u, u, u, u, u, u, u, u, u, u, u, u], [.box [.sl 3 (.int .i64) v2 1, .int .i64 v3, .bool v4]]⟩ = m43_l4 N v2 v3 v4 k0 n v1 := by
  subst hc; intro n; induction n with
  | zero => intros; rfl
  | succ n ih =>
    intro v1
    rw [loop_succ, c43_4_at, m43_l4]; unfold Try.f43
    simp (maxSteps := 10000000) -implicitDefEqProofs [T43_tr, tr43, T43_lp, lp43, T43_ex, ex43, T43_rg, rg43, T43_jn, jn43, T43_fuel, T43_pins, nl43_4_fix, nl43_4_keep, nx43_0_fix, nx43_0_keep, Γ43_58, Γ43_59, g58, g59, hret, h0, ih]
theorem run43 (N : Nat) (v0 : Val Y36) : runT tt Γ43 (T43 N) (Try.f43.body.getD .skip) (retR tt true [i4] [.tmp 2]) (entryP [i36] 34 (v0, ())) = m43 N v0 := by
  unfold Try.f43
  simp (maxSteps := 10000000) -implicitDefEqProofs [T43_tr, tr43, T43_lp, lp43, T43_ex, ex43, T43_rg, rg43, T43_jn, jn43, T43_fuel, T43_pins, nl43_4_fix, nl43_4_keep, nx43_0_fix, nx43_0_keep, Γ43_58, Γ43_59, g58, g59]
  rewrite [r43_l4 (k0 := (fun (_ : Unit) => chk (gcdL_pre (v0.1 : List (Val (.int .i64))) (v0.2.1 : Int)) (some ((decide (((gcdL (v0.1 : List (Val (.int .i64))) (v0.2.1 : Int)) : Int) ≤ (1 : Int))), ())))) N _ _ _ ?_ ?_ ?_]
  · rewrite [m43]; first | rfl | simp (maxSteps := 10000000) -implicitDefEqProofs []
  · rfl
  · intro; simp only [seqR_ret, blockR_ret, retR_ret, retX_ret]
  · simp (maxSteps := 10000000) -implicitDefEqProofs [T43_tr, tr43, T43_lp, lp43, T43_ex, ex43, T43_rg, rg43, T43_jn, jn43, T43_fuel, T43_pins, nl43_4_fix, nl43_4_keep, nx43_0_fix, nx43_0_keep, Γ43_58, Γ43_59, g58, g59]
-- impl.IsAtom
noncomputable def m45_l4 (N : Nat) (v1 : List (Val (.int .i64))) (v2 : Int) (v4 : List (Val (.int .i64))) (v5 : Int) (v6 : Bool) (k0 : Unit → Option (Vals [i4])) : Nat → Int → Option (Vals [i4])
  | 0, _ => none
  | n + 1, v3 => bif (decide (v3 < v2)) then (chk (0 ≤ v3 ∧ v3 < (v1.length : Int)) (bif (!((isNum ((v1.getD v3.toNat (dflt (.int .i64))) : Int)) : Bool)) then (some (false, ())) else (m45_l4 N v1 v2 v4 v5 v6 k0 n (IntKind.i64.wrap (v3 + (1 : Int)))))) else (k0 ())
noncomputable def m45 (N : Nat) (v0 : Val Y36) : Option (Vals [i4]) := bif (decide ((4 : Int) < ((v0.1 : List (Val (.int .i64))).length : Int))) then (some (false, ())) else (bif (!((isNum (v0.2.1 : Int)) : Bool)) then (some (false, ())) else (m45_l4 N (v0.1 : List (Val (.int .i64))) ((v0.1 : List (Val (.int .i64))).length : Int) (v0.1 : List (Val (.int .i64))) (v0.2.1 : Int) (v0.2.2 : Bool) (fun (_ : Unit) => chk (gcdM_pre (v0.1 : List (Val (.int .i64)))) (chk (gcdI_pre ((gcdM (v0.1 : List (Val (.int .i64)))) : Int) (v0.2.1 : Int)) (some ((decide (((gcdI ((gcdM (v0.1 : List (Val (.int .i64)))) : Int) (v0.2.1 : Int)) : Int) ≤ (1 : Int))), ())))) N (0 : Int)))
def Γ45 : Gam := [(64, g64), (65, g65), (66, g66)]
theorem Γ45_64 : Gam.get Γ45 64 = some g64 := rfl
theorem Γ45_65 : Gam.get Γ45 65 = some g65 := rfl
theorem Γ45_66 : Gam.get Γ45 66 = some g66 := rfl
def nl45_4 : Nm := ⟨[false, true, false, false, false, false, false, false, false, false, false, false, false, false, false, false, true, true, true], []⟩
theorem nl45_4_fix : nl45_4.fix = [] := rfl
theorem nl45_4_keep : nl45_4.keep = [false, true, false, false, false, false, false, false, false, false, false, false, false, false, false, false, true, true, true] := rfl
def nx45_0 : Nm := ⟨[false, true], []⟩
theorem nx45_0_fix : nx45_0.fix = [] := rfl
theorem nx45_0_keep : nx45_0.keep = [false, true] := rfl
def nr45_9 : Nm := ⟨[false, false, true], []⟩
theorem nr45_9_fix : nr45_9.fix = [] := rfl
theorem nr45_9_keep : nr45_9.keep = [false, false, true] := rfl
def tr45 : Nat → Tree := fun i => if i = 9 then .quiet 0 (.quiet 1 (.alt 2 (.quiet 3 (.quiet 4 (.alt 5 (.quiet 6 (.quiet 7 .done)) .stop))) (.alt 3 (.alt 2 (.quiet 4 (.alt 5 (.quiet 6 (.quiet 7 .done)) .stop)) (.alt 4 (.alt 2 (.alt 5 (.quiet 6 (.quiet 7 .done)) .stop) .stop) .stop)) .stop))) else .done
def lp45 : Nat → Nm := fun i => if i = 4 then nl45_4 else ⟨[], []⟩
def jn45 : Nat → Option Jn := fun _ => none
def ex45 : Nat → Option Nm := fun i => if i = 0 then some nx45_0 else none
def rg45 : Nat → Option Nm := fun i => if i = 9 then some nr45_9 else none
theorem p45 : plansOk tr45 (Try.f45.body.getD .skip) = true := by kernel_rfl
def T45 (N : Nat) : Tab := { tr := tr45, lp := lp45, ex := ex45, rg := rg45, jn := jn45, fuel := N }
theorem T45_pins (N : Nat) : (T45 N).pins = false := rfl
theorem tb45 (N : Nat) : TbOk Try.prog (T45 N) := tb_none fun _ => rfl
theorem T45_tr (N i : Nat) : (T45 N).tr i = tr45 i := rfl
theorem T45_lp (N i : Nat) : (T45 N).lp i = lp45 i := rfl
theorem T45_ex (N i : Nat) : (T45 N).ex i = ex45 i := rfl
theorem T45_rg (N i : Nat) : (T45 N).rg i = rg45 i := rfl
theorem T45_jn (N i : Nat) : (T45 N).jn i = jn45 i := rfl
theorem T45_fuel (N : Nat) : (T45 N).fuel = N := rfl
noncomputable def c45_4 : Code := cut [true, true, false, true, true, true] (Try.f45.body.getD .skip)
theorem c45_4_at {N : Nat} {Q : X → St → Option (Vals [i4])} {e : List LV} {h : List Blk} : runT tt Γ45 (T45 N) c45_4 Q ⟨e, h⟩ = runT tt Γ45 (T45 N) (cut [true, true, false, true, true, true] (Try.f45.body.getD .skip)) Q ⟨e, h⟩ := rfl
theorem r45_l4 (N : Nat) (v1 : List (Val (.int .i64))) (v2 : Int) (v4 : List (Val (.int .i64))) (v5 : Int) (v6 : Bool) {k0 : Unit → Option (Vals [i4])} {Q : X → St → Option (Vals [i4])} {c : Code} (hc : c = c45_4) (hret : ∀ st, Q .ret st = retS tt true [i4] [.tmp 2] st) (h0 : Q (.exit 0) ⟨[u, .one (.ptr 0 0 0), u, u, u, u, u, u, u, u, u, u, u, u, u, u, u, u, u, u, u, u, u, u, u, u, u, u, u, u, u, u, u], [.box [.sl 3 (.int .i64) v4 1, .int .i64 v5, .bool v6]]⟩ = k0 ()) : ∀ (n : Nat) (v3 : Int), loopR (runT tt Γ45 (T45 N) c) false nl45_4 Q n ⟨[u, .one (.ptr 0 0 0), u, u, u, u, u, u, u, u, u, u, u, u, u, u, .one (.sl 3 (.int .i64) v1 1), .one (.int .i64 v2), .one (.int .i64 v3), u, u, u, u, u, u, u, u, u, u, u, u, u, u], [.box [.sl 3 (.int .i64) v4 1, .int .i64 v5, .bool v6]]⟩ = m45_l4 N v1 v2 v4 v5 v6 k0 n v3 := by
  subst hc; intro n; induction n with
  | zero => intros; rfl
  | succ n ih =>
    intro v3
    rw [loop_succ, c45_4_at, m45_l4]; unfold Try.f45
    simp (maxSteps := 10000000) -implicitDefEqProofs [T45_tr, tr45, T45_lp, lp45, T45_ex, ex45, T45_rg, rg45, T45_jn, jn45, T45_fuel, T45_pins, nl45_4_fix, nl45_4_keep, nx45_0_fix, nx45_0_keep, nr45_9_fix, nr45_9_keep, Γ45_64, Γ45_65, Γ45_66, g64, g65, g66, hret, h0, ih]
theorem run45 (N : Nat) (v0 : Val Y36) : runT tt Γ45 (T45 N) (Try.f45.body.getD .skip) (retR tt true [i4] [.tmp 2]) (entryP [i36] 33 (v0, ())) = m45 N v0 := by
  unfold Try.f45
  simp (maxSteps := 10000000) -implicitDefEqProofs [T45_tr, tr45, T45_lp, lp45, T45_ex, ex45, T45_rg, rg45, T45_jn, jn45, T45_fuel, T45_pins, nl45_4_fix, nl45_4_keep, nx45_0_fix, nx45_0_keep, nr45_9_fix, nr45_9_keep, Γ45_64, Γ45_65, Γ45_66, g64, g65, g66]
  rewrite [r45_l4 (k0 := (fun (_ : Unit) => chk (gcdM_pre (v0.1 : List (Val (.int .i64)))) (chk (gcdI_pre ((gcdM (v0.1 : List (Val (.int .i64)))) : Int) (v0.2.1 : Int)) (some ((decide (((gcdI ((gcdM (v0.1 : List (Val (.int .i64)))) : Int) (v0.2.1 : Int)) : Int) ≤ (1 : Int))), ()))))) N _ _ _ _ _ ?_ ?_ ?_]
  · rewrite [m45]; first | rfl | simp (maxSteps := 10000000) -implicitDefEqProofs []
  · rfl
  · intro; simp only [seqR_ret, blockR_ret, retR_ret, retX_ret]
  · simp (maxSteps := 10000000) -implicitDefEqProofs [T45_tr, tr45, T45_lp, lp45, T45_ex, ex45, T45_rg, rg45, T45_jn, jn45, T45_fuel, T45_pins, nl45_4_fix, nl45_4_keep, nx45_0_fix, nx45_0_keep, nr45_9_fix, nr45_9_keep, Γ45_64, Γ45_65, Γ45_66, g64, g65, g66]
theorem numIn {n : Int} (h : isNum n = true) : inI n := by
  unfold isNum at h; unfold inI; have := of_decide_eq_true h; omega
def g43 : G := { ps := [i36], rs := [i4], dp := true, pre := fun _ => True, fn := fun x => (isAtom x.1, ()) }
def g45 : G := { ps := [i36], rs := [i4], dp := true, pre := fun _ => True, fn := fun x => (isAtom x.1, ()) }
theorem t43 (N : Nat) (xs : List (Val (.int .i64))) (c : Int) (b : Bool) (K : Unit → Option (Vals [i4])) (hl : xs.length ≤ 1048576) (n : Nat) (hn : xs.length < n) : m43_l4 N xs c b K n 0 = bif List.all (α := Int) xs isNum then K () else some (false, ()) :=
  (loop_fold (F := fun n i (_ : Unit) => m43_l4 N xs c b K n i) (step := fun _ x _ K => bif isNum x then K () else some (false, ())) (k := K) hl (fun n i s hi => by rw [m43_l4, bif_dec (by omega), chk_pos (by omega), getD_atI hi, bif_not]) (fun n i s hi => by rw [m43_l4, bif_decN (by omega)]) n () hn).trans (foldK_all xs 0)
theorem t45 (N : Nat) (xs ys : List (Val (.int .i64))) (c : Int) (b : Bool) (K : Unit → Option (Vals [i4])) (hl : xs.length ≤ 1048576) (n : Nat) (hn : xs.length < n) : m45_l4 N xs xs.length ys c b K n 0 = bif List.all (α := Int) xs isNum then K () else some (false, ()) :=
  (loop_fold (F := fun n i (_ : Unit) => m45_l4 N xs xs.length ys c b K n i) (step := fun _ x _ K => bif isNum x then K () else some (false, ())) (k := K) hl (fun n i s hi => by rw [m45_l4, bif_dec (by omega), chk_pos (by omega), getD_atI hi, bif_not]) (fun n i s hi => by rw [m45_l4, bif_decN (by omega)]) n () hn).trans (foldK_all xs 0)
theorem e43 (a : Val Y36) : ∃ N, m43 N a = some (isAtom a, ()) := ⟨(a.1 : List (Val (.int .i64))).length + 1, by
  obtain ⟨xs, c, b⟩ := a
  change List (Val (.int .i64)) at xs
  change Int at c
  change Bool at b
  rw [m43, isAtom]
  dsimp only
  by_cases h4 : xs.length ≤ 4
  · rw [bif_decN (by omega)]
    cases hc : isNum c with
    | false => simp
    | true =>
      rw [t43 _ xs _ _ _ (by omega) _ (Nat.lt_succ_self _)]
      cases ha : List.all (α := Int) xs isNum with
      | false => simp
      | true =>
        rw [chk_pos (show gcdL_pre xs c from ⟨by omega, numIn hc, fun x hx => numIn (List.all_eq_true.1 ha x hx)⟩)]
        simp [h4, gcdL]
        rfl
  · rw [bif_dec (by omega)]
    simp [h4]⟩
theorem s43 : Sound Try.prog 43 g43 := sound_run (tt := tt) (Γ := Γ43) hT (ok_cons s58 (ok_cons s59 ok_nil)) hm (fn := Try.f43) Try.func43 (c := Try.f43.body.getD .skip) (by kernel_rfl) (by kernel_rfl) fun x hx => by
  obtain ⟨N, h⟩ := e43 x.1
  exact ⟨T43 N, p43, noSem_ok _, tb43 N, (run43 N x.1).trans h⟩
theorem gL_in : ∀ (xs : List Int) (g : Nat), (g : Int) ≤ 9223372036854775807 → (∀ x ∈ xs, inI x) → inI (gL g xs : Nat)
  | [], g, h, _ => by unfold inI gL; omega
  | x :: xs, g, h, hx => gL_in xs _ (gcdI_in h (hx x (by simp))).2 fun y hy => hx y (by simp [hy])
theorem e45 (a : Val Y36) : ∃ N, m45 N a = some (isAtom a, ()) := ⟨(a.1 : List (Val (.int .i64))).length + 1, by
  obtain ⟨xs, c, b⟩ := a
  change List (Val (.int .i64)) at xs
  change Int at c
  change Bool at b
  rw [m45, isAtom]
  dsimp only
  by_cases h4 : xs.length ≤ 4
  · rw [bif_decN (by omega)]
    cases hc : isNum c with
    | false => simp
    | true =>
      rw [t45 _ xs _ _ _ _ (by omega) _ (Nat.lt_succ_self _)]
      cases ha : List.all (α := Int) xs isNum with
      | false => simp
      | true =>
        have hx : ∀ x ∈ xs, inI x := fun x hx => numIn (List.all_eq_true.1 ha x hx)
        have e : Nat.gcd (gL 0 xs) c.natAbs = gL c.natAbs xs := by rw [← gL_gcd, Nat.gcd_zero_left]
        rw [chk_pos (show gcdM_pre xs from ⟨by omega, hx⟩), chk_pos (show gcdI_pre (gcdM xs) c from ⟨gL_in xs 0 (by omega) hx, numIn hc⟩)]
        simp [h4, gcdM, gcdI, e]
  · rw [bif_dec (by omega)]
    simp [h4]⟩
theorem s45 : Sound Try.prog 45 g45 := sound_run (tt := tt) (Γ := Γ45) hT (ok_cons s64 (ok_cons s65 (ok_cons s66 ok_nil))) hm (fn := Try.f45) Try.func45 (c := Try.f45.body.getD .skip) (by kernel_rfl) (by kernel_rfl) fun x hx => by
  obtain ⟨N, h⟩ := e45 x.1
  exact ⟨T45 N, p45, noSem_ok _, tb45 N, (run45 N x.1).trans h⟩
end Go.T
