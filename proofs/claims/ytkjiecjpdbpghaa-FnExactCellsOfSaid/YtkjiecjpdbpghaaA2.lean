/- Whole numbers; atoms; cells; relations: what the functions compute. -/
import Derived.Test.YtkjiecjpdbpghaaA1
set_option linter.unusedSimpArgs false
set_option linter.unusedVariables false
namespace Go.T
open Go Go.Proofs
set_option maxHeartbeats 1000000
set_option maxRecDepth 100000
def inI (n : Int) : Prop := -9223372036854775807 ≤ n ∧ n ≤ 9223372036854775807
def absI (n : Int) : Int := (n.natAbs : Int)
def absI_pre (n : Int) : Prop := inI n
def gcdI (a b : Int) : Int := (Nat.gcd a.natAbs b.natAbs : Nat)
def gcdI_pre (a b : Int) : Prop := inI a ∧ inI b
/-- The divisor of g and of all of a list. -/
def gL : Nat → List Int → Nat
  | g, [] => g
  | g, x :: r => gL (Nat.gcd g x.natAbs) r
theorem gL_gcd : ∀ (xs : List Int) (a b : Nat), gL (Nat.gcd a b) xs = Nat.gcd (gL a xs) b
  | [], _, _ => rfl
  | x :: r, a, b => by
    simp only [gL]
    rw [← gL_gcd r]
    congr 1
    rw [Nat.gcd_assoc, Nat.gcd_comm b, ← Nat.gcd_assoc]
def gcdL (xs : List (Val (.int .i64))) (k : Int) : Int := (gL k.natAbs xs : Nat)
def gcdL_pre (xs : List (Val (.int .i64))) (k : Int) : Prop := xs.length ≤ 1048576 ∧ inI k ∧ ∀ x ∈ xs, inI x
def gcdM (xs : List (Val (.int .i64))) : Int := (gL 0 xs : Nat)
def gcdM_pre (xs : List (Val (.int .i64))) : Prop := xs.length ≤ 1048576 ∧ ∀ x ∈ xs, inI x
def isNum (n : Int) : Bool := decide (-400000000 ≤ n ∧ n ≤ 400000000)
def inR (x a b : Int) : Bool := decide (a ≤ x ∧ x ≤ b)
def g163 : G := { ps := [i3], rs := [i3], dp := true, pre := fun x => absI_pre x.1, fn := fun x => (absI x.1, ()) }
-- impl.absolute
noncomputable def m163 (N : Nat) (v0 : Int) : Option (Vals [i3]) := bif (decide (v0 < (0 : Int))) then (some ((IntKind.i64.wrap (0 - v0)), ())) else (some (v0, ()))
def Γ163 : Gam := []
def tr163 : Nat → Tree := fun _ => .done
def lp163 : Nat → Nm := fun _ => ⟨[], []⟩
def ex163 : Nat → Option Nm := fun _ => none
def rg163 : Nat → Option Nm := fun _ => none
theorem p163 : plansOk tr163 (Try.f163.body.getD .skip) = true := by kernel_rfl
def T163 (N : Nat) : Tab := { tr := tr163, lp := lp163, ex := ex163, rg := rg163, fuel := N }
theorem T163_pins (N : Nat) : (T163 N).pins = false := rfl
theorem T163_tr (N i : Nat) : (T163 N).tr i = tr163 i := rfl
theorem T163_lp (N i : Nat) : (T163 N).lp i = lp163 i := rfl
theorem T163_ex (N i : Nat) : (T163 N).ex i = ex163 i := rfl
theorem T163_rg (N i : Nat) : (T163 N).rg i = rg163 i := rfl
theorem T163_fuel (N : Nat) : (T163 N).fuel = N := rfl
theorem run163 (N : Nat) (v0 : Int) : runT tt Γ163 (T163 N) (Try.f163.body.getD .skip) (retR tt true [i3] [.tmp 2]) (entryP [i3] 8 (v0, ())) = m163 N v0 := by
  rw [m163]; unfold Try.f163
  simp (maxSteps := 10000000) -implicitDefEqProofs [T163_tr, tr163, T163_lp, lp163, T163_ex, ex163, T163_rg, rg163, T163_fuel, T163_pins]
  try rfl
theorem e163 (n : Int) (h : inI n) : ∃ N, m163 N n = some (absI n, ()) := ⟨0, by
  unfold inI at h
  simp only [m163, absI]
  by_cases h0 : n < 0
  · have e : IntKind.i64.wrap (0 - n) = (n.natAbs : Int) := by rw [wrap64 (by omega) (by omega)]; omega
    simp only [h0, decide_true, cond_true, e]
  · have e : (n.natAbs : Int) = n := by omega
    simp [h0, e]⟩
theorem s163 : Sound Try.prog 163 g163 := sound_run (tt := tt) (Γ := Γ163) hT ok_nil hm (fn := Try.f163) Try.func163 (c := Try.f163.body.getD .skip) (by kernel_rfl) (by kernel_rfl) fun x hx => by
  obtain ⟨N, h⟩ := e163 x.1 hx
  exact ⟨T163 N, p163, noSem_ok _, (run163 N x.1).trans h⟩
-- impl.commonDivisor
noncomputable def m131_l2 (N : Nat)  (k0 : Int → Option (Vals [i3])) : Nat → Int → Int → Option (Vals [i3])
  | 0, _, _ => none
  | n + 1, v2, v3 => bif (!(decide (v3 = (0 : Int)))) then (chk (v3 ≠ 0) (m131_l2 N  k0 n v3 (v2.tmod v3))) else (k0 v2)
noncomputable def m131 (N : Nat) (v0 : Int) (v1 : Int) : Option (Vals [i3]) := chk (absI_pre v0) (chk (absI_pre v1) (m131_l2 N  (fun (v5 : Int) => some (v5, ())) N ((absI v0) : Int) ((absI v1) : Int)))
def Γ131 : Gam := [(163, g163)]
theorem Γ131_163 : Gam.get Γ131 163 = some g163 := rfl
def nl131_2 : Nm := ⟨[true, true], []⟩
theorem nl131_2_fix : nl131_2.fix = [] := rfl
theorem nl131_2_keep : nl131_2.keep = [true, true] := rfl
def nx131_0 : Nm := ⟨[true], []⟩
theorem nx131_0_fix : nx131_0.fix = [] := rfl
theorem nx131_0_keep : nx131_0.keep = [true] := rfl
def tr131 : Nat → Tree := fun i => if i = 3 then .quiet 0 (.quiet 1 (.quiet 2 (.quiet 3 (.quiet 4 (.quiet 5 .done))))) else .done
def lp131 : Nat → Nm := fun i => if i = 2 then nl131_2 else ⟨[], []⟩
def ex131 : Nat → Option Nm := fun i => if i = 0 then some nx131_0 else none
def rg131 : Nat → Option Nm := fun _ => none
theorem p131 : plansOk tr131 (Try.f131.body.getD .skip) = true := by kernel_rfl
def T131 (N : Nat) : Tab := { tr := tr131, lp := lp131, ex := ex131, rg := rg131, fuel := N }
theorem T131_pins (N : Nat) : (T131 N).pins = false := rfl
theorem T131_tr (N i : Nat) : (T131 N).tr i = tr131 i := rfl
theorem T131_lp (N i : Nat) : (T131 N).lp i = lp131 i := rfl
theorem T131_ex (N i : Nat) : (T131 N).ex i = ex131 i := rfl
theorem T131_rg (N i : Nat) : (T131 N).rg i = rg131 i := rfl
theorem T131_fuel (N : Nat) : (T131 N).fuel = N := rfl
noncomputable def c131_2 : Code := cut [true, true, false, true, true] (Try.f131.body.getD .skip)
theorem c131_2_at {N : Nat} {Q : X → St → Option (Vals [i3])} {e : List LV} {h : List Blk} : runT tt Γ131 (T131 N) c131_2 Q ⟨e, h⟩ = runT tt Γ131 (T131 N) (cut [true, true, false, true, true] (Try.f131.body.getD .skip)) Q ⟨e, h⟩ := rfl
theorem r131_l2 (N : Nat)  {k0 : Int → Option (Vals [i3])} {Q : X → St → Option (Vals [i3])} {c : Code} (hc : c = c131_2) (hret : ∀ st, Q .ret st = retS tt true [i3] [.tmp 4] st) (h0 : ∀ (v4 : Int), Q (.exit 0) ⟨[.one (.int .i64 v4), u, u, u, u, u, u, u, u, u, u, u, u, u, u, u], []⟩ = k0 v4) : ∀ (n : Nat) (v2 : Int) (v3 : Int), loopR (runT tt Γ131 (T131 N) c) false nl131_2 Q n ⟨[.one (.int .i64 v2), .one (.int .i64 v3), u, u, u, u, u, u, u, u, u, u, u, u, u, u], []⟩ = m131_l2 N  k0 n v2 v3 := by
  subst hc; intro n; induction n with
  | zero => intros; rfl
  | succ n ih =>
    intro v2 v3
    rw [loop_succ, c131_2_at, m131_l2]; unfold Try.f131
    simp (maxSteps := 10000000) -implicitDefEqProofs [T131_tr, tr131, T131_lp, lp131, T131_ex, ex131, T131_rg, rg131, T131_fuel, T131_pins, nl131_2_fix, nl131_2_keep, nx131_0_fix, nx131_0_keep, Γ131_163, g163, hret, h0, ih]
theorem run131 (N : Nat) (v0 : Int) (v1 : Int) : runT tt Γ131 (T131 N) (Try.f131.body.getD .skip) (retR tt true [i3] [.tmp 4]) (entryP [i3, i3] 16 (v0, v1, ())) = m131 N v0 v1 := by
  unfold Try.f131
  simp (maxSteps := 10000000) -implicitDefEqProofs [T131_tr, tr131, T131_lp, lp131, T131_ex, ex131, T131_rg, rg131, T131_fuel, T131_pins, nl131_2_fix, nl131_2_keep, nx131_0_fix, nx131_0_keep, Γ131_163, g163]
  rewrite [r131_l2 (k0 := (fun (v5 : Int) => some (v5, ()))) N  ?_ ?_ ?_]
  · rewrite [m131]; first | rfl | simp (maxSteps := 10000000) -implicitDefEqProofs []
  · rfl
  · intro; simp only [seqR_ret, blockR_ret, retR_ret, retX_ret]
  · intro v5; simp (maxSteps := 10000000) -implicitDefEqProofs [T131_tr, tr131, T131_lp, lp131, T131_ex, ex131, T131_rg, rg131, T131_fuel, T131_pins, nl131_2_fix, nl131_2_keep, nx131_0_fix, nx131_0_keep, Γ131_163, g163]
theorem t131 (N : Nat) (k : Int → Option (Vals [i3])) : ∀ (n a b : Nat), b < n → m131_l2 N k n (a : Int) (b : Int) = k (Nat.gcd a b : Nat)
  | 0, _, _, h => by omega
  | n + 1, a, b, h => by
    rw [m131_l2]
    by_cases hb : b = 0
    · subst hb; simp
    · have hb' : ¬ ((b : Int) = 0) := by omega
      have hlt : a % b < b := Nat.mod_lt _ (by omega)
      have hm : ((a : Int).tmod (b : Int)) = ((a % b : Nat) : Int) := by rw [Int.tmod_eq_emod_of_nonneg (by omega)]; rfl
      simp only [hb', decide_false, Bool.not_false, cond_true, ne_eq, not_false_eq_true, chk_true]
      rw [hm, t131 N k n b (a % b) (by omega)]
      congr 2
      rw [Nat.gcd_comm b, ← Nat.gcd_rec, Nat.gcd_comm]
def g131 : G := { ps := [i3, i3], rs := [i3], dp := true, pre := fun x => gcdI_pre x.1 x.2.1, fn := fun x => (gcdI x.1 x.2.1, ()) }
theorem e131 (a b : Int) (h : gcdI_pre a b) : ∃ N, m131 N a b = some (gcdI a b, ()) := ⟨b.natAbs + 1, by
  rw [m131, chk_pos (show absI_pre a from h.1), chk_pos (show absI_pre b from h.2)]
  simp only [absI]
  rw [t131 _ _ _ _ _ (Nat.lt_succ_self _)]
  rfl⟩
theorem s131 : Sound Try.prog 131 g131 := sound_run (tt := tt) (Γ := Γ131) hT (ok_cons s163 ok_nil) hm (fn := Try.f131) Try.func131 (c := Try.f131.body.getD .skip) (by kernel_rfl) (by kernel_rfl) fun x hx => by
  obtain ⟨N, h⟩ := e131 x.1 x.2.1 hx
  exact ⟨T131 N, p131, noSem_ok _, (run131 N x.1 x.2.1).trans h⟩
theorem gcdI_in {g : Nat} {x : Int} (hg : (g : Int) ≤ 9223372036854775807) (hx : inI x) : gcdI_pre (g : Int) x ∧ ((Nat.gcd g x.natAbs : Nat) : Int) ≤ 9223372036854775807 := by
  refine ⟨⟨⟨by omega, hg⟩, hx⟩, ?_⟩
  unfold inI at hx
  by_cases h0 : x.natAbs = 0
  · rw [h0]; simpa using hg
  · have := Nat.gcd_le_right (m := g) (n := x.natAbs) (by omega)
    omega
theorem gcd_fold {ρ : Type} : ∀ (xs : List Int) (i g : Nat) (k : Int → Option ρ), (g : Int) ≤ 9223372036854775807 → (∀ x ∈ xs, inI x) → foldK (fun _ x s K => chk (gcdI_pre s x) (K (gcdI s x))) i xs (g : Int) k = k (gL g xs : Nat)
  | [], _, _, _, _, _ => rfl
  | x :: xs, i, g, k, hg, hx => by
    obtain ⟨h1, h2⟩ := gcdI_in hg (hx x (by simp))
    rw [foldK, chk_pos h1]
    exact gcd_fold xs (i + 1) _ k h2 fun y hy => hx y (by simp [hy])
-- impl.divisorOf
noncomputable def m132_l3 (N : Nat) (v2 : List (Val (.int .i64))) (v3 : Int) (k0 : Int → Option (Vals [i3])) : Nat → Int → Int → Option (Vals [i3])
  | 0, _, _ => none
  | n + 1, v1, v4 => bif (decide (v4 < v3)) then (chk (0 ≤ v4 ∧ v4 < (v2.length : Int)) (chk (gcdI_pre v1 ((v2.getD v4.toNat (dflt (.int .i64))) : Int)) (m132_l3 N v2 v3 k0 n ((gcdI v1 ((v2.getD v4.toNat (dflt (.int .i64))) : Int)) : Int) (IntKind.i64.wrap (v4 + (1 : Int)))))) else (k0 v1)
noncomputable def m132 (N : Nat) (v0 : List (Val (.int .i64))) : Option (Vals [i3]) := m132_l3 N v0 (v0.length : Int) (fun (v6 : Int) => some (v6, ())) N (0 : Int) (0 : Int)
def Γ132 : Gam := [(131, g131)]
theorem Γ132_131 : Gam.get Γ132 131 = some g131 := rfl
def nl132_3 : Nm := ⟨[false, false, false, true, false, false, true, true, true], []⟩
theorem nl132_3_fix : nl132_3.fix = [] := rfl
theorem nl132_3_keep : nl132_3.keep = [false, false, false, true, false, false, true, true, true] := rfl
def nx132_0 : Nm := ⟨[false, false, false, true], []⟩
theorem nx132_0_fix : nx132_0.fix = [] := rfl
theorem nx132_0_keep : nx132_0.keep = [false, false, false, true] := rfl
def tr132 : Nat → Tree := fun _ => .done
def lp132 : Nat → Nm := fun i => if i = 3 then nl132_3 else ⟨[], []⟩
def ex132 : Nat → Option Nm := fun i => if i = 0 then some nx132_0 else none
def rg132 : Nat → Option Nm := fun _ => none
theorem p132 : plansOk tr132 (Try.f132.body.getD .skip) = true := by kernel_rfl
def T132 (N : Nat) : Tab := { tr := tr132, lp := lp132, ex := ex132, rg := rg132, fuel := N }
theorem T132_pins (N : Nat) : (T132 N).pins = false := rfl
theorem T132_tr (N i : Nat) : (T132 N).tr i = tr132 i := rfl
theorem T132_lp (N i : Nat) : (T132 N).lp i = lp132 i := rfl
theorem T132_ex (N i : Nat) : (T132 N).ex i = ex132 i := rfl
theorem T132_rg (N i : Nat) : (T132 N).rg i = rg132 i := rfl
theorem T132_fuel (N : Nat) : (T132 N).fuel = N := rfl
noncomputable def c132_3 : Code := cut [true, true, false, true, true, true] (Try.f132.body.getD .skip)
theorem c132_3_at {N : Nat} {Q : X → St → Option (Vals [i3])} {e : List LV} {h : List Blk} : runT tt Γ132 (T132 N) c132_3 Q ⟨e, h⟩ = runT tt Γ132 (T132 N) (cut [true, true, false, true, true, true] (Try.f132.body.getD .skip)) Q ⟨e, h⟩ := rfl
theorem r132_l3 (N : Nat) (v2 : List (Val (.int .i64))) (v3 : Int) {k0 : Int → Option (Vals [i3])} {Q : X → St → Option (Vals [i3])} {c : Code} (hc : c = c132_3) (hret : ∀ st, Q .ret st = retS tt true [i3] [.tmp 2] st) (h0 : ∀ (v5 : Int), Q (.exit 0) ⟨[u, u, u, .one (.int .i64 v5), u, u, u, u, u, u, u, u, u, u, u, u, u], []⟩ = k0 v5) : ∀ (n : Nat) (v1 : Int) (v4 : Int), loopR (runT tt Γ132 (T132 N) c) false nl132_3 Q n ⟨[u, u, u, .one (.int .i64 v1), u, u, .one (.sl 3 (.int .i64) v2 0), .one (.int .i64 v3), .one (.int .i64 v4), u, u, u, u, u, u, u, u], []⟩ = m132_l3 N v2 v3 k0 n v1 v4 := by
  subst hc; intro n; induction n with
  | zero => intros; rfl
  | succ n ih =>
    intro v1 v4
    rw [loop_succ, c132_3_at, m132_l3]; unfold Try.f132
    simp (maxSteps := 10000000) -implicitDefEqProofs [T132_tr, tr132, T132_lp, lp132, T132_ex, ex132, T132_rg, rg132, T132_fuel, T132_pins, nl132_3_fix, nl132_3_keep, nx132_0_fix, nx132_0_keep, Γ132_131, g131, hret, h0, ih]
theorem run132 (N : Nat) (v0 : List (Val (.int .i64))) : runT tt Γ132 (T132 N) (Try.f132.body.getD .skip) (retR tt true [i3] [.tmp 2]) (entryP [i32] 17 (v0, ())) = m132 N v0 := by
  unfold Try.f132
  simp (maxSteps := 10000000) -implicitDefEqProofs [T132_tr, tr132, T132_lp, lp132, T132_ex, ex132, T132_rg, rg132, T132_fuel, T132_pins, nl132_3_fix, nl132_3_keep, nx132_0_fix, nx132_0_keep, Γ132_131, g131]
  rewrite [r132_l3 (k0 := (fun (v6 : Int) => some (v6, ()))) N _ _ ?_ ?_ ?_]
  · rewrite [m132]; first | rfl | simp (maxSteps := 10000000) -implicitDefEqProofs []
  · rfl
  · intro; simp only [seqR_ret, blockR_ret, retR_ret, retX_ret]
  · intro v6; simp (maxSteps := 10000000) -implicitDefEqProofs [T132_tr, tr132, T132_lp, lp132, T132_ex, ex132, T132_rg, rg132, T132_fuel, T132_pins, nl132_3_fix, nl132_3_keep, nx132_0_fix, nx132_0_keep, Γ132_131, g131]
def g132 : G := { ps := [i32], rs := [i3], dp := true, pre := fun x => gcdM_pre x.1, fn := fun x => (gcdM x.1, ()) }
theorem e132 (xs : List (Val (.int .i64))) (h : gcdM_pre xs) : ∃ N, m132 N xs = some (gcdM xs, ()) := ⟨xs.length + 1, by
  rw [m132]
  rw [loop_fold (F := fun n i s => m132_l3 _ xs xs.length _ n s i) (step := fun _ x s K => chk (gcdI_pre s x) (K (gcdI s x))) (k := fun s => some (s, ())) h.1 ?_ ?_ _ _ (Nat.lt_succ_self _)]
  · exact gcd_fold xs 0 0 _ (by omega) h.2
  · intro n i s hi
    rw [m132_l3, bif_dec (by omega), chk_pos (by omega), getD_atI hi]
  · intro n i s hi
    rw [m132_l3, bif_decN (by omega)]⟩
theorem s132 : Sound Try.prog 132 g132 := sound_run (tt := tt) (Γ := Γ132) hT (ok_cons s131 ok_nil) hm (fn := Try.f132) Try.func132 (c := Try.f132.body.getD .skip) (by kernel_rfl) (by kernel_rfl) fun x hx => by
  obtain ⟨N, h⟩ := e132 x.1 hx
  exact ⟨T132 N, p132, noSem_ok _, (run132 N x.1).trans h⟩
def g162 : G := { ps := [i3], rs := [i3], dp := true, pre := fun x => absI_pre x.1, fn := fun x => (absI x.1, ()) }
-- spec.l1Abs
noncomputable def m162 (N : Nat) (v0 : Int) : Option (Vals [i3]) := some ((max v0 (IntKind.i64.wrap (0 - v0))), ())
def Γ162 : Gam := []
def tr162 : Nat → Tree := fun _ => .done
def lp162 : Nat → Nm := fun _ => ⟨[], []⟩
def ex162 : Nat → Option Nm := fun _ => none
def rg162 : Nat → Option Nm := fun _ => none
theorem p162 : plansOk tr162 (Try.f162.body.getD .skip) = true := by kernel_rfl
def T162 (N : Nat) : Tab := { tr := tr162, lp := lp162, ex := ex162, rg := rg162, fuel := N }
theorem T162_pins (N : Nat) : (T162 N).pins = false := rfl
theorem T162_tr (N i : Nat) : (T162 N).tr i = tr162 i := rfl
theorem T162_lp (N i : Nat) : (T162 N).lp i = lp162 i := rfl
theorem T162_ex (N i : Nat) : (T162 N).ex i = ex162 i := rfl
theorem T162_rg (N i : Nat) : (T162 N).rg i = rg162 i := rfl
theorem T162_fuel (N : Nat) : (T162 N).fuel = N := rfl
theorem run162 (N : Nat) (v0 : Int) : runT tt Γ162 (T162 N) (Try.f162.body.getD .skip) (retR tt true [i3] [.tmp 2]) (entryP [i3] 7 (v0, ())) = m162 N v0 := by
  rw [m162]; unfold Try.f162
  simp (maxSteps := 10000000) -implicitDefEqProofs [T162_tr, tr162, T162_lp, lp162, T162_ex, ex162, T162_rg, rg162, T162_fuel, T162_pins]
  try rfl
theorem e162 (n : Int) (h : inI n) : ∃ N, m162 N n = some (absI n, ()) := ⟨0, by
  unfold inI at h
  rw [m162, wrap64 (by omega) (by omega)]
  have e : max n (0 - n) = absI n := by unfold absI; omega
  rw [e]⟩
theorem s162 : Sound Try.prog 162 g162 := sound_run (tt := tt) (Γ := Γ162) hT ok_nil hm (fn := Try.f162) Try.func162 (c := Try.f162.body.getD .skip) (by kernel_rfl) (by kernel_rfl) fun x hx => by
  obtain ⟨N, h⟩ := e162 x.1 hx
  exact ⟨T162 N, p162, noSem_ok _, (run162 N x.1).trans h⟩
-- spec.l1In
noncomputable def m65 (N : Nat) (v0 : Int) (v1 : Int) (v2 : Int) : Option (Vals [i4]) := bif (decide (v1 ≤ v0)) then (some ((decide (v0 ≤ v2)), ())) else (some (false, ()))
def Γ65 : Gam := []
def tr65 : Nat → Tree := fun _ => .done
def lp65 : Nat → Nm := fun _ => ⟨[], []⟩
def ex65 : Nat → Option Nm := fun _ => none
def rg65 : Nat → Option Nm := fun _ => none
theorem p65 : plansOk tr65 (Try.f65.body.getD .skip) = true := by kernel_rfl
def T65 (N : Nat) : Tab := { tr := tr65, lp := lp65, ex := ex65, rg := rg65, fuel := N }
theorem T65_pins (N : Nat) : (T65 N).pins = false := rfl
theorem T65_tr (N i : Nat) : (T65 N).tr i = tr65 i := rfl
theorem T65_lp (N i : Nat) : (T65 N).lp i = lp65 i := rfl
theorem T65_ex (N i : Nat) : (T65 N).ex i = ex65 i := rfl
theorem T65_rg (N i : Nat) : (T65 N).rg i = rg65 i := rfl
theorem T65_fuel (N : Nat) : (T65 N).fuel = N := rfl
theorem run65 (N : Nat) (v0 : Int) (v1 : Int) (v2 : Int) : runT tt Γ65 (T65 N) (Try.f65.body.getD .skip) (retR tt true [i4] [.tmp 6]) (entryP [i3, i3, i3] 15 (v0, v1, v2, ())) = m65 N v0 v1 v2 := by
  rw [m65]; unfold Try.f65
  simp (maxSteps := 10000000) -implicitDefEqProofs [T65_tr, tr65, T65_lp, lp65, T65_ex, ex65, T65_rg, rg65, T65_fuel, T65_pins]
  try rfl
def g65 : G := { ps := [i3, i3, i3], rs := [i4], dp := true, pre := fun _ => True, fn := fun x => (inR x.1 x.2.1 x.2.2.1, ()) }
theorem e65 (x a b : Int) : ∃ N, m65 N x a b = some (inR x a b, ()) := ⟨0, by
  simp only [m65, inR]
  by_cases h1 : a ≤ x <;> by_cases h2 : x ≤ b <;> simp [h1, h2]⟩
theorem s65 : Sound Try.prog 65 g65 := sound_run (tt := tt) (Γ := Γ65) hT ok_nil hm (fn := Try.f65) Try.func65 (c := Try.f65.body.getD .skip) (by kernel_rfl) (by kernel_rfl) fun x hx => by
  obtain ⟨N, h⟩ := e65 x.1 x.2.1 x.2.2.1
  exact ⟨T65 N, p65, noSem_ok _, (run65 N x.1 x.2.1 x.2.2.1).trans h⟩
-- spec.IsNumber
noncomputable def m141 (N : Nat) (v0 : Int) : Option (Vals [i4]) := some (((inR v0 (-400000000 : Int) (400000000 : Int)) : Bool), ())
def Γ141 : Gam := [(65, g65)]
theorem Γ141_65 : Gam.get Γ141 65 = some g65 := rfl
def tr141 : Nat → Tree := fun _ => .done
def lp141 : Nat → Nm := fun _ => ⟨[], []⟩
def ex141 : Nat → Option Nm := fun _ => none
def rg141 : Nat → Option Nm := fun _ => none
theorem p141 : plansOk tr141 (Try.f141.body.getD .skip) = true := by kernel_rfl
def T141 (N : Nat) : Tab := { tr := tr141, lp := lp141, ex := ex141, rg := rg141, fuel := N }
theorem T141_pins (N : Nat) : (T141 N).pins = false := rfl
theorem T141_tr (N i : Nat) : (T141 N).tr i = tr141 i := rfl
theorem T141_lp (N i : Nat) : (T141 N).lp i = lp141 i := rfl
theorem T141_ex (N i : Nat) : (T141 N).ex i = ex141 i := rfl
theorem T141_rg (N i : Nat) : (T141 N).rg i = rg141 i := rfl
theorem T141_fuel (N : Nat) : (T141 N).fuel = N := rfl
theorem run141 (N : Nat) (v0 : Int) : runT tt Γ141 (T141 N) (Try.f141.body.getD .skip) (retR tt true [i4] [.tmp 2]) (entryP [i3] 5 (v0, ())) = m141 N v0 := by
  rw [m141]; unfold Try.f141
  simp (maxSteps := 10000000) -implicitDefEqProofs [T141_tr, tr141, T141_lp, lp141, T141_ex, ex141, T141_rg, rg141, T141_fuel, T141_pins, Γ141_65, g65]
  try rfl
-- impl.IsNumber
noncomputable def m153 (N : Nat) (v0 : Int) : Option (Vals [i4]) := bif (decide ((-400000000 : Int) ≤ v0)) then (some ((decide (v0 ≤ (400000000 : Int))), ())) else (some (false, ()))
def Γ153 : Gam := []
def tr153 : Nat → Tree := fun _ => .done
def lp153 : Nat → Nm := fun _ => ⟨[], []⟩
def ex153 : Nat → Option Nm := fun _ => none
def rg153 : Nat → Option Nm := fun _ => none
theorem p153 : plansOk tr153 (Try.f153.body.getD .skip) = true := by kernel_rfl
def T153 (N : Nat) : Tab := { tr := tr153, lp := lp153, ex := ex153, rg := rg153, fuel := N }
theorem T153_pins (N : Nat) : (T153 N).pins = false := rfl
theorem T153_tr (N i : Nat) : (T153 N).tr i = tr153 i := rfl
theorem T153_lp (N i : Nat) : (T153 N).lp i = lp153 i := rfl
theorem T153_ex (N i : Nat) : (T153 N).ex i = ex153 i := rfl
theorem T153_rg (N i : Nat) : (T153 N).rg i = rg153 i := rfl
theorem T153_fuel (N : Nat) : (T153 N).fuel = N := rfl
theorem run153 (N : Nat) (v0 : Int) : runT tt Γ153 (T153 N) (Try.f153.body.getD .skip) (retR tt true [i4] [.tmp 2]) (entryP [i3] 9 (v0, ())) = m153 N v0 := by
  rw [m153]; unfold Try.f153
  simp (maxSteps := 10000000) -implicitDefEqProofs [T153_tr, tr153, T153_lp, lp153, T153_ex, ex153, T153_rg, rg153, T153_fuel, T153_pins]
  try rfl
def g141 : G := { ps := [i3], rs := [i4], dp := true, pre := fun _ => True, fn := fun x => (isNum x.1, ()) }
def g153 : G := { ps := [i3], rs := [i4], dp := true, pre := fun _ => True, fn := fun x => (isNum x.1, ()) }
theorem e141 (x : Int) : ∃ N, m141 N x = some (isNum x, ()) := ⟨0, by
  simp only [m141, inR, isNum]⟩
theorem s141 : Sound Try.prog 141 g141 := sound_run (tt := tt) (Γ := Γ141) hT (ok_cons s65 ok_nil) hm (fn := Try.f141) Try.func141 (c := Try.f141.body.getD .skip) (by kernel_rfl) (by kernel_rfl) fun x hx => by
  obtain ⟨N, h⟩ := e141 x.1
  exact ⟨T141 N, p141, noSem_ok _, (run141 N x.1).trans h⟩
theorem e153 (x : Int) : ∃ N, m153 N x = some (isNum x, ()) := ⟨0, by
  simp only [m153, isNum]
  by_cases h1 : -400000000 ≤ x <;> by_cases h2 : x ≤ 400000000 <;> simp [h1, h2]⟩
theorem s153 : Sound Try.prog 153 g153 := sound_run (tt := tt) (Γ := Γ153) hT ok_nil hm (fn := Try.f153) Try.func153 (c := Try.f153.body.getD .skip) (by kernel_rfl) (by kernel_rfl) fun x hx => by
  obtain ⟨N, h⟩ := e153 x.1
  exact ⟨T153 N, p153, noSem_ok _, (run153 N x.1).trans h⟩
-- spec.l2Gcd
noncomputable def m128_l6 (N : Nat) (v11 : List (Val (.int .i64))) (v13 : Int) (k2 : Int → Option (Vals [i3])) : Nat → Int → Int → Option (Vals [i3])
  | 0, _, _ => none
  | n + 1, v12, v14 => bif (!(decide (v14 = (0 : Int)))) then (chk (v14 ≠ 0) (m128_l6 N v11 v13 k2 n v14 (v12.tmod v14))) else (k2 v12)
noncomputable def m128_l3 (N : Nat) (v2 : List (Val (.int .i64))) (k0 : Int → Option (Vals [i3])) : Nat → Int → Int → Option (Vals [i3])
  | 0, _, _ => none
  | n + 1, v3, v4 => bif (decide (v4 < (v2.length : Int))) then (chk (0 ≤ v4 ∧ v4 < (v2.length : Int)) (chk (absI_pre ((v2.getD v4.toNat (dflt (.int .i64))) : Int)) (m128_l6 N v2 v4 (fun (v16 : Int) => m128_l3 N v2 k0 n v16 (IntKind.i64.wrap (v4 + (1 : Int)))) N v3 ((absI ((v2.getD v4.toNat (dflt (.int .i64))) : Int)) : Int)))) else (k0 v3)
noncomputable def m128 (N : Nat) (v0 : List (Val (.int .i64))) (v1 : Int) : Option (Vals [i3]) := chk (absI_pre v1) (m128_l3 N v0 (fun (v18 : Int) => some (v18, ())) N ((absI v1) : Int) (0 : Int))
def Γ128 : Gam := [(162, g162)]
theorem Γ128_162 : Gam.get Γ128 162 = some g162 := rfl
def nl128_6 : Nm := ⟨[true, false, false, false, false, true, true, true], []⟩
theorem nl128_6_fix : nl128_6.fix = [] := rfl
theorem nl128_6_keep : nl128_6.keep = [true, false, false, false, false, true, true, true] := rfl
def nl128_3 : Nm := ⟨[true, false, false, false, false, true, true], []⟩
theorem nl128_3_fix : nl128_3.fix = [] := rfl
theorem nl128_3_keep : nl128_3.keep = [true, false, false, false, false, true, true] := rfl
def nx128_0 : Nm := ⟨[false, false, false, false, false, true], []⟩
theorem nx128_0_fix : nx128_0.fix = [] := rfl
theorem nx128_0_keep : nx128_0.keep = [false, false, false, false, false, true] := rfl
def nx128_2 : Nm := ⟨[true, false, false, false, false, true, true], []⟩
theorem nx128_2_fix : nx128_2.fix = [] := rfl
theorem nx128_2_keep : nx128_2.keep = [true, false, false, false, false, true, true] := rfl
def tr128 : Nat → Tree := fun i => if i = 7 then .quiet 0 (.quiet 1 (.quiet 2 (.quiet 3 (.quiet 4 (.quiet 5 .done))))) else .done
def lp128 : Nat → Nm := fun i => if i = 6 then nl128_6 else if i = 3 then nl128_3 else ⟨[], []⟩
def ex128 : Nat → Option Nm := fun i => if i = 0 then some nx128_0 else if i = 2 then some nx128_2 else none
def rg128 : Nat → Option Nm := fun _ => none
theorem p128 : plansOk tr128 (Try.f128.body.getD .skip) = true := by kernel_rfl
def T128 (N : Nat) : Tab := { tr := tr128, lp := lp128, ex := ex128, rg := rg128, fuel := N }
theorem T128_pins (N : Nat) : (T128 N).pins = false := rfl
theorem T128_tr (N i : Nat) : (T128 N).tr i = tr128 i := rfl
theorem T128_lp (N i : Nat) : (T128 N).lp i = lp128 i := rfl
theorem T128_ex (N i : Nat) : (T128 N).ex i = ex128 i := rfl
theorem T128_rg (N i : Nat) : (T128 N).rg i = rg128 i := rfl
theorem T128_fuel (N : Nat) : (T128 N).fuel = N := rfl
noncomputable def c128_6 : Code := cut [true, true, false, true, true, true, true, false, true, true, true, true] (Try.f128.body.getD .skip)
theorem c128_6_at {N : Nat} {Q : X → St → Option (Vals [i3])} {e : List LV} {h : List Blk} : runT tt Γ128 (T128 N) c128_6 Q ⟨e, h⟩ = runT tt Γ128 (T128 N) (cut [true, true, false, true, true, true, true, false, true, true, true, true] (Try.f128.body.getD .skip)) Q ⟨e, h⟩ := rfl
theorem r128_l6 (N : Nat) (v11 : List (Val (.int .i64))) (v13 : Int) {k2 : Int → Option (Vals [i3])} {Q : X → St → Option (Vals [i3])} {c : Code} (hc : c = c128_6) (hret : ∀ st, Q .ret st = retS tt true [i3] [.tmp 4] st) (h2 : ∀ (v15 : Int), Q (.exit 2) ⟨[.one (.sl 3 (.int .i64) v11 0), u, u, u, u, .one (.int .i64 v15), .one (.int .i64 v13), u, u, u, u, u, u, u, u, u, u, u, u, u, u, u, u, u, u, u, u, u], []⟩ = k2 v15) : ∀ (n : Nat) (v12 : Int) (v14 : Int), loopR (runT tt Γ128 (T128 N) c) false nl128_6 Q n ⟨[.one (.sl 3 (.int .i64) v11 0), u, u, u, u, .one (.int .i64 v12), .one (.int .i64 v13), .one (.int .i64 v14), u, u, u, u, u, u, u, u, u, u, u, u, u, u, u, u, u, u, u, u], []⟩ = m128_l6 N v11 v13 k2 n v12 v14 := by
  subst hc; intro n; induction n with
  | zero => intros; rfl
  | succ n ih =>
    intro v12 v14
    rw [loop_succ, c128_6_at, m128_l6]; unfold Try.f128
    simp (maxSteps := 10000000) -implicitDefEqProofs [T128_tr, tr128, T128_lp, lp128, T128_ex, ex128, T128_rg, rg128, T128_fuel, T128_pins, nl128_6_fix, nl128_6_keep, nl128_3_fix, nl128_3_keep, nx128_0_fix, nx128_0_keep, nx128_2_fix, nx128_2_keep, Γ128_162, g162, hret, h2, ih]
noncomputable def c128_3 : Code := cut [true, true, false, true, true, true] (Try.f128.body.getD .skip)
theorem c128_3_at {N : Nat} {Q : X → St → Option (Vals [i3])} {e : List LV} {h : List Blk} : runT tt Γ128 (T128 N) c128_3 Q ⟨e, h⟩ = runT tt Γ128 (T128 N) (cut [true, true, false, true, true, true] (Try.f128.body.getD .skip)) Q ⟨e, h⟩ := rfl
theorem r128_l3 (N : Nat) (v2 : List (Val (.int .i64))) {k0 : Int → Option (Vals [i3])} {Q : X → St → Option (Vals [i3])} {c : Code} (hc : c = c128_3) (hret : ∀ st, Q .ret st = retS tt true [i3] [.tmp 4] st) (h0 : ∀ (v17 : Int), Q (.exit 0) ⟨[u, u, u, u, u, .one (.int .i64 v17), u, u, u, u, u, u, u, u, u, u, u, u, u, u, u, u, u, u, u, u, u, u], []⟩ = k0 v17) : ∀ (n : Nat) (v3 : Int) (v4 : Int), loopR (runT tt Γ128 (T128 N) c) false nl128_3 Q n ⟨[.one (.sl 3 (.int .i64) v2 0), u, u, u, u, .one (.int .i64 v3), .one (.int .i64 v4), u, u, u, u, u, u, u, u, u, u, u, u, u, u, u, u, u, u, u, u, u], []⟩ = m128_l3 N v2 k0 n v3 v4 := by
  subst hc; intro n; induction n with
  | zero => intros; rfl
  | succ n ih =>
    intro v3 v4
    rw [loop_succ, c128_3_at]; unfold Try.f128
    simp (maxSteps := 10000000) -implicitDefEqProofs [T128_tr, tr128, T128_lp, lp128, T128_ex, ex128, T128_rg, rg128, T128_fuel, T128_pins, nl128_6_fix, nl128_6_keep, nl128_3_fix, nl128_3_keep, nx128_0_fix, nx128_0_keep, nx128_2_fix, nx128_2_keep, Γ128_162, g162, hret, h0, ih]
    rewrite [r128_l6 (k2 := (fun (v16 : Int) => m128_l3 N v2 k0 n v16 (IntKind.i64.wrap (v4 + (1 : Int))))) N _ _ ?_ ?_ ?_]
    · rewrite [m128_l3]; first | rfl | simp (maxSteps := 10000000) -implicitDefEqProofs [ih]
    · rfl
    · intro; simp only [seqR_ret, blockR_ret, retR_ret, retX_ret, hret]
    · intro v16; simp (maxSteps := 10000000) -implicitDefEqProofs [T128_tr, tr128, T128_lp, lp128, T128_ex, ex128, T128_rg, rg128, T128_fuel, T128_pins, nl128_6_fix, nl128_6_keep, nl128_3_fix, nl128_3_keep, nx128_0_fix, nx128_0_keep, nx128_2_fix, nx128_2_keep, Γ128_162, g162, hret, h0, ih]
theorem run128 (N : Nat) (v0 : List (Val (.int .i64))) (v1 : Int) : runT tt Γ128 (T128 N) (Try.f128.body.getD .skip) (retR tt true [i3] [.tmp 4]) (entryP [i32, i3] 28 (v0, v1, ())) = m128 N v0 v1 := by
  unfold Try.f128
  simp (maxSteps := 10000000) -implicitDefEqProofs [T128_tr, tr128, T128_lp, lp128, T128_ex, ex128, T128_rg, rg128, T128_fuel, T128_pins, nl128_6_fix, nl128_6_keep, nl128_3_fix, nl128_3_keep, nx128_0_fix, nx128_0_keep, nx128_2_fix, nx128_2_keep, Γ128_162, g162]
  rewrite [r128_l3 (k0 := (fun (v18 : Int) => some (v18, ()))) N _ ?_ ?_ ?_]
  · rewrite [m128]; first | rfl | simp (maxSteps := 10000000) -implicitDefEqProofs []
  · rfl
  · intro; simp only [seqR_ret, blockR_ret, retR_ret, retX_ret]
  · intro v18; simp (maxSteps := 10000000) -implicitDefEqProofs [T128_tr, tr128, T128_lp, lp128, T128_ex, ex128, T128_rg, rg128, T128_fuel, T128_pins, nl128_6_fix, nl128_6_keep, nl128_3_fix, nl128_3_keep, nx128_0_fix, nx128_0_keep, nx128_2_fix, nx128_2_keep, Γ128_162, g162]
theorem t128i (N : Nat) (xs : List (Val (.int .i64))) (v : Int) (k : Int → Option (Vals [i3])) : ∀ (n b a : Nat), b < n → m128_l6 N xs v k n (a : Int) (b : Int) = k (Nat.gcd a b : Nat)
  | 0, _, _, h => by omega
  | n + 1, b, a, h => by
    rw [m128_l6]
    by_cases hb : b = 0
    · subst hb; simp
    · have hb' : ¬ ((b : Int) = 0) := by omega
      have hlt : a % b < b := Nat.mod_lt _ (by omega)
      have hm : ((a : Int).tmod (b : Int)) = ((a % b : Nat) : Int) := by rw [Int.tmod_eq_emod_of_nonneg (by omega)]; rfl
      simp only [hb', decide_false, Bool.not_false, cond_true, ne_eq, not_false_eq_true, chk_true]
      rw [hm, t128i N xs v k n (a % b) b (by omega)]
      congr 2
      rw [Nat.gcd_comm b, ← Nat.gcd_rec, Nat.gcd_comm]
theorem t128v (N : Nat) (xs : List (Val (.int .i64))) (v v' : Int) (k : Int → Option (Vals [i3])) : ∀ (n : Nat) (a b : Int), m128_l6 N xs v k n a b = m128_l6 N xs v' k n a b
  | 0, _, _ => rfl
  | n + 1, a, b => by rw [m128_l6, m128_l6, t128v N xs v v' k n]
theorem t128 (N : Nat) (hN : 9223372036854775807 < N) (ys : List (Val (.int .i64))) : ∀ (xs : List Int) (i g : Nat) (k : Int → Option (Vals [i3])), (∀ x ∈ xs, inI x) → foldK (fun _ x s K => chk (absI_pre x) (m128_l6 N ys 0 K N s (absI x))) i xs (g : Int) k = k (gL g xs : Nat)
  | [], _, _, _, _ => rfl
  | x :: xs, i, g, k, hx => by
    have h1 := hx x (by simp)
    rw [foldK, chk_pos (show absI_pre x from h1)]
    simp only [absI]
    rw [t128i _ _ _ _ _ _ _ (by unfold inI at h1; omega)]
    exact t128 N hN ys xs (i + 1) _ k fun y hy => hx y (by simp [hy])
def g128 : G := { ps := [i32, i3], rs := [i3], dp := true, pre := fun x => gcdL_pre x.1 x.2.1, fn := fun x => (gcdL x.1 x.2.1, ()) }
theorem e128 (xs : List (Val (.int .i64))) (k : Int) (h : gcdL_pre xs k) : ∃ N, m128 N xs k = some (gcdL xs k, ()) := ⟨9223372036854775808 + xs.length, by
  rw [m128, chk_pos (show absI_pre k from h.2.1)]
  rw [loop_fold (F := fun n i s => m128_l3 _ xs _ n s i) (step := fun _ x s K => chk (absI_pre x) (m128_l6 (9223372036854775808 + xs.length) xs 0 K (9223372036854775808 + xs.length) s (absI x))) (k := fun s => some (s, ())) h.1 ?_ ?_ _ _ (by omega)]
  · exact t128 _ (by omega) xs xs 0 k.natAbs _ h.2.2
  · intro n i s hi
    rw [m128_l3, bif_dec (by omega), chk_pos (by omega), getD_atI hi]
    congr 1
    exact t128v ..
  · intro n i s hi
    rw [m128_l3, bif_decN (by omega)]⟩
theorem s128 : Sound Try.prog 128 g128 := sound_run (tt := tt) (Γ := Γ128) hT (ok_cons s162 ok_nil) hm (fn := Try.f128) Try.func128 (c := Try.f128.body.getD .skip) (by kernel_rfl) (by kernel_rfl) fun x hx => by
  obtain ⟨N, h⟩ := e128 x.1 x.2.1 hx
  exact ⟨T128 N, p128, noSem_ok _, (run128 N x.1 x.2.1).trans h⟩
/-- An atom within the limits and in lowest terms. -/
def isAtom (a : Val Y106) : Bool := decide ((a.1 : List Int).length ≤ 4) && isNum a.2.1 && (a.1 : List Int).all isNum && decide (((gL (Int.natAbs a.2.1) a.1 : Nat) : Int) ≤ 1)
-- spec.IsAtom
noncomputable def m127_l4 (N : Nat) (v2 : List (Val (.int .i64))) (v3 : Int) (v4 : Bool) (k0 : Unit → Option (Vals [i4])) : Nat → Int → Option (Vals [i4])
  | 0, _ => none
  | n + 1, v1 => bif (decide (v1 < (v2.length : Int))) then (chk (0 ≤ v1 ∧ v1 < (v2.length : Int)) (bif (!((isNum ((v2.getD v1.toNat (dflt (.int .i64))) : Int)) : Bool)) then (some (false, ())) else (m127_l4 N v2 v3 v4 k0 n (IntKind.i64.wrap (v1 + (1 : Int)))))) else (k0 ())
noncomputable def m127 (N : Nat) (v0 : Val Y106) : Option (Vals [i4]) := bif (decide ((4 : Int) < ((v0.1 : List (Val (.int .i64))).length : Int))) then (some (false, ())) else (bif (!((isNum (v0.2.1 : Int)) : Bool)) then (some (false, ())) else (m127_l4 N (v0.1 : List (Val (.int .i64))) (v0.2.1 : Int) (v0.2.2 : Bool) (fun (_ : Unit) => chk (gcdL_pre (v0.1 : List (Val (.int .i64))) (v0.2.1 : Int)) (some ((decide (((gcdL (v0.1 : List (Val (.int .i64))) (v0.2.1 : Int)) : Int) ≤ (1 : Int))), ()))) N (0 : Int)))
def Γ127 : Gam := [(128, g128), (141, g141)]
theorem Γ127_128 : Gam.get Γ127 128 = some g128 := rfl
theorem Γ127_141 : Gam.get Γ127 141 = some g141 := rfl
def nl127_4 : Nm := ⟨[false, true, false, true], []⟩
theorem nl127_4_fix : nl127_4.fix = [] := rfl
theorem nl127_4_keep : nl127_4.keep = [false, true, false, true] := rfl
def nx127_0 : Nm := ⟨[false, true], []⟩
theorem nx127_0_fix : nx127_0.fix = [] := rfl
theorem nx127_0_keep : nx127_0.keep = [false, true] := rfl
def tr127 : Nat → Tree := fun _ => .done
def lp127 : Nat → Nm := fun i => if i = 4 then nl127_4 else ⟨[], []⟩
def ex127 : Nat → Option Nm := fun i => if i = 0 then some nx127_0 else none
def rg127 : Nat → Option Nm := fun _ => none
theorem p127 : plansOk tr127 (Try.f127.body.getD .skip) = true := by kernel_rfl
def T127 (N : Nat) : Tab := { tr := tr127, lp := lp127, ex := ex127, rg := rg127, fuel := N }
theorem T127_pins (N : Nat) : (T127 N).pins = false := rfl
theorem T127_tr (N i : Nat) : (T127 N).tr i = tr127 i := rfl
theorem T127_lp (N i : Nat) : (T127 N).lp i = lp127 i := rfl
theorem T127_ex (N i : Nat) : (T127 N).ex i = ex127 i := rfl
theorem T127_rg (N i : Nat) : (T127 N).rg i = rg127 i := rfl
theorem T127_fuel (N : Nat) : (T127 N).fuel = N := rfl
noncomputable def c127_4 : Code := cut [true, true, false, true, true, true] (Try.f127.body.getD .skip)
theorem c127_4_at {N : Nat} {Q : X → St → Option (Vals [i4])} {e : List LV} {h : List Blk} : runT tt Γ127 (T127 N) c127_4 Q ⟨e, h⟩ = runT tt Γ127 (T127 N) (cut [true, true, false, true, true, true] (Try.f127.body.getD .skip)) Q ⟨e, h⟩ := rfl
theorem r127_l4 (N : Nat) (v2 : List (Val (.int .i64))) (v3 : Int) (v4 : Bool) {k0 : Unit → Option (Vals [i4])} {Q : X → St → Option (Vals [i4])} {c : Code} (hc : c = c127_4) (hret : ∀ st, Q .ret st = retS tt true [i4] [.tmp 2] st) (h0 : Q (.exit 0) ⟨[u, .one (.ptr 0 0 0), u, u, u, u, u, u, u, u, u, u, u, u, u, u, u, u, u, u, u, u, u, u, u, u, u, u, u, u, u, u, u, u], [.box [.sl 3 (.int .i64) v2 1, .int .i64 v3, .bool v4]]⟩ = k0 ()) : ∀ (n : Nat) (v1 : Int), loopR (runT tt Γ127 (T127 N) c) false nl127_4 Q n ⟨[u, .one (.ptr 0 0 0), u, .one (.int .i64 v1), u, u, u, u, u, u, u, u, u, u, u, u, u, u, u, u, u, u, u, u, u, u, u, u, u, u, u, u, u, u], [.box [.sl 3 (.int .i64) v2 1, .int .i64 v3, .bool v4]]⟩ = m127_l4 N v2 v3 v4 k0 n v1 := by
  subst hc; intro n; induction n with
  | zero => intros; rfl
  | succ n ih =>
    intro v1
    rw [loop_succ, c127_4_at, m127_l4]; unfold Try.f127
    simp (maxSteps := 10000000) -implicitDefEqProofs [T127_tr, tr127, T127_lp, lp127, T127_ex, ex127, T127_rg, rg127, T127_fuel, T127_pins, nl127_4_fix, nl127_4_keep, nx127_0_fix, nx127_0_keep, Γ127_128, Γ127_141, g128, g141, hret, h0, ih]
theorem run127 (N : Nat) (v0 : Val Y106) : runT tt Γ127 (T127 N) (Try.f127.body.getD .skip) (retR tt true [i4] [.tmp 2]) (entryP [i106] 34 (v0, ())) = m127 N v0 := by
  unfold Try.f127
  simp (maxSteps := 10000000) -implicitDefEqProofs [T127_tr, tr127, T127_lp, lp127, T127_ex, ex127, T127_rg, rg127, T127_fuel, T127_pins, nl127_4_fix, nl127_4_keep, nx127_0_fix, nx127_0_keep, Γ127_128, Γ127_141, g128, g141]
  rewrite [r127_l4 (k0 := (fun (_ : Unit) => chk (gcdL_pre (v0.1 : List (Val (.int .i64))) (v0.2.1 : Int)) (some ((decide (((gcdL (v0.1 : List (Val (.int .i64))) (v0.2.1 : Int)) : Int) ≤ (1 : Int))), ())))) N _ _ _ ?_ ?_ ?_]
  · rewrite [m127]; first | rfl | simp (maxSteps := 10000000) -implicitDefEqProofs []
  · rfl
  · intro; simp only [seqR_ret, blockR_ret, retR_ret, retX_ret]
  · simp (maxSteps := 10000000) -implicitDefEqProofs [T127_tr, tr127, T127_lp, lp127, T127_ex, ex127, T127_rg, rg127, T127_fuel, T127_pins, nl127_4_fix, nl127_4_keep, nx127_0_fix, nx127_0_keep, Γ127_128, Γ127_141, g128, g141]
-- impl.IsAtom
noncomputable def m130_l4 (N : Nat) (v1 : List (Val (.int .i64))) (v2 : Int) (v4 : List (Val (.int .i64))) (v5 : Int) (v6 : Bool) (k0 : Unit → Option (Vals [i4])) : Nat → Int → Option (Vals [i4])
  | 0, _ => none
  | n + 1, v3 => bif (decide (v3 < v2)) then (chk (0 ≤ v3 ∧ v3 < (v1.length : Int)) (bif (!((isNum ((v1.getD v3.toNat (dflt (.int .i64))) : Int)) : Bool)) then (some (false, ())) else (m130_l4 N v1 v2 v4 v5 v6 k0 n (IntKind.i64.wrap (v3 + (1 : Int)))))) else (k0 ())
noncomputable def m130 (N : Nat) (v0 : Val Y106) : Option (Vals [i4]) := bif (decide ((4 : Int) < ((v0.1 : List (Val (.int .i64))).length : Int))) then (some (false, ())) else (bif (!((isNum (v0.2.1 : Int)) : Bool)) then (some (false, ())) else (m130_l4 N (v0.1 : List (Val (.int .i64))) ((v0.1 : List (Val (.int .i64))).length : Int) (v0.1 : List (Val (.int .i64))) (v0.2.1 : Int) (v0.2.2 : Bool) (fun (_ : Unit) => chk (gcdM_pre (v0.1 : List (Val (.int .i64)))) (chk (gcdI_pre ((gcdM (v0.1 : List (Val (.int .i64)))) : Int) (v0.2.1 : Int)) (some ((decide (((gcdI ((gcdM (v0.1 : List (Val (.int .i64)))) : Int) (v0.2.1 : Int)) : Int) ≤ (1 : Int))), ())))) N (0 : Int)))
def Γ130 : Gam := [(131, g131), (132, g132), (153, g153)]
theorem Γ130_131 : Gam.get Γ130 131 = some g131 := rfl
theorem Γ130_132 : Gam.get Γ130 132 = some g132 := rfl
theorem Γ130_153 : Gam.get Γ130 153 = some g153 := rfl
def nl130_4 : Nm := ⟨[false, true, false, false, false, false, false, false, false, false, false, false, false, false, false, false, true, true, true], []⟩
theorem nl130_4_fix : nl130_4.fix = [] := rfl
theorem nl130_4_keep : nl130_4.keep = [false, true, false, false, false, false, false, false, false, false, false, false, false, false, false, false, true, true, true] := rfl
def nx130_0 : Nm := ⟨[false, true], []⟩
theorem nx130_0_fix : nx130_0.fix = [] := rfl
theorem nx130_0_keep : nx130_0.keep = [false, true] := rfl
def nr130_9 : Nm := ⟨[false, false, true], []⟩
theorem nr130_9_fix : nr130_9.fix = [] := rfl
theorem nr130_9_keep : nr130_9.keep = [false, false, true] := rfl
def tr130 : Nat → Tree := fun i => if i = 9 then .quiet 0 (.quiet 1 (.alt 2 (.quiet 3 (.quiet 4 (.alt 5 (.quiet 6 (.quiet 7 .done)) .stop))) (.alt 3 (.alt 2 (.quiet 4 (.alt 5 (.quiet 6 (.quiet 7 .done)) .stop)) (.alt 4 (.alt 2 (.alt 5 (.quiet 6 (.quiet 7 .done)) .stop) .stop) .stop)) .stop))) else .done
def lp130 : Nat → Nm := fun i => if i = 4 then nl130_4 else ⟨[], []⟩
def ex130 : Nat → Option Nm := fun i => if i = 0 then some nx130_0 else none
def rg130 : Nat → Option Nm := fun i => if i = 9 then some nr130_9 else none
theorem p130 : plansOk tr130 (Try.f130.body.getD .skip) = true := by kernel_rfl
def T130 (N : Nat) : Tab := { tr := tr130, lp := lp130, ex := ex130, rg := rg130, fuel := N }
theorem T130_pins (N : Nat) : (T130 N).pins = false := rfl
theorem T130_tr (N i : Nat) : (T130 N).tr i = tr130 i := rfl
theorem T130_lp (N i : Nat) : (T130 N).lp i = lp130 i := rfl
theorem T130_ex (N i : Nat) : (T130 N).ex i = ex130 i := rfl
theorem T130_rg (N i : Nat) : (T130 N).rg i = rg130 i := rfl
theorem T130_fuel (N : Nat) : (T130 N).fuel = N := rfl
noncomputable def c130_4 : Code := cut [true, true, false, true, true, true] (Try.f130.body.getD .skip)
theorem c130_4_at {N : Nat} {Q : X → St → Option (Vals [i4])} {e : List LV} {h : List Blk} : runT tt Γ130 (T130 N) c130_4 Q ⟨e, h⟩ = runT tt Γ130 (T130 N) (cut [true, true, false, true, true, true] (Try.f130.body.getD .skip)) Q ⟨e, h⟩ := rfl
theorem r130_l4 (N : Nat) (v1 : List (Val (.int .i64))) (v2 : Int) (v4 : List (Val (.int .i64))) (v5 : Int) (v6 : Bool) {k0 : Unit → Option (Vals [i4])} {Q : X → St → Option (Vals [i4])} {c : Code} (hc : c = c130_4) (hret : ∀ st, Q .ret st = retS tt true [i4] [.tmp 2] st) (h0 : Q (.exit 0) ⟨[u, .one (.ptr 0 0 0), u, u, u, u, u, u, u, u, u, u, u, u, u, u, u, u, u, u, u, u, u, u, u, u, u, u, u, u, u, u, u], [.box [.sl 3 (.int .i64) v4 1, .int .i64 v5, .bool v6]]⟩ = k0 ()) : ∀ (n : Nat) (v3 : Int), loopR (runT tt Γ130 (T130 N) c) false nl130_4 Q n ⟨[u, .one (.ptr 0 0 0), u, u, u, u, u, u, u, u, u, u, u, u, u, u, .one (.sl 3 (.int .i64) v1 1), .one (.int .i64 v2), .one (.int .i64 v3), u, u, u, u, u, u, u, u, u, u, u, u, u, u], [.box [.sl 3 (.int .i64) v4 1, .int .i64 v5, .bool v6]]⟩ = m130_l4 N v1 v2 v4 v5 v6 k0 n v3 := by
  subst hc; intro n; induction n with
  | zero => intros; rfl
  | succ n ih =>
    intro v3
    rw [loop_succ, c130_4_at, m130_l4]; unfold Try.f130
    simp (maxSteps := 10000000) -implicitDefEqProofs [T130_tr, tr130, T130_lp, lp130, T130_ex, ex130, T130_rg, rg130, T130_fuel, T130_pins, nl130_4_fix, nl130_4_keep, nx130_0_fix, nx130_0_keep, nr130_9_fix, nr130_9_keep, Γ130_131, Γ130_132, Γ130_153, g131, g132, g153, hret, h0, ih]
theorem run130 (N : Nat) (v0 : Val Y106) : runT tt Γ130 (T130 N) (Try.f130.body.getD .skip) (retR tt true [i4] [.tmp 2]) (entryP [i106] 33 (v0, ())) = m130 N v0 := by
  unfold Try.f130
  simp (maxSteps := 10000000) -implicitDefEqProofs [T130_tr, tr130, T130_lp, lp130, T130_ex, ex130, T130_rg, rg130, T130_fuel, T130_pins, nl130_4_fix, nl130_4_keep, nx130_0_fix, nx130_0_keep, nr130_9_fix, nr130_9_keep, Γ130_131, Γ130_132, Γ130_153, g131, g132, g153]
  rewrite [r130_l4 (k0 := (fun (_ : Unit) => chk (gcdM_pre (v0.1 : List (Val (.int .i64)))) (chk (gcdI_pre ((gcdM (v0.1 : List (Val (.int .i64)))) : Int) (v0.2.1 : Int)) (some ((decide (((gcdI ((gcdM (v0.1 : List (Val (.int .i64)))) : Int) (v0.2.1 : Int)) : Int) ≤ (1 : Int))), ()))))) N _ _ _ _ _ ?_ ?_ ?_]
  · rewrite [m130]; first | rfl | simp (maxSteps := 10000000) -implicitDefEqProofs []
  · rfl
  · intro; simp only [seqR_ret, blockR_ret, retR_ret, retX_ret]
  · simp (maxSteps := 10000000) -implicitDefEqProofs [T130_tr, tr130, T130_lp, lp130, T130_ex, ex130, T130_rg, rg130, T130_fuel, T130_pins, nl130_4_fix, nl130_4_keep, nx130_0_fix, nx130_0_keep, nr130_9_fix, nr130_9_keep, Γ130_131, Γ130_132, Γ130_153, g131, g132, g153]
theorem numIn {n : Int} (h : isNum n = true) : inI n := by
  unfold isNum at h; unfold inI; have := of_decide_eq_true h; omega
def g127 : G := { ps := [i106], rs := [i4], dp := true, pre := fun _ => True, fn := fun x => (isAtom x.1, ()) }
def g130 : G := { ps := [i106], rs := [i4], dp := true, pre := fun _ => True, fn := fun x => (isAtom x.1, ()) }
theorem t127 (N : Nat) (xs : List (Val (.int .i64))) (c : Int) (b : Bool) (K : Unit → Option (Vals [i4])) (hl : xs.length ≤ 1048576) (n : Nat) (hn : xs.length < n) : m127_l4 N xs c b K n 0 = bif List.all (α := Int) xs isNum then K () else some (false, ()) :=
  (loop_fold (F := fun n i (_ : Unit) => m127_l4 N xs c b K n i) (step := fun _ x _ K => bif isNum x then K () else some (false, ())) (k := K) hl (fun n i s hi => by rw [m127_l4, bif_dec (by omega), chk_pos (by omega), getD_atI hi, bif_not]) (fun n i s hi => by rw [m127_l4, bif_decN (by omega)]) n () hn).trans (foldK_all xs 0)
theorem t130 (N : Nat) (xs ys : List (Val (.int .i64))) (c : Int) (b : Bool) (K : Unit → Option (Vals [i4])) (hl : xs.length ≤ 1048576) (n : Nat) (hn : xs.length < n) : m130_l4 N xs xs.length ys c b K n 0 = bif List.all (α := Int) xs isNum then K () else some (false, ()) :=
  (loop_fold (F := fun n i (_ : Unit) => m130_l4 N xs xs.length ys c b K n i) (step := fun _ x _ K => bif isNum x then K () else some (false, ())) (k := K) hl (fun n i s hi => by rw [m130_l4, bif_dec (by omega), chk_pos (by omega), getD_atI hi, bif_not]) (fun n i s hi => by rw [m130_l4, bif_decN (by omega)]) n () hn).trans (foldK_all xs 0)
theorem e127 (a : Val Y106) : ∃ N, m127 N a = some (isAtom a, ()) := ⟨(a.1 : List (Val (.int .i64))).length + 1, by
  obtain ⟨xs, c, b⟩ := a
  change List (Val (.int .i64)) at xs
  change Int at c
  change Bool at b
  rw [m127, isAtom]
  dsimp only
  by_cases h4 : xs.length ≤ 4
  · rw [bif_decN (by omega)]
    cases hc : isNum c with
    | false => simp
    | true =>
      rw [t127 _ xs _ _ _ (by omega) _ (Nat.lt_succ_self _)]
      cases ha : List.all (α := Int) xs isNum with
      | false => simp
      | true =>
        rw [chk_pos (show gcdL_pre xs c from ⟨by omega, numIn hc, fun x hx => numIn (List.all_eq_true.1 ha x hx)⟩)]
        simp [h4, gcdL]
        rfl
  · rw [bif_dec (by omega)]
    simp [h4]⟩
theorem s127 : Sound Try.prog 127 g127 := sound_run (tt := tt) (Γ := Γ127) hT (ok_cons s128 (ok_cons s141 ok_nil)) hm (fn := Try.f127) Try.func127 (c := Try.f127.body.getD .skip) (by kernel_rfl) (by kernel_rfl) fun x hx => by
  obtain ⟨N, h⟩ := e127 x.1
  exact ⟨T127 N, p127, noSem_ok _, (run127 N x.1).trans h⟩
theorem gL_in : ∀ (xs : List Int) (g : Nat), (g : Int) ≤ 9223372036854775807 → (∀ x ∈ xs, inI x) → inI (gL g xs : Nat)
  | [], g, h, _ => by unfold inI gL; omega
  | x :: xs, g, h, hx => gL_in xs _ (gcdI_in h (hx x (by simp))).2 fun y hy => hx y (by simp [hy])
theorem e130 (a : Val Y106) : ∃ N, m130 N a = some (isAtom a, ()) := ⟨(a.1 : List (Val (.int .i64))).length + 1, by
  obtain ⟨xs, c, b⟩ := a
  change List (Val (.int .i64)) at xs
  change Int at c
  change Bool at b
  rw [m130, isAtom]
  dsimp only
  by_cases h4 : xs.length ≤ 4
  · rw [bif_decN (by omega)]
    cases hc : isNum c with
    | false => simp
    | true =>
      rw [t130 _ xs _ _ _ _ (by omega) _ (Nat.lt_succ_self _)]
      cases ha : List.all (α := Int) xs isNum with
      | false => simp
      | true =>
        have hx : ∀ x ∈ xs, inI x := fun x hx => numIn (List.all_eq_true.1 ha x hx)
        have e : Nat.gcd (gL 0 xs) c.natAbs = gL c.natAbs xs := by rw [← gL_gcd, Nat.gcd_zero_left]
        rw [chk_pos (show gcdM_pre xs from ⟨by omega, hx⟩), chk_pos (show gcdI_pre (gcdM xs) c from ⟨gL_in xs 0 (by omega) hx, numIn hc⟩)]
        simp [h4, gcdM, gcdI, e]
  · rw [bif_dec (by omega)]
    simp [h4]⟩
theorem s130 : Sound Try.prog 130 g130 := sound_run (tt := tt) (Γ := Γ130) hT (ok_cons s131 (ok_cons s132 (ok_cons s153 ok_nil))) hm (fn := Try.f130) Try.func130 (c := Try.f130.body.getD .skip) (by kernel_rfl) (by kernel_rfl) fun x hx => by
  obtain ⟨N, h⟩ := e130 x.1
  exact ⟨T130 N, p130, noSem_ok _, (run130 N x.1).trans h⟩
end Go.T
