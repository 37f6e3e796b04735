/- Ratios. -/
import Derived.Test.YthefcjjgchekiaaB9
set_option linter.unusedSimpArgs false
set_option linter.unusedVariables false
namespace Go.T
open Go Go.Proofs
set_option maxHeartbeats 4000000
set_option maxRecDepth 100000
def gcdN (a b : Int) : Int := bif isNum a && isNum b then gcdI a b else 0
def g111 : G := { ps := [i3, i3], rs := [i3], dp := true, pre := fun _ => True, fn := fun x => (gcdN x.1 x.2.1, ()) }
def g92 : G := { ps := [i3, i3], rs := [i3], dp := true, pre := fun _ => True, fn := fun x => (gcdN x.1 x.2.1, ()) }
-- spec.GcdOf
noncomputable def m111_l3 (N : Nat)  (k0 : Int → Option (Vals [i3])) : Nat → Int → Int → Option (Vals [i3])
  | 0, _, _ => none
  | n + 1, v2, v3 => bif (!(decide (v3 = (0 : Int)))) then (chk (v3 ≠ 0) (m111_l3 N  k0 n v3 (v2.tmod v3))) else (k0 v2)
noncomputable def m111 (N : Nat) (v0 : Int) (v1 : Int) : Option (Vals [i3]) := bif (!((isNum v0) : Bool)) then (some ((0 : Int), ())) else (bif (!((isNum v1) : Bool)) then (some ((0 : Int), ())) else (m111_l3 N  (fun (v5 : Int) => chk (absI_pre v5) (some (((absI v5) : Int), ()))) N v0 v1))
def Γ111 : Gam := [(58, g58), (80, g80)]
theorem Γ111_58 : Gam.get Γ111 58 = some g58 := rfl
theorem Γ111_80 : Gam.get Γ111 80 = some g80 := rfl
def nl111_3 : Nm := ⟨[true, true], []⟩
theorem nl111_3_fix : nl111_3.fix = [] := rfl
theorem nl111_3_keep : nl111_3.keep = [true, true] := rfl
def nx111_0 : Nm := ⟨[true], []⟩
theorem nx111_0_fix : nx111_0.fix = [] := rfl
theorem nx111_0_keep : nx111_0.keep = [true] := rfl
def tr111 : Nat → Tree := fun i => if i = 4 then .quiet 0 (.quiet 1 (.quiet 2 (.quiet 3 (.quiet 4 (.quiet 5 .done))))) else .done
def lp111 : Nat → Nm := fun i => if i = 3 then nl111_3 else ⟨[], []⟩
def jn111 : Nat → Option Jn := fun _ => none
def ex111 : Nat → Option Nm := fun i => if i = 0 then some nx111_0 else none
def rg111 : Nat → Option Nm := fun _ => none
theorem p111 : plansOk tr111 (Try.f111.body.getD .skip) = true := by kernel_rfl
def T111 (N : Nat) : Tab := { tr := tr111, lp := lp111, ex := ex111, rg := rg111, jn := jn111, fuel := N }
theorem T111_pins (N : Nat) : (T111 N).pins = false := rfl
theorem tb111 (N : Nat) : TbOk Try.prog (T111 N) := tb_none fun _ => rfl
theorem T111_tr (N i : Nat) : (T111 N).tr i = tr111 i := rfl
theorem T111_lp (N i : Nat) : (T111 N).lp i = lp111 i := rfl
theorem T111_ex (N i : Nat) : (T111 N).ex i = ex111 i := rfl
theorem T111_rg (N i : Nat) : (T111 N).rg i = rg111 i := rfl
theorem T111_jn (N i : Nat) : (T111 N).jn i = jn111 i := rfl
theorem T111_fuel (N : Nat) : (T111 N).fuel = N := rfl
noncomputable def c111_3 : Code := cut [true, true, false, true, true] (Try.f111.body.getD .skip)
theorem c111_3_at {N : Nat} {Q : X → St → Option (Vals [i3])} {e : List LV} {h : List Blk} : runT tt Γ111 (T111 N) c111_3 Q ⟨e, h⟩ = runT tt Γ111 (T111 N) (cut [true, true, false, true, true] (Try.f111.body.getD .skip)) Q ⟨e, h⟩ := rfl
theorem r111_l3 (N : Nat)  {k0 : Int → Option (Vals [i3])} {Q : X → St → Option (Vals [i3])} {c : Code} (hc : c = c111_3) (hret : ∀ st, Q .ret st = retS tt true [i3] [.tmp 4] st) (h0 : ∀ (v4 : Int), Q (.exit 0) ⟨[.one (.int .i64 v4), u, u, u, u, u, u, u, u, u, u, u, u, u, u, u, u, u, u, u, u], []⟩ = k0 v4) : ∀ (n : Nat) (v2 : Int) (v3 : Int), loopR (runT tt Γ111 (T111 N) c) false nl111_3 Q n ⟨[.one (.int .i64 v2), .one (.int .i64 v3), u, u, u, u, u, u, u, u, u, u, u, u, u, u, u, u, u, u, u], []⟩ = m111_l3 N  k0 n v2 v3 := by
  subst hc; intro n; induction n with
  | zero => intros; rfl
  | succ n ih =>
    intro v2 v3
    rw [loop_succ, c111_3_at, m111_l3]; unfold Try.f111
    simp (maxSteps := 10000000) -implicitDefEqProofs [T111_tr, tr111, T111_lp, lp111, T111_ex, ex111, T111_rg, rg111, T111_jn, jn111, T111_fuel, T111_pins, nl111_3_fix, nl111_3_keep, nx111_0_fix, nx111_0_keep, Γ111_58, Γ111_80, g58, g80, hret, h0, ih]
theorem run111 (N : Nat) (v0 : Int) (v1 : Int) : runT tt Γ111 (T111 N) (Try.f111.body.getD .skip) (retR tt true [i3] [.tmp 4]) (entryP [i3, i3] 21 (v0, v1, ())) = m111 N v0 v1 := by
  unfold Try.f111
  simp (maxSteps := 10000000) -implicitDefEqProofs [T111_tr, tr111, T111_lp, lp111, T111_ex, ex111, T111_rg, rg111, T111_jn, jn111, T111_fuel, T111_pins, nl111_3_fix, nl111_3_keep, nx111_0_fix, nx111_0_keep, Γ111_58, Γ111_80, g58, g80]
  rewrite [r111_l3 (k0 := (fun (v5 : Int) => chk (absI_pre v5) (some (((absI v5) : Int), ())))) N  ?_ ?_ ?_]
  · rewrite [m111]; first | rfl | simp (maxSteps := 10000000) -implicitDefEqProofs []
  · rfl
  · intro; simp only [seqR_ret, blockR_ret, retR_ret, retX_ret]
  · intro v5; simp (maxSteps := 10000000) -implicitDefEqProofs [T111_tr, tr111, T111_lp, lp111, T111_ex, ex111, T111_rg, rg111, T111_jn, jn111, T111_fuel, T111_pins, nl111_3_fix, nl111_3_keep, nx111_0_fix, nx111_0_keep, Γ111_58, Γ111_80, g58, g80]
-- impl.GcdOf
noncomputable def m92 (N : Nat) (v0 : Int) (v1 : Int) : Option (Vals [i3]) := bif (!((isNum v0) : Bool)) then (some ((0 : Int), ())) else (bif (!((isNum v1) : Bool)) then (some ((0 : Int), ())) else (chk (gcdI_pre v0 v1) (some (((gcdI v0 v1) : Int), ()))))
def Γ92 : Gam := [(64, g64), (65, g65)]
theorem Γ92_64 : Gam.get Γ92 64 = some g64 := rfl
theorem Γ92_65 : Gam.get Γ92 65 = some g65 := rfl
def tr92 : Nat → Tree := fun _ => .done
def lp92 : Nat → Nm := fun _ => ⟨[], []⟩
def jn92 : Nat → Option Jn := fun _ => none
def ex92 : Nat → Option Nm := fun _ => none
def rg92 : Nat → Option Nm := fun _ => none
theorem p92 : plansOk tr92 (Try.f92.body.getD .skip) = true := by kernel_rfl
def T92 (N : Nat) : Tab := { tr := tr92, lp := lp92, ex := ex92, rg := rg92, jn := jn92, fuel := N }
theorem T92_pins (N : Nat) : (T92 N).pins = false := rfl
theorem tb92 (N : Nat) : TbOk Try.prog (T92 N) := tb_none fun _ => rfl
theorem T92_tr (N i : Nat) : (T92 N).tr i = tr92 i := rfl
theorem T92_lp (N i : Nat) : (T92 N).lp i = lp92 i := rfl
theorem T92_ex (N i : Nat) : (T92 N).ex i = ex92 i := rfl
theorem T92_rg (N i : Nat) : (T92 N).rg i = rg92 i := rfl
theorem T92_jn (N i : Nat) : (T92 N).jn i = jn92 i := rfl
theorem T92_fuel (N : Nat) : (T92 N).fuel = N := rfl
theorem run92 (N : Nat) (v0 : Int) (v1 : Int) : runT tt Γ92 (T92 N) (Try.f92.body.getD .skip) (retR tt true [i3] [.tmp 4]) (entryP [i3, i3] 16 (v0, v1, ())) = m92 N v0 v1 := by
  rw [m92]; unfold Try.f92
  simp (maxSteps := 10000000) -implicitDefEqProofs [T92_tr, tr92, T92_lp, lp92, T92_ex, ex92, T92_rg, rg92, T92_jn, jn92, T92_fuel, T92_pins, Γ92_64, Γ92_65, g64, g65]
  try rfl
theorem isNum_iff {n : Int} (h : isNum n = true) : -400000000 ≤ n ∧ n ≤ 400000000 := of_decide_eq_true h
theorem t111 (N : Nat) (K : Int → Option (Vals [i3])) : ∀ (n : Nat) (a b : Int), b.natAbs < n → ∃ c : Int, m111_l3 N K n a b = K c ∧ c.natAbs = Nat.gcd a.natAbs b.natAbs
  | 0, _, _, h => by omega
  | n + 1, a, b, h => by
    rw [m111_l3]
    by_cases hb : b = 0
    · subst hb; exact ⟨a, by simp, by simp⟩
    · have hlt : a.natAbs % b.natAbs < b.natAbs := Nat.mod_lt _ (by omega)
      have hm : (a.tmod b).natAbs = a.natAbs % b.natAbs := Int.natAbs_tmod _ _
      obtain ⟨c, h1, h2⟩ := t111 N K n b (a.tmod b) (by omega)
      refine ⟨c, ?_, ?_⟩
      · rw [decide_eq_false hb, chk_pos hb]; exact h1
      · rw [h2, hm, Nat.gcd_comm b.natAbs, ← Nat.gcd_rec, Nat.gcd_comm]
theorem gcd_in {a b : Int} (ha : inI a) (hb : inI b) : ((Nat.gcd a.natAbs b.natAbs : Nat) : Int) ≤ 9223372036854775807 := by
  unfold inI at ha hb
  by_cases h0 : a.natAbs = 0
  · rw [h0, Nat.gcd_zero_left]; omega
  · have := Nat.gcd_le_left (m := a.natAbs) b.natAbs (by omega)
    omega
theorem abs_in {c : Int} {a b : Int} (ha : inI a) (hb : inI b) (h : c.natAbs = Nat.gcd a.natAbs b.natAbs) : absI_pre c ∧ absI c = gcdI a b := by
  have := gcd_in ha hb
  rw [← h] at this
  exact ⟨by show inI c; unfold inI; omega, by unfold absI gcdI; rw [h]⟩
theorem e111 (a b : Int) : ∃ N, m111 N a b = some (gcdN a b, ()) := ⟨b.natAbs + 1, by
  rw [m111]
  unfold gcdN
  cases ha : isNum a with
  | false => rfl
  | true =>
    cases hb : isNum b with
    | false => rfl
    | true =>
      obtain ⟨c, h1, h2⟩ := t111 (b.natAbs + 1) (fun (v5 : Int) => chk (absI_pre v5) (some (((absI v5) : Int), ()))) (b.natAbs + 1) a b (Nat.lt_succ_self _)
      obtain ⟨h3, h4⟩ := abs_in (numIn ha) (numIn hb) h2
      simp only [Bool.not_true, cond_false, Bool.and_self, cond_true]
      rw [h1, chk_pos h3, h4]⟩
theorem s111 : Sound Try.prog 111 g111 := sound_run (tt := tt) (Γ := Γ111) hT (ok_cons s58 (ok_cons s80 ok_nil)) hm (fn := Try.f111) Try.func111 (c := Try.f111.body.getD .skip) (by kernel_rfl) (by kernel_rfl) fun x hx => by
  obtain ⟨N, h⟩ := e111 x.1 x.2.1
  exact ⟨T111 N, p111, noSem_ok _, tb111 N, (run111 N x.1 x.2.1).trans h⟩
theorem e92 (a b : Int) : ∃ N, m92 N a b = some (gcdN a b, ()) := ⟨0, by
  rw [m92]
  unfold gcdN
  cases ha : isNum a with
  | false => rfl
  | true =>
    cases hb : isNum b with
    | false => rfl
    | true =>
      simp only [Bool.not_true, cond_false, Bool.and_self, cond_true]
      rw [chk_pos (show gcdI_pre a b from ⟨numIn ha, numIn hb⟩)]⟩
theorem s92 : Sound Try.prog 92 g92 := sound_run (tt := tt) (Γ := Γ92) hT (ok_cons s64 (ok_cons s65 ok_nil)) hm (fn := Try.f92) Try.func92 (c := Try.f92.body.getD .skip) (by kernel_rfl) (by kernel_rfl) fun x hx => by
  obtain ⟨N, h⟩ := e92 x.1 x.2.1
  exact ⟨T92 N, p92, noSem_ok _, tb92 N, (run92 N x.1 x.2.1).trans h⟩
def inRt (a : Val Y64) : Prop := (-400000000 ≤ (a.1 : Int) ∧ @LE.le Int _ a.1 400000000) ∧ (0 ≤ (a.2 : Int) ∧ @LE.le Int _ a.2 400000000)
def isRatio (r : Val Y64) : Bool := inR r.2 1 400000000 && isNum r.1 && decide (gcdN r.1 r.2 = 1)
def g105 : G := { ps := [i64], rs := [i4], dp := true, pre := fun _ => True, fn := fun x => (isRatio x.1, ()) }
def g79 : G := { ps := [i64], rs := [i4], dp := true, pre := fun _ => True, fn := fun x => (isRatio x.1, ()) }
-- spec.IsRatio
noncomputable def m105 (N : Nat) (v0 : Val Y64) : Option (Vals [i4]) := bif ((inR (v0.2 : Int) (1 : Int) (400000000 : Int)) : Bool) then (bif ((isNum (v0.1 : Int)) : Bool) then (some ((decide (((gcdN (v0.1 : Int) (v0.2 : Int)) : Int) = (1 : Int))), ())) else (some (false, ()))) else (some (false, ()))
def Γ105 : Gam := [(49, g49), (58, g58), (111, g111)]
theorem Γ105_49 : Gam.get Γ105 49 = some g49 := rfl
theorem Γ105_58 : Gam.get Γ105 58 = some g58 := rfl
theorem Γ105_111 : Gam.get Γ105 111 = some g111 := rfl
def tr105 : Nat → Tree := fun _ => .done
def lp105 : Nat → Nm := fun _ => ⟨[], []⟩
def jn105 : Nat → Option Jn := fun _ => none
def ex105 : Nat → Option Nm := fun _ => none
def rg105 : Nat → Option Nm := fun _ => none
theorem p105 : plansOk tr105 (Try.f105.body.getD .skip) = true := by kernel_rfl
def T105 (N : Nat) : Tab := { tr := tr105, lp := lp105, ex := ex105, rg := rg105, jn := jn105, fuel := N }
theorem T105_pins (N : Nat) : (T105 N).pins = false := rfl
theorem tb105 (N : Nat) : TbOk Try.prog (T105 N) := tb_none fun _ => rfl
theorem T105_tr (N i : Nat) : (T105 N).tr i = tr105 i := rfl
theorem T105_lp (N i : Nat) : (T105 N).lp i = lp105 i := rfl
theorem T105_ex (N i : Nat) : (T105 N).ex i = ex105 i := rfl
theorem T105_rg (N i : Nat) : (T105 N).rg i = rg105 i := rfl
theorem T105_jn (N i : Nat) : (T105 N).jn i = jn105 i := rfl
theorem T105_fuel (N : Nat) : (T105 N).fuel = N := rfl
theorem run105 (N : Nat) (v0 : Val Y64) : runT tt Γ105 (T105 N) (Try.f105.body.getD .skip) (retR tt true [i4] [.tmp 2]) (entryP [i64] 19 (v0, ())) = m105 N v0 := by
  rw [m105]; unfold Try.f105
  simp (maxSteps := 10000000) -implicitDefEqProofs [T105_tr, tr105, T105_lp, lp105, T105_ex, ex105, T105_rg, rg105, T105_jn, jn105, T105_fuel, T105_pins, Γ105_49, Γ105_58, Γ105_111, g49, g58, g111]
  try rfl
-- impl.IsRatio
noncomputable def m79 (N : Nat) (v0 : Val Y64) : Option (Vals [i4]) := bif (decide ((1 : Int) ≤ (v0.2 : Int))) then (bif (decide ((v0.2 : Int) ≤ (400000000 : Int))) then (bif ((isNum (v0.1 : Int)) : Bool) then (some ((decide (((gcdN (v0.1 : Int) (v0.2 : Int)) : Int) = (1 : Int))), ())) else (some (false, ()))) else (some (false, ()))) else (some (false, ()))
def Γ79 : Gam := [(64, g64), (92, g92)]
theorem Γ79_64 : Gam.get Γ79 64 = some g64 := rfl
theorem Γ79_92 : Gam.get Γ79 92 = some g92 := rfl
def tr79 : Nat → Tree := fun _ => .done
def lp79 : Nat → Nm := fun _ => ⟨[], []⟩
def jn79 : Nat → Option Jn := fun _ => none
def ex79 : Nat → Option Nm := fun _ => none
def rg79 : Nat → Option Nm := fun _ => none
theorem p79 : plansOk tr79 (Try.f79.body.getD .skip) = true := by kernel_rfl
def T79 (N : Nat) : Tab := { tr := tr79, lp := lp79, ex := ex79, rg := rg79, jn := jn79, fuel := N }
theorem T79_pins (N : Nat) : (T79 N).pins = false := rfl
theorem tb79 (N : Nat) : TbOk Try.prog (T79 N) := tb_none fun _ => rfl
theorem T79_tr (N i : Nat) : (T79 N).tr i = tr79 i := rfl
theorem T79_lp (N i : Nat) : (T79 N).lp i = lp79 i := rfl
theorem T79_ex (N i : Nat) : (T79 N).ex i = ex79 i := rfl
theorem T79_rg (N i : Nat) : (T79 N).rg i = rg79 i := rfl
theorem T79_jn (N i : Nat) : (T79 N).jn i = jn79 i := rfl
theorem T79_fuel (N : Nat) : (T79 N).fuel = N := rfl
theorem run79 (N : Nat) (v0 : Val Y64) : runT tt Γ79 (T79 N) (Try.f79.body.getD .skip) (retR tt true [i4] [.tmp 2]) (entryP [i64] 24 (v0, ())) = m79 N v0 := by
  rw [m79]; unfold Try.f79
  simp (maxSteps := 10000000) -implicitDefEqProofs [T79_tr, tr79, T79_lp, lp79, T79_ex, ex79, T79_rg, rg79, T79_jn, jn79, T79_fuel, T79_pins, Γ79_64, Γ79_92, g64, g92]
  try rfl
theorem e105 (r : Val Y64) : ∃ N, m105 N r = some (isRatio r, ()) := ⟨0, by
  rw [m105]
  unfold isRatio
  cases inR r.2 1 400000000 with
  | false => rfl
  | true => cases isNum r.1 <;> rfl⟩
theorem s105 : Sound Try.prog 105 g105 := sound_run (tt := tt) (Γ := Γ105) hT (ok_cons s49 (ok_cons s58 (ok_cons s111 ok_nil))) hm (fn := Try.f105) Try.func105 (c := Try.f105.body.getD .skip) (by kernel_rfl) (by kernel_rfl) fun x hx => by
  obtain ⟨N, h⟩ := e105 x.1
  exact ⟨T105 N, p105, noSem_ok _, tb105 N, (run105 N x.1).trans h⟩
theorem e79 (r : Val Y64) : ∃ N, m79 N r = some (isRatio r, ()) := ⟨0, by
  rw [m79]
  unfold isRatio
  by_cases h1 : (1 : Int) ≤ (r.2 : Int)
  · by_cases h2 : (r.2 : Int) ≤ (400000000 : Int)
    · rw [bif_dec h1, bif_dec h2, inR_iff ⟨h1, h2⟩]
      cases isNum r.1 <;> rfl
    · rw [bif_dec h1, bif_decN h2, inR_not fun h => h2 h.2]; rfl
  · rw [bif_decN h1, inR_not fun h => h1 h.1]; rfl⟩
theorem s79 : Sound Try.prog 79 g79 := sound_run (tt := tt) (Γ := Γ79) hT (ok_cons s64 (ok_cons s92 ok_nil)) hm (fn := Try.f79) Try.func79 (c := Try.f79.body.getD .skip) (by kernel_rfl) (by kernel_rfl) fun x hx => by
  obtain ⟨N, h⟩ := e79 x.1
  exact ⟨T79 N, p79, noSem_ok _, tb79 N, (run79 N x.1).trans h⟩
theorem ratio_in {r : Val Y64} (h : isRatio r = true) : inRt r := by
  unfold isRatio at h
  simp only [Bool.and_eq_true] at h
  have h1 := isNum_iff h.1.2
  have h2 : (1 : Int) ≤ r.2 ∧ @LE.le Int _ r.2 400000000 := of_decide_eq_true h.1.1
  exact ⟨h1, Int.le_trans (by decide) h2.1, h2.2⟩
def redG (m e : Int) : Val Y64 := bif isRatio ((m.tdiv (gcdI m e), e.tdiv (gcdI m e)) : Val Y64) then (m.tdiv (gcdI m e), e.tdiv (gcdI m e)) else ((0 : Int), (0 : Int))
def redR (n d : Int) : Val Y64 := if d = 0 then ((0 : Int), (0 : Int)) else if d < 0 then redG (-n) (-d) else redG n d
def redR_pre (n d : Int) : Prop := inI n ∧ inI d
def g94 : G := { ps := [i3, i3], rs := [i64], dp := true, pre := fun x => redR_pre x.1 x.2.1, fn := fun x => (redR x.1 x.2.1, ()) }
def g78 : G := { ps := [i3, i3], rs := [i64], dp := true, pre := fun x => redR_pre x.1 x.2.1, fn := fun x => (redR x.1 x.2.1, ()) }
-- spec.l2Make
noncomputable def m94_l7 (N : Nat) (v2 : Int) (v3 : Int) (v6 : Int) (v7 : Int) (k0 : Int → Option (Vals [i64])) : Nat → Int → Int → Option (Vals [i64])
  | 0, _, _ => none
  | n + 1, v4, v5 => bif (!(decide (v5 = (0 : Int)))) then (chk (v5 ≠ 0) (m94_l7 N v2 v3 v6 v7 k0 n v5 (v4.tmod v5))) else (k0 v4)
noncomputable def m94 (N : Nat) (v0 : Int) (v1 : Int) : Option (Vals [i64]) := bif (decide (v1 = (0 : Int))) then (some (((0 : Int), (0 : Int)), ())) else (bif (decide (v1 < (0 : Int))) then (m94_l7 N (IntKind.i64.wrap (0 - v0)) (IntKind.i64.wrap (0 - v1)) (0 : Int) (0 : Int) (fun (v9 : Int) => chk (absI_pre v9) (chk (((absI v9) : Int) ≠ 0) (chk (((absI v9) : Int) ≠ 0) (bif (!((isRatio ((IntKind.i64.wrap ((IntKind.i64.wrap (0 - v0)).tdiv ((absI v9) : Int))), (IntKind.i64.wrap ((IntKind.i64.wrap (0 - v1)).tdiv ((absI v9) : Int))))) : Bool)) then (some (((0 : Int), (0 : Int)), ())) else (some (((IntKind.i64.wrap ((IntKind.i64.wrap (0 - v0)).tdiv ((absI v9) : Int))), (IntKind.i64.wrap ((IntKind.i64.wrap (0 - v1)).tdiv ((absI v9) : Int)))), ())))))) N (IntKind.i64.wrap (0 - v0)) (IntKind.i64.wrap (0 - v1))) else (m94_l7 N v0 v1 (0 : Int) (0 : Int) (fun (v10 : Int) => chk (absI_pre v10) (chk (((absI v10) : Int) ≠ 0) (chk (((absI v10) : Int) ≠ 0) (bif (!((isRatio ((IntKind.i64.wrap (v0.tdiv ((absI v10) : Int))), (IntKind.i64.wrap (v1.tdiv ((absI v10) : Int))))) : Bool)) then (some (((0 : Int), (0 : Int)), ())) else (some (((IntKind.i64.wrap (v0.tdiv ((absI v10) : Int))), (IntKind.i64.wrap (v1.tdiv ((absI v10) : Int)))), ())))))) N v0 v1))
def Γ94 : Gam := [(80, g80), (105, g105)]
theorem Γ94_80 : Gam.get Γ94 80 = some g80 := rfl
theorem Γ94_105 : Gam.get Γ94 105 = some g105 := rfl
def nl94_7 : Nm := ⟨[true, true, false, false, true, true, true], []⟩
theorem nl94_7_fix : nl94_7.fix = [] := rfl
theorem nl94_7_keep : nl94_7.keep = [true, true, false, false, true, true, true] := rfl
def nx94_0 : Nm := ⟨[true, true, false, false, true, true], []⟩
theorem nx94_0_fix : nx94_0.fix = [] := rfl
theorem nx94_0_keep : nx94_0.keep = [true, true, false, false, true, true] := rfl
def tr94 : Nat → Tree := fun i => if i = 8 then .quiet 0 (.quiet 1 (.quiet 2 (.quiet 3 (.quiet 4 (.quiet 5 .done))))) else if i = 10 then .first 0 (.first 1 (.first 2 (.first 3 (.first 4 (.first 5 (.first 6 (.alt 7 (.alt 8 .done .stop) .stop))))))) else .done
def lp94 : Nat → Nm := fun i => if i = 7 then nl94_7 else ⟨[], []⟩
def jn94 : Nat → Option Jn := fun _ => none
def ex94 : Nat → Option Nm := fun i => if i = 0 then some nx94_0 else none
def rg94 : Nat → Option Nm := fun _ => none
theorem p94 : plansOk tr94 (Try.f94.body.getD .skip) = true := by kernel_rfl
def T94 (N : Nat) : Tab := { tr := tr94, lp := lp94, ex := ex94, rg := rg94, jn := jn94, fuel := N }
theorem T94_pins (N : Nat) : (T94 N).pins = false := rfl
theorem tb94 (N : Nat) : TbOk Try.prog (T94 N) := tb_none fun _ => rfl
theorem T94_tr (N i : Nat) : (T94 N).tr i = tr94 i := rfl
theorem T94_lp (N i : Nat) : (T94 N).lp i = lp94 i := rfl
theorem T94_ex (N i : Nat) : (T94 N).ex i = ex94 i := rfl
theorem T94_rg (N i : Nat) : (T94 N).rg i = rg94 i := rfl
theorem T94_jn (N i : Nat) : (T94 N).jn i = jn94 i := rfl
theorem T94_fuel (N : Nat) : (T94 N).fuel = N := rfl
noncomputable def c94_7 : Code := cut [true, true, true, true, true, false, true, true] (Try.f94.body.getD .skip)
theorem c94_7_at {N : Nat} {Q : X → St → Option (Vals [i64])} {e : List LV} {h : List Blk} : runT tt Γ94 (T94 N) c94_7 Q ⟨e, h⟩ = runT tt Γ94 (T94 N) (cut [true, true, true, true, true, false, true, true] (Try.f94.body.getD .skip)) Q ⟨e, h⟩ := rfl
theorem r94_l7 (N : Nat) (v2 : Int) (v3 : Int) (v6 : Int) (v7 : Int) {k0 : Int → Option (Vals [i64])} {Q : X → St → Option (Vals [i64])} {c : Code} (hc : c = c94_7) (hret : ∀ st, Q .ret st = retS tt true [i64] [.cell 4 64] st) (h0 : ∀ (v8 : Int), Q (.exit 0) ⟨[.one (.int .i64 v2), .one (.int .i64 v3), u, u, .one (.ptr 0 0 0), .one (.int .i64 v8), u, u, u, u, u, u, u, u, u, u, u, u, u, u, u, u, u, u, u, u, u, u, u, u, u, u, u, u, u, u, u, u, u, u], [.box [.int .i64 v6, .int .i64 v7]]⟩ = k0 v8) : ∀ (n : Nat) (v4 : Int) (v5 : Int), loopR (runT tt Γ94 (T94 N) c) false nl94_7 Q n ⟨[.one (.int .i64 v2), .one (.int .i64 v3), u, u, .one (.ptr 0 0 0), .one (.int .i64 v4), .one (.int .i64 v5), u, u, u, u, u, u, u, u, u, u, u, u, u, u, u, u, u, u, u, u, u, u, u, u, u, u, u, u, u, u, u, u, u], [.box [.int .i64 v6, .int .i64 v7]]⟩ = m94_l7 N v2 v3 v6 v7 k0 n v4 v5 := by
  subst hc; intro n; induction n with
  | zero => intros; rfl
  | succ n ih =>
    intro v4 v5
    rw [loop_succ, c94_7_at, m94_l7]; unfold Try.f94
    simp (maxSteps := 10000000) -implicitDefEqProofs [T94_tr, tr94, T94_lp, lp94, T94_ex, ex94, T94_rg, rg94, T94_jn, jn94, T94_fuel, T94_pins, nl94_7_fix, nl94_7_keep, nx94_0_fix, nx94_0_keep, Γ94_80, Γ94_105, g80, g105, hret, h0, ih]
theorem run94 (N : Nat) (v0 : Int) (v1 : Int) : runT tt Γ94 (T94 N) (Try.f94.body.getD .skip) (retR tt true [i64] [.cell 4 64]) (entryP [i3, i3] 40 (v0, v1, ())) = m94 N v0 v1 := by
  unfold Try.f94
  simp (maxSteps := 10000000) -implicitDefEqProofs [T94_tr, tr94, T94_lp, lp94, T94_ex, ex94, T94_rg, rg94, T94_jn, jn94, T94_fuel, T94_pins, nl94_7_fix, nl94_7_keep, nx94_0_fix, nx94_0_keep, Γ94_80, Γ94_105, g80, g105]
  rewrite [r94_l7 (k0 := (fun (v9 : Int) => chk (absI_pre v9) (chk (((absI v9) : Int) ≠ 0) (chk (((absI v9) : Int) ≠ 0) (bif (!((isRatio ((IntKind.i64.wrap ((IntKind.i64.wrap (0 - v0)).tdiv ((absI v9) : Int))), (IntKind.i64.wrap ((IntKind.i64.wrap (0 - v1)).tdiv ((absI v9) : Int))))) : Bool)) then (some (((0 : Int), (0 : Int)), ())) else (some (((IntKind.i64.wrap ((IntKind.i64.wrap (0 - v0)).tdiv ((absI v9) : Int))), (IntKind.i64.wrap ((IntKind.i64.wrap (0 - v1)).tdiv ((absI v9) : Int)))), ()))))))) N _ _ _ _ ?_ ?_ ?_]
  rewrite [r94_l7 (k0 := (fun (v10 : Int) => chk (absI_pre v10) (chk (((absI v10) : Int) ≠ 0) (chk (((absI v10) : Int) ≠ 0) (bif (!((isRatio ((IntKind.i64.wrap (v0.tdiv ((absI v10) : Int))), (IntKind.i64.wrap (v1.tdiv ((absI v10) : Int))))) : Bool)) then (some (((0 : Int), (0 : Int)), ())) else (some (((IntKind.i64.wrap (v0.tdiv ((absI v10) : Int))), (IntKind.i64.wrap (v1.tdiv ((absI v10) : Int)))), ()))))))) N _ _ _ _ ?_ ?_ ?_]
  · rewrite [m94]; first | rfl | simp (maxSteps := 10000000) -implicitDefEqProofs []
  · rfl
  · intro; simp only [seqR_ret, blockR_ret, retR_ret, retX_ret]
  · intro v10; simp (maxSteps := 10000000) -implicitDefEqProofs [T94_tr, tr94, T94_lp, lp94, T94_ex, ex94, T94_rg, rg94, T94_jn, jn94, T94_fuel, T94_pins, nl94_7_fix, nl94_7_keep, nx94_0_fix, nx94_0_keep, Γ94_80, Γ94_105, g80, g105]
  · rfl
  · intro; simp only [seqR_ret, blockR_ret, retR_ret, retX_ret]
  · intro v9; simp (maxSteps := 10000000) -implicitDefEqProofs [T94_tr, tr94, T94_lp, lp94, T94_ex, ex94, T94_rg, rg94, T94_jn, jn94, T94_fuel, T94_pins, nl94_7_fix, nl94_7_keep, nx94_0_fix, nx94_0_keep, Γ94_80, Γ94_105, g80, g105]
-- impl.reducedRatio
noncomputable def m78 (N : Nat) (v0 : Int) (v1 : Int) : Option (Vals [i64]) := bif (decide (v1 = (0 : Int))) then (some (((0 : Int), (0 : Int)), ())) else (bif (decide (v1 < (0 : Int))) then (chk (gcdI_pre (IntKind.i64.wrap (0 - v0)) (IntKind.i64.wrap (0 - v1))) (chk (((gcdI (IntKind.i64.wrap (0 - v0)) (IntKind.i64.wrap (0 - v1))) : Int) ≠ 0) (chk (((gcdI (IntKind.i64.wrap (0 - v0)) (IntKind.i64.wrap (0 - v1))) : Int) ≠ 0) (bif (!((isRatio ((IntKind.i64.wrap ((IntKind.i64.wrap (0 - v0)).tdiv ((gcdI (IntKind.i64.wrap (0 - v0)) (IntKind.i64.wrap (0 - v1))) : Int))), (IntKind.i64.wrap ((IntKind.i64.wrap (0 - v1)).tdiv ((gcdI (IntKind.i64.wrap (0 - v0)) (IntKind.i64.wrap (0 - v1))) : Int))))) : Bool)) then (some (((0 : Int), (0 : Int)), ())) else (some (((IntKind.i64.wrap ((IntKind.i64.wrap (0 - v0)).tdiv ((gcdI (IntKind.i64.wrap (0 - v0)) (IntKind.i64.wrap (0 - v1))) : Int))), (IntKind.i64.wrap ((IntKind.i64.wrap (0 - v1)).tdiv ((gcdI (IntKind.i64.wrap (0 - v0)) (IntKind.i64.wrap (0 - v1))) : Int)))), ())))))) else (chk (gcdI_pre v0 v1) (chk (((gcdI v0 v1) : Int) ≠ 0) (chk (((gcdI v0 v1) : Int) ≠ 0) (bif (!((isRatio ((IntKind.i64.wrap (v0.tdiv ((gcdI v0 v1) : Int))), (IntKind.i64.wrap (v1.tdiv ((gcdI v0 v1) : Int))))) : Bool)) then (some (((0 : Int), (0 : Int)), ())) else (some (((IntKind.i64.wrap (v0.tdiv ((gcdI v0 v1) : Int))), (IntKind.i64.wrap (v1.tdiv ((gcdI v0 v1) : Int)))), ())))))))
def Γ78 : Gam := [(65, g65), (79, g79)]
theorem Γ78_65 : Gam.get Γ78 65 = some g65 := rfl
theorem Γ78_79 : Gam.get Γ78 79 = some g79 := rfl
def tr78 : Nat → Tree := fun i => if i = 6 then .first 0 (.first 1 (.first 2 (.first 3 (.first 4 (.first 5 (.first 6 (.alt 7 (.alt 8 .done .stop) .stop))))))) else .done
def lp78 : Nat → Nm := fun _ => ⟨[], []⟩
def jn78 : Nat → Option Jn := fun _ => none
def ex78 : Nat → Option Nm := fun _ => none
def rg78 : Nat → Option Nm := fun _ => none
theorem p78 : plansOk tr78 (Try.f78.body.getD .skip) = true := by kernel_rfl
def T78 (N : Nat) : Tab := { tr := tr78, lp := lp78, ex := ex78, rg := rg78, jn := jn78, fuel := N }
theorem T78_pins (N : Nat) : (T78 N).pins = false := rfl
theorem tb78 (N : Nat) : TbOk Try.prog (T78 N) := tb_none fun _ => rfl
theorem T78_tr (N i : Nat) : (T78 N).tr i = tr78 i := rfl
theorem T78_lp (N i : Nat) : (T78 N).lp i = lp78 i := rfl
theorem T78_ex (N i : Nat) : (T78 N).ex i = ex78 i := rfl
theorem T78_rg (N i : Nat) : (T78 N).rg i = rg78 i := rfl
theorem T78_jn (N i : Nat) : (T78 N).jn i = jn78 i := rfl
theorem T78_fuel (N : Nat) : (T78 N).fuel = N := rfl
theorem run78 (N : Nat) (v0 : Int) (v1 : Int) : runT tt Γ78 (T78 N) (Try.f78.body.getD .skip) (retR tt true [i64] [.cell 4 64]) (entryP [i3, i3] 31 (v0, v1, ())) = m78 N v0 v1 := by
  rw [m78]; unfold Try.f78
  simp (maxSteps := 10000000) -implicitDefEqProofs [T78_tr, tr78, T78_lp, lp78, T78_ex, ex78, T78_rg, rg78, T78_jn, jn78, T78_fuel, T78_pins, Γ78_65, Γ78_79, g65, g79]
  try rfl
theorem red_end {m e : Int} (hm : inI m) (he : inI e) (h0 : e ≠ 0) : (chk (gcdI m e ≠ 0) (chk (gcdI m e ≠ 0) (bif !isRatio ((IntKind.i64.wrap (m.tdiv (gcdI m e)), IntKind.i64.wrap (e.tdiv (gcdI m e))) : Val Y64) then some ((((0 : Int), (0 : Int)), ()) : Vals [i64]) else some ((((IntKind.i64.wrap (m.tdiv (gcdI m e))), (IntKind.i64.wrap (e.tdiv (gcdI m e)))), ()) : Vals [i64])))) = some ((redG m e, ()) : Vals [i64]) := by
  have hg : gcdI m e ≠ 0 := by
    unfold gcdI
    have : 0 < Nat.gcd m.natAbs e.natAbs := Nat.gcd_pos_of_pos_right _ (by omega)
    omega
  have e1 : IntKind.i64.wrap (m.tdiv (gcdI m e)) = m.tdiv (gcdI m e) := tdiv_in hm
  have e2 : IntKind.i64.wrap (e.tdiv (gcdI m e)) = e.tdiv (gcdI m e) := tdiv_in he
  rw [chk_pos hg, chk_pos hg, e1, e2]
  unfold redG
  cases isRatio ((m.tdiv (gcdI m e), e.tdiv (gcdI m e)) : Val Y64) <;> rfl
theorem neg_inI {x : Int} (h : inI x) : inI (-x) := by unfold inI at *; omega
theorem e78 (n d : Int) (h : redR_pre n d) : ∃ N, m78 N n d = some (redR n d, ()) := ⟨0, by
  rw [m78]
  unfold redR
  by_cases h0 : d = 0
  · rw [bif_dec h0, if_pos h0]
  rw [bif_decN h0, if_neg h0, neg_in h.1, neg_in h.2]
  by_cases h1 : d < 0
  · rw [bif_dec h1, if_pos h1, chk_pos (show gcdI_pre (-n) (-d) from ⟨neg_inI h.1, neg_inI h.2⟩)]
    exact red_end (neg_inI h.1) (neg_inI h.2) (by omega)
  · rw [bif_decN h1, if_neg h1, chk_pos (show gcdI_pre n d from ⟨h.1, h.2⟩)]
    exact red_end h.1 h.2 h0⟩
theorem s78 : Sound Try.prog 78 g78 := sound_run (tt := tt) (Γ := Γ78) hT (ok_cons s65 (ok_cons s79 ok_nil)) hm (fn := Try.f78) Try.func78 (c := Try.f78.body.getD .skip) (by kernel_rfl) (by kernel_rfl) fun x hx => by
  obtain ⟨N, h⟩ := e78 x.1 x.2.1 hx
  exact ⟨T78 N, p78, noSem_ok _, tb78 N, (run78 N x.1 x.2.1).trans h⟩
theorem t94 (N : Nat) (p q r s : Int) (K : Int → Option (Vals [i64])) : ∀ (n : Nat) (a b : Int), b.natAbs < n → ∃ c : Int, m94_l7 N p q r s K n a b = K c ∧ c.natAbs = Nat.gcd a.natAbs b.natAbs
  | 0, _, _, h => by omega
  | n + 1, a, b, h => by
    rw [m94_l7]
    by_cases hb : b = 0
    · subst hb; exact ⟨a, by simp, by simp⟩
    · have hlt : a.natAbs % b.natAbs < b.natAbs := Nat.mod_lt _ (by omega)
      have hm : (a.tmod b).natAbs = a.natAbs % b.natAbs := Int.natAbs_tmod _ _
      obtain ⟨c, h1, h2⟩ := t94 N p q r s K n b (a.tmod b) (by omega)
      refine ⟨c, ?_, ?_⟩
      · rw [decide_eq_false hb, chk_pos hb]; exact h1
      · rw [h2, hm, Nat.gcd_comm b.natAbs, ← Nat.gcd_rec, Nat.gcd_comm]
theorem e94 (n d : Int) (h : redR_pre n d) : ∃ N, m94 N n d = some (redR n d, ()) := ⟨d.natAbs + 1, by
  rw [m94]
  unfold redR
  by_cases h0 : d = 0
  · rw [bif_dec h0, if_pos h0]
  rw [bif_decN h0, if_neg h0, neg_in h.1, neg_in h.2]
  by_cases h1 : d < 0
  · rw [bif_dec h1, if_pos h1]
    obtain ⟨c, g1, g2⟩ := t94 (d.natAbs + 1) (-n) (-d) 0 0 _ (d.natAbs + 1) (-n) (-d) (by omega)
    refine g1.trans ?_
    obtain ⟨g3, g4⟩ := abs_in (neg_inI h.1) (neg_inI h.2) g2
    dsimp only
    rw [chk_pos g3, g4]
    exact red_end (neg_inI h.1) (neg_inI h.2) (by omega)
  · rw [bif_decN h1, if_neg h1]
    obtain ⟨c, g1, g2⟩ := t94 (d.natAbs + 1) n d 0 0 _ (d.natAbs + 1) n d (by omega)
    refine g1.trans ?_
    obtain ⟨g3, g4⟩ := abs_in h.1 h.2 g2
    dsimp only
    rw [chk_pos g3, g4]
    exact red_end h.1 h.2 h0⟩
theorem s94 : Sound Try.prog 94 g94 := sound_run (tt := tt) (Γ := Γ94) hT (ok_cons s80 (ok_cons s105 ok_nil)) hm (fn := Try.f94) Try.func94 (c := Try.f94.body.getD .skip) (by kernel_rfl) (by kernel_rfl) fun x hx => by
  obtain ⟨N, h⟩ := e94 x.1 x.2.1 hx
  exact ⟨T94 N, p94, noSem_ok _, tb94 N, (run94 N x.1 x.2.1).trans h⟩
def makeR (n d : Int) : Val Y64 := bif isNum n && isNum d then redR n d else ((0 : Int), (0 : Int))
def g85 : G := { ps := [i3, i3], rs := [i64], dp := true, pre := fun _ => True, fn := fun x => (makeR x.1 x.2.1, ()) }
-- spec.MakeRatio
noncomputable def m85 (N : Nat) (v0 : Int) (v1 : Int) : Option (Vals [i64]) := bif (!((isNum v0) : Bool)) then (some (((0 : Int), (0 : Int)), ())) else (bif (!((isNum v1) : Bool)) then (some (((0 : Int), (0 : Int)), ())) else (chk (redR_pre v0 v1) (some ((((redR v0 v1).1 : Int), ((redR v0 v1).2 : Int)), ()))))
def Γ85 : Gam := [(58, g58), (94, g94)]
theorem Γ85_58 : Gam.get Γ85 58 = some g58 := rfl
theorem Γ85_94 : Gam.get Γ85 94 = some g94 := rfl
def tr85 : Nat → Tree := fun _ => .done
def lp85 : Nat → Nm := fun _ => ⟨[], []⟩
def jn85 : Nat → Option Jn := fun _ => none
def ex85 : Nat → Option Nm := fun _ => none
def rg85 : Nat → Option Nm := fun _ => none
theorem p85 : plansOk tr85 (Try.f85.body.getD .skip) = true := by kernel_rfl
def T85 (N : Nat) : Tab := { tr := tr85, lp := lp85, ex := ex85, rg := rg85, jn := jn85, fuel := N }
theorem T85_pins (N : Nat) : (T85 N).pins = false := rfl
theorem tb85 (N : Nat) : TbOk Try.prog (T85 N) := tb_none fun _ => rfl
theorem T85_tr (N i : Nat) : (T85 N).tr i = tr85 i := rfl
theorem T85_lp (N i : Nat) : (T85 N).lp i = lp85 i := rfl
theorem T85_ex (N i : Nat) : (T85 N).ex i = ex85 i := rfl
theorem T85_rg (N i : Nat) : (T85 N).rg i = rg85 i := rfl
theorem T85_jn (N i : Nat) : (T85 N).jn i = jn85 i := rfl
theorem T85_fuel (N : Nat) : (T85 N).fuel = N := rfl
theorem run85 (N : Nat) (v0 : Int) (v1 : Int) : runT tt Γ85 (T85 N) (Try.f85.body.getD .skip) (retR tt true [i64] [.cell 4 64]) (entryP [i3, i3] 17 (v0, v1, ())) = m85 N v0 v1 := by
  rw [m85]; unfold Try.f85
  simp (maxSteps := 10000000) -implicitDefEqProofs [T85_tr, tr85, T85_lp, lp85, T85_ex, ex85, T85_rg, rg85, T85_jn, jn85, T85_fuel, T85_pins, Γ85_58, Γ85_94, g58, g94]
  try rfl
theorem e85 (n d : Int) : ∃ N, m85 N n d = some (makeR n d, ()) := ⟨0, by
  rw [m85]
  unfold makeR
  cases ha : isNum n with
  | false => rfl
  | true =>
    cases hb : isNum d with
    | false => rfl
    | true =>
      simp only [Bool.not_true, cond_false, Bool.and_self, cond_true]
      rw [chk_pos (show redR_pre n d from ⟨numIn ha, numIn hb⟩)]⟩
theorem s85 : Sound Try.prog 85 g85 := sound_run (tt := tt) (Γ := Γ85) hT (ok_cons s58 (ok_cons s94 ok_nil)) hm (fn := Try.f85) Try.func85 (c := Try.f85.body.getD .skip) (by kernel_rfl) (by kernel_rfl) fun x hx => by
  obtain ⟨N, h⟩ := e85 x.1 x.2.1
  exact ⟨T85 N, p85, noSem_ok _, tb85 N, (run85 N x.1 x.2.1).trans h⟩
def cmpR (a b : Val Y64) : Int := bif isRatio a && isRatio b then sgn (a.1 * b.2) (b.1 * a.2) else 2
def g56 : G := { ps := [i64, i64], rs := [i3], dp := true, pre := fun _ => True, fn := fun x => (cmpR x.1 x.2.1, ()) }
-- impl.CompareRatios
noncomputable def m56 (N : Nat) (v0 : Val Y64) (v1 : Val Y64) : Option (Vals [i3]) := bif (!((isRatio v0) : Bool)) then (some ((2 : Int), ())) else (bif (!((isRatio v1) : Bool)) then (some ((2 : Int), ())) else (bif (decide ((IntKind.i64.wrap ((v0.1 : Int) * (v1.2 : Int))) < (IntKind.i64.wrap ((v1.1 : Int) * (v0.2 : Int))))) then (some ((-1 : Int), ())) else (bif (decide ((IntKind.i64.wrap ((v1.1 : Int) * (v0.2 : Int))) < (IntKind.i64.wrap ((v0.1 : Int) * (v1.2 : Int))))) then (some ((1 : Int), ())) else (some ((0 : Int), ())))))
def Γ56 : Gam := [(79, g79)]
theorem Γ56_79 : Gam.get Γ56 79 = some g79 := rfl
def tr56 : Nat → Tree := fun i => if i = 3 then .quiet 0 (.quiet 1 (.quiet 2 (.quiet 3 (.quiet 4 (.quiet 5 (.quiet 6 (.quiet 7 (.quiet 8 (.quiet 9 (.quiet 10 (.quiet 11 .done))))))))))) else .done
def lp56 : Nat → Nm := fun _ => ⟨[], []⟩
def jn56 : Nat → Option Jn := fun _ => none
def ex56 : Nat → Option Nm := fun _ => none
def rg56 : Nat → Option Nm := fun _ => none
theorem p56 : plansOk tr56 (Try.f56.body.getD .skip) = true := by kernel_rfl
def T56 (N : Nat) : Tab := { tr := tr56, lp := lp56, ex := ex56, rg := rg56, jn := jn56, fuel := N }
theorem T56_pins (N : Nat) : (T56 N).pins = false := rfl
theorem tb56 (N : Nat) : TbOk Try.prog (T56 N) := tb_none fun _ => rfl
theorem T56_tr (N i : Nat) : (T56 N).tr i = tr56 i := rfl
theorem T56_lp (N i : Nat) : (T56 N).lp i = lp56 i := rfl
theorem T56_ex (N i : Nat) : (T56 N).ex i = ex56 i := rfl
theorem T56_rg (N i : Nat) : (T56 N).rg i = rg56 i := rfl
theorem T56_jn (N i : Nat) : (T56 N).jn i = jn56 i := rfl
theorem T56_fuel (N : Nat) : (T56 N).fuel = N := rfl
theorem run56 (N : Nat) (v0 : Val Y64) (v1 : Val Y64) : runT tt Γ56 (T56 N) (Try.f56.body.getD .skip) (retR tt true [i3] [.tmp 4]) (entryP [i64, i64] 31 (v0, v1, ())) = m56 N v0 v1 := by
  rw [m56]; unfold Try.f56
  simp (maxSteps := 10000000) -implicitDefEqProofs [T56_tr, tr56, T56_lp, lp56, T56_ex, ex56, T56_rg, rg56, T56_jn, jn56, T56_fuel, T56_pins, Γ56_79, g79]
  try rfl
theorem e56 (a b : Val Y64) : ∃ N, m56 N a b = some (cmpR a b, ()) := ⟨0, by
  rw [m56]
  unfold cmpR
  cases ha : isRatio a with
  | false => rfl
  | true =>
    cases hb : isRatio b with
    | false => rfl
    | true =>
      simp only [Bool.not_true, cond_false, Bool.and_self, cond_true]
      rw [mul_in (ratio_in ha).1 (ratio_in hb).2, mul_in (ratio_in hb).1 (ratio_in ha).2]
      unfold sgn
      by_cases h1 : (a.1 : Int) * b.2 < b.1 * a.2
      · rw [bif_dec h1, if_pos h1]
      · rw [bif_decN h1, if_neg h1]
        by_cases h2 : (b.1 : Int) * a.2 < a.1 * b.2
        · rw [bif_dec h2, if_pos h2]
        · rw [bif_decN h2, if_neg h2]⟩
theorem s56 : Sound Try.prog 56 g56 := sound_run (tt := tt) (Γ := Γ56) hT (ok_cons s79 ok_nil) hm (fn := Try.f56) Try.func56 (c := Try.f56.body.getD .skip) (by kernel_rfl) (by kernel_rfl) fun x hx => by
  obtain ⟨N, h⟩ := e56 x.1 x.2.1
  exact ⟨T56 N, p56, noSem_ok _, tb56 N, (run56 N x.1 x.2.1).trans h⟩
def lessR (a b : Val Y64) : Bool := decide ((a.1 : Int) * b.2 < b.1 * a.2)
def lessR_pre (a b : Val Y64) : Prop := inRt a ∧ inRt b
def g70 : G := { ps := [i64, i64], rs := [i4], dp := true, pre := fun x => lessR_pre x.1 x.2.1, fn := fun x => (lessR x.1 x.2.1, ()) }
-- spec.l1Less
noncomputable def m70 (N : Nat) (v0 : Val Y64) (v1 : Val Y64) : Option (Vals [i4]) := some ((decide ((IntKind.i64.wrap ((v0.1 : Int) * (v1.2 : Int))) < (IntKind.i64.wrap ((v1.1 : Int) * (v0.2 : Int))))), ())
def Γ70 : Gam := []
def tr70 : Nat → Tree := fun _ => .done
def lp70 : Nat → Nm := fun _ => ⟨[], []⟩
def jn70 : Nat → Option Jn := fun _ => none
def ex70 : Nat → Option Nm := fun _ => none
def rg70 : Nat → Option Nm := fun _ => none
theorem p70 : plansOk tr70 (Try.f70.body.getD .skip) = true := by kernel_rfl
def T70 (N : Nat) : Tab := { tr := tr70, lp := lp70, ex := ex70, rg := rg70, jn := jn70, fuel := N }
theorem T70_pins (N : Nat) : (T70 N).pins = false := rfl
theorem tb70 (N : Nat) : TbOk Try.prog (T70 N) := tb_none fun _ => rfl
theorem T70_tr (N i : Nat) : (T70 N).tr i = tr70 i := rfl
theorem T70_lp (N i : Nat) : (T70 N).lp i = lp70 i := rfl
theorem T70_ex (N i : Nat) : (T70 N).ex i = ex70 i := rfl
theorem T70_rg (N i : Nat) : (T70 N).rg i = rg70 i := rfl
theorem T70_jn (N i : Nat) : (T70 N).jn i = jn70 i := rfl
theorem T70_fuel (N : Nat) : (T70 N).fuel = N := rfl
theorem run70 (N : Nat) (v0 : Val Y64) (v1 : Val Y64) : runT tt Γ70 (T70 N) (Try.f70.body.getD .skip) (retR tt true [i4] [.tmp 4]) (entryP [i64, i64] 16 (v0, v1, ())) = m70 N v0 v1 := by
  rw [m70]; unfold Try.f70
  simp (maxSteps := 10000000) -implicitDefEqProofs [T70_tr, tr70, T70_lp, lp70, T70_ex, ex70, T70_rg, rg70, T70_jn, jn70, T70_fuel, T70_pins]
  try rfl
theorem e70 (a b : Val Y64) (h : lessR_pre a b) : ∃ N, m70 N a b = some (lessR a b, ()) := ⟨0, by
  rw [m70, mul_in h.1.1 h.2.2, mul_in h.2.1 h.1.2]
  rfl⟩
theorem s70 : Sound Try.prog 70 g70 := sound_run (tt := tt) (Γ := Γ70) hT ok_nil hm (fn := Try.f70) Try.func70 (c := Try.f70.body.getD .skip) (by kernel_rfl) (by kernel_rfl) fun x hx => by
  obtain ⟨N, h⟩ := e70 x.1 x.2.1 hx
  exact ⟨T70 N, p70, noSem_ok _, tb70 N, (run70 N x.1 x.2.1).trans h⟩
end Go.T
