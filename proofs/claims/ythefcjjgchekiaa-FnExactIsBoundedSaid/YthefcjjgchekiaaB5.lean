/- Normal cells: the reference's. -/
import Derived.Test.YthefcjjgchekiaaB4
set_option linter.unusedSimpArgs false
set_option linter.unusedVariables false
namespace Go.T
open Go Go.Proofs
set_option maxHeartbeats 4000000
set_option maxRecDepth 100000
def ncon (a : Val Y36) : Bool := !hasVar a
def ncon_pre (a : Val Y36) : Prop := okA a
def truA (a : Val Y36) : Bool := decide ((a.2.1 : Int) < 0) || (decide ((a.2.1 : Int) = 0) && !a.2.2)
def gLv (a : Val Y36) : Int := (gL 0 (atm a).1 : Nat)
def gLv_pre (a : Val Y36) : Prop := okA a
def strV (a b : Val Y36) : Bool := decide (cmpA (atm b) (atm a) ≤ 0)
def strV_pre (a b : Val Y36) : Prop := okA a ∧ okA b ∧ way (atm b) (atm a) = 0
def putV (l : List (Val Y36)) (a : Val Y36) : List (Val Y36) := putA l a
def putV_pre (l : List (Val Y36)) (a : Val Y36) : Prop := l.length ≤ 1048575 ∧ okA a ∧ ∀ b ∈ l, okA b ∧ List.length (α := Int) b.1 = List.length (α := Int) a.1
theorem bad_plain (c : Int) (h s : Bool) : (!h && (decide (0 < c) || (decide (c = 0) && s))) = (!h && !(decide (c < 0) || (decide (c = 0) && !s))) := by
  by_cases h1 : c < 0
  · have h2 : ¬ (0 : Int) < c := by omega
    have h3 : ¬ c = 0 := by omega
    simp [h1, h2, h3]
  · by_cases h2 : c = 0
    · simp [h2]
    · have h3 : (0 : Int) < c := by omega
      simp [h1, h2, h3]
theorem str_plain (p q : Int) (s t : Bool) : decide ((if sgI (p - q) = 0 then (if t = s then 0 else if t then 1 else -1) else sgI (p - q)) ≤ (0 : Int)) = (decide (p < q) || (decide (q = p) && (s || !t))) := by
  unfold sgI
  by_cases c1 : p < q
  · have c2 : p - q < 0 := by omega
    simp [c1, c2]
  · by_cases c2 : q = p
    · subst c2
      cases s <;> cases t <;> simp
    · have c3 : ¬ p - q < 0 := by omega
      have c4 : 0 < p - q := by omega
      rw [if_neg c3, if_pos c4, if_neg (by omega)]
      simp [c1, c2]
theorem bad_eq (a : Val Y36) : badA a = (ncon a && !truA a) := bad_plain a.2.1 (hasVar a) a.2.2
def g60 : G := { ps := [i36], rs := [i4], dp := true, pre := fun x => ncon_pre x.1, fn := fun x => (ncon x.1, ()) }
-- spec.l2Constant
noncomputable def m60_l2 (N : Nat) (v2 : List (Val (.int .i64))) (v3 : Int) (v4 : Bool) (k0 : Unit → Option (Vals [i4])) : Nat → Int → Option (Vals [i4])
  | 0, _ => none
  | n + 1, v1 => bif (decide (v1 < (v2.length : Int))) then (chk (0 ≤ v1 ∧ v1 < (v2.length : Int)) (bif (!(decide (((v2.getD v1.toNat (dflt (.int .i64))) : Int) = (0 : Int)))) then (some (false, ())) else (m60_l2 N v2 v3 v4 k0 n (IntKind.i64.wrap (v1 + (1 : Int)))))) else (k0 ())
noncomputable def m60 (N : Nat) (v0 : Val Y36) : Option (Vals [i4]) := m60_l2 N (v0.1 : List (Val (.int .i64))) (v0.2.1 : Int) (v0.2.2 : Bool) (fun (_ : Unit) => some (true, ())) N (0 : Int)
def Γ60 : Gam := []
def nl60_2 : Nm := ⟨[false, true, false, true], []⟩
theorem nl60_2_fix : nl60_2.fix = [] := rfl
theorem nl60_2_keep : nl60_2.keep = [false, true, false, true] := rfl
def nx60_0 : Nm := ⟨[], []⟩
theorem nx60_0_fix : nx60_0.fix = [] := rfl
theorem nx60_0_keep : nx60_0.keep = [] := rfl
def tr60 : Nat → Tree := fun _ => .done
def lp60 : Nat → Nm := fun i => if i = 2 then nl60_2 else ⟨[], []⟩
def jn60 : Nat → Option Jn := fun _ => none
def ex60 : Nat → Option Nm := fun i => if i = 0 then some nx60_0 else none
def rg60 : Nat → Option Nm := fun _ => none
theorem p60 : plansOk tr60 (Try.f60.body.getD .skip) = true := by kernel_rfl
def T60 (N : Nat) : Tab := { tr := tr60, lp := lp60, ex := ex60, rg := rg60, jn := jn60, fuel := N }
theorem T60_pins (N : Nat) : (T60 N).pins = false := rfl
theorem tb60 (N : Nat) : TbOk Try.prog (T60 N) := tb_none fun _ => rfl
theorem T60_tr (N i : Nat) : (T60 N).tr i = tr60 i := rfl
theorem T60_lp (N i : Nat) : (T60 N).lp i = lp60 i := rfl
theorem T60_ex (N i : Nat) : (T60 N).ex i = ex60 i := rfl
theorem T60_rg (N i : Nat) : (T60 N).rg i = rg60 i := rfl
theorem T60_jn (N i : Nat) : (T60 N).jn i = jn60 i := rfl
theorem T60_fuel (N : Nat) : (T60 N).fuel = N := rfl
noncomputable def c60_2 : Code := cut [true, false, true, true, true] (Try.f60.body.getD .skip)
theorem c60_2_at {N : Nat} {Q : X → St → Option (Vals [i4])} {e : List LV} {h : List Blk} : runT tt Γ60 (T60 N) c60_2 Q ⟨e, h⟩ = runT tt Γ60 (T60 N) (cut [true, false, true, true, true] (Try.f60.body.getD .skip)) Q ⟨e, h⟩ := rfl
theorem r60_l2 (N : Nat) (v2 : List (Val (.int .i64))) (v3 : Int) (v4 : Bool) {k0 : Unit → Option (Vals [i4])} {Q : X → St → Option (Vals [i4])} {c : Code} (hc : c = c60_2) (hret : ∀ st, Q .ret st = retS tt true [i4] [.tmp 2] st) (h0 : Q (.exit 0) ⟨[u, u, u, u, u, u, u, u, u, u, u, u, u, u, u, u, u], []⟩ = k0 ()) : ∀ (n : Nat) (v1 : Int), loopR (runT tt Γ60 (T60 N) c) false nl60_2 Q n ⟨[u, .one (.ptr 0 0 0), u, .one (.int .i64 v1), u, u, u, u, u, u, u, u, u, u, u, u, u], [.box [.sl 3 (.int .i64) v2 1, .int .i64 v3, .bool v4]]⟩ = m60_l2 N v2 v3 v4 k0 n v1 := by
  subst hc; intro n; induction n with
  | zero => intros; rfl
  | succ n ih =>
    intro v1
    rw [loop_succ, c60_2_at, m60_l2]; unfold Try.f60
    simp (maxSteps := 10000000) -implicitDefEqProofs [T60_tr, tr60, T60_lp, lp60, T60_ex, ex60, T60_rg, rg60, T60_jn, jn60, T60_fuel, T60_pins, nl60_2_fix, nl60_2_keep, nx60_0_fix, nx60_0_keep, hret, h0, ih]
theorem run60 (N : Nat) (v0 : Val Y36) : runT tt Γ60 (T60 N) (Try.f60.body.getD .skip) (retR tt true [i4] [.tmp 2]) (entryP [i36] 17 (v0, ())) = m60 N v0 := by
  unfold Try.f60
  simp (maxSteps := 10000000) -implicitDefEqProofs [T60_tr, tr60, T60_lp, lp60, T60_ex, ex60, T60_rg, rg60, T60_jn, jn60, T60_fuel, T60_pins, nl60_2_fix, nl60_2_keep, nx60_0_fix, nx60_0_keep]
  rewrite [r60_l2 (k0 := (fun (_ : Unit) => some (true, ()))) N _ _ _ ?_ ?_ ?_]
  · rewrite [m60]; first | rfl | simp (maxSteps := 10000000) -implicitDefEqProofs []
  · rfl
  · intro; simp only [seqR_ret, blockR_ret, retR_ret, retX_ret]
  · simp (maxSteps := 10000000) -implicitDefEqProofs [T60_tr, tr60, T60_lp, lp60, T60_ex, ex60, T60_rg, rg60, T60_jn, jn60, T60_fuel, T60_pins, nl60_2_fix, nl60_2_keep, nx60_0_fix, nx60_0_keep]
-- spec.l2Truth
noncomputable def m61 (N : Nat) (v0 : Val Y36) : Option (Vals [i4]) := bif (decide ((v0.2.1 : Int) < (0 : Int))) then (some (true, ())) else (bif (decide ((v0.2.1 : Int) = (0 : Int))) then (some ((!(v0.2.2 : Bool)), ())) else (some (false, ())))
def Γ61 : Gam := []
def tr61 : Nat → Tree := fun _ => .done
def lp61 : Nat → Nm := fun _ => ⟨[], []⟩
def jn61 : Nat → Option Jn := fun _ => none
def ex61 : Nat → Option Nm := fun _ => none
def rg61 : Nat → Option Nm := fun _ => none
theorem p61 : plansOk tr61 (Try.f61.body.getD .skip) = true := by kernel_rfl
def T61 (N : Nat) : Tab := { tr := tr61, lp := lp61, ex := ex61, rg := rg61, jn := jn61, fuel := N }
theorem T61_pins (N : Nat) : (T61 N).pins = false := rfl
theorem tb61 (N : Nat) : TbOk Try.prog (T61 N) := tb_none fun _ => rfl
theorem T61_tr (N i : Nat) : (T61 N).tr i = tr61 i := rfl
theorem T61_lp (N i : Nat) : (T61 N).lp i = lp61 i := rfl
theorem T61_ex (N i : Nat) : (T61 N).ex i = ex61 i := rfl
theorem T61_rg (N i : Nat) : (T61 N).rg i = rg61 i := rfl
theorem T61_jn (N i : Nat) : (T61 N).jn i = jn61 i := rfl
theorem T61_fuel (N : Nat) : (T61 N).fuel = N := rfl
theorem run61 (N : Nat) (v0 : Val Y36) : runT tt Γ61 (T61 N) (Try.f61.body.getD .skip) (retR tt true [i4] [.tmp 2]) (entryP [i36] 16 (v0, ())) = m61 N v0 := by
  rw [m61]; unfold Try.f61
  simp (maxSteps := 10000000) -implicitDefEqProofs [T61_tr, tr61, T61_lp, lp61, T61_ex, ex61, T61_rg, rg61, T61_jn, jn61, T61_fuel, T61_pins]
  try rfl
theorem t60 (N : Nat) (xs : List (Val (.int .i64))) (c : Int) (b : Bool) (K : Unit → Option (Vals [i4])) (hl : xs.length ≤ 1048576) (n : Nat) (hn : xs.length < n) : m60_l2 N xs c b K n 0 = bif List.all (α := Int) xs (fun x => decide (x = 0)) then K () else some (false, ()) :=
  (loop_fold (F := fun n i (_ : Unit) => m60_l2 N xs c b K n i) (step := fun _ x _ K => bif decide (x = 0) then K () else some (false, ())) (k := K) hl (fun n i s hi => by rw [m60_l2, bif_dec (by omega), chk_pos (by omega), getD_atI hi, bif_not]) (fun n i s hi => by rw [m60_l2, bif_decN (by omega)]) n () hn).trans (foldK_all xs 0)
theorem e60 (a : Val Y36) (h : ncon_pre a) : ∃ N, m60 N a = some (ncon a, ()) := ⟨List.length (α := Val (.int .i64)) a.1 + 1, by
  have h4 := (atom_in h).1
  rw [m60, t60 _ _ _ _ _ (by omega) _ (Nat.lt_succ_self _)]
  have e : ncon a = List.all (α := Int) a.1 (fun x => decide (x = 0)) := by
    unfold ncon hasVar
    rw [Bool.eq_iff_iff]
    simp only [Bool.not_eq_true', decide_eq_false_iff_not, List.all_eq_true, decide_eq_true_eq, Decidable.not_not, ne_eq]
    exact gL_zero
  rw [e]
  cases List.all (α := Int) a.1 (fun x => decide (x = 0)) <;> rfl⟩
theorem s60 : Sound Try.prog 60 g60 := sound_run (tt := tt) (Γ := Γ60) hT ok_nil hm (fn := Try.f60) Try.func60 (c := Try.f60.body.getD .skip) (by kernel_rfl) (by kernel_rfl) fun x hx => by
  obtain ⟨N, h⟩ := e60 x.1 hx
  exact ⟨T60 N, p60, noSem_ok _, tb60 N, (run60 N x.1).trans h⟩
def g61 : G := { ps := [i36], rs := [i4], dp := true, pre := fun _ => True, fn := fun x => (truA x.1, ()) }
theorem e61 (a : Val Y36) : ∃ N, m61 N a = some (truA a, ()) := ⟨0, by
  rw [m61, truA]
  by_cases h1 : (a.2.1 : Int) < 0 <;> by_cases h2 : (a.2.1 : Int) = 0 <;> simp [h1, h2]⟩
theorem s61 : Sound Try.prog 61 g61 := sound_run (tt := tt) (Γ := Γ61) hT ok_nil hm (fn := Try.f61) Try.func61 (c := Try.f61.body.getD .skip) (by kernel_rfl) (by kernel_rfl) fun x hx => by
  obtain ⟨N, h⟩ := e61 x.1
  exact ⟨T61 N, p61, noSem_ok _, tb61 N, (run61 N x.1).trans h⟩
def g93 : G := { ps := [i36], rs := [i3], dp := true, pre := fun x => gLv_pre x.1, fn := fun x => (gLv x.1, ()) }
-- spec.l2Steep
noncomputable def m93 (N : Nat) (v0 : Val Y36) : Option (Vals [i3]) := chk (gcdL_pre (v0.1 : List (Val (.int .i64))) (0 : Int)) (some (((gcdL (v0.1 : List (Val (.int .i64))) (0 : Int)) : Int), ()))
def Γ93 : Gam := [(59, g59)]
theorem Γ93_59 : Gam.get Γ93 59 = some g59 := rfl
def tr93 : Nat → Tree := fun _ => .done
def lp93 : Nat → Nm := fun _ => ⟨[], []⟩
def jn93 : Nat → Option Jn := fun _ => none
def ex93 : Nat → Option Nm := fun _ => none
def rg93 : Nat → Option Nm := fun _ => none
theorem p93 : plansOk tr93 (Try.f93.body.getD .skip) = true := by kernel_rfl
def T93 (N : Nat) : Tab := { tr := tr93, lp := lp93, ex := ex93, rg := rg93, jn := jn93, fuel := N }
theorem T93_pins (N : Nat) : (T93 N).pins = false := rfl
theorem tb93 (N : Nat) : TbOk Try.prog (T93 N) := tb_none fun _ => rfl
theorem T93_tr (N i : Nat) : (T93 N).tr i = tr93 i := rfl
theorem T93_lp (N i : Nat) : (T93 N).lp i = lp93 i := rfl
theorem T93_ex (N i : Nat) : (T93 N).ex i = ex93 i := rfl
theorem T93_rg (N i : Nat) : (T93 N).rg i = rg93 i := rfl
theorem T93_jn (N i : Nat) : (T93 N).jn i = jn93 i := rfl
theorem T93_fuel (N : Nat) : (T93 N).fuel = N := rfl
theorem run93 (N : Nat) (v0 : Val Y36) : runT tt Γ93 (T93 N) (Try.f93.body.getD .skip) (retR tt true [i3] [.tmp 2]) (entryP [i36] 6 (v0, ())) = m93 N v0 := by
  rw [m93]; unfold Try.f93
  simp (maxSteps := 10000000) -implicitDefEqProofs [T93_tr, tr93, T93_lp, lp93, T93_ex, ex93, T93_rg, rg93, T93_jn, jn93, T93_fuel, T93_pins, Γ93_59, g59]
  try rfl
theorem e93 (a : Val Y36) (h : gLv_pre a) : ∃ N, m93 N a = some (gLv a, ()) := ⟨0, by
  rw [m93, chk_pos (show gcdL_pre a.1 0 from ⟨(okA_pre h).1, by unfold inI; omega, (okA_pre h).2⟩)]; rfl⟩
theorem s93 : Sound Try.prog 93 g93 := sound_run (tt := tt) (Γ := Γ93) hT (ok_cons s59 ok_nil) hm (fn := Try.f93) Try.func93 (c := Try.f93.body.getD .skip) (by kernel_rfl) (by kernel_rfl) fun x hx => by
  obtain ⟨N, h⟩ := e93 x.1 hx
  exact ⟨T93 N, p93, noSem_ok _, tb93 N, (run93 N x.1).trans h⟩
theorem max_gLv (a : Val Y36) : max (1 : Int) (gLv a) = gSv a := by unfold gLv gSv gS; omega
-- spec.l2Way
noncomputable def m81_l4 (N : Nat) (v2 : Int) (v3 : Int) (v5 : List (Val (.int .i64))) (v6 : Int) (v7 : Bool) (v8 : List (Val (.int .i64))) (v9 : Int) (v10 : Bool) (k0 : Unit → Option (Vals [i3])) : Nat → Int → Option (Vals [i3])
  | 0, _ => none
  | n + 1, v4 => bif (decide (v4 < (v5.length : Int))) then (bif (decide (v4 < (v8.length : Int))) then (chk (0 ≤ v4 ∧ v4 < (v5.length : Int)) (chk (v2 ≠ 0) (chk (0 ≤ v4 ∧ v4 < (v8.length : Int)) (chk (v3 ≠ 0) (bif (!(decide ((IntKind.i64.wrap (((v5.getD v4.toNat (dflt (.int .i64))) : Int).tdiv v2)) = (IntKind.i64.wrap (((v8.getD v4.toNat (dflt (.int .i64))) : Int).tdiv v3))))) then (bif (decide ((IntKind.i64.wrap (((v5.getD v4.toNat (dflt (.int .i64))) : Int).tdiv v2)) < (IntKind.i64.wrap (((v8.getD v4.toNat (dflt (.int .i64))) : Int).tdiv v3)))) then (some ((-1 : Int), ())) else (some ((1 : Int), ()))) else (m81_l4 N v2 v3 v5 v6 v7 v8 v9 v10 k0 n (IntKind.i64.wrap (v4 + (1 : Int))))))))) else (k0 ())) else (k0 ())
noncomputable def m81 (N : Nat) (v0 : Val Y36) (v1 : Val Y36) : Option (Vals [i3]) := chk (gLv_pre v0) (chk (gLv_pre v1) (m81_l4 N (max (1 : Int) ((gLv v0) : Int)) (max (1 : Int) ((gLv v1) : Int)) (v0.1 : List (Val (.int .i64))) (v0.2.1 : Int) (v0.2.2 : Bool) (v1.1 : List (Val (.int .i64))) (v1.2.1 : Int) (v1.2.2 : Bool) (fun (_ : Unit) => some ((0 : Int), ())) N (0 : Int)))
def Γ81 : Gam := [(93, g93)]
theorem Γ81_93 : Gam.get Γ81 93 = some g93 := rfl
def nl81_4 : Nm := ⟨[false, false, true, true, false, true, true, true], []⟩
theorem nl81_4_fix : nl81_4.fix = [] := rfl
theorem nl81_4_keep : nl81_4.keep = [false, false, true, true, false, true, true, true] := rfl
def nx81_0 : Nm := ⟨[], []⟩
theorem nx81_0_fix : nx81_0.fix = [] := rfl
theorem nx81_0_keep : nx81_0.keep = [] := rfl
def tr81 : Nat → Tree := fun _ => .done
def lp81 : Nat → Nm := fun i => if i = 4 then nl81_4 else ⟨[], []⟩
def jn81 : Nat → Option Jn := fun _ => none
def ex81 : Nat → Option Nm := fun i => if i = 0 then some nx81_0 else none
def rg81 : Nat → Option Nm := fun _ => none
theorem p81 : plansOk tr81 (Try.f81.body.getD .skip) = true := by kernel_rfl
def T81 (N : Nat) : Tab := { tr := tr81, lp := lp81, ex := ex81, rg := rg81, jn := jn81, fuel := N }
theorem T81_pins (N : Nat) : (T81 N).pins = false := rfl
theorem tb81 (N : Nat) : TbOk Try.prog (T81 N) := tb_none fun _ => rfl
theorem T81_tr (N i : Nat) : (T81 N).tr i = tr81 i := rfl
theorem T81_lp (N i : Nat) : (T81 N).lp i = lp81 i := rfl
theorem T81_ex (N i : Nat) : (T81 N).ex i = ex81 i := rfl
theorem T81_rg (N i : Nat) : (T81 N).rg i = rg81 i := rfl
theorem T81_jn (N i : Nat) : (T81 N).jn i = jn81 i := rfl
theorem T81_fuel (N : Nat) : (T81 N).fuel = N := rfl
noncomputable def c81_4 : Code := cut [true, true, true, false, true, true, true] (Try.f81.body.getD .skip)
theorem c81_4_at {N : Nat} {Q : X → St → Option (Vals [i3])} {e : List LV} {h : List Blk} : runT tt Γ81 (T81 N) c81_4 Q ⟨e, h⟩ = runT tt Γ81 (T81 N) (cut [true, true, true, false, true, true, true] (Try.f81.body.getD .skip)) Q ⟨e, h⟩ := rfl
theorem r81_l4 (N : Nat) (v2 : Int) (v3 : Int) (v5 : List (Val (.int .i64))) (v6 : Int) (v7 : Bool) (v8 : List (Val (.int .i64))) (v9 : Int) (v10 : Bool) {k0 : Unit → Option (Vals [i3])} {Q : X → St → Option (Vals [i3])} {c : Code} (hc : c = c81_4) (hret : ∀ st, Q .ret st = retS tt true [i3] [.tmp 4] st) (h0 : Q (.exit 0) ⟨[u, u, u, u, u, u, u, u, u, u, u, u, u, u, u, u, u, u, u, u, u, u, u, u, u, u, u, u, u, u, u, u, u, u, u, u, u, u, u, u, u, u, u, u, u, u, u, u, u, u], []⟩ = k0 ()) : ∀ (n : Nat) (v4 : Int), loopR (runT tt Γ81 (T81 N) c) false nl81_4 Q n ⟨[u, u, .one (.ptr 0 0 0), .one (.ptr 1 0 0), u, .one (.int .i64 v2), .one (.int .i64 v3), .one (.int .i64 v4), u, u, u, u, u, u, u, u, u, u, u, u, u, u, u, u, u, u, u, u, u, u, u, u, u, u, u, u, u, u, u, u, u, u, u, u, u, u, u, u, u, u], [.box [.sl 3 (.int .i64) v5 2, .int .i64 v6, .bool v7], .box [.sl 3 (.int .i64) v8 2, .int .i64 v9, .bool v10]]⟩ = m81_l4 N v2 v3 v5 v6 v7 v8 v9 v10 k0 n v4 := by
  subst hc; intro n; induction n with
  | zero => intros; rfl
  | succ n ih =>
    intro v4
    rw [loop_succ, c81_4_at, m81_l4]; unfold Try.f81
    simp (maxSteps := 10000000) -implicitDefEqProofs [T81_tr, tr81, T81_lp, lp81, T81_ex, ex81, T81_rg, rg81, T81_jn, jn81, T81_fuel, T81_pins, nl81_4_fix, nl81_4_keep, nx81_0_fix, nx81_0_keep, Γ81_93, g93, hret, h0, ih]
theorem run81 (N : Nat) (v0 : Val Y36) (v1 : Val Y36) : runT tt Γ81 (T81 N) (Try.f81.body.getD .skip) (retR tt true [i3] [.tmp 4]) (entryP [i36, i36] 50 (v0, v1, ())) = m81 N v0 v1 := by
  unfold Try.f81
  simp (maxSteps := 10000000) -implicitDefEqProofs [T81_tr, tr81, T81_lp, lp81, T81_ex, ex81, T81_rg, rg81, T81_jn, jn81, T81_fuel, T81_pins, nl81_4_fix, nl81_4_keep, nx81_0_fix, nx81_0_keep, Γ81_93, g93]
  rewrite [r81_l4 (k0 := (fun (_ : Unit) => some ((0 : Int), ()))) N _ _ _ _ _ _ _ _ ?_ ?_ ?_]
  · rewrite [m81]; first | rfl | simp (maxSteps := 10000000) -implicitDefEqProofs []
  · rfl
  · intro; simp only [seqR_ret, blockR_ret, retR_ret, retX_ret]
  · simp (maxSteps := 10000000) -implicitDefEqProofs [T81_tr, tr81, T81_lp, lp81, T81_ex, ex81, T81_rg, rg81, T81_jn, jn81, T81_fuel, T81_pins, nl81_4_fix, nl81_4_keep, nx81_0_fix, nx81_0_keep, Γ81_93, g93]
-- spec.l2Stronger
noncomputable def m82 (N : Nat) (v0 : Val Y36) (v1 : Val Y36) : Option (Vals [i4]) := chk (gLv_pre v1) (chk (gLv_pre v0) (bif (decide ((IntKind.i64.wrap ((v1.2.1 : Int) * (max (1 : Int) ((gLv v0) : Int)))) < (IntKind.i64.wrap ((v0.2.1 : Int) * (max (1 : Int) ((gLv v1) : Int)))))) then (some (true, ())) else (bif (decide ((IntKind.i64.wrap ((v0.2.1 : Int) * (max (1 : Int) ((gLv v1) : Int)))) = (IntKind.i64.wrap ((v1.2.1 : Int) * (max (1 : Int) ((gLv v0) : Int)))))) then (bif (v0.2.2 : Bool) then (some (true, ())) else (some ((!(v1.2.2 : Bool)), ()))) else (some (false, ())))))
def Γ82 : Gam := [(93, g93)]
theorem Γ82_93 : Gam.get Γ82 93 = some g93 := rfl
def nr82_1 : Nm := ⟨[false, false, true, true, false, true], []⟩
theorem nr82_1_fix : nr82_1.fix = [] := rfl
theorem nr82_1_keep : nr82_1.keep = [false, false, true, true, false, true] := rfl
def nr82_2 : Nm := ⟨[false, false, true, true, false, true, true], []⟩
theorem nr82_2_fix : nr82_2.fix = [] := rfl
theorem nr82_2_keep : nr82_2.keep = [false, false, true, true, false, true, true] := rfl
def tr82 : Nat → Tree := fun i => if i = 1 then .quiet 2 (.alt 0 (.alt 1 (.alt 3 (.alt 4 (.quiet 5 (.quiet 6 .done)) .stop) .stop) (.alt 3 (.alt 1 (.alt 4 (.quiet 5 (.quiet 6 .done)) .stop) (.alt 4 (.quiet 1 (.quiet 5 (.quiet 6 .done))) .stop)) .stop)) (.alt 3 (.alt 0 (.alt 1 (.alt 4 (.quiet 5 (.quiet 6 .done)) .stop) (.alt 4 (.quiet 1 (.quiet 5 (.quiet 6 .done))) .stop)) (.alt 4 (.quiet 0 (.quiet 1 (.quiet 5 (.quiet 6 .done)))) .stop)) .stop)) else if i = 2 then .quiet 2 (.alt 0 (.alt 1 (.alt 3 (.alt 4 (.quiet 5 (.quiet 6 .done)) .stop) .stop) (.alt 3 (.alt 1 (.alt 4 (.quiet 5 (.quiet 6 .done)) .stop) (.alt 4 (.quiet 1 (.quiet 5 (.quiet 6 .done))) .stop)) .stop)) (.alt 3 (.alt 0 (.alt 1 (.alt 4 (.quiet 5 (.quiet 6 .done)) .stop) (.alt 4 (.quiet 1 (.quiet 5 (.quiet 6 .done))) .stop)) (.alt 4 (.quiet 0 (.quiet 1 (.quiet 5 (.quiet 6 .done)))) .stop)) .stop)) else .done
def lp82 : Nat → Nm := fun _ => ⟨[], []⟩
def jn82 : Nat → Option Jn := fun _ => none
def ex82 : Nat → Option Nm := fun _ => none
def rg82 : Nat → Option Nm := fun i => if i = 1 then some nr82_1 else if i = 2 then some nr82_2 else none
theorem p82 : plansOk tr82 (Try.f82.body.getD .skip) = true := by kernel_rfl
def T82 (N : Nat) : Tab := { tr := tr82, lp := lp82, ex := ex82, rg := rg82, jn := jn82, fuel := N }
theorem T82_pins (N : Nat) : (T82 N).pins = false := rfl
theorem tb82 (N : Nat) : TbOk Try.prog (T82 N) := tb_none fun _ => rfl
theorem T82_tr (N i : Nat) : (T82 N).tr i = tr82 i := rfl
theorem T82_lp (N i : Nat) : (T82 N).lp i = lp82 i := rfl
theorem T82_ex (N i : Nat) : (T82 N).ex i = ex82 i := rfl
theorem T82_rg (N i : Nat) : (T82 N).rg i = rg82 i := rfl
theorem T82_jn (N i : Nat) : (T82 N).jn i = jn82 i := rfl
theorem T82_fuel (N : Nat) : (T82 N).fuel = N := rfl
theorem run82 (N : Nat) (v0 : Val Y36) (v1 : Val Y36) : runT tt Γ82 (T82 N) (Try.f82.body.getD .skip) (retR tt true [i4] [.tmp 4]) (entryP [i36, i36] 36 (v0, v1, ())) = m82 N v0 v1 := by
  rw [m82]; unfold Try.f82
  simp (maxSteps := 10000000) -implicitDefEqProofs [T82_tr, tr82, T82_lp, lp82, T82_ex, ex82, T82_rg, rg82, T82_jn, jn82, T82_fuel, T82_pins, nr82_1_fix, nr82_1_keep, nr82_2_fix, nr82_2_keep, Γ82_93, g93]
  try rfl
-- spec.l3Atom
noncomputable def m28 (N : Nat) (v0 : Val Y36) : Option (Vals [i36]) := chk (([] : List (Val (.int .i64))).length + (v0.1 : List (Val (.int .i64))).length ≤ 1048576) (some (((([] : List (Val (.int .i64))) ++ (v0.1 : List (Val (.int .i64)))), (v0.2.1 : Int), (v0.2.2 : Bool)), ()))
def Γ28 : Gam := []
def tr28 : Nat → Tree := fun i => if i = 1 then .keep 1 (.keep 2 (.keep 4 (.keep 5 (.keep 6 (.keep 7 (.alt 0 (.alt 3 (.quiet 8 (.alt 9 .done .stop)) .stop) .stop)))))) else .done
def lp28 : Nat → Nm := fun _ => ⟨[], []⟩
def jn28 : Nat → Option Jn := fun _ => none
def ex28 : Nat → Option Nm := fun _ => none
def rg28 : Nat → Option Nm := fun _ => none
theorem p28 : plansOk tr28 (Try.f28.body.getD .skip) = true := by kernel_rfl
def T28 (N : Nat) : Tab := { tr := tr28, lp := lp28, ex := ex28, rg := rg28, jn := jn28, fuel := N }
theorem T28_pins (N : Nat) : (T28 N).pins = false := rfl
theorem tb28 (N : Nat) : TbOk Try.prog (T28 N) := tb_none fun _ => rfl
theorem T28_tr (N i : Nat) : (T28 N).tr i = tr28 i := rfl
theorem T28_lp (N i : Nat) : (T28 N).lp i = lp28 i := rfl
theorem T28_ex (N i : Nat) : (T28 N).ex i = ex28 i := rfl
theorem T28_rg (N i : Nat) : (T28 N).rg i = rg28 i := rfl
theorem T28_jn (N i : Nat) : (T28 N).jn i = jn28 i := rfl
theorem T28_fuel (N : Nat) : (T28 N).fuel = N := rfl
theorem run28 (N : Nat) (v0 : Val Y36) : runT tt Γ28 (T28 N) (Try.f28.body.getD .skip) (retR tt true [i36] [.cell 2 36]) (entryP [i36] 12 (v0, ())) = m28 N v0 := by
  rw [m28]; unfold Try.f28
  simp (maxSteps := 10000000) -implicitDefEqProofs [T28_tr, tr28, T28_lp, lp28, T28_ex, ex28, T28_rg, rg28, T28_jn, jn28, T28_fuel, T28_pins]
  try rfl
-- spec.l3None
noncomputable def m62 (N : Nat) (v0 : Int) : Option (Vals [i32]) := chk (0 ≤ v0 ∧ v0 ≤ v0 ∧ v0 ≤ 1048576) (some ((v0, ([((List.replicate v0.toNat (dflt (.int .i64))), (1 : Int), false)] : List (Val Y36))), ()))
def Γ62 : Gam := []
def tr62 : Nat → Tree := fun _ => .done
def lp62 : Nat → Nm := fun _ => ⟨[], []⟩
def jn62 : Nat → Option Jn := fun _ => none
def ex62 : Nat → Option Nm := fun _ => none
def rg62 : Nat → Option Nm := fun _ => none
theorem p62 : plansOk tr62 (Try.f62.body.getD .skip) = true := by kernel_rfl
def T62 (N : Nat) : Tab := { tr := tr62, lp := lp62, ex := ex62, rg := rg62, jn := jn62, fuel := N }
theorem T62_pins (N : Nat) : (T62 N).pins = false := rfl
theorem tb62 (N : Nat) : TbOk Try.prog (T62 N) := tb_none fun _ => rfl
theorem T62_tr (N i : Nat) : (T62 N).tr i = tr62 i := rfl
theorem T62_lp (N i : Nat) : (T62 N).lp i = lp62 i := rfl
theorem T62_ex (N i : Nat) : (T62 N).ex i = ex62 i := rfl
theorem T62_rg (N i : Nat) : (T62 N).rg i = rg62 i := rfl
theorem T62_jn (N i : Nat) : (T62 N).jn i = jn62 i := rfl
theorem T62_fuel (N : Nat) : (T62 N).fuel = N := rfl
theorem run62 (N : Nat) (v0 : Int) : runT tt Γ62 (T62 N) (Try.f62.body.getD .skip) (retR tt true [i32] [.cell 2 32]) (entryP [i3] 9 (v0, ())) = m62 N v0 := by
  rw [m62]; unfold Try.f62
  simp (maxSteps := 10000000) -implicitDefEqProofs [T62_tr, tr62, T62_lp, lp62, T62_ex, ex62, T62_rg, rg62, T62_jn, jn62, T62_fuel, T62_pins]
  try rfl
def g81 : G := { ps := [i36, i36], rs := [i3], dp := true, pre := fun x => wayV_pre x.1 x.2.1, fn := fun x => (wayV x.1 x.2.1, ()) }
theorem t81 (N : Nat) (g h : Nat) (hg : (g : Int) ≠ 0) (hh : (h : Int) ≠ 0) (xs ys : List (Val (.int .i64))) (hl : xs.length = ys.length) (h4 : xs.length ≤ 1048576) (hx : ∀ x ∈ xs, inI x) (hy : ∀ x ∈ ys, inI x) (c c' : Int) (s s' : Bool) : ∀ (k i : Nat), xs.length - i = k → ∀ n, k < n →
    m81_l4 N g h xs c s ys c' s' (fun _ => some ((0 : Int), ())) n i = some (lexI ((List.drop (α := Int) i xs).map fun x => x.tdiv (g : Int)) ((List.drop (α := Int) i ys).map fun x => x.tdiv (h : Int)), ())
  | 0, i, hi, n + 1, _ => by
    rw [m81_l4, bif_decN (by omega), List.drop_eq_nil_of_le (by omega), List.drop_eq_nil_of_le (by omega)]
    rfl
  | k + 1, i, hi, n + 1, hn => by
    have h1 : i < xs.length := by omega
    have h2 : i < ys.length := by omega
    rw [m81_l4, bif_dec (by omega), bif_dec (by omega), chk_pos (by omega), chk_pos hg, chk_pos (by omega), chk_pos hh, getD_atI h1, getD_atI h2, tdiv_in (hx _ (List.getElem_mem h1)), tdiv_in (hy _ (List.getElem_mem h2)), wrap_succ h1 h4]
    rw [List.drop_eq_getElem_cons h1, List.drop_eq_getElem_cons h2, List.map_cons, List.map_cons, lexI]
    generalize hp : Int.tdiv xs[i] (g : Int) = p
    generalize hq : Int.tdiv ys[i] (h : Int) = q
    by_cases a1 : p < q
    · have : ¬ p = q := by omega
      simp [a1, this]
    · by_cases a2 : q < p
      · have : ¬ p = q := by omega
        simp [a1, a2, this]
      · have : p = q := by omega
        rw [if_neg a1, if_neg a2, bif_not, bif_dec this]
        exact t81 N g h hg hh xs ys hl h4 hx hy c c' s s' k (i + 1) (by omega) n (by omega)
theorem e81 (a b : Val Y36) (h : wayV_pre a b) : ∃ N, m81 N a b = some (wayV a b, ()) := ⟨List.length (α := Val (.int .i64)) a.1 + 1, by
  obtain ⟨ha, hb, hl⟩ := h
  rw [m81, chk_pos (show gLv_pre a from ha), chk_pos (show gLv_pre b from hb), max_gLv, max_gLv]
  have := t81 (List.length (α := Val (.int .i64)) a.1 + 1) (gS (atm a)) (gS (atm b)) (by have := gS_pos (atm a); omega) (by have := gS_pos (atm b); omega) a.1 b.1 hl (by have := (atom_in ha).1; omega) (okA_in ha) (okA_in hb) a.2.1 b.2.1 a.2.2 b.2.2 _ 0 rfl _ (Nat.lt_succ_self _)
  simp only [List.drop_zero] at this
  exact this⟩
theorem s81 : Sound Try.prog 81 g81 := sound_run (tt := tt) (Γ := Γ81) hT (ok_cons s93 ok_nil) hm (fn := Try.f81) Try.func81 (c := Try.f81.body.getD .skip) (by kernel_rfl) (by kernel_rfl) fun x hx => by
  obtain ⟨N, h⟩ := e81 x.1 x.2.1 hx
  exact ⟨T81 N, p81, noSem_ok _, tb81 N, (run81 N x.1 x.2.1).trans h⟩
def g82 : G := { ps := [i36, i36], rs := [i4], dp := true, pre := fun x => strV_pre x.1 x.2.1, fn := fun x => (strV x.1 x.2.1, ()) }
theorem e82 (a b : Val Y36) (h : strV_pre a b) : ∃ N, m82 N a b = some (strV a b, ()) := ⟨0, by
  obtain ⟨ha, hb, hw⟩ := h
  have h1 := okA_c ha
  have h2 := okA_c hb
  have g1 := gS_le ha
  have g2 := gS_le hb
  have p1 := gS_pos (atm a)
  have p2 := gS_pos (atm b)
  rw [m82, chk_pos (show gLv_pre b from hb), chk_pos (show gLv_pre a from ha), max_gLv, max_gLv, mul_in h1 ⟨by unfold gSv; omega, g2⟩, mul_in h2 ⟨by unfold gSv; omega, g1⟩]
  have e : strV a b = (decide ((b.2.1 : Int) * gSv a < a.2.1 * gSv b) || (decide ((a.2.1 : Int) * gSv b = b.2.1 * gSv a) && (a.2.2 || !b.2.2))) := by
    unfold strV cmpA
    rw [if_pos hw]
    have e1 : strA (atm b) (atm a) = sgI (b.2.1 * gSv a - a.2.1 * gSv b) := rfl
    rw [e1]
    exact str_plain _ _ _ _
  rw [e]
  by_cases c1 : (b.2.1 : Int) * gSv a < a.2.1 * gSv b
  · simp [c1]
  · by_cases c2 : (a.2.1 : Int) * gSv b = b.2.1 * gSv a
    · rw [bif_decN c1, bif_dec c2, decide_eq_false c1, decide_eq_true c2, Bool.false_or, Bool.true_and]
      cases a.2.2 <;> rfl
    · simp [c1, c2]⟩
theorem s82 : Sound Try.prog 82 g82 := sound_run (tt := tt) (Γ := Γ82) hT (ok_cons s93 ok_nil) hm (fn := Try.f82) Try.func82 (c := Try.f82.body.getD .skip) (by kernel_rfl) (by kernel_rfl) fun x hx => by
  obtain ⟨N, h⟩ := e82 x.1 x.2.1 hx
  exact ⟨T82 N, p82, noSem_ok _, tb82 N, (run82 N x.1 x.2.1).trans h⟩
def g28 : G := { ps := [i36], rs := [i36], dp := true, pre := fun x => idA_pre x.1, fn := fun x => (idA x.1, ()) }
def g62 : G := { ps := [i3], rs := [i32], dp := true, pre := fun x => noneC_pre x.1, fn := fun x => (noneC x.1, ()) }
theorem e28 (a : Val Y36) (h : idA_pre a) : ∃ N, m28 N a = some (idA a, ()) := ⟨0, by
  rw [m28, chk_pos (by have h : List.length (α := Val (.int .i64)) a.1 ≤ 1048576 := h; simpa using h)]; rfl⟩
theorem e62 (d : Int) (h : noneC_pre d) : ∃ N, m62 N d = some (noneC d, ()) := ⟨0, by
  rw [m62, chk_pos ⟨h.1, Int.le_refl _, h.2⟩]; rfl⟩
theorem s28 : Sound Try.prog 28 g28 := sound_run (tt := tt) (Γ := Γ28) hT ok_nil hm (fn := Try.f28) Try.func28 (c := Try.f28.body.getD .skip) (by kernel_rfl) (by kernel_rfl) fun x hx => by
  obtain ⟨N, h⟩ := e28 x.1 hx
  exact ⟨T28 N, p28, noSem_ok _, tb28 N, (run28 N x.1).trans h⟩
theorem s62 : Sound Try.prog 62 g62 := sound_run (tt := tt) (Γ := Γ62) hT ok_nil hm (fn := Try.f62) Try.func62 (c := Try.f62.body.getD .skip) (by kernel_rfl) (by kernel_rfl) fun x hx => by
  obtain ⟨N, h⟩ := e62 x.1 hx
  exact ⟨T62 N, p62, noSem_ok _, tb62 N, (run62 N x.1).trans h⟩
-- spec.l3Put
noncomputable def m63_l2 (N : Nat) (v2 : List (Val Y36)) (v4 : List (Val (.int .i64))) (v5 : Int) (v6 : Bool) (k0 : Int → Option (Vals [i30])) : Nat → Int → Option (Vals [i30])
  | 0, _ => none
  | n + 1, v3 => bif (decide (v3 < (v2.length : Int))) then (chk (0 ≤ v3 ∧ v3 < (v2.length : Int)) (chk (wayV_pre (v2.getD v3.toNat (dflt Y36)) (v4, v5, v6)) (bif (decide (((wayV (v2.getD v3.toNat (dflt Y36)) (v4, v5, v6)) : Int) < (0 : Int))) then (m63_l2 N v2 v4 v5 v6 k0 n (IntKind.i64.wrap (v3 + (1 : Int)))) else (k0 v3)))) else (k0 v3)
noncomputable def m63 (N : Nat) (v0 : List (Val Y36)) (v1 : Val Y36) : Option (Vals [i30]) := m63_l2 N v0 (v1.1 : List (Val (.int .i64))) (v1.2.1 : Int) (v1.2.2 : Bool) (fun (v8 : Int) => bif (decide (v8 < (v0.length : Int))) then (chk (0 ≤ v8 ∧ v8 < (v0.length : Int)) (chk (wayV_pre (v0.getD v8.toNat (dflt Y36)) v1) (bif (decide (((wayV (v0.getD v8.toNat (dflt Y36)) v1) : Int) = (0 : Int))) then (chk (0 ≤ v8 ∧ v8 < (v0.length : Int)) (chk (strV_pre (v0.getD v8.toNat (dflt Y36)) v1) (bif ((strV (v0.getD v8.toNat (dflt Y36)) v1) : Bool) then (some (v0, ())) else (chk (([] : List (Val Y36)).length + v0.length ≤ 1048576) (chk (0 ≤ v8 ∧ v8 < ((([] : List (Val Y36)) ++ v0).length : Int)) (chk (v8.toNat < (([] : List (Val Y36)) ++ v0).length) (some (((([] : List (Val Y36)) ++ v0).set v8.toNat v1), ())))))))) else (chk (0 ≤ (0 : Int) ∧ (0 : Int) ≤ v8 ∧ v8 ≤ (v0.length : Int)) (chk (0 ≤ v8 ∧ v8 ≤ (v0.length : Int) ∧ (v0.length : Int) ≤ (v0.length : Int)) (chk (([] : List (Val Y36)).length + ((v0.take v8.toNat).drop (0 : Int).toNat).length ≤ 1048576) (chk ((([] : List (Val Y36)) ++ ((v0.take v8.toNat).drop (0 : Int).toNat)).length + ([v1] : List (Val Y36)).length ≤ 1048576) (chk (((([] : List (Val Y36)) ++ ((v0.take v8.toNat).drop (0 : Int).toNat)) ++ ([v1] : List (Val Y36))).length + ((v0.take (v0.length : Int).toNat).drop v8.toNat).length ≤ 1048576) (some ((((([] : List (Val Y36)) ++ ((v0.take v8.toNat).drop (0 : Int).toNat)) ++ ([v1] : List (Val Y36))) ++ ((v0.take (v0.length : Int).toNat).drop v8.toNat)), ())))))))))) else (chk (0 ≤ (0 : Int) ∧ (0 : Int) ≤ v8 ∧ v8 ≤ (v0.length : Int)) (chk (0 ≤ v8 ∧ v8 ≤ (v0.length : Int) ∧ (v0.length : Int) ≤ (v0.length : Int)) (chk (([] : List (Val Y36)).length + ((v0.take v8.toNat).drop (0 : Int).toNat).length ≤ 1048576) (chk ((([] : List (Val Y36)) ++ ((v0.take v8.toNat).drop (0 : Int).toNat)).length + ([v1] : List (Val Y36)).length ≤ 1048576) (chk (((([] : List (Val Y36)) ++ ((v0.take v8.toNat).drop (0 : Int).toNat)) ++ ([v1] : List (Val Y36))).length + ((v0.take (v0.length : Int).toNat).drop v8.toNat).length ≤ 1048576) (some ((((([] : List (Val Y36)) ++ ((v0.take v8.toNat).drop (0 : Int).toNat)) ++ ([v1] : List (Val Y36))) ++ ((v0.take (v0.length : Int).toNat).drop v8.toNat)), ())))))))) N (0 : Int)
def Γ63 : Gam := [(81, g81), (82, g82)]
theorem Γ63_81 : Gam.get Γ63 81 = some g81 := rfl
theorem Γ63_82 : Gam.get Γ63 82 = some g82 := rfl
def nl63_2 : Nm := ⟨[true, false, false, true, false, true], []⟩
theorem nl63_2_fix : nl63_2.fix = [] := rfl
theorem nl63_2_keep : nl63_2.keep = [true, false, false, true, false, true] := rfl
def nx63_0 : Nm := ⟨[true, false, false, true, false, true], []⟩
theorem nx63_0_fix : nx63_0.fix = [] := rfl
theorem nx63_0_keep : nx63_0.keep = [true, false, false, true, false, true] := rfl
def nr63_10 : Nm := ⟨[false, false, false, false, true], []⟩
theorem nr63_10_fix : nr63_10.fix = [] := rfl
theorem nr63_10_keep : nr63_10.keep = [false, false, false, false, true] := rfl
def tr63 : Nat → Tree := fun i => if i = 2 then .quiet 0 (.quiet 1 (.quiet 2 (.quiet 3 (.quiet 4 (.quiet 5 (.quiet 6 (.quiet 7 (.quiet 8 (.quiet 9 (.alt 10 (.quiet 11 (.quiet 12 .done)) .stop)))))))))) else if i = 4 then .quiet 0 (.quiet 1 (.quiet 2 (.quiet 3 (.quiet 4 (.quiet 5 (.quiet 6 (.quiet 7 (.quiet 8 (.quiet 9 (.alt 10 (.quiet 11 (.quiet 12 .done)) .stop)))))))))) else if i = 5 then .quiet 0 (.quiet 1 (.quiet 2 (.quiet 3 (.quiet 4 (.alt 5 .done .stop))))) else if i = 10 then .first 1 (.first 2 (.first 8 (.first 9 (.pure 3 (.pure 10 (.alt 0 (.alt 4 (.quiet 5 (.alt 6 (.alt 7 (.alt 11 (.quiet 12 .done) .stop) .stop) .stop)) (.alt 5 (.alt 4 (.alt 6 (.alt 7 (.alt 11 (.quiet 12 .done) .stop) .stop) .stop) (.alt 6 (.alt 4 (.alt 7 (.alt 11 (.quiet 12 .done) .stop) .stop) .stop) .stop)) .stop)) (.alt 5 (.alt 0 (.alt 4 (.alt 6 (.alt 7 (.alt 11 (.quiet 12 .done) .stop) .stop) .stop) (.alt 6 (.alt 4 (.alt 7 (.alt 11 (.quiet 12 .done) .stop) .stop) .stop) .stop)) (.alt 6 (.alt 0 (.alt 4 (.alt 7 (.alt 11 (.quiet 12 .done) .stop) .stop) .stop) .stop) .stop)) .stop))))))) else .done
def lp63 : Nat → Nm := fun i => if i = 2 then nl63_2 else ⟨[], []⟩
def jn63 : Nat → Option Jn := fun _ => none
def ex63 : Nat → Option Nm := fun i => if i = 0 then some nx63_0 else none
def rg63 : Nat → Option Nm := fun i => if i = 10 then some nr63_10 else none
theorem p63 : plansOk tr63 (Try.f63.body.getD .skip) = true := by kernel_rfl
def T63 (N : Nat) : Tab := { tr := tr63, lp := lp63, ex := ex63, rg := rg63, jn := jn63, fuel := N }
theorem T63_pins (N : Nat) : (T63 N).pins = false := rfl
theorem tb63 (N : Nat) : TbOk Try.prog (T63 N) := tb_none fun _ => rfl
theorem T63_tr (N i : Nat) : (T63 N).tr i = tr63 i := rfl
theorem T63_lp (N i : Nat) : (T63 N).lp i = lp63 i := rfl
theorem T63_ex (N i : Nat) : (T63 N).ex i = ex63 i := rfl
theorem T63_rg (N i : Nat) : (T63 N).rg i = rg63 i := rfl
theorem T63_jn (N i : Nat) : (T63 N).jn i = jn63 i := rfl
theorem T63_fuel (N : Nat) : (T63 N).fuel = N := rfl
noncomputable def c63_2 : Code := cut [true, true, false, true, true] (Try.f63.body.getD .skip)
theorem c63_2_at {N : Nat} {Q : X → St → Option (Vals [i30])} {e : List LV} {h : List Blk} : runT tt Γ63 (T63 N) c63_2 Q ⟨e, h⟩ = runT tt Γ63 (T63 N) (cut [true, true, false, true, true] (Try.f63.body.getD .skip)) Q ⟨e, h⟩ := rfl
theorem r63_l2 (N : Nat) (v2 : List (Val Y36)) (v4 : List (Val (.int .i64))) (v5 : Int) (v6 : Bool) {k0 : Int → Option (Vals [i30])} {Q : X → St → Option (Vals [i30])} {c : Code} (hc : c = c63_2) (hret : ∀ st, Q .ret st = retS tt false [i30] [.tmp 4] st) (h0 : ∀ (v7 : Int), Q (.exit 0) ⟨[.one (.sl 36 Y36 v2 1), u, u, .one (.ptr 0 0 0), u, .one (.int .i64 v7), u, u, u, u, u, u, u, u, u, u, u, u, u, u, u, u, u, u, u, u, u, u, u, u, u, u, u, u, u, u, u, u, u, u, u, u, u, u, u, u, u, u, u, u, u, u, u, u, u, u, u, u, u, u, u, u], [.box [.sl 3 (.int .i64) v4 1, .int .i64 v5, .bool v6]]⟩ = k0 v7) : ∀ (n : Nat) (v3 : Int), loopR (runT tt Γ63 (T63 N) c) false nl63_2 Q n ⟨[.one (.sl 36 Y36 v2 1), u, u, .one (.ptr 0 0 0), u, .one (.int .i64 v3), u, u, u, u, u, u, u, u, u, u, u, u, u, u, u, u, u, u, u, u, u, u, u, u, u, u, u, u, u, u, u, u, u, u, u, u, u, u, u, u, u, u, u, u, u, u, u, u, u, u, u, u, u, u, u, u], [.box [.sl 3 (.int .i64) v4 1, .int .i64 v5, .bool v6]]⟩ = m63_l2 N v2 v4 v5 v6 k0 n v3 := by
  subst hc; intro n; induction n with
  | zero => intros; rfl
  | succ n ih =>
    intro v3
    rw [loop_succ, c63_2_at, m63_l2]; unfold Try.f63
    simp (maxSteps := 10000000) -implicitDefEqProofs [T63_tr, tr63, T63_lp, lp63, T63_ex, ex63, T63_rg, rg63, T63_jn, jn63, T63_fuel, T63_pins, nl63_2_fix, nl63_2_keep, nx63_0_fix, nx63_0_keep, nr63_10_fix, nr63_10_keep, Γ63_81, Γ63_82, g81, g82, hret, h0, ih]
theorem run63 (N : Nat) (v0 : List (Val Y36)) (v1 : Val Y36) : runT tt Γ63 (T63 N) (Try.f63.body.getD .skip) (retR tt false [i30] [.tmp 4]) (entryP [i30, i36] 62 (v0, v1, ())) = m63 N v0 v1 := by
  unfold Try.f63
  simp (maxSteps := 10000000) -implicitDefEqProofs [T63_tr, tr63, T63_lp, lp63, T63_ex, ex63, T63_rg, rg63, T63_jn, jn63, T63_fuel, T63_pins, nl63_2_fix, nl63_2_keep, nx63_0_fix, nx63_0_keep, nr63_10_fix, nr63_10_keep, Γ63_81, Γ63_82, g81, g82]
  rewrite [r63_l2 (k0 := (fun (v8 : Int) => bif (decide (v8 < (v0.length : Int))) then (chk (0 ≤ v8 ∧ v8 < (v0.length : Int)) (chk (wayV_pre (v0.getD v8.toNat (dflt Y36)) v1) (bif (decide (((wayV (v0.getD v8.toNat (dflt Y36)) v1) : Int) = (0 : Int))) then (chk (0 ≤ v8 ∧ v8 < (v0.length : Int)) (chk (strV_pre (v0.getD v8.toNat (dflt Y36)) v1) (bif ((strV (v0.getD v8.toNat (dflt Y36)) v1) : Bool) then (some (v0, ())) else (chk (([] : List (Val Y36)).length + v0.length ≤ 1048576) (chk (0 ≤ v8 ∧ v8 < ((([] : List (Val Y36)) ++ v0).length : Int)) (chk (v8.toNat < (([] : List (Val Y36)) ++ v0).length) (some (((([] : List (Val Y36)) ++ v0).set v8.toNat v1), ())))))))) else (chk (0 ≤ (0 : Int) ∧ (0 : Int) ≤ v8 ∧ v8 ≤ (v0.length : Int)) (chk (0 ≤ v8 ∧ v8 ≤ (v0.length : Int) ∧ (v0.length : Int) ≤ (v0.length : Int)) (chk (([] : List (Val Y36)).length + ((v0.take v8.toNat).drop (0 : Int).toNat).length ≤ 1048576) (chk ((([] : List (Val Y36)) ++ ((v0.take v8.toNat).drop (0 : Int).toNat)).length + ([v1] : List (Val Y36)).length ≤ 1048576) (chk (((([] : List (Val Y36)) ++ ((v0.take v8.toNat).drop (0 : Int).toNat)) ++ ([v1] : List (Val Y36))).length + ((v0.take (v0.length : Int).toNat).drop v8.toNat).length ≤ 1048576) (some ((((([] : List (Val Y36)) ++ ((v0.take v8.toNat).drop (0 : Int).toNat)) ++ ([v1] : List (Val Y36))) ++ ((v0.take (v0.length : Int).toNat).drop v8.toNat)), ())))))))))) else (chk (0 ≤ (0 : Int) ∧ (0 : Int) ≤ v8 ∧ v8 ≤ (v0.length : Int)) (chk (0 ≤ v8 ∧ v8 ≤ (v0.length : Int) ∧ (v0.length : Int) ≤ (v0.length : Int)) (chk (([] : List (Val Y36)).length + ((v0.take v8.toNat).drop (0 : Int).toNat).length ≤ 1048576) (chk ((([] : List (Val Y36)) ++ ((v0.take v8.toNat).drop (0 : Int).toNat)).length + ([v1] : List (Val Y36)).length ≤ 1048576) (chk (((([] : List (Val Y36)) ++ ((v0.take v8.toNat).drop (0 : Int).toNat)) ++ ([v1] : List (Val Y36))).length + ((v0.take (v0.length : Int).toNat).drop v8.toNat).length ≤ 1048576) (some ((((([] : List (Val Y36)) ++ ((v0.take v8.toNat).drop (0 : Int).toNat)) ++ ([v1] : List (Val Y36))) ++ ((v0.take (v0.length : Int).toNat).drop v8.toNat)), ()))))))))) N _ _ _ _ ?_ ?_ ?_]
  · rewrite [m63]; first | rfl | simp (maxSteps := 10000000) -implicitDefEqProofs []
  · rfl
  · intro; simp only [seqR_ret, blockR_ret, retR_ret, retX_ret]
  · intro v8; simp (maxSteps := 10000000) -implicitDefEqProofs [T63_tr, tr63, T63_lp, lp63, T63_ex, ex63, T63_rg, rg63, T63_jn, jn63, T63_fuel, T63_pins, nl63_2_fix, nl63_2_keep, nx63_0_fix, nx63_0_keep, nr63_10_fix, nr63_10_keep, Γ63_81, Γ63_82, g81, g82]
def g63 : G := { ps := [i30, i36], rs := [i30], dp := false, pre := fun x => putV_pre x.1 x.2.1, fn := fun x => (putV x.1 x.2.1, ()) }
def lowN (l : List (Val Y36)) (a : Val Y36) : Nat := (l.takeWhile fun b => decide (wayV b a < 0)).length
theorem lowN_le (l : List (Val Y36)) (a : Val Y36) : lowN l a ≤ l.length := (List.takeWhile_sublist _).length_le
theorem putA_lowN : ∀ (l : List (Val Y36)) (a : Val Y36), putA l a = if h : lowN l a < l.length then (if wayV l[lowN l a] a = 0 then (if cmpA (atm a) (atm l[lowN l a]) ≤ 0 then l else l.set (lowN l a) a) else l.take (lowN l a) ++ [a] ++ l.drop (lowN l a)) else l.take (lowN l a) ++ [a] ++ l.drop (lowN l a)
  | [], a => rfl
  | b :: r, a => by
    have ih := putA_lowN r a
    by_cases h1 : wayV b a < 0
    · have e : lowN (b :: r) a = lowN r a + 1 := by simp [lowN, List.takeWhile, h1]
      have h1' : way b a < 0 := h1
      simp only [putA, h1', if_true, e, List.length_cons, Nat.add_lt_add_iff_right, List.getElem_cons_succ, List.set_cons_succ, List.take_succ_cons, List.drop_succ_cons, List.cons_append]
      rw [ih]
      split
      · split
        · split <;> rfl
        · rfl
      · rfl
    · have e : lowN (b :: r) a = 0 := by simp [lowN, List.takeWhile, h1]
      have h1' : ¬ way b a < 0 := h1
      simp only [putA, h1', if_false, e, List.length_cons, Nat.zero_lt_succ, dif_pos, List.getElem_cons_zero, List.set_cons_zero, List.take_zero, List.drop_zero, List.nil_append]
      by_cases h2 : way b a = 0
      · rw [if_pos h2, if_pos (show wayV b a = 0 from h2)]
      · rw [if_neg h2, if_neg (show ¬ wayV b a = 0 from h2)]; rfl
theorem t63 (N : Nat) (l : List (Val Y36)) (a : Val Y36) (h : putV_pre l a) (K : Int → Option (Vals [i30])) : ∀ (k i : Nat), l.length - i = k → i ≤ l.length → ∀ n, k < n →
    m63_l2 N l a.1 a.2.1 a.2.2 K n i = K ((i + lowN (l.drop i) a : Nat) : Int)
  | 0, i, hi, hle, n + 1, _ => by
    rw [m63_l2, bif_decN (by omega), List.drop_eq_nil_of_le (by omega)]
    rfl
  | k + 1, i, hi, hle, n + 1, hn => by
    have h1 : i < l.length := by omega
    obtain ⟨hl, ha, hb⟩ := h
    have hb1 := hb _ (List.getElem_mem h1)
    rw [m63_l2, bif_dec (by omega), chk_pos (by omega), getD_atI h1, chk_pos (show wayV_pre _ _ from ⟨hb1.1, ha, hb1.2⟩), wrap_succ h1 (by omega)]
    rw [drop_at h1]
    by_cases h2 : wayV l[i] a < 0
    · have e : lowN (l[i] :: l.drop (i + 1)) a = lowN (l.drop (i + 1)) a + 1 := by simp [lowN, List.takeWhile, h2]
      rw [bif_dec (show wayV l[i] (a.1, a.2.1, a.2.2) < 0 from h2), e, t63 N l a ⟨hl, ha, hb⟩ K k (i + 1) (by omega) (by omega) n (by omega)]
      congr 2; omega
    · have e : lowN (l[i] :: l.drop (i + 1)) a = 0 := by simp [lowN, List.takeWhile, h2]
      rw [bif_decN (show ¬ wayV l[i] (a.1, a.2.1, a.2.2) < 0 from h2), e]
      rfl
theorem e63 (l : List (Val Y36)) (a : Val Y36) (h : putV_pre l a) : ∃ N, m63 N l a = some (putV l a, ()) := ⟨l.length + 1, by
  have t := t63 (l.length + 1) l a h
  rw [m63]
  refine (t _ _ 0 rfl (by omega) _ (Nat.lt_succ_self _)).trans ?_
  obtain ⟨hl, ha, hb⟩ := h
  rw [List.drop_zero, Nat.zero_add]
  have hle := lowN_le l a
  rw [putV, putA_lowN]
  generalize lowN l a = j at hle ⊢
  have last : chk (0 ≤ (0 : Int) ∧ (0 : Int) ≤ (j : Int) ∧ (j : Int) ≤ (l.length : Int)) (chk (0 ≤ (j : Int) ∧ (j : Int) ≤ (l.length : Int) ∧ (l.length : Int) ≤ (l.length : Int)) (chk (([] : List (Val Y36)).length + ((l.take (j : Int).toNat).drop (0 : Int).toNat).length ≤ 1048576) (chk ((([] : List (Val Y36)) ++ ((l.take (j : Int).toNat).drop (0 : Int).toNat)).length + ([a] : List (Val Y36)).length ≤ 1048576) (chk (((([] : List (Val Y36)) ++ ((l.take (j : Int).toNat).drop (0 : Int).toNat)) ++ ([a] : List (Val Y36))).length + ((l.take (l.length : Int).toNat).drop (j : Int).toNat).length ≤ 1048576)
      (some (((([] : List (Val Y36)) ++ ((l.take (j : Int).toNat).drop (0 : Int).toNat)) ++ ([a] : List (Val Y36))) ++ ((l.take (l.length : Int).toNat).drop (j : Int).toNat), ()))))))
      = (some (l.take j ++ [a] ++ l.drop j, ()) : Option (Vals [i30])) := by
    have e1 : (j : Int).toNat = j := rfl
    have e2 : (l.length : Int).toNat = l.length := rfl
    have e3 : (0 : Int).toNat = 0 := rfl
    rw [e1, e2, e3, List.drop_zero, List.take_length, List.nil_append]
    rw [chk_pos (by omega), chk_pos (by omega), chk_pos (by simp; omega), chk_pos (by simp; omega), chk_pos (by simp; omega)]
  by_cases hj : j < l.length
  · have hb1 := hb _ (List.getElem_mem hj)
    have e1 : (j : Int).toNat = j := rfl
    rw [dif_pos hj, bif_dec (by omega), chk_pos (by omega), getD_atI hj, chk_pos (show wayV_pre _ _ from ⟨hb1.1, ha, hb1.2⟩)]
    by_cases hw : wayV l[j] a = 0
    · have hw' : way (atm a) (atm l[j]) = 0 := by have := way_cmp.anti (atm a) (atm l[j]); have hw : way (atm l[j]) (atm a) = 0 := hw; omega
      rw [bif_dec hw, if_pos hw, chk_pos (by omega), chk_pos (show strV_pre _ _ from ⟨hb1.1, ha, hw'⟩)]
      unfold strV
      by_cases hs : cmpA (atm a) (atm l[j]) ≤ 0
      · rw [bif_dec hs, if_pos hs]
      · rw [bif_decN hs, if_neg hs, List.nil_append, chk_pos (by simp; omega), chk_pos (by omega), chk_pos (by omega), e1]
    · rw [bif_decN hw, if_neg hw]
      exact last
  · rw [dif_neg hj, bif_decN (by omega)]
    exact last⟩
theorem s63 : Sound Try.prog 63 g63 := sound_run (tt := tt) (Γ := Γ63) hT (ok_cons s81 (ok_cons s82 ok_nil)) hm (fn := Try.f63) Try.func63 (c := Try.f63.body.getD .skip) (by kernel_rfl) (by kernel_rfl) fun x hx => by
  obtain ⟨N, h⟩ := e63 x.1 x.2.1 hx
  exact ⟨T63 N, p63, noSem_ok _, tb63 N, (run63 N x.1 x.2.1).trans h⟩
-- spec.l3Normal
noncomputable def m44_l3 (N : Nat) (v2 : Int) (v3 : List (Val Y36)) (v5 : Int) (v6 : Int) (k0 : (List (Val Y36)) → Option (Vals [i32])) : Nat → Int → (List (Val Y36)) → Option (Vals [i32])
  | 0, _, _ => none
  | n + 1, v4, v7 => bif (decide (v4 < (v3.length : Int))) then (chk (0 ≤ v4 ∧ v4 < (v3.length : Int)) (chk (ncon_pre (v3.getD v4.toNat (dflt Y36))) (bif ((ncon (v3.getD v4.toNat (dflt Y36))) : Bool) then (chk (0 ≤ v4 ∧ v4 < (v3.length : Int)) (bif (!((truA (v3.getD v4.toNat (dflt Y36))) : Bool)) then (chk (noneC_pre v2) (some ((((noneC v2).1 : Int), ((noneC v2).2 : List (Val Y36))), ()))) else (m44_l3 N v2 v3 v5 v6 k0 n (IntKind.i64.wrap (v4 + (1 : Int))) v7))) else (chk (0 ≤ v4 ∧ v4 < (v3.length : Int)) (chk (idA_pre (v3.getD v4.toNat (dflt Y36))) (chk (putV_pre v7 (((idA (v3.getD v4.toNat (dflt Y36))).1 : List (Val (.int .i64))), (((idA (v3.getD v4.toNat (dflt Y36))).2).1 : Int), (((idA (v3.getD v4.toNat (dflt Y36))).2).2 : Bool))) (m44_l3 N v2 v3 v5 v6 k0 n (IntKind.i64.wrap (v4 + (1 : Int))) ((putV v7 (((idA (v3.getD v4.toNat (dflt Y36))).1 : List (Val (.int .i64))), (((idA (v3.getD v4.toNat (dflt Y36))).2).1 : Int), (((idA (v3.getD v4.toNat (dflt Y36))).2).2 : Bool))) : List (Val Y36))))))))) else (k0 v7)
noncomputable def m44 (N : Nat) (v0 : Int) (v1 : List (Val Y36)) : Option (Vals [i32]) := m44_l3 N v0 v1 (0 : Int) v0 (fun (v9 : List (Val Y36)) => some ((v0, v9), ())) N (0 : Int) ([] : List (Val Y36))
def Γ44 : Gam := [(28, g28), (60, g60), (61, g61), (62, g62), (63, g63)]
theorem Γ44_28 : Gam.get Γ44 28 = some g28 := rfl
theorem Γ44_60 : Gam.get Γ44 60 = some g60 := rfl
theorem Γ44_61 : Gam.get Γ44 61 = some g61 := rfl
theorem Γ44_62 : Gam.get Γ44 62 = some g62 := rfl
theorem Γ44_63 : Gam.get Γ44 63 = some g63 := rfl
def nl44_3 : Nm := ⟨[true, true, false, false, true, true, true], [.nsb 5 1 36 Y36]⟩
theorem nl44_3_fix : nl44_3.fix = [.nsb 5 1 36 Y36] := rfl
theorem nl44_3_keep : nl44_3.keep = [true, true, false, false, true, true, true] := rfl
def nx44_0 : Nm := ⟨[false, false, false, false, true, true], []⟩
theorem nx44_0_fix : nx44_0.fix = [] := rfl
theorem nx44_0_keep : nx44_0.keep = [false, false, false, false, true, true] := rfl
def nr44_8 : Nm := ⟨[true, true, false, false, true, true, true], []⟩
theorem nr44_8_fix : nr44_8.fix = [] := rfl
theorem nr44_8_keep : nr44_8.keep = [true, true, false, false, true, true, true] := rfl
def tr44 : Nat → Tree := fun i => if i = 8 then .quiet 2 (.quiet 3 (.quiet 4 (.quiet 5 (.alt 0 (.alt 1 (.alt 6 (.alt 7 (.quiet 8 (.alt 9 .done .stop)) .stop) .stop) (.alt 6 (.quiet 1 (.alt 7 (.quiet 8 (.alt 9 .done .stop)) .stop)) .stop)) (.alt 6 (.quiet 0 (.quiet 1 (.alt 7 (.quiet 8 (.alt 9 .done .stop)) .stop))) .stop))))) else .done
def lp44 : Nat → Nm := fun i => if i = 3 then nl44_3 else ⟨[], []⟩
def jn44 : Nat → Option Jn := fun _ => none
def ex44 : Nat → Option Nm := fun i => if i = 0 then some nx44_0 else none
def rg44 : Nat → Option Nm := fun i => if i = 8 then some nr44_8 else none
theorem p44 : plansOk tr44 (Try.f44.body.getD .skip) = true := by kernel_rfl
def T44 (N : Nat) : Tab := { tr := tr44, lp := lp44, ex := ex44, rg := rg44, jn := jn44, fuel := N }
theorem T44_pins (N : Nat) : (T44 N).pins = false := rfl
theorem tb44 (N : Nat) : TbOk Try.prog (T44 N) := tb_none fun _ => rfl
theorem T44_tr (N i : Nat) : (T44 N).tr i = tr44 i := rfl
theorem T44_lp (N i : Nat) : (T44 N).lp i = lp44 i := rfl
theorem T44_ex (N i : Nat) : (T44 N).ex i = ex44 i := rfl
theorem T44_rg (N i : Nat) : (T44 N).rg i = rg44 i := rfl
theorem T44_jn (N i : Nat) : (T44 N).jn i = jn44 i := rfl
theorem T44_fuel (N : Nat) : (T44 N).fuel = N := rfl
noncomputable def c44_3 : Code := cut [true, true, false, true, true, true] (Try.f44.body.getD .skip)
theorem c44_3_at {N : Nat} {Q : X → St → Option (Vals [i32])} {e : List LV} {h : List Blk} : runT tt Γ44 (T44 N) c44_3 Q ⟨e, h⟩ = runT tt Γ44 (T44 N) (cut [true, true, false, true, true, true] (Try.f44.body.getD .skip)) Q ⟨e, h⟩ := rfl
theorem r44_l3 (N : Nat) (v2 : Int) (v3 : List (Val Y36)) (v5 : Int) (v6 : Int) {k0 : (List (Val Y36)) → Option (Vals [i32])} {Q : X → St → Option (Vals [i32])} {c : Code} (hc : c = c44_3) (hret : ∀ st, Q .ret st = retS tt false [i32] [.cell 4 32] st) (h0 : ∀ (v8 : List (Val Y36)), Q (.exit 0) ⟨[u, u, u, u, .one (.ptr 0 0 0), .one (.ptr 1 0 0), u, u, u, u, u, u, u, u, u, u, u, u, u, u, u, u, u, u, u, u, u, u, u, u, u, u, u, u, u, u, u, u], [.box [.int .i64 v5, .nils], .box [.int .i64 v6, .sl 36 Y36 v8 2]]⟩ = k0 v8) : ∀ (n : Nat) (v4 : Int) (v7 : List (Val Y36)), loopR (runT tt Γ44 (T44 N) c) false nl44_3 Q n ⟨[.one (.int .i64 v2), .one (.sl 36 Y36 v3 2), u, u, .one (.ptr 0 0 0), .one (.ptr 1 0 0), .one (.int .i64 v4), u, u, u, u, u, u, u, u, u, u, u, u, u, u, u, u, u, u, u, u, u, u, u, u, u, u, u, u, u, u, u], [.box [.int .i64 v5, .nils], .box [.int .i64 v6, .sl 36 Y36 v7 2]]⟩ = m44_l3 N v2 v3 v5 v6 k0 n v4 v7 := by
  subst hc; intro n; induction n with
  | zero => intros; rfl
  | succ n ih =>
    intro v4 v7
    rw [loop_succ, c44_3_at, m44_l3]; unfold Try.f44
    simp (maxSteps := 10000000) -implicitDefEqProofs [T44_tr, tr44, T44_lp, lp44, T44_ex, ex44, T44_rg, rg44, T44_jn, jn44, T44_fuel, T44_pins, nl44_3_fix, nl44_3_keep, nx44_0_fix, nx44_0_keep, nr44_8_fix, nr44_8_keep, Γ44_28, Γ44_60, Γ44_61, Γ44_62, Γ44_63, g28, g60, g61, g62, g63, hret, h0, ih]
theorem run44 (N : Nat) (v0 : Int) (v1 : List (Val Y36)) : runT tt Γ44 (T44 N) (Try.f44.body.getD .skip) (retR tt false [i32] [.cell 4 32]) (entryP [i3, i30] 38 (v0, v1, ())) = m44 N v0 v1 := by
  unfold Try.f44
  simp (maxSteps := 10000000) -implicitDefEqProofs [T44_tr, tr44, T44_lp, lp44, T44_ex, ex44, T44_rg, rg44, T44_jn, jn44, T44_fuel, T44_pins, nl44_3_fix, nl44_3_keep, nx44_0_fix, nx44_0_keep, nr44_8_fix, nr44_8_keep, Γ44_28, Γ44_60, Γ44_61, Γ44_62, Γ44_63, g28, g60, g61, g62, g63]
  rewrite [r44_l3 (k0 := (fun (v9 : List (Val Y36)) => some ((v0, v9), ()))) N _ _ _ _ ?_ ?_ ?_]
  · rewrite [m44]; first | rfl | simp (maxSteps := 10000000) -implicitDefEqProofs []
  · rfl
  · intro; simp only [seqR_ret, blockR_ret, retR_ret, retX_ret]
  · intro v9; simp (maxSteps := 10000000) -implicitDefEqProofs [T44_tr, tr44, T44_lp, lp44, T44_ex, ex44, T44_rg, rg44, T44_jn, jn44, T44_fuel, T44_pins, nl44_3_fix, nl44_3_keep, nx44_0_fix, nx44_0_keep, nr44_8_fix, nr44_8_keep, Γ44_28, Γ44_60, Γ44_61, Γ44_62, Γ44_63, g28, g60, g61, g62, g63]
def g44 : G := { ps := [i3, i30], rs := [i32], dp := false, pre := fun x => nrmV_pre x.1 x.2.1, fn := fun x => (nrmV x.1 x.2.1, ()) }
theorem putA_len : ∀ (l : List Atm) (a : Atm), (putA l a).length ≤ l.length + 1
  | [], _ => by simp [putA]
  | b :: r, a => by
    have := putA_len r a
    simp only [putA]
    split
    · simp; omega
    · split
      · split <;> simp
      · simp
theorem nrmS_fold {ρ : Type} {d : Int} {r : Option ρ} {k : List (Val Y36) → Option ρ} : ∀ (xs : List (Val Y36)) (i : Nat) (s : List (Val Y36)), s.length + xs.length ≤ 1048576 → (∀ b ∈ s, okA b ∧ (List.length (α := Int) b.1 : Int) = d) → (∀ b ∈ xs, okA b ∧ (List.length (α := Int) b.1 : Int) = d) →
    foldK (fun _ (x : Val Y36) (s : List (Val Y36)) K => bif ncon x then (bif !truA x then r else K s) else chk (putV_pre s x) (K (putV s x))) i xs s k = bif xs.any badA then r else k ((xs.filter hasVar).foldl putA s)
  | [], _, s, _, _, _ => by rw [foldK]; simp
  | x :: xs, i, s, h, hs, hx => by
    simp only [List.length_cons] at h
    have hx0 := hx x (by simp)
    rw [foldK, List.any_cons, bad_eq]
    cases hn : ncon x with
    | true =>
      have hv : hasVar x = false := by simpa [ncon] using hn
      cases ht : truA x with
      | false => simp
      | true =>
        simp only [cond_true, Bool.not_true, cond_false, Bool.and_false, Bool.false_or]
        rw [nrmS_fold xs (i + 1) s (by omega) hs fun b hb => hx b (by simp [hb])]
        simp [hv]
    | false =>
      have hv : hasVar x = true := by simpa [ncon] using hn
      simp only [cond_false, Bool.false_and, Bool.false_or]
      rw [chk_pos (show putV_pre s x from ⟨by omega, hx0.1, fun b hb => ⟨(hs b hb).1, by have := (hs b hb).2; have := hx0.2; omega⟩⟩)]
      have hl : (putV s x).length ≤ s.length + 1 := putA_len s x
      rw [nrmS_fold xs (i + 1) (putV s x) (by omega) (fun b hb => ?_) fun b hb => hx b (by simp [hb])]
      · simp only [List.filter_cons, hv, if_true, List.foldl_cons]
        rfl
      · rcases putA_mem hb with rfl | hb
        · exact hx0
        · exact hs b hb
theorem t44 (N : Nat) (d : Int) (l : List (Val Y36)) (K : List (Val Y36) → Option (Vals [i32])) (h : okL d l) (n : Nat) (hn : l.length < n) (s : List (Val Y36)) : m44_l3 N d l 0 d K n 0 s = foldK (fun _ (x : Val Y36) (s : List (Val Y36)) K => bif ncon x then (bif !truA x then some (noneC d, ()) else K s) else chk (putV_pre s x) (K (putV s x))) 0 l s K :=
  loop_fold (xs := l) (F := fun n i s => m44_l3 N d l 0 d K n i s) h.2.1 (fun n i s hi => by
    obtain ⟨ha, hlen⟩ := h.2.2 _ (List.getElem_mem hi)
    have h4 := (atom_in ha).1
    have hd' := h.1
    rw [m44_l3, bif_dec (by omega), chk_pos (by omega), getD_atI hi, chk_pos (show ncon_pre _ from ha), chk_pos (by omega), chk_pos (show noneC_pre d from ⟨hd'.1, by omega⟩), chk_pos (by omega), chk_pos (show idA_pre _ from by unfold idA_pre; omega)]
    rfl) (fun n i s hi => by rw [m44_l3, bif_decN (by omega)]) n s hn
theorem e44 (d : Int) (l : List (Val Y36)) (h : nrmV_pre d l) : ∃ N, m44 N d l = some (nrmV d l, ()) := ⟨l.length + 1, by
  rw [m44, t44 _ _ _ _ h _ (Nat.lt_succ_self _)]
  refine (nrmS_fold (d := d) l 0 [] (by simpa using h.2.1) (by simp) h.2.2).trans ?_
  rw [nrmV]
  cases l.any badA <;> rfl⟩
theorem s44 : Sound Try.prog 44 g44 := sound_run (tt := tt) (Γ := Γ44) hT (ok_cons s28 (ok_cons s60 (ok_cons s61 (ok_cons s62 (ok_cons s63 ok_nil))))) hm (fn := Try.f44) Try.func44 (c := Try.f44.body.getD .skip) (by kernel_rfl) (by kernel_rfl) fun x hx => by
  obtain ⟨N, h⟩ := e44 x.1 x.2.1 hx
  exact ⟨T44 N, p44, noSem_ok _, tb44 N, (run44 N x.1 x.2.1).trans h⟩
end Go.T
