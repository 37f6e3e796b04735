/- Normal cells: the reference's. -/
import Derived.Test.YthefcjjgchekiaaGreatB4
set_option linter.unusedSimpArgs false
set_option linter.unusedVariables false
namespace Go.T
open Go Go.Proofs
set_option maxHeartbeats 4000000
set_option maxRecDepth 100000
def ncon (a : Val Y108) : Bool := !hasVar a
def ncon_pre (a : Val Y108) : Prop := okA a
def truA (a : Val Y108) : Bool := decide ((a.2.1 : Int) < 0) || (decide ((a.2.1 : Int) = 0) && !a.2.2)
def gLv (a : Val Y108) : Int := (gL 0 (atm a).1 : Nat)
def gLv_pre (a : Val Y108) : Prop := okA a
def strV (a b : Val Y108) : Bool := decide (cmpA (atm b) (atm a) ≤ 0)
def strV_pre (a b : Val Y108) : Prop := okA a ∧ okA b ∧ way (atm b) (atm a) = 0
def putV (l : List (Val Y108)) (a : Val Y108) : List (Val Y108) := putA l a
def putV_pre (l : List (Val Y108)) (a : Val Y108) : Prop := l.length ≤ 1048575 ∧ okA a ∧ ∀ b ∈ l, okA b ∧ List.length (α := Int) b.1 = List.length (α := Int) a.1
theorem bad_plain (c : Int) (h s : Bool) : (!h && (decide (0 < c) || (decide (c = 0) && s))) = (!h && !(decide (c < 0) || (decide (c = 0) && !s))) := by
  by_cases h1 : c < 0
  · have h2 : ¬ (0 : Int) < c := by omega
    have h3 : ¬ c = 0 := by omega
    simp [h1, h2, h3]
  · by_cases h2 : c = 0
    · simp [h2]
    · have h3 : (0 : Int) < c := by omega
      simp [h1, h2, h3]
theorem str_plain (p q : Int) (s t : Bool) : decide ((if sgI (p - q) = 0 then (if t = s then 0 else if t then 1 else -1) else sgI (p - q)) ≤ (0 : Int)) = (decide (p < q) || (decide (q = p) && (s || !t))) := by
  unfold sgI
  by_cases c1 : p < q
  · have c2 : p - q < 0 := by omega
    simp [c1, c2]
  · by_cases c2 : q = p
    · subst c2
      cases s <;> cases t <;> simp
    · have c3 : ¬ p - q < 0 := by omega
      have c4 : 0 < p - q := by omega
      rw [if_neg c3, if_pos c4, if_neg (by omega)]
      simp [c1, c2]
theorem bad_eq (a : Val Y108) : badA a = (ncon a && !truA a) := bad_plain a.2.1 (hasVar a) a.2.2
def g229 : G := { ps := [i108], rs := [i4], dp := true, pre := fun x => ncon_pre x.1, fn := fun x => (ncon x.1, ()) }
noncomputable def m229_l2 (N : Nat) (v2 : List (Val (.int .i64))) (v3 : Int) (v4 : Bool) (k0 : Unit → Option (Vals [i4])) : Nat → Int → Option (Vals [i4])
  | 0, _ => none
  | n + 1, v1 => bif (decide (v1 < (v2.length : Int))) then (chk (0 ≤ v1 ∧ v1 < (v2.length : Int)) (bif (!(decide (((v2.getD v1.toNat (dflt (.int .i64))) : Int) = (0 : Int)))) then (some (false, ())) else (m229_l2 N v2 v3 v4 k0 n (IntKind.i64.wrap (v1 + (1 : Int)))))) else (k0 ())
noncomputable def m229 (N : Nat) (v0 : Val Y108) : Option (Vals [i4]) := m229_l2 N (v0.1 : List (Val (.int .i64))) (v0.2.1 : Int) (v0.2.2 : Bool) (fun (_ : Unit) => some (true, ())) N (0 : Int)
def Γ229 : Gam := []
def nl229_2 : Nm := ⟨[false, true, false, true], [], false⟩
theorem nl229_2_zero : nl229_2.zero = false := rfl
theorem nl229_2_fix : nl229_2.fix = [] := rfl
theorem nl229_2_keep : nl229_2.keep = [false, true, false, true] := rfl
def nx229_0 : Nm := ⟨[], [], false⟩
theorem nx229_0_zero : nx229_0.zero = false := rfl
theorem nx229_0_fix : nx229_0.fix = [] := rfl
theorem nx229_0_keep : nx229_0.keep = [] := rfl
def tr229 : Nat → Tree := fun _ => .done
def lp229 : Nat → Nm := fun i => if i = 2 then nl229_2 else ⟨[], [], false⟩
def jn229 : Nat → Option Jn := fun _ => none
def ex229 : Nat → Option Nm := fun i => if i = 0 then some nx229_0 else none
def rg229 : Nat → Option Nm := fun _ => none
theorem p229 : plansOk tr229 (Tryz.f229.body.getD .skip) = true := by kernel_rfl
def T229 (N : Nat) : Tab := { tr := tr229, lp := lp229, ex := ex229, rg := rg229, jn := jn229, fuel := N }
theorem T229_pins (N : Nat) : (T229 N).pins = false := rfl
theorem tb229 (N : Nat) : TbOk Tryz.prog (T229 N) := tb_none fun _ => rfl
theorem T229_tr (N : Nat) (i : Nat) : (T229 N).tr i = tr229 i := rfl
theorem T229_lp (N : Nat) (i : Nat) : (T229 N).lp i = lp229 i := rfl
theorem T229_ex (N : Nat) (i : Nat) : (T229 N).ex i = ex229 i := rfl
theorem T229_rg (N : Nat) (i : Nat) : (T229 N).rg i = rg229 i := rfl
theorem T229_jn (N : Nat) (i : Nat) : (T229 N).jn i = jn229 i := rfl
theorem T229_fuel (N : Nat) : (T229 N).fuel = N := rfl
noncomputable def c229_2 : Code := cut [true, false, true, true, true] (Tryz.f229.body.getD .skip)
theorem c229_2_at {N : Nat} {Q : X → St → Option (Vals [i4])} {e : List LV} {h : List Blk} : runT tt Γ229 (T229 N) c229_2 Q ⟨e, h⟩ = runT tt Γ229 (T229 N) (cut [true, false, true, true, true] (Tryz.f229.body.getD .skip)) Q ⟨e, h⟩ := rfl
theorem r229_l2 (N : Nat) (v2 : List (Val (.int .i64))) (v3 : Int) (v4 : Bool) {k0 : Unit → Option (Vals [i4])} {Q : X → St → Option (Vals [i4])} {c : Code} (hc : c = c229_2) (hret : ∀ st, Q .ret st = retS tt true [i4] [.tmp 2] st) (h0 : Q (.exit 0) ⟨[u, u, u, u, u, u, u, u, u, u, u, u, u, u, u, u, u], []⟩ = k0 ()) : ∀ (n : Nat) (v1 : Int), loopR (runT tt Γ229 (T229 N) c) false nl229_2 Q n ⟨[u, .one (.ptr 0 0 0), u, .one (.int .i64 v1), u, u, u, u, u, u, u, u, u, u, u, u, u], [.box [.sl 3 (.int .i64) v2 1, .int .i64 v3, .bool v4]]⟩ = m229_l2 N v2 v3 v4 k0 n v1 := by
  subst hc; intro n; induction n with
  | zero => intros; rfl
  | succ n ih =>
    intro v1
    rw [loop_succ, c229_2_at, m229_l2]; unfold Tryz.f229
    simp (maxSteps := 10000000) -implicitDefEqProofs [T229_tr, tr229, T229_lp, lp229, T229_ex, ex229, T229_rg, rg229, T229_jn, jn229, T229_fuel, T229_pins, nl229_2_fix, nl229_2_keep, nl229_2_zero, nx229_0_fix, nx229_0_keep, nx229_0_zero, hret, h0, ih]
theorem run229 (N : Nat) (v0 : Val Y108) : runT tt Γ229 (T229 N) (Tryz.f229.body.getD .skip) (retR tt true [i4] [.tmp 2]) (entryP [i108] 17 (v0, ())) = m229 N v0 := by
  unfold Tryz.f229
  simp (maxSteps := 10000000) -implicitDefEqProofs [T229_tr, tr229, T229_lp, lp229, T229_ex, ex229, T229_rg, rg229, T229_jn, jn229, T229_fuel, T229_pins, nl229_2_fix, nl229_2_keep, nl229_2_zero, nx229_0_fix, nx229_0_keep, nx229_0_zero]
  rewrite [r229_l2 (k0 := (fun (_ : Unit) => some (true, ()))) N _ _ _ ?_ ?_ ?_]
  · rewrite [m229]; first | rfl | simp (maxSteps := 10000000) -implicitDefEqProofs []
  · rfl
  · intro; simp only [seqR_ret, blockR_ret, retR_ret, retX_ret]
  · simp (maxSteps := 10000000) -implicitDefEqProofs [T229_tr, tr229, T229_lp, lp229, T229_ex, ex229, T229_rg, rg229, T229_jn, jn229, T229_fuel, T229_pins, nl229_2_fix, nl229_2_keep, nl229_2_zero, nx229_0_fix, nx229_0_keep, nx229_0_zero]
noncomputable def m232 (N : Nat) (v0 : Val Y108) : Option (Vals [i4]) := bif (decide ((v0.2.1 : Int) < (0 : Int))) then (some (true, ())) else (bif (decide ((v0.2.1 : Int) = (0 : Int))) then (some ((!(v0.2.2 : Bool)), ())) else (some (false, ())))
def Γ232 : Gam := []
def tr232 : Nat → Tree := fun _ => .done
def lp232 : Nat → Nm := fun _ => ⟨[], [], false⟩
def jn232 : Nat → Option Jn := fun _ => none
def ex232 : Nat → Option Nm := fun _ => none
def rg232 : Nat → Option Nm := fun _ => none
theorem p232 : plansOk tr232 (Tryz.f232.body.getD .skip) = true := by kernel_rfl
def T232 (N : Nat) : Tab := { tr := tr232, lp := lp232, ex := ex232, rg := rg232, jn := jn232, fuel := N }
theorem T232_pins (N : Nat) : (T232 N).pins = false := rfl
theorem tb232 (N : Nat) : TbOk Tryz.prog (T232 N) := tb_none fun _ => rfl
theorem T232_tr (N : Nat) (i : Nat) : (T232 N).tr i = tr232 i := rfl
theorem T232_lp (N : Nat) (i : Nat) : (T232 N).lp i = lp232 i := rfl
theorem T232_ex (N : Nat) (i : Nat) : (T232 N).ex i = ex232 i := rfl
theorem T232_rg (N : Nat) (i : Nat) : (T232 N).rg i = rg232 i := rfl
theorem T232_jn (N : Nat) (i : Nat) : (T232 N).jn i = jn232 i := rfl
theorem T232_fuel (N : Nat) : (T232 N).fuel = N := rfl
theorem run232 (N : Nat) (v0 : Val Y108) : runT tt Γ232 (T232 N) (Tryz.f232.body.getD .skip) (retR tt true [i4] [.tmp 2]) (entryP [i108] 16 (v0, ())) = m232 N v0 := by
  rw [m232]; unfold Tryz.f232
  simp (maxSteps := 10000000) -implicitDefEqProofs [T232_tr, tr232, T232_lp, lp232, T232_ex, ex232, T232_rg, rg232, T232_jn, jn232, T232_fuel, T232_pins]
  try rfl
theorem t229 (N : Nat) (xs : List (Val (.int .i64))) (c : Int) (b : Bool) (K : Unit → Option (Vals [i4])) (hl : xs.length ≤ 1048576) (n : Nat) (hn : xs.length < n) : m229_l2 N xs c b K n 0 = bif List.all (α := Int) xs (fun x => decide (x = 0)) then K () else some (false, ()) :=
  (loop_fold (F := fun n i (_ : Unit) => m229_l2 N xs c b K n i) (step := fun _ x _ K => bif decide (x = 0) then K () else some (false, ())) (k := K) hl (fun n i s hi => by rw [m229_l2, bif_dec (by omega), chk_pos (by omega), getD_atI hi, bif_not]) (fun n i s hi => by rw [m229_l2, bif_decN (by omega)]) n () hn).trans (foldK_all xs 0)
theorem e229 (a : Val Y108) (h : ncon_pre a) : ∃ N, m229 N a = some (ncon a, ()) := ⟨List.length (α := Val (.int .i64)) a.1 + 1, by
  have h4 := (atom_in h).1
  rw [m229, t229 _ _ _ _ _ (by omega) _ (Nat.lt_succ_self _)]
  have e : ncon a = List.all (α := Int) a.1 (fun x => decide (x = 0)) := by
    unfold ncon hasVar
    rw [Bool.eq_iff_iff]
    simp only [Bool.not_eq_true', decide_eq_false_iff_not, List.all_eq_true, decide_eq_true_eq, Decidable.not_not, ne_eq]
    exact gL_zero
  rw [e]
  cases List.all (α := Int) a.1 (fun x => decide (x = 0)) <;> rfl⟩
theorem s229 : Sound Tryz.prog 229 g229 := sound_run (tt := tt) (Γ := Γ229) hT ok_nil hm (fn := Tryz.f229) Tryz.func229 (c := Tryz.f229.body.getD .skip) (by kernel_rfl) (by kernel_rfl) fun x hx => by
  obtain ⟨N, h⟩ := e229 x.1 hx
  exact ⟨T229 N, p229, noSem_ok _, tb229 N, (run229 N x.1).trans h⟩
def g232 : G := { ps := [i108], rs := [i4], dp := true, pre := fun _ => True, fn := fun x => (truA x.1, ()) }
theorem e232 (a : Val Y108) : ∃ N, m232 N a = some (truA a, ()) := ⟨0, by
  rw [m232, truA]
  by_cases h1 : (a.2.1 : Int) < 0 <;> by_cases h2 : (a.2.1 : Int) = 0 <;> simp [h1, h2]⟩
theorem s232 : Sound Tryz.prog 232 g232 := sound_run (tt := tt) (Γ := Γ232) hT ok_nil hm (fn := Tryz.f232) Tryz.func232 (c := Tryz.f232.body.getD .skip) (by kernel_rfl) (by kernel_rfl) fun x hx => by
  obtain ⟨N, h⟩ := e232 x.1
  exact ⟨T232 N, p232, noSem_ok _, tb232 N, (run232 N x.1).trans h⟩
def g319 : G := { ps := [i108], rs := [i3], dp := true, pre := fun x => gLv_pre x.1, fn := fun x => (gLv x.1, ()) }
noncomputable def m319 (N : Nat) (v0 : Val Y108) : Option (Vals [i3]) := chk (gcdL_pre (v0.1 : List (Val (.int .i64))) (0 : Int)) (some (((gcdL (v0.1 : List (Val (.int .i64))) (0 : Int)) : Int), ()))
def Γ319 : Gam := [(231, g231)]
theorem Γ319_231 : Gam.get Γ319 231 = some g231 := rfl
def tr319 : Nat → Tree := fun _ => .done
def lp319 : Nat → Nm := fun _ => ⟨[], [], false⟩
def jn319 : Nat → Option Jn := fun _ => none
def ex319 : Nat → Option Nm := fun _ => none
def rg319 : Nat → Option Nm := fun _ => none
theorem p319 : plansOk tr319 (Tryz.f319.body.getD .skip) = true := by kernel_rfl
def T319 (N : Nat) : Tab := { tr := tr319, lp := lp319, ex := ex319, rg := rg319, jn := jn319, fuel := N }
theorem T319_pins (N : Nat) : (T319 N).pins = false := rfl
theorem tb319 (N : Nat) : TbOk Tryz.prog (T319 N) := tb_none fun _ => rfl
theorem T319_tr (N : Nat) (i : Nat) : (T319 N).tr i = tr319 i := rfl
theorem T319_lp (N : Nat) (i : Nat) : (T319 N).lp i = lp319 i := rfl
theorem T319_ex (N : Nat) (i : Nat) : (T319 N).ex i = ex319 i := rfl
theorem T319_rg (N : Nat) (i : Nat) : (T319 N).rg i = rg319 i := rfl
theorem T319_jn (N : Nat) (i : Nat) : (T319 N).jn i = jn319 i := rfl
theorem T319_fuel (N : Nat) : (T319 N).fuel = N := rfl
theorem run319 (N : Nat) (v0 : Val Y108) : runT tt Γ319 (T319 N) (Tryz.f319.body.getD .skip) (retR tt true [i3] [.tmp 2]) (entryP [i108] 6 (v0, ())) = m319 N v0 := by
  rw [m319]; unfold Tryz.f319
  simp (maxSteps := 10000000) -implicitDefEqProofs [T319_tr, tr319, T319_lp, lp319, T319_ex, ex319, T319_rg, rg319, T319_jn, jn319, T319_fuel, T319_pins, Γ319_231, g231]
  try rfl
theorem e319 (a : Val Y108) (h : gLv_pre a) : ∃ N, m319 N a = some (gLv a, ()) := ⟨0, by
  rw [m319, chk_pos (show gcdL_pre a.1 0 from ⟨(okA_pre h).1, by unfold inI; omega, (okA_pre h).2⟩)]; rfl⟩
theorem s319 : Sound Tryz.prog 319 g319 := sound_run (tt := tt) (Γ := Γ319) hT (ok_cons s231 ok_nil) hm (fn := Tryz.f319) Tryz.func319 (c := Tryz.f319.body.getD .skip) (by kernel_rfl) (by kernel_rfl) fun x hx => by
  obtain ⟨N, h⟩ := e319 x.1 hx
  exact ⟨T319 N, p319, noSem_ok _, tb319 N, (run319 N x.1).trans h⟩
theorem max_gLv (a : Val Y108) : max (1 : Int) (gLv a) = gSv a := by unfold gLv gSv gS; omega
noncomputable def m291_l4 (N : Nat) (v2 : Int) (v3 : Int) (v5 : List (Val (.int .i64))) (v6 : Int) (v7 : Bool) (v8 : List (Val (.int .i64))) (v9 : Int) (v10 : Bool) (k0 : Unit → Option (Vals [i3])) : Nat → Int → Option (Vals [i3])
  | 0, _ => none
  | n + 1, v4 => bif (decide (v4 < (v5.length : Int))) then (bif (decide (v4 < (v8.length : Int))) then (chk (0 ≤ v4 ∧ v4 < (v5.length : Int)) (chk (v2 ≠ 0) (chk (0 ≤ v4 ∧ v4 < (v8.length : Int)) (chk (v3 ≠ 0) (bif (!(decide ((IntKind.i64.wrap (((v5.getD v4.toNat (dflt (.int .i64))) : Int).tdiv v2)) = (IntKind.i64.wrap (((v8.getD v4.toNat (dflt (.int .i64))) : Int).tdiv v3))))) then (bif (decide ((IntKind.i64.wrap (((v5.getD v4.toNat (dflt (.int .i64))) : Int).tdiv v2)) < (IntKind.i64.wrap (((v8.getD v4.toNat (dflt (.int .i64))) : Int).tdiv v3)))) then (some ((-1 : Int), ())) else (some ((1 : Int), ()))) else (m291_l4 N v2 v3 v5 v6 v7 v8 v9 v10 k0 n (IntKind.i64.wrap (v4 + (1 : Int))))))))) else (k0 ())) else (k0 ())
noncomputable def m291 (N : Nat) (v0 : Val Y108) (v1 : Val Y108) : Option (Vals [i3]) := chk (gLv_pre v0) (chk (gLv_pre v1) (m291_l4 N (max (1 : Int) ((gLv v0) : Int)) (max (1 : Int) ((gLv v1) : Int)) (v0.1 : List (Val (.int .i64))) (v0.2.1 : Int) (v0.2.2 : Bool) (v1.1 : List (Val (.int .i64))) (v1.2.1 : Int) (v1.2.2 : Bool) (fun (_ : Unit) => some ((0 : Int), ())) N (0 : Int)))
def Γ291 : Gam := [(319, g319)]
theorem Γ291_319 : Gam.get Γ291 319 = some g319 := rfl
def nl291_4 : Nm := ⟨[false, false, true, true, false, true, true, true], [], false⟩
theorem nl291_4_zero : nl291_4.zero = false := rfl
theorem nl291_4_fix : nl291_4.fix = [] := rfl
theorem nl291_4_keep : nl291_4.keep = [false, false, true, true, false, true, true, true] := rfl
def nx291_0 : Nm := ⟨[], [], false⟩
theorem nx291_0_zero : nx291_0.zero = false := rfl
theorem nx291_0_fix : nx291_0.fix = [] := rfl
theorem nx291_0_keep : nx291_0.keep = [] := rfl
def tr291 : Nat → Tree := fun _ => .done
def lp291 : Nat → Nm := fun i => if i = 4 then nl291_4 else ⟨[], [], false⟩
def jn291 : Nat → Option Jn := fun _ => none
def ex291 : Nat → Option Nm := fun i => if i = 0 then some nx291_0 else none
def rg291 : Nat → Option Nm := fun _ => none
theorem p291 : plansOk tr291 (Tryz.f291.body.getD .skip) = true := by kernel_rfl
def T291 (N : Nat) : Tab := { tr := tr291, lp := lp291, ex := ex291, rg := rg291, jn := jn291, fuel := N }
theorem T291_pins (N : Nat) : (T291 N).pins = false := rfl
theorem tb291 (N : Nat) : TbOk Tryz.prog (T291 N) := tb_none fun _ => rfl
theorem T291_tr (N : Nat) (i : Nat) : (T291 N).tr i = tr291 i := rfl
theorem T291_lp (N : Nat) (i : Nat) : (T291 N).lp i = lp291 i := rfl
theorem T291_ex (N : Nat) (i : Nat) : (T291 N).ex i = ex291 i := rfl
theorem T291_rg (N : Nat) (i : Nat) : (T291 N).rg i = rg291 i := rfl
theorem T291_jn (N : Nat) (i : Nat) : (T291 N).jn i = jn291 i := rfl
theorem T291_fuel (N : Nat) : (T291 N).fuel = N := rfl
noncomputable def c291_4 : Code := cut [true, true, true, false, true, true, true] (Tryz.f291.body.getD .skip)
theorem c291_4_at {N : Nat} {Q : X → St → Option (Vals [i3])} {e : List LV} {h : List Blk} : runT tt Γ291 (T291 N) c291_4 Q ⟨e, h⟩ = runT tt Γ291 (T291 N) (cut [true, true, true, false, true, true, true] (Tryz.f291.body.getD .skip)) Q ⟨e, h⟩ := rfl
theorem r291_l4 (N : Nat) (v2 : Int) (v3 : Int) (v5 : List (Val (.int .i64))) (v6 : Int) (v7 : Bool) (v8 : List (Val (.int .i64))) (v9 : Int) (v10 : Bool) {k0 : Unit → Option (Vals [i3])} {Q : X → St → Option (Vals [i3])} {c : Code} (hc : c = c291_4) (hret : ∀ st, Q .ret st = retS tt true [i3] [.tmp 4] st) (h0 : Q (.exit 0) ⟨[u, u, u, u, u, u, u, u, u, u, u, u, u, u, u, u, u, u, u, u, u, u, u, u, u, u, u, u, u, u, u, u, u, u, u, u, u, u, u, u, u, u, u, u, u, u, u, u, u, u], []⟩ = k0 ()) : ∀ (n : Nat) (v4 : Int), loopR (runT tt Γ291 (T291 N) c) false nl291_4 Q n ⟨[u, u, .one (.ptr 0 0 0), .one (.ptr 1 0 0), u, .one (.int .i64 v2), .one (.int .i64 v3), .one (.int .i64 v4), u, u, u, u, u, u, u, u, u, u, u, u, u, u, u, u, u, u, u, u, u, u, u, u, u, u, u, u, u, u, u, u, u, u, u, u, u, u, u, u, u, u], [.box [.sl 3 (.int .i64) v5 2, .int .i64 v6, .bool v7], .box [.sl 3 (.int .i64) v8 2, .int .i64 v9, .bool v10]]⟩ = m291_l4 N v2 v3 v5 v6 v7 v8 v9 v10 k0 n v4 := by
  subst hc; intro n; induction n with
  | zero => intros; rfl
  | succ n ih =>
    intro v4
    rw [loop_succ, c291_4_at, m291_l4]; unfold Tryz.f291
    simp (maxSteps := 10000000) -implicitDefEqProofs [T291_tr, tr291, T291_lp, lp291, T291_ex, ex291, T291_rg, rg291, T291_jn, jn291, T291_fuel, T291_pins, nl291_4_fix, nl291_4_keep, nl291_4_zero, nx291_0_fix, nx291_0_keep, nx291_0_zero, Γ291_319, g319, hret, h0, ih]
theorem run291 (N : Nat) (v0 : Val Y108) (v1 : Val Y108) : runT tt Γ291 (T291 N) (Tryz.f291.body.getD .skip) (retR tt true [i3] [.tmp 4]) (entryP [i108, i108] 50 (v0, v1, ())) = m291 N v0 v1 := by
  unfold Tryz.f291
  simp (maxSteps := 10000000) -implicitDefEqProofs [T291_tr, tr291, T291_lp, lp291, T291_ex, ex291, T291_rg, rg291, T291_jn, jn291, T291_fuel, T291_pins, nl291_4_fix, nl291_4_keep, nl291_4_zero, nx291_0_fix, nx291_0_keep, nx291_0_zero, Γ291_319, g319]
  rewrite [r291_l4 (k0 := (fun (_ : Unit) => some ((0 : Int), ()))) N _ _ _ _ _ _ _ _ ?_ ?_ ?_]
  · rewrite [m291]; first | rfl | simp (maxSteps := 10000000) -implicitDefEqProofs []
  · rfl
  · intro; simp only [seqR_ret, blockR_ret, retR_ret, retX_ret]
  · simp (maxSteps := 10000000) -implicitDefEqProofs [T291_tr, tr291, T291_lp, lp291, T291_ex, ex291, T291_rg, rg291, T291_jn, jn291, T291_fuel, T291_pins, nl291_4_fix, nl291_4_keep, nl291_4_zero, nx291_0_fix, nx291_0_keep, nx291_0_zero, Γ291_319, g319]
noncomputable def m292 (N : Nat) (v0 : Val Y108) (v1 : Val Y108) : Option (Vals [i4]) := chk (gLv_pre v1) (chk (gLv_pre v0) (bif (decide ((IntKind.i64.wrap ((v1.2.1 : Int) * (max (1 : Int) ((gLv v0) : Int)))) < (IntKind.i64.wrap ((v0.2.1 : Int) * (max (1 : Int) ((gLv v1) : Int)))))) then (some (true, ())) else (bif (decide ((IntKind.i64.wrap ((v0.2.1 : Int) * (max (1 : Int) ((gLv v1) : Int)))) = (IntKind.i64.wrap ((v1.2.1 : Int) * (max (1 : Int) ((gLv v0) : Int)))))) then (bif (v0.2.2 : Bool) then (some (true, ())) else (some ((!(v1.2.2 : Bool)), ()))) else (some (false, ())))))
def Γ292 : Gam := [(319, g319)]
theorem Γ292_319 : Gam.get Γ292 319 = some g319 := rfl
def nr292_1 : Nm := ⟨[false, false, true, true, false, true], [], false⟩
theorem nr292_1_zero : nr292_1.zero = false := rfl
theorem nr292_1_fix : nr292_1.fix = [] := rfl
theorem nr292_1_keep : nr292_1.keep = [false, false, true, true, false, true] := rfl
def nr292_2 : Nm := ⟨[false, false, true, true, false, true, true], [], false⟩
theorem nr292_2_zero : nr292_2.zero = false := rfl
theorem nr292_2_fix : nr292_2.fix = [] := rfl
theorem nr292_2_keep : nr292_2.keep = [false, false, true, true, false, true, true] := rfl
def tr292 : Nat → Tree := fun i => if i = 1 then .quiet 2 (.alt 0 (.alt 1 (.alt 3 (.alt 4 (.quiet 5 (.quiet 6 .done)) .stop) .stop) (.alt 3 (.alt 1 (.alt 4 (.quiet 5 (.quiet 6 .done)) .stop) (.alt 4 (.quiet 1 (.quiet 5 (.quiet 6 .done))) .stop)) .stop)) (.alt 3 (.alt 0 (.alt 1 (.alt 4 (.quiet 5 (.quiet 6 .done)) .stop) (.alt 4 (.quiet 1 (.quiet 5 (.quiet 6 .done))) .stop)) (.alt 4 (.quiet 0 (.quiet 1 (.quiet 5 (.quiet 6 .done)))) .stop)) .stop)) else if i = 2 then .quiet 2 (.alt 0 (.alt 1 (.alt 3 (.alt 4 (.quiet 5 (.quiet 6 .done)) .stop) .stop) (.alt 3 (.alt 1 (.alt 4 (.quiet 5 (.quiet 6 .done)) .stop) (.alt 4 (.quiet 1 (.quiet 5 (.quiet 6 .done))) .stop)) .stop)) (.alt 3 (.alt 0 (.alt 1 (.alt 4 (.quiet 5 (.quiet 6 .done)) .stop) (.alt 4 (.quiet 1 (.quiet 5 (.quiet 6 .done))) .stop)) (.alt 4 (.quiet 0 (.quiet 1 (.quiet 5 (.quiet 6 .done)))) .stop)) .stop)) else .done
def lp292 : Nat → Nm := fun _ => ⟨[], [], false⟩
def jn292 : Nat → Option Jn := fun _ => none
def ex292 : Nat → Option Nm := fun _ => none
def rg292 : Nat → Option Nm := fun i => if i = 1 then some nr292_1 else if i = 2 then some nr292_2 else none
theorem p292 : plansOk tr292 (Tryz.f292.body.getD .skip) = true := by kernel_rfl
def T292 (N : Nat) : Tab := { tr := tr292, lp := lp292, ex := ex292, rg := rg292, jn := jn292, fuel := N }
theorem T292_pins (N : Nat) : (T292 N).pins = false := rfl
theorem tb292 (N : Nat) : TbOk Tryz.prog (T292 N) := tb_none fun _ => rfl
theorem T292_tr (N : Nat) (i : Nat) : (T292 N).tr i = tr292 i := rfl
theorem T292_lp (N : Nat) (i : Nat) : (T292 N).lp i = lp292 i := rfl
theorem T292_ex (N : Nat) (i : Nat) : (T292 N).ex i = ex292 i := rfl
theorem T292_rg (N : Nat) (i : Nat) : (T292 N).rg i = rg292 i := rfl
theorem T292_jn (N : Nat) (i : Nat) : (T292 N).jn i = jn292 i := rfl
theorem T292_fuel (N : Nat) : (T292 N).fuel = N := rfl
theorem run292 (N : Nat) (v0 : Val Y108) (v1 : Val Y108) : runT tt Γ292 (T292 N) (Tryz.f292.body.getD .skip) (retR tt true [i4] [.tmp 4]) (entryP [i108, i108] 36 (v0, v1, ())) = m292 N v0 v1 := by
  rw [m292]; unfold Tryz.f292
  simp (maxSteps := 10000000) -implicitDefEqProofs [T292_tr, tr292, T292_lp, lp292, T292_ex, ex292, T292_rg, rg292, T292_jn, jn292, T292_fuel, T292_pins, nr292_1_fix, nr292_1_keep, nr292_1_zero, nr292_2_fix, nr292_2_keep, nr292_2_zero, Γ292_319, g319]
  try rfl
noncomputable def m234 (N : Nat) (v0 : Val Y108) : Option (Vals [i108]) := chk (([] : List (Val (.int .i64))).length + (v0.1 : List (Val (.int .i64))).length ≤ 1048576) (some (((([] : List (Val (.int .i64))) ++ (v0.1 : List (Val (.int .i64)))), (v0.2.1 : Int), (v0.2.2 : Bool)), ()))
def Γ234 : Gam := []
def tr234 : Nat → Tree := fun i => if i = 1 then .keep 1 (.keep 2 (.keep 4 (.keep 5 (.keep 6 (.keep 7 (.alt 0 (.alt 3 (.quiet 8 (.alt 9 .done .stop)) .stop) .stop)))))) else .done
def lp234 : Nat → Nm := fun _ => ⟨[], [], false⟩
def jn234 : Nat → Option Jn := fun _ => none
def ex234 : Nat → Option Nm := fun _ => none
def rg234 : Nat → Option Nm := fun _ => none
theorem p234 : plansOk tr234 (Tryz.f234.body.getD .skip) = true := by kernel_rfl
def T234 (N : Nat) : Tab := { tr := tr234, lp := lp234, ex := ex234, rg := rg234, jn := jn234, fuel := N }
theorem T234_pins (N : Nat) : (T234 N).pins = false := rfl
theorem tb234 (N : Nat) : TbOk Tryz.prog (T234 N) := tb_none fun _ => rfl
theorem T234_tr (N : Nat) (i : Nat) : (T234 N).tr i = tr234 i := rfl
theorem T234_lp (N : Nat) (i : Nat) : (T234 N).lp i = lp234 i := rfl
theorem T234_ex (N : Nat) (i : Nat) : (T234 N).ex i = ex234 i := rfl
theorem T234_rg (N : Nat) (i : Nat) : (T234 N).rg i = rg234 i := rfl
theorem T234_jn (N : Nat) (i : Nat) : (T234 N).jn i = jn234 i := rfl
theorem T234_fuel (N : Nat) : (T234 N).fuel = N := rfl
theorem run234 (N : Nat) (v0 : Val Y108) : runT tt Γ234 (T234 N) (Tryz.f234.body.getD .skip) (retR tt true [i108] [.cell 2 108]) (entryP [i108] 12 (v0, ())) = m234 N v0 := by
  rw [m234]; unfold Tryz.f234
  simp (maxSteps := 10000000) -implicitDefEqProofs [T234_tr, tr234, T234_lp, lp234, T234_ex, ex234, T234_rg, rg234, T234_jn, jn234, T234_fuel, T234_pins]
  try rfl
noncomputable def m209 (N : Nat) (v0 : Int) : Option (Vals [i33]) := chk (0 ≤ v0 ∧ v0 ≤ v0 ∧ v0 ≤ 1048576) (some ((v0, ([((List.replicate v0.toNat (dflt (.int .i64))), (1 : Int), false)] : List (Val Y108))), ()))
def Γ209 : Gam := []
def tr209 : Nat → Tree := fun _ => .done
def lp209 : Nat → Nm := fun _ => ⟨[], [], false⟩
def jn209 : Nat → Option Jn := fun _ => none
def ex209 : Nat → Option Nm := fun _ => none
def rg209 : Nat → Option Nm := fun _ => none
theorem p209 : plansOk tr209 (Tryz.f209.body.getD .skip) = true := by kernel_rfl
def T209 (N : Nat) : Tab := { tr := tr209, lp := lp209, ex := ex209, rg := rg209, jn := jn209, fuel := N }
theorem T209_pins (N : Nat) : (T209 N).pins = false := rfl
theorem tb209 (N : Nat) : TbOk Tryz.prog (T209 N) := tb_none fun _ => rfl
theorem T209_tr (N : Nat) (i : Nat) : (T209 N).tr i = tr209 i := rfl
theorem T209_lp (N : Nat) (i : Nat) : (T209 N).lp i = lp209 i := rfl
theorem T209_ex (N : Nat) (i : Nat) : (T209 N).ex i = ex209 i := rfl
theorem T209_rg (N : Nat) (i : Nat) : (T209 N).rg i = rg209 i := rfl
theorem T209_jn (N : Nat) (i : Nat) : (T209 N).jn i = jn209 i := rfl
theorem T209_fuel (N : Nat) : (T209 N).fuel = N := rfl
theorem run209 (N : Nat) (v0 : Int) : runT tt Γ209 (T209 N) (Tryz.f209.body.getD .skip) (retR tt true [i33] [.cell 2 33]) (entryP [i3] 9 (v0, ())) = m209 N v0 := by
  rw [m209]; unfold Tryz.f209
  simp (maxSteps := 10000000) -implicitDefEqProofs [T209_tr, tr209, T209_lp, lp209, T209_ex, ex209, T209_rg, rg209, T209_jn, jn209, T209_fuel, T209_pins]
  try rfl
def g291 : G := { ps := [i108, i108], rs := [i3], dp := true, pre := fun x => wayV_pre x.1 x.2.1, fn := fun x => (wayV x.1 x.2.1, ()) }
theorem t291 (N : Nat) (g h : Nat) (hg : (g : Int) ≠ 0) (hh : (h : Int) ≠ 0) (xs ys : List (Val (.int .i64))) (hl : xs.length = ys.length) (h4 : xs.length ≤ 1048576) (hx : ∀ x ∈ xs, inI x) (hy : ∀ x ∈ ys, inI x) (c c' : Int) (s s' : Bool) : ∀ (k i : Nat), xs.length - i = k → ∀ n, k < n →
    m291_l4 N g h xs c s ys c' s' (fun _ => some ((0 : Int), ())) n i = some (lexI ((List.drop (α := Int) i xs).map fun x => x.tdiv (g : Int)) ((List.drop (α := Int) i ys).map fun x => x.tdiv (h : Int)), ())
  | 0, i, hi, n + 1, _ => by
    rw [m291_l4, bif_decN (by omega), List.drop_eq_nil_of_le (by omega), List.drop_eq_nil_of_le (by omega)]
    rfl
  | k + 1, i, hi, n + 1, hn => by
    have h1 : i < xs.length := by omega
    have h2 : i < ys.length := by omega
    rw [m291_l4, bif_dec (by omega), bif_dec (by omega), chk_pos (by omega), chk_pos hg, chk_pos (by omega), chk_pos hh, getD_atI h1, getD_atI h2, tdiv_in (hx _ (List.getElem_mem h1)), tdiv_in (hy _ (List.getElem_mem h2)), wrap_succ h1 h4]
    rw [List.drop_eq_getElem_cons h1, List.drop_eq_getElem_cons h2, List.map_cons, List.map_cons, lexI]
    generalize hp : Int.tdiv xs[i] (g : Int) = p
    generalize hq : Int.tdiv ys[i] (h : Int) = q
    by_cases a1 : p < q
    · have : ¬ p = q := by omega
      simp [a1, this]
    · by_cases a2 : q < p
      · have : ¬ p = q := by omega
        simp [a1, a2, this]
      · have : p = q := by omega
        rw [if_neg a1, if_neg a2, bif_not, bif_dec this]
        exact t291 N g h hg hh xs ys hl h4 hx hy c c' s s' k (i + 1) (by omega) n (by omega)
theorem e291 (a b : Val Y108) (h : wayV_pre a b) : ∃ N, m291 N a b = some (wayV a b, ()) := ⟨List.length (α := Val (.int .i64)) a.1 + 1, by
  obtain ⟨ha, hb, hl⟩ := h
  rw [m291, chk_pos (show gLv_pre a from ha), chk_pos (show gLv_pre b from hb), max_gLv, max_gLv]
  have := t291 (List.length (α := Val (.int .i64)) a.1 + 1) (gS (atm a)) (gS (atm b)) (by have := gS_pos (atm a); omega) (by have := gS_pos (atm b); omega) a.1 b.1 hl (by have := (atom_in ha).1; omega) (okA_in ha) (okA_in hb) a.2.1 b.2.1 a.2.2 b.2.2 _ 0 rfl _ (Nat.lt_succ_self _)
  simp only [List.drop_zero] at this
  exact this⟩
theorem s291 : Sound Tryz.prog 291 g291 := sound_run (tt := tt) (Γ := Γ291) hT (ok_cons s319 ok_nil) hm (fn := Tryz.f291) Tryz.func291 (c := Tryz.f291.body.getD .skip) (by kernel_rfl) (by kernel_rfl) fun x hx => by
  obtain ⟨N, h⟩ := e291 x.1 x.2.1 hx
  exact ⟨T291 N, p291, noSem_ok _, tb291 N, (run291 N x.1 x.2.1).trans h⟩
def g292 : G := { ps := [i108, i108], rs := [i4], dp := true, pre := fun x => strV_pre x.1 x.2.1, fn := fun x => (strV x.1 x.2.1, ()) }
theorem e292 (a b : Val Y108) (h : strV_pre a b) : ∃ N, m292 N a b = some (strV a b, ()) := ⟨0, by
  obtain ⟨ha, hb, hw⟩ := h
  have h1 := okA_c ha
  have h2 := okA_c hb
  have g1 := gS_le ha
  have g2 := gS_le hb
  have p1 := gS_pos (atm a)
  have p2 := gS_pos (atm b)
  rw [m292, chk_pos (show gLv_pre b from hb), chk_pos (show gLv_pre a from ha), max_gLv, max_gLv, mul_in h1 ⟨by unfold gSv; omega, g2⟩, mul_in h2 ⟨by unfold gSv; omega, g1⟩]
  have e : strV a b = (decide ((b.2.1 : Int) * gSv a < a.2.1 * gSv b) || (decide ((a.2.1 : Int) * gSv b = b.2.1 * gSv a) && (a.2.2 || !b.2.2))) := by
    unfold strV cmpA
    rw [if_pos hw]
    have e1 : strA (atm b) (atm a) = sgI (b.2.1 * gSv a - a.2.1 * gSv b) := rfl
    rw [e1]
    exact str_plain _ _ _ _
  rw [e]
  by_cases c1 : (b.2.1 : Int) * gSv a < a.2.1 * gSv b
  · simp [c1]
  · by_cases c2 : (a.2.1 : Int) * gSv b = b.2.1 * gSv a
    · rw [bif_decN c1, bif_dec c2, decide_eq_false c1, decide_eq_true c2, Bool.false_or, Bool.true_and]
      cases a.2.2 <;> rfl
    · simp [c1, c2]⟩
theorem s292 : Sound Tryz.prog 292 g292 := sound_run (tt := tt) (Γ := Γ292) hT (ok_cons s319 ok_nil) hm (fn := Tryz.f292) Tryz.func292 (c := Tryz.f292.body.getD .skip) (by kernel_rfl) (by kernel_rfl) fun x hx => by
  obtain ⟨N, h⟩ := e292 x.1 x.2.1 hx
  exact ⟨T292 N, p292, noSem_ok _, tb292 N, (run292 N x.1 x.2.1).trans h⟩
def g234 : G := { ps := [i108], rs := [i108], dp := true, pre := fun x => idA_pre x.1, fn := fun x => (idA x.1, ()) }
def g209 : G := { ps := [i3], rs := [i33], dp := true, pre := fun x => noneC_pre x.1, fn := fun x => (noneC x.1, ()) }
theorem e234 (a : Val Y108) (h : idA_pre a) : ∃ N, m234 N a = some (idA a, ()) := ⟨0, by
  rw [m234, chk_pos (by have h : List.length (α := Val (.int .i64)) a.1 ≤ 1048576 := h; simpa using h)]; rfl⟩
theorem e209 (d : Int) (h : noneC_pre d) : ∃ N, m209 N d = some (noneC d, ()) := ⟨0, by
  rw [m209, chk_pos ⟨h.1, Int.le_refl _, h.2⟩]; rfl⟩
theorem s234 : Sound Tryz.prog 234 g234 := sound_run (tt := tt) (Γ := Γ234) hT ok_nil hm (fn := Tryz.f234) Tryz.func234 (c := Tryz.f234.body.getD .skip) (by kernel_rfl) (by kernel_rfl) fun x hx => by
  obtain ⟨N, h⟩ := e234 x.1 hx
  exact ⟨T234 N, p234, noSem_ok _, tb234 N, (run234 N x.1).trans h⟩
theorem s209 : Sound Tryz.prog 209 g209 := sound_run (tt := tt) (Γ := Γ209) hT ok_nil hm (fn := Tryz.f209) Tryz.func209 (c := Tryz.f209.body.getD .skip) (by kernel_rfl) (by kernel_rfl) fun x hx => by
  obtain ⟨N, h⟩ := e209 x.1 hx
  exact ⟨T209 N, p209, noSem_ok _, tb209 N, (run209 N x.1).trans h⟩
noncomputable def m233_l2 (N : Nat) (v2 : List (Val Y108)) (v4 : List (Val (.int .i64))) (v5 : Int) (v6 : Bool) (k0 : Int → Option (Vals [i31])) : Nat → Int → Option (Vals [i31])
  | 0, _ => none
  | n + 1, v3 => bif (decide (v3 < (v2.length : Int))) then (chk (0 ≤ v3 ∧ v3 < (v2.length : Int)) (chk (wayV_pre (v2.getD v3.toNat (dflt Y108)) (v4, v5, v6)) (bif (decide (((wayV (v2.getD v3.toNat (dflt Y108)) (v4, v5, v6)) : Int) < (0 : Int))) then (m233_l2 N v2 v4 v5 v6 k0 n (IntKind.i64.wrap (v3 + (1 : Int)))) else (k0 v3)))) else (k0 v3)
noncomputable def m233 (N : Nat) (v0 : List (Val Y108)) (v1 : Val Y108) : Option (Vals [i31]) := m233_l2 N v0 (v1.1 : List (Val (.int .i64))) (v1.2.1 : Int) (v1.2.2 : Bool) (fun (v8 : Int) => bif (decide (v8 < (v0.length : Int))) then (chk (0 ≤ v8 ∧ v8 < (v0.length : Int)) (chk (wayV_pre (v0.getD v8.toNat (dflt Y108)) v1) (bif (decide (((wayV (v0.getD v8.toNat (dflt Y108)) v1) : Int) = (0 : Int))) then (chk (0 ≤ v8 ∧ v8 < (v0.length : Int)) (chk (strV_pre (v0.getD v8.toNat (dflt Y108)) v1) (bif ((strV (v0.getD v8.toNat (dflt Y108)) v1) : Bool) then (some (v0, ())) else (chk (([] : List (Val Y108)).length + v0.length ≤ 1048576) (chk (0 ≤ v8 ∧ v8 < ((([] : List (Val Y108)) ++ v0).length : Int)) (chk (v8.toNat < (([] : List (Val Y108)) ++ v0).length) (some (((([] : List (Val Y108)) ++ v0).set v8.toNat v1), ())))))))) else (chk (0 ≤ (0 : Int) ∧ (0 : Int) ≤ v8 ∧ v8 ≤ (v0.length : Int)) (chk (0 ≤ v8 ∧ v8 ≤ (v0.length : Int) ∧ (v0.length : Int) ≤ (v0.length : Int)) (chk (([] : List (Val Y108)).length + ((v0.take v8.toNat).drop (0 : Int).toNat).length ≤ 1048576) (chk ((([] : List (Val Y108)) ++ ((v0.take v8.toNat).drop (0 : Int).toNat)).length + ([v1] : List (Val Y108)).length ≤ 1048576) (chk (((([] : List (Val Y108)) ++ ((v0.take v8.toNat).drop (0 : Int).toNat)) ++ ([v1] : List (Val Y108))).length + ((v0.take (v0.length : Int).toNat).drop v8.toNat).length ≤ 1048576) (some ((((([] : List (Val Y108)) ++ ((v0.take v8.toNat).drop (0 : Int).toNat)) ++ ([v1] : List (Val Y108))) ++ ((v0.take (v0.length : Int).toNat).drop v8.toNat)), ())))))))))) else (chk (0 ≤ (0 : Int) ∧ (0 : Int) ≤ v8 ∧ v8 ≤ (v0.length : Int)) (chk (0 ≤ v8 ∧ v8 ≤ (v0.length : Int) ∧ (v0.length : Int) ≤ (v0.length : Int)) (chk (([] : List (Val Y108)).length + ((v0.take v8.toNat).drop (0 : Int).toNat).length ≤ 1048576) (chk ((([] : List (Val Y108)) ++ ((v0.take v8.toNat).drop (0 : Int).toNat)).length + ([v1] : List (Val Y108)).length ≤ 1048576) (chk (((([] : List (Val Y108)) ++ ((v0.take v8.toNat).drop (0 : Int).toNat)) ++ ([v1] : List (Val Y108))).length + ((v0.take (v0.length : Int).toNat).drop v8.toNat).length ≤ 1048576) (some ((((([] : List (Val Y108)) ++ ((v0.take v8.toNat).drop (0 : Int).toNat)) ++ ([v1] : List (Val Y108))) ++ ((v0.take (v0.length : Int).toNat).drop v8.toNat)), ())))))))) N (0 : Int)
def Γ233 : Gam := [(291, g291), (292, g292)]
theorem Γ233_291 : Gam.get Γ233 291 = some g291 := rfl
theorem Γ233_292 : Gam.get Γ233 292 = some g292 := rfl
def nl233_2 : Nm := ⟨[true, false, false, true, false, true], [], false⟩
theorem nl233_2_zero : nl233_2.zero = false := rfl
theorem nl233_2_fix : nl233_2.fix = [] := rfl
theorem nl233_2_keep : nl233_2.keep = [true, false, false, true, false, true] := rfl
def nx233_0 : Nm := ⟨[true, false, false, true, false, true], [], false⟩
theorem nx233_0_zero : nx233_0.zero = false := rfl
theorem nx233_0_fix : nx233_0.fix = [] := rfl
theorem nx233_0_keep : nx233_0.keep = [true, false, false, true, false, true] := rfl
def nr233_10 : Nm := ⟨[false, false, false, false, true], [], false⟩
theorem nr233_10_zero : nr233_10.zero = false := rfl
theorem nr233_10_fix : nr233_10.fix = [] := rfl
theorem nr233_10_keep : nr233_10.keep = [false, false, false, false, true] := rfl
def tr233 : Nat → Tree := fun i => if i = 2 then .quiet 0 (.quiet 1 (.quiet 2 (.quiet 3 (.quiet 4 (.quiet 5 (.quiet 6 (.quiet 7 (.quiet 8 (.quiet 9 (.alt 10 (.quiet 11 (.quiet 12 .done)) .stop)))))))))) else if i = 4 then .quiet 0 (.quiet 1 (.quiet 2 (.quiet 3 (.quiet 4 (.quiet 5 (.quiet 6 (.quiet 7 (.quiet 8 (.quiet 9 (.alt 10 (.quiet 11 (.quiet 12 .done)) .stop)))))))))) else if i = 5 then .quiet 0 (.quiet 1 (.quiet 2 (.quiet 3 (.quiet 4 (.alt 5 .done .stop))))) else if i = 10 then .first 1 (.first 2 (.first 8 (.first 9 (.pure 3 (.pure 10 (.alt 0 (.alt 4 (.quiet 5 (.alt 6 (.alt 7 (.alt 11 (.quiet 12 .done) .stop) .stop) .stop)) (.alt 5 (.alt 4 (.alt 6 (.alt 7 (.alt 11 (.quiet 12 .done) .stop) .stop) .stop) (.alt 6 (.alt 4 (.alt 7 (.alt 11 (.quiet 12 .done) .stop) .stop) .stop) .stop)) .stop)) (.alt 5 (.alt 0 (.alt 4 (.alt 6 (.alt 7 (.alt 11 (.quiet 12 .done) .stop) .stop) .stop) (.alt 6 (.alt 4 (.alt 7 (.alt 11 (.quiet 12 .done) .stop) .stop) .stop) .stop)) (.alt 6 (.alt 0 (.alt 4 (.alt 7 (.alt 11 (.quiet 12 .done) .stop) .stop) .stop) .stop) .stop)) .stop))))))) else .done
def lp233 : Nat → Nm := fun i => if i = 2 then nl233_2 else ⟨[], [], false⟩
def jn233 : Nat → Option Jn := fun _ => none
def ex233 : Nat → Option Nm := fun i => if i = 0 then some nx233_0 else none
def rg233 : Nat → Option Nm := fun i => if i = 10 then some nr233_10 else none
theorem p233 : plansOk tr233 (Tryz.f233.body.getD .skip) = true := by kernel_rfl
def T233 (N : Nat) : Tab := { tr := tr233, lp := lp233, ex := ex233, rg := rg233, jn := jn233, fuel := N }
theorem T233_pins (N : Nat) : (T233 N).pins = false := rfl
theorem tb233 (N : Nat) : TbOk Tryz.prog (T233 N) := tb_none fun _ => rfl
theorem T233_tr (N : Nat) (i : Nat) : (T233 N).tr i = tr233 i := rfl
theorem T233_lp (N : Nat) (i : Nat) : (T233 N).lp i = lp233 i := rfl
theorem T233_ex (N : Nat) (i : Nat) : (T233 N).ex i = ex233 i := rfl
theorem T233_rg (N : Nat) (i : Nat) : (T233 N).rg i = rg233 i := rfl
theorem T233_jn (N : Nat) (i : Nat) : (T233 N).jn i = jn233 i := rfl
theorem T233_fuel (N : Nat) : (T233 N).fuel = N := rfl
noncomputable def c233_2 : Code := cut [true, true, false, true, true] (Tryz.f233.body.getD .skip)
theorem c233_2_at {N : Nat} {Q : X → St → Option (Vals [i31])} {e : List LV} {h : List Blk} : runT tt Γ233 (T233 N) c233_2 Q ⟨e, h⟩ = runT tt Γ233 (T233 N) (cut [true, true, false, true, true] (Tryz.f233.body.getD .skip)) Q ⟨e, h⟩ := rfl
theorem r233_l2 (N : Nat) (v2 : List (Val Y108)) (v4 : List (Val (.int .i64))) (v5 : Int) (v6 : Bool) {k0 : Int → Option (Vals [i31])} {Q : X → St → Option (Vals [i31])} {c : Code} (hc : c = c233_2) (hret : ∀ st, Q .ret st = retS tt false [i31] [.tmp 4] st) (h0 : ∀ (v7 : Int), Q (.exit 0) ⟨[.one (.sl 108 Y108 v2 1), u, u, .one (.ptr 0 0 0), u, .one (.int .i64 v7), u, u, u, u, u, u, u, u, u, u, u, u, u, u, u, u, u, u, u, u, u, u, u, u, u, u, u, u, u, u, u, u, u, u, u, u, u, u, u, u, u, u, u, u, u, u, u, u, u, u, u, u, u, u, u, u], [.box [.sl 3 (.int .i64) v4 1, .int .i64 v5, .bool v6]]⟩ = k0 v7) : ∀ (n : Nat) (v3 : Int), loopR (runT tt Γ233 (T233 N) c) false nl233_2 Q n ⟨[.one (.sl 108 Y108 v2 1), u, u, .one (.ptr 0 0 0), u, .one (.int .i64 v3), u, u, u, u, u, u, u, u, u, u, u, u, u, u, u, u, u, u, u, u, u, u, u, u, u, u, u, u, u, u, u, u, u, u, u, u, u, u, u, u, u, u, u, u, u, u, u, u, u, u, u, u, u, u, u, u], [.box [.sl 3 (.int .i64) v4 1, .int .i64 v5, .bool v6]]⟩ = m233_l2 N v2 v4 v5 v6 k0 n v3 := by
  subst hc; intro n; induction n with
  | zero => intros; rfl
  | succ n ih =>
    intro v3
    rw [loop_succ, c233_2_at, m233_l2]; unfold Tryz.f233
    simp (maxSteps := 10000000) -implicitDefEqProofs [T233_tr, tr233, T233_lp, lp233, T233_ex, ex233, T233_rg, rg233, T233_jn, jn233, T233_fuel, T233_pins, nl233_2_fix, nl233_2_keep, nl233_2_zero, nx233_0_fix, nx233_0_keep, nx233_0_zero, nr233_10_fix, nr233_10_keep, nr233_10_zero, Γ233_291, Γ233_292, g291, g292, hret, h0, ih]
theorem run233 (N : Nat) (v0 : List (Val Y108)) (v1 : Val Y108) : runT tt Γ233 (T233 N) (Tryz.f233.body.getD .skip) (retR tt false [i31] [.tmp 4]) (entryP [i31, i108] 62 (v0, v1, ())) = m233 N v0 v1 := by
  unfold Tryz.f233
  simp (maxSteps := 10000000) -implicitDefEqProofs [T233_tr, tr233, T233_lp, lp233, T233_ex, ex233, T233_rg, rg233, T233_jn, jn233, T233_fuel, T233_pins, nl233_2_fix, nl233_2_keep, nl233_2_zero, nx233_0_fix, nx233_0_keep, nx233_0_zero, nr233_10_fix, nr233_10_keep, nr233_10_zero, Γ233_291, Γ233_292, g291, g292]
  rewrite [r233_l2 (k0 := (fun (v8 : Int) => bif (decide (v8 < (v0.length : Int))) then (chk (0 ≤ v8 ∧ v8 < (v0.length : Int)) (chk (wayV_pre (v0.getD v8.toNat (dflt Y108)) v1) (bif (decide (((wayV (v0.getD v8.toNat (dflt Y108)) v1) : Int) = (0 : Int))) then (chk (0 ≤ v8 ∧ v8 < (v0.length : Int)) (chk (strV_pre (v0.getD v8.toNat (dflt Y108)) v1) (bif ((strV (v0.getD v8.toNat (dflt Y108)) v1) : Bool) then (some (v0, ())) else (chk (([] : List (Val Y108)).length + v0.length ≤ 1048576) (chk (0 ≤ v8 ∧ v8 < ((([] : List (Val Y108)) ++ v0).length : Int)) (chk (v8.toNat < (([] : List (Val Y108)) ++ v0).length) (some (((([] : List (Val Y108)) ++ v0).set v8.toNat v1), ())))))))) else (chk (0 ≤ (0 : Int) ∧ (0 : Int) ≤ v8 ∧ v8 ≤ (v0.length : Int)) (chk (0 ≤ v8 ∧ v8 ≤ (v0.length : Int) ∧ (v0.length : Int) ≤ (v0.length : Int)) (chk (([] : List (Val Y108)).length + ((v0.take v8.toNat).drop (0 : Int).toNat).length ≤ 1048576) (chk ((([] : List (Val Y108)) ++ ((v0.take v8.toNat).drop (0 : Int).toNat)).length + ([v1] : List (Val Y108)).length ≤ 1048576) (chk (((([] : List (Val Y108)) ++ ((v0.take v8.toNat).drop (0 : Int).toNat)) ++ ([v1] : List (Val Y108))).length + ((v0.take (v0.length : Int).toNat).drop v8.toNat).length ≤ 1048576) (some ((((([] : List (Val Y108)) ++ ((v0.take v8.toNat).drop (0 : Int).toNat)) ++ ([v1] : List (Val Y108))) ++ ((v0.take (v0.length : Int).toNat).drop v8.toNat)), ())))))))))) else (chk (0 ≤ (0 : Int) ∧ (0 : Int) ≤ v8 ∧ v8 ≤ (v0.length : Int)) (chk (0 ≤ v8 ∧ v8 ≤ (v0.length : Int) ∧ (v0.length : Int) ≤ (v0.length : Int)) (chk (([] : List (Val Y108)).length + ((v0.take v8.toNat).drop (0 : Int).toNat).length ≤ 1048576) (chk ((([] : List (Val Y108)) ++ ((v0.take v8.toNat).drop (0 : Int).toNat)).length + ([v1] : List (Val Y108)).length ≤ 1048576) (chk (((([] : List (Val Y108)) ++ ((v0.take v8.toNat).drop (0 : Int).toNat)) ++ ([v1] : List (Val Y108))).length + ((v0.take (v0.length : Int).toNat).drop v8.toNat).length ≤ 1048576) (some ((((([] : List (Val Y108)) ++ ((v0.take v8.toNat).drop (0 : Int).toNat)) ++ ([v1] : List (Val Y108))) ++ ((v0.take (v0.length : Int).toNat).drop v8.toNat)), ()))))))))) N _ _ _ _ ?_ ?_ ?_]
  · rewrite [m233]; first | rfl | simp (maxSteps := 10000000) -implicitDefEqProofs []
  · rfl
  · intro; simp only [seqR_ret, blockR_ret, retR_ret, retX_ret]
  · intro v8; simp (maxSteps := 10000000) -implicitDefEqProofs [T233_tr, tr233, T233_lp, lp233, T233_ex, ex233, T233_rg, rg233, T233_jn, jn233, T233_fuel, T233_pins, nl233_2_fix, nl233_2_keep, nl233_2_zero, nx233_0_fix, nx233_0_keep, nx233_0_zero, nr233_10_fix, nr233_10_keep, nr233_10_zero, Γ233_291, Γ233_292, g291, g292]
def g233 : G := { ps := [i31, i108], rs := [i31], dp := false, pre := fun x => putV_pre x.1 x.2.1, fn := fun x => (putV x.1 x.2.1, ()) }
def lowN (l : List (Val Y108)) (a : Val Y108) : Nat := (l.takeWhile fun b => decide (wayV b a < 0)).length
theorem lowN_le (l : List (Val Y108)) (a : Val Y108) : lowN l a ≤ l.length := (List.takeWhile_sublist _).length_le
theorem putA_lowN : ∀ (l : List (Val Y108)) (a : Val Y108), putA l a = if h : lowN l a < l.length then (if wayV l[lowN l a] a = 0 then (if cmpA (atm a) (atm l[lowN l a]) ≤ 0 then l else l.set (lowN l a) a) else l.take (lowN l a) ++ [a] ++ l.drop (lowN l a)) else l.take (lowN l a) ++ [a] ++ l.drop (lowN l a)
  | [], a => rfl
  | b :: r, a => by
    have ih := putA_lowN r a
    by_cases h1 : wayV b a < 0
    · have e : lowN (b :: r) a = lowN r a + 1 := by simp [lowN, List.takeWhile, h1]
      have h1' : way b a < 0 := h1
      simp only [putA, h1', if_true, e, List.length_cons, Nat.add_lt_add_iff_right, List.getElem_cons_succ, List.set_cons_succ, List.take_succ_cons, List.drop_succ_cons, List.cons_append]
      rw [ih]
      split
      · split
        · split <;> rfl
        · rfl
      · rfl
    · have e : lowN (b :: r) a = 0 := by simp [lowN, List.takeWhile, h1]
      have h1' : ¬ way b a < 0 := h1
      simp only [putA, h1', if_false, e, List.length_cons, Nat.zero_lt_succ, dif_pos, List.getElem_cons_zero, List.set_cons_zero, List.take_zero, List.drop_zero, List.nil_append]
      by_cases h2 : way b a = 0
      · rw [if_pos h2, if_pos (show wayV b a = 0 from h2)]
      · rw [if_neg h2, if_neg (show ¬ wayV b a = 0 from h2)]; rfl
theorem t233 (N : Nat) (l : List (Val Y108)) (a : Val Y108) (h : putV_pre l a) (K : Int → Option (Vals [i31])) : ∀ (k i : Nat), l.length - i = k → i ≤ l.length → ∀ n, k < n →
    m233_l2 N l a.1 a.2.1 a.2.2 K n i = K ((i + lowN (l.drop i) a : Nat) : Int)
  | 0, i, hi, hle, n + 1, _ => by
    rw [m233_l2, bif_decN (by omega), List.drop_eq_nil_of_le (by omega)]
    rfl
  | k + 1, i, hi, hle, n + 1, hn => by
    have h1 : i < l.length := by omega
    obtain ⟨hl, ha, hb⟩ := h
    have hb1 := hb _ (List.getElem_mem h1)
    rw [m233_l2, bif_dec (by omega), chk_pos (by omega), getD_atI h1, chk_pos (show wayV_pre _ _ from ⟨hb1.1, ha, hb1.2⟩), wrap_succ h1 (by omega)]
    rw [drop_at h1]
    by_cases h2 : wayV l[i] a < 0
    · have e : lowN (l[i] :: l.drop (i + 1)) a = lowN (l.drop (i + 1)) a + 1 := by simp [lowN, List.takeWhile, h2]
      rw [bif_dec (show wayV l[i] (a.1, a.2.1, a.2.2) < 0 from h2), e, t233 N l a ⟨hl, ha, hb⟩ K k (i + 1) (by omega) (by omega) n (by omega)]
      congr 2; omega
    · have e : lowN (l[i] :: l.drop (i + 1)) a = 0 := by simp [lowN, List.takeWhile, h2]
      rw [bif_decN (show ¬ wayV l[i] (a.1, a.2.1, a.2.2) < 0 from h2), e]
      rfl
theorem e233 (l : List (Val Y108)) (a : Val Y108) (h : putV_pre l a) : ∃ N, m233 N l a = some (putV l a, ()) := ⟨l.length + 1, by
  have t := t233 (l.length + 1) l a h
  rw [m233]
  refine (t _ _ 0 rfl (by omega) _ (Nat.lt_succ_self _)).trans ?_
  obtain ⟨hl, ha, hb⟩ := h
  rw [List.drop_zero, Nat.zero_add]
  have hle := lowN_le l a
  rw [putV, putA_lowN]
  generalize lowN l a = j at hle ⊢
  have last : chk (0 ≤ (0 : Int) ∧ (0 : Int) ≤ (j : Int) ∧ (j : Int) ≤ (l.length : Int)) (chk (0 ≤ (j : Int) ∧ (j : Int) ≤ (l.length : Int) ∧ (l.length : Int) ≤ (l.length : Int)) (chk (([] : List (Val Y108)).length + ((l.take (j : Int).toNat).drop (0 : Int).toNat).length ≤ 1048576) (chk ((([] : List (Val Y108)) ++ ((l.take (j : Int).toNat).drop (0 : Int).toNat)).length + ([a] : List (Val Y108)).length ≤ 1048576) (chk (((([] : List (Val Y108)) ++ ((l.take (j : Int).toNat).drop (0 : Int).toNat)) ++ ([a] : List (Val Y108))).length + ((l.take (l.length : Int).toNat).drop (j : Int).toNat).length ≤ 1048576)
      (some (((([] : List (Val Y108)) ++ ((l.take (j : Int).toNat).drop (0 : Int).toNat)) ++ ([a] : List (Val Y108))) ++ ((l.take (l.length : Int).toNat).drop (j : Int).toNat), ()))))))
      = (some (l.take j ++ [a] ++ l.drop j, ()) : Option (Vals [i31])) := by
    have e1 : (j : Int).toNat = j := rfl
    have e2 : (l.length : Int).toNat = l.length := rfl
    have e3 : (0 : Int).toNat = 0 := rfl
    rw [e1, e2, e3, List.drop_zero, List.take_length, List.nil_append]
    rw [chk_pos (by omega), chk_pos (by omega), chk_pos (by simp; omega), chk_pos (by simp; omega), chk_pos (by simp; omega)]
  by_cases hj : j < l.length
  · have hb1 := hb _ (List.getElem_mem hj)
    have e1 : (j : Int).toNat = j := rfl
    rw [dif_pos hj, bif_dec (by omega), chk_pos (by omega), getD_atI hj, chk_pos (show wayV_pre _ _ from ⟨hb1.1, ha, hb1.2⟩)]
    by_cases hw : wayV l[j] a = 0
    · have hw' : way (atm a) (atm l[j]) = 0 := by have := way_cmp.anti (atm a) (atm l[j]); have hw : way (atm l[j]) (atm a) = 0 := hw; omega
      rw [bif_dec hw, if_pos hw, chk_pos (by omega), chk_pos (show strV_pre _ _ from ⟨hb1.1, ha, hw'⟩)]
      unfold strV
      by_cases hs : cmpA (atm a) (atm l[j]) ≤ 0
      · rw [bif_dec hs, if_pos hs]
      · rw [bif_decN hs, if_neg hs, List.nil_append, chk_pos (by simp; omega), chk_pos (by omega), chk_pos (by omega), e1]
    · rw [bif_decN hw, if_neg hw]
      exact last
  · rw [dif_neg hj, bif_decN (by omega)]
    exact last⟩
theorem s233 : Sound Tryz.prog 233 g233 := sound_run (tt := tt) (Γ := Γ233) hT (ok_cons s291 (ok_cons s292 ok_nil)) hm (fn := Tryz.f233) Tryz.func233 (c := Tryz.f233.body.getD .skip) (by kernel_rfl) (by kernel_rfl) fun x hx => by
  obtain ⟨N, h⟩ := e233 x.1 x.2.1 hx
  exact ⟨T233 N, p233, noSem_ok _, tb233 N, (run233 N x.1 x.2.1).trans h⟩
noncomputable def m150_l3 (N : Nat) (v2 : Int) (v3 : List (Val Y108)) (v5 : Int) (v6 : Int) (k0 : (List (Val Y108)) → Option (Vals [i33])) : Nat → Int → (List (Val Y108)) → Option (Vals [i33])
  | 0, _, _ => none
  | n + 1, v4, v7 => bif (decide (v4 < (v3.length : Int))) then (chk (0 ≤ v4 ∧ v4 < (v3.length : Int)) (chk (ncon_pre (v3.getD v4.toNat (dflt Y108))) (bif ((ncon (v3.getD v4.toNat (dflt Y108))) : Bool) then (chk (0 ≤ v4 ∧ v4 < (v3.length : Int)) (bif (!((truA (v3.getD v4.toNat (dflt Y108))) : Bool)) then (chk (noneC_pre v2) (some ((((noneC v2).1 : Int), ((noneC v2).2 : List (Val Y108))), ()))) else (m150_l3 N v2 v3 v5 v6 k0 n (IntKind.i64.wrap (v4 + (1 : Int))) v7))) else (chk (0 ≤ v4 ∧ v4 < (v3.length : Int)) (chk (idA_pre (v3.getD v4.toNat (dflt Y108))) (chk (putV_pre v7 (((idA (v3.getD v4.toNat (dflt Y108))).1 : List (Val (.int .i64))), (((idA (v3.getD v4.toNat (dflt Y108))).2).1 : Int), (((idA (v3.getD v4.toNat (dflt Y108))).2).2 : Bool))) (m150_l3 N v2 v3 v5 v6 k0 n (IntKind.i64.wrap (v4 + (1 : Int))) ((putV v7 (((idA (v3.getD v4.toNat (dflt Y108))).1 : List (Val (.int .i64))), (((idA (v3.getD v4.toNat (dflt Y108))).2).1 : Int), (((idA (v3.getD v4.toNat (dflt Y108))).2).2 : Bool))) : List (Val Y108))))))))) else (k0 v7)
noncomputable def m150 (N : Nat) (v0 : Int) (v1 : List (Val Y108)) : Option (Vals [i33]) := m150_l3 N v0 v1 (0 : Int) v0 (fun (v9 : List (Val Y108)) => some ((v0, v9), ())) N (0 : Int) ([] : List (Val Y108))
def Γ150 : Gam := [(209, g209), (229, g229), (232, g232), (233, g233), (234, g234)]
theorem Γ150_209 : Gam.get Γ150 209 = some g209 := rfl
theorem Γ150_229 : Gam.get Γ150 229 = some g229 := rfl
theorem Γ150_232 : Gam.get Γ150 232 = some g232 := rfl
theorem Γ150_233 : Gam.get Γ150 233 = some g233 := rfl
theorem Γ150_234 : Gam.get Γ150 234 = some g234 := rfl
def nl150_3 : Nm := ⟨[true, true, false, false, true, true, true], [.nsb 5 1 108 Y108], false⟩
theorem nl150_3_zero : nl150_3.zero = false := rfl
theorem nl150_3_fix : nl150_3.fix = [.nsb 5 1 108 Y108] := rfl
theorem nl150_3_keep : nl150_3.keep = [true, true, false, false, true, true, true] := rfl
def nx150_0 : Nm := ⟨[false, false, false, false, true, true], [], false⟩
theorem nx150_0_zero : nx150_0.zero = false := rfl
theorem nx150_0_fix : nx150_0.fix = [] := rfl
theorem nx150_0_keep : nx150_0.keep = [false, false, false, false, true, true] := rfl
def nr150_8 : Nm := ⟨[true, true, false, false, true, true, true], [], false⟩
theorem nr150_8_zero : nr150_8.zero = false := rfl
theorem nr150_8_fix : nr150_8.fix = [] := rfl
theorem nr150_8_keep : nr150_8.keep = [true, true, false, false, true, true, true] := rfl
def tr150 : Nat → Tree := fun i => if i = 8 then .quiet 2 (.quiet 3 (.quiet 4 (.quiet 5 (.alt 0 (.alt 1 (.alt 6 (.alt 7 (.quiet 8 (.alt 9 .done .stop)) .stop) .stop) (.alt 6 (.quiet 1 (.alt 7 (.quiet 8 (.alt 9 .done .stop)) .stop)) .stop)) (.alt 6 (.quiet 0 (.quiet 1 (.alt 7 (.quiet 8 (.alt 9 .done .stop)) .stop))) .stop))))) else .done
def lp150 : Nat → Nm := fun i => if i = 3 then nl150_3 else ⟨[], [], false⟩
def jn150 : Nat → Option Jn := fun _ => none
def ex150 : Nat → Option Nm := fun i => if i = 0 then some nx150_0 else none
def rg150 : Nat → Option Nm := fun i => if i = 8 then some nr150_8 else none
theorem p150 : plansOk tr150 (Tryz.f150.body.getD .skip) = true := by kernel_rfl
def T150 (N : Nat) : Tab := { tr := tr150, lp := lp150, ex := ex150, rg := rg150, jn := jn150, fuel := N }
theorem T150_pins (N : Nat) : (T150 N).pins = false := rfl
theorem tb150 (N : Nat) : TbOk Tryz.prog (T150 N) := tb_none fun _ => rfl
theorem T150_tr (N : Nat) (i : Nat) : (T150 N).tr i = tr150 i := rfl
theorem T150_lp (N : Nat) (i : Nat) : (T150 N).lp i = lp150 i := rfl
theorem T150_ex (N : Nat) (i : Nat) : (T150 N).ex i = ex150 i := rfl
theorem T150_rg (N : Nat) (i : Nat) : (T150 N).rg i = rg150 i := rfl
theorem T150_jn (N : Nat) (i : Nat) : (T150 N).jn i = jn150 i := rfl
theorem T150_fuel (N : Nat) : (T150 N).fuel = N := rfl
noncomputable def c150_3 : Code := cut [true, true, false, true, true, true] (Tryz.f150.body.getD .skip)
theorem c150_3_at {N : Nat} {Q : X → St → Option (Vals [i33])} {e : List LV} {h : List Blk} : runT tt Γ150 (T150 N) c150_3 Q ⟨e, h⟩ = runT tt Γ150 (T150 N) (cut [true, true, false, true, true, true] (Tryz.f150.body.getD .skip)) Q ⟨e, h⟩ := rfl
theorem r150_l3 (N : Nat) (v2 : Int) (v3 : List (Val Y108)) (v5 : Int) (v6 : Int) {k0 : (List (Val Y108)) → Option (Vals [i33])} {Q : X → St → Option (Vals [i33])} {c : Code} (hc : c = c150_3) (hret : ∀ st, Q .ret st = retS tt false [i33] [.cell 4 33] st) (h0 : ∀ (v8 : List (Val Y108)), Q (.exit 0) ⟨[u, u, u, u, .one (.ptr 0 0 0), .one (.ptr 1 0 0), u, u, u, u, u, u, u, u, u, u, u, u, u, u, u, u, u, u, u, u, u, u, u, u, u, u, u, u, u, u, u, u], [.box [.int .i64 v5, .nils], .box [.int .i64 v6, .sl 108 Y108 v8 2]]⟩ = k0 v8) : ∀ (n : Nat) (v4 : Int) (v7 : List (Val Y108)), loopR (runT tt Γ150 (T150 N) c) false nl150_3 Q n ⟨[.one (.int .i64 v2), .one (.sl 108 Y108 v3 2), u, u, .one (.ptr 0 0 0), .one (.ptr 1 0 0), .one (.int .i64 v4), u, u, u, u, u, u, u, u, u, u, u, u, u, u, u, u, u, u, u, u, u, u, u, u, u, u, u, u, u, u, u], [.box [.int .i64 v5, .nils], .box [.int .i64 v6, .sl 108 Y108 v7 2]]⟩ = m150_l3 N v2 v3 v5 v6 k0 n v4 v7 := by
  subst hc; intro n; induction n with
  | zero => intros; rfl
  | succ n ih =>
    intro v4 v7
    rw [loop_succ, c150_3_at, m150_l3]; unfold Tryz.f150
    simp (maxSteps := 10000000) -implicitDefEqProofs [T150_tr, tr150, T150_lp, lp150, T150_ex, ex150, T150_rg, rg150, T150_jn, jn150, T150_fuel, T150_pins, nl150_3_fix, nl150_3_keep, nl150_3_zero, nx150_0_fix, nx150_0_keep, nx150_0_zero, nr150_8_fix, nr150_8_keep, nr150_8_zero, Γ150_209, Γ150_229, Γ150_232, Γ150_233, Γ150_234, g209, g229, g232, g233, g234, hret, h0, ih]
theorem run150 (N : Nat) (v0 : Int) (v1 : List (Val Y108)) : runT tt Γ150 (T150 N) (Tryz.f150.body.getD .skip) (retR tt false [i33] [.cell 4 33]) (entryP [i3, i31] 38 (v0, v1, ())) = m150 N v0 v1 := by
  unfold Tryz.f150
  simp (maxSteps := 10000000) -implicitDefEqProofs [T150_tr, tr150, T150_lp, lp150, T150_ex, ex150, T150_rg, rg150, T150_jn, jn150, T150_fuel, T150_pins, nl150_3_fix, nl150_3_keep, nl150_3_zero, nx150_0_fix, nx150_0_keep, nx150_0_zero, nr150_8_fix, nr150_8_keep, nr150_8_zero, Γ150_209, Γ150_229, Γ150_232, Γ150_233, Γ150_234, g209, g229, g232, g233, g234]
  rewrite [r150_l3 (k0 := (fun (v9 : List (Val Y108)) => some ((v0, v9), ()))) N _ _ _ _ ?_ ?_ ?_]
  · rewrite [m150]; first | rfl | simp (maxSteps := 10000000) -implicitDefEqProofs []
  · rfl
  · intro; simp only [seqR_ret, blockR_ret, retR_ret, retX_ret]
  · intro v9; simp (maxSteps := 10000000) -implicitDefEqProofs [T150_tr, tr150, T150_lp, lp150, T150_ex, ex150, T150_rg, rg150, T150_jn, jn150, T150_fuel, T150_pins, nl150_3_fix, nl150_3_keep, nl150_3_zero, nx150_0_fix, nx150_0_keep, nx150_0_zero, nr150_8_fix, nr150_8_keep, nr150_8_zero, Γ150_209, Γ150_229, Γ150_232, Γ150_233, Γ150_234, g209, g229, g232, g233, g234]
def g150 : G := { ps := [i3, i31], rs := [i33], dp := false, pre := fun x => nrmV_pre x.1 x.2.1, fn := fun x => (nrmV x.1 x.2.1, ()) }
theorem putA_len : ∀ (l : List Atm) (a : Atm), (putA l a).length ≤ l.length + 1
  | [], _ => by simp [putA]
  | b :: r, a => by
    have := putA_len r a
    simp only [putA]
    split
    · simp; omega
    · split
      · split <;> simp
      · simp
theorem nrmS_fold {ρ : Type} {d : Int} {r : Option ρ} {k : List (Val Y108) → Option ρ} : ∀ (xs : List (Val Y108)) (i : Nat) (s : List (Val Y108)), s.length + xs.length ≤ 1048576 → (∀ b ∈ s, okA b ∧ (List.length (α := Int) b.1 : Int) = d) → (∀ b ∈ xs, okA b ∧ (List.length (α := Int) b.1 : Int) = d) →
    foldK (fun _ (x : Val Y108) (s : List (Val Y108)) K => bif ncon x then (bif !truA x then r else K s) else chk (putV_pre s x) (K (putV s x))) i xs s k = bif xs.any badA then r else k ((xs.filter hasVar).foldl putA s)
  | [], _, s, _, _, _ => by rw [foldK]; simp
  | x :: xs, i, s, h, hs, hx => by
    simp only [List.length_cons] at h
    have hx0 := hx x (by simp)
    rw [foldK, List.any_cons, bad_eq]
    cases hn : ncon x with
    | true =>
      have hv : hasVar x = false := by simpa [ncon] using hn
      cases ht : truA x with
      | false => simp
      | true =>
        simp only [cond_true, Bool.not_true, cond_false, Bool.and_false, Bool.false_or]
        rw [nrmS_fold xs (i + 1) s (by omega) hs fun b hb => hx b (by simp [hb])]
        simp [hv]
    | false =>
      have hv : hasVar x = true := by simpa [ncon] using hn
      simp only [cond_false, Bool.false_and, Bool.false_or]
      rw [chk_pos (show putV_pre s x from ⟨by omega, hx0.1, fun b hb => ⟨(hs b hb).1, by have := (hs b hb).2; have := hx0.2; omega⟩⟩)]
      have hl : (putV s x).length ≤ s.length + 1 := putA_len s x
      rw [nrmS_fold xs (i + 1) (putV s x) (by omega) (fun b hb => ?_) fun b hb => hx b (by simp [hb])]
      · simp only [List.filter_cons, hv, if_true, List.foldl_cons]
        rfl
      · rcases putA_mem hb with rfl | hb
        · exact hx0
        · exact hs b hb
theorem t150 (N : Nat) (d : Int) (l : List (Val Y108)) (K : List (Val Y108) → Option (Vals [i33])) (h : okL d l) (n : Nat) (hn : l.length < n) (s : List (Val Y108)) : m150_l3 N d l 0 d K n 0 s = foldK (fun _ (x : Val Y108) (s : List (Val Y108)) K => bif ncon x then (bif !truA x then some (noneC d, ()) else K s) else chk (putV_pre s x) (K (putV s x))) 0 l s K :=
  loop_fold (xs := l) (F := fun n i s => m150_l3 N d l 0 d K n i s) h.2.1 (fun n i s hi => by
    obtain ⟨ha, hlen⟩ := h.2.2 _ (List.getElem_mem hi)
    have h4 := (atom_in ha).1
    have hd' := h.1
    rw [m150_l3, bif_dec (by omega), chk_pos (by omega), getD_atI hi, chk_pos (show ncon_pre _ from ha), chk_pos (by omega), chk_pos (show noneC_pre d from ⟨hd'.1, by omega⟩), chk_pos (by omega), chk_pos (show idA_pre _ from by unfold idA_pre; omega)]
    rfl) (fun n i s hi => by rw [m150_l3, bif_decN (by omega)]) n s hn
theorem e150 (d : Int) (l : List (Val Y108)) (h : nrmV_pre d l) : ∃ N, m150 N d l = some (nrmV d l, ()) := ⟨l.length + 1, by
  rw [m150, t150 _ _ _ _ h _ (Nat.lt_succ_self _)]
  refine (nrmS_fold (d := d) l 0 [] (by simpa using h.2.1) (by simp) h.2.2).trans ?_
  rw [nrmV]
  cases l.any badA <;> rfl⟩
theorem s150 : Sound Tryz.prog 150 g150 := sound_run (tt := tt) (Γ := Γ150) hT (ok_cons s209 (ok_cons s229 (ok_cons s232 (ok_cons s233 (ok_cons s234 ok_nil))))) hm (fn := Tryz.f150) Tryz.func150 (c := Tryz.f150.body.getD .skip) (by kernel_rfl) (by kernel_rfl) fun x hx => by
  obtain ⟨N, h⟩ := e150 x.1 x.2.1 hx
  exact ⟨T150 N, p150, noSem_ok _, tb150 N, (run150 N x.1 x.2.1).trans h⟩
end Go.T
