/- Cells: whether they are valid. -/
import Derived.Test.YthefcjjgchekiaaA2
set_option linter.unusedSimpArgs false
set_option linter.unusedVariables false
namespace Go.T
open Go Go.Proofs
set_option maxHeartbeats 4000000
set_option maxRecDepth 100000
def isCell (c : Val Y32) : Bool := decide (0 ≤ (c.1 : Int) ∧ (c.1 : Int) ≤ 4) && decide ((List.length (α := Val Y36) c.2 : Int) ≤ 16) && List.all (α := Val Y36) c.2 fun a => isAtom a && decide ((List.length (α := Val (.int .i64)) a.1 : Int) = (c.1 : Int))
def isCell_pre (c : Val Y32) : Prop := List.length (α := Val Y36) c.2 ≤ 1048576
-- spec.IsCell
noncomputable def m38_l2 (N : Nat) (v2 : Int) (v3 : List (Val Y36)) (k0 : Unit → Option (Vals [i4])) : Nat → Int → Option (Vals [i4])
  | 0, _ => none
  | n + 1, v1 => bif (decide (v1 < (v3.length : Int))) then (chk (0 ≤ v1 ∧ v1 < (v3.length : Int)) (bif (!((isAtom (v3.getD v1.toNat (dflt Y36))) : Bool)) then (some (false, ())) else (chk (0 ≤ v1 ∧ v1 < (v3.length : Int)) (bif (!(decide ((((v3.getD v1.toNat (dflt Y36)).1 : List (Val (.int .i64))).length : Int) = v2))) then (some (false, ())) else (m38_l2 N v2 v3 k0 n (IntKind.i64.wrap (v1 + (1 : Int)))))))) else (k0 ())
noncomputable def m38 (N : Nat) (v0 : Val Y32) : Option (Vals [i4]) := m38_l2 N (v0.1 : Int) (v0.2 : List (Val Y36)) (fun (_ : Unit) => bif ((inR (v0.1 : Int) (0 : Int) (4 : Int)) : Bool) then (some ((decide (((v0.2 : List (Val Y36)).length : Int) ≤ (16 : Int))), ())) else (some (false, ()))) N (0 : Int)
def Γ38 : Gam := [(43, g43), (49, g49)]
theorem Γ38_43 : Gam.get Γ38 43 = some g43 := rfl
theorem Γ38_49 : Gam.get Γ38 49 = some g49 := rfl
def nl38_2 : Nm := ⟨[false, true, false, true], []⟩
theorem nl38_2_fix : nl38_2.fix = [] := rfl
theorem nl38_2_keep : nl38_2.keep = [false, true, false, true] := rfl
def nx38_0 : Nm := ⟨[false, true], []⟩
theorem nx38_0_fix : nx38_0.fix = [] := rfl
theorem nx38_0_keep : nx38_0.keep = [false, true] := rfl
def tr38 : Nat → Tree := fun i => if i = 4 then .quiet 0 (.quiet 1 (.quiet 2 (.quiet 3 (.quiet 4 (.alt 5 (.quiet 6 (.quiet 7 (.quiet 8 (.quiet 9 (.quiet 10 (.quiet 11 (.quiet 12 (.quiet 13 (.quiet 14 (.quiet 15 (.quiet 16 (.quiet 17 (.quiet 18 .done))))))))))))) .stop))))) else .done
def lp38 : Nat → Nm := fun i => if i = 2 then nl38_2 else ⟨[], []⟩
def jn38 : Nat → Option Jn := fun _ => none
def ex38 : Nat → Option Nm := fun i => if i = 0 then some nx38_0 else none
def rg38 : Nat → Option Nm := fun _ => none
theorem p38 : plansOk tr38 (Try.f38.body.getD .skip) = true := by kernel_rfl
def T38 (N : Nat) : Tab := { tr := tr38, lp := lp38, ex := ex38, rg := rg38, jn := jn38, fuel := N }
theorem T38_pins (N : Nat) : (T38 N).pins = false := rfl
theorem tb38 (N : Nat) : TbOk Try.prog (T38 N) := tb_none fun _ => rfl
theorem T38_tr (N i : Nat) : (T38 N).tr i = tr38 i := rfl
theorem T38_lp (N i : Nat) : (T38 N).lp i = lp38 i := rfl
theorem T38_ex (N i : Nat) : (T38 N).ex i = ex38 i := rfl
theorem T38_rg (N i : Nat) : (T38 N).rg i = rg38 i := rfl
theorem T38_jn (N i : Nat) : (T38 N).jn i = jn38 i := rfl
theorem T38_fuel (N : Nat) : (T38 N).fuel = N := rfl
noncomputable def c38_2 : Code := cut [true, false, true, true, true] (Try.f38.body.getD .skip)
theorem c38_2_at {N : Nat} {Q : X → St → Option (Vals [i4])} {e : List LV} {h : List Blk} : runT tt Γ38 (T38 N) c38_2 Q ⟨e, h⟩ = runT tt Γ38 (T38 N) (cut [true, false, true, true, true] (Try.f38.body.getD .skip)) Q ⟨e, h⟩ := rfl
theorem r38_l2 (N : Nat) (v2 : Int) (v3 : List (Val Y36)) {k0 : Unit → Option (Vals [i4])} {Q : X → St → Option (Vals [i4])} {c : Code} (hc : c = c38_2) (hret : ∀ st, Q .ret st = retS tt true [i4] [.tmp 2] st) (h0 : Q (.exit 0) ⟨[u, .one (.ptr 0 0 0), u, u, u, u, u, u, u, u, u, u, u, u, u, u, u, u, u, u, u, u, u, u, u, u, u, u, u, u, u, u, u, u, u, u, u, u, u], [.box [.int .i64 v2, .sl 36 Y36 v3 1]]⟩ = k0 ()) : ∀ (n : Nat) (v1 : Int), loopR (runT tt Γ38 (T38 N) c) false nl38_2 Q n ⟨[u, .one (.ptr 0 0 0), u, .one (.int .i64 v1), u, u, u, u, u, u, u, u, u, u, u, u, u, u, u, u, u, u, u, u, u, u, u, u, u, u, u, u, u, u, u, u, u, u, u], [.box [.int .i64 v2, .sl 36 Y36 v3 1]]⟩ = m38_l2 N v2 v3 k0 n v1 := by
  subst hc; intro n; induction n with
  | zero => intros; rfl
  | succ n ih =>
    intro v1
    rw [loop_succ, c38_2_at, m38_l2]; unfold Try.f38
    simp (maxSteps := 10000000) -implicitDefEqProofs [T38_tr, tr38, T38_lp, lp38, T38_ex, ex38, T38_rg, rg38, T38_jn, jn38, T38_fuel, T38_pins, nl38_2_fix, nl38_2_keep, nx38_0_fix, nx38_0_keep, Γ38_43, Γ38_49, g43, g49, hret, h0, ih]
theorem run38 (N : Nat) (v0 : Val Y32) : runT tt Γ38 (T38 N) (Try.f38.body.getD .skip) (retR tt true [i4] [.tmp 2]) (entryP [i32] 39 (v0, ())) = m38 N v0 := by
  unfold Try.f38
  simp (maxSteps := 10000000) -implicitDefEqProofs [T38_tr, tr38, T38_lp, lp38, T38_ex, ex38, T38_rg, rg38, T38_jn, jn38, T38_fuel, T38_pins, nl38_2_fix, nl38_2_keep, nx38_0_fix, nx38_0_keep, Γ38_43, Γ38_49, g43, g49]
  rewrite [r38_l2 (k0 := (fun (_ : Unit) => bif ((inR (v0.1 : Int) (0 : Int) (4 : Int)) : Bool) then (some ((decide (((v0.2 : List (Val Y36)).length : Int) ≤ (16 : Int))), ())) else (some (false, ())))) N _ _ ?_ ?_ ?_]
  · rewrite [m38]; first | rfl | simp (maxSteps := 10000000) -implicitDefEqProofs []
  · rfl
  · intro; simp only [seqR_ret, blockR_ret, retR_ret, retX_ret]
  · simp (maxSteps := 10000000) -implicitDefEqProofs [T38_tr, tr38, T38_lp, lp38, T38_ex, ex38, T38_rg, rg38, T38_jn, jn38, T38_fuel, T38_pins, nl38_2_fix, nl38_2_keep, nx38_0_fix, nx38_0_keep, Γ38_43, Γ38_49, g43, g49]
-- impl.IsCell
noncomputable def m40_l4 (N : Nat) (v1 : List (Val Y36)) (v2 : Int) (v4 : Int) (v5 : List (Val Y36)) (k0 : Unit → Option (Vals [i4])) : Nat → Int → Option (Vals [i4])
  | 0, _ => none
  | n + 1, v3 => bif (decide (v3 < v2)) then (chk (0 ≤ v3 ∧ v3 < (v1.length : Int)) (bif (!((isAtom (v1.getD v3.toNat (dflt Y36))) : Bool)) then (some (false, ())) else (bif (!(decide ((((v1.getD v3.toNat (dflt Y36)).1 : List (Val (.int .i64))).length : Int) = v4))) then (some (false, ())) else (m40_l4 N v1 v2 v4 v5 k0 n (IntKind.i64.wrap (v3 + (1 : Int))))))) else (k0 ())
noncomputable def m40 (N : Nat) (v0 : Val Y32) : Option (Vals [i4]) := bif (decide ((v0.1 : Int) < (0 : Int))) then (some (false, ())) else (bif (decide ((4 : Int) < (v0.1 : Int))) then (some (false, ())) else (bif (decide ((16 : Int) < ((v0.2 : List (Val Y36)).length : Int))) then (some (false, ())) else (m40_l4 N (v0.2 : List (Val Y36)) ((v0.2 : List (Val Y36)).length : Int) (v0.1 : Int) (v0.2 : List (Val Y36)) (fun (_ : Unit) => some (true, ())) N (0 : Int))))
def Γ40 : Gam := [(45, g45)]
theorem Γ40_45 : Gam.get Γ40 45 = some g45 := rfl
def nl40_4 : Nm := ⟨[false, true, false, false, false, false, false, false, false, false, false, false, false, false, false, false, false, false, false, false, true, true, true], []⟩
theorem nl40_4_fix : nl40_4.fix = [] := rfl
theorem nl40_4_keep : nl40_4.keep = [false, true, false, false, false, false, false, false, false, false, false, false, false, false, false, false, false, false, false, false, true, true, true] := rfl
def nx40_0 : Nm := ⟨[], []⟩
theorem nx40_0_fix : nx40_0.fix = [] := rfl
theorem nx40_0_keep : nx40_0.keep = [] := rfl
def tr40 : Nat → Tree := fun _ => .done
def lp40 : Nat → Nm := fun i => if i = 4 then nl40_4 else ⟨[], []⟩
def jn40 : Nat → Option Jn := fun _ => none
def ex40 : Nat → Option Nm := fun i => if i = 0 then some nx40_0 else none
def rg40 : Nat → Option Nm := fun _ => none
theorem p40 : plansOk tr40 (Try.f40.body.getD .skip) = true := by kernel_rfl
def T40 (N : Nat) : Tab := { tr := tr40, lp := lp40, ex := ex40, rg := rg40, jn := jn40, fuel := N }
theorem T40_pins (N : Nat) : (T40 N).pins = false := rfl
theorem tb40 (N : Nat) : TbOk Try.prog (T40 N) := tb_none fun _ => rfl
theorem T40_tr (N i : Nat) : (T40 N).tr i = tr40 i := rfl
theorem T40_lp (N i : Nat) : (T40 N).lp i = lp40 i := rfl
theorem T40_ex (N i : Nat) : (T40 N).ex i = ex40 i := rfl
theorem T40_rg (N i : Nat) : (T40 N).rg i = rg40 i := rfl
theorem T40_jn (N i : Nat) : (T40 N).jn i = jn40 i := rfl
theorem T40_fuel (N : Nat) : (T40 N).fuel = N := rfl
noncomputable def c40_4 : Code := cut [true, true, false, true, true, true] (Try.f40.body.getD .skip)
theorem c40_4_at {N : Nat} {Q : X → St → Option (Vals [i4])} {e : List LV} {h : List Blk} : runT tt Γ40 (T40 N) c40_4 Q ⟨e, h⟩ = runT tt Γ40 (T40 N) (cut [true, true, false, true, true, true] (Try.f40.body.getD .skip)) Q ⟨e, h⟩ := rfl
theorem r40_l4 (N : Nat) (v1 : List (Val Y36)) (v2 : Int) (v4 : Int) (v5 : List (Val Y36)) {k0 : Unit → Option (Vals [i4])} {Q : X → St → Option (Vals [i4])} {c : Code} (hc : c = c40_4) (hret : ∀ st, Q .ret st = retS tt true [i4] [.tmp 2] st) (h0 : Q (.exit 0) ⟨[u, u, u, u, u, u, u, u, u, u, u, u, u, u, u, u, u, u, u, u, u, u, u, u, u, u, u, u, u, u, u, u, u, u, u, u, u, u], []⟩ = k0 ()) : ∀ (n : Nat) (v3 : Int), loopR (runT tt Γ40 (T40 N) c) false nl40_4 Q n ⟨[u, .one (.ptr 0 0 0), u, u, u, u, u, u, u, u, u, u, u, u, u, u, u, u, u, u, .one (.sl 36 Y36 v1 1), .one (.int .i64 v2), .one (.int .i64 v3), u, u, u, u, u, u, u, u, u, u, u, u, u, u, u], [.box [.int .i64 v4, .sl 36 Y36 v5 1]]⟩ = m40_l4 N v1 v2 v4 v5 k0 n v3 := by
  subst hc; intro n; induction n with
  | zero => intros; rfl
  | succ n ih =>
    intro v3
    rw [loop_succ, c40_4_at, m40_l4]; unfold Try.f40
    simp (maxSteps := 10000000) -implicitDefEqProofs [T40_tr, tr40, T40_lp, lp40, T40_ex, ex40, T40_rg, rg40, T40_jn, jn40, T40_fuel, T40_pins, nl40_4_fix, nl40_4_keep, nx40_0_fix, nx40_0_keep, Γ40_45, g45, hret, h0, ih]
theorem run40 (N : Nat) (v0 : Val Y32) : runT tt Γ40 (T40 N) (Try.f40.body.getD .skip) (retR tt true [i4] [.tmp 2]) (entryP [i32] 38 (v0, ())) = m40 N v0 := by
  unfold Try.f40
  simp (maxSteps := 10000000) -implicitDefEqProofs [T40_tr, tr40, T40_lp, lp40, T40_ex, ex40, T40_rg, rg40, T40_jn, jn40, T40_fuel, T40_pins, nl40_4_fix, nl40_4_keep, nx40_0_fix, nx40_0_keep, Γ40_45, g45]
  rewrite [r40_l4 (k0 := (fun (_ : Unit) => some (true, ()))) N _ _ _ _ ?_ ?_ ?_]
  · rewrite [m40]; first | rfl | simp (maxSteps := 10000000) -implicitDefEqProofs []
  · rfl
  · intro; simp only [seqR_ret, blockR_ret, retR_ret, retX_ret]
  · simp (maxSteps := 10000000) -implicitDefEqProofs [T40_tr, tr40, T40_lp, lp40, T40_ex, ex40, T40_rg, rg40, T40_jn, jn40, T40_fuel, T40_pins, nl40_4_fix, nl40_4_keep, nx40_0_fix, nx40_0_keep, Γ40_45, g45]
theorem t38 (N : Nat) (d : Int) (xs : List (Val Y36)) (K : Unit → Option (Vals [i4])) (hl : xs.length ≤ 1048576) (n : Nat) (hn : xs.length < n) : m38_l2 N d xs K n 0 = bif xs.all (fun a => isAtom a && decide ((List.length (α := Val (.int .i64)) a.1 : Int) = d)) then K () else some (false, ()) :=
  (loop_fold (F := fun n i (_ : Unit) => m38_l2 N d xs K n i) (step := fun _ x _ K => bif (isAtom x && decide ((List.length (α := Val (.int .i64)) x.1 : Int) = d)) then K () else some (false, ())) (k := K) hl (fun n i s hi => by
    rw [m38_l2, bif_dec (by omega), chk_pos (by omega), chk_pos (by omega), getD_atI hi]
    cases isAtom xs[i] <;> simp [bif_not]) (fun n i s hi => by rw [m38_l2, bif_decN (by omega)]) n () hn).trans (foldK_all xs 0)
theorem t40 (N : Nat) (d : Int) (xs ys : List (Val Y36)) (K : Unit → Option (Vals [i4])) (hl : xs.length ≤ 1048576) (n : Nat) (hn : xs.length < n) : m40_l4 N xs xs.length d ys K n 0 = bif xs.all (fun a => isAtom a && decide ((List.length (α := Val (.int .i64)) a.1 : Int) = d)) then K () else some (false, ()) :=
  (loop_fold (F := fun n i (_ : Unit) => m40_l4 N xs xs.length d ys K n i) (step := fun _ x _ K => bif (isAtom x && decide ((List.length (α := Val (.int .i64)) x.1 : Int) = d)) then K () else some (false, ())) (k := K) hl (fun n i s hi => by
    rw [m40_l4, bif_dec (by omega), chk_pos (by omega), getD_atI hi]
    cases isAtom xs[i] <;> simp [bif_not]) (fun n i s hi => by rw [m40_l4, bif_decN (by omega)]) n () hn).trans (foldK_all xs 0)
def g38 : G := { ps := [i32], rs := [i4], dp := true, pre := fun x => isCell_pre x.1, fn := fun x => (isCell x.1, ()) }
def g40 : G := { ps := [i32], rs := [i4], dp := true, pre := fun _ => True, fn := fun x => (isCell x.1, ()) }
theorem e38 (c : Val Y32) (h : isCell_pre c) : ∃ N, m38 N c = some (isCell c, ()) := ⟨List.length (α := Val Y36) c.2 + 1, by
  obtain ⟨d, xs⟩ := c
  change Int at d
  change List (Val Y36) at xs
  rw [m38, isCell]
  dsimp only
  rw [t38 _ _ _ _ h _ (Nat.lt_succ_self _)]
  simp only [inR]
  cases List.all xs _ <;> cases decide (0 ≤ d ∧ d ≤ 4) <;> simp⟩
theorem s38 : Sound Try.prog 38 g38 := sound_run (tt := tt) (Γ := Γ38) hT (ok_cons s43 (ok_cons s49 ok_nil)) hm (fn := Try.f38) Try.func38 (c := Try.f38.body.getD .skip) (by kernel_rfl) (by kernel_rfl) fun x hx => by
  obtain ⟨N, h⟩ := e38 x.1 hx
  exact ⟨T38 N, p38, noSem_ok _, tb38 N, (run38 N x.1).trans h⟩
theorem e40 (c : Val Y32) : ∃ N, m40 N c = some (isCell c, ()) := ⟨List.length (α := Val Y36) c.2 + 1, by
  obtain ⟨d, xs⟩ := c
  change Int at d
  change List (Val Y36) at xs
  rw [m40, isCell]
  dsimp only
  by_cases h1 : d < 0
  · have : ¬ (0 ≤ d ∧ d ≤ 4) := by omega
    simp [h1, this]
  · by_cases h2 : 4 < d
    · have : ¬ (0 ≤ d ∧ d ≤ 4) := by omega
      simp [h1, h2, this]
    · have : 0 ≤ d ∧ d ≤ 4 := by omega
      by_cases h3 : (16 : Int) < xs.length
      · have h3' : ¬ (xs.length : Int) ≤ 16 := by omega
        simp only [h1, h2, h3, h3', decide_true, decide_false, cond_true, cond_false, Bool.and_false, Bool.false_and]
      · have h3' : (xs.length : Int) ≤ 16 := by omega
        rw [t40 _ _ _ _ _ (by omega) _ (Nat.lt_succ_self _)]
        simp only [h1, h2, h3, h3', this, decide_true, decide_false, cond_true, cond_false, Bool.true_and, and_self]
        cases List.all xs _ <;> rfl⟩
theorem s40 : Sound Try.prog 40 g40 := sound_run (tt := tt) (Γ := Γ40) hT (ok_cons s45 ok_nil) hm (fn := Try.f40) Try.func40 (c := Try.f40.body.getD .skip) (by kernel_rfl) (by kernel_rfl) fun x hx => by
  obtain ⟨N, h⟩ := e40 x.1
  exact ⟨T40 N, p40, noSem_ok _, tb40 N, (run40 N x.1).trans h⟩
end Go.T
