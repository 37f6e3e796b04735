/- Cells: whether they are valid. -/
import Derived.Test.YthefcjjgchekiaaGreatA2
set_option linter.unusedSimpArgs false
set_option linter.unusedVariables false
namespace Go.T
open Go Go.Proofs
set_option maxHeartbeats 4000000
set_option maxRecDepth 100000
def isCell (c : Val Y33) : Bool := decide (0 ≤ (c.1 : Int) ∧ (c.1 : Int) ≤ 4) && decide ((List.length (α := Val Y108) c.2 : Int) ≤ 16) && List.all (α := Val Y108) c.2 fun a => isAtom a && decide ((List.length (α := Val (.int .i64)) a.1 : Int) = (c.1 : Int))
def isCell_pre (c : Val Y33) : Prop := List.length (α := Val Y108) c.2 ≤ 1048576
noncomputable def m104_l2 (N : Nat) (v2 : Int) (v3 : List (Val Y108)) (k0 : Unit → Option (Vals [i4])) : Nat → Int → Option (Vals [i4])
  | 0, _ => none
  | n + 1, v1 => bif (decide (v1 < (v3.length : Int))) then (chk (0 ≤ v1 ∧ v1 < (v3.length : Int)) (bif (!((isAtom (v3.getD v1.toNat (dflt Y108))) : Bool)) then (some (false, ())) else (chk (0 ≤ v1 ∧ v1 < (v3.length : Int)) (bif (!(decide ((((v3.getD v1.toNat (dflt Y108)).1 : List (Val (.int .i64))).length : Int) = v2))) then (some (false, ())) else (m104_l2 N v2 v3 k0 n (IntKind.i64.wrap (v1 + (1 : Int)))))))) else (k0 ())
noncomputable def m104 (N : Nat) (v0 : Val Y33) : Option (Vals [i4]) := m104_l2 N (v0.1 : Int) (v0.2 : List (Val Y108)) (fun (_ : Unit) => bif ((inR (v0.1 : Int) (0 : Int) (4 : Int)) : Bool) then (some ((decide (((v0.2 : List (Val Y108)).length : Int) ≤ (16 : Int))), ())) else (some (false, ()))) N (0 : Int)
def Γ104 : Gam := [(118, g118), (193, g193)]
theorem Γ104_118 : Gam.get Γ104 118 = some g118 := rfl
theorem Γ104_193 : Gam.get Γ104 193 = some g193 := rfl
def nl104_2 : Nm := ⟨[false, true, false, true], [], false⟩
theorem nl104_2_zero : nl104_2.zero = false := rfl
theorem nl104_2_fix : nl104_2.fix = [] := rfl
theorem nl104_2_keep : nl104_2.keep = [false, true, false, true] := rfl
def nx104_0 : Nm := ⟨[false, true], [], false⟩
theorem nx104_0_zero : nx104_0.zero = false := rfl
theorem nx104_0_fix : nx104_0.fix = [] := rfl
theorem nx104_0_keep : nx104_0.keep = [false, true] := rfl
def tr104 : Nat → Tree := fun i => if i = 4 then .quiet 0 (.quiet 1 (.quiet 2 (.quiet 3 (.quiet 4 (.alt 5 (.quiet 6 (.quiet 7 (.quiet 8 (.quiet 9 (.quiet 10 (.quiet 11 (.quiet 12 (.quiet 13 (.quiet 14 (.quiet 15 (.quiet 16 (.quiet 17 (.quiet 18 .done))))))))))))) .stop))))) else .done
def lp104 : Nat → Nm := fun i => if i = 2 then nl104_2 else ⟨[], [], false⟩
def jn104 : Nat → Option Jn := fun _ => none
def ex104 : Nat → Option Nm := fun i => if i = 0 then some nx104_0 else none
def rg104 : Nat → Option Nm := fun _ => none
theorem p104 : plansOk tr104 (Tryz.f104.body.getD .skip) = true := by kernel_rfl
def T104 (N : Nat) : Tab := { tr := tr104, lp := lp104, ex := ex104, rg := rg104, jn := jn104, fuel := N }
theorem T104_pins (N : Nat) : (T104 N).pins = false := rfl
theorem tb104 (N : Nat) : TbOk Tryz.prog (T104 N) := tb_none fun _ => rfl
theorem T104_tr (N : Nat) (i : Nat) : (T104 N).tr i = tr104 i := rfl
theorem T104_lp (N : Nat) (i : Nat) : (T104 N).lp i = lp104 i := rfl
theorem T104_ex (N : Nat) (i : Nat) : (T104 N).ex i = ex104 i := rfl
theorem T104_rg (N : Nat) (i : Nat) : (T104 N).rg i = rg104 i := rfl
theorem T104_jn (N : Nat) (i : Nat) : (T104 N).jn i = jn104 i := rfl
theorem T104_fuel (N : Nat) : (T104 N).fuel = N := rfl
noncomputable def c104_2 : Code := cut [true, false, true, true, true] (Tryz.f104.body.getD .skip)
theorem c104_2_at {N : Nat} {Q : X → St → Option (Vals [i4])} {e : List LV} {h : List Blk} : runT tt Γ104 (T104 N) c104_2 Q ⟨e, h⟩ = runT tt Γ104 (T104 N) (cut [true, false, true, true, true] (Tryz.f104.body.getD .skip)) Q ⟨e, h⟩ := rfl
theorem r104_l2 (N : Nat) (v2 : Int) (v3 : List (Val Y108)) {k0 : Unit → Option (Vals [i4])} {Q : X → St → Option (Vals [i4])} {c : Code} (hc : c = c104_2) (hret : ∀ st, Q .ret st = retS tt true [i4] [.tmp 2] st) (h0 : Q (.exit 0) ⟨[u, .one (.ptr 0 0 0), u, u, u, u, u, u, u, u, u, u, u, u, u, u, u, u, u, u, u, u, u, u, u, u, u, u, u, u, u, u, u, u, u, u, u, u, u], [.box [.int .i64 v2, .sl 108 Y108 v3 1]]⟩ = k0 ()) : ∀ (n : Nat) (v1 : Int), loopR (runT tt Γ104 (T104 N) c) false nl104_2 Q n ⟨[u, .one (.ptr 0 0 0), u, .one (.int .i64 v1), u, u, u, u, u, u, u, u, u, u, u, u, u, u, u, u, u, u, u, u, u, u, u, u, u, u, u, u, u, u, u, u, u, u, u], [.box [.int .i64 v2, .sl 108 Y108 v3 1]]⟩ = m104_l2 N v2 v3 k0 n v1 := by
  subst hc; intro n; induction n with
  | zero => intros; rfl
  | succ n ih =>
    intro v1
    rw [loop_succ, c104_2_at, m104_l2]; unfold Tryz.f104
    simp (maxSteps := 10000000) -implicitDefEqProofs [T104_tr, tr104, T104_lp, lp104, T104_ex, ex104, T104_rg, rg104, T104_jn, jn104, T104_fuel, T104_pins, nl104_2_fix, nl104_2_keep, nl104_2_zero, nx104_0_fix, nx104_0_keep, nx104_0_zero, Γ104_118, Γ104_193, g118, g193, hret, h0, ih]
theorem run104 (N : Nat) (v0 : Val Y33) : runT tt Γ104 (T104 N) (Tryz.f104.body.getD .skip) (retR tt true [i4] [.tmp 2]) (entryP [i33] 39 (v0, ())) = m104 N v0 := by
  unfold Tryz.f104
  simp (maxSteps := 10000000) -implicitDefEqProofs [T104_tr, tr104, T104_lp, lp104, T104_ex, ex104, T104_rg, rg104, T104_jn, jn104, T104_fuel, T104_pins, nl104_2_fix, nl104_2_keep, nl104_2_zero, nx104_0_fix, nx104_0_keep, nx104_0_zero, Γ104_118, Γ104_193, g118, g193]
  rewrite [r104_l2 (k0 := (fun (_ : Unit) => bif ((inR (v0.1 : Int) (0 : Int) (4 : Int)) : Bool) then (some ((decide (((v0.2 : List (Val Y108)).length : Int) ≤ (16 : Int))), ())) else (some (false, ())))) N _ _ ?_ ?_ ?_]
  · rewrite [m104]; first | rfl | simp (maxSteps := 10000000) -implicitDefEqProofs []
  · rfl
  · intro; simp only [seqR_ret, blockR_ret, retR_ret, retX_ret]
  · simp (maxSteps := 10000000) -implicitDefEqProofs [T104_tr, tr104, T104_lp, lp104, T104_ex, ex104, T104_rg, rg104, T104_jn, jn104, T104_fuel, T104_pins, nl104_2_fix, nl104_2_keep, nl104_2_zero, nx104_0_fix, nx104_0_keep, nx104_0_zero, Γ104_118, Γ104_193, g118, g193]
noncomputable def m199_l4 (N : Nat) (v1 : List (Val Y108)) (v2 : Int) (v4 : Int) (v5 : List (Val Y108)) (k0 : Unit → Option (Vals [i4])) : Nat → Int → Option (Vals [i4])
  | 0, _ => none
  | n + 1, v3 => bif (decide (v3 < v2)) then (chk (0 ≤ v3 ∧ v3 < (v1.length : Int)) (bif (!((isAtom (v1.getD v3.toNat (dflt Y108))) : Bool)) then (some (false, ())) else (bif (!(decide ((((v1.getD v3.toNat (dflt Y108)).1 : List (Val (.int .i64))).length : Int) = v4))) then (some (false, ())) else (m199_l4 N v1 v2 v4 v5 k0 n (IntKind.i64.wrap (v3 + (1 : Int))))))) else (k0 ())
noncomputable def m199 (N : Nat) (v0 : Val Y33) : Option (Vals [i4]) := bif (decide ((v0.1 : Int) < (0 : Int))) then (some (false, ())) else (bif (decide ((4 : Int) < (v0.1 : Int))) then (some (false, ())) else (bif (decide ((16 : Int) < ((v0.2 : List (Val Y108)).length : Int))) then (some (false, ())) else (m199_l4 N (v0.2 : List (Val Y108)) ((v0.2 : List (Val Y108)).length : Int) (v0.1 : Int) (v0.2 : List (Val Y108)) (fun (_ : Unit) => some (true, ())) N (0 : Int))))
def Γ199 : Gam := [(279, g279)]
theorem Γ199_279 : Gam.get Γ199 279 = some g279 := rfl
def nl199_4 : Nm := ⟨[false, true, false, false, false, false, false, false, false, false, false, false, false, false, false, false, false, false, false, false, true, true, true], [], false⟩
theorem nl199_4_zero : nl199_4.zero = false := rfl
theorem nl199_4_fix : nl199_4.fix = [] := rfl
theorem nl199_4_keep : nl199_4.keep = [false, true, false, false, false, false, false, false, false, false, false, false, false, false, false, false, false, false, false, false, true, true, true] := rfl
def nx199_0 : Nm := ⟨[], [], false⟩
theorem nx199_0_zero : nx199_0.zero = false := rfl
theorem nx199_0_fix : nx199_0.fix = [] := rfl
theorem nx199_0_keep : nx199_0.keep = [] := rfl
def tr199 : Nat → Tree := fun _ => .done
def lp199 : Nat → Nm := fun i => if i = 4 then nl199_4 else ⟨[], [], false⟩
def jn199 : Nat → Option Jn := fun _ => none
def ex199 : Nat → Option Nm := fun i => if i = 0 then some nx199_0 else none
def rg199 : Nat → Option Nm := fun _ => none
theorem p199 : plansOk tr199 (Tryz.f199.body.getD .skip) = true := by kernel_rfl
def T199 (N : Nat) : Tab := { tr := tr199, lp := lp199, ex := ex199, rg := rg199, jn := jn199, fuel := N }
theorem T199_pins (N : Nat) : (T199 N).pins = false := rfl
theorem tb199 (N : Nat) : TbOk Tryz.prog (T199 N) := tb_none fun _ => rfl
theorem T199_tr (N : Nat) (i : Nat) : (T199 N).tr i = tr199 i := rfl
theorem T199_lp (N : Nat) (i : Nat) : (T199 N).lp i = lp199 i := rfl
theorem T199_ex (N : Nat) (i : Nat) : (T199 N).ex i = ex199 i := rfl
theorem T199_rg (N : Nat) (i : Nat) : (T199 N).rg i = rg199 i := rfl
theorem T199_jn (N : Nat) (i : Nat) : (T199 N).jn i = jn199 i := rfl
theorem T199_fuel (N : Nat) : (T199 N).fuel = N := rfl
noncomputable def c199_4 : Code := cut [true, true, false, true, true, true] (Tryz.f199.body.getD .skip)
theorem c199_4_at {N : Nat} {Q : X → St → Option (Vals [i4])} {e : List LV} {h : List Blk} : runT tt Γ199 (T199 N) c199_4 Q ⟨e, h⟩ = runT tt Γ199 (T199 N) (cut [true, true, false, true, true, true] (Tryz.f199.body.getD .skip)) Q ⟨e, h⟩ := rfl
theorem r199_l4 (N : Nat) (v1 : List (Val Y108)) (v2 : Int) (v4 : Int) (v5 : List (Val Y108)) {k0 : Unit → Option (Vals [i4])} {Q : X → St → Option (Vals [i4])} {c : Code} (hc : c = c199_4) (hret : ∀ st, Q .ret st = retS tt true [i4] [.tmp 2] st) (h0 : Q (.exit 0) ⟨[u, u, u, u, u, u, u, u, u, u, u, u, u, u, u, u, u, u, u, u, u, u, u, u, u, u, u, u, u, u, u, u, u, u, u, u, u, u], []⟩ = k0 ()) : ∀ (n : Nat) (v3 : Int), loopR (runT tt Γ199 (T199 N) c) false nl199_4 Q n ⟨[u, .one (.ptr 0 0 0), u, u, u, u, u, u, u, u, u, u, u, u, u, u, u, u, u, u, .one (.sl 108 Y108 v1 1), .one (.int .i64 v2), .one (.int .i64 v3), u, u, u, u, u, u, u, u, u, u, u, u, u, u, u], [.box [.int .i64 v4, .sl 108 Y108 v5 1]]⟩ = m199_l4 N v1 v2 v4 v5 k0 n v3 := by
  subst hc; intro n; induction n with
  | zero => intros; rfl
  | succ n ih =>
    intro v3
    rw [loop_succ, c199_4_at, m199_l4]; unfold Tryz.f199
    simp (maxSteps := 10000000) -implicitDefEqProofs [T199_tr, tr199, T199_lp, lp199, T199_ex, ex199, T199_rg, rg199, T199_jn, jn199, T199_fuel, T199_pins, nl199_4_fix, nl199_4_keep, nl199_4_zero, nx199_0_fix, nx199_0_keep, nx199_0_zero, Γ199_279, g279, hret, h0, ih]
theorem run199 (N : Nat) (v0 : Val Y33) : runT tt Γ199 (T199 N) (Tryz.f199.body.getD .skip) (retR tt true [i4] [.tmp 2]) (entryP [i33] 38 (v0, ())) = m199 N v0 := by
  unfold Tryz.f199
  simp (maxSteps := 10000000) -implicitDefEqProofs [T199_tr, tr199, T199_lp, lp199, T199_ex, ex199, T199_rg, rg199, T199_jn, jn199, T199_fuel, T199_pins, nl199_4_fix, nl199_4_keep, nl199_4_zero, nx199_0_fix, nx199_0_keep, nx199_0_zero, Γ199_279, g279]
  rewrite [r199_l4 (k0 := (fun (_ : Unit) => some (true, ()))) N _ _ _ _ ?_ ?_ ?_]
  · rewrite [m199]; first | rfl | simp (maxSteps := 10000000) -implicitDefEqProofs []
  · rfl
  · intro; simp only [seqR_ret, blockR_ret, retR_ret, retX_ret]
  · simp (maxSteps := 10000000) -implicitDefEqProofs [T199_tr, tr199, T199_lp, lp199, T199_ex, ex199, T199_rg, rg199, T199_jn, jn199, T199_fuel, T199_pins, nl199_4_fix, nl199_4_keep, nl199_4_zero, nx199_0_fix, nx199_0_keep, nx199_0_zero, Γ199_279, g279]
theorem t104 (N : Nat) (d : Int) (xs : List (Val Y108)) (K : Unit → Option (Vals [i4])) (hl : xs.length ≤ 1048576) (n : Nat) (hn : xs.length < n) : m104_l2 N d xs K n 0 = bif xs.all (fun a => isAtom a && decide ((List.length (α := Val (.int .i64)) a.1 : Int) = d)) then K () else some (false, ()) :=
  (loop_fold (F := fun n i (_ : Unit) => m104_l2 N d xs K n i) (step := fun _ x _ K => bif (isAtom x && decide ((List.length (α := Val (.int .i64)) x.1 : Int) = d)) then K () else some (false, ())) (k := K) hl (fun n i s hi => by
    rw [m104_l2, bif_dec (by omega), chk_pos (by omega), chk_pos (by omega), getD_atI hi]
    cases isAtom xs[i] <;> simp [bif_not]) (fun n i s hi => by rw [m104_l2, bif_decN (by omega)]) n () hn).trans (foldK_all xs 0)
theorem t199 (N : Nat) (d : Int) (xs ys : List (Val Y108)) (K : Unit → Option (Vals [i4])) (hl : xs.length ≤ 1048576) (n : Nat) (hn : xs.length < n) : m199_l4 N xs xs.length d ys K n 0 = bif xs.all (fun a => isAtom a && decide ((List.length (α := Val (.int .i64)) a.1 : Int) = d)) then K () else some (false, ()) :=
  (loop_fold (F := fun n i (_ : Unit) => m199_l4 N xs xs.length d ys K n i) (step := fun _ x _ K => bif (isAtom x && decide ((List.length (α := Val (.int .i64)) x.1 : Int) = d)) then K () else some (false, ())) (k := K) hl (fun n i s hi => by
    rw [m199_l4, bif_dec (by omega), chk_pos (by omega), getD_atI hi]
    cases isAtom xs[i] <;> simp [bif_not]) (fun n i s hi => by rw [m199_l4, bif_decN (by omega)]) n () hn).trans (foldK_all xs 0)
def g104 : G := { ps := [i33], rs := [i4], dp := true, pre := fun x => isCell_pre x.1, fn := fun x => (isCell x.1, ()) }
def g199 : G := { ps := [i33], rs := [i4], dp := true, pre := fun _ => True, fn := fun x => (isCell x.1, ()) }
theorem e104 (c : Val Y33) (h : isCell_pre c) : ∃ N, m104 N c = some (isCell c, ()) := ⟨List.length (α := Val Y108) c.2 + 1, by
  obtain ⟨d, xs⟩ := c
  change Int at d
  change List (Val Y108) at xs
  rw [m104, isCell]
  dsimp only
  rw [t104 _ _ _ _ h _ (Nat.lt_succ_self _)]
  simp only [inR]
  cases List.all xs _ <;> cases decide (0 ≤ d ∧ d ≤ 4) <;> simp⟩
theorem s104 : Sound Tryz.prog 104 g104 := sound_run (tt := tt) (Γ := Γ104) hT (ok_cons s118 (ok_cons s193 ok_nil)) hm (fn := Tryz.f104) Tryz.func104 (c := Tryz.f104.body.getD .skip) (by kernel_rfl) (by kernel_rfl) fun x hx => by
  obtain ⟨N, h⟩ := e104 x.1 hx
  exact ⟨T104 N, p104, noSem_ok _, tb104 N, (run104 N x.1).trans h⟩
theorem e199 (c : Val Y33) : ∃ N, m199 N c = some (isCell c, ()) := ⟨List.length (α := Val Y108) c.2 + 1, by
  obtain ⟨d, xs⟩ := c
  change Int at d
  change List (Val Y108) at xs
  rw [m199, isCell]
  dsimp only
  by_cases h1 : d < 0
  · have : ¬ (0 ≤ d ∧ d ≤ 4) := by omega
    simp [h1, this]
  · by_cases h2 : 4 < d
    · have : ¬ (0 ≤ d ∧ d ≤ 4) := by omega
      simp [h1, h2, this]
    · have : 0 ≤ d ∧ d ≤ 4 := by omega
      by_cases h3 : (16 : Int) < xs.length
      · have h3' : ¬ (xs.length : Int) ≤ 16 := by omega
        simp only [h1, h2, h3, h3', decide_true, decide_false, cond_true, cond_false, Bool.and_false, Bool.false_and]
      · have h3' : (xs.length : Int) ≤ 16 := by omega
        rw [t199 _ _ _ _ _ (by omega) _ (Nat.lt_succ_self _)]
        simp only [h1, h2, h3, h3', this, decide_true, decide_false, cond_true, cond_false, Bool.true_and, and_self]
        cases List.all xs _ <;> rfl⟩
theorem s199 : Sound Tryz.prog 199 g199 := sound_run (tt := tt) (Γ := Γ199) hT (ok_cons s279 ok_nil) hm (fn := Tryz.f199) Tryz.func199 (c := Tryz.f199.body.getD .skip) (by kernel_rfl) (by kernel_rfl) fun x hx => by
  obtain ⟨N, h⟩ := e199 x.1
  exact ⟨T199 N, p199, noSem_ok _, tb199 N, (run199 N x.1).trans h⟩
end Go.T
