/- Cells of relations: the law. -/
import Derived.Test.YtkjiecjpdbpghaaA3
import Derived.Test.YtkjiecjpdbpghaaA11
import Derived.Test.YtkjiecjpdbpghaaA8
set_option linter.unusedSimpArgs false
set_option linter.unusedVariables false
namespace Go.T
open Go Go.Proofs
set_option maxHeartbeats 4000000
set_option maxRecDepth 100000
def rowIs (l : ByteArray) (x : Val Y116) : Bool := (ByteArray.toList l == ByteArray.toList (ByteArray.mk #[])) || (ByteArray.toList x.1 == ByteArray.toList l)
def rowCell (x : Val Y116) : Val Y36 := x.2
def cellsIn (xs : List (Val Y116)) (l : ByteArray) : List (Val Y36) := (xs.filter (rowIs l)).map rowCell
def cellsOf (r : Val Y53) (l : ByteArray) : Val Y71 × Bool := bif isRel r then ((r.2.1, cellsIn r.2.2 l), true) else ((0, []), false)
def cellsOf_pre (r : Val Y53) (_ : ByteArray) : Prop := Bd Y53 r
-- spec.CellsOf
noncomputable def m39_l5 (N : Nat) (v2 : ByteArray) (v4 : ByteArray) (v5 : Int) (v6 : List (Val Y116)) (v7 : Int) (v8 : Int) (k0 : (List (Val Y36)) → Option (Vals [i71, i4])) : Nat → Int → (List (Val Y36)) → Option (Vals [i71, i4])
  | 0, _, _ => none
  | n + 1, v3, v9 => bif (decide (v3 < (v6.length : Int))) then (bif (ByteArray.toList v2 == ByteArray.toList (ByteArray.mk #[])) then (chk (0 ≤ v3 ∧ v3 < (v6.length : Int)) (chk (cpCell_pre ((v6.getD v3.toNat (dflt Y116)).2)) (chk (v9.length + ([(((cpCell ((v6.getD v3.toNat (dflt Y116)).2)).1 : Int), ((cpCell ((v6.getD v3.toNat (dflt Y116)).2)).2 : List (Val Y106)))] : List (Val Y36)).length ≤ 1048576) (m39_l5 N v2 v4 v5 v6 v7 v8 k0 n (IntKind.i64.wrap (v3 + (1 : Int))) (v9 ++ ([(((cpCell ((v6.getD v3.toNat (dflt Y116)).2)).1 : Int), ((cpCell ((v6.getD v3.toNat (dflt Y116)).2)).2 : List (Val Y106)))] : List (Val Y36))))))) else (chk (0 ≤ v3 ∧ v3 < (v6.length : Int)) (bif (ByteArray.toList ((v6.getD v3.toNat (dflt Y116)).1 : ByteArray) == ByteArray.toList v2) then (chk (0 ≤ v3 ∧ v3 < (v6.length : Int)) (chk (cpCell_pre ((v6.getD v3.toNat (dflt Y116)).2)) (chk (v9.length + ([(((cpCell ((v6.getD v3.toNat (dflt Y116)).2)).1 : Int), ((cpCell ((v6.getD v3.toNat (dflt Y116)).2)).2 : List (Val Y106)))] : List (Val Y36)).length ≤ 1048576) (m39_l5 N v2 v4 v5 v6 v7 v8 k0 n (IntKind.i64.wrap (v3 + (1 : Int))) (v9 ++ ([(((cpCell ((v6.getD v3.toNat (dflt Y116)).2)).1 : Int), ((cpCell ((v6.getD v3.toNat (dflt Y116)).2)).2 : List (Val Y106)))] : List (Val Y36))))))) else (m39_l5 N v2 v4 v5 v6 v7 v8 k0 n (IntKind.i64.wrap (v3 + (1 : Int))) v9)))) else (k0 v9)
noncomputable def m39 (N : Nat) (v0 : Val Y53) (v1 : ByteArray) : Option (Vals [i71, i4]) := chk (isRel_pre v0) (bif (!((isRel v0) : Bool)) then (some (((0 : Int), ([] : List (Val Y36))), false, ())) else (m39_l5 N v1 (v0.1 : ByteArray) (v0.2.1 : Int) (v0.2.2 : List (Val Y116)) (0 : Int) (v0.2.1 : Int) (fun (v11 : List (Val Y36)) => some (((v0.2.1 : Int), v11), true, ())) N (0 : Int) ([] : List (Val Y36))))
def Γ39 : Gam := [(29, g29), (88, g88)]
theorem Γ39_29 : Gam.get Γ39 29 = some g29 := rfl
theorem Γ39_88 : Gam.get Γ39 88 = some g88 := rfl
def nl39_5 : Nm := ⟨[false, true, true, false, true, false, true, true], [.box 6 1 36 Y36]⟩
theorem nl39_5_fix : nl39_5.fix = [.box 6 1 36 Y36] := rfl
theorem nl39_5_keep : nl39_5.keep = [false, true, true, false, true, false, true, true] := rfl
def nx39_0 : Nm := ⟨[false, false, false, false, true, false, true], []⟩
theorem nx39_0_fix : nx39_0.fix = [] := rfl
theorem nx39_0_keep : nx39_0.keep = [false, false, false, false, true, false, true] := rfl
def nr39_8 : Nm := ⟨[false, true, true, false, true, false, true, true], []⟩
theorem nr39_8_fix : nr39_8.fix = [] := rfl
theorem nr39_8_keep : nr39_8.keep = [false, true, true, false, true, false, true, true] := rfl
def tr39 : Nat → Tree := fun i => if i = 8 then .quiet 2 (.quiet 3 (.quiet 4 (.quiet 5 (.quiet 6 (.quiet 7 (.alt 0 (.alt 1 (.alt 8 (.alt 9 (.alt 10 (.quiet 11 (.alt 12 .done .stop)) .stop) .stop) .stop) (.alt 8 (.alt 1 (.alt 9 (.alt 10 (.quiet 11 (.alt 12 .done .stop)) .stop) .stop) (.alt 9 (.quiet 1 (.alt 10 (.quiet 11 (.alt 12 .done .stop)) .stop)) .stop)) .stop)) (.alt 8 (.alt 0 (.alt 1 (.alt 9 (.alt 10 (.quiet 11 (.alt 12 .done .stop)) .stop) .stop) (.alt 9 (.quiet 1 (.alt 10 (.quiet 11 (.alt 12 .done .stop)) .stop)) .stop)) (.alt 9 (.quiet 0 (.quiet 1 (.alt 10 (.quiet 11 (.alt 12 .done .stop)) .stop))) .stop)) .stop))))))) else .done
def lp39 : Nat → Nm := fun i => if i = 5 then nl39_5 else ⟨[], []⟩
def ex39 : Nat → Option Nm := fun i => if i = 0 then some nx39_0 else none
def rg39 : Nat → Option Nm := fun i => if i = 8 then some nr39_8 else none
theorem p39 : plansOk tr39 (Try.f39.body.getD .skip) = true := by kernel_rfl
def T39 (N : Nat) : Tab := { tr := tr39, lp := lp39, ex := ex39, rg := rg39, fuel := N }
theorem T39_pins (N : Nat) : (T39 N).pins = false := rfl
theorem T39_tr (N i : Nat) : (T39 N).tr i = tr39 i := rfl
theorem T39_lp (N i : Nat) : (T39 N).lp i = lp39 i := rfl
theorem T39_ex (N i : Nat) : (T39 N).ex i = ex39 i := rfl
theorem T39_rg (N i : Nat) : (T39 N).rg i = rg39 i := rfl
theorem T39_fuel (N : Nat) : (T39 N).fuel = N := rfl
noncomputable def c39_5 : Code := cut [true, true, true, false, true, true, true] (Try.f39.body.getD .skip)
theorem c39_5_at {N : Nat} {Q : X → St → Option (Vals [i71, i4])} {e : List LV} {h : List Blk} : runT tt Γ39 (T39 N) c39_5 Q ⟨e, h⟩ = runT tt Γ39 (T39 N) (cut [true, true, true, false, true, true, true] (Try.f39.body.getD .skip)) Q ⟨e, h⟩ := rfl
theorem r39_l5 (N : Nat) (v2 : ByteArray) (v4 : ByteArray) (v5 : Int) (v6 : List (Val Y116)) (v7 : Int) (v8 : Int) {k0 : (List (Val Y36)) → Option (Vals [i71, i4])} {Q : X → St → Option (Vals [i71, i4])} {c : Code} (hc : c = c39_5) (hret : ∀ st, Q .ret st = retS tt true [i71, i4] [.cell 4 71, .tmp 5] st) (h0 : ∀ (v10 : List (Val Y36)), Q (.exit 0) ⟨[u, u, u, u, .one (.ptr 0 0 0), u, .one (.ptr 1 0 0), u, u, u, u, u, u, u, u, u, u, u, u, u, u, u, u, u, u, u, u, u, u, u, u, u, u, u, u, u, u, u, u, u, u, u, u, u, u, u, u], [.box [.int .i64 v7, .nils], .box [.int .i64 v8, .own 2], .row 36 Y36 v10 true true 0]⟩ = k0 v10) : ∀ (n : Nat) (v3 : Int) (v9 : List (Val Y36)), loopR (runT tt Γ39 (T39 N) c) false nl39_5 Q n ⟨[u, .one (.str v2), .one (.ptr 0 0 0), u, .one (.ptr 1 0 0), u, .one (.ptr 2 0 0), .one (.int .i64 v3), u, u, u, u, u, u, u, u, u, u, u, u, u, u, u, u, u, u, u, u, u, u, u, u, u, u, u, u, u, u, u, u, u, u, u, u, u, u, u], [.box [.str v4, .int .i64 v5, .sl 116 Y116 v6 4], .box [.int .i64 v7, .nils], .box [.int .i64 v8, .own 3], .row 36 Y36 v9 true true 0]⟩ = m39_l5 N v2 v4 v5 v6 v7 v8 k0 n v3 v9 := by
  subst hc; intro n; induction n with
  | zero => intros; rfl
  | succ n ih =>
    intro v3 v9
    rw [loop_succ, c39_5_at, m39_l5]; unfold Try.f39
    simp (maxSteps := 10000000) -implicitDefEqProofs [T39_tr, tr39, T39_lp, lp39, T39_ex, ex39, T39_rg, rg39, T39_fuel, T39_pins, nl39_5_fix, nl39_5_keep, nx39_0_fix, nx39_0_keep, nr39_8_fix, nr39_8_keep, Γ39_29, Γ39_88, g29, g88, hret, h0, ih]
theorem run39 (N : Nat) (v0 : Val Y53) (v1 : ByteArray) : runT tt Γ39 (T39 N) (Try.f39.body.getD .skip) (retR tt true [i71, i4] [.cell 4 71, .tmp 5]) (entryP [i53, i9] 47 (v0, v1, ())) = m39 N v0 v1 := by
  unfold Try.f39
  simp (maxSteps := 10000000) -implicitDefEqProofs [T39_tr, tr39, T39_lp, lp39, T39_ex, ex39, T39_rg, rg39, T39_fuel, T39_pins, nl39_5_fix, nl39_5_keep, nx39_0_fix, nx39_0_keep, nr39_8_fix, nr39_8_keep, Γ39_29, Γ39_88, g29, g88]
  rewrite [r39_l5 (k0 := (fun (v11 : List (Val Y36)) => some (((v0.2.1 : Int), v11), true, ()))) N _ _ _ _ _ _ ?_ ?_ ?_]
  · rewrite [m39]; first | rfl | simp (maxSteps := 10000000) -implicitDefEqProofs []
  · rfl
  · intro; simp only [seqR_ret, blockR_ret, retR_ret, retX_ret]
  · intro v11; simp (maxSteps := 10000000) -implicitDefEqProofs [T39_tr, tr39, T39_lp, lp39, T39_ex, ex39, T39_rg, rg39, T39_fuel, T39_pins, nl39_5_fix, nl39_5_keep, nx39_0_fix, nx39_0_keep, nr39_8_fix, nr39_8_keep, Γ39_29, Γ39_88, g29, g88]
-- impl.CellsOf
noncomputable def m40_l5 (N : Nat) (v2 : ByteArray) (v3 : List (Val Y116)) (v4 : Int) (v6 : Int) (v7 : Int) (k0 : (List (Val Y36)) → Option (Vals [i71, i4])) : Nat → Int → (List (Val Y36)) → Option (Vals [i71, i4])
  | 0, _, _ => none
  | n + 1, v5, v8 => bif (decide (v5 < v4)) then (chk (0 ≤ v5 ∧ v5 < (v3.length : Int)) (bif (ByteArray.toList v2 == ByteArray.toList (ByteArray.mk #[])) then (chk (cpCell_pre ((v3.getD v5.toNat (dflt Y116)).2)) (chk (v8.length + ([(((cpCell ((v3.getD v5.toNat (dflt Y116)).2)).1 : Int), ((cpCell ((v3.getD v5.toNat (dflt Y116)).2)).2 : List (Val Y106)))] : List (Val Y36)).length ≤ 1048576) (m40_l5 N v2 v3 v4 v6 v7 k0 n (IntKind.i64.wrap (v5 + (1 : Int))) (v8 ++ ([(((cpCell ((v3.getD v5.toNat (dflt Y116)).2)).1 : Int), ((cpCell ((v3.getD v5.toNat (dflt Y116)).2)).2 : List (Val Y106)))] : List (Val Y36)))))) else (bif (ByteArray.toList ((v3.getD v5.toNat (dflt Y116)).1 : ByteArray) == ByteArray.toList v2) then (chk (cpCell_pre ((v3.getD v5.toNat (dflt Y116)).2)) (chk (v8.length + ([(((cpCell ((v3.getD v5.toNat (dflt Y116)).2)).1 : Int), ((cpCell ((v3.getD v5.toNat (dflt Y116)).2)).2 : List (Val Y106)))] : List (Val Y36)).length ≤ 1048576) (m40_l5 N v2 v3 v4 v6 v7 k0 n (IntKind.i64.wrap (v5 + (1 : Int))) (v8 ++ ([(((cpCell ((v3.getD v5.toNat (dflt Y116)).2)).1 : Int), ((cpCell ((v3.getD v5.toNat (dflt Y116)).2)).2 : List (Val Y106)))] : List (Val Y36)))))) else (m40_l5 N v2 v3 v4 v6 v7 k0 n (IntKind.i64.wrap (v5 + (1 : Int))) v8)))) else (k0 v8)
noncomputable def m40 (N : Nat) (v0 : Val Y53) (v1 : ByteArray) : Option (Vals [i71, i4]) := bif (!((isRel v0) : Bool)) then (some (((0 : Int), ([] : List (Val Y36))), false, ())) else (m40_l5 N v1 (v0.2.2 : List (Val Y116)) ((v0.2.2 : List (Val Y116)).length : Int) (0 : Int) (v0.2.1 : Int) (fun (v10 : List (Val Y36)) => some (((v0.2.1 : Int), v10), true, ())) N (0 : Int) ([] : List (Val Y36)))
def Γ40 : Gam := [(31, g31), (89, g89)]
theorem Γ40_31 : Gam.get Γ40 31 = some g31 := rfl
theorem Γ40_89 : Gam.get Γ40 89 = some g89 := rfl
def nl40_5 : Nm := ⟨[false, true, false, false, true, false, true, false, false, false, false, false, false, false, false, false, false, false, true, true, true], []⟩
theorem nl40_5_fix : nl40_5.fix = [] := rfl
theorem nl40_5_keep : nl40_5.keep = [false, true, false, false, true, false, true, false, false, false, false, false, false, false, false, false, false, false, true, true, true] := rfl
def nx40_0 : Nm := ⟨[false, false, false, false, true, false, true], []⟩
theorem nx40_0_fix : nx40_0.fix = [] := rfl
theorem nx40_0_keep : nx40_0.keep = [false, false, false, false, true, false, true] := rfl
def nr40_8 : Nm := ⟨[false, true, false, false, true, false, true, false, false, false, false, false, false, false, false, false, false, false, true, true, true], []⟩
theorem nr40_8_fix : nr40_8.fix = [] := rfl
theorem nr40_8_keep : nr40_8.keep = [false, true, false, false, true, false, true, false, false, false, false, false, false, false, false, false, false, false, true, true, true] := rfl
def tr40 : Nat → Tree := fun i => if i = 8 then .quiet 2 (.quiet 3 (.alt 0 (.alt 1 (.alt 4 (.alt 5 (.alt 6 (.quiet 7 (.alt 8 .done .stop)) .stop) .stop) .stop) (.alt 4 (.alt 1 (.alt 5 (.alt 6 (.quiet 7 (.alt 8 .done .stop)) .stop) .stop) (.alt 5 (.quiet 1 (.alt 6 (.quiet 7 (.alt 8 .done .stop)) .stop)) .stop)) .stop)) (.alt 4 (.alt 0 (.alt 1 (.alt 5 (.alt 6 (.quiet 7 (.alt 8 .done .stop)) .stop) .stop) (.alt 5 (.quiet 1 (.alt 6 (.quiet 7 (.alt 8 .done .stop)) .stop)) .stop)) (.alt 5 (.quiet 0 (.quiet 1 (.alt 6 (.quiet 7 (.alt 8 .done .stop)) .stop))) .stop)) .stop))) else .done
def lp40 : Nat → Nm := fun i => if i = 5 then nl40_5 else ⟨[], []⟩
def ex40 : Nat → Option Nm := fun i => if i = 0 then some nx40_0 else none
def rg40 : Nat → Option Nm := fun i => if i = 8 then some nr40_8 else none
theorem p40 : plansOk tr40 (Try.f40.body.getD .skip) = true := by kernel_rfl
def T40 (N : Nat) : Tab := { tr := tr40, lp := lp40, ex := ex40, rg := rg40, fuel := N }
theorem T40_pins (N : Nat) : (T40 N).pins = false := rfl
theorem T40_tr (N i : Nat) : (T40 N).tr i = tr40 i := rfl
theorem T40_lp (N i : Nat) : (T40 N).lp i = lp40 i := rfl
theorem T40_ex (N i : Nat) : (T40 N).ex i = ex40 i := rfl
theorem T40_rg (N i : Nat) : (T40 N).rg i = rg40 i := rfl
theorem T40_fuel (N : Nat) : (T40 N).fuel = N := rfl
noncomputable def c40_5 : Code := cut [true, true, true, false, true, true, true] (Try.f40.body.getD .skip)
theorem c40_5_at {N : Nat} {Q : X → St → Option (Vals [i71, i4])} {e : List LV} {h : List Blk} : runT tt Γ40 (T40 N) c40_5 Q ⟨e, h⟩ = runT tt Γ40 (T40 N) (cut [true, true, true, false, true, true, true] (Try.f40.body.getD .skip)) Q ⟨e, h⟩ := rfl
theorem r40_l5 (N : Nat) (v2 : ByteArray) (v3 : List (Val Y116)) (v4 : Int) (v6 : Int) (v7 : Int) {k0 : (List (Val Y36)) → Option (Vals [i71, i4])} {Q : X → St → Option (Vals [i71, i4])} {c : Code} (hc : c = c40_5) (hret : ∀ st, Q .ret st = retS tt true [i71, i4] [.cell 4 71, .tmp 5] st) (h0 : ∀ (v9 : List (Val Y36)), Q (.exit 0) ⟨[u, u, u, u, .one (.ptr 0 0 0), u, .one (.ptr 1 0 0), u, u, u, u, u, u, u, u, u, u, u, u, u, u, u, u, u, u, u, u, u, u, u, u, u, u, u, u, u, u, u, u, u, u, u], [.box [.int .i64 v6, .nils], .box [.int .i64 v7, .own 2], .row 36 Y36 v9 true true 0]⟩ = k0 v9) : ∀ (n : Nat) (v5 : Int) (v8 : List (Val Y36)), loopR (runT tt Γ40 (T40 N) c) false nl40_5 Q n ⟨[u, .one (.str v2), u, u, .one (.ptr 0 0 0), u, .one (.ptr 1 0 0), u, u, u, u, u, u, u, u, u, u, u, .one (.sl 116 Y116 v3 3), .one (.int .i64 v4), .one (.int .i64 v5), u, u, u, u, u, u, u, u, u, u, u, u, u, u, u, u, u, u, u, u, u], [.box [.int .i64 v6, .nils], .box [.int .i64 v7, .own 2], .row 36 Y36 v8 true true 0]⟩ = m40_l5 N v2 v3 v4 v6 v7 k0 n v5 v8 := by
  subst hc; intro n; induction n with
  | zero => intros; rfl
  | succ n ih =>
    intro v5 v8
    rw [loop_succ, c40_5_at, m40_l5]; unfold Try.f40
    simp (maxSteps := 10000000) -implicitDefEqProofs [T40_tr, tr40, T40_lp, lp40, T40_ex, ex40, T40_rg, rg40, T40_fuel, T40_pins, nl40_5_fix, nl40_5_keep, nx40_0_fix, nx40_0_keep, nr40_8_fix, nr40_8_keep, Γ40_31, Γ40_89, g31, g89, hret, h0, ih]
theorem run40 (N : Nat) (v0 : Val Y53) (v1 : ByteArray) : runT tt Γ40 (T40 N) (Try.f40.body.getD .skip) (retR tt true [i71, i4] [.cell 4 71, .tmp 5]) (entryP [i53, i9] 42 (v0, v1, ())) = m40 N v0 v1 := by
  unfold Try.f40
  simp (maxSteps := 10000000) -implicitDefEqProofs [T40_tr, tr40, T40_lp, lp40, T40_ex, ex40, T40_rg, rg40, T40_fuel, T40_pins, nl40_5_fix, nl40_5_keep, nx40_0_fix, nx40_0_keep, nr40_8_fix, nr40_8_keep, Γ40_31, Γ40_89, g31, g89]
  rewrite [r40_l5 (k0 := (fun (v10 : List (Val Y36)) => some (((v0.2.1 : Int), v10), true, ()))) N _ _ _ _ _ ?_ ?_ ?_]
  · rewrite [m40]; first | rfl | simp (maxSteps := 10000000) -implicitDefEqProofs []
  · rfl
  · intro; simp only [seqR_ret, blockR_ret, retR_ret, retX_ret]
  · intro v10; simp (maxSteps := 10000000) -implicitDefEqProofs [T40_tr, tr40, T40_lp, lp40, T40_ex, ex40, T40_rg, rg40, T40_fuel, T40_pins, nl40_5_fix, nl40_5_keep, nx40_0_fix, nx40_0_keep, nr40_8_fix, nr40_8_keep, Γ40_31, Γ40_89, g31, g89]
def g39 : G := { ps := [i53, i9], rs := [i71, i4], dp := true, pre := fun x => cellsOf_pre x.1 x.2.1, fn := fun x => ((cellsOf x.1 x.2.1).1, (cellsOf x.1 x.2.1).2, ()) }
def g40 : G := { ps := [i53, i9], rs := [i71, i4], dp := true, pre := fun x => cellsOf_pre x.1 x.2.1, fn := fun x => ((cellsOf x.1 x.2.1).1, (cellsOf x.1 x.2.1).2, ()) }
theorem e39 (r : Val Y53) (l : ByteArray) (h : cellsOf_pre r l) : ∃ N, m39 N r l = some ((cellsOf r l).1, (cellsOf r l).2, ()) := ⟨List.length (α := Val Y116) r.2.2 + 1, by
  rw [m39, cellsOf, chk_pos (show isRel_pre r from h), bif_not]
  cases isRel r with
  | false => rfl
  | true =>
    obtain ⟨nm, d, xs⟩ := r
    change Int at d
    change List (Val Y116) at xs
    obtain ⟨-, -, h1, h2⟩ := h
    replace h1 : xs.length ≤ 1048576 := h1
    refine (loop_fold (F := fun n i s => m39_l5 _ l nm d xs 0 d _ n i s) (step := fun _ x s K => bif rowIs l x then chk (s.length + [rowCell x].length ≤ 1048576) (K (s ++ [rowCell x])) else K s) (k := fun s => some ((d, s), true, ())) h1 (fun n i s hi => ?_) (fun n i s hi => ?_) _ [] (Nat.lt_succ_self _)).trans ?_
    · rw [m39_l5, bif_dec (by omega), chk_pos (by omega), getD_atI hi, chk_pos (show cpCell_pre _ from (h2 _ (List.getElem_mem hi)).2), chk_pos (show 0 ≤ (i : Int) ∧ (i : Int) < (xs.length : Int) by omega), rowIs]
      cases (ByteArray.toList l == ByteArray.toList (ByteArray.mk #[])) <;> cases (ByteArray.toList xs[i].1 == ByteArray.toList l) <;> rfl
    · rw [m39_l5, bif_decN (by omega)]
    · exact foldK_gath xs 0 [] (by simpa using h1)⟩
theorem e40 (r : Val Y53) (l : ByteArray) (h : cellsOf_pre r l) : ∃ N, m40 N r l = some ((cellsOf r l).1, (cellsOf r l).2, ()) := ⟨List.length (α := Val Y116) r.2.2 + 1, by
  rw [m40, cellsOf, bif_not]
  cases isRel r with
  | false => rfl
  | true =>
    obtain ⟨nm, d, xs⟩ := r
    change Int at d
    change List (Val Y116) at xs
    obtain ⟨-, -, h1, h2⟩ := h
    replace h1 : xs.length ≤ 1048576 := h1
    refine (loop_fold (F := fun n i s => m40_l5 _ l xs xs.length 0 d _ n i s) (step := fun _ x s K => bif rowIs l x then chk (s.length + [rowCell x].length ≤ 1048576) (K (s ++ [rowCell x])) else K s) (k := fun s => some ((d, s), true, ())) h1 (fun n i s hi => ?_) (fun n i s hi => ?_) _ [] (Nat.lt_succ_self _)).trans ?_
    · rw [m40_l5, bif_dec (by omega), chk_pos (by omega), getD_atI hi, chk_pos (show cpCell_pre _ from (h2 _ (List.getElem_mem hi)).2), rowIs]
      cases (ByteArray.toList l == ByteArray.toList (ByteArray.mk #[])) <;> cases (ByteArray.toList xs[i].1 == ByteArray.toList l) <;> rfl
    · rw [m40_l5, bif_decN (by omega)]
    · exact foldK_gath xs 0 [] (by simpa using h1)⟩
theorem s39 : Sound Try.prog 39 g39 := sound_run (tt := tt) (Γ := Γ39) hT (ok_cons s29 (ok_cons s88 ok_nil)) hm (fn := Try.f39) Try.func39 (c := Try.f39.body.getD .skip) (by kernel_rfl) (by kernel_rfl) fun x hx => by
  obtain ⟨N, h⟩ := e39 x.1 x.2.1 hx
  exact ⟨T39 N, p39, noSem_ok _, (run39 N x.1 x.2.1).trans h⟩
theorem s40 : Sound Try.prog 40 g40 := sound_run (tt := tt) (Γ := Γ40) hT (ok_cons s31 (ok_cons s89 ok_nil)) hm (fn := Try.f40) Try.func40 (c := Try.f40.body.getD .skip) (by kernel_rfl) (by kernel_rfl) fun x hx => by
  obtain ⟨N, h⟩ := e40 x.1 x.2.1 hx
  exact ⟨T40 N, p40, noSem_ok _, (run40 N x.1 x.2.1).trans h⟩
theorem smallCells {xs : List (Val Y36)} {n : Nat} (hn : xs.length ≤ n) (hn' : n ≤ 1048576) (h : ∀ x ∈ xs, isCell x = true) : Bd (.slice 36 Y36) xs ∧ cntT (.slice 36 Y36) xs ≤ n * 97 := by
  have hx : ∀ x ∈ xs, List.length (α := Val Y106) x.2 ≤ 16 ∧ ∀ a ∈ (x.2 : List (Val Y106)), List.length (α := Int) a.1 ≤ 4 := fun x hm => by
    obtain ⟨-, h2, h3⟩ := cell_in (h x hm)
    exact ⟨h2, fun a ha => (atom_in (h3 a ha).1).1⟩
  refine ⟨⟨Nat.le_trans hn hn', fun x hm => ⟨trivial, Nat.le_trans (hx x hm).1 (by decide), fun a ha => ⟨⟨Nat.le_trans ((hx x hm).2 a ha) (by decide), fun _ _ => trivial⟩, trivial, trivial⟩⟩⟩, ?_⟩
  have e : cntT (.slice 36 Y36) xs = sumL (cntE Y36) xs := rfl
  have := sum_le (f := cntE Y36) (c := 97) xs fun x hm => by
    have e : cntE Y36 x = 1 + sumL (cntE Y106) x.2 := rfl
    have h1 := (hx x hm).1
    have := sum_le (f := cntE Y106) (c := 6) x.2 fun a ha => by
      have e : cntE Y106 a = sumL (cntE (.int .i64)) a.1 + (1 + 1) := rfl
      rw [e, sum_int]
      have := (hx x hm).2 a ha
      omega
    have : List.length (α := Val Y106) x.2 * 6 ≤ 16 * 6 := Nat.mul_le_mul_right _ h1
    omega
  have : xs.length * 97 ≤ n * 97 := Nat.mul_le_mul_right _ hn
  omega
theorem rel_in {r : Val Y53} (h : isRel r = true) : List.length (α := Val Y116) r.2.2 ≤ 8 ∧ ∀ x ∈ (r.2.2 : List (Val Y116)), isCell x.2 = true := by
  obtain ⟨nm, d, xs⟩ := r
  rw [isRel_eq] at h
  simp only [Bool.and_eq_true, decide_eq_true_eq] at h
  obtain ⟨⟨-, h2⟩, h3⟩ := h
  refine ⟨by have h2 : (xs.length : Int) ≤ 8 := h2; show xs.length ≤ 8; omega, fun x hx => ?_⟩
  have := List.all_eq_true.1 h3 x hx
  unfold rowOk at this
  simp only [Bool.and_eq_true] at this
  exact this.1.2
theorem cellsOf_ok (r : Val Y53) (l : ByteArray) : Bd Y71 (cellsOf r l).1 ∧ cntT Y71 (cellsOf r l).1 ≤ 776 := by
  unfold cellsOf
  cases h : isRel r with
  | false => exact ⟨⟨trivial, Nat.zero_le _, fun a ha => by simp at ha⟩, (by decide : (0 : Nat) ≤ 776)⟩
  | true =>
    obtain ⟨h1, h2⟩ := rel_in h
    obtain ⟨h3, h4⟩ := smallCells (xs := cellsIn r.2.2 l) (n := 8) (by
      unfold cellsIn
      rw [List.length_map]
      exact Nat.le_trans (List.length_filter_le _ _) h1) (by decide) (fun x hx => by
      unfold cellsIn at hx
      obtain ⟨y, hy, rfl⟩ := List.mem_map.1 hx
      exact h2 y (List.mem_filter.1 hy).1)
    exact ⟨⟨trivial, h3⟩, by show 0 + cntT (.slice 36 Y36) (cellsIn r.2.2 l) ≤ 776; omega⟩
-- laws.FnExactCellsOf
noncomputable def m8 (N : Nat) (v0 : Val Y48) (v1 : ByteArray) : Option (Vals [i4]) := bif (decide ((1048576 : Int) < (v1.size : Int))) then (some (true, ())) else (chk (sz_Relation_pre v0 (1048576 : Int)) (bif (decide (((sz_Relation v0 (1048576 : Int)) : Int) < (0 : Int))) then (some (true, ())) else (chk (to_Relation_pre v0) (chk (cellsOf_pre (((to_Relation v0).1 : ByteArray), (((to_Relation v0).2).1 : Int), (((to_Relation v0).2).2 : List (Val Y116))) v1) (chk (to_Relation_pre v0) (chk (cellsOf_pre (((to_Relation v0).1 : ByteArray), (((to_Relation v0).2).1 : Int), (((to_Relation v0).2).2 : List (Val Y116))) v1) (chk (eq_Region_pre ((((cellsOf (((to_Relation v0).1 : ByteArray), (((to_Relation v0).2).1 : Int), (((to_Relation v0).2).2 : List (Val Y116))) v1).1).1 : Int), (((cellsOf (((to_Relation v0).1 : ByteArray), (((to_Relation v0).2).1 : Int), (((to_Relation v0).2).2 : List (Val Y116))) v1).1).2 : List (Val Y36))) ((((cellsOf (((to_Relation v0).1 : ByteArray), (((to_Relation v0).2).1 : Int), (((to_Relation v0).2).2 : List (Val Y116))) v1).1).1 : Int), (((cellsOf (((to_Relation v0).1 : ByteArray), (((to_Relation v0).2).1 : Int), (((to_Relation v0).2).2 : List (Val Y116))) v1).1).2 : List (Val Y36)))) (bif (!((eq_Region ((((cellsOf (((to_Relation v0).1 : ByteArray), (((to_Relation v0).2).1 : Int), (((to_Relation v0).2).2 : List (Val Y116))) v1).1).1 : Int), (((cellsOf (((to_Relation v0).1 : ByteArray), (((to_Relation v0).2).1 : Int), (((to_Relation v0).2).2 : List (Val Y116))) v1).1).2 : List (Val Y36))) ((((cellsOf (((to_Relation v0).1 : ByteArray), (((to_Relation v0).2).1 : Int), (((to_Relation v0).2).2 : List (Val Y116))) v1).1).1 : Int), (((cellsOf (((to_Relation v0).1 : ByteArray), (((to_Relation v0).2).1 : Int), (((to_Relation v0).2).2 : List (Val Y116))) v1).1).2 : List (Val Y36)))) : Bool)) then (some (false, ())) else (bif (!(((cellsOf (((to_Relation v0).1 : ByteArray), (((to_Relation v0).2).1 : Int), (((to_Relation v0).2).2 : List (Val Y116))) v1).2 : Bool) == ((cellsOf (((to_Relation v0).1 : ByteArray), (((to_Relation v0).2).1 : Int), (((to_Relation v0).2).2 : List (Val Y116))) v1).2 : Bool))) then (some (false, ())) else (chk (to_Relation_pre v0) (chk (eq_Relation_pre (((to_Relation v0).1 : ByteArray), (((to_Relation v0).2).1 : Int), (((to_Relation v0).2).2 : List (Val Y116))) (((to_Relation v0).1 : ByteArray), (((to_Relation v0).2).1 : Int), (((to_Relation v0).2).2 : List (Val Y116)))) (bif (!((eq_Relation (((to_Relation v0).1 : ByteArray), (((to_Relation v0).2).1 : Int), (((to_Relation v0).2).2 : List (Val Y116))) (((to_Relation v0).1 : ByteArray), (((to_Relation v0).2).1 : Int), (((to_Relation v0).2).2 : List (Val Y116)))) : Bool)) then (some (false, ())) else (chk (mk_Relation_pre (((to_Relation v0).1 : ByteArray), (((to_Relation v0).2).1 : Int), (((to_Relation v0).2).2 : List (Val Y116))) (1 : Int)) (bif (decide ((mk_Relation_k (((to_Relation v0).1 : ByteArray), (((to_Relation v0).2).1 : Int), (((to_Relation v0).2).2 : List (Val Y116))) (1 : Int)) < (0 : Int))) then (some (false, ())) else (chk (eq_Region_pre ((((cellsOf (((to_Relation v0).1 : ByteArray), (((to_Relation v0).2).1 : Int), (((to_Relation v0).2).2 : List (Val Y116))) v1).1).1 : Int), (((cellsOf (((to_Relation v0).1 : ByteArray), (((to_Relation v0).2).1 : Int), (((to_Relation v0).2).2 : List (Val Y116))) v1).1).2 : List (Val Y36))) ((((cellsOf (((to_Relation v0).1 : ByteArray), (((to_Relation v0).2).1 : Int), (((to_Relation v0).2).2 : List (Val Y116))) v1).1).1 : Int), (((cellsOf (((to_Relation v0).1 : ByteArray), (((to_Relation v0).2).1 : Int), (((to_Relation v0).2).2 : List (Val Y116))) v1).1).2 : List (Val Y36)))) (bif (!((eq_Region ((((cellsOf (((to_Relation v0).1 : ByteArray), (((to_Relation v0).2).1 : Int), (((to_Relation v0).2).2 : List (Val Y116))) v1).1).1 : Int), (((cellsOf (((to_Relation v0).1 : ByteArray), (((to_Relation v0).2).1 : Int), (((to_Relation v0).2).2 : List (Val Y116))) v1).1).2 : List (Val Y36))) ((((cellsOf (((to_Relation v0).1 : ByteArray), (((to_Relation v0).2).1 : Int), (((to_Relation v0).2).2 : List (Val Y116))) v1).1).1 : Int), (((cellsOf (((to_Relation v0).1 : ByteArray), (((to_Relation v0).2).1 : Int), (((to_Relation v0).2).2 : List (Val Y116))) v1).1).2 : List (Val Y36)))) : Bool)) then (some (false, ())) else (bif (!(((cellsOf (((to_Relation v0).1 : ByteArray), (((to_Relation v0).2).1 : Int), (((to_Relation v0).2).2 : List (Val Y116))) v1).2 : Bool) == ((cellsOf (((to_Relation v0).1 : ByteArray), (((to_Relation v0).2).1 : Int), (((to_Relation v0).2).2 : List (Val Y116))) v1).2 : Bool))) then (some (false, ())) else (chk (mk_Region_pre ((((cellsOf (((to_Relation v0).1 : ByteArray), (((to_Relation v0).2).1 : Int), (((to_Relation v0).2).2 : List (Val Y116))) v1).1).1 : Int), (((cellsOf (((to_Relation v0).1 : ByteArray), (((to_Relation v0).2).1 : Int), (((to_Relation v0).2).2 : List (Val Y116))) v1).1).2 : List (Val Y36))) (1 : Int)) (chk (held_Region_pre ((((cellsOf (((to_Relation v0).1 : ByteArray), (((to_Relation v0).2).1 : Int), (((to_Relation v0).2).2 : List (Val Y116))) v1).1).1 : Int), ((mk_Region_v ((((cellsOf (((to_Relation v0).1 : ByteArray), (((to_Relation v0).2).1 : Int), (((to_Relation v0).2).2 : List (Val Y116))) v1).1).1 : Int), (((cellsOf (((to_Relation v0).1 : ByteArray), (((to_Relation v0).2).1 : Int), (((to_Relation v0).2).2 : List (Val Y116))) v1).1).2 : List (Val Y36))) (1 : Int)).2 : List (Val Y36))) (1 : Int)) (bif (decide (((held_Region ((((cellsOf (((to_Relation v0).1 : ByteArray), (((to_Relation v0).2).1 : Int), (((to_Relation v0).2).2 : List (Val Y116))) v1).1).1 : Int), ((mk_Region_v ((((cellsOf (((to_Relation v0).1 : ByteArray), (((to_Relation v0).2).1 : Int), (((to_Relation v0).2).2 : List (Val Y116))) v1).1).1 : Int), (((cellsOf (((to_Relation v0).1 : ByteArray), (((to_Relation v0).2).1 : Int), (((to_Relation v0).2).2 : List (Val Y116))) v1).1).2 : List (Val Y36))) (1 : Int)).2 : List (Val Y36))) (1 : Int)) : Int) < (0 : Int))) then (some (false, ())) else (bif (!(decide (((held_Region ((((cellsOf (((to_Relation v0).1 : ByteArray), (((to_Relation v0).2).1 : Int), (((to_Relation v0).2).2 : List (Val Y116))) v1).1).1 : Int), ((mk_Region_v ((((cellsOf (((to_Relation v0).1 : ByteArray), (((to_Relation v0).2).1 : Int), (((to_Relation v0).2).2 : List (Val Y116))) v1).1).1 : Int), (((cellsOf (((to_Relation v0).1 : ByteArray), (((to_Relation v0).2).1 : Int), (((to_Relation v0).2).2 : List (Val Y116))) v1).1).2 : List (Val Y36))) (1 : Int)).2 : List (Val Y36))) (1 : Int)) : Int) = (mk_Region_k ((((cellsOf (((to_Relation v0).1 : ByteArray), (((to_Relation v0).2).1 : Int), (((to_Relation v0).2).2 : List (Val Y116))) v1).1).1 : Int), (((cellsOf (((to_Relation v0).1 : ByteArray), (((to_Relation v0).2).1 : Int), (((to_Relation v0).2).2 : List (Val Y116))) v1).1).2 : List (Val Y36))) (1 : Int))))) then (some (false, ())) else (chk (to_Relation_pre v0) (chk (cellsOf_pre (((to_Relation v0).1 : ByteArray), (((to_Relation v0).2).1 : Int), (((to_Relation v0).2).2 : List (Val Y116))) v1) (chk (eq_Region_pre ((((cellsOf (((to_Relation v0).1 : ByteArray), (((to_Relation v0).2).1 : Int), (((to_Relation v0).2).2 : List (Val Y116))) v1).1).1 : Int), (((cellsOf (((to_Relation v0).1 : ByteArray), (((to_Relation v0).2).1 : Int), (((to_Relation v0).2).2 : List (Val Y116))) v1).1).2 : List (Val Y36))) ((((cellsOf (((to_Relation v0).1 : ByteArray), (((to_Relation v0).2).1 : Int), (((to_Relation v0).2).2 : List (Val Y116))) v1).1).1 : Int), (((cellsOf (((to_Relation v0).1 : ByteArray), (((to_Relation v0).2).1 : Int), (((to_Relation v0).2).2 : List (Val Y116))) v1).1).2 : List (Val Y36)))) (bif (!((eq_Region ((((cellsOf (((to_Relation v0).1 : ByteArray), (((to_Relation v0).2).1 : Int), (((to_Relation v0).2).2 : List (Val Y116))) v1).1).1 : Int), (((cellsOf (((to_Relation v0).1 : ByteArray), (((to_Relation v0).2).1 : Int), (((to_Relation v0).2).2 : List (Val Y116))) v1).1).2 : List (Val Y36))) ((((cellsOf (((to_Relation v0).1 : ByteArray), (((to_Relation v0).2).1 : Int), (((to_Relation v0).2).2 : List (Val Y116))) v1).1).1 : Int), (((cellsOf (((to_Relation v0).1 : ByteArray), (((to_Relation v0).2).1 : Int), (((to_Relation v0).2).2 : List (Val Y116))) v1).1).2 : List (Val Y36)))) : Bool)) then (some (false, ())) else (bif (!(((cellsOf (((to_Relation v0).1 : ByteArray), (((to_Relation v0).2).1 : Int), (((to_Relation v0).2).2 : List (Val Y116))) v1).2 : Bool) == ((cellsOf (((to_Relation v0).1 : ByteArray), (((to_Relation v0).2).1 : Int), (((to_Relation v0).2).2 : List (Val Y116))) v1).2 : Bool))) then (some (false, ())) else (chk (held_Region_pre ((((cellsOf (((to_Relation v0).1 : ByteArray), (((to_Relation v0).2).1 : Int), (((to_Relation v0).2).2 : List (Val Y116))) v1).1).1 : Int), ((mk_Region_v ((((cellsOf (((to_Relation v0).1 : ByteArray), (((to_Relation v0).2).1 : Int), (((to_Relation v0).2).2 : List (Val Y116))) v1).1).1 : Int), (((cellsOf (((to_Relation v0).1 : ByteArray), (((to_Relation v0).2).1 : Int), (((to_Relation v0).2).2 : List (Val Y116))) v1).1).2 : List (Val Y36))) (1 : Int)).2 : List (Val Y36))) (1 : Int)) (bif (decide (((held_Region ((((cellsOf (((to_Relation v0).1 : ByteArray), (((to_Relation v0).2).1 : Int), (((to_Relation v0).2).2 : List (Val Y116))) v1).1).1 : Int), ((mk_Region_v ((((cellsOf (((to_Relation v0).1 : ByteArray), (((to_Relation v0).2).1 : Int), (((to_Relation v0).2).2 : List (Val Y116))) v1).1).1 : Int), (((cellsOf (((to_Relation v0).1 : ByteArray), (((to_Relation v0).2).1 : Int), (((to_Relation v0).2).2 : List (Val Y116))) v1).1).2 : List (Val Y36))) (1 : Int)).2 : List (Val Y36))) (1 : Int)) : Int) < (0 : Int))) then (some (false, ())) else (bif (!(decide (((held_Region ((((cellsOf (((to_Relation v0).1 : ByteArray), (((to_Relation v0).2).1 : Int), (((to_Relation v0).2).2 : List (Val Y116))) v1).1).1 : Int), ((mk_Region_v ((((cellsOf (((to_Relation v0).1 : ByteArray), (((to_Relation v0).2).1 : Int), (((to_Relation v0).2).2 : List (Val Y116))) v1).1).1 : Int), (((cellsOf (((to_Relation v0).1 : ByteArray), (((to_Relation v0).2).1 : Int), (((to_Relation v0).2).2 : List (Val Y116))) v1).1).2 : List (Val Y36))) (1 : Int)).2 : List (Val Y36))) (1 : Int)) : Int) = (mk_Region_k ((((cellsOf (((to_Relation v0).1 : ByteArray), (((to_Relation v0).2).1 : Int), (((to_Relation v0).2).2 : List (Val Y116))) v1).1).1 : Int), (((cellsOf (((to_Relation v0).1 : ByteArray), (((to_Relation v0).2).1 : Int), (((to_Relation v0).2).2 : List (Val Y116))) v1).1).2 : List (Val Y36))) (1 : Int))))) then (some (false, ())) else (some (true, ())))))))))))))))))))))))))))))))
def Γ8 : Gam := [(28, g28), (30, g30), (32, g32), (39, g39), (40, g40), (41, g41), (44, g44)]
theorem Γ8_28 : Gam.get Γ8 28 = some g28 := rfl
theorem Γ8_30 : Gam.get Γ8 30 = some g30 := rfl
theorem Γ8_32 : Gam.get Γ8 32 = some g32 := rfl
theorem Γ8_39 : Gam.get Γ8 39 = some g39 := rfl
theorem Γ8_40 : Gam.get Γ8 40 = some g40 := rfl
theorem Γ8_41 : Gam.get Γ8 41 = some g41 := rfl
theorem Γ8_44 : Gam.get Γ8 44 = some g44 := rfl
theorem Γ8_42 : Gam.get Γ8 42 = none := rfl
theorem Γ8_43 : Gam.get Γ8 43 = none := rfl
def sem8 : Sem := markSem [(42, gm42), (43, gm43)] []
def tr8 : Nat → Tree := fun i => if i = 12 then .quiet 1 (.alt 0 (.alt 2 (.alt 3 (.quiet 4 .done) .stop) .stop) (.alt 2 (.quiet 0 (.alt 3 (.quiet 4 .done) .stop)) .stop)) else .done
def lp8 : Nat → Nm := fun _ => ⟨[], []⟩
def ex8 : Nat → Option Nm := fun _ => none
def rg8 : Nat → Option Nm := fun _ => none
theorem p8 : plansOk tr8 (Try.f8.body.getD .skip) = true := by kernel_rfl
def T8 (N : Nat) : Tab := { tr := tr8, lp := lp8, ex := ex8, rg := rg8, fuel := N, sem := sem8 }
theorem T8_pins (N : Nat) : (T8 N).pins = false := rfl
theorem T8_sem (N : Nat) : (T8 N).sem = sem8 := rfl
theorem T8_tr (N i : Nat) : (T8 N).tr i = tr8 i := rfl
theorem T8_lp (N i : Nat) : (T8 N).lp i = lp8 i := rfl
theorem T8_ex (N i : Nat) : (T8 N).ex i = ex8 i := rfl
theorem T8_rg (N i : Nat) : (T8 N).rg i = rg8 i := rfl
theorem T8_fuel (N : Nat) : (T8 N).fuel = N := rfl
theorem run8 (N : Nat) (v0 : Val Y48) (v1 : ByteArray) : runT tt Γ8 (T8 N) (Try.f8.body.getD .skip) (retR tt true [i4] [.tmp 4]) (entryP [i48, i9] 104 (v0, v1, ())) = m8 N v0 v1 := by
  rw [m8]; unfold Try.f8
  simp (maxSteps := 10000000) -implicitDefEqProofs [T8_tr, tr8, T8_lp, lp8, T8_ex, ex8, T8_rg, rg8, T8_fuel, T8_pins, T8_sem, sem8, semR', Γ8_42, Γ8_43, gm42, gm43, Γ8_28, Γ8_30, Γ8_32, Γ8_39, Γ8_40, Γ8_41, Γ8_44, g28, g30, g32, g39, g40, g41, g44]
  try rfl
def law8 (_ : Val Y48) (_ : ByteArray) : Bool := true
def law8_pre (x0 : Val Y48) (x1 : ByteArray) : Prop := Sms [i48, i9] (x0, x1, ())
def g8 : G := { ps := [i48, i9], rs := [i4], dp := true, pre := fun x => law8_pre x.1 x.2.1, fn := fun x => (law8 x.1 x.2.1, ()) }
theorem e8 (x : Val Y48) (y : ByteArray) (h : law8_pre x y) : ∃ N, m8 N x y = some (law8 x y, ()) := ⟨0, by
  rw [m8]
  by_cases cy : (1048576 : Int) < (y.size : Int)
  · rw [bif_dec cy]; rfl
  rw [bif_decN cy, chk_pos (show sz_Relation_pre x 1048576 from ⟨h.1, by omega, by omega⟩)]
  by_cases c : sz_Relation x 1048576 < 0
  · rw [bif_dec c]; rfl
  have hsz : 0 ≤ szV Y48 x 1048576 := by have : ¬ szV Y48 x 1048576 < 0 := c; omega
  have hb : Bd Y48 x := szV_Bd Y48 x 1048576 (by omega) (by omega) hsz
  have hcx := cntT_sz Y53 x 1048576 rfl (by omega) hsz
  have hk1 : mk_Relation_k (to_Relation x) 1 = 1 + cntT Y53 x := mkT_k Y53 x 1 (by omega) (by have : 0 ≤ szV Y53 x 1048576 := hsz; omega)
  generalize hp : cellsOf (to_Relation x) y = p
  obtain ⟨hpb, hpc⟩ := hp ▸ cellsOf_ok (to_Relation x) y
  have hk3 : mk_Region_k p.1 1 = 1 + cntT Y71 p.1 := mkT_k Y71 p.1 1 (by omega) (by omega)
  have hh : held_Region_pre (mk_Region_v p.1 1) 1 := ⟨congrArg Prod.fst (mkT_idem Y71 p.1 1), Bd_mkT _ _ _ hpb, by omega, by
    have : cntT Y71 (mk_Region_v p.1 1) = cntT Y71 p.1 := cntT_mk _ _ _
    omega⟩
  have hh' : held_Region_pre (p.1.1, (mk_Region_v p.1 1).2) 1 := hh
  have hv' : held_Region (p.1.1, (mk_Region_v p.1 1).2) 1 = mk_Region_k p.1 1 := congrArg Prod.snd (mkT_idem Y71 p.1 1)
  have hv0 : ¬ held_Region (p.1.1, (mk_Region_v p.1 1).2) 1 < 0 := by omega
  have rf : ∀ z : Val Y71, eq_Region z z = true := fun z => eqV_refl _ _
  have ep : eq_Region_pre p.1 p.1 := hpb
  have tx : to_Relation_pre x := hb
  rw [bif_decN c, chk_pos tx, chk_pos (show cellsOf_pre (to_Relation x) y from hb), chk_pos tx, chk_pos (show cellsOf_pre (to_Relation x) y from hb), chk_pos ep, bif_not, bif_true (rf _), bif_not, bif_true (beq_self_eq_true _), chk_pos tx,
    chk_pos (show eq_Relation_pre (to_Relation x) (to_Relation x) from hb), bif_not, bif_true (show eq_Relation (to_Relation x) (to_Relation x) = true from eqV_refl _ _), chk_pos (show mk_Relation_pre (to_Relation x) 1 from ⟨hb, by omega⟩),
    bif_decN (show ¬ mk_Relation_k (to_Relation x) 1 < 0 by omega), chk_pos ep, bif_not, bif_true (rf _), bif_not, bif_true (beq_self_eq_true _), chk_pos (show mk_Region_pre p.1 1 from ⟨hpb, by omega⟩), chk_pos hh', bif_decN hv0, bif_not, bif_dec hv',
    chk_pos tx, chk_pos (show cellsOf_pre (to_Relation x) y from hb), chk_pos ep, bif_not, bif_true (rf _), bif_not, bif_true (beq_self_eq_true _), chk_pos hh', bif_decN hv0, bif_not, bif_dec hv']
  rfl⟩
theorem s8 : Sound Try.prog 8 g8 := sound_run (tt := tt) (Γ := Γ8) hT (ok_cons s28 (ok_cons s30 (ok_cons s32 (ok_cons s39 (ok_cons s40 (ok_cons s41 (ok_cons s44 ok_nil))))))) hm (fn := Try.f8) Try.func8 (c := Try.f8.body.getD .skip) (by kernel_rfl) (by kernel_rfl) fun x hx => by
  obtain ⟨N, h⟩ := e8 x.1 x.2.1 hx
  exact ⟨T8 N, p8, markSem_ok (own_cons sm42 (own_cons sm43 own_nil)) hdr_nil, (run8 N x.1 x.2.1).trans h⟩
end Go.T
