/- Cells, words, relations: whether they are valid. -/
import Derived.Test.YtkjiecjpdbpghaaA2
set_option linter.unusedSimpArgs false
set_option linter.unusedVariables false
namespace Go.T
open Go Go.Proofs
set_option maxHeartbeats 4000000
set_option maxRecDepth 100000
def isCell (c : Val Y36) : Bool := decide (0 ≤ (c.1 : Int) ∧ (c.1 : Int) ≤ 4) && decide ((List.length (α := Val Y106) c.2 : Int) ≤ 16) && List.all (α := Val Y106) c.2 fun a => isAtom a && decide ((List.length (α := Val (.int .i64)) a.1 : Int) = (c.1 : Int))
def isCell_pre (c : Val Y36) : Prop := List.length (α := Val Y106) c.2 ≤ 1048576
/-- Is a text of at most six bytes of a range? -/
def isWord (s : ByteArray) (lo hi : Int) : Bool := decide (1 ≤ (s.size : Int) ∧ (s.size : Int) ≤ 6) && (List.range s.size).all fun i => decide (lo ≤ byteAt s i ∧ byteAt s i ≤ hi)
def isWord_pre (s : ByteArray) (_ _ : Int) : Prop := s.size ≤ 1048576
def isRel (r : Val Y53) : Bool := isWord r.1 65 90 && decide (0 ≤ (r.2.1 : Int) ∧ (r.2.1 : Int) ≤ 4) && decide ((List.length (α := Val Y116) r.2.2 : Int) ≤ 8) &&
  List.all (α := Val Y116) r.2.2 fun x => isWord x.1 97 122 && isCell x.2 && decide ((x.2.1 : Int) = (r.2.1 : Int))
def isRel_pre (r : Val Y53) : Prop := Bd (.pair .str (.pair (.int .i64) (.slice 116 Y116))) r
-- spec.IsCell
noncomputable def m64_l2 (N : Nat) (v2 : Int) (v3 : List (Val Y106)) (k0 : Unit → Option (Vals [i4])) : Nat → Int → Option (Vals [i4])
  | 0, _ => none
  | n + 1, v1 => bif (decide (v1 < (v3.length : Int))) then (chk (0 ≤ v1 ∧ v1 < (v3.length : Int)) (bif (!((isAtom (v3.getD v1.toNat (dflt Y106))) : Bool)) then (some (false, ())) else (chk (0 ≤ v1 ∧ v1 < (v3.length : Int)) (bif (!(decide ((((v3.getD v1.toNat (dflt Y106)).1 : List (Val (.int .i64))).length : Int) = v2))) then (some (false, ())) else (m64_l2 N v2 v3 k0 n (IntKind.i64.wrap (v1 + (1 : Int)))))))) else (k0 ())
noncomputable def m64 (N : Nat) (v0 : Val Y36) : Option (Vals [i4]) := m64_l2 N (v0.1 : Int) (v0.2 : List (Val Y106)) (fun (_ : Unit) => bif ((inR (v0.1 : Int) (0 : Int) (4 : Int)) : Bool) then (some ((decide (((v0.2 : List (Val Y106)).length : Int) ≤ (16 : Int))), ())) else (some (false, ()))) N (0 : Int)
def Γ64 : Gam := [(65, g65), (127, g127)]
theorem Γ64_65 : Gam.get Γ64 65 = some g65 := rfl
theorem Γ64_127 : Gam.get Γ64 127 = some g127 := rfl
def nl64_2 : Nm := ⟨[false, true, false, true], []⟩
theorem nl64_2_fix : nl64_2.fix = [] := rfl
theorem nl64_2_keep : nl64_2.keep = [false, true, false, true] := rfl
def nx64_0 : Nm := ⟨[false, true], []⟩
theorem nx64_0_fix : nx64_0.fix = [] := rfl
theorem nx64_0_keep : nx64_0.keep = [false, true] := rfl
def tr64 : Nat → Tree := fun i => if i = 4 then .quiet 0 (.quiet 1 (.quiet 2 (.quiet 3 (.quiet 4 (.alt 5 (.quiet 6 (.quiet 7 (.quiet 8 (.quiet 9 (.quiet 10 (.quiet 11 (.quiet 12 (.quiet 13 (.quiet 14 (.quiet 15 (.quiet 16 (.quiet 17 (.quiet 18 .done))))))))))))) .stop))))) else .done
def lp64 : Nat → Nm := fun i => if i = 2 then nl64_2 else ⟨[], []⟩
def ex64 : Nat → Option Nm := fun i => if i = 0 then some nx64_0 else none
def rg64 : Nat → Option Nm := fun _ => none
theorem p64 : plansOk tr64 (Try.f64.body.getD .skip) = true := by kernel_rfl
def T64 (N : Nat) : Tab := { tr := tr64, lp := lp64, ex := ex64, rg := rg64, fuel := N }
theorem T64_pins (N : Nat) : (T64 N).pins = false := rfl
theorem T64_tr (N i : Nat) : (T64 N).tr i = tr64 i := rfl
theorem T64_lp (N i : Nat) : (T64 N).lp i = lp64 i := rfl
theorem T64_ex (N i : Nat) : (T64 N).ex i = ex64 i := rfl
theorem T64_rg (N i : Nat) : (T64 N).rg i = rg64 i := rfl
theorem T64_fuel (N : Nat) : (T64 N).fuel = N := rfl
noncomputable def c64_2 : Code := cut [true, false, true, true, true] (Try.f64.body.getD .skip)
theorem c64_2_at {N : Nat} {Q : X → St → Option (Vals [i4])} {e : List LV} {h : List Blk} : runT tt Γ64 (T64 N) c64_2 Q ⟨e, h⟩ = runT tt Γ64 (T64 N) (cut [true, false, true, true, true] (Try.f64.body.getD .skip)) Q ⟨e, h⟩ := rfl
theorem r64_l2 (N : Nat) (v2 : Int) (v3 : List (Val Y106)) {k0 : Unit → Option (Vals [i4])} {Q : X → St → Option (Vals [i4])} {c : Code} (hc : c = c64_2) (hret : ∀ st, Q .ret st = retS tt true [i4] [.tmp 2] st) (h0 : Q (.exit 0) ⟨[u, .one (.ptr 0 0 0), u, u, u, u, u, u, u, u, u, u, u, u, u, u, u, u, u, u, u, u, u, u, u, u, u, u, u, u, u, u, u, u, u, u, u, u, u], [.box [.int .i64 v2, .sl 106 Y106 v3 1]]⟩ = k0 ()) : ∀ (n : Nat) (v1 : Int), loopR (runT tt Γ64 (T64 N) c) false nl64_2 Q n ⟨[u, .one (.ptr 0 0 0), u, .one (.int .i64 v1), u, u, u, u, u, u, u, u, u, u, u, u, u, u, u, u, u, u, u, u, u, u, u, u, u, u, u, u, u, u, u, u, u, u, u], [.box [.int .i64 v2, .sl 106 Y106 v3 1]]⟩ = m64_l2 N v2 v3 k0 n v1 := by
  subst hc; intro n; induction n with
  | zero => intros; rfl
  | succ n ih =>
    intro v1
    rw [loop_succ, c64_2_at, m64_l2]; unfold Try.f64
    simp (maxSteps := 10000000) -implicitDefEqProofs [T64_tr, tr64, T64_lp, lp64, T64_ex, ex64, T64_rg, rg64, T64_fuel, T64_pins, nl64_2_fix, nl64_2_keep, nx64_0_fix, nx64_0_keep, Γ64_65, Γ64_127, g65, g127, hret, h0, ih]
theorem run64 (N : Nat) (v0 : Val Y36) : runT tt Γ64 (T64 N) (Try.f64.body.getD .skip) (retR tt true [i4] [.tmp 2]) (entryP [i36] 39 (v0, ())) = m64 N v0 := by
  unfold Try.f64
  simp (maxSteps := 10000000) -implicitDefEqProofs [T64_tr, tr64, T64_lp, lp64, T64_ex, ex64, T64_rg, rg64, T64_fuel, T64_pins, nl64_2_fix, nl64_2_keep, nx64_0_fix, nx64_0_keep, Γ64_65, Γ64_127, g65, g127]
  rewrite [r64_l2 (k0 := (fun (_ : Unit) => bif ((inR (v0.1 : Int) (0 : Int) (4 : Int)) : Bool) then (some ((decide (((v0.2 : List (Val Y106)).length : Int) ≤ (16 : Int))), ())) else (some (false, ())))) N _ _ ?_ ?_ ?_]
  · rewrite [m64]; first | rfl | simp (maxSteps := 10000000) -implicitDefEqProofs []
  · rfl
  · intro; simp only [seqR_ret, blockR_ret, retR_ret, retX_ret]
  · simp (maxSteps := 10000000) -implicitDefEqProofs [T64_tr, tr64, T64_lp, lp64, T64_ex, ex64, T64_rg, rg64, T64_fuel, T64_pins, nl64_2_fix, nl64_2_keep, nx64_0_fix, nx64_0_keep, Γ64_65, Γ64_127, g65, g127]
-- impl.IsCell
noncomputable def m68_l4 (N : Nat) (v1 : List (Val Y106)) (v2 : Int) (v4 : Int) (v5 : List (Val Y106)) (k0 : Unit → Option (Vals [i4])) : Nat → Int → Option (Vals [i4])
  | 0, _ => none
  | n + 1, v3 => bif (decide (v3 < v2)) then (chk (0 ≤ v3 ∧ v3 < (v1.length : Int)) (bif (!((isAtom (v1.getD v3.toNat (dflt Y106))) : Bool)) then (some (false, ())) else (bif (!(decide ((((v1.getD v3.toNat (dflt Y106)).1 : List (Val (.int .i64))).length : Int) = v4))) then (some (false, ())) else (m68_l4 N v1 v2 v4 v5 k0 n (IntKind.i64.wrap (v3 + (1 : Int))))))) else (k0 ())
noncomputable def m68 (N : Nat) (v0 : Val Y36) : Option (Vals [i4]) := bif (decide ((v0.1 : Int) < (0 : Int))) then (some (false, ())) else (bif (decide ((4 : Int) < (v0.1 : Int))) then (some (false, ())) else (bif (decide ((16 : Int) < ((v0.2 : List (Val Y106)).length : Int))) then (some (false, ())) else (m68_l4 N (v0.2 : List (Val Y106)) ((v0.2 : List (Val Y106)).length : Int) (v0.1 : Int) (v0.2 : List (Val Y106)) (fun (_ : Unit) => some (true, ())) N (0 : Int))))
def Γ68 : Gam := [(130, g130)]
theorem Γ68_130 : Gam.get Γ68 130 = some g130 := rfl
def nl68_4 : Nm := ⟨[false, true, false, false, false, false, false, false, false, false, false, false, false, false, false, false, false, false, false, false, true, true, true], []⟩
theorem nl68_4_fix : nl68_4.fix = [] := rfl
theorem nl68_4_keep : nl68_4.keep = [false, true, false, false, false, false, false, false, false, false, false, false, false, false, false, false, false, false, false, false, true, true, true] := rfl
def nx68_0 : Nm := ⟨[], []⟩
theorem nx68_0_fix : nx68_0.fix = [] := rfl
theorem nx68_0_keep : nx68_0.keep = [] := rfl
def tr68 : Nat → Tree := fun _ => .done
def lp68 : Nat → Nm := fun i => if i = 4 then nl68_4 else ⟨[], []⟩
def ex68 : Nat → Option Nm := fun i => if i = 0 then some nx68_0 else none
def rg68 : Nat → Option Nm := fun _ => none
theorem p68 : plansOk tr68 (Try.f68.body.getD .skip) = true := by kernel_rfl
def T68 (N : Nat) : Tab := { tr := tr68, lp := lp68, ex := ex68, rg := rg68, fuel := N }
theorem T68_pins (N : Nat) : (T68 N).pins = false := rfl
theorem T68_tr (N i : Nat) : (T68 N).tr i = tr68 i := rfl
theorem T68_lp (N i : Nat) : (T68 N).lp i = lp68 i := rfl
theorem T68_ex (N i : Nat) : (T68 N).ex i = ex68 i := rfl
theorem T68_rg (N i : Nat) : (T68 N).rg i = rg68 i := rfl
theorem T68_fuel (N : Nat) : (T68 N).fuel = N := rfl
noncomputable def c68_4 : Code := cut [true, true, false, true, true, true] (Try.f68.body.getD .skip)
theorem c68_4_at {N : Nat} {Q : X → St → Option (Vals [i4])} {e : List LV} {h : List Blk} : runT tt Γ68 (T68 N) c68_4 Q ⟨e, h⟩ = runT tt Γ68 (T68 N) (cut [true, true, false, true, true, true] (Try.f68.body.getD .skip)) Q ⟨e, h⟩ := rfl
theorem r68_l4 (N : Nat) (v1 : List (Val Y106)) (v2 : Int) (v4 : Int) (v5 : List (Val Y106)) {k0 : Unit → Option (Vals [i4])} {Q : X → St → Option (Vals [i4])} {c : Code} (hc : c = c68_4) (hret : ∀ st, Q .ret st = retS tt true [i4] [.tmp 2] st) (h0 : Q (.exit 0) ⟨[u, u, u, u, u, u, u, u, u, u, u, u, u, u, u, u, u, u, u, u, u, u, u, u, u, u, u, u, u, u, u, u, u, u, u, u, u, u], []⟩ = k0 ()) : ∀ (n : Nat) (v3 : Int), loopR (runT tt Γ68 (T68 N) c) false nl68_4 Q n ⟨[u, .one (.ptr 0 0 0), u, u, u, u, u, u, u, u, u, u, u, u, u, u, u, u, u, u, .one (.sl 106 Y106 v1 1), .one (.int .i64 v2), .one (.int .i64 v3), u, u, u, u, u, u, u, u, u, u, u, u, u, u, u], [.box [.int .i64 v4, .sl 106 Y106 v5 1]]⟩ = m68_l4 N v1 v2 v4 v5 k0 n v3 := by
  subst hc; intro n; induction n with
  | zero => intros; rfl
  | succ n ih =>
    intro v3
    rw [loop_succ, c68_4_at, m68_l4]; unfold Try.f68
    simp (maxSteps := 10000000) -implicitDefEqProofs [T68_tr, tr68, T68_lp, lp68, T68_ex, ex68, T68_rg, rg68, T68_fuel, T68_pins, nl68_4_fix, nl68_4_keep, nx68_0_fix, nx68_0_keep, Γ68_130, g130, hret, h0, ih]
theorem run68 (N : Nat) (v0 : Val Y36) : runT tt Γ68 (T68 N) (Try.f68.body.getD .skip) (retR tt true [i4] [.tmp 2]) (entryP [i36] 38 (v0, ())) = m68 N v0 := by
  unfold Try.f68
  simp (maxSteps := 10000000) -implicitDefEqProofs [T68_tr, tr68, T68_lp, lp68, T68_ex, ex68, T68_rg, rg68, T68_fuel, T68_pins, nl68_4_fix, nl68_4_keep, nx68_0_fix, nx68_0_keep, Γ68_130, g130]
  rewrite [r68_l4 (k0 := (fun (_ : Unit) => some (true, ()))) N _ _ _ _ ?_ ?_ ?_]
  · rewrite [m68]; first | rfl | simp (maxSteps := 10000000) -implicitDefEqProofs []
  · rfl
  · intro; simp only [seqR_ret, blockR_ret, retR_ret, retX_ret]
  · simp (maxSteps := 10000000) -implicitDefEqProofs [T68_tr, tr68, T68_lp, lp68, T68_ex, ex68, T68_rg, rg68, T68_fuel, T68_pins, nl68_4_fix, nl68_4_keep, nx68_0_fix, nx68_0_keep, Γ68_130, g130]
-- spec.l5Word
noncomputable def m75_l2 (N : Nat) (v3 : ByteArray) (v4 : Int) (v5 : Int) (k0 : Unit → Option (Vals [i4])) : Nat → Int → Option (Vals [i4])
  | 0, _ => none
  | n + 1, v6 => bif (decide (v6 < (v3.size : Int))) then (chk (0 ≤ v6 ∧ v6 < (v3.size : Int)) (bif (decide ((byteAt v3 v6.toNat) < v4)) then (some (false, ())) else (chk (0 ≤ v6 ∧ v6 < (v3.size : Int)) (bif (decide (v5 < (byteAt v3 v6.toNat))) then (some (false, ())) else (m75_l2 N v3 v4 v5 k0 n (IntKind.i64.wrap (v6 + (1 : Int)))))))) else (k0 ())
noncomputable def m75 (N : Nat) (v0 : ByteArray) (v1 : Int) (v2 : Int) : Option (Vals [i4]) := m75_l2 N v0 v1 v2 (fun (_ : Unit) => some (((inR (v0.size : Int) (1 : Int) (6 : Int)) : Bool), ())) N (0 : Int)
def Γ75 : Gam := [(65, g65)]
theorem Γ75_65 : Gam.get Γ75 65 = some g65 := rfl
def nl75_2 : Nm := ⟨[true, true, true, false, false, false, false, true], []⟩
theorem nl75_2_fix : nl75_2.fix = [] := rfl
theorem nl75_2_keep : nl75_2.keep = [true, true, true, false, false, false, false, true] := rfl
def nx75_0 : Nm := ⟨[true], []⟩
theorem nx75_0_fix : nx75_0.fix = [] := rfl
theorem nx75_0_keep : nx75_0.keep = [true] := rfl
def tr75 : Nat → Tree := fun _ => .done
def lp75 : Nat → Nm := fun i => if i = 2 then nl75_2 else ⟨[], []⟩
def ex75 : Nat → Option Nm := fun i => if i = 0 then some nx75_0 else none
def rg75 : Nat → Option Nm := fun _ => none
theorem p75 : plansOk tr75 (Try.f75.body.getD .skip) = true := by kernel_rfl
def T75 (N : Nat) : Tab := { tr := tr75, lp := lp75, ex := ex75, rg := rg75, fuel := N }
theorem T75_pins (N : Nat) : (T75 N).pins = false := rfl
theorem T75_tr (N i : Nat) : (T75 N).tr i = tr75 i := rfl
theorem T75_lp (N i : Nat) : (T75 N).lp i = lp75 i := rfl
theorem T75_ex (N i : Nat) : (T75 N).ex i = ex75 i := rfl
theorem T75_rg (N i : Nat) : (T75 N).rg i = rg75 i := rfl
theorem T75_fuel (N : Nat) : (T75 N).fuel = N := rfl
noncomputable def c75_2 : Code := cut [true, false, true, true, true] (Try.f75.body.getD .skip)
theorem c75_2_at {N : Nat} {Q : X → St → Option (Vals [i4])} {e : List LV} {h : List Blk} : runT tt Γ75 (T75 N) c75_2 Q ⟨e, h⟩ = runT tt Γ75 (T75 N) (cut [true, false, true, true, true] (Try.f75.body.getD .skip)) Q ⟨e, h⟩ := rfl
theorem r75_l2 (N : Nat) (v3 : ByteArray) (v4 : Int) (v5 : Int) {k0 : Unit → Option (Vals [i4])} {Q : X → St → Option (Vals [i4])} {c : Code} (hc : c = c75_2) (hret : ∀ st, Q .ret st = retS tt true [i4] [.tmp 6] st) (h0 : Q (.exit 0) ⟨[.one (.str v3), u, u, u, u, u, u, u, u, u, u, u, u, u, u, u, u, u, u, u, u, u, u, u, u, u, u, u, u], []⟩ = k0 ()) : ∀ (n : Nat) (v6 : Int), loopR (runT tt Γ75 (T75 N) c) false nl75_2 Q n ⟨[.one (.str v3), .one (.int .u8 v4), .one (.int .u8 v5), u, u, u, u, .one (.int .i64 v6), u, u, u, u, u, u, u, u, u, u, u, u, u, u, u, u, u, u, u, u, u], []⟩ = m75_l2 N v3 v4 v5 k0 n v6 := by
  subst hc; intro n; induction n with
  | zero => intros; rfl
  | succ n ih =>
    intro v6
    rw [loop_succ, c75_2_at, m75_l2]; unfold Try.f75
    simp (maxSteps := 10000000) -implicitDefEqProofs [T75_tr, tr75, T75_lp, lp75, T75_ex, ex75, T75_rg, rg75, T75_fuel, T75_pins, nl75_2_fix, nl75_2_keep, nx75_0_fix, nx75_0_keep, Γ75_65, g65, hret, h0, ih]
theorem run75 (N : Nat) (v0 : ByteArray) (v1 : Int) (v2 : Int) : runT tt Γ75 (T75 N) (Try.f75.body.getD .skip) (retR tt true [i4] [.tmp 6]) (entryP [i9, i5, i5] 29 (v0, v1, v2, ())) = m75 N v0 v1 v2 := by
  unfold Try.f75
  simp (maxSteps := 10000000) -implicitDefEqProofs [T75_tr, tr75, T75_lp, lp75, T75_ex, ex75, T75_rg, rg75, T75_fuel, T75_pins, nl75_2_fix, nl75_2_keep, nx75_0_fix, nx75_0_keep, Γ75_65, g65]
  rewrite [r75_l2 (k0 := (fun (_ : Unit) => some (((inR (v0.size : Int) (1 : Int) (6 : Int)) : Bool), ()))) N _ _ _ ?_ ?_ ?_]
  · rewrite [m75]; first | rfl | simp (maxSteps := 10000000) -implicitDefEqProofs []
  · rfl
  · intro; simp only [seqR_ret, blockR_ret, retR_ret, retX_ret]
  · simp (maxSteps := 10000000) -implicitDefEqProofs [T75_tr, tr75, T75_lp, lp75, T75_ex, ex75, T75_rg, rg75, T75_fuel, T75_pins, nl75_2_fix, nl75_2_keep, nx75_0_fix, nx75_0_keep, Γ75_65, g65]
-- impl.isWord
noncomputable def m136_l4 (N : Nat) (v3 : ByteArray) (v4 : Int) (v5 : Int) (k0 : Unit → Option (Vals [i4])) : Nat → Int → Option (Vals [i4])
  | 0, _ => none
  | n + 1, v6 => bif (decide (v6 < (v3.size : Int))) then (chk (0 ≤ v6 ∧ v6 < (v3.size : Int)) (bif (decide ((byteAt v3 v6.toNat) < v4)) then (some (false, ())) else (chk (0 ≤ v6 ∧ v6 < (v3.size : Int)) (bif (decide (v5 < (byteAt v3 v6.toNat))) then (some (false, ())) else (m136_l4 N v3 v4 v5 k0 n (IntKind.i64.wrap (v6 + (1 : Int)))))))) else (k0 ())
noncomputable def m136 (N : Nat) (v0 : ByteArray) (v1 : Int) (v2 : Int) : Option (Vals [i4]) := bif (decide ((v0.size : Int) < (1 : Int))) then (some (false, ())) else (bif (decide ((6 : Int) < (v0.size : Int))) then (some (false, ())) else (m136_l4 N v0 v1 v2 (fun (_ : Unit) => some (true, ())) N (0 : Int)))
def Γ136 : Gam := []
def nl136_4 : Nm := ⟨[true, true, true, false, false, false, false, true], []⟩
theorem nl136_4_fix : nl136_4.fix = [] := rfl
theorem nl136_4_keep : nl136_4.keep = [true, true, true, false, false, false, false, true] := rfl
def nx136_0 : Nm := ⟨[], []⟩
theorem nx136_0_fix : nx136_0.fix = [] := rfl
theorem nx136_0_keep : nx136_0.keep = [] := rfl
def tr136 : Nat → Tree := fun _ => .done
def lp136 : Nat → Nm := fun i => if i = 4 then nl136_4 else ⟨[], []⟩
def ex136 : Nat → Option Nm := fun i => if i = 0 then some nx136_0 else none
def rg136 : Nat → Option Nm := fun _ => none
theorem p136 : plansOk tr136 (Try.f136.body.getD .skip) = true := by kernel_rfl
def T136 (N : Nat) : Tab := { tr := tr136, lp := lp136, ex := ex136, rg := rg136, fuel := N }
theorem T136_pins (N : Nat) : (T136 N).pins = false := rfl
theorem T136_tr (N i : Nat) : (T136 N).tr i = tr136 i := rfl
theorem T136_lp (N i : Nat) : (T136 N).lp i = lp136 i := rfl
theorem T136_ex (N i : Nat) : (T136 N).ex i = ex136 i := rfl
theorem T136_rg (N i : Nat) : (T136 N).rg i = rg136 i := rfl
theorem T136_fuel (N : Nat) : (T136 N).fuel = N := rfl
noncomputable def c136_4 : Code := cut [true, true, false, true, true, true] (Try.f136.body.getD .skip)
theorem c136_4_at {N : Nat} {Q : X → St → Option (Vals [i4])} {e : List LV} {h : List Blk} : runT tt Γ136 (T136 N) c136_4 Q ⟨e, h⟩ = runT tt Γ136 (T136 N) (cut [true, true, false, true, true, true] (Try.f136.body.getD .skip)) Q ⟨e, h⟩ := rfl
theorem r136_l4 (N : Nat) (v3 : ByteArray) (v4 : Int) (v5 : Int) {k0 : Unit → Option (Vals [i4])} {Q : X → St → Option (Vals [i4])} {c : Code} (hc : c = c136_4) (hret : ∀ st, Q .ret st = retS tt true [i4] [.tmp 6] st) (h0 : Q (.exit 0) ⟨[u, u, u, u, u, u, u, u, u, u, u, u, u, u, u, u, u, u, u, u, u, u, u, u, u, u, u, u, u, u, u, u, u, u], []⟩ = k0 ()) : ∀ (n : Nat) (v6 : Int), loopR (runT tt Γ136 (T136 N) c) false nl136_4 Q n ⟨[.one (.str v3), .one (.int .u8 v4), .one (.int .u8 v5), u, u, u, u, .one (.int .i64 v6), u, u, u, u, u, u, u, u, u, u, u, u, u, u, u, u, u, u, u, u, u, u, u, u, u, u], []⟩ = m136_l4 N v3 v4 v5 k0 n v6 := by
  subst hc; intro n; induction n with
  | zero => intros; rfl
  | succ n ih =>
    intro v6
    rw [loop_succ, c136_4_at, m136_l4]; unfold Try.f136
    simp (maxSteps := 10000000) -implicitDefEqProofs [T136_tr, tr136, T136_lp, lp136, T136_ex, ex136, T136_rg, rg136, T136_fuel, T136_pins, nl136_4_fix, nl136_4_keep, nx136_0_fix, nx136_0_keep, hret, h0, ih]
theorem run136 (N : Nat) (v0 : ByteArray) (v1 : Int) (v2 : Int) : runT tt Γ136 (T136 N) (Try.f136.body.getD .skip) (retR tt true [i4] [.tmp 6]) (entryP [i9, i5, i5] 34 (v0, v1, v2, ())) = m136 N v0 v1 v2 := by
  unfold Try.f136
  simp (maxSteps := 10000000) -implicitDefEqProofs [T136_tr, tr136, T136_lp, lp136, T136_ex, ex136, T136_rg, rg136, T136_fuel, T136_pins, nl136_4_fix, nl136_4_keep, nx136_0_fix, nx136_0_keep]
  rewrite [r136_l4 (k0 := (fun (_ : Unit) => some (true, ()))) N _ _ _ ?_ ?_ ?_]
  · rewrite [m136]; first | rfl | simp (maxSteps := 10000000) -implicitDefEqProofs []
  · rfl
  · intro; simp only [seqR_ret, blockR_ret, retR_ret, retX_ret]
  · simp (maxSteps := 10000000) -implicitDefEqProofs [T136_tr, tr136, T136_lp, lp136, T136_ex, ex136, T136_rg, rg136, T136_fuel, T136_pins, nl136_4_fix, nl136_4_keep, nx136_0_fix, nx136_0_keep]
theorem t64 (N : Nat) (d : Int) (xs : List (Val Y106)) (K : Unit → Option (Vals [i4])) (hl : xs.length ≤ 1048576) (n : Nat) (hn : xs.length < n) : m64_l2 N d xs K n 0 = bif xs.all (fun a => isAtom a && decide ((List.length (α := Val (.int .i64)) a.1 : Int) = d)) then K () else some (false, ()) :=
  (loop_fold (F := fun n i (_ : Unit) => m64_l2 N d xs K n i) (step := fun _ x _ K => bif (isAtom x && decide ((List.length (α := Val (.int .i64)) x.1 : Int) = d)) then K () else some (false, ())) (k := K) hl (fun n i s hi => by
    rw [m64_l2, bif_dec (by omega), chk_pos (by omega), chk_pos (by omega), getD_atI hi]
    cases isAtom xs[i] <;> simp [bif_not]) (fun n i s hi => by rw [m64_l2, bif_decN (by omega)]) n () hn).trans (foldK_all xs 0)
theorem t68 (N : Nat) (d : Int) (xs ys : List (Val Y106)) (K : Unit → Option (Vals [i4])) (hl : xs.length ≤ 1048576) (n : Nat) (hn : xs.length < n) : m68_l4 N xs xs.length d ys K n 0 = bif xs.all (fun a => isAtom a && decide ((List.length (α := Val (.int .i64)) a.1 : Int) = d)) then K () else some (false, ()) :=
  (loop_fold (F := fun n i (_ : Unit) => m68_l4 N xs xs.length d ys K n i) (step := fun _ x _ K => bif (isAtom x && decide ((List.length (α := Val (.int .i64)) x.1 : Int) = d)) then K () else some (false, ())) (k := K) hl (fun n i s hi => by
    rw [m68_l4, bif_dec (by omega), chk_pos (by omega), getD_atI hi]
    cases isAtom xs[i] <;> simp [bif_not]) (fun n i s hi => by rw [m68_l4, bif_decN (by omega)]) n () hn).trans (foldK_all xs 0)
def g64 : G := { ps := [i36], rs := [i4], dp := true, pre := fun x => isCell_pre x.1, fn := fun x => (isCell x.1, ()) }
def g68 : G := { ps := [i36], rs := [i4], dp := true, pre := fun _ => True, fn := fun x => (isCell x.1, ()) }
theorem e64 (c : Val Y36) (h : isCell_pre c) : ∃ N, m64 N c = some (isCell c, ()) := ⟨List.length (α := Val Y106) c.2 + 1, by
  obtain ⟨d, xs⟩ := c
  change Int at d
  change List (Val Y106) at xs
  rw [m64, isCell]
  dsimp only
  rw [t64 _ _ _ _ h _ (Nat.lt_succ_self _)]
  simp only [inR]
  cases List.all xs _ <;> cases decide (0 ≤ d ∧ d ≤ 4) <;> simp⟩
theorem s64 : Sound Try.prog 64 g64 := sound_run (tt := tt) (Γ := Γ64) hT (ok_cons s65 (ok_cons s127 ok_nil)) hm (fn := Try.f64) Try.func64 (c := Try.f64.body.getD .skip) (by kernel_rfl) (by kernel_rfl) fun x hx => by
  obtain ⟨N, h⟩ := e64 x.1 hx
  exact ⟨T64 N, p64, noSem_ok _, (run64 N x.1).trans h⟩
theorem e68 (c : Val Y36) : ∃ N, m68 N c = some (isCell c, ()) := ⟨List.length (α := Val Y106) c.2 + 1, by
  obtain ⟨d, xs⟩ := c
  change Int at d
  change List (Val Y106) at xs
  rw [m68, isCell]
  dsimp only
  by_cases h1 : d < 0
  · have : ¬ (0 ≤ d ∧ d ≤ 4) := by omega
    simp [h1, this]
  · by_cases h2 : 4 < d
    · have : ¬ (0 ≤ d ∧ d ≤ 4) := by omega
      simp [h1, h2, this]
    · have : 0 ≤ d ∧ d ≤ 4 := by omega
      by_cases h3 : (16 : Int) < xs.length
      · have h3' : ¬ (xs.length : Int) ≤ 16 := by omega
        simp only [h1, h2, h3, h3', decide_true, decide_false, cond_true, cond_false, Bool.and_false, Bool.false_and]
      · have h3' : (xs.length : Int) ≤ 16 := by omega
        rw [t68 _ _ _ _ _ (by omega) _ (Nat.lt_succ_self _)]
        simp only [h1, h2, h3, h3', this, decide_true, decide_false, cond_true, cond_false, Bool.true_and, and_self]
        cases List.all xs _ <;> rfl⟩
theorem s68 : Sound Try.prog 68 g68 := sound_run (tt := tt) (Γ := Γ68) hT (ok_cons s130 ok_nil) hm (fn := Try.f68) Try.func68 (c := Try.f68.body.getD .skip) (by kernel_rfl) (by kernel_rfl) fun x hx => by
  obtain ⟨N, h⟩ := e68 x.1
  exact ⟨T68 N, p68, noSem_ok _, (run68 N x.1).trans h⟩
theorem rangeN {n i : Nat} (h : (List.range n).length ≤ i) : ¬ ((i : Int) < (n : Int)) := by
  have : n ≤ i := by simpa using h
  omega
theorem t75 (N : Nat) (s : ByteArray) (a b : Int) (K : Unit → Option (Vals [i4])) (hl : s.size ≤ 1048576) (n : Nat) (hn : s.size < n) : m75_l2 N s a b K n 0 = bif (List.range s.size).all (fun i => decide (a ≤ byteAt s i ∧ byteAt s i ≤ b)) then K () else some (false, ()) :=
  (loop_fold (F := fun n i (_ : Unit) => m75_l2 N s a b K n i) (xs := List.range s.size) (step := fun _ x _ K => bif decide (a ≤ byteAt s x ∧ byteAt s x ≤ b) then K () else some (false, ())) (k := K) (by simpa using hl) (fun n i u hi => by
    have hi : i < s.size := by simpa using hi
    rw [m75_l2, bif_dec (by omega), chk_pos (by omega), chk_pos (by omega), Int.toNat_natCast, List.getElem_range]
    by_cases h1 : byteAt s i < a <;> by_cases h2 : b < byteAt s i
    · simp [h1, show ¬ (a ≤ byteAt s i) by omega]
    · simp [h1, show ¬ (a ≤ byteAt s i) by omega]
    · simp [h1, h2, show ¬ (byteAt s i ≤ b) by omega]
    · simp [h1, h2, show a ≤ byteAt s i by omega, show byteAt s i ≤ b by omega]) (fun n i u hi => by rw [m75_l2, bif_decN (rangeN hi)]) n () (by simpa using hn)).trans (foldK_all _ 0)
theorem t136 (N : Nat) (s : ByteArray) (a b : Int) (K : Unit → Option (Vals [i4])) (hl : s.size ≤ 1048576) (n : Nat) (hn : s.size < n) : m136_l4 N s a b K n 0 = bif (List.range s.size).all (fun i => decide (a ≤ byteAt s i ∧ byteAt s i ≤ b)) then K () else some (false, ()) :=
  (loop_fold (F := fun n i (_ : Unit) => m136_l4 N s a b K n i) (xs := List.range s.size) (step := fun _ x _ K => bif decide (a ≤ byteAt s x ∧ byteAt s x ≤ b) then K () else some (false, ())) (k := K) (by simpa using hl) (fun n i u hi => by
    have hi : i < s.size := by simpa using hi
    rw [m136_l4, bif_dec (by omega), chk_pos (by omega), chk_pos (by omega), Int.toNat_natCast, List.getElem_range]
    by_cases h1 : byteAt s i < a <;> by_cases h2 : b < byteAt s i
    · simp [h1, show ¬ (a ≤ byteAt s i) by omega]
    · simp [h1, show ¬ (a ≤ byteAt s i) by omega]
    · simp [h1, h2, show ¬ (byteAt s i ≤ b) by omega]
    · simp [h1, h2, show a ≤ byteAt s i by omega, show byteAt s i ≤ b by omega]) (fun n i u hi => by rw [m136_l4, bif_decN (rangeN hi)]) n () (by simpa using hn)).trans (foldK_all _ 0)
def g75 : G := { ps := [i9, i5, i5], rs := [i4], dp := true, pre := fun x => isWord_pre x.1 x.2.1 x.2.2.1, fn := fun x => (isWord x.1 x.2.1 x.2.2.1, ()) }
def g136 : G := { ps := [i9, i5, i5], rs := [i4], dp := true, pre := fun _ => True, fn := fun x => (isWord x.1 x.2.1 x.2.2.1, ()) }
theorem e75 (s : ByteArray) (a b : Int) (h : isWord_pre s a b) : ∃ N, m75 N s a b = some (isWord s a b, ()) := ⟨s.size + 1, by
  rw [m75, isWord, t75 _ _ _ _ _ h _ (Nat.lt_succ_self _)]
  simp only [inR]
  cases (List.range s.size).all _ <;> simp⟩
theorem s75 : Sound Try.prog 75 g75 := sound_run (tt := tt) (Γ := Γ75) hT (ok_cons s65 ok_nil) hm (fn := Try.f75) Try.func75 (c := Try.f75.body.getD .skip) (by kernel_rfl) (by kernel_rfl) fun x hx => by
  obtain ⟨N, h⟩ := e75 x.1 x.2.1 x.2.2.1 hx
  exact ⟨T75 N, p75, noSem_ok _, (run75 N x.1 x.2.1 x.2.2.1).trans h⟩
theorem e136 (s : ByteArray) (a b : Int) : ∃ N, m136 N s a b = some (isWord s a b, ()) := ⟨s.size + 1, by
  rw [m136, isWord]
  by_cases h1 : (s.size : Int) < 1
  · rw [bif_dec h1]
    simp only [show ¬ ((1 : Int) ≤ s.size ∧ (s.size : Int) ≤ 6) by omega, decide_false, Bool.false_and]
  · rw [bif_decN h1]
    by_cases h2 : (6 : Int) < s.size
    · rw [bif_dec h2]
      simp only [show ¬ ((1 : Int) ≤ s.size ∧ (s.size : Int) ≤ 6) by omega, decide_false, Bool.false_and]
    · rw [bif_decN h2, t136 _ _ _ _ _ (by omega) _ (Nat.lt_succ_self _)]
      simp only [show ((1 : Int) ≤ s.size ∧ (s.size : Int) ≤ 6) by omega, decide_true, Bool.true_and]
      cases (List.range s.size).all _ <;> rfl⟩
theorem s136 : Sound Try.prog 136 g136 := sound_run (tt := tt) (Γ := Γ136) hT ok_nil hm (fn := Try.f136) Try.func136 (c := Try.f136.body.getD .skip) (by kernel_rfl) (by kernel_rfl) fun x hx => by
  obtain ⟨N, h⟩ := e136 x.1 x.2.1 x.2.2.1
  exact ⟨T136 N, p136, noSem_ok _, (run136 N x.1 x.2.1 x.2.2.1).trans h⟩
def isName (s : ByteArray) : Bool := isWord s 65 90
def isLabel (s : ByteArray) : Bool := isWord s 97 122
-- impl.isName
noncomputable def m77 (N : Nat) (v0 : ByteArray) : Option (Vals [i4]) := some (((isWord v0 (65 : Int) (90 : Int)) : Bool), ())
def Γ77 : Gam := [(136, g136)]
theorem Γ77_136 : Gam.get Γ77 136 = some g136 := rfl
def tr77 : Nat → Tree := fun _ => .done
def lp77 : Nat → Nm := fun _ => ⟨[], []⟩
def ex77 : Nat → Option Nm := fun _ => none
def rg77 : Nat → Option Nm := fun _ => none
theorem p77 : plansOk tr77 (Try.f77.body.getD .skip) = true := by kernel_rfl
def T77 (N : Nat) : Tab := { tr := tr77, lp := lp77, ex := ex77, rg := rg77, fuel := N }
theorem T77_pins (N : Nat) : (T77 N).pins = false := rfl
theorem T77_tr (N i : Nat) : (T77 N).tr i = tr77 i := rfl
theorem T77_lp (N i : Nat) : (T77 N).lp i = lp77 i := rfl
theorem T77_ex (N i : Nat) : (T77 N).ex i = ex77 i := rfl
theorem T77_rg (N i : Nat) : (T77 N).rg i = rg77 i := rfl
theorem T77_fuel (N : Nat) : (T77 N).fuel = N := rfl
theorem run77 (N : Nat) (v0 : ByteArray) : runT tt Γ77 (T77 N) (Try.f77.body.getD .skip) (retR tt true [i4] [.tmp 2]) (entryP [i9] 5 (v0, ())) = m77 N v0 := by
  rw [m77]; unfold Try.f77
  simp (maxSteps := 10000000) -implicitDefEqProofs [T77_tr, tr77, T77_lp, lp77, T77_ex, ex77, T77_rg, rg77, T77_fuel, T77_pins, Γ77_136, g136]
  try rfl
-- impl.isLabel
noncomputable def m78 (N : Nat) (v0 : ByteArray) : Option (Vals [i4]) := some (((isWord v0 (97 : Int) (122 : Int)) : Bool), ())
def Γ78 : Gam := [(136, g136)]
theorem Γ78_136 : Gam.get Γ78 136 = some g136 := rfl
def tr78 : Nat → Tree := fun _ => .done
def lp78 : Nat → Nm := fun _ => ⟨[], []⟩
def ex78 : Nat → Option Nm := fun _ => none
def rg78 : Nat → Option Nm := fun _ => none
theorem p78 : plansOk tr78 (Try.f78.body.getD .skip) = true := by kernel_rfl
def T78 (N : Nat) : Tab := { tr := tr78, lp := lp78, ex := ex78, rg := rg78, fuel := N }
theorem T78_pins (N : Nat) : (T78 N).pins = false := rfl
theorem T78_tr (N i : Nat) : (T78 N).tr i = tr78 i := rfl
theorem T78_lp (N i : Nat) : (T78 N).lp i = lp78 i := rfl
theorem T78_ex (N i : Nat) : (T78 N).ex i = ex78 i := rfl
theorem T78_rg (N i : Nat) : (T78 N).rg i = rg78 i := rfl
theorem T78_fuel (N : Nat) : (T78 N).fuel = N := rfl
theorem run78 (N : Nat) (v0 : ByteArray) : runT tt Γ78 (T78 N) (Try.f78.body.getD .skip) (retR tt true [i4] [.tmp 2]) (entryP [i9] 5 (v0, ())) = m78 N v0 := by
  rw [m78]; unfold Try.f78
  simp (maxSteps := 10000000) -implicitDefEqProofs [T78_tr, tr78, T78_lp, lp78, T78_ex, ex78, T78_rg, rg78, T78_fuel, T78_pins, Γ78_136, g136]
  try rfl
def g77 : G := { ps := [i9], rs := [i4], dp := true, pre := fun _ => True, fn := fun x => (isName x.1, ()) }
def g78 : G := { ps := [i9], rs := [i4], dp := true, pre := fun _ => True, fn := fun x => (isLabel x.1, ()) }
theorem e77 (s : ByteArray) : ∃ N, m77 N s = some (isName s, ()) := ⟨0, rfl⟩
theorem e78 (s : ByteArray) : ∃ N, m78 N s = some (isLabel s, ()) := ⟨0, rfl⟩
theorem s77 : Sound Try.prog 77 g77 := sound_run (tt := tt) (Γ := Γ77) hT (ok_cons s136 ok_nil) hm (fn := Try.f77) Try.func77 (c := Try.f77.body.getD .skip) (by kernel_rfl) (by kernel_rfl) fun x hx => by
  obtain ⟨N, h⟩ := e77 x.1
  exact ⟨T77 N, p77, noSem_ok _, (run77 N x.1).trans h⟩
theorem s78 : Sound Try.prog 78 g78 := sound_run (tt := tt) (Γ := Γ78) hT (ok_cons s136 ok_nil) hm (fn := Try.f78) Try.func78 (c := Try.f78.body.getD .skip) (by kernel_rfl) (by kernel_rfl) fun x hx => by
  obtain ⟨N, h⟩ := e78 x.1
  exact ⟨T78 N, p78, noSem_ok _, (run78 N x.1).trans h⟩
-- spec.IsRelation
noncomputable def m29_l2 (N : Nat) (v2 : ByteArray) (v3 : Int) (v4 : List (Val Y116)) (k0 : Unit → Option (Vals [i4])) : Nat → Int → Option (Vals [i4])
  | 0, _ => none
  | n + 1, v1 => bif (decide (v1 < (v4.length : Int))) then (chk (0 ≤ v1 ∧ v1 < (v4.length : Int)) (chk (isWord_pre ((v4.getD v1.toNat (dflt Y116)).1 : ByteArray) (97 : Int) (122 : Int)) (bif (!((isWord ((v4.getD v1.toNat (dflt Y116)).1 : ByteArray) (97 : Int) (122 : Int)) : Bool)) then (some (false, ())) else (chk (0 ≤ v1 ∧ v1 < (v4.length : Int)) (chk (isCell_pre ((v4.getD v1.toNat (dflt Y116)).2)) (bif (!((isCell ((v4.getD v1.toNat (dflt Y116)).2)) : Bool)) then (some (false, ())) else (chk (0 ≤ v1 ∧ v1 < (v4.length : Int)) (bif (!(decide ((((v4.getD v1.toNat (dflt Y116)).2).1 : Int) = v3))) then (some (false, ())) else (m29_l2 N v2 v3 v4 k0 n (IntKind.i64.wrap (v1 + (1 : Int)))))))))))) else (k0 ())
noncomputable def m29 (N : Nat) (v0 : Val Y53) : Option (Vals [i4]) := m29_l2 N (v0.1 : ByteArray) (v0.2.1 : Int) (v0.2.2 : List (Val Y116)) (fun (_ : Unit) => chk (isWord_pre (v0.1 : ByteArray) (65 : Int) (90 : Int)) (bif ((isWord (v0.1 : ByteArray) (65 : Int) (90 : Int)) : Bool) then (bif ((inR (v0.2.1 : Int) (0 : Int) (4 : Int)) : Bool) then (some ((decide (((v0.2.2 : List (Val Y116)).length : Int) ≤ (8 : Int))), ())) else (some (false, ()))) else (some (false, ())))) N (0 : Int)
def Γ29 : Gam := [(64, g64), (65, g65), (75, g75)]
theorem Γ29_64 : Gam.get Γ29 64 = some g64 := rfl
theorem Γ29_65 : Gam.get Γ29 65 = some g65 := rfl
theorem Γ29_75 : Gam.get Γ29 75 = some g75 := rfl
def nl29_2 : Nm := ⟨[false, true, false, true], []⟩
theorem nl29_2_fix : nl29_2.fix = [] := rfl
theorem nl29_2_keep : nl29_2.keep = [false, true, false, true] := rfl
def nx29_0 : Nm := ⟨[false, true], []⟩
theorem nx29_0_fix : nx29_0.fix = [] := rfl
theorem nx29_0_keep : nx29_0.keep = [false, true] := rfl
def tr29 : Nat → Tree := fun i => if i = 4 then .quiet 0 (.quiet 1 (.quiet 2 (.quiet 3 (.quiet 4 (.quiet 5 (.alt 6 (.quiet 7 (.quiet 8 (.quiet 9 (.quiet 10 (.quiet 11 (.quiet 12 (.quiet 13 (.quiet 14 (.alt 15 (.quiet 16 (.quiet 17 (.quiet 18 (.quiet 19 (.quiet 20 (.quiet 21 (.quiet 22 (.quiet 23 (.quiet 24 (.quiet 25 (.quiet 26 (.quiet 27 (.quiet 28 (.quiet 29 .done)))))))))))))) .stop))))))))) .stop)))))) else .done
def lp29 : Nat → Nm := fun i => if i = 2 then nl29_2 else ⟨[], []⟩
def ex29 : Nat → Option Nm := fun i => if i = 0 then some nx29_0 else none
def rg29 : Nat → Option Nm := fun _ => none
theorem p29 : plansOk tr29 (Try.f29.body.getD .skip) = true := by kernel_rfl
def T29 (N : Nat) : Tab := { tr := tr29, lp := lp29, ex := ex29, rg := rg29, fuel := N }
theorem T29_pins (N : Nat) : (T29 N).pins = false := rfl
theorem T29_tr (N i : Nat) : (T29 N).tr i = tr29 i := rfl
theorem T29_lp (N i : Nat) : (T29 N).lp i = lp29 i := rfl
theorem T29_ex (N i : Nat) : (T29 N).ex i = ex29 i := rfl
theorem T29_rg (N i : Nat) : (T29 N).rg i = rg29 i := rfl
theorem T29_fuel (N : Nat) : (T29 N).fuel = N := rfl
noncomputable def c29_2 : Code := cut [true, false, true, true, true] (Try.f29.body.getD .skip)
theorem c29_2_at {N : Nat} {Q : X → St → Option (Vals [i4])} {e : List LV} {h : List Blk} : runT tt Γ29 (T29 N) c29_2 Q ⟨e, h⟩ = runT tt Γ29 (T29 N) (cut [true, false, true, true, true] (Try.f29.body.getD .skip)) Q ⟨e, h⟩ := rfl
theorem r29_l2 (N : Nat) (v2 : ByteArray) (v3 : Int) (v4 : List (Val Y116)) {k0 : Unit → Option (Vals [i4])} {Q : X → St → Option (Vals [i4])} {c : Code} (hc : c = c29_2) (hret : ∀ st, Q .ret st = retS tt true [i4] [.tmp 2] st) (h0 : Q (.exit 0) ⟨[u, .one (.ptr 0 0 0), u, u, u, u, u, u, u, u, u, u, u, u, u, u, u, u, u, u, u, u, u, u, u, u, u, u, u, u, u, u, u, u, u, u, u, u, u, u, u, u, u, u, u, u, u, u, u, u, u, u, u, u, u], [.box [.str v2, .int .i64 v3, .sl 116 Y116 v4 1]]⟩ = k0 ()) : ∀ (n : Nat) (v1 : Int), loopR (runT tt Γ29 (T29 N) c) false nl29_2 Q n ⟨[u, .one (.ptr 0 0 0), u, .one (.int .i64 v1), u, u, u, u, u, u, u, u, u, u, u, u, u, u, u, u, u, u, u, u, u, u, u, u, u, u, u, u, u, u, u, u, u, u, u, u, u, u, u, u, u, u, u, u, u, u, u, u, u, u, u], [.box [.str v2, .int .i64 v3, .sl 116 Y116 v4 1]]⟩ = m29_l2 N v2 v3 v4 k0 n v1 := by
  subst hc; intro n; induction n with
  | zero => intros; rfl
  | succ n ih =>
    intro v1
    rw [loop_succ, c29_2_at, m29_l2]; unfold Try.f29
    simp (maxSteps := 10000000) -implicitDefEqProofs [T29_tr, tr29, T29_lp, lp29, T29_ex, ex29, T29_rg, rg29, T29_fuel, T29_pins, nl29_2_fix, nl29_2_keep, nx29_0_fix, nx29_0_keep, Γ29_64, Γ29_65, Γ29_75, g64, g65, g75, hret, h0, ih]
theorem run29 (N : Nat) (v0 : Val Y53) : runT tt Γ29 (T29 N) (Try.f29.body.getD .skip) (retR tt true [i4] [.tmp 2]) (entryP [i53] 55 (v0, ())) = m29 N v0 := by
  unfold Try.f29
  simp (maxSteps := 10000000) -implicitDefEqProofs [T29_tr, tr29, T29_lp, lp29, T29_ex, ex29, T29_rg, rg29, T29_fuel, T29_pins, nl29_2_fix, nl29_2_keep, nx29_0_fix, nx29_0_keep, Γ29_64, Γ29_65, Γ29_75, g64, g65, g75]
  rewrite [r29_l2 (k0 := (fun (_ : Unit) => chk (isWord_pre (v0.1 : ByteArray) (65 : Int) (90 : Int)) (bif ((isWord (v0.1 : ByteArray) (65 : Int) (90 : Int)) : Bool) then (bif ((inR (v0.2.1 : Int) (0 : Int) (4 : Int)) : Bool) then (some ((decide (((v0.2.2 : List (Val Y116)).length : Int) ≤ (8 : Int))), ())) else (some (false, ()))) else (some (false, ()))))) N _ _ _ ?_ ?_ ?_]
  · rewrite [m29]; first | rfl | simp (maxSteps := 10000000) -implicitDefEqProofs []
  · rfl
  · intro; simp only [seqR_ret, blockR_ret, retR_ret, retX_ret]
  · simp (maxSteps := 10000000) -implicitDefEqProofs [T29_tr, tr29, T29_lp, lp29, T29_ex, ex29, T29_rg, rg29, T29_fuel, T29_pins, nl29_2_fix, nl29_2_keep, nx29_0_fix, nx29_0_keep, Γ29_64, Γ29_65, Γ29_75, g64, g65, g75]
-- impl.IsRelation
noncomputable def m31_l4 (N : Nat) (v1 : List (Val Y116)) (v2 : Int) (v4 : ByteArray) (v5 : Int) (v6 : List (Val Y116)) (k0 : Unit → Option (Vals [i4])) : Nat → Int → Option (Vals [i4])
  | 0, _ => none
  | n + 1, v3 => bif (decide (v3 < v2)) then (chk (0 ≤ v3 ∧ v3 < (v1.length : Int)) (bif (!((isLabel ((v1.getD v3.toNat (dflt Y116)).1 : ByteArray)) : Bool)) then (some (false, ())) else (bif (!((isCell ((v1.getD v3.toNat (dflt Y116)).2)) : Bool)) then (some (false, ())) else (bif (!(decide ((((v1.getD v3.toNat (dflt Y116)).2).1 : Int) = v5))) then (some (false, ())) else (m31_l4 N v1 v2 v4 v5 v6 k0 n (IntKind.i64.wrap (v3 + (1 : Int)))))))) else (k0 ())
noncomputable def m31 (N : Nat) (v0 : Val Y53) : Option (Vals [i4]) := bif (!((isName (v0.1 : ByteArray)) : Bool)) then (some (false, ())) else (bif (decide ((v0.2.1 : Int) < (0 : Int))) then (some (false, ())) else (bif (decide ((4 : Int) < (v0.2.1 : Int))) then (some (false, ())) else (bif (decide ((8 : Int) < ((v0.2.2 : List (Val Y116)).length : Int))) then (some (false, ())) else (m31_l4 N (v0.2.2 : List (Val Y116)) ((v0.2.2 : List (Val Y116)).length : Int) (v0.1 : ByteArray) (v0.2.1 : Int) (v0.2.2 : List (Val Y116)) (fun (_ : Unit) => some (true, ())) N (0 : Int)))))
def Γ31 : Gam := [(68, g68), (77, g77), (78, g78)]
theorem Γ31_68 : Gam.get Γ31 68 = some g68 := rfl
theorem Γ31_77 : Gam.get Γ31 77 = some g77 := rfl
theorem Γ31_78 : Gam.get Γ31 78 = some g78 := rfl
def nl31_4 : Nm := ⟨[false, true, false, false, false, false, false, false, false, false, false, false, false, false, false, false, false, false, false, false, false, false, false, false, false, false, true, true, true], []⟩
theorem nl31_4_fix : nl31_4.fix = [] := rfl
theorem nl31_4_keep : nl31_4.keep = [false, true, false, false, false, false, false, false, false, false, false, false, false, false, false, false, false, false, false, false, false, false, false, false, false, false, true, true, true] := rfl
def nx31_0 : Nm := ⟨[], []⟩
theorem nx31_0_fix : nx31_0.fix = [] := rfl
theorem nx31_0_keep : nx31_0.keep = [] := rfl
def tr31 : Nat → Tree := fun _ => .done
def lp31 : Nat → Nm := fun i => if i = 4 then nl31_4 else ⟨[], []⟩
def ex31 : Nat → Option Nm := fun i => if i = 0 then some nx31_0 else none
def rg31 : Nat → Option Nm := fun _ => none
theorem p31 : plansOk tr31 (Try.f31.body.getD .skip) = true := by kernel_rfl
def T31 (N : Nat) : Tab := { tr := tr31, lp := lp31, ex := ex31, rg := rg31, fuel := N }
theorem T31_pins (N : Nat) : (T31 N).pins = false := rfl
theorem T31_tr (N i : Nat) : (T31 N).tr i = tr31 i := rfl
theorem T31_lp (N i : Nat) : (T31 N).lp i = lp31 i := rfl
theorem T31_ex (N i : Nat) : (T31 N).ex i = ex31 i := rfl
theorem T31_rg (N i : Nat) : (T31 N).rg i = rg31 i := rfl
theorem T31_fuel (N : Nat) : (T31 N).fuel = N := rfl
noncomputable def c31_4 : Code := cut [true, true, false, true, true, true] (Try.f31.body.getD .skip)
theorem c31_4_at {N : Nat} {Q : X → St → Option (Vals [i4])} {e : List LV} {h : List Blk} : runT tt Γ31 (T31 N) c31_4 Q ⟨e, h⟩ = runT tt Γ31 (T31 N) (cut [true, true, false, true, true, true] (Try.f31.body.getD .skip)) Q ⟨e, h⟩ := rfl
theorem r31_l4 (N : Nat) (v1 : List (Val Y116)) (v2 : Int) (v4 : ByteArray) (v5 : Int) (v6 : List (Val Y116)) {k0 : Unit → Option (Vals [i4])} {Q : X → St → Option (Vals [i4])} {c : Code} (hc : c = c31_4) (hret : ∀ st, Q .ret st = retS tt true [i4] [.tmp 2] st) (h0 : Q (.exit 0) ⟨[u, u, u, u, u, u, u, u, u, u, u, u, u, u, u, u, u, u, u, u, u, u, u, u, u, u, u, u, u, u, u, u, u, u, u, u, u, u, u, u, u, u, u, u, u, u, u, u, u, u, u], []⟩ = k0 ()) : ∀ (n : Nat) (v3 : Int), loopR (runT tt Γ31 (T31 N) c) false nl31_4 Q n ⟨[u, .one (.ptr 0 0 0), u, u, u, u, u, u, u, u, u, u, u, u, u, u, u, u, u, u, u, u, u, u, u, u, .one (.sl 116 Y116 v1 1), .one (.int .i64 v2), .one (.int .i64 v3), u, u, u, u, u, u, u, u, u, u, u, u, u, u, u, u, u, u, u, u, u, u], [.box [.str v4, .int .i64 v5, .sl 116 Y116 v6 1]]⟩ = m31_l4 N v1 v2 v4 v5 v6 k0 n v3 := by
  subst hc; intro n; induction n with
  | zero => intros; rfl
  | succ n ih =>
    intro v3
    rw [loop_succ, c31_4_at, m31_l4]; unfold Try.f31
    simp (maxSteps := 10000000) -implicitDefEqProofs [T31_tr, tr31, T31_lp, lp31, T31_ex, ex31, T31_rg, rg31, T31_fuel, T31_pins, nl31_4_fix, nl31_4_keep, nx31_0_fix, nx31_0_keep, Γ31_68, Γ31_77, Γ31_78, g68, g77, g78, hret, h0, ih]
theorem run31 (N : Nat) (v0 : Val Y53) : runT tt Γ31 (T31 N) (Try.f31.body.getD .skip) (retR tt true [i4] [.tmp 2]) (entryP [i53] 51 (v0, ())) = m31 N v0 := by
  unfold Try.f31
  simp (maxSteps := 10000000) -implicitDefEqProofs [T31_tr, tr31, T31_lp, lp31, T31_ex, ex31, T31_rg, rg31, T31_fuel, T31_pins, nl31_4_fix, nl31_4_keep, nx31_0_fix, nx31_0_keep, Γ31_68, Γ31_77, Γ31_78, g68, g77, g78]
  rewrite [r31_l4 (k0 := (fun (_ : Unit) => some (true, ()))) N _ _ _ _ _ ?_ ?_ ?_]
  · rewrite [m31]; first | rfl | simp (maxSteps := 10000000) -implicitDefEqProofs []
  · rfl
  · intro; simp only [seqR_ret, blockR_ret, retR_ret, retX_ret]
  · simp (maxSteps := 10000000) -implicitDefEqProofs [T31_tr, tr31, T31_lp, lp31, T31_ex, ex31, T31_rg, rg31, T31_fuel, T31_pins, nl31_4_fix, nl31_4_keep, nx31_0_fix, nx31_0_keep, Γ31_68, Γ31_77, Γ31_78, g68, g77, g78]
def rowOk (d : Int) (x : Val Y116) : Bool := isWord x.1 97 122 && isCell x.2 && decide ((x.2.1 : Int) = d)
theorem t29 (N : Nat) (nm : ByteArray) (d : Int) (xs : List (Val Y116)) (K : Unit → Option (Vals [i4])) (hl : xs.length ≤ 1048576) (hx : ∀ x ∈ xs, Bd Y116 x) (n : Nat) (hn : xs.length < n) : m29_l2 N nm d xs K n 0 = bif xs.all (rowOk d) then K () else some (false, ()) :=
  (loop_fold (F := fun n i (_ : Unit) => m29_l2 N nm d xs K n i) (step := fun _ x _ K => bif rowOk d x then K () else some (false, ())) (k := K) hl (fun n i s hi => by
    have hb := hx _ (List.getElem_mem hi)
    rw [m29_l2, bif_dec (by omega), chk_pos (by omega), getD_atI hi, chk_pos (show isWord_pre _ _ _ from hb.1), chk_pos (by omega), chk_pos (show isCell_pre _ from hb.2.2.1), chk_pos (by omega), rowOk]
    cases isWord _ 97 122 <;> cases isCell _ <;> simp [bif_not]) (fun n i s hi => by rw [m29_l2, bif_decN (by omega)]) n () hn).trans (foldK_all xs 0)
theorem t31 (N : Nat) (nm : ByteArray) (d : Int) (xs ys : List (Val Y116)) (K : Unit → Option (Vals [i4])) (hl : xs.length ≤ 1048576) (n : Nat) (hn : xs.length < n) : m31_l4 N xs xs.length nm d ys K n 0 = bif xs.all (rowOk d) then K () else some (false, ()) :=
  (loop_fold (F := fun n i (_ : Unit) => m31_l4 N xs xs.length nm d ys K n i) (step := fun _ x _ K => bif rowOk d x then K () else some (false, ())) (k := K) hl (fun n i s hi => by
    rw [m31_l4, bif_dec (by omega), chk_pos (by omega), getD_atI hi, rowOk]
    simp only [isLabel]
    cases isWord _ 97 122 <;> cases isCell _ <;> simp [bif_not]) (fun n i s hi => by rw [m31_l4, bif_decN (by omega)]) n () hn).trans (foldK_all xs 0)
def g29 : G := { ps := [i53], rs := [i4], dp := true, pre := fun x => isRel_pre x.1, fn := fun x => (isRel x.1, ()) }
def g31 : G := { ps := [i53], rs := [i4], dp := true, pre := fun _ => True, fn := fun x => (isRel x.1, ()) }
theorem isRel_eq (nm : ByteArray) (d : Int) (xs : List (Val Y116)) : isRel (nm, d, xs) = (isWord nm 65 90 && decide (0 ≤ d ∧ d ≤ 4) && decide ((xs.length : Int) ≤ 8) && xs.all (rowOk d)) := rfl
theorem e29 (r : Val Y53) (h : isRel_pre r) : ∃ N, m29 N r = some (isRel r, ()) := ⟨List.length (α := Val Y116) r.2.2 + 1, by
  obtain ⟨nm, d, xs⟩ := r
  change Int at d
  change List (Val Y116) at xs
  obtain ⟨h1, -, h2, h3⟩ := h
  rw [m29, isRel_eq]
  dsimp only
  rw [t29 _ _ _ _ _ h2 h3 _ (Nat.lt_succ_self _), chk_pos (show isWord_pre _ _ _ from h1)]
  simp only [inR]
  cases List.all xs _ <;> cases isWord nm 65 90 <;> cases decide (0 ≤ d ∧ d ≤ 4) <;> simp⟩
theorem s29 : Sound Try.prog 29 g29 := sound_run (tt := tt) (Γ := Γ29) hT (ok_cons s64 (ok_cons s65 (ok_cons s75 ok_nil))) hm (fn := Try.f29) Try.func29 (c := Try.f29.body.getD .skip) (by kernel_rfl) (by kernel_rfl) fun x hx => by
  obtain ⟨N, h⟩ := e29 x.1 hx
  exact ⟨T29 N, p29, noSem_ok _, (run29 N x.1).trans h⟩
theorem e31 (r : Val Y53) : ∃ N, m31 N r = some (isRel r, ()) := ⟨List.length (α := Val Y116) r.2.2 + 1, by
  obtain ⟨nm, d, xs⟩ := r
  change Int at d
  change List (Val Y116) at xs
  rw [m31, isRel_eq]
  dsimp only
  simp only [isName]
  cases isWord nm 65 90 with
  | false => simp
  | true =>
    by_cases h1 : d < 0
    · have : ¬ (0 ≤ d ∧ d ≤ 4) := by omega
      simp [h1, this]
    · by_cases h2 : 4 < d
      · have : ¬ (0 ≤ d ∧ d ≤ 4) := by omega
        simp [h1, h2, this]
      · have : 0 ≤ d ∧ d ≤ 4 := by omega
        by_cases h3 : (8 : Int) < xs.length
        · have h3' : ¬ (xs.length : Int) ≤ 8 := by omega
          simp only [h1, h2, h3, h3', decide_true, decide_false, cond_true, cond_false, Bool.and_false, Bool.false_and, Bool.not_true]
        · have h3' : (xs.length : Int) ≤ 8 := by omega
          rw [t31 _ _ _ _ _ _ (by omega) _ (Nat.lt_succ_self _)]
          simp only [h1, h2, h3, h3', this, decide_true, decide_false, cond_true, cond_false, Bool.true_and, and_self, Bool.not_true]
          cases List.all xs _ <;> rfl⟩
theorem s31 : Sound Try.prog 31 g31 := sound_run (tt := tt) (Γ := Γ31) hT (ok_cons s68 (ok_cons s77 (ok_cons s78 ok_nil))) hm (fn := Try.f31) Try.func31 (c := Try.f31.body.getD .skip) (by kernel_rfl) (by kernel_rfl) fun x hx => by
  obtain ⟨N, h⟩ := e31 x.1
  exact ⟨T31 N, p31, noSem_ok _, (run31 N x.1).trans h⟩
end Go.T
