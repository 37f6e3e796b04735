/- Sizes, copies and equality of relations. -/
import Derived.Test.YtkjiecjpdbpghaaA1
set_option linter.unusedSimpArgs false
set_option linter.unusedVariables false
namespace Go.T
open Go Go.Proofs
set_option maxHeartbeats 4000000
set_option maxRecDepth 100000
def sz_IntS (x : List (Val (.int .i64))) (n : Int) : Int := szV (.slice 3 (.int .i64)) x n
def sz_IntS_pre (x : List (Val (.int .i64))) (n : Int) : Prop := szPre (.slice 3 (.int .i64)) x n
-- laws.szIntS
noncomputable def m101 (N : Nat) (v0 : List (Val (.int .i64))) (v1 : Int) : Option (Vals [i3]) := bif (decide ((IntKind.i64.wrap (v1 - (v0.length : Int))) < (0 : Int))) then (some ((-1 : Int), ())) else (some ((IntKind.i64.wrap (v1 - (v0.length : Int))), ()))
def Γ101 : Gam := []
def tr101 : Nat → Tree := fun _ => .done
def lp101 : Nat → Nm := fun _ => ⟨[], []⟩
def ex101 : Nat → Option Nm := fun _ => none
def rg101 : Nat → Option Nm := fun _ => none
theorem p101 : plansOk tr101 (Try.f101.body.getD .skip) = true := by kernel_rfl
def T101 (N : Nat) : Tab := { tr := tr101, lp := lp101, ex := ex101, rg := rg101, fuel := N }
theorem T101_pins (N : Nat) : (T101 N).pins = false := rfl
theorem T101_tr (N i : Nat) : (T101 N).tr i = tr101 i := rfl
theorem T101_lp (N i : Nat) : (T101 N).lp i = lp101 i := rfl
theorem T101_ex (N i : Nat) : (T101 N).ex i = ex101 i := rfl
theorem T101_rg (N i : Nat) : (T101 N).rg i = rg101 i := rfl
theorem T101_fuel (N : Nat) : (T101 N).fuel = N := rfl
theorem run101 (N : Nat) (v0 : List (Val (.int .i64))) (v1 : Int) : runT tt Γ101 (T101 N) (Try.f101.body.getD .skip) (retR tt true [i3] [.tmp 4]) (entryP [i32, i3] 12 (v0, v1, ())) = m101 N v0 v1 := by
  rw [m101]; unfold Try.f101
  simp (maxSteps := 10000000) -implicitDefEqProofs [T101_tr, tr101, T101_lp, lp101, T101_ex, ex101, T101_rg, rg101, T101_fuel, T101_pins]
  try rfl
def g101 : G := { ps := [i32, i3], rs := [i3], dp := true, pre := fun x => sz_IntS_pre x.1 x.2.1, fn := fun x => (sz_IntS x.1 x.2.1, ()) }
theorem e101 (x : List (Val (.int .i64))) (n : Int) (h : sz_IntS_pre x n) : ∃ N, m101 N x n = some (sz_IntS x n, ()) := ⟨0, by
  obtain ⟨hs, h0, h1⟩ := h
  rw [m101, wrapSub h0 h1 hs.1]
  simp only [sz_IntS, szV_slice]
  by_cases c : n - (List.length x : Int) < 0
  · rw [bif_dec c, if_pos c]
  · rw [bif_decN c, if_neg c, szL_flatV (fun _ _ => rfl) _ _ (by omega)]⟩
theorem s101 : Sound Try.prog 101 g101 := sound_run (tt := tt) (Γ := Γ101) hT ok_nil hm (fn := Try.f101) Try.func101 (c := Try.f101.body.getD .skip) (by kernel_rfl) (by kernel_rfl) fun x hx => by
  obtain ⟨N, h⟩ := e101 x.1 x.2.1 hx
  exact ⟨T101 N, p101, noSem_ok _, (run101 N x.1 x.2.1).trans h⟩
def sz_Atom (x : Val Y134) (n : Int) : Int := szV Y134 x n
def sz_Atom_pre (x : Val Y134) (n : Int) : Prop := szPre Y134 x n
-- laws.szAtom
noncomputable def m126 (N : Nat) (v0 : Val Y134) (v1 : Int) : Option (Vals [i3]) := chk (sz_IntS_pre (v0.1 : List (Val (.int .i64))) v1) (bif (decide (((sz_IntS (v0.1 : List (Val (.int .i64))) v1) : Int) < (0 : Int))) then (some ((-1 : Int), ())) else (some (((sz_IntS (v0.1 : List (Val (.int .i64))) v1) : Int), ())))
def Γ126 : Gam := [(101, g101)]
theorem Γ126_101 : Gam.get Γ126 101 = some g101 := rfl
def tr126 : Nat → Tree := fun _ => .done
def lp126 : Nat → Nm := fun _ => ⟨[], []⟩
def ex126 : Nat → Option Nm := fun _ => none
def rg126 : Nat → Option Nm := fun _ => none
theorem p126 : plansOk tr126 (Try.f126.body.getD .skip) = true := by kernel_rfl
def T126 (N : Nat) : Tab := { tr := tr126, lp := lp126, ex := ex126, rg := rg126, fuel := N }
theorem T126_pins (N : Nat) : (T126 N).pins = false := rfl
theorem T126_tr (N i : Nat) : (T126 N).tr i = tr126 i := rfl
theorem T126_lp (N i : Nat) : (T126 N).lp i = lp126 i := rfl
theorem T126_ex (N i : Nat) : (T126 N).ex i = ex126 i := rfl
theorem T126_rg (N i : Nat) : (T126 N).rg i = rg126 i := rfl
theorem T126_fuel (N : Nat) : (T126 N).fuel = N := rfl
theorem run126 (N : Nat) (v0 : Val Y134) (v1 : Int) : runT tt Γ126 (T126 N) (Try.f126.body.getD .skip) (retR tt true [i3] [.tmp 4]) (entryP [i134, i3] 12 (v0, v1, ())) = m126 N v0 v1 := by
  rw [m126]; unfold Try.f126
  simp (maxSteps := 10000000) -implicitDefEqProofs [T126_tr, tr126, T126_lp, lp126, T126_ex, ex126, T126_rg, rg126, T126_fuel, T126_pins, Γ126_101, g101]
  try rfl
def g126 : G := { ps := [i134, i3], rs := [i3], dp := true, pre := fun x => sz_Atom_pre x.1 x.2.1, fn := fun x => (sz_Atom x.1 x.2.1, ()) }
theorem e126 (x : Val Y134) (n : Int) (h : sz_Atom_pre x n) : ∃ N, m126 N x n = some (sz_Atom x n, ()) := ⟨0, by
  obtain ⟨x0, x1, x2⟩ := x
  obtain ⟨hs, h0, h1⟩ := h
  obtain ⟨s0, s1, s2⟩ := hs
  rw [m126, sz_Atom]
  dsimp only
  rw [chk_pos (show sz_IntS_pre x0 n from ⟨s0, h0, h1⟩)]
  by_cases c0 : sz_IntS x0 n < 0
  · rw [bif_dec c0, szP_neg (show szV (.slice 3 (.int .i64)) x0 n < 0 from c0)]
  · have h00 : 0 ≤ sz_IntS x0 n := by omega
    have h10 : sz_IntS x0 n ≤ 1048576 := Int.le_trans (szV_le (.slice 3 (.int .i64)) x0 n h0).1 h1
    rw [bif_decN c0, szP_pos (show 0 ≤ szV (.slice 3 (.int .i64)) x0 n from h00)]
    change _ = some (szV (.pair (.int .i64) .bool) _ (sz_IntS x0 n), ())
    rw [szP_int h00]
    rfl⟩
theorem s126 : Sound Try.prog 126 g126 := sound_run (tt := tt) (Γ := Γ126) hT (ok_cons s101 ok_nil) hm (fn := Try.f126) Try.func126 (c := Try.f126.body.getD .skip) (by kernel_rfl) (by kernel_rfl) fun x hx => by
  obtain ⟨N, h⟩ := e126 x.1 x.2.1 hx
  exact ⟨T126 N, p126, noSem_ok _, (run126 N x.1 x.2.1).trans h⟩
def sz_AtomS (x : List (Val Y134)) (n : Int) : Int := szV (.slice 134 Y134) x n
def sz_AtomS_pre (x : List (Val Y134)) (n : Int) : Prop := szPre (.slice 134 Y134) x n
-- laws.szAtomS
noncomputable def m63_l5 (N : Nat) (v2 : List (Val Y134)) (k0 : Int → Option (Vals [i3])) : Nat → Int → Int → Option (Vals [i3])
  | 0, _, _ => none
  | n + 1, v3, v4 => bif (decide (v4 < (v2.length : Int))) then (chk (0 ≤ v4 ∧ v4 < (v2.length : Int)) (chk (sz_Atom_pre (v2.getD v4.toNat (dflt Y134)) v3) (bif (decide (((sz_Atom (v2.getD v4.toNat (dflt Y134)) v3) : Int) < (0 : Int))) then (some ((-1 : Int), ())) else (m63_l5 N v2 k0 n ((sz_Atom (v2.getD v4.toNat (dflt Y134)) v3) : Int) (IntKind.i64.wrap (v4 + (1 : Int))))))) else (k0 v3)
noncomputable def m63 (N : Nat) (v0 : List (Val Y134)) (v1 : Int) : Option (Vals [i3]) := bif (decide ((IntKind.i64.wrap (v1 - (v0.length : Int))) < (0 : Int))) then (some ((-1 : Int), ())) else (m63_l5 N v0 (fun (v6 : Int) => some (v6, ())) N (IntKind.i64.wrap (v1 - (v0.length : Int))) (0 : Int))
def Γ63 : Gam := [(126, g126)]
theorem Γ63_126 : Gam.get Γ63 126 = some g126 := rfl
def nl63_5 : Nm := ⟨[true, true, false, false, false, true], []⟩
theorem nl63_5_fix : nl63_5.fix = [] := rfl
theorem nl63_5_keep : nl63_5.keep = [true, true, false, false, false, true] := rfl
def nx63_0 : Nm := ⟨[false, true], []⟩
theorem nx63_0_fix : nx63_0.fix = [] := rfl
theorem nx63_0_keep : nx63_0.keep = [false, true] := rfl
def tr63 : Nat → Tree := fun _ => .done
def lp63 : Nat → Nm := fun i => if i = 5 then nl63_5 else ⟨[], []⟩
def ex63 : Nat → Option Nm := fun i => if i = 0 then some nx63_0 else none
def rg63 : Nat → Option Nm := fun _ => none
theorem p63 : plansOk tr63 (Try.f63.body.getD .skip) = true := by kernel_rfl
def T63 (N : Nat) : Tab := { tr := tr63, lp := lp63, ex := ex63, rg := rg63, fuel := N }
theorem T63_pins (N : Nat) : (T63 N).pins = false := rfl
theorem T63_tr (N i : Nat) : (T63 N).tr i = tr63 i := rfl
theorem T63_lp (N i : Nat) : (T63 N).lp i = lp63 i := rfl
theorem T63_ex (N i : Nat) : (T63 N).ex i = ex63 i := rfl
theorem T63_rg (N i : Nat) : (T63 N).rg i = rg63 i := rfl
theorem T63_fuel (N : Nat) : (T63 N).fuel = N := rfl
noncomputable def c63_5 : Code := cut [true, true, true, false, true, true, true] (Try.f63.body.getD .skip)
theorem c63_5_at {N : Nat} {Q : X → St → Option (Vals [i3])} {e : List LV} {h : List Blk} : runT tt Γ63 (T63 N) c63_5 Q ⟨e, h⟩ = runT tt Γ63 (T63 N) (cut [true, true, true, false, true, true, true] (Try.f63.body.getD .skip)) Q ⟨e, h⟩ := rfl
theorem r63_l5 (N : Nat) (v2 : List (Val Y134)) {k0 : Int → Option (Vals [i3])} {Q : X → St → Option (Vals [i3])} {c : Code} (hc : c = c63_5) (hret : ∀ st, Q .ret st = retS tt true [i3] [.tmp 4] st) (h0 : ∀ (v5 : Int), Q (.exit 0) ⟨[u, .one (.int .i64 v5), u, u, u, u, u, u, u, u, u, u, u, u, u, u, u, u, u, u, u, u, u, u, u, u, u], []⟩ = k0 v5) : ∀ (n : Nat) (v3 : Int) (v4 : Int), loopR (runT tt Γ63 (T63 N) c) false nl63_5 Q n ⟨[.one (.sl 134 Y134 v2 0), .one (.int .i64 v3), u, u, u, .one (.int .i64 v4), u, u, u, u, u, u, u, u, u, u, u, u, u, u, u, u, u, u, u, u, u], []⟩ = m63_l5 N v2 k0 n v3 v4 := by
  subst hc; intro n; induction n with
  | zero => intros; rfl
  | succ n ih =>
    intro v3 v4
    rw [loop_succ, c63_5_at, m63_l5]; unfold Try.f63
    simp (maxSteps := 10000000) -implicitDefEqProofs [T63_tr, tr63, T63_lp, lp63, T63_ex, ex63, T63_rg, rg63, T63_fuel, T63_pins, nl63_5_fix, nl63_5_keep, nx63_0_fix, nx63_0_keep, Γ63_126, g126, hret, h0, ih]
theorem run63 (N : Nat) (v0 : List (Val Y134)) (v1 : Int) : runT tt Γ63 (T63 N) (Try.f63.body.getD .skip) (retR tt true [i3] [.tmp 4]) (entryP [i29, i3] 27 (v0, v1, ())) = m63 N v0 v1 := by
  unfold Try.f63
  simp (maxSteps := 10000000) -implicitDefEqProofs [T63_tr, tr63, T63_lp, lp63, T63_ex, ex63, T63_rg, rg63, T63_fuel, T63_pins, nl63_5_fix, nl63_5_keep, nx63_0_fix, nx63_0_keep, Γ63_126, g126]
  rewrite [r63_l5 (k0 := (fun (v6 : Int) => some (v6, ()))) N _ ?_ ?_ ?_]
  · rewrite [m63]; first | rfl | simp (maxSteps := 10000000) -implicitDefEqProofs []
  · rfl
  · intro; simp only [seqR_ret, blockR_ret, retR_ret, retX_ret]
  · intro v6; simp (maxSteps := 10000000) -implicitDefEqProofs [T63_tr, tr63, T63_lp, lp63, T63_ex, ex63, T63_rg, rg63, T63_fuel, T63_pins, nl63_5_fix, nl63_5_keep, nx63_0_fix, nx63_0_keep, Γ63_126, g126]
def g63 : G := { ps := [i29, i3], rs := [i3], dp := true, pre := fun x => sz_AtomS_pre x.1 x.2.1, fn := fun x => (sz_AtomS x.1 x.2.1, ()) }
theorem e63 (x : List (Val Y134)) (n : Int) (h : sz_AtomS_pre x n) : ∃ N, m63 N x n = some (sz_AtomS x n, ()) := ⟨List.length x + 1, by
  obtain ⟨hs, h0, h1⟩ := h
  rw [m63, wrapSub h0 h1 hs.1]
  simp only [sz_AtomS, szV_slice]
  by_cases c : n - (List.length x : Int) < 0
  · rw [bif_dec c, if_pos c]
  · rw [bif_decN c, if_neg c]
    refine (loop_fold (F := fun n i s => m63_l5 _ x _ n s i) (step := fun _ y (s : Int) K => chk (sz_Atom_pre y s) (bif decide (sz_Atom y s < 0) then some ((-1 : Int), ()) else K (sz_Atom y s))) (k := fun s => some (s, ())) (by omega) (fun n i s hi => ?_) (fun n i s hi => ?_) _ _ (Nat.lt_succ_self _)).trans (sz_loop (t := Y134) x 0 _ (by omega) (by omega) hs.2)
    · rw [m63_l5, bif_dec (by omega), chk_pos (by omega), getD_atI hi]
    · rw [m63_l5, bif_decN (by omega)]⟩
theorem s63 : Sound Try.prog 63 g63 := sound_run (tt := tt) (Γ := Γ63) hT (ok_cons s126 ok_nil) hm (fn := Try.f63) Try.func63 (c := Try.f63.body.getD .skip) (by kernel_rfl) (by kernel_rfl) fun x hx => by
  obtain ⟨N, h⟩ := e63 x.1 x.2.1 hx
  exact ⟨T63 N, p63, noSem_ok _, (run63 N x.1 x.2.1).trans h⟩
def sz_Cell (x : Val Y31) (n : Int) : Int := szV Y31 x n
def sz_Cell_pre (x : Val Y31) (n : Int) : Prop := szPre Y31 x n
-- laws.szCell
noncomputable def m18 (N : Nat) (v0 : Val Y31) (v1 : Int) : Option (Vals [i3]) := chk (sz_AtomS_pre (v0.2 : List (Val Y134)) v1) (bif (decide (((sz_AtomS (v0.2 : List (Val Y134)) v1) : Int) < (0 : Int))) then (some ((-1 : Int), ())) else (some (((sz_AtomS (v0.2 : List (Val Y134)) v1) : Int), ())))
def Γ18 : Gam := [(63, g63)]
theorem Γ18_63 : Gam.get Γ18 63 = some g63 := rfl
def tr18 : Nat → Tree := fun _ => .done
def lp18 : Nat → Nm := fun _ => ⟨[], []⟩
def ex18 : Nat → Option Nm := fun _ => none
def rg18 : Nat → Option Nm := fun _ => none
theorem p18 : plansOk tr18 (Try.f18.body.getD .skip) = true := by kernel_rfl
def T18 (N : Nat) : Tab := { tr := tr18, lp := lp18, ex := ex18, rg := rg18, fuel := N }
theorem T18_pins (N : Nat) : (T18 N).pins = false := rfl
theorem T18_tr (N i : Nat) : (T18 N).tr i = tr18 i := rfl
theorem T18_lp (N i : Nat) : (T18 N).lp i = lp18 i := rfl
theorem T18_ex (N i : Nat) : (T18 N).ex i = ex18 i := rfl
theorem T18_rg (N i : Nat) : (T18 N).rg i = rg18 i := rfl
theorem T18_fuel (N : Nat) : (T18 N).fuel = N := rfl
theorem run18 (N : Nat) (v0 : Val Y31) (v1 : Int) : runT tt Γ18 (T18 N) (Try.f18.body.getD .skip) (retR tt true [i3] [.tmp 4]) (entryP [i31, i3] 12 (v0, v1, ())) = m18 N v0 v1 := by
  rw [m18]; unfold Try.f18
  simp (maxSteps := 10000000) -implicitDefEqProofs [T18_tr, tr18, T18_lp, lp18, T18_ex, ex18, T18_rg, rg18, T18_fuel, T18_pins, Γ18_63, g63]
  try rfl
def g18 : G := { ps := [i31, i3], rs := [i3], dp := true, pre := fun x => sz_Cell_pre x.1 x.2.1, fn := fun x => (sz_Cell x.1 x.2.1, ()) }
theorem e18 (x : Val Y31) (n : Int) (h : sz_Cell_pre x n) : ∃ N, m18 N x n = some (sz_Cell x n, ()) := ⟨0, by
  obtain ⟨x0, x1⟩ := x
  obtain ⟨hs, h0, h1⟩ := h
  obtain ⟨s0, s1⟩ := hs
  rw [m18, sz_Cell]
  dsimp only
  rw [szP_int h0]
  rw [chk_pos (show sz_AtomS_pre x1 n from ⟨s1, h0, h1⟩)]
  by_cases c1 : sz_AtomS x1 n < 0
  · rw [bif_dec c1]
    exact congrArg (fun z => some (z, ())) ((szV_le (.slice 134 Y134) x1 n h0).2 c1).symm
  · rw [bif_decN c1]
    rfl⟩
theorem s18 : Sound Try.prog 18 g18 := sound_run (tt := tt) (Γ := Γ18) hT (ok_cons s63 ok_nil) hm (fn := Try.f18) Try.func18 (c := Try.f18.body.getD .skip) (by kernel_rfl) (by kernel_rfl) fun x hx => by
  obtain ⟨N, h⟩ := e18 x.1 x.2.1 hx
  exact ⟨T18 N, p18, noSem_ok _, (run18 N x.1 x.2.1).trans h⟩
def sz_Row (x : Val Y172) (n : Int) : Int := szV Y172 x n
def sz_Row_pre (x : Val Y172) (n : Int) : Prop := szPre Y172 x n
-- laws.szRow
noncomputable def m134 (N : Nat) (v0 : Val Y172) (v1 : Int) : Option (Vals [i3]) := bif (decide ((IntKind.i64.wrap (v1 - ((v0.1 : ByteArray).size : Int))) < (0 : Int))) then (some ((-1 : Int), ())) else (chk (sz_Cell_pre v0.2 (IntKind.i64.wrap (v1 - ((v0.1 : ByteArray).size : Int)))) (bif (decide (((sz_Cell v0.2 (IntKind.i64.wrap (v1 - ((v0.1 : ByteArray).size : Int)))) : Int) < (0 : Int))) then (some ((-1 : Int), ())) else (some (((sz_Cell v0.2 (IntKind.i64.wrap (v1 - ((v0.1 : ByteArray).size : Int)))) : Int), ()))))
def Γ134 : Gam := [(18, g18)]
theorem Γ134_18 : Gam.get Γ134 18 = some g18 := rfl
def tr134 : Nat → Tree := fun _ => .done
def lp134 : Nat → Nm := fun _ => ⟨[], []⟩
def ex134 : Nat → Option Nm := fun _ => none
def rg134 : Nat → Option Nm := fun _ => none
theorem p134 : plansOk tr134 (Try.f134.body.getD .skip) = true := by kernel_rfl
def T134 (N : Nat) : Tab := { tr := tr134, lp := lp134, ex := ex134, rg := rg134, fuel := N }
theorem T134_pins (N : Nat) : (T134 N).pins = false := rfl
theorem T134_tr (N i : Nat) : (T134 N).tr i = tr134 i := rfl
theorem T134_lp (N i : Nat) : (T134 N).lp i = lp134 i := rfl
theorem T134_ex (N i : Nat) : (T134 N).ex i = ex134 i := rfl
theorem T134_rg (N i : Nat) : (T134 N).rg i = rg134 i := rfl
theorem T134_fuel (N : Nat) : (T134 N).fuel = N := rfl
theorem run134 (N : Nat) (v0 : Val Y172) (v1 : Int) : runT tt Γ134 (T134 N) (Try.f134.body.getD .skip) (retR tt true [i3] [.tmp 4]) (entryP [i172, i3] 19 (v0, v1, ())) = m134 N v0 v1 := by
  rw [m134]; unfold Try.f134
  simp (maxSteps := 10000000) -implicitDefEqProofs [T134_tr, tr134, T134_lp, lp134, T134_ex, ex134, T134_rg, rg134, T134_fuel, T134_pins, Γ134_18, g18]
  try rfl
def g134 : G := { ps := [i172, i3], rs := [i3], dp := true, pre := fun x => sz_Row_pre x.1 x.2.1, fn := fun x => (sz_Row x.1 x.2.1, ()) }
theorem e134 (x : Val Y172) (n : Int) (h : sz_Row_pre x n) : ∃ N, m134 N x n = some (sz_Row x n, ()) := ⟨0, by
  obtain ⟨x0, x1⟩ := x
  obtain ⟨hs, h0, h1⟩ := h
  obtain ⟨s0, s1⟩ := hs
  rw [m134, sz_Row]
  dsimp only
  rw [wrapSub h0 h1 s0]
  by_cases c0 : n - (ByteArray.size x0 : Int) < 0
  · rw [bif_dec c0, szP_strneg c0]
  · rw [bif_decN c0, szP_strpos (by omega)]
    have h00 : 0 ≤ (n - (ByteArray.size x0 : Int)) := by omega
    have h10 : (n - (ByteArray.size x0 : Int)) ≤ 1048576 := by omega
    rw [chk_pos (show sz_Cell_pre x1 (n - (ByteArray.size x0 : Int)) from ⟨s1, h00, h10⟩)]
    by_cases c1 : sz_Cell x1 (n - (ByteArray.size x0 : Int)) < 0
    · rw [bif_dec c1]
      exact congrArg (fun z => some (z, ())) ((szV_le Y31 x1 (n - (ByteArray.size x0 : Int)) h00).2 c1).symm
    · rw [bif_decN c1]
      rfl⟩
theorem s134 : Sound Try.prog 134 g134 := sound_run (tt := tt) (Γ := Γ134) hT (ok_cons s18 ok_nil) hm (fn := Try.f134) Try.func134 (c := Try.f134.body.getD .skip) (by kernel_rfl) (by kernel_rfl) fun x hx => by
  obtain ⟨N, h⟩ := e134 x.1 x.2.1 hx
  exact ⟨T134 N, p134, noSem_ok _, (run134 N x.1 x.2.1).trans h⟩
def sz_RowS (x : List (Val Y172)) (n : Int) : Int := szV (.slice 172 Y172) x n
def sz_RowS_pre (x : List (Val Y172)) (n : Int) : Prop := szPre (.slice 172 Y172) x n
-- laws.szRowS
noncomputable def m74_l5 (N : Nat) (v2 : List (Val Y172)) (k0 : Int → Option (Vals [i3])) : Nat → Int → Int → Option (Vals [i3])
  | 0, _, _ => none
  | n + 1, v3, v4 => bif (decide (v4 < (v2.length : Int))) then (chk (0 ≤ v4 ∧ v4 < (v2.length : Int)) (chk (sz_Row_pre (v2.getD v4.toNat (dflt Y172)) v3) (bif (decide (((sz_Row (v2.getD v4.toNat (dflt Y172)) v3) : Int) < (0 : Int))) then (some ((-1 : Int), ())) else (m74_l5 N v2 k0 n ((sz_Row (v2.getD v4.toNat (dflt Y172)) v3) : Int) (IntKind.i64.wrap (v4 + (1 : Int))))))) else (k0 v3)
noncomputable def m74 (N : Nat) (v0 : List (Val Y172)) (v1 : Int) : Option (Vals [i3]) := bif (decide ((IntKind.i64.wrap (v1 - (v0.length : Int))) < (0 : Int))) then (some ((-1 : Int), ())) else (m74_l5 N v0 (fun (v6 : Int) => some (v6, ())) N (IntKind.i64.wrap (v1 - (v0.length : Int))) (0 : Int))
def Γ74 : Gam := [(134, g134)]
theorem Γ74_134 : Gam.get Γ74 134 = some g134 := rfl
def nl74_5 : Nm := ⟨[true, true, false, false, false, true], []⟩
theorem nl74_5_fix : nl74_5.fix = [] := rfl
theorem nl74_5_keep : nl74_5.keep = [true, true, false, false, false, true] := rfl
def nx74_0 : Nm := ⟨[false, true], []⟩
theorem nx74_0_fix : nx74_0.fix = [] := rfl
theorem nx74_0_keep : nx74_0.keep = [false, true] := rfl
def tr74 : Nat → Tree := fun _ => .done
def lp74 : Nat → Nm := fun i => if i = 5 then nl74_5 else ⟨[], []⟩
def ex74 : Nat → Option Nm := fun i => if i = 0 then some nx74_0 else none
def rg74 : Nat → Option Nm := fun _ => none
theorem p74 : plansOk tr74 (Try.f74.body.getD .skip) = true := by kernel_rfl
def T74 (N : Nat) : Tab := { tr := tr74, lp := lp74, ex := ex74, rg := rg74, fuel := N }
theorem T74_pins (N : Nat) : (T74 N).pins = false := rfl
theorem T74_tr (N i : Nat) : (T74 N).tr i = tr74 i := rfl
theorem T74_lp (N i : Nat) : (T74 N).lp i = lp74 i := rfl
theorem T74_ex (N i : Nat) : (T74 N).ex i = ex74 i := rfl
theorem T74_rg (N i : Nat) : (T74 N).rg i = rg74 i := rfl
theorem T74_fuel (N : Nat) : (T74 N).fuel = N := rfl
noncomputable def c74_5 : Code := cut [true, true, true, false, true, true, true] (Try.f74.body.getD .skip)
theorem c74_5_at {N : Nat} {Q : X → St → Option (Vals [i3])} {e : List LV} {h : List Blk} : runT tt Γ74 (T74 N) c74_5 Q ⟨e, h⟩ = runT tt Γ74 (T74 N) (cut [true, true, true, false, true, true, true] (Try.f74.body.getD .skip)) Q ⟨e, h⟩ := rfl
theorem r74_l5 (N : Nat) (v2 : List (Val Y172)) {k0 : Int → Option (Vals [i3])} {Q : X → St → Option (Vals [i3])} {c : Code} (hc : c = c74_5) (hret : ∀ st, Q .ret st = retS tt true [i3] [.tmp 4] st) (h0 : ∀ (v5 : Int), Q (.exit 0) ⟨[u, .one (.int .i64 v5), u, u, u, u, u, u, u, u, u, u, u, u, u, u, u, u, u, u, u, u, u, u, u, u, u], []⟩ = k0 v5) : ∀ (n : Nat) (v3 : Int) (v4 : Int), loopR (runT tt Γ74 (T74 N) c) false nl74_5 Q n ⟨[.one (.sl 172 Y172 v2 0), .one (.int .i64 v3), u, u, u, .one (.int .i64 v4), u, u, u, u, u, u, u, u, u, u, u, u, u, u, u, u, u, u, u, u, u], []⟩ = m74_l5 N v2 k0 n v3 v4 := by
  subst hc; intro n; induction n with
  | zero => intros; rfl
  | succ n ih =>
    intro v3 v4
    rw [loop_succ, c74_5_at, m74_l5]; unfold Try.f74
    simp (maxSteps := 10000000) -implicitDefEqProofs [T74_tr, tr74, T74_lp, lp74, T74_ex, ex74, T74_rg, rg74, T74_fuel, T74_pins, nl74_5_fix, nl74_5_keep, nx74_0_fix, nx74_0_keep, Γ74_134, g134, hret, h0, ih]
theorem run74 (N : Nat) (v0 : List (Val Y172)) (v1 : Int) : runT tt Γ74 (T74 N) (Try.f74.body.getD .skip) (retR tt true [i3] [.tmp 4]) (entryP [i46, i3] 27 (v0, v1, ())) = m74 N v0 v1 := by
  unfold Try.f74
  simp (maxSteps := 10000000) -implicitDefEqProofs [T74_tr, tr74, T74_lp, lp74, T74_ex, ex74, T74_rg, rg74, T74_fuel, T74_pins, nl74_5_fix, nl74_5_keep, nx74_0_fix, nx74_0_keep, Γ74_134, g134]
  rewrite [r74_l5 (k0 := (fun (v6 : Int) => some (v6, ()))) N _ ?_ ?_ ?_]
  · rewrite [m74]; first | rfl | simp (maxSteps := 10000000) -implicitDefEqProofs []
  · rfl
  · intro; simp only [seqR_ret, blockR_ret, retR_ret, retX_ret]
  · intro v6; simp (maxSteps := 10000000) -implicitDefEqProofs [T74_tr, tr74, T74_lp, lp74, T74_ex, ex74, T74_rg, rg74, T74_fuel, T74_pins, nl74_5_fix, nl74_5_keep, nx74_0_fix, nx74_0_keep, Γ74_134, g134]
def g74 : G := { ps := [i46, i3], rs := [i3], dp := true, pre := fun x => sz_RowS_pre x.1 x.2.1, fn := fun x => (sz_RowS x.1 x.2.1, ()) }
theorem e74 (x : List (Val Y172)) (n : Int) (h : sz_RowS_pre x n) : ∃ N, m74 N x n = some (sz_RowS x n, ()) := ⟨List.length x + 1, by
  obtain ⟨hs, h0, h1⟩ := h
  rw [m74, wrapSub h0 h1 hs.1]
  simp only [sz_RowS, szV_slice]
  by_cases c : n - (List.length x : Int) < 0
  · rw [bif_dec c, if_pos c]
  · rw [bif_decN c, if_neg c]
    refine (loop_fold (F := fun n i s => m74_l5 _ x _ n s i) (step := fun _ y (s : Int) K => chk (sz_Row_pre y s) (bif decide (sz_Row y s < 0) then some ((-1 : Int), ()) else K (sz_Row y s))) (k := fun s => some (s, ())) (by omega) (fun n i s hi => ?_) (fun n i s hi => ?_) _ _ (Nat.lt_succ_self _)).trans (sz_loop (t := Y172) x 0 _ (by omega) (by omega) hs.2)
    · rw [m74_l5, bif_dec (by omega), chk_pos (by omega), getD_atI hi]
    · rw [m74_l5, bif_decN (by omega)]⟩
theorem s74 : Sound Try.prog 74 g74 := sound_run (tt := tt) (Γ := Γ74) hT (ok_cons s134 ok_nil) hm (fn := Try.f74) Try.func74 (c := Try.f74.body.getD .skip) (by kernel_rfl) (by kernel_rfl) fun x hx => by
  obtain ⟨N, h⟩ := e74 x.1 x.2.1 hx
  exact ⟨T74 N, p74, noSem_ok _, (run74 N x.1 x.2.1).trans h⟩
def sz_Relation (x : Val Y48) (n : Int) : Int := szV Y48 x n
def sz_Relation_pre (x : Val Y48) (n : Int) : Prop := szPre Y48 x n
-- laws.szRelation
noncomputable def m28 (N : Nat) (v0 : Val Y48) (v1 : Int) : Option (Vals [i3]) := bif (decide ((IntKind.i64.wrap (v1 - ((v0.1 : ByteArray).size : Int))) < (0 : Int))) then (some ((-1 : Int), ())) else (chk (sz_RowS_pre (v0.2.2 : List (Val Y172)) (IntKind.i64.wrap (v1 - ((v0.1 : ByteArray).size : Int)))) (bif (decide (((sz_RowS (v0.2.2 : List (Val Y172)) (IntKind.i64.wrap (v1 - ((v0.1 : ByteArray).size : Int)))) : Int) < (0 : Int))) then (some ((-1 : Int), ())) else (some (((sz_RowS (v0.2.2 : List (Val Y172)) (IntKind.i64.wrap (v1 - ((v0.1 : ByteArray).size : Int)))) : Int), ()))))
def Γ28 : Gam := [(74, g74)]
theorem Γ28_74 : Gam.get Γ28 74 = some g74 := rfl
def tr28 : Nat → Tree := fun _ => .done
def lp28 : Nat → Nm := fun _ => ⟨[], []⟩
def ex28 : Nat → Option Nm := fun _ => none
def rg28 : Nat → Option Nm := fun _ => none
theorem p28 : plansOk tr28 (Try.f28.body.getD .skip) = true := by kernel_rfl
def T28 (N : Nat) : Tab := { tr := tr28, lp := lp28, ex := ex28, rg := rg28, fuel := N }
theorem T28_pins (N : Nat) : (T28 N).pins = false := rfl
theorem T28_tr (N i : Nat) : (T28 N).tr i = tr28 i := rfl
theorem T28_lp (N i : Nat) : (T28 N).lp i = lp28 i := rfl
theorem T28_ex (N i : Nat) : (T28 N).ex i = ex28 i := rfl
theorem T28_rg (N i : Nat) : (T28 N).rg i = rg28 i := rfl
theorem T28_fuel (N : Nat) : (T28 N).fuel = N := rfl
theorem run28 (N : Nat) (v0 : Val Y48) (v1 : Int) : runT tt Γ28 (T28 N) (Try.f28.body.getD .skip) (retR tt true [i3] [.tmp 4]) (entryP [i48, i3] 19 (v0, v1, ())) = m28 N v0 v1 := by
  rw [m28]; unfold Try.f28
  simp (maxSteps := 10000000) -implicitDefEqProofs [T28_tr, tr28, T28_lp, lp28, T28_ex, ex28, T28_rg, rg28, T28_fuel, T28_pins, Γ28_74, g74]
  try rfl
def g28 : G := { ps := [i48, i3], rs := [i3], dp := true, pre := fun x => sz_Relation_pre x.1 x.2.1, fn := fun x => (sz_Relation x.1 x.2.1, ()) }
theorem e28 (x : Val Y48) (n : Int) (h : sz_Relation_pre x n) : ∃ N, m28 N x n = some (sz_Relation x n, ()) := ⟨0, by
  obtain ⟨x0, x1, x2⟩ := x
  obtain ⟨hs, h0, h1⟩ := h
  obtain ⟨s0, s1, s2⟩ := hs
  rw [m28, sz_Relation]
  dsimp only
  rw [wrapSub h0 h1 s0]
  by_cases c0 : n - (ByteArray.size x0 : Int) < 0
  · rw [bif_dec c0, szP_strneg c0]
  · rw [bif_decN c0, szP_strpos (by omega)]
    have h00 : 0 ≤ (n - (ByteArray.size x0 : Int)) := by omega
    have h10 : (n - (ByteArray.size x0 : Int)) ≤ 1048576 := by omega
    rw [szP_int h00]
    rw [chk_pos (show sz_RowS_pre x2 (n - (ByteArray.size x0 : Int)) from ⟨s2, h00, h10⟩)]
    by_cases c2 : sz_RowS x2 (n - (ByteArray.size x0 : Int)) < 0
    · rw [bif_dec c2]
      exact congrArg (fun z => some (z, ())) ((szV_le (.slice 172 Y172) x2 (n - (ByteArray.size x0 : Int)) h00).2 c2).symm
    · rw [bif_decN c2]
      rfl⟩
theorem s28 : Sound Try.prog 28 g28 := sound_run (tt := tt) (Γ := Γ28) hT (ok_cons s74 ok_nil) hm (fn := Try.f28) Try.func28 (c := Try.f28.body.getD .skip) (by kernel_rfl) (by kernel_rfl) fun x hx => by
  obtain ⟨N, h⟩ := e28 x.1 x.2.1 hx
  exact ⟨T28 N, p28, noSem_ok _, (run28 N x.1 x.2.1).trans h⟩
def sz_RelationS (x : List (Val Y48)) (n : Int) : Int := szV (.slice 48 Y48) x n
def sz_RelationS_pre (x : List (Val Y48)) (n : Int) : Prop := szPre (.slice 48 Y48) x n
-- laws.szRelationS
noncomputable def m13_l5 (N : Nat) (v2 : List (Val Y48)) (k0 : Int → Option (Vals [i3])) : Nat → Int → Int → Option (Vals [i3])
  | 0, _, _ => none
  | n + 1, v3, v4 => bif (decide (v4 < (v2.length : Int))) then (chk (0 ≤ v4 ∧ v4 < (v2.length : Int)) (chk (sz_Relation_pre (v2.getD v4.toNat (dflt Y48)) v3) (bif (decide (((sz_Relation (v2.getD v4.toNat (dflt Y48)) v3) : Int) < (0 : Int))) then (some ((-1 : Int), ())) else (m13_l5 N v2 k0 n ((sz_Relation (v2.getD v4.toNat (dflt Y48)) v3) : Int) (IntKind.i64.wrap (v4 + (1 : Int))))))) else (k0 v3)
noncomputable def m13 (N : Nat) (v0 : List (Val Y48)) (v1 : Int) : Option (Vals [i3]) := bif (decide ((IntKind.i64.wrap (v1 - (v0.length : Int))) < (0 : Int))) then (some ((-1 : Int), ())) else (m13_l5 N v0 (fun (v6 : Int) => some (v6, ())) N (IntKind.i64.wrap (v1 - (v0.length : Int))) (0 : Int))
def Γ13 : Gam := [(28, g28)]
theorem Γ13_28 : Gam.get Γ13 28 = some g28 := rfl
def nl13_5 : Nm := ⟨[true, true, false, false, false, true], []⟩
theorem nl13_5_fix : nl13_5.fix = [] := rfl
theorem nl13_5_keep : nl13_5.keep = [true, true, false, false, false, true] := rfl
def nx13_0 : Nm := ⟨[false, true], []⟩
theorem nx13_0_fix : nx13_0.fix = [] := rfl
theorem nx13_0_keep : nx13_0.keep = [false, true] := rfl
def tr13 : Nat → Tree := fun _ => .done
def lp13 : Nat → Nm := fun i => if i = 5 then nl13_5 else ⟨[], []⟩
def ex13 : Nat → Option Nm := fun i => if i = 0 then some nx13_0 else none
def rg13 : Nat → Option Nm := fun _ => none
theorem p13 : plansOk tr13 (Try.f13.body.getD .skip) = true := by kernel_rfl
def T13 (N : Nat) : Tab := { tr := tr13, lp := lp13, ex := ex13, rg := rg13, fuel := N }
theorem T13_pins (N : Nat) : (T13 N).pins = false := rfl
theorem T13_tr (N i : Nat) : (T13 N).tr i = tr13 i := rfl
theorem T13_lp (N i : Nat) : (T13 N).lp i = lp13 i := rfl
theorem T13_ex (N i : Nat) : (T13 N).ex i = ex13 i := rfl
theorem T13_rg (N i : Nat) : (T13 N).rg i = rg13 i := rfl
theorem T13_fuel (N : Nat) : (T13 N).fuel = N := rfl
noncomputable def c13_5 : Code := cut [true, true, true, false, true, true, true] (Try.f13.body.getD .skip)
theorem c13_5_at {N : Nat} {Q : X → St → Option (Vals [i3])} {e : List LV} {h : List Blk} : runT tt Γ13 (T13 N) c13_5 Q ⟨e, h⟩ = runT tt Γ13 (T13 N) (cut [true, true, true, false, true, true, true] (Try.f13.body.getD .skip)) Q ⟨e, h⟩ := rfl
theorem r13_l5 (N : Nat) (v2 : List (Val Y48)) {k0 : Int → Option (Vals [i3])} {Q : X → St → Option (Vals [i3])} {c : Code} (hc : c = c13_5) (hret : ∀ st, Q .ret st = retS tt true [i3] [.tmp 4] st) (h0 : ∀ (v5 : Int), Q (.exit 0) ⟨[u, .one (.int .i64 v5), u, u, u, u, u, u, u, u, u, u, u, u, u, u, u, u, u, u, u, u, u, u, u, u, u], []⟩ = k0 v5) : ∀ (n : Nat) (v3 : Int) (v4 : Int), loopR (runT tt Γ13 (T13 N) c) false nl13_5 Q n ⟨[.one (.sl 48 Y48 v2 0), .one (.int .i64 v3), u, u, u, .one (.int .i64 v4), u, u, u, u, u, u, u, u, u, u, u, u, u, u, u, u, u, u, u, u, u], []⟩ = m13_l5 N v2 k0 n v3 v4 := by
  subst hc; intro n; induction n with
  | zero => intros; rfl
  | succ n ih =>
    intro v3 v4
    rw [loop_succ, c13_5_at, m13_l5]; unfold Try.f13
    simp (maxSteps := 10000000) -implicitDefEqProofs [T13_tr, tr13, T13_lp, lp13, T13_ex, ex13, T13_rg, rg13, T13_fuel, T13_pins, nl13_5_fix, nl13_5_keep, nx13_0_fix, nx13_0_keep, Γ13_28, g28, hret, h0, ih]
theorem run13 (N : Nat) (v0 : List (Val Y48)) (v1 : Int) : runT tt Γ13 (T13 N) (Try.f13.body.getD .skip) (retR tt true [i3] [.tmp 4]) (entryP [i22, i3] 27 (v0, v1, ())) = m13 N v0 v1 := by
  unfold Try.f13
  simp (maxSteps := 10000000) -implicitDefEqProofs [T13_tr, tr13, T13_lp, lp13, T13_ex, ex13, T13_rg, rg13, T13_fuel, T13_pins, nl13_5_fix, nl13_5_keep, nx13_0_fix, nx13_0_keep, Γ13_28, g28]
  rewrite [r13_l5 (k0 := (fun (v6 : Int) => some (v6, ()))) N _ ?_ ?_ ?_]
  · rewrite [m13]; first | rfl | simp (maxSteps := 10000000) -implicitDefEqProofs []
  · rfl
  · intro; simp only [seqR_ret, blockR_ret, retR_ret, retX_ret]
  · intro v6; simp (maxSteps := 10000000) -implicitDefEqProofs [T13_tr, tr13, T13_lp, lp13, T13_ex, ex13, T13_rg, rg13, T13_fuel, T13_pins, nl13_5_fix, nl13_5_keep, nx13_0_fix, nx13_0_keep, Γ13_28, g28]
def g13 : G := { ps := [i22, i3], rs := [i3], dp := true, pre := fun x => sz_RelationS_pre x.1 x.2.1, fn := fun x => (sz_RelationS x.1 x.2.1, ()) }
theorem e13 (x : List (Val Y48)) (n : Int) (h : sz_RelationS_pre x n) : ∃ N, m13 N x n = some (sz_RelationS x n, ()) := ⟨List.length x + 1, by
  obtain ⟨hs, h0, h1⟩ := h
  rw [m13, wrapSub h0 h1 hs.1]
  simp only [sz_RelationS, szV_slice]
  by_cases c : n - (List.length x : Int) < 0
  · rw [bif_dec c, if_pos c]
  · rw [bif_decN c, if_neg c]
    refine (loop_fold (F := fun n i s => m13_l5 _ x _ n s i) (step := fun _ y (s : Int) K => chk (sz_Relation_pre y s) (bif decide (sz_Relation y s < 0) then some ((-1 : Int), ()) else K (sz_Relation y s))) (k := fun s => some (s, ())) (by omega) (fun n i s hi => ?_) (fun n i s hi => ?_) _ _ (Nat.lt_succ_self _)).trans (sz_loop (t := Y48) x 0 _ (by omega) (by omega) hs.2)
    · rw [m13_l5, bif_dec (by omega), chk_pos (by omega), getD_atI hi]
    · rw [m13_l5, bif_decN (by omega)]⟩
theorem s13 : Sound Try.prog 13 g13 := sound_run (tt := tt) (Γ := Γ13) hT (ok_cons s28 ok_nil) hm (fn := Try.f13) Try.func13 (c := Try.f13.body.getD .skip) (by kernel_rfl) (by kernel_rfl) fun x hx => by
  obtain ⟨N, h⟩ := e13 x.1 x.2.1 hx
  exact ⟨T13 N, p13, noSem_ok _, (run13 N x.1 x.2.1).trans h⟩
def to_IntS (x : List (Val (.int .i64))) : List (Val (.int .i64)) := x
def to_IntS_pre (x : List (Val (.int .i64))) : Prop := Bd (.slice 3 (.int .i64)) x
-- laws.toIntS
noncomputable def m21_l3 (N : Nat) (v1 : List (Val (.int .i64))) (k0 : (List (Val (.int .i64))) → Option (Vals [i32])) : Nat → Int → (List (Val (.int .i64))) → Option (Vals [i32])
  | 0, _, _ => none
  | n + 1, v2, v3 => bif (decide (v2 < (v1.length : Int))) then (chk (0 ≤ v2 ∧ v2 < (v1.length : Int)) (chk (0 ≤ v2 ∧ v2 < (v3.length : Int)) (chk (v2.toNat < v3.length) (m21_l3 N v1 k0 n (IntKind.i64.wrap (v2 + (1 : Int))) (v3.set v2.toNat ((v1.getD v2.toNat (dflt (.int .i64))) : Int)))))) else (k0 v3)
noncomputable def m21 (N : Nat) (v0 : List (Val (.int .i64))) : Option (Vals [i32]) := chk (0 ≤ (v0.length : Int) ∧ (v0.length : Int) ≤ (v0.length : Int) ∧ (v0.length : Int) ≤ 1048576) (m21_l3 N v0 (fun (v5 : List (Val (.int .i64))) => some (v5, ())) N (0 : Int) (List.replicate (v0.length : Int).toNat (dflt (.int .i64))))
def Γ21 : Gam := []
def nl21_3 : Nm := ⟨[true, false, false, true, true], []⟩
theorem nl21_3_fix : nl21_3.fix = [] := rfl
theorem nl21_3_keep : nl21_3.keep = [true, false, false, true, true] := rfl
def nx21_0 : Nm := ⟨[false, false, false, true], []⟩
theorem nx21_0_fix : nx21_0.fix = [] := rfl
theorem nx21_0_keep : nx21_0.keep = [false, false, false, true] := rfl
def tr21 : Nat → Tree := fun _ => .done
def lp21 : Nat → Nm := fun i => if i = 3 then nl21_3 else ⟨[], []⟩
def ex21 : Nat → Option Nm := fun i => if i = 0 then some nx21_0 else none
def rg21 : Nat → Option Nm := fun _ => none
theorem p21 : plansOk tr21 (Try.f21.body.getD .skip) = true := by kernel_rfl
def T21 (N : Nat) : Tab := { tr := tr21, lp := lp21, ex := ex21, rg := rg21, fuel := N }
theorem T21_pins (N : Nat) : (T21 N).pins = false := rfl
theorem T21_tr (N i : Nat) : (T21 N).tr i = tr21 i := rfl
theorem T21_lp (N i : Nat) : (T21 N).lp i = lp21 i := rfl
theorem T21_ex (N i : Nat) : (T21 N).ex i = ex21 i := rfl
theorem T21_rg (N i : Nat) : (T21 N).rg i = rg21 i := rfl
theorem T21_fuel (N : Nat) : (T21 N).fuel = N := rfl
noncomputable def c21_3 : Code := cut [true, true, false, true, true, true] (Try.f21.body.getD .skip)
theorem c21_3_at {N : Nat} {Q : X → St → Option (Vals [i32])} {e : List LV} {h : List Blk} : runT tt Γ21 (T21 N) c21_3 Q ⟨e, h⟩ = runT tt Γ21 (T21 N) (cut [true, true, false, true, true, true] (Try.f21.body.getD .skip)) Q ⟨e, h⟩ := rfl
theorem r21_l3 (N : Nat) (v1 : List (Val (.int .i64))) {k0 : (List (Val (.int .i64))) → Option (Vals [i32])} {Q : X → St → Option (Vals [i32])} {c : Code} (hc : c = c21_3) (hret : ∀ st, Q .ret st = retS tt true [i32] [.tmp 2] st) (h0 : ∀ (v4 : List (Val (.int .i64))), Q (.exit 0) ⟨[u, u, u, .one (.own 0), u, u, u, u, u, u, u, u, u, u, u, u, u, u, u, u, u, u], [.row 3 (.int .i64) v4 true true 0]⟩ = k0 v4) : ∀ (n : Nat) (v2 : Int) (v3 : List (Val (.int .i64))), loopR (runT tt Γ21 (T21 N) c) false nl21_3 Q n ⟨[.one (.sl 3 (.int .i64) v1 1), u, u, .one (.own 0), .one (.int .i64 v2), u, u, u, u, u, u, u, u, u, u, u, u, u, u, u, u, u], [.row 3 (.int .i64) v3 true true 0]⟩ = m21_l3 N v1 k0 n v2 v3 := by
  subst hc; intro n; induction n with
  | zero => intros; rfl
  | succ n ih =>
    intro v2 v3
    rw [loop_succ, c21_3_at, m21_l3]; unfold Try.f21
    simp (maxSteps := 10000000) -implicitDefEqProofs [T21_tr, tr21, T21_lp, lp21, T21_ex, ex21, T21_rg, rg21, T21_fuel, T21_pins, nl21_3_fix, nl21_3_keep, nx21_0_fix, nx21_0_keep, hret, h0, ih]
theorem run21 (N : Nat) (v0 : List (Val (.int .i64))) : runT tt Γ21 (T21 N) (Try.f21.body.getD .skip) (retR tt true [i32] [.tmp 2]) (entryP [i32] 22 (v0, ())) = m21 N v0 := by
  unfold Try.f21
  simp (maxSteps := 10000000) -implicitDefEqProofs [T21_tr, tr21, T21_lp, lp21, T21_ex, ex21, T21_rg, rg21, T21_fuel, T21_pins, nl21_3_fix, nl21_3_keep, nx21_0_fix, nx21_0_keep]
  rewrite [r21_l3 (k0 := (fun (v5 : List (Val (.int .i64))) => some (v5, ()))) N _ ?_ ?_ ?_]
  · rewrite [m21]; first | rfl | simp (maxSteps := 10000000) -implicitDefEqProofs []
  · rfl
  · intro; simp only [seqR_ret, blockR_ret, retR_ret, retX_ret]
  · intro v5; simp (maxSteps := 10000000) -implicitDefEqProofs [T21_tr, tr21, T21_lp, lp21, T21_ex, ex21, T21_rg, rg21, T21_fuel, T21_pins, nl21_3_fix, nl21_3_keep, nx21_0_fix, nx21_0_keep]
def g21 : G := { ps := [i32], rs := [i32], dp := true, pre := fun x => to_IntS_pre x.1, fn := fun x => (to_IntS x.1, ()) }
theorem e21 (x : List (Val (.int .i64))) (h : to_IntS_pre x) : ∃ N, m21 N x = some (to_IntS x, ()) := ⟨List.length x + 1, by
  rw [m21, chk_pos (chk_len h.1), Int.toNat_natCast]
  refine copy_loop (F := fun n i s => m21_l3 _ x _ n i s) (k := fun s => some (s, ())) (dflt (.int .i64)) h.1 (fun n i s hi hl => ?_) (fun n i s hi => ?_) _ (Nat.lt_succ_self _)
  · rw [m21_l3, bif_dec (by omega), chk_pos (by omega), getD_atI hi, chk_pos (by omega), chk_pos (by omega)]
    rfl
  · rw [m21_l3, bif_decN (by omega)]⟩
theorem s21 : Sound Try.prog 21 g21 := sound_run (tt := tt) (Γ := Γ21) hT ok_nil hm (fn := Try.f21) Try.func21 (c := Try.f21.body.getD .skip) (by kernel_rfl) (by kernel_rfl) fun x hx => by
  obtain ⟨N, h⟩ := e21 x.1 hx
  exact ⟨T21 N, p21, noSem_ok _, (run21 N x.1).trans h⟩
def to_Atom (x : Val Y134) : Val Y106 := x
def to_Atom_pre (x : Val Y134) : Prop := Bd Y134 x
-- laws.toAtom
noncomputable def m129 (N : Nat) (v0 : Val Y134) : Option (Vals [i106]) := chk (to_IntS_pre (v0.1 : List (Val (.int .i64)))) (some ((((to_IntS (v0.1 : List (Val (.int .i64)))) : List (Val (.int .i64))), (v0.2.1 : Int), (v0.2.2 : Bool)), ()))
def Γ129 : Gam := [(21, g21)]
theorem Γ129_21 : Gam.get Γ129 21 = some g21 := rfl
def tr129 : Nat → Tree := fun _ => .done
def lp129 : Nat → Nm := fun _ => ⟨[], []⟩
def ex129 : Nat → Option Nm := fun _ => none
def rg129 : Nat → Option Nm := fun _ => none
theorem p129 : plansOk tr129 (Try.f129.body.getD .skip) = true := by kernel_rfl
def T129 (N : Nat) : Tab := { tr := tr129, lp := lp129, ex := ex129, rg := rg129, fuel := N }
theorem T129_pins (N : Nat) : (T129 N).pins = false := rfl
theorem T129_tr (N i : Nat) : (T129 N).tr i = tr129 i := rfl
theorem T129_lp (N i : Nat) : (T129 N).lp i = lp129 i := rfl
theorem T129_ex (N i : Nat) : (T129 N).ex i = ex129 i := rfl
theorem T129_rg (N i : Nat) : (T129 N).rg i = rg129 i := rfl
theorem T129_fuel (N : Nat) : (T129 N).fuel = N := rfl
theorem run129 (N : Nat) (v0 : Val Y134) : runT tt Γ129 (T129 N) (Try.f129.body.getD .skip) (retR tt true [i106] [.cell 2 106]) (entryP [i134] 15 (v0, ())) = m129 N v0 := by
  rw [m129]; unfold Try.f129
  simp (maxSteps := 10000000) -implicitDefEqProofs [T129_tr, tr129, T129_lp, lp129, T129_ex, ex129, T129_rg, rg129, T129_fuel, T129_pins, Γ129_21, g21]
  try rfl
def g129 : G := { ps := [i134], rs := [i106], dp := true, pre := fun x => to_Atom_pre x.1, fn := fun x => (to_Atom x.1, ()) }
theorem e129 (x : Val Y134) (h : to_Atom_pre x) : ∃ N, m129 N x = some (to_Atom x, ()) := ⟨0, by
  obtain ⟨s0, s1, s2⟩ := h
  rw [m129, chk_pos (show to_IntS_pre _ from s0)]
  rfl⟩
theorem s129 : Sound Try.prog 129 g129 := sound_run (tt := tt) (Γ := Γ129) hT (ok_cons s21 ok_nil) hm (fn := Try.f129) Try.func129 (c := Try.f129.body.getD .skip) (by kernel_rfl) (by kernel_rfl) fun x hx => by
  obtain ⟨N, h⟩ := e129 x.1 hx
  exact ⟨T129 N, p129, noSem_ok _, (run129 N x.1).trans h⟩
def to_AtomS (x : List (Val Y134)) : List (Val Y106) := x
def to_AtomS_pre (x : List (Val Y134)) : Prop := Bd (.slice 134 Y134) x
-- laws.toAtomS
noncomputable def m67_l3 (N : Nat) (v1 : List (Val Y134)) (k0 : (List (Val Y106)) → Option (Vals [i34])) : Nat → Int → (List (Val Y106)) → Option (Vals [i34])
  | 0, _, _ => none
  | n + 1, v2, v3 => bif (decide (v2 < (v1.length : Int))) then (chk (0 ≤ v2 ∧ v2 < (v1.length : Int)) (chk (to_Atom_pre (v1.getD v2.toNat (dflt Y134))) (chk (0 ≤ v2 ∧ v2 < (v3.length : Int)) (chk (v2.toNat < v3.length) (m67_l3 N v1 k0 n (IntKind.i64.wrap (v2 + (1 : Int))) (v3.set v2.toNat (((to_Atom (v1.getD v2.toNat (dflt Y134))).1 : List (Val (.int .i64))), (((to_Atom (v1.getD v2.toNat (dflt Y134))).2).1 : Int), (((to_Atom (v1.getD v2.toNat (dflt Y134))).2).2 : Bool)))))))) else (k0 v3)
noncomputable def m67 (N : Nat) (v0 : List (Val Y134)) : Option (Vals [i34]) := chk (0 ≤ (v0.length : Int) ∧ (v0.length : Int) ≤ (v0.length : Int) ∧ (v0.length : Int) ≤ 1048576) (m67_l3 N v0 (fun (v5 : List (Val Y106)) => some (v5, ())) N (0 : Int) (List.replicate (v0.length : Int).toNat (dflt Y106)))
def Γ67 : Gam := [(129, g129)]
theorem Γ67_129 : Gam.get Γ67 129 = some g129 := rfl
def nl67_3 : Nm := ⟨[true, false, false, true, true], []⟩
theorem nl67_3_fix : nl67_3.fix = [] := rfl
theorem nl67_3_keep : nl67_3.keep = [true, false, false, true, true] := rfl
def nx67_0 : Nm := ⟨[false, false, false, true], []⟩
theorem nx67_0_fix : nx67_0.fix = [] := rfl
theorem nx67_0_keep : nx67_0.keep = [false, false, false, true] := rfl
def tr67 : Nat → Tree := fun _ => .done
def lp67 : Nat → Nm := fun i => if i = 3 then nl67_3 else ⟨[], []⟩
def ex67 : Nat → Option Nm := fun i => if i = 0 then some nx67_0 else none
def rg67 : Nat → Option Nm := fun _ => none
theorem p67 : plansOk tr67 (Try.f67.body.getD .skip) = true := by kernel_rfl
def T67 (N : Nat) : Tab := { tr := tr67, lp := lp67, ex := ex67, rg := rg67, fuel := N }
theorem T67_pins (N : Nat) : (T67 N).pins = false := rfl
theorem T67_tr (N i : Nat) : (T67 N).tr i = tr67 i := rfl
theorem T67_lp (N i : Nat) : (T67 N).lp i = lp67 i := rfl
theorem T67_ex (N i : Nat) : (T67 N).ex i = ex67 i := rfl
theorem T67_rg (N i : Nat) : (T67 N).rg i = rg67 i := rfl
theorem T67_fuel (N : Nat) : (T67 N).fuel = N := rfl
noncomputable def c67_3 : Code := cut [true, true, false, true, true, true] (Try.f67.body.getD .skip)
theorem c67_3_at {N : Nat} {Q : X → St → Option (Vals [i34])} {e : List LV} {h : List Blk} : runT tt Γ67 (T67 N) c67_3 Q ⟨e, h⟩ = runT tt Γ67 (T67 N) (cut [true, true, false, true, true, true] (Try.f67.body.getD .skip)) Q ⟨e, h⟩ := rfl
theorem r67_l3 (N : Nat) (v1 : List (Val Y134)) {k0 : (List (Val Y106)) → Option (Vals [i34])} {Q : X → St → Option (Vals [i34])} {c : Code} (hc : c = c67_3) (hret : ∀ st, Q .ret st = retS tt true [i34] [.tmp 2] st) (h0 : ∀ (v4 : List (Val Y106)), Q (.exit 0) ⟨[u, u, u, .one (.own 0), u, u, u, u, u, u, u, u, u, u, u, u, u, u, u, u, u, u, u], [.row 106 Y106 v4 true true 0]⟩ = k0 v4) : ∀ (n : Nat) (v2 : Int) (v3 : List (Val Y106)), loopR (runT tt Γ67 (T67 N) c) false nl67_3 Q n ⟨[.one (.sl 134 Y134 v1 1), u, u, .one (.own 0), .one (.int .i64 v2), u, u, u, u, u, u, u, u, u, u, u, u, u, u, u, u, u, u], [.row 106 Y106 v3 true true 0]⟩ = m67_l3 N v1 k0 n v2 v3 := by
  subst hc; intro n; induction n with
  | zero => intros; rfl
  | succ n ih =>
    intro v2 v3
    rw [loop_succ, c67_3_at, m67_l3]; unfold Try.f67
    simp (maxSteps := 10000000) -implicitDefEqProofs [T67_tr, tr67, T67_lp, lp67, T67_ex, ex67, T67_rg, rg67, T67_fuel, T67_pins, nl67_3_fix, nl67_3_keep, nx67_0_fix, nx67_0_keep, Γ67_129, g129, hret, h0, ih]
theorem run67 (N : Nat) (v0 : List (Val Y134)) : runT tt Γ67 (T67 N) (Try.f67.body.getD .skip) (retR tt true [i34] [.tmp 2]) (entryP [i29] 23 (v0, ())) = m67 N v0 := by
  unfold Try.f67
  simp (maxSteps := 10000000) -implicitDefEqProofs [T67_tr, tr67, T67_lp, lp67, T67_ex, ex67, T67_rg, rg67, T67_fuel, T67_pins, nl67_3_fix, nl67_3_keep, nx67_0_fix, nx67_0_keep, Γ67_129, g129]
  rewrite [r67_l3 (k0 := (fun (v5 : List (Val Y106)) => some (v5, ()))) N _ ?_ ?_ ?_]
  · rewrite [m67]; first | rfl | simp (maxSteps := 10000000) -implicitDefEqProofs []
  · rfl
  · intro; simp only [seqR_ret, blockR_ret, retR_ret, retX_ret]
  · intro v5; simp (maxSteps := 10000000) -implicitDefEqProofs [T67_tr, tr67, T67_lp, lp67, T67_ex, ex67, T67_rg, rg67, T67_fuel, T67_pins, nl67_3_fix, nl67_3_keep, nx67_0_fix, nx67_0_keep, Γ67_129, g129]
def g67 : G := { ps := [i29], rs := [i34], dp := true, pre := fun x => to_AtomS_pre x.1, fn := fun x => (to_AtomS x.1, ()) }
theorem e67 (x : List (Val Y134)) (h : to_AtomS_pre x) : ∃ N, m67 N x = some (to_AtomS x, ()) := ⟨List.length x + 1, by
  rw [m67, chk_pos (chk_len h.1), Int.toNat_natCast]
  refine copy_loop (F := fun n i s => m67_l3 _ x _ n i s) (k := fun s => some (s, ())) (dflt Y106) h.1 (fun n i s hi hl => ?_) (fun n i s hi => ?_) _ (Nat.lt_succ_self _)
  · rw [m67_l3, bif_dec (by omega), chk_pos (by omega), chk_pos (show to_Atom_pre _ from by rw [getD_atI hi]; exact h.2 _ (List.getElem_mem hi)), getD_atI hi, chk_pos (by omega), chk_pos (by omega)]
    rfl
  · rw [m67_l3, bif_decN (by omega)]⟩
theorem s67 : Sound Try.prog 67 g67 := sound_run (tt := tt) (Γ := Γ67) hT (ok_cons s129 ok_nil) hm (fn := Try.f67) Try.func67 (c := Try.f67.body.getD .skip) (by kernel_rfl) (by kernel_rfl) fun x hx => by
  obtain ⟨N, h⟩ := e67 x.1 hx
  exact ⟨T67 N, p67, noSem_ok _, (run67 N x.1).trans h⟩
def to_Cell (x : Val Y31) : Val Y36 := x
def to_Cell_pre (x : Val Y31) : Prop := Bd Y31 x
-- laws.toCell
noncomputable def m20 (N : Nat) (v0 : Val Y31) : Option (Vals [i36]) := chk (to_AtomS_pre (v0.2 : List (Val Y134))) (some (((v0.1 : Int), ((to_AtomS (v0.2 : List (Val Y134))) : List (Val Y106))), ()))
def Γ20 : Gam := [(67, g67)]
theorem Γ20_67 : Gam.get Γ20 67 = some g67 := rfl
def tr20 : Nat → Tree := fun _ => .done
def lp20 : Nat → Nm := fun _ => ⟨[], []⟩
def ex20 : Nat → Option Nm := fun _ => none
def rg20 : Nat → Option Nm := fun _ => none
theorem p20 : plansOk tr20 (Try.f20.body.getD .skip) = true := by kernel_rfl
def T20 (N : Nat) : Tab := { tr := tr20, lp := lp20, ex := ex20, rg := rg20, fuel := N }
theorem T20_pins (N : Nat) : (T20 N).pins = false := rfl
theorem T20_tr (N i : Nat) : (T20 N).tr i = tr20 i := rfl
theorem T20_lp (N i : Nat) : (T20 N).lp i = lp20 i := rfl
theorem T20_ex (N i : Nat) : (T20 N).ex i = ex20 i := rfl
theorem T20_rg (N i : Nat) : (T20 N).rg i = rg20 i := rfl
theorem T20_fuel (N : Nat) : (T20 N).fuel = N := rfl
theorem run20 (N : Nat) (v0 : Val Y31) : runT tt Γ20 (T20 N) (Try.f20.body.getD .skip) (retR tt true [i36] [.cell 2 36]) (entryP [i31] 12 (v0, ())) = m20 N v0 := by
  rw [m20]; unfold Try.f20
  simp (maxSteps := 10000000) -implicitDefEqProofs [T20_tr, tr20, T20_lp, lp20, T20_ex, ex20, T20_rg, rg20, T20_fuel, T20_pins, Γ20_67, g67]
  try rfl
def g20 : G := { ps := [i31], rs := [i36], dp := true, pre := fun x => to_Cell_pre x.1, fn := fun x => (to_Cell x.1, ()) }
theorem e20 (x : Val Y31) (h : to_Cell_pre x) : ∃ N, m20 N x = some (to_Cell x, ()) := ⟨0, by
  obtain ⟨s0, s1⟩ := h
  rw [m20, chk_pos (show to_AtomS_pre _ from s1)]
  rfl⟩
theorem s20 : Sound Try.prog 20 g20 := sound_run (tt := tt) (Γ := Γ20) hT (ok_cons s67 ok_nil) hm (fn := Try.f20) Try.func20 (c := Try.f20.body.getD .skip) (by kernel_rfl) (by kernel_rfl) fun x hx => by
  obtain ⟨N, h⟩ := e20 x.1 hx
  exact ⟨T20 N, p20, noSem_ok _, (run20 N x.1).trans h⟩
def to_Row (x : Val Y172) : Val Y116 := x
def to_Row_pre (x : Val Y172) : Prop := Bd Y172 x
-- laws.toRow
noncomputable def m135 (N : Nat) (v0 : Val Y172) : Option (Vals [i116]) := chk (to_Cell_pre v0.2) (some (((v0.1 : ByteArray), (((to_Cell v0.2).1 : Int), ((to_Cell v0.2).2 : List (Val Y106)))), ()))
def Γ135 : Gam := [(20, g20)]
theorem Γ135_20 : Gam.get Γ135 20 = some g20 := rfl
def tr135 : Nat → Tree := fun _ => .done
def lp135 : Nat → Nm := fun _ => ⟨[], []⟩
def ex135 : Nat → Option Nm := fun _ => none
def rg135 : Nat → Option Nm := fun _ => none
theorem p135 : plansOk tr135 (Try.f135.body.getD .skip) = true := by kernel_rfl
def T135 (N : Nat) : Tab := { tr := tr135, lp := lp135, ex := ex135, rg := rg135, fuel := N }
theorem T135_pins (N : Nat) : (T135 N).pins = false := rfl
theorem T135_tr (N i : Nat) : (T135 N).tr i = tr135 i := rfl
theorem T135_lp (N i : Nat) : (T135 N).lp i = lp135 i := rfl
theorem T135_ex (N i : Nat) : (T135 N).ex i = ex135 i := rfl
theorem T135_rg (N i : Nat) : (T135 N).rg i = rg135 i := rfl
theorem T135_fuel (N : Nat) : (T135 N).fuel = N := rfl
theorem run135 (N : Nat) (v0 : Val Y172) : runT tt Γ135 (T135 N) (Try.f135.body.getD .skip) (retR tt true [i116] [.cell 2 116]) (entryP [i172] 12 (v0, ())) = m135 N v0 := by
  rw [m135]; unfold Try.f135
  simp (maxSteps := 10000000) -implicitDefEqProofs [T135_tr, tr135, T135_lp, lp135, T135_ex, ex135, T135_rg, rg135, T135_fuel, T135_pins, Γ135_20, g20]
  try rfl
def g135 : G := { ps := [i172], rs := [i116], dp := true, pre := fun x => to_Row_pre x.1, fn := fun x => (to_Row x.1, ()) }
theorem e135 (x : Val Y172) (h : to_Row_pre x) : ∃ N, m135 N x = some (to_Row x, ()) := ⟨0, by
  obtain ⟨s0, s1⟩ := h
  rw [m135, chk_pos (show to_Cell_pre _ from s1)]
  rfl⟩
theorem s135 : Sound Try.prog 135 g135 := sound_run (tt := tt) (Γ := Γ135) hT (ok_cons s20 ok_nil) hm (fn := Try.f135) Try.func135 (c := Try.f135.body.getD .skip) (by kernel_rfl) (by kernel_rfl) fun x hx => by
  obtain ⟨N, h⟩ := e135 x.1 hx
  exact ⟨T135 N, p135, noSem_ok _, (run135 N x.1).trans h⟩
def to_RowS (x : List (Val Y172)) : List (Val Y116) := x
def to_RowS_pre (x : List (Val Y172)) : Prop := Bd (.slice 172 Y172) x
-- laws.toRowS
noncomputable def m76_l3 (N : Nat) (v1 : List (Val Y172)) (k0 : (List (Val Y116)) → Option (Vals [i51])) : Nat → Int → (List (Val Y116)) → Option (Vals [i51])
  | 0, _, _ => none
  | n + 1, v2, v3 => bif (decide (v2 < (v1.length : Int))) then (chk (0 ≤ v2 ∧ v2 < (v1.length : Int)) (chk (to_Row_pre (v1.getD v2.toNat (dflt Y172))) (chk (0 ≤ v2 ∧ v2 < (v3.length : Int)) (chk (v2.toNat < v3.length) (m76_l3 N v1 k0 n (IntKind.i64.wrap (v2 + (1 : Int))) (v3.set v2.toNat (((to_Row (v1.getD v2.toNat (dflt Y172))).1 : ByteArray), ((((to_Row (v1.getD v2.toNat (dflt Y172))).2).1 : Int), (((to_Row (v1.getD v2.toNat (dflt Y172))).2).2 : List (Val Y106)))))))))) else (k0 v3)
noncomputable def m76 (N : Nat) (v0 : List (Val Y172)) : Option (Vals [i51]) := chk (0 ≤ (v0.length : Int) ∧ (v0.length : Int) ≤ (v0.length : Int) ∧ (v0.length : Int) ≤ 1048576) (m76_l3 N v0 (fun (v5 : List (Val Y116)) => some (v5, ())) N (0 : Int) (List.replicate (v0.length : Int).toNat (dflt Y116)))
def Γ76 : Gam := [(135, g135)]
theorem Γ76_135 : Gam.get Γ76 135 = some g135 := rfl
def nl76_3 : Nm := ⟨[true, false, false, true, true], []⟩
theorem nl76_3_fix : nl76_3.fix = [] := rfl
theorem nl76_3_keep : nl76_3.keep = [true, false, false, true, true] := rfl
def nx76_0 : Nm := ⟨[false, false, false, true], []⟩
theorem nx76_0_fix : nx76_0.fix = [] := rfl
theorem nx76_0_keep : nx76_0.keep = [false, false, false, true] := rfl
def tr76 : Nat → Tree := fun _ => .done
def lp76 : Nat → Nm := fun i => if i = 3 then nl76_3 else ⟨[], []⟩
def ex76 : Nat → Option Nm := fun i => if i = 0 then some nx76_0 else none
def rg76 : Nat → Option Nm := fun _ => none
theorem p76 : plansOk tr76 (Try.f76.body.getD .skip) = true := by kernel_rfl
def T76 (N : Nat) : Tab := { tr := tr76, lp := lp76, ex := ex76, rg := rg76, fuel := N }
theorem T76_pins (N : Nat) : (T76 N).pins = false := rfl
theorem T76_tr (N i : Nat) : (T76 N).tr i = tr76 i := rfl
theorem T76_lp (N i : Nat) : (T76 N).lp i = lp76 i := rfl
theorem T76_ex (N i : Nat) : (T76 N).ex i = ex76 i := rfl
theorem T76_rg (N i : Nat) : (T76 N).rg i = rg76 i := rfl
theorem T76_fuel (N : Nat) : (T76 N).fuel = N := rfl
noncomputable def c76_3 : Code := cut [true, true, false, true, true, true] (Try.f76.body.getD .skip)
theorem c76_3_at {N : Nat} {Q : X → St → Option (Vals [i51])} {e : List LV} {h : List Blk} : runT tt Γ76 (T76 N) c76_3 Q ⟨e, h⟩ = runT tt Γ76 (T76 N) (cut [true, true, false, true, true, true] (Try.f76.body.getD .skip)) Q ⟨e, h⟩ := rfl
theorem r76_l3 (N : Nat) (v1 : List (Val Y172)) {k0 : (List (Val Y116)) → Option (Vals [i51])} {Q : X → St → Option (Vals [i51])} {c : Code} (hc : c = c76_3) (hret : ∀ st, Q .ret st = retS tt true [i51] [.tmp 2] st) (h0 : ∀ (v4 : List (Val Y116)), Q (.exit 0) ⟨[u, u, u, .one (.own 0), u, u, u, u, u, u, u, u, u, u, u, u, u, u, u, u, u, u, u], [.row 116 Y116 v4 true true 0]⟩ = k0 v4) : ∀ (n : Nat) (v2 : Int) (v3 : List (Val Y116)), loopR (runT tt Γ76 (T76 N) c) false nl76_3 Q n ⟨[.one (.sl 172 Y172 v1 1), u, u, .one (.own 0), .one (.int .i64 v2), u, u, u, u, u, u, u, u, u, u, u, u, u, u, u, u, u, u], [.row 116 Y116 v3 true true 0]⟩ = m76_l3 N v1 k0 n v2 v3 := by
  subst hc; intro n; induction n with
  | zero => intros; rfl
  | succ n ih =>
    intro v2 v3
    rw [loop_succ, c76_3_at, m76_l3]; unfold Try.f76
    simp (maxSteps := 10000000) -implicitDefEqProofs [T76_tr, tr76, T76_lp, lp76, T76_ex, ex76, T76_rg, rg76, T76_fuel, T76_pins, nl76_3_fix, nl76_3_keep, nx76_0_fix, nx76_0_keep, Γ76_135, g135, hret, h0, ih]
theorem run76 (N : Nat) (v0 : List (Val Y172)) : runT tt Γ76 (T76 N) (Try.f76.body.getD .skip) (retR tt true [i51] [.tmp 2]) (entryP [i46] 23 (v0, ())) = m76 N v0 := by
  unfold Try.f76
  simp (maxSteps := 10000000) -implicitDefEqProofs [T76_tr, tr76, T76_lp, lp76, T76_ex, ex76, T76_rg, rg76, T76_fuel, T76_pins, nl76_3_fix, nl76_3_keep, nx76_0_fix, nx76_0_keep, Γ76_135, g135]
  rewrite [r76_l3 (k0 := (fun (v5 : List (Val Y116)) => some (v5, ()))) N _ ?_ ?_ ?_]
  · rewrite [m76]; first | rfl | simp (maxSteps := 10000000) -implicitDefEqProofs []
  · rfl
  · intro; simp only [seqR_ret, blockR_ret, retR_ret, retX_ret]
  · intro v5; simp (maxSteps := 10000000) -implicitDefEqProofs [T76_tr, tr76, T76_lp, lp76, T76_ex, ex76, T76_rg, rg76, T76_fuel, T76_pins, nl76_3_fix, nl76_3_keep, nx76_0_fix, nx76_0_keep, Γ76_135, g135]
def g76 : G := { ps := [i46], rs := [i51], dp := true, pre := fun x => to_RowS_pre x.1, fn := fun x => (to_RowS x.1, ()) }
theorem e76 (x : List (Val Y172)) (h : to_RowS_pre x) : ∃ N, m76 N x = some (to_RowS x, ()) := ⟨List.length x + 1, by
  rw [m76, chk_pos (chk_len h.1), Int.toNat_natCast]
  refine copy_loop (F := fun n i s => m76_l3 _ x _ n i s) (k := fun s => some (s, ())) (dflt Y116) h.1 (fun n i s hi hl => ?_) (fun n i s hi => ?_) _ (Nat.lt_succ_self _)
  · rw [m76_l3, bif_dec (by omega), chk_pos (by omega), chk_pos (show to_Row_pre _ from by rw [getD_atI hi]; exact h.2 _ (List.getElem_mem hi)), getD_atI hi, chk_pos (by omega), chk_pos (by omega)]
    rfl
  · rw [m76_l3, bif_decN (by omega)]⟩
theorem s76 : Sound Try.prog 76 g76 := sound_run (tt := tt) (Γ := Γ76) hT (ok_cons s135 ok_nil) hm (fn := Try.f76) Try.func76 (c := Try.f76.body.getD .skip) (by kernel_rfl) (by kernel_rfl) fun x hx => by
  obtain ⟨N, h⟩ := e76 x.1 hx
  exact ⟨T76 N, p76, noSem_ok _, (run76 N x.1).trans h⟩
def to_Relation (x : Val Y48) : Val Y53 := x
def to_Relation_pre (x : Val Y48) : Prop := Bd Y48 x
-- laws.toRelation
noncomputable def m30 (N : Nat) (v0 : Val Y48) : Option (Vals [i53]) := chk (to_RowS_pre (v0.2.2 : List (Val Y172))) (some (((v0.1 : ByteArray), (v0.2.1 : Int), ((to_RowS (v0.2.2 : List (Val Y172))) : List (Val Y116))), ()))
def Γ30 : Gam := [(76, g76)]
theorem Γ30_76 : Gam.get Γ30 76 = some g76 := rfl
def tr30 : Nat → Tree := fun _ => .done
def lp30 : Nat → Nm := fun _ => ⟨[], []⟩
def ex30 : Nat → Option Nm := fun _ => none
def rg30 : Nat → Option Nm := fun _ => none
theorem p30 : plansOk tr30 (Try.f30.body.getD .skip) = true := by kernel_rfl
def T30 (N : Nat) : Tab := { tr := tr30, lp := lp30, ex := ex30, rg := rg30, fuel := N }
theorem T30_pins (N : Nat) : (T30 N).pins = false := rfl
theorem T30_tr (N i : Nat) : (T30 N).tr i = tr30 i := rfl
theorem T30_lp (N i : Nat) : (T30 N).lp i = lp30 i := rfl
theorem T30_ex (N i : Nat) : (T30 N).ex i = ex30 i := rfl
theorem T30_rg (N i : Nat) : (T30 N).rg i = rg30 i := rfl
theorem T30_fuel (N : Nat) : (T30 N).fuel = N := rfl
theorem run30 (N : Nat) (v0 : Val Y48) : runT tt Γ30 (T30 N) (Try.f30.body.getD .skip) (retR tt true [i53] [.cell 2 53]) (entryP [i48] 15 (v0, ())) = m30 N v0 := by
  rw [m30]; unfold Try.f30
  simp (maxSteps := 10000000) -implicitDefEqProofs [T30_tr, tr30, T30_lp, lp30, T30_ex, ex30, T30_rg, rg30, T30_fuel, T30_pins, Γ30_76, g76]
  try rfl
def g30 : G := { ps := [i48], rs := [i53], dp := true, pre := fun x => to_Relation_pre x.1, fn := fun x => (to_Relation x.1, ()) }
theorem e30 (x : Val Y48) (h : to_Relation_pre x) : ∃ N, m30 N x = some (to_Relation x, ()) := ⟨0, by
  obtain ⟨s0, s1, s2⟩ := h
  rw [m30, chk_pos (show to_RowS_pre _ from s2)]
  rfl⟩
theorem s30 : Sound Try.prog 30 g30 := sound_run (tt := tt) (Γ := Γ30) hT (ok_cons s76 ok_nil) hm (fn := Try.f30) Try.func30 (c := Try.f30.body.getD .skip) (by kernel_rfl) (by kernel_rfl) fun x hx => by
  obtain ⟨N, h⟩ := e30 x.1 hx
  exact ⟨T30 N, p30, noSem_ok _, (run30 N x.1).trans h⟩
def to_RelationS (x : List (Val Y48)) : List (Val Y53) := x
def to_RelationS_pre (x : List (Val Y48)) : Prop := Bd (.slice 48 Y48) x
-- laws.toRelationS
noncomputable def m15_l3 (N : Nat) (v1 : List (Val Y48)) (k0 : (List (Val Y53)) → Option (Vals [i25])) : Nat → Int → (List (Val Y53)) → Option (Vals [i25])
  | 0, _, _ => none
  | n + 1, v2, v3 => bif (decide (v2 < (v1.length : Int))) then (chk (0 ≤ v2 ∧ v2 < (v1.length : Int)) (chk (to_Relation_pre (v1.getD v2.toNat (dflt Y48))) (chk (0 ≤ v2 ∧ v2 < (v3.length : Int)) (chk (v2.toNat < v3.length) (m15_l3 N v1 k0 n (IntKind.i64.wrap (v2 + (1 : Int))) (v3.set v2.toNat (((to_Relation (v1.getD v2.toNat (dflt Y48))).1 : ByteArray), (((to_Relation (v1.getD v2.toNat (dflt Y48))).2).1 : Int), (((to_Relation (v1.getD v2.toNat (dflt Y48))).2).2 : List (Val Y116))))))))) else (k0 v3)
noncomputable def m15 (N : Nat) (v0 : List (Val Y48)) : Option (Vals [i25]) := chk (0 ≤ (v0.length : Int) ∧ (v0.length : Int) ≤ (v0.length : Int) ∧ (v0.length : Int) ≤ 1048576) (m15_l3 N v0 (fun (v5 : List (Val Y53)) => some (v5, ())) N (0 : Int) (List.replicate (v0.length : Int).toNat (dflt Y53)))
def Γ15 : Gam := [(30, g30)]
theorem Γ15_30 : Gam.get Γ15 30 = some g30 := rfl
def nl15_3 : Nm := ⟨[true, false, false, true, true], []⟩
theorem nl15_3_fix : nl15_3.fix = [] := rfl
theorem nl15_3_keep : nl15_3.keep = [true, false, false, true, true] := rfl
def nx15_0 : Nm := ⟨[false, false, false, true], []⟩
theorem nx15_0_fix : nx15_0.fix = [] := rfl
theorem nx15_0_keep : nx15_0.keep = [false, false, false, true] := rfl
def tr15 : Nat → Tree := fun _ => .done
def lp15 : Nat → Nm := fun i => if i = 3 then nl15_3 else ⟨[], []⟩
def ex15 : Nat → Option Nm := fun i => if i = 0 then some nx15_0 else none
def rg15 : Nat → Option Nm := fun _ => none
theorem p15 : plansOk tr15 (Try.f15.body.getD .skip) = true := by kernel_rfl
def T15 (N : Nat) : Tab := { tr := tr15, lp := lp15, ex := ex15, rg := rg15, fuel := N }
theorem T15_pins (N : Nat) : (T15 N).pins = false := rfl
theorem T15_tr (N i : Nat) : (T15 N).tr i = tr15 i := rfl
theorem T15_lp (N i : Nat) : (T15 N).lp i = lp15 i := rfl
theorem T15_ex (N i : Nat) : (T15 N).ex i = ex15 i := rfl
theorem T15_rg (N i : Nat) : (T15 N).rg i = rg15 i := rfl
theorem T15_fuel (N : Nat) : (T15 N).fuel = N := rfl
noncomputable def c15_3 : Code := cut [true, true, false, true, true, true] (Try.f15.body.getD .skip)
theorem c15_3_at {N : Nat} {Q : X → St → Option (Vals [i25])} {e : List LV} {h : List Blk} : runT tt Γ15 (T15 N) c15_3 Q ⟨e, h⟩ = runT tt Γ15 (T15 N) (cut [true, true, false, true, true, true] (Try.f15.body.getD .skip)) Q ⟨e, h⟩ := rfl
theorem r15_l3 (N : Nat) (v1 : List (Val Y48)) {k0 : (List (Val Y53)) → Option (Vals [i25])} {Q : X → St → Option (Vals [i25])} {c : Code} (hc : c = c15_3) (hret : ∀ st, Q .ret st = retS tt true [i25] [.tmp 2] st) (h0 : ∀ (v4 : List (Val Y53)), Q (.exit 0) ⟨[u, u, u, .one (.own 0), u, u, u, u, u, u, u, u, u, u, u, u, u, u, u, u, u, u, u], [.row 53 Y53 v4 true true 0]⟩ = k0 v4) : ∀ (n : Nat) (v2 : Int) (v3 : List (Val Y53)), loopR (runT tt Γ15 (T15 N) c) false nl15_3 Q n ⟨[.one (.sl 48 Y48 v1 1), u, u, .one (.own 0), .one (.int .i64 v2), u, u, u, u, u, u, u, u, u, u, u, u, u, u, u, u, u, u], [.row 53 Y53 v3 true true 0]⟩ = m15_l3 N v1 k0 n v2 v3 := by
  subst hc; intro n; induction n with
  | zero => intros; rfl
  | succ n ih =>
    intro v2 v3
    rw [loop_succ, c15_3_at, m15_l3]; unfold Try.f15
    simp (maxSteps := 10000000) -implicitDefEqProofs [T15_tr, tr15, T15_lp, lp15, T15_ex, ex15, T15_rg, rg15, T15_fuel, T15_pins, nl15_3_fix, nl15_3_keep, nx15_0_fix, nx15_0_keep, Γ15_30, g30, hret, h0, ih]
theorem run15 (N : Nat) (v0 : List (Val Y48)) : runT tt Γ15 (T15 N) (Try.f15.body.getD .skip) (retR tt true [i25] [.tmp 2]) (entryP [i22] 23 (v0, ())) = m15 N v0 := by
  unfold Try.f15
  simp (maxSteps := 10000000) -implicitDefEqProofs [T15_tr, tr15, T15_lp, lp15, T15_ex, ex15, T15_rg, rg15, T15_fuel, T15_pins, nl15_3_fix, nl15_3_keep, nx15_0_fix, nx15_0_keep, Γ15_30, g30]
  rewrite [r15_l3 (k0 := (fun (v5 : List (Val Y53)) => some (v5, ()))) N _ ?_ ?_ ?_]
  · rewrite [m15]; first | rfl | simp (maxSteps := 10000000) -implicitDefEqProofs []
  · rfl
  · intro; simp only [seqR_ret, blockR_ret, retR_ret, retX_ret]
  · intro v5; simp (maxSteps := 10000000) -implicitDefEqProofs [T15_tr, tr15, T15_lp, lp15, T15_ex, ex15, T15_rg, rg15, T15_fuel, T15_pins, nl15_3_fix, nl15_3_keep, nx15_0_fix, nx15_0_keep, Γ15_30, g30]
def g15 : G := { ps := [i22], rs := [i25], dp := true, pre := fun x => to_RelationS_pre x.1, fn := fun x => (to_RelationS x.1, ()) }
theorem e15 (x : List (Val Y48)) (h : to_RelationS_pre x) : ∃ N, m15 N x = some (to_RelationS x, ()) := ⟨List.length x + 1, by
  rw [m15, chk_pos (chk_len h.1), Int.toNat_natCast]
  refine copy_loop (F := fun n i s => m15_l3 _ x _ n i s) (k := fun s => some (s, ())) (dflt Y53) h.1 (fun n i s hi hl => ?_) (fun n i s hi => ?_) _ (Nat.lt_succ_self _)
  · rw [m15_l3, bif_dec (by omega), chk_pos (by omega), chk_pos (show to_Relation_pre _ from by rw [getD_atI hi]; exact h.2 _ (List.getElem_mem hi)), getD_atI hi, chk_pos (by omega), chk_pos (by omega)]
    rfl
  · rw [m15_l3, bif_decN (by omega)]⟩
theorem s15 : Sound Try.prog 15 g15 := sound_run (tt := tt) (Γ := Γ15) hT (ok_cons s30 ok_nil) hm (fn := Try.f15) Try.func15 (c := Try.f15.body.getD .skip) (by kernel_rfl) (by kernel_rfl) fun x hx => by
  obtain ⟨N, h⟩ := e15 x.1 hx
  exact ⟨T15 N, p15, noSem_ok _, (run15 N x.1).trans h⟩
def eq_IntS (x y : List (Val (.int .i64))) : Bool := eqV (.slice 3 (.int .i64)) x y
def eq_IntS_pre (x _ : List (Val (.int .i64))) : Prop := Bd (.slice 3 (.int .i64)) x
-- laws.eqIntS
noncomputable def m24_l4 (N : Nat) (v2 : List (Val (.int .i64))) (v3 : List (Val (.int .i64))) (k0 : Unit → Option (Vals [i4])) : Nat → Int → Option (Vals [i4])
  | 0, _ => none
  | n + 1, v4 => bif (decide (v4 < (v2.length : Int))) then (chk (0 ≤ v4 ∧ v4 < (v2.length : Int)) (chk (0 ≤ v4 ∧ v4 < (v3.length : Int)) (bif (!(decide (((v2.getD v4.toNat (dflt (.int .i64))) : Int) = ((v3.getD v4.toNat (dflt (.int .i64))) : Int)))) then (some (false, ())) else (m24_l4 N v2 v3 k0 n (IntKind.i64.wrap (v4 + (1 : Int))))))) else (k0 ())
noncomputable def m24 (N : Nat) (v0 : List (Val (.int .i64))) (v1 : List (Val (.int .i64))) : Option (Vals [i4]) := bif (!(decide ((v0.length : Int) = (v1.length : Int)))) then (some (false, ())) else (m24_l4 N v0 v1 (fun (_ : Unit) => some (true, ())) N (0 : Int))
def Γ24 : Gam := []
def nl24_4 : Nm := ⟨[true, true, false, false, false, true], []⟩
theorem nl24_4_fix : nl24_4.fix = [] := rfl
theorem nl24_4_keep : nl24_4.keep = [true, true, false, false, false, true] := rfl
def nx24_0 : Nm := ⟨[], []⟩
theorem nx24_0_fix : nx24_0.fix = [] := rfl
theorem nx24_0_keep : nx24_0.keep = [] := rfl
def tr24 : Nat → Tree := fun i => if i = 6 then .quiet 0 (.quiet 1 (.quiet 2 (.quiet 3 (.quiet 4 (.quiet 5 (.quiet 6 (.quiet 7 (.quiet 8 .done)))))))) else .done
def lp24 : Nat → Nm := fun i => if i = 4 then nl24_4 else ⟨[], []⟩
def ex24 : Nat → Option Nm := fun i => if i = 0 then some nx24_0 else none
def rg24 : Nat → Option Nm := fun _ => none
theorem p24 : plansOk tr24 (Try.f24.body.getD .skip) = true := by kernel_rfl
def T24 (N : Nat) : Tab := { tr := tr24, lp := lp24, ex := ex24, rg := rg24, fuel := N }
theorem T24_pins (N : Nat) : (T24 N).pins = false := rfl
theorem T24_tr (N i : Nat) : (T24 N).tr i = tr24 i := rfl
theorem T24_lp (N i : Nat) : (T24 N).lp i = lp24 i := rfl
theorem T24_ex (N i : Nat) : (T24 N).ex i = ex24 i := rfl
theorem T24_rg (N i : Nat) : (T24 N).rg i = rg24 i := rfl
theorem T24_fuel (N : Nat) : (T24 N).fuel = N := rfl
noncomputable def c24_4 : Code := cut [true, true, false, true, true, true] (Try.f24.body.getD .skip)
theorem c24_4_at {N : Nat} {Q : X → St → Option (Vals [i4])} {e : List LV} {h : List Blk} : runT tt Γ24 (T24 N) c24_4 Q ⟨e, h⟩ = runT tt Γ24 (T24 N) (cut [true, true, false, true, true, true] (Try.f24.body.getD .skip)) Q ⟨e, h⟩ := rfl
theorem r24_l4 (N : Nat) (v2 : List (Val (.int .i64))) (v3 : List (Val (.int .i64))) {k0 : Unit → Option (Vals [i4])} {Q : X → St → Option (Vals [i4])} {c : Code} (hc : c = c24_4) (hret : ∀ st, Q .ret st = retS tt true [i4] [.tmp 4] st) (h0 : Q (.exit 0) ⟨[u, u, u, u, u, u, u, u, u, u, u, u, u, u, u, u, u, u, u, u, u, u, u, u, u, u], []⟩ = k0 ()) : ∀ (n : Nat) (v4 : Int), loopR (runT tt Γ24 (T24 N) c) false nl24_4 Q n ⟨[.one (.sl 3 (.int .i64) v2 0), .one (.sl 3 (.int .i64) v3 0), u, u, u, .one (.int .i64 v4), u, u, u, u, u, u, u, u, u, u, u, u, u, u, u, u, u, u, u, u], []⟩ = m24_l4 N v2 v3 k0 n v4 := by
  subst hc; intro n; induction n with
  | zero => intros; rfl
  | succ n ih =>
    intro v4
    rw [loop_succ, c24_4_at, m24_l4]; unfold Try.f24
    simp (maxSteps := 10000000) -implicitDefEqProofs [T24_tr, tr24, T24_lp, lp24, T24_ex, ex24, T24_rg, rg24, T24_fuel, T24_pins, nl24_4_fix, nl24_4_keep, nx24_0_fix, nx24_0_keep, hret, h0, ih]
theorem run24 (N : Nat) (v0 : List (Val (.int .i64))) (v1 : List (Val (.int .i64))) : runT tt Γ24 (T24 N) (Try.f24.body.getD .skip) (retR tt true [i4] [.tmp 4]) (entryP [i32, i32] 26 (v0, v1, ())) = m24 N v0 v1 := by
  unfold Try.f24
  simp (maxSteps := 10000000) -implicitDefEqProofs [T24_tr, tr24, T24_lp, lp24, T24_ex, ex24, T24_rg, rg24, T24_fuel, T24_pins, nl24_4_fix, nl24_4_keep, nx24_0_fix, nx24_0_keep]
  rewrite [r24_l4 (k0 := (fun (_ : Unit) => some (true, ()))) N _ _ ?_ ?_ ?_]
  · rewrite [m24]; first | rfl | simp (maxSteps := 10000000) -implicitDefEqProofs []
  · rfl
  · intro; simp only [seqR_ret, blockR_ret, retR_ret, retX_ret]
  · simp (maxSteps := 10000000) -implicitDefEqProofs [T24_tr, tr24, T24_lp, lp24, T24_ex, ex24, T24_rg, rg24, T24_fuel, T24_pins, nl24_4_fix, nl24_4_keep, nx24_0_fix, nx24_0_keep]
def g24 : G := { ps := [i32, i32], rs := [i4], dp := true, pre := fun x => eq_IntS_pre x.1 x.2.1, fn := fun x => (eq_IntS x.1 x.2.1, ()) }
theorem e24 (x y : List (Val (.int .i64))) (h : eq_IntS_pre x y) : ∃ N, m24 N x y = some (eq_IntS x y, ()) := ⟨List.length x + 1, by
  rw [m24, bif_not]
  rw [eq_IntS, eqS]
  by_cases c : List.length x = List.length y
  · rw [bif_dec (by omega)]
    refine (eq_loop (f := eqV (.int .i64)) (xs := x) (ys := y) (F := fun n i => m24_l4 _ x y _ n i) (k := fun _ => some (true, ())) (r := some (false, ())) h.1 c (fun n i hi hi2 => ?_) (fun n i hi => ?_) _ (Nat.lt_succ_self _)).trans bif_some
    · rw [m24_l4, bif_dec (by omega), chk_pos (by omega), chk_pos (by omega), getD_atI hi, getD_atI hi2, bif_not]
      rfl
    · rw [m24_l4, bif_decN (by omega)]
  · rw [bif_decN (by omega), eqL_len _ _ c]⟩
theorem s24 : Sound Try.prog 24 g24 := sound_run (tt := tt) (Γ := Γ24) hT ok_nil hm (fn := Try.f24) Try.func24 (c := Try.f24.body.getD .skip) (by kernel_rfl) (by kernel_rfl) fun x hx => by
  obtain ⟨N, h⟩ := e24 x.1 x.2.1 hx
  exact ⟨T24 N, p24, noSem_ok _, (run24 N x.1 x.2.1).trans h⟩
def eq_Atom (x y : Val Y106) : Bool := eqV Y106 x y
def eq_Atom_pre (x _ : Val Y106) : Prop := Bd Y106 x
-- laws.eqAtom
noncomputable def m133 (N : Nat) (v0 : Val Y106) (v1 : Val Y106) : Option (Vals [i4]) := chk (eq_IntS_pre (v0.1 : List (Val (.int .i64))) (v1.1 : List (Val (.int .i64)))) (bif (!((eq_IntS (v0.1 : List (Val (.int .i64))) (v1.1 : List (Val (.int .i64)))) : Bool)) then (some (false, ())) else (bif (!(decide ((v0.2.1 : Int) = (v1.2.1 : Int)))) then (some (false, ())) else (bif (!((v0.2.2 : Bool) == (v1.2.2 : Bool))) then (some (false, ())) else (some (true, ())))))
def Γ133 : Gam := [(24, g24)]
theorem Γ133_24 : Gam.get Γ133 24 = some g24 := rfl
def tr133 : Nat → Tree := fun _ => .done
def lp133 : Nat → Nm := fun _ => ⟨[], []⟩
def ex133 : Nat → Option Nm := fun _ => none
def rg133 : Nat → Option Nm := fun _ => none
theorem p133 : plansOk tr133 (Try.f133.body.getD .skip) = true := by kernel_rfl
def T133 (N : Nat) : Tab := { tr := tr133, lp := lp133, ex := ex133, rg := rg133, fuel := N }
theorem T133_pins (N : Nat) : (T133 N).pins = false := rfl
theorem T133_tr (N i : Nat) : (T133 N).tr i = tr133 i := rfl
theorem T133_lp (N i : Nat) : (T133 N).lp i = lp133 i := rfl
theorem T133_ex (N i : Nat) : (T133 N).ex i = ex133 i := rfl
theorem T133_rg (N i : Nat) : (T133 N).rg i = rg133 i := rfl
theorem T133_fuel (N : Nat) : (T133 N).fuel = N := rfl
theorem run133 (N : Nat) (v0 : Val Y106) (v1 : Val Y106) : runT tt Γ133 (T133 N) (Try.f133.body.getD .skip) (retR tt true [i4] [.tmp 4]) (entryP [i106, i106] 21 (v0, v1, ())) = m133 N v0 v1 := by
  rw [m133]; unfold Try.f133
  simp (maxSteps := 10000000) -implicitDefEqProofs [T133_tr, tr133, T133_lp, lp133, T133_ex, ex133, T133_rg, rg133, T133_fuel, T133_pins, Γ133_24, g24]
  try rfl
def g133 : G := { ps := [i106, i106], rs := [i4], dp := true, pre := fun x => eq_Atom_pre x.1 x.2.1, fn := fun x => (eq_Atom x.1 x.2.1, ()) }
theorem e133 (x y : Val Y106) (h : eq_Atom_pre x y) : ∃ N, m133 N x y = some (eq_Atom x y, ()) := ⟨0, by
  obtain ⟨s0, s1, s2⟩ := h
  rw [m133, chk_pos (show eq_IntS_pre _ _ from s0)]
  obtain ⟨x0, x1, x2⟩ := x
  obtain ⟨y0, y1, y2⟩ := y
  change _ = some ((eqV (.slice 3 (.int .i64)) x0 y0 && (eqV (.int .i64) x1 y1 && eqV .bool x2 y2)), ())
  simp only [bif_not]
  show _ = _
  generalize he0 : eqV (.slice 3 (.int .i64)) x0 y0 = e0
  have hd0 : eq_IntS x0 y0 = e0 := he0
  generalize he1 : eqV (.int .i64) x1 y1 = e1
  have hd1 : decide ((x1 : Int) = y1) = e1 := he1
  generalize he2 : eqV .bool x2 y2 = e2
  have hd2 : ((x2 : Bool) == y2) = e2 := he2
  simp only [hd0, hd1, hd2]
  cases e0 <;> cases e1 <;> cases e2 <;> rfl⟩
theorem s133 : Sound Try.prog 133 g133 := sound_run (tt := tt) (Γ := Γ133) hT (ok_cons s24 ok_nil) hm (fn := Try.f133) Try.func133 (c := Try.f133.body.getD .skip) (by kernel_rfl) (by kernel_rfl) fun x hx => by
  obtain ⟨N, h⟩ := e133 x.1 x.2.1 hx
  exact ⟨T133 N, p133, noSem_ok _, (run133 N x.1 x.2.1).trans h⟩
def eq_AtomS (x y : List (Val Y106)) : Bool := eqV (.slice 106 Y106) x y
def eq_AtomS_pre (x _ : List (Val Y106)) : Prop := Bd (.slice 106 Y106) x
-- laws.eqAtomS
noncomputable def m71_l4 (N : Nat) (v2 : List (Val Y106)) (v3 : List (Val Y106)) (k0 : Unit → Option (Vals [i4])) : Nat → Int → Option (Vals [i4])
  | 0, _ => none
  | n + 1, v4 => bif (decide (v4 < (v2.length : Int))) then (chk (0 ≤ v4 ∧ v4 < (v2.length : Int)) (chk (0 ≤ v4 ∧ v4 < (v3.length : Int)) (chk (eq_Atom_pre (v2.getD v4.toNat (dflt Y106)) (v3.getD v4.toNat (dflt Y106))) (bif (!((eq_Atom (v2.getD v4.toNat (dflt Y106)) (v3.getD v4.toNat (dflt Y106))) : Bool)) then (some (false, ())) else (m71_l4 N v2 v3 k0 n (IntKind.i64.wrap (v4 + (1 : Int)))))))) else (k0 ())
noncomputable def m71 (N : Nat) (v0 : List (Val Y106)) (v1 : List (Val Y106)) : Option (Vals [i4]) := bif (!(decide ((v0.length : Int) = (v1.length : Int)))) then (some (false, ())) else (m71_l4 N v0 v1 (fun (_ : Unit) => some (true, ())) N (0 : Int))
def Γ71 : Gam := [(133, g133)]
theorem Γ71_133 : Gam.get Γ71 133 = some g133 := rfl
def nl71_4 : Nm := ⟨[true, true, false, false, false, true], []⟩
theorem nl71_4_fix : nl71_4.fix = [] := rfl
theorem nl71_4_keep : nl71_4.keep = [true, true, false, false, false, true] := rfl
def nx71_0 : Nm := ⟨[], []⟩
theorem nx71_0_fix : nx71_0.fix = [] := rfl
theorem nx71_0_keep : nx71_0.keep = [] := rfl
def tr71 : Nat → Tree := fun i => if i = 6 then .quiet 0 (.quiet 1 (.quiet 2 (.quiet 3 (.quiet 4 (.quiet 5 (.quiet 6 (.quiet 7 (.alt 8 (.quiet 9 .done) .stop)))))))) else .done
def lp71 : Nat → Nm := fun i => if i = 4 then nl71_4 else ⟨[], []⟩
def ex71 : Nat → Option Nm := fun i => if i = 0 then some nx71_0 else none
def rg71 : Nat → Option Nm := fun _ => none
theorem p71 : plansOk tr71 (Try.f71.body.getD .skip) = true := by kernel_rfl
def T71 (N : Nat) : Tab := { tr := tr71, lp := lp71, ex := ex71, rg := rg71, fuel := N }
theorem T71_pins (N : Nat) : (T71 N).pins = false := rfl
theorem T71_tr (N i : Nat) : (T71 N).tr i = tr71 i := rfl
theorem T71_lp (N i : Nat) : (T71 N).lp i = lp71 i := rfl
theorem T71_ex (N i : Nat) : (T71 N).ex i = ex71 i := rfl
theorem T71_rg (N i : Nat) : (T71 N).rg i = rg71 i := rfl
theorem T71_fuel (N : Nat) : (T71 N).fuel = N := rfl
noncomputable def c71_4 : Code := cut [true, true, false, true, true, true] (Try.f71.body.getD .skip)
theorem c71_4_at {N : Nat} {Q : X → St → Option (Vals [i4])} {e : List LV} {h : List Blk} : runT tt Γ71 (T71 N) c71_4 Q ⟨e, h⟩ = runT tt Γ71 (T71 N) (cut [true, true, false, true, true, true] (Try.f71.body.getD .skip)) Q ⟨e, h⟩ := rfl
theorem r71_l4 (N : Nat) (v2 : List (Val Y106)) (v3 : List (Val Y106)) {k0 : Unit → Option (Vals [i4])} {Q : X → St → Option (Vals [i4])} {c : Code} (hc : c = c71_4) (hret : ∀ st, Q .ret st = retS tt true [i4] [.tmp 4] st) (h0 : Q (.exit 0) ⟨[u, u, u, u, u, u, u, u, u, u, u, u, u, u, u, u, u, u, u, u, u, u, u, u, u, u, u], []⟩ = k0 ()) : ∀ (n : Nat) (v4 : Int), loopR (runT tt Γ71 (T71 N) c) false nl71_4 Q n ⟨[.one (.sl 106 Y106 v2 0), .one (.sl 106 Y106 v3 0), u, u, u, .one (.int .i64 v4), u, u, u, u, u, u, u, u, u, u, u, u, u, u, u, u, u, u, u, u, u], []⟩ = m71_l4 N v2 v3 k0 n v4 := by
  subst hc; intro n; induction n with
  | zero => intros; rfl
  | succ n ih =>
    intro v4
    rw [loop_succ, c71_4_at, m71_l4]; unfold Try.f71
    simp (maxSteps := 10000000) -implicitDefEqProofs [T71_tr, tr71, T71_lp, lp71, T71_ex, ex71, T71_rg, rg71, T71_fuel, T71_pins, nl71_4_fix, nl71_4_keep, nx71_0_fix, nx71_0_keep, Γ71_133, g133, hret, h0, ih]
theorem run71 (N : Nat) (v0 : List (Val Y106)) (v1 : List (Val Y106)) : runT tt Γ71 (T71 N) (Try.f71.body.getD .skip) (retR tt true [i4] [.tmp 4]) (entryP [i34, i34] 27 (v0, v1, ())) = m71 N v0 v1 := by
  unfold Try.f71
  simp (maxSteps := 10000000) -implicitDefEqProofs [T71_tr, tr71, T71_lp, lp71, T71_ex, ex71, T71_rg, rg71, T71_fuel, T71_pins, nl71_4_fix, nl71_4_keep, nx71_0_fix, nx71_0_keep, Γ71_133, g133]
  rewrite [r71_l4 (k0 := (fun (_ : Unit) => some (true, ()))) N _ _ ?_ ?_ ?_]
  · rewrite [m71]; first | rfl | simp (maxSteps := 10000000) -implicitDefEqProofs []
  · rfl
  · intro; simp only [seqR_ret, blockR_ret, retR_ret, retX_ret]
  · simp (maxSteps := 10000000) -implicitDefEqProofs [T71_tr, tr71, T71_lp, lp71, T71_ex, ex71, T71_rg, rg71, T71_fuel, T71_pins, nl71_4_fix, nl71_4_keep, nx71_0_fix, nx71_0_keep, Γ71_133, g133]
def g71 : G := { ps := [i34, i34], rs := [i4], dp := true, pre := fun x => eq_AtomS_pre x.1 x.2.1, fn := fun x => (eq_AtomS x.1 x.2.1, ()) }
theorem e71 (x y : List (Val Y106)) (h : eq_AtomS_pre x y) : ∃ N, m71 N x y = some (eq_AtomS x y, ()) := ⟨List.length x + 1, by
  rw [m71, bif_not]
  rw [eq_AtomS, eqS]
  by_cases c : List.length x = List.length y
  · rw [bif_dec (by omega)]
    refine (eq_loop (f := eqV Y106) (xs := x) (ys := y) (F := fun n i => m71_l4 _ x y _ n i) (k := fun _ => some (true, ())) (r := some (false, ())) h.1 c (fun n i hi hi2 => ?_) (fun n i hi => ?_) _ (Nat.lt_succ_self _)).trans bif_some
    · rw [m71_l4, bif_dec (by omega), chk_pos (by omega), chk_pos (by omega), chk_pos (show eq_Atom_pre _ _ from by rw [getD_atI hi]; exact h.2 _ (List.getElem_mem hi)), getD_atI hi, getD_atI hi2, bif_not]
      rfl
    · rw [m71_l4, bif_decN (by omega)]
  · rw [bif_decN (by omega), eqL_len _ _ c]⟩
theorem s71 : Sound Try.prog 71 g71 := sound_run (tt := tt) (Γ := Γ71) hT (ok_cons s133 ok_nil) hm (fn := Try.f71) Try.func71 (c := Try.f71.body.getD .skip) (by kernel_rfl) (by kernel_rfl) fun x hx => by
  obtain ⟨N, h⟩ := e71 x.1 x.2.1 hx
  exact ⟨T71 N, p71, noSem_ok _, (run71 N x.1 x.2.1).trans h⟩
def eq_Cell (x y : Val Y36) : Bool := eqV Y36 x y
def eq_Cell_pre (x _ : Val Y36) : Prop := Bd Y36 x
-- laws.eqCell
noncomputable def m23 (N : Nat) (v0 : Val Y36) (v1 : Val Y36) : Option (Vals [i4]) := bif (!(decide ((v0.1 : Int) = (v1.1 : Int)))) then (some (false, ())) else (chk (eq_AtomS_pre (v0.2 : List (Val Y106)) (v1.2 : List (Val Y106))) (bif (!((eq_AtomS (v0.2 : List (Val Y106)) (v1.2 : List (Val Y106))) : Bool)) then (some (false, ())) else (some (true, ()))))
def Γ23 : Gam := [(71, g71)]
theorem Γ23_71 : Gam.get Γ23 71 = some g71 := rfl
def tr23 : Nat → Tree := fun _ => .done
def lp23 : Nat → Nm := fun _ => ⟨[], []⟩
def ex23 : Nat → Option Nm := fun _ => none
def rg23 : Nat → Option Nm := fun _ => none
theorem p23 : plansOk tr23 (Try.f23.body.getD .skip) = true := by kernel_rfl
def T23 (N : Nat) : Tab := { tr := tr23, lp := lp23, ex := ex23, rg := rg23, fuel := N }
theorem T23_pins (N : Nat) : (T23 N).pins = false := rfl
theorem T23_tr (N i : Nat) : (T23 N).tr i = tr23 i := rfl
theorem T23_lp (N i : Nat) : (T23 N).lp i = lp23 i := rfl
theorem T23_ex (N i : Nat) : (T23 N).ex i = ex23 i := rfl
theorem T23_rg (N i : Nat) : (T23 N).rg i = rg23 i := rfl
theorem T23_fuel (N : Nat) : (T23 N).fuel = N := rfl
theorem run23 (N : Nat) (v0 : Val Y36) (v1 : Val Y36) : runT tt Γ23 (T23 N) (Try.f23.body.getD .skip) (retR tt true [i4] [.tmp 4]) (entryP [i36, i36] 16 (v0, v1, ())) = m23 N v0 v1 := by
  rw [m23]; unfold Try.f23
  simp (maxSteps := 10000000) -implicitDefEqProofs [T23_tr, tr23, T23_lp, lp23, T23_ex, ex23, T23_rg, rg23, T23_fuel, T23_pins, Γ23_71, g71]
  try rfl
def g23 : G := { ps := [i36, i36], rs := [i4], dp := true, pre := fun x => eq_Cell_pre x.1 x.2.1, fn := fun x => (eq_Cell x.1 x.2.1, ()) }
theorem e23 (x y : Val Y36) (h : eq_Cell_pre x y) : ∃ N, m23 N x y = some (eq_Cell x y, ()) := ⟨0, by
  obtain ⟨s0, s1⟩ := h
  rw [m23, chk_pos (show eq_AtomS_pre _ _ from s1)]
  obtain ⟨x0, x1⟩ := x
  obtain ⟨y0, y1⟩ := y
  change _ = some ((eqV (.int .i64) x0 y0 && eqV (.slice 106 Y106) x1 y1), ())
  simp only [bif_not]
  show _ = _
  generalize he0 : eqV (.int .i64) x0 y0 = e0
  have hd0 : decide ((x0 : Int) = y0) = e0 := he0
  generalize he1 : eqV (.slice 106 Y106) x1 y1 = e1
  have hd1 : eq_AtomS x1 y1 = e1 := he1
  simp only [hd0, hd1]
  cases e0 <;> cases e1 <;> rfl⟩
theorem s23 : Sound Try.prog 23 g23 := sound_run (tt := tt) (Γ := Γ23) hT (ok_cons s71 ok_nil) hm (fn := Try.f23) Try.func23 (c := Try.f23.body.getD .skip) (by kernel_rfl) (by kernel_rfl) fun x hx => by
  obtain ⟨N, h⟩ := e23 x.1 x.2.1 hx
  exact ⟨T23 N, p23, noSem_ok _, (run23 N x.1 x.2.1).trans h⟩
def eq_Row (x y : Val Y116) : Bool := eqV Y116 x y
def eq_Row_pre (x _ : Val Y116) : Prop := Bd Y116 x
-- laws.eqRow
noncomputable def m137 (N : Nat) (v0 : Val Y116) (v1 : Val Y116) : Option (Vals [i4]) := bif (!(ByteArray.toList (v0.1 : ByteArray) == ByteArray.toList (v1.1 : ByteArray))) then (some (false, ())) else (chk (eq_Cell_pre v0.2 v1.2) (bif (!((eq_Cell v0.2 v1.2) : Bool)) then (some (false, ())) else (some (true, ()))))
def Γ137 : Gam := [(23, g23)]
theorem Γ137_23 : Gam.get Γ137 23 = some g23 := rfl
def tr137 : Nat → Tree := fun _ => .done
def lp137 : Nat → Nm := fun _ => ⟨[], []⟩
def ex137 : Nat → Option Nm := fun _ => none
def rg137 : Nat → Option Nm := fun _ => none
theorem p137 : plansOk tr137 (Try.f137.body.getD .skip) = true := by kernel_rfl
def T137 (N : Nat) : Tab := { tr := tr137, lp := lp137, ex := ex137, rg := rg137, fuel := N }
theorem T137_pins (N : Nat) : (T137 N).pins = false := rfl
theorem T137_tr (N i : Nat) : (T137 N).tr i = tr137 i := rfl
theorem T137_lp (N i : Nat) : (T137 N).lp i = lp137 i := rfl
theorem T137_ex (N i : Nat) : (T137 N).ex i = ex137 i := rfl
theorem T137_rg (N i : Nat) : (T137 N).rg i = rg137 i := rfl
theorem T137_fuel (N : Nat) : (T137 N).fuel = N := rfl
theorem run137 (N : Nat) (v0 : Val Y116) (v1 : Val Y116) : runT tt Γ137 (T137 N) (Try.f137.body.getD .skip) (retR tt true [i4] [.tmp 4]) (entryP [i116, i116] 16 (v0, v1, ())) = m137 N v0 v1 := by
  rw [m137]; unfold Try.f137
  simp (maxSteps := 10000000) -implicitDefEqProofs [T137_tr, tr137, T137_lp, lp137, T137_ex, ex137, T137_rg, rg137, T137_fuel, T137_pins, Γ137_23, g23]
  try rfl
def g137 : G := { ps := [i116, i116], rs := [i4], dp := true, pre := fun x => eq_Row_pre x.1 x.2.1, fn := fun x => (eq_Row x.1 x.2.1, ()) }
theorem e137 (x y : Val Y116) (h : eq_Row_pre x y) : ∃ N, m137 N x y = some (eq_Row x y, ()) := ⟨0, by
  obtain ⟨s0, s1⟩ := h
  rw [m137, chk_pos (show eq_Cell_pre _ _ from s1)]
  obtain ⟨x0, x1⟩ := x
  obtain ⟨y0, y1⟩ := y
  change _ = some ((eqV .str x0 y0 && eqV Y36 x1 y1), ())
  simp only [bif_not]
  show _ = _
  generalize he0 : eqV .str x0 y0 = e0
  have hd0 : (ByteArray.toList x0 == ByteArray.toList y0) = e0 := he0
  generalize he1 : eqV Y36 x1 y1 = e1
  have hd1 : eq_Cell x1 y1 = e1 := he1
  simp only [hd0, hd1]
  cases e0 <;> cases e1 <;> rfl⟩
theorem s137 : Sound Try.prog 137 g137 := sound_run (tt := tt) (Γ := Γ137) hT (ok_cons s23 ok_nil) hm (fn := Try.f137) Try.func137 (c := Try.f137.body.getD .skip) (by kernel_rfl) (by kernel_rfl) fun x hx => by
  obtain ⟨N, h⟩ := e137 x.1 x.2.1 hx
  exact ⟨T137 N, p137, noSem_ok _, (run137 N x.1 x.2.1).trans h⟩
def eq_RowS (x y : List (Val Y116)) : Bool := eqV (.slice 116 Y116) x y
def eq_RowS_pre (x _ : List (Val Y116)) : Prop := Bd (.slice 116 Y116) x
-- laws.eqRowS
noncomputable def m79_l4 (N : Nat) (v2 : List (Val Y116)) (v3 : List (Val Y116)) (k0 : Unit → Option (Vals [i4])) : Nat → Int → Option (Vals [i4])
  | 0, _ => none
  | n + 1, v4 => bif (decide (v4 < (v2.length : Int))) then (chk (0 ≤ v4 ∧ v4 < (v2.length : Int)) (chk (0 ≤ v4 ∧ v4 < (v3.length : Int)) (chk (eq_Row_pre (v2.getD v4.toNat (dflt Y116)) (v3.getD v4.toNat (dflt Y116))) (bif (!((eq_Row (v2.getD v4.toNat (dflt Y116)) (v3.getD v4.toNat (dflt Y116))) : Bool)) then (some (false, ())) else (m79_l4 N v2 v3 k0 n (IntKind.i64.wrap (v4 + (1 : Int)))))))) else (k0 ())
noncomputable def m79 (N : Nat) (v0 : List (Val Y116)) (v1 : List (Val Y116)) : Option (Vals [i4]) := bif (!(decide ((v0.length : Int) = (v1.length : Int)))) then (some (false, ())) else (m79_l4 N v0 v1 (fun (_ : Unit) => some (true, ())) N (0 : Int))
def Γ79 : Gam := [(137, g137)]
theorem Γ79_137 : Gam.get Γ79 137 = some g137 := rfl
def nl79_4 : Nm := ⟨[true, true, false, false, false, true], []⟩
theorem nl79_4_fix : nl79_4.fix = [] := rfl
theorem nl79_4_keep : nl79_4.keep = [true, true, false, false, false, true] := rfl
def nx79_0 : Nm := ⟨[], []⟩
theorem nx79_0_fix : nx79_0.fix = [] := rfl
theorem nx79_0_keep : nx79_0.keep = [] := rfl
def tr79 : Nat → Tree := fun i => if i = 6 then .quiet 0 (.quiet 1 (.quiet 2 (.quiet 3 (.quiet 4 (.quiet 5 (.quiet 6 (.quiet 7 (.alt 8 (.quiet 9 .done) .stop)))))))) else .done
def lp79 : Nat → Nm := fun i => if i = 4 then nl79_4 else ⟨[], []⟩
def ex79 : Nat → Option Nm := fun i => if i = 0 then some nx79_0 else none
def rg79 : Nat → Option Nm := fun _ => none
theorem p79 : plansOk tr79 (Try.f79.body.getD .skip) = true := by kernel_rfl
def T79 (N : Nat) : Tab := { tr := tr79, lp := lp79, ex := ex79, rg := rg79, fuel := N }
theorem T79_pins (N : Nat) : (T79 N).pins = false := rfl
theorem T79_tr (N i : Nat) : (T79 N).tr i = tr79 i := rfl
theorem T79_lp (N i : Nat) : (T79 N).lp i = lp79 i := rfl
theorem T79_ex (N i : Nat) : (T79 N).ex i = ex79 i := rfl
theorem T79_rg (N i : Nat) : (T79 N).rg i = rg79 i := rfl
theorem T79_fuel (N : Nat) : (T79 N).fuel = N := rfl
noncomputable def c79_4 : Code := cut [true, true, false, true, true, true] (Try.f79.body.getD .skip)
theorem c79_4_at {N : Nat} {Q : X → St → Option (Vals [i4])} {e : List LV} {h : List Blk} : runT tt Γ79 (T79 N) c79_4 Q ⟨e, h⟩ = runT tt Γ79 (T79 N) (cut [true, true, false, true, true, true] (Try.f79.body.getD .skip)) Q ⟨e, h⟩ := rfl
theorem r79_l4 (N : Nat) (v2 : List (Val Y116)) (v3 : List (Val Y116)) {k0 : Unit → Option (Vals [i4])} {Q : X → St → Option (Vals [i4])} {c : Code} (hc : c = c79_4) (hret : ∀ st, Q .ret st = retS tt true [i4] [.tmp 4] st) (h0 : Q (.exit 0) ⟨[u, u, u, u, u, u, u, u, u, u, u, u, u, u, u, u, u, u, u, u, u, u, u, u, u, u, u], []⟩ = k0 ()) : ∀ (n : Nat) (v4 : Int), loopR (runT tt Γ79 (T79 N) c) false nl79_4 Q n ⟨[.one (.sl 116 Y116 v2 0), .one (.sl 116 Y116 v3 0), u, u, u, .one (.int .i64 v4), u, u, u, u, u, u, u, u, u, u, u, u, u, u, u, u, u, u, u, u, u], []⟩ = m79_l4 N v2 v3 k0 n v4 := by
  subst hc; intro n; induction n with
  | zero => intros; rfl
  | succ n ih =>
    intro v4
    rw [loop_succ, c79_4_at, m79_l4]; unfold Try.f79
    simp (maxSteps := 10000000) -implicitDefEqProofs [T79_tr, tr79, T79_lp, lp79, T79_ex, ex79, T79_rg, rg79, T79_fuel, T79_pins, nl79_4_fix, nl79_4_keep, nx79_0_fix, nx79_0_keep, Γ79_137, g137, hret, h0, ih]
theorem run79 (N : Nat) (v0 : List (Val Y116)) (v1 : List (Val Y116)) : runT tt Γ79 (T79 N) (Try.f79.body.getD .skip) (retR tt true [i4] [.tmp 4]) (entryP [i51, i51] 27 (v0, v1, ())) = m79 N v0 v1 := by
  unfold Try.f79
  simp (maxSteps := 10000000) -implicitDefEqProofs [T79_tr, tr79, T79_lp, lp79, T79_ex, ex79, T79_rg, rg79, T79_fuel, T79_pins, nl79_4_fix, nl79_4_keep, nx79_0_fix, nx79_0_keep, Γ79_137, g137]
  rewrite [r79_l4 (k0 := (fun (_ : Unit) => some (true, ()))) N _ _ ?_ ?_ ?_]
  · rewrite [m79]; first | rfl | simp (maxSteps := 10000000) -implicitDefEqProofs []
  · rfl
  · intro; simp only [seqR_ret, blockR_ret, retR_ret, retX_ret]
  · simp (maxSteps := 10000000) -implicitDefEqProofs [T79_tr, tr79, T79_lp, lp79, T79_ex, ex79, T79_rg, rg79, T79_fuel, T79_pins, nl79_4_fix, nl79_4_keep, nx79_0_fix, nx79_0_keep, Γ79_137, g137]
def g79 : G := { ps := [i51, i51], rs := [i4], dp := true, pre := fun x => eq_RowS_pre x.1 x.2.1, fn := fun x => (eq_RowS x.1 x.2.1, ()) }
theorem e79 (x y : List (Val Y116)) (h : eq_RowS_pre x y) : ∃ N, m79 N x y = some (eq_RowS x y, ()) := ⟨List.length x + 1, by
  rw [m79, bif_not]
  rw [eq_RowS, eqS]
  by_cases c : List.length x = List.length y
  · rw [bif_dec (by omega)]
    refine (eq_loop (f := eqV Y116) (xs := x) (ys := y) (F := fun n i => m79_l4 _ x y _ n i) (k := fun _ => some (true, ())) (r := some (false, ())) h.1 c (fun n i hi hi2 => ?_) (fun n i hi => ?_) _ (Nat.lt_succ_self _)).trans bif_some
    · rw [m79_l4, bif_dec (by omega), chk_pos (by omega), chk_pos (by omega), chk_pos (show eq_Row_pre _ _ from by rw [getD_atI hi]; exact h.2 _ (List.getElem_mem hi)), getD_atI hi, getD_atI hi2, bif_not]
      rfl
    · rw [m79_l4, bif_decN (by omega)]
  · rw [bif_decN (by omega), eqL_len _ _ c]⟩
theorem s79 : Sound Try.prog 79 g79 := sound_run (tt := tt) (Γ := Γ79) hT (ok_cons s137 ok_nil) hm (fn := Try.f79) Try.func79 (c := Try.f79.body.getD .skip) (by kernel_rfl) (by kernel_rfl) fun x hx => by
  obtain ⟨N, h⟩ := e79 x.1 x.2.1 hx
  exact ⟨T79 N, p79, noSem_ok _, (run79 N x.1 x.2.1).trans h⟩
def eq_Relation (x y : Val Y53) : Bool := eqV Y53 x y
def eq_Relation_pre (x _ : Val Y53) : Prop := Bd Y53 x
-- laws.eqRelation
noncomputable def m32 (N : Nat) (v0 : Val Y53) (v1 : Val Y53) : Option (Vals [i4]) := bif (!(ByteArray.toList (v0.1 : ByteArray) == ByteArray.toList (v1.1 : ByteArray))) then (some (false, ())) else (bif (!(decide ((v0.2.1 : Int) = (v1.2.1 : Int)))) then (some (false, ())) else (chk (eq_RowS_pre (v0.2.2 : List (Val Y116)) (v1.2.2 : List (Val Y116))) (bif (!((eq_RowS (v0.2.2 : List (Val Y116)) (v1.2.2 : List (Val Y116))) : Bool)) then (some (false, ())) else (some (true, ())))))
def Γ32 : Gam := [(79, g79)]
theorem Γ32_79 : Gam.get Γ32 79 = some g79 := rfl
def tr32 : Nat → Tree := fun _ => .done
def lp32 : Nat → Nm := fun _ => ⟨[], []⟩
def ex32 : Nat → Option Nm := fun _ => none
def rg32 : Nat → Option Nm := fun _ => none
theorem p32 : plansOk tr32 (Try.f32.body.getD .skip) = true := by kernel_rfl
def T32 (N : Nat) : Tab := { tr := tr32, lp := lp32, ex := ex32, rg := rg32, fuel := N }
theorem T32_pins (N : Nat) : (T32 N).pins = false := rfl
theorem T32_tr (N i : Nat) : (T32 N).tr i = tr32 i := rfl
theorem T32_lp (N i : Nat) : (T32 N).lp i = lp32 i := rfl
theorem T32_ex (N i : Nat) : (T32 N).ex i = ex32 i := rfl
theorem T32_rg (N i : Nat) : (T32 N).rg i = rg32 i := rfl
theorem T32_fuel (N : Nat) : (T32 N).fuel = N := rfl
theorem run32 (N : Nat) (v0 : Val Y53) (v1 : Val Y53) : runT tt Γ32 (T32 N) (Try.f32.body.getD .skip) (retR tt true [i4] [.tmp 4]) (entryP [i53, i53] 21 (v0, v1, ())) = m32 N v0 v1 := by
  rw [m32]; unfold Try.f32
  simp (maxSteps := 10000000) -implicitDefEqProofs [T32_tr, tr32, T32_lp, lp32, T32_ex, ex32, T32_rg, rg32, T32_fuel, T32_pins, Γ32_79, g79]
  try rfl
def g32 : G := { ps := [i53, i53], rs := [i4], dp := true, pre := fun x => eq_Relation_pre x.1 x.2.1, fn := fun x => (eq_Relation x.1 x.2.1, ()) }
theorem e32 (x y : Val Y53) (h : eq_Relation_pre x y) : ∃ N, m32 N x y = some (eq_Relation x y, ()) := ⟨0, by
  obtain ⟨s0, s1, s2⟩ := h
  rw [m32, chk_pos (show eq_RowS_pre _ _ from s2)]
  obtain ⟨x0, x1, x2⟩ := x
  obtain ⟨y0, y1, y2⟩ := y
  change _ = some ((eqV .str x0 y0 && (eqV (.int .i64) x1 y1 && eqV (.slice 116 Y116) x2 y2)), ())
  simp only [bif_not]
  show _ = _
  generalize he0 : eqV .str x0 y0 = e0
  have hd0 : (ByteArray.toList x0 == ByteArray.toList y0) = e0 := he0
  generalize he1 : eqV (.int .i64) x1 y1 = e1
  have hd1 : decide ((x1 : Int) = y1) = e1 := he1
  generalize he2 : eqV (.slice 116 Y116) x2 y2 = e2
  have hd2 : eq_RowS x2 y2 = e2 := he2
  simp only [hd0, hd1, hd2]
  cases e0 <;> cases e1 <;> cases e2 <;> rfl⟩
theorem s32 : Sound Try.prog 32 g32 := sound_run (tt := tt) (Γ := Γ32) hT (ok_cons s79 ok_nil) hm (fn := Try.f32) Try.func32 (c := Try.f32.body.getD .skip) (by kernel_rfl) (by kernel_rfl) fun x hx => by
  obtain ⟨N, h⟩ := e32 x.1 x.2.1 hx
  exact ⟨T32 N, p32, noSem_ok _, (run32 N x.1 x.2.1).trans h⟩
def eq_RelationS (x y : List (Val Y53)) : Bool := eqV (.slice 53 Y53) x y
def eq_RelationS_pre (x _ : List (Val Y53)) : Prop := Bd (.slice 53 Y53) x
-- laws.eqRelationS
noncomputable def m17_l4 (N : Nat) (v2 : List (Val Y53)) (v3 : List (Val Y53)) (k0 : Unit → Option (Vals [i4])) : Nat → Int → Option (Vals [i4])
  | 0, _ => none
  | n + 1, v4 => bif (decide (v4 < (v2.length : Int))) then (chk (0 ≤ v4 ∧ v4 < (v2.length : Int)) (chk (0 ≤ v4 ∧ v4 < (v3.length : Int)) (chk (eq_Relation_pre (v2.getD v4.toNat (dflt Y53)) (v3.getD v4.toNat (dflt Y53))) (bif (!((eq_Relation (v2.getD v4.toNat (dflt Y53)) (v3.getD v4.toNat (dflt Y53))) : Bool)) then (some (false, ())) else (m17_l4 N v2 v3 k0 n (IntKind.i64.wrap (v4 + (1 : Int)))))))) else (k0 ())
noncomputable def m17 (N : Nat) (v0 : List (Val Y53)) (v1 : List (Val Y53)) : Option (Vals [i4]) := bif (!(decide ((v0.length : Int) = (v1.length : Int)))) then (some (false, ())) else (m17_l4 N v0 v1 (fun (_ : Unit) => some (true, ())) N (0 : Int))
def Γ17 : Gam := [(32, g32)]
theorem Γ17_32 : Gam.get Γ17 32 = some g32 := rfl
def nl17_4 : Nm := ⟨[true, true, false, false, false, true], []⟩
theorem nl17_4_fix : nl17_4.fix = [] := rfl
theorem nl17_4_keep : nl17_4.keep = [true, true, false, false, false, true] := rfl
def nx17_0 : Nm := ⟨[], []⟩
theorem nx17_0_fix : nx17_0.fix = [] := rfl
theorem nx17_0_keep : nx17_0.keep = [] := rfl
def tr17 : Nat → Tree := fun i => if i = 6 then .quiet 0 (.quiet 1 (.quiet 2 (.quiet 3 (.quiet 4 (.quiet 5 (.quiet 6 (.quiet 7 (.alt 8 (.quiet 9 .done) .stop)))))))) else .done
def lp17 : Nat → Nm := fun i => if i = 4 then nl17_4 else ⟨[], []⟩
def ex17 : Nat → Option Nm := fun i => if i = 0 then some nx17_0 else none
def rg17 : Nat → Option Nm := fun _ => none
theorem p17 : plansOk tr17 (Try.f17.body.getD .skip) = true := by kernel_rfl
def T17 (N : Nat) : Tab := { tr := tr17, lp := lp17, ex := ex17, rg := rg17, fuel := N }
theorem T17_pins (N : Nat) : (T17 N).pins = false := rfl
theorem T17_tr (N i : Nat) : (T17 N).tr i = tr17 i := rfl
theorem T17_lp (N i : Nat) : (T17 N).lp i = lp17 i := rfl
theorem T17_ex (N i : Nat) : (T17 N).ex i = ex17 i := rfl
theorem T17_rg (N i : Nat) : (T17 N).rg i = rg17 i := rfl
theorem T17_fuel (N : Nat) : (T17 N).fuel = N := rfl
noncomputable def c17_4 : Code := cut [true, true, false, true, true, true] (Try.f17.body.getD .skip)
theorem c17_4_at {N : Nat} {Q : X → St → Option (Vals [i4])} {e : List LV} {h : List Blk} : runT tt Γ17 (T17 N) c17_4 Q ⟨e, h⟩ = runT tt Γ17 (T17 N) (cut [true, true, false, true, true, true] (Try.f17.body.getD .skip)) Q ⟨e, h⟩ := rfl
theorem r17_l4 (N : Nat) (v2 : List (Val Y53)) (v3 : List (Val Y53)) {k0 : Unit → Option (Vals [i4])} {Q : X → St → Option (Vals [i4])} {c : Code} (hc : c = c17_4) (hret : ∀ st, Q .ret st = retS tt true [i4] [.tmp 4] st) (h0 : Q (.exit 0) ⟨[u, u, u, u, u, u, u, u, u, u, u, u, u, u, u, u, u, u, u, u, u, u, u, u, u, u, u], []⟩ = k0 ()) : ∀ (n : Nat) (v4 : Int), loopR (runT tt Γ17 (T17 N) c) false nl17_4 Q n ⟨[.one (.sl 53 Y53 v2 0), .one (.sl 53 Y53 v3 0), u, u, u, .one (.int .i64 v4), u, u, u, u, u, u, u, u, u, u, u, u, u, u, u, u, u, u, u, u, u], []⟩ = m17_l4 N v2 v3 k0 n v4 := by
  subst hc; intro n; induction n with
  | zero => intros; rfl
  | succ n ih =>
    intro v4
    rw [loop_succ, c17_4_at, m17_l4]; unfold Try.f17
    simp (maxSteps := 10000000) -implicitDefEqProofs [T17_tr, tr17, T17_lp, lp17, T17_ex, ex17, T17_rg, rg17, T17_fuel, T17_pins, nl17_4_fix, nl17_4_keep, nx17_0_fix, nx17_0_keep, Γ17_32, g32, hret, h0, ih]
theorem run17 (N : Nat) (v0 : List (Val Y53)) (v1 : List (Val Y53)) : runT tt Γ17 (T17 N) (Try.f17.body.getD .skip) (retR tt true [i4] [.tmp 4]) (entryP [i25, i25] 27 (v0, v1, ())) = m17 N v0 v1 := by
  unfold Try.f17
  simp (maxSteps := 10000000) -implicitDefEqProofs [T17_tr, tr17, T17_lp, lp17, T17_ex, ex17, T17_rg, rg17, T17_fuel, T17_pins, nl17_4_fix, nl17_4_keep, nx17_0_fix, nx17_0_keep, Γ17_32, g32]
  rewrite [r17_l4 (k0 := (fun (_ : Unit) => some (true, ()))) N _ _ ?_ ?_ ?_]
  · rewrite [m17]; first | rfl | simp (maxSteps := 10000000) -implicitDefEqProofs []
  · rfl
  · intro; simp only [seqR_ret, blockR_ret, retR_ret, retX_ret]
  · simp (maxSteps := 10000000) -implicitDefEqProofs [T17_tr, tr17, T17_lp, lp17, T17_ex, ex17, T17_rg, rg17, T17_fuel, T17_pins, nl17_4_fix, nl17_4_keep, nx17_0_fix, nx17_0_keep, Γ17_32, g32]
def g17 : G := { ps := [i25, i25], rs := [i4], dp := true, pre := fun x => eq_RelationS_pre x.1 x.2.1, fn := fun x => (eq_RelationS x.1 x.2.1, ()) }
theorem e17 (x y : List (Val Y53)) (h : eq_RelationS_pre x y) : ∃ N, m17 N x y = some (eq_RelationS x y, ()) := ⟨List.length x + 1, by
  rw [m17, bif_not]
  rw [eq_RelationS, eqS]
  by_cases c : List.length x = List.length y
  · rw [bif_dec (by omega)]
    refine (eq_loop (f := eqV Y53) (xs := x) (ys := y) (F := fun n i => m17_l4 _ x y _ n i) (k := fun _ => some (true, ())) (r := some (false, ())) h.1 c (fun n i hi hi2 => ?_) (fun n i hi => ?_) _ (Nat.lt_succ_self _)).trans bif_some
    · rw [m17_l4, bif_dec (by omega), chk_pos (by omega), chk_pos (by omega), chk_pos (show eq_Relation_pre _ _ from by rw [getD_atI hi]; exact h.2 _ (List.getElem_mem hi)), getD_atI hi, getD_atI hi2, bif_not]
      rfl
    · rw [m17_l4, bif_decN (by omega)]
  · rw [bif_decN (by omega), eqL_len _ _ c]⟩
theorem s17 : Sound Try.prog 17 g17 := sound_run (tt := tt) (Γ := Γ17) hT (ok_cons s32 ok_nil) hm (fn := Try.f17) Try.func17 (c := Try.f17.body.getD .skip) (by kernel_rfl) (by kernel_rfl) fun x hx => by
  obtain ⟨N, h⟩ := e17 x.1 x.2.1 hx
  exact ⟨T17 N, p17, noSem_ok _, (run17 N x.1 x.2.1).trans h⟩
end Go.T
