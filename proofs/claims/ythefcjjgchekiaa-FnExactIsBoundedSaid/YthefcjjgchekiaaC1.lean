/- Sizes, copies and equality of cells. -/
import Derived.Test.YthefcjjgchekiaaA1
set_option linter.unusedSimpArgs false
set_option linter.unusedVariables false
namespace Go.T
open Go Go.Proofs
set_option maxHeartbeats 4000000
set_option maxRecDepth 100000
def sz_IntS (x : List (Val (.int .i64))) (n : Int) : Int := szV (.slice 3 (.int .i64)) x n
def sz_IntS_pre (x : List (Val (.int .i64))) (n : Int) : Prop := szPre (.slice 3 (.int .i64)) x n
-- laws.szIntS
noncomputable def m25 (N : Nat) (v0 : List (Val (.int .i64))) (v1 : Int) : Option (Vals [i3]) := bif (decide ((IntKind.i64.wrap (v1 - (v0.length : Int))) < (0 : Int))) then (some ((-1 : Int), ())) else (some ((IntKind.i64.wrap (v1 - (v0.length : Int))), ()))
def Γ25 : Gam := []
def tr25 : Nat → Tree := fun _ => .done
def lp25 : Nat → Nm := fun _ => ⟨[], []⟩
def jn25 : Nat → Option Jn := fun _ => none
def ex25 : Nat → Option Nm := fun _ => none
def rg25 : Nat → Option Nm := fun _ => none
theorem p25 : plansOk tr25 (Try.f25.body.getD .skip) = true := by kernel_rfl
def T25 (N : Nat) : Tab := { tr := tr25, lp := lp25, ex := ex25, rg := rg25, jn := jn25, fuel := N }
theorem T25_pins (N : Nat) : (T25 N).pins = false := rfl
theorem tb25 (N : Nat) : TbOk Try.prog (T25 N) := tb_none fun _ => rfl
theorem T25_tr (N i : Nat) : (T25 N).tr i = tr25 i := rfl
theorem T25_lp (N i : Nat) : (T25 N).lp i = lp25 i := rfl
theorem T25_ex (N i : Nat) : (T25 N).ex i = ex25 i := rfl
theorem T25_rg (N i : Nat) : (T25 N).rg i = rg25 i := rfl
theorem T25_jn (N i : Nat) : (T25 N).jn i = jn25 i := rfl
theorem T25_fuel (N : Nat) : (T25 N).fuel = N := rfl
theorem run25 (N : Nat) (v0 : List (Val (.int .i64))) (v1 : Int) : runT tt Γ25 (T25 N) (Try.f25.body.getD .skip) (retR tt true [i3] [.tmp 4]) (entryP [i25, i3] 12 (v0, v1, ())) = m25 N v0 v1 := by
  rw [m25]; unfold Try.f25
  simp (maxSteps := 10000000) -implicitDefEqProofs [T25_tr, tr25, T25_lp, lp25, T25_ex, ex25, T25_rg, rg25, T25_jn, jn25, T25_fuel, T25_pins]
  try rfl
def g25 : G := { ps := [i25, i3], rs := [i3], dp := true, pre := fun x => sz_IntS_pre x.1 x.2.1, fn := fun x => (sz_IntS x.1 x.2.1, ()) }
theorem e25 (x : List (Val (.int .i64))) (n : Int) (h : sz_IntS_pre x n) : ∃ N, m25 N x n = some (sz_IntS x n, ()) := ⟨0, by
  obtain ⟨hs, h0, h1⟩ := h
  rw [m25, wrapSub h0 h1 hs.1]
  simp only [sz_IntS, szV_slice]
  by_cases c : n - (List.length x : Int) < 0
  · rw [bif_dec c, if_pos c]
  · rw [bif_decN c, if_neg c, szL_flatV (fun _ _ => rfl) _ _ (by omega)]⟩
theorem s25 : Sound Try.prog 25 g25 := sound_run (tt := tt) (Γ := Γ25) hT ok_nil hm (fn := Try.f25) Try.func25 (c := Try.f25.body.getD .skip) (by kernel_rfl) (by kernel_rfl) fun x hx => by
  obtain ⟨N, h⟩ := e25 x.1 x.2.1 hx
  exact ⟨T25 N, p25, noSem_ok _, tb25 N, (run25 N x.1 x.2.1).trans h⟩
def sz_Atom (x : Val Y27) (n : Int) : Int := szV Y27 x n
def sz_Atom_pre (x : Val Y27) (n : Int) : Prop := szPre Y27 x n
-- laws.szAtom
noncomputable def m7 (N : Nat) (v0 : Val Y27) (v1 : Int) : Option (Vals [i3]) := chk (sz_IntS_pre (v0.1 : List (Val (.int .i64))) v1) (bif (decide (((sz_IntS (v0.1 : List (Val (.int .i64))) v1) : Int) < (0 : Int))) then (some ((-1 : Int), ())) else (some (((sz_IntS (v0.1 : List (Val (.int .i64))) v1) : Int), ())))
def Γ7 : Gam := [(25, g25)]
theorem Γ7_25 : Gam.get Γ7 25 = some g25 := rfl
def tr7 : Nat → Tree := fun _ => .done
def lp7 : Nat → Nm := fun _ => ⟨[], []⟩
def jn7 : Nat → Option Jn := fun _ => none
def ex7 : Nat → Option Nm := fun _ => none
def rg7 : Nat → Option Nm := fun _ => none
theorem p7 : plansOk tr7 (Try.f7.body.getD .skip) = true := by kernel_rfl
def T7 (N : Nat) : Tab := { tr := tr7, lp := lp7, ex := ex7, rg := rg7, jn := jn7, fuel := N }
theorem T7_pins (N : Nat) : (T7 N).pins = false := rfl
theorem tb7 (N : Nat) : TbOk Try.prog (T7 N) := tb_none fun _ => rfl
theorem T7_tr (N i : Nat) : (T7 N).tr i = tr7 i := rfl
theorem T7_lp (N i : Nat) : (T7 N).lp i = lp7 i := rfl
theorem T7_ex (N i : Nat) : (T7 N).ex i = ex7 i := rfl
theorem T7_rg (N i : Nat) : (T7 N).rg i = rg7 i := rfl
theorem T7_jn (N i : Nat) : (T7 N).jn i = jn7 i := rfl
theorem T7_fuel (N : Nat) : (T7 N).fuel = N := rfl
theorem run7 (N : Nat) (v0 : Val Y27) (v1 : Int) : runT tt Γ7 (T7 N) (Try.f7.body.getD .skip) (retR tt true [i3] [.tmp 4]) (entryP [i27, i3] 12 (v0, v1, ())) = m7 N v0 v1 := by
  rw [m7]; unfold Try.f7
  simp (maxSteps := 10000000) -implicitDefEqProofs [T7_tr, tr7, T7_lp, lp7, T7_ex, ex7, T7_rg, rg7, T7_jn, jn7, T7_fuel, T7_pins, Γ7_25, g25]
  try rfl
def g7 : G := { ps := [i27, i3], rs := [i3], dp := true, pre := fun x => sz_Atom_pre x.1 x.2.1, fn := fun x => (sz_Atom x.1 x.2.1, ()) }
theorem e7 (x : Val Y27) (n : Int) (h : sz_Atom_pre x n) : ∃ N, m7 N x n = some (sz_Atom x n, ()) := ⟨0, by
  obtain ⟨x0, x1, x2⟩ := x
  obtain ⟨hs, h0, h1⟩ := h
  obtain ⟨s0, s1, s2⟩ := hs
  rw [m7, sz_Atom]
  dsimp only
  rw [chk_pos (show sz_IntS_pre x0 n from ⟨s0, h0, h1⟩)]
  by_cases c0 : sz_IntS x0 n < 0
  · rw [bif_dec c0, szP_neg (show szV (.slice 3 (.int .i64)) x0 n < 0 from c0)]
  · have h00 : 0 ≤ sz_IntS x0 n := by omega
    have h10 : sz_IntS x0 n ≤ 1048576 := Int.le_trans (szV_le (.slice 3 (.int .i64)) x0 n h0).1 h1
    rw [bif_decN c0, szP_pos (show 0 ≤ szV (.slice 3 (.int .i64)) x0 n from h00)]
    change _ = some (szV (.pair (.int .i64) .bool) _ (sz_IntS x0 n), ())
    rw [szP_int h00]
    rfl⟩
theorem s7 : Sound Try.prog 7 g7 := sound_run (tt := tt) (Γ := Γ7) hT (ok_cons s25 ok_nil) hm (fn := Try.f7) Try.func7 (c := Try.f7.body.getD .skip) (by kernel_rfl) (by kernel_rfl) fun x hx => by
  obtain ⟨N, h⟩ := e7 x.1 x.2.1 hx
  exact ⟨T7 N, p7, noSem_ok _, tb7 N, (run7 N x.1 x.2.1).trans h⟩
def sz_AtomS (x : List (Val Y27)) (n : Int) : Int := szV (.slice 27 Y27) x n
def sz_AtomS_pre (x : List (Val Y27)) (n : Int) : Prop := szPre (.slice 27 Y27) x n
-- laws.szAtomS
noncomputable def m24_l5 (N : Nat) (v2 : List (Val Y27)) (k0 : Int → Option (Vals [i3])) : Nat → Int → Int → Option (Vals [i3])
  | 0, _, _ => none
  | n + 1, v3, v4 => bif (decide (v4 < (v2.length : Int))) then (chk (0 ≤ v4 ∧ v4 < (v2.length : Int)) (chk (sz_Atom_pre (v2.getD v4.toNat (dflt Y27)) v3) (bif (decide (((sz_Atom (v2.getD v4.toNat (dflt Y27)) v3) : Int) < (0 : Int))) then (some ((-1 : Int), ())) else (m24_l5 N v2 k0 n ((sz_Atom (v2.getD v4.toNat (dflt Y27)) v3) : Int) (IntKind.i64.wrap (v4 + (1 : Int))))))) else (k0 v3)
noncomputable def m24 (N : Nat) (v0 : List (Val Y27)) (v1 : Int) : Option (Vals [i3]) := bif (decide ((IntKind.i64.wrap (v1 - (v0.length : Int))) < (0 : Int))) then (some ((-1 : Int), ())) else (m24_l5 N v0 (fun (v6 : Int) => some (v6, ())) N (IntKind.i64.wrap (v1 - (v0.length : Int))) (0 : Int))
def Γ24 : Gam := [(7, g7)]
theorem Γ24_7 : Gam.get Γ24 7 = some g7 := rfl
def nl24_5 : Nm := ⟨[true, true, false, false, false, true], []⟩
theorem nl24_5_fix : nl24_5.fix = [] := rfl
theorem nl24_5_keep : nl24_5.keep = [true, true, false, false, false, true] := rfl
def nx24_0 : Nm := ⟨[false, true], []⟩
theorem nx24_0_fix : nx24_0.fix = [] := rfl
theorem nx24_0_keep : nx24_0.keep = [false, true] := rfl
def tr24 : Nat → Tree := fun _ => .done
def lp24 : Nat → Nm := fun i => if i = 5 then nl24_5 else ⟨[], []⟩
def jn24 : Nat → Option Jn := fun _ => none
def ex24 : Nat → Option Nm := fun i => if i = 0 then some nx24_0 else none
def rg24 : Nat → Option Nm := fun _ => none
theorem p24 : plansOk tr24 (Try.f24.body.getD .skip) = true := by kernel_rfl
def T24 (N : Nat) : Tab := { tr := tr24, lp := lp24, ex := ex24, rg := rg24, jn := jn24, fuel := N }
theorem T24_pins (N : Nat) : (T24 N).pins = false := rfl
theorem tb24 (N : Nat) : TbOk Try.prog (T24 N) := tb_none fun _ => rfl
theorem T24_tr (N i : Nat) : (T24 N).tr i = tr24 i := rfl
theorem T24_lp (N i : Nat) : (T24 N).lp i = lp24 i := rfl
theorem T24_ex (N i : Nat) : (T24 N).ex i = ex24 i := rfl
theorem T24_rg (N i : Nat) : (T24 N).rg i = rg24 i := rfl
theorem T24_jn (N i : Nat) : (T24 N).jn i = jn24 i := rfl
theorem T24_fuel (N : Nat) : (T24 N).fuel = N := rfl
noncomputable def c24_5 : Code := cut [true, true, true, false, true, true, true] (Try.f24.body.getD .skip)
theorem c24_5_at {N : Nat} {Q : X → St → Option (Vals [i3])} {e : List LV} {h : List Blk} : runT tt Γ24 (T24 N) c24_5 Q ⟨e, h⟩ = runT tt Γ24 (T24 N) (cut [true, true, true, false, true, true, true] (Try.f24.body.getD .skip)) Q ⟨e, h⟩ := rfl
theorem r24_l5 (N : Nat) (v2 : List (Val Y27)) {k0 : Int → Option (Vals [i3])} {Q : X → St → Option (Vals [i3])} {c : Code} (hc : c = c24_5) (hret : ∀ st, Q .ret st = retS tt true [i3] [.tmp 4] st) (h0 : ∀ (v5 : Int), Q (.exit 0) ⟨[u, .one (.int .i64 v5), u, u, u, u, u, u, u, u, u, u, u, u, u, u, u, u, u, u, u, u, u, u, u, u, u], []⟩ = k0 v5) : ∀ (n : Nat) (v3 : Int) (v4 : Int), loopR (runT tt Γ24 (T24 N) c) false nl24_5 Q n ⟨[.one (.sl 27 Y27 v2 0), .one (.int .i64 v3), u, u, u, .one (.int .i64 v4), u, u, u, u, u, u, u, u, u, u, u, u, u, u, u, u, u, u, u, u, u], []⟩ = m24_l5 N v2 k0 n v3 v4 := by
  subst hc; intro n; induction n with
  | zero => intros; rfl
  | succ n ih =>
    intro v3 v4
    rw [loop_succ, c24_5_at, m24_l5]; unfold Try.f24
    simp (maxSteps := 10000000) -implicitDefEqProofs [T24_tr, tr24, T24_lp, lp24, T24_ex, ex24, T24_rg, rg24, T24_jn, jn24, T24_fuel, T24_pins, nl24_5_fix, nl24_5_keep, nx24_0_fix, nx24_0_keep, Γ24_7, g7, hret, h0, ih]
theorem run24 (N : Nat) (v0 : List (Val Y27)) (v1 : Int) : runT tt Γ24 (T24 N) (Try.f24.body.getD .skip) (retR tt true [i3] [.tmp 4]) (entryP [i22, i3] 27 (v0, v1, ())) = m24 N v0 v1 := by
  unfold Try.f24
  simp (maxSteps := 10000000) -implicitDefEqProofs [T24_tr, tr24, T24_lp, lp24, T24_ex, ex24, T24_rg, rg24, T24_jn, jn24, T24_fuel, T24_pins, nl24_5_fix, nl24_5_keep, nx24_0_fix, nx24_0_keep, Γ24_7, g7]
  rewrite [r24_l5 (k0 := (fun (v6 : Int) => some (v6, ()))) N _ ?_ ?_ ?_]
  · rewrite [m24]; first | rfl | simp (maxSteps := 10000000) -implicitDefEqProofs []
  · rfl
  · intro; simp only [seqR_ret, blockR_ret, retR_ret, retX_ret]
  · intro v6; simp (maxSteps := 10000000) -implicitDefEqProofs [T24_tr, tr24, T24_lp, lp24, T24_ex, ex24, T24_rg, rg24, T24_jn, jn24, T24_fuel, T24_pins, nl24_5_fix, nl24_5_keep, nx24_0_fix, nx24_0_keep, Γ24_7, g7]
def g24 : G := { ps := [i22, i3], rs := [i3], dp := true, pre := fun x => sz_AtomS_pre x.1 x.2.1, fn := fun x => (sz_AtomS x.1 x.2.1, ()) }
theorem e24 (x : List (Val Y27)) (n : Int) (h : sz_AtomS_pre x n) : ∃ N, m24 N x n = some (sz_AtomS x n, ()) := ⟨List.length x + 1, by
  obtain ⟨hs, h0, h1⟩ := h
  rw [m24, wrapSub h0 h1 hs.1]
  simp only [sz_AtomS, szV_slice]
  by_cases c : n - (List.length x : Int) < 0
  · rw [bif_dec c, if_pos c]
  · rw [bif_decN c, if_neg c]
    refine (loop_fold (F := fun n i s => m24_l5 _ x _ n s i) (step := fun _ y (s : Int) K => chk (sz_Atom_pre y s) (bif decide (sz_Atom y s < 0) then some ((-1 : Int), ()) else K (sz_Atom y s))) (k := fun s => some (s, ())) (by omega) (fun n i s hi => ?_) (fun n i s hi => ?_) _ _ (Nat.lt_succ_self _)).trans (sz_loop (t := Y27) x 0 _ (by omega) (by omega) hs.2)
    · rw [m24_l5, bif_dec (by omega), chk_pos (by omega), getD_atI hi]
    · rw [m24_l5, bif_decN (by omega)]⟩
theorem s24 : Sound Try.prog 24 g24 := sound_run (tt := tt) (Γ := Γ24) hT (ok_cons s7 ok_nil) hm (fn := Try.f24) Try.func24 (c := Try.f24.body.getD .skip) (by kernel_rfl) (by kernel_rfl) fun x hx => by
  obtain ⟨N, h⟩ := e24 x.1 x.2.1 hx
  exact ⟨T24 N, p24, noSem_ok _, tb24 N, (run24 N x.1 x.2.1).trans h⟩
def sz_Cell (x : Val Y24) (n : Int) : Int := szV Y24 x n
def sz_Cell_pre (x : Val Y24) (n : Int) : Prop := szPre Y24 x n
-- laws.szCell
noncomputable def m6 (N : Nat) (v0 : Val Y24) (v1 : Int) : Option (Vals [i3]) := chk (sz_AtomS_pre (v0.2 : List (Val Y27)) v1) (bif (decide (((sz_AtomS (v0.2 : List (Val Y27)) v1) : Int) < (0 : Int))) then (some ((-1 : Int), ())) else (some (((sz_AtomS (v0.2 : List (Val Y27)) v1) : Int), ())))
def Γ6 : Gam := [(24, g24)]
theorem Γ6_24 : Gam.get Γ6 24 = some g24 := rfl
def tr6 : Nat → Tree := fun _ => .done
def lp6 : Nat → Nm := fun _ => ⟨[], []⟩
def jn6 : Nat → Option Jn := fun _ => none
def ex6 : Nat → Option Nm := fun _ => none
def rg6 : Nat → Option Nm := fun _ => none
theorem p6 : plansOk tr6 (Try.f6.body.getD .skip) = true := by kernel_rfl
def T6 (N : Nat) : Tab := { tr := tr6, lp := lp6, ex := ex6, rg := rg6, jn := jn6, fuel := N }
theorem T6_pins (N : Nat) : (T6 N).pins = false := rfl
theorem tb6 (N : Nat) : TbOk Try.prog (T6 N) := tb_none fun _ => rfl
theorem T6_tr (N i : Nat) : (T6 N).tr i = tr6 i := rfl
theorem T6_lp (N i : Nat) : (T6 N).lp i = lp6 i := rfl
theorem T6_ex (N i : Nat) : (T6 N).ex i = ex6 i := rfl
theorem T6_rg (N i : Nat) : (T6 N).rg i = rg6 i := rfl
theorem T6_jn (N i : Nat) : (T6 N).jn i = jn6 i := rfl
theorem T6_fuel (N : Nat) : (T6 N).fuel = N := rfl
theorem run6 (N : Nat) (v0 : Val Y24) (v1 : Int) : runT tt Γ6 (T6 N) (Try.f6.body.getD .skip) (retR tt true [i3] [.tmp 4]) (entryP [i24, i3] 12 (v0, v1, ())) = m6 N v0 v1 := by
  rw [m6]; unfold Try.f6
  simp (maxSteps := 10000000) -implicitDefEqProofs [T6_tr, tr6, T6_lp, lp6, T6_ex, ex6, T6_rg, rg6, T6_jn, jn6, T6_fuel, T6_pins, Γ6_24, g24]
  try rfl
def g6 : G := { ps := [i24, i3], rs := [i3], dp := true, pre := fun x => sz_Cell_pre x.1 x.2.1, fn := fun x => (sz_Cell x.1 x.2.1, ()) }
theorem e6 (x : Val Y24) (n : Int) (h : sz_Cell_pre x n) : ∃ N, m6 N x n = some (sz_Cell x n, ()) := ⟨0, by
  obtain ⟨x0, x1⟩ := x
  obtain ⟨hs, h0, h1⟩ := h
  obtain ⟨s0, s1⟩ := hs
  rw [m6, sz_Cell]
  dsimp only
  rw [szP_int h0]
  rw [chk_pos (show sz_AtomS_pre x1 n from ⟨s1, h0, h1⟩)]
  by_cases c1 : sz_AtomS x1 n < 0
  · rw [bif_dec c1]
    exact congrArg (fun z => some (z, ())) ((szV_le (.slice 27 Y27) x1 n h0).2 c1).symm
  · rw [bif_decN c1]
    rfl⟩
theorem s6 : Sound Try.prog 6 g6 := sound_run (tt := tt) (Γ := Γ6) hT (ok_cons s24 ok_nil) hm (fn := Try.f6) Try.func6 (c := Try.f6.body.getD .skip) (by kernel_rfl) (by kernel_rfl) fun x hx => by
  obtain ⟨N, h⟩ := e6 x.1 x.2.1 hx
  exact ⟨T6 N, p6, noSem_ok _, tb6 N, (run6 N x.1 x.2.1).trans h⟩
def to_IntS (x : List (Val (.int .i64))) : List (Val (.int .i64)) := x
def to_IntS_pre (x : List (Val (.int .i64))) : Prop := Bd (.slice 3 (.int .i64)) x
-- laws.toIntS
noncomputable def m30_l3 (N : Nat) (v1 : List (Val (.int .i64))) (k0 : (List (Val (.int .i64))) → Option (Vals [i25])) : Nat → Int → (List (Val (.int .i64))) → Option (Vals [i25])
  | 0, _, _ => none
  | n + 1, v2, v3 => bif (decide (v2 < (v1.length : Int))) then (chk (0 ≤ v2 ∧ v2 < (v1.length : Int)) (chk (0 ≤ v2 ∧ v2 < (v3.length : Int)) (chk (v2.toNat < v3.length) (m30_l3 N v1 k0 n (IntKind.i64.wrap (v2 + (1 : Int))) (v3.set v2.toNat ((v1.getD v2.toNat (dflt (.int .i64))) : Int)))))) else (k0 v3)
noncomputable def m30 (N : Nat) (v0 : List (Val (.int .i64))) : Option (Vals [i25]) := chk (0 ≤ (v0.length : Int) ∧ (v0.length : Int) ≤ (v0.length : Int) ∧ (v0.length : Int) ≤ 1048576) (m30_l3 N v0 (fun (v5 : List (Val (.int .i64))) => some (v5, ())) N (0 : Int) (List.replicate (v0.length : Int).toNat (dflt (.int .i64))))
def Γ30 : Gam := []
def nl30_3 : Nm := ⟨[true, false, false, true, true], []⟩
theorem nl30_3_fix : nl30_3.fix = [] := rfl
theorem nl30_3_keep : nl30_3.keep = [true, false, false, true, true] := rfl
def nx30_0 : Nm := ⟨[false, false, false, true], []⟩
theorem nx30_0_fix : nx30_0.fix = [] := rfl
theorem nx30_0_keep : nx30_0.keep = [false, false, false, true] := rfl
def tr30 : Nat → Tree := fun _ => .done
def lp30 : Nat → Nm := fun i => if i = 3 then nl30_3 else ⟨[], []⟩
def jn30 : Nat → Option Jn := fun _ => none
def ex30 : Nat → Option Nm := fun i => if i = 0 then some nx30_0 else none
def rg30 : Nat → Option Nm := fun _ => none
theorem p30 : plansOk tr30 (Try.f30.body.getD .skip) = true := by kernel_rfl
def T30 (N : Nat) : Tab := { tr := tr30, lp := lp30, ex := ex30, rg := rg30, jn := jn30, fuel := N }
theorem T30_pins (N : Nat) : (T30 N).pins = false := rfl
theorem tb30 (N : Nat) : TbOk Try.prog (T30 N) := tb_none fun _ => rfl
theorem T30_tr (N i : Nat) : (T30 N).tr i = tr30 i := rfl
theorem T30_lp (N i : Nat) : (T30 N).lp i = lp30 i := rfl
theorem T30_ex (N i : Nat) : (T30 N).ex i = ex30 i := rfl
theorem T30_rg (N i : Nat) : (T30 N).rg i = rg30 i := rfl
theorem T30_jn (N i : Nat) : (T30 N).jn i = jn30 i := rfl
theorem T30_fuel (N : Nat) : (T30 N).fuel = N := rfl
noncomputable def c30_3 : Code := cut [true, true, false, true, true, true] (Try.f30.body.getD .skip)
theorem c30_3_at {N : Nat} {Q : X → St → Option (Vals [i25])} {e : List LV} {h : List Blk} : runT tt Γ30 (T30 N) c30_3 Q ⟨e, h⟩ = runT tt Γ30 (T30 N) (cut [true, true, false, true, true, true] (Try.f30.body.getD .skip)) Q ⟨e, h⟩ := rfl
theorem r30_l3 (N : Nat) (v1 : List (Val (.int .i64))) {k0 : (List (Val (.int .i64))) → Option (Vals [i25])} {Q : X → St → Option (Vals [i25])} {c : Code} (hc : c = c30_3) (hret : ∀ st, Q .ret st = retS tt true [i25] [.tmp 2] st) (h0 : ∀ (v4 : List (Val (.int .i64))), Q (.exit 0) ⟨[u, u, u, .one (.own 0), u, u, u, u, u, u, u, u, u, u, u, u, u, u, u, u, u, u], [.row 3 (.int .i64) v4 true true 0]⟩ = k0 v4) : ∀ (n : Nat) (v2 : Int) (v3 : List (Val (.int .i64))), loopR (runT tt Γ30 (T30 N) c) false nl30_3 Q n ⟨[.one (.sl 3 (.int .i64) v1 1), u, u, .one (.own 0), .one (.int .i64 v2), u, u, u, u, u, u, u, u, u, u, u, u, u, u, u, u, u], [.row 3 (.int .i64) v3 true true 0]⟩ = m30_l3 N v1 k0 n v2 v3 := by
  subst hc; intro n; induction n with
  | zero => intros; rfl
  | succ n ih =>
    intro v2 v3
    rw [loop_succ, c30_3_at, m30_l3]; unfold Try.f30
    simp (maxSteps := 10000000) -implicitDefEqProofs [T30_tr, tr30, T30_lp, lp30, T30_ex, ex30, T30_rg, rg30, T30_jn, jn30, T30_fuel, T30_pins, nl30_3_fix, nl30_3_keep, nx30_0_fix, nx30_0_keep, hret, h0, ih]
theorem run30 (N : Nat) (v0 : List (Val (.int .i64))) : runT tt Γ30 (T30 N) (Try.f30.body.getD .skip) (retR tt true [i25] [.tmp 2]) (entryP [i25] 22 (v0, ())) = m30 N v0 := by
  unfold Try.f30
  simp (maxSteps := 10000000) -implicitDefEqProofs [T30_tr, tr30, T30_lp, lp30, T30_ex, ex30, T30_rg, rg30, T30_jn, jn30, T30_fuel, T30_pins, nl30_3_fix, nl30_3_keep, nx30_0_fix, nx30_0_keep]
  rewrite [r30_l3 (k0 := (fun (v5 : List (Val (.int .i64))) => some (v5, ()))) N _ ?_ ?_ ?_]
  · rewrite [m30]; first | rfl | simp (maxSteps := 10000000) -implicitDefEqProofs []
  · rfl
  · intro; simp only [seqR_ret, blockR_ret, retR_ret, retX_ret]
  · intro v5; simp (maxSteps := 10000000) -implicitDefEqProofs [T30_tr, tr30, T30_lp, lp30, T30_ex, ex30, T30_rg, rg30, T30_jn, jn30, T30_fuel, T30_pins, nl30_3_fix, nl30_3_keep, nx30_0_fix, nx30_0_keep]
def g30 : G := { ps := [i25], rs := [i25], dp := true, pre := fun x => to_IntS_pre x.1, fn := fun x => (to_IntS x.1, ()) }
theorem e30 (x : List (Val (.int .i64))) (h : to_IntS_pre x) : ∃ N, m30 N x = some (to_IntS x, ()) := ⟨List.length x + 1, by
  rw [m30, chk_pos (chk_len h.1), Int.toNat_natCast]
  refine copy_loop (F := fun n i s => m30_l3 _ x _ n i s) (k := fun s => some (s, ())) (dflt (.int .i64)) h.1 (fun n i s hi hl => ?_) (fun n i s hi => ?_) _ (Nat.lt_succ_self _)
  · rw [m30_l3, bif_dec (by omega), chk_pos (by omega), getD_atI hi, chk_pos (by omega), chk_pos (by omega)]
    rfl
  · rw [m30_l3, bif_decN (by omega)]⟩
theorem s30 : Sound Try.prog 30 g30 := sound_run (tt := tt) (Γ := Γ30) hT ok_nil hm (fn := Try.f30) Try.func30 (c := Try.f30.body.getD .skip) (by kernel_rfl) (by kernel_rfl) fun x hx => by
  obtain ⟨N, h⟩ := e30 x.1 hx
  exact ⟨T30 N, p30, noSem_ok _, tb30 N, (run30 N x.1).trans h⟩
def to_Atom (x : Val Y27) : Val Y36 := x
def to_Atom_pre (x : Val Y27) : Prop := Bd Y27 x
-- laws.toAtom
noncomputable def m10 (N : Nat) (v0 : Val Y27) : Option (Vals [i36]) := chk (to_IntS_pre (v0.1 : List (Val (.int .i64)))) (some ((((to_IntS (v0.1 : List (Val (.int .i64)))) : List (Val (.int .i64))), (v0.2.1 : Int), (v0.2.2 : Bool)), ()))
def Γ10 : Gam := [(30, g30)]
theorem Γ10_30 : Gam.get Γ10 30 = some g30 := rfl
def tr10 : Nat → Tree := fun _ => .done
def lp10 : Nat → Nm := fun _ => ⟨[], []⟩
def jn10 : Nat → Option Jn := fun _ => none
def ex10 : Nat → Option Nm := fun _ => none
def rg10 : Nat → Option Nm := fun _ => none
theorem p10 : plansOk tr10 (Try.f10.body.getD .skip) = true := by kernel_rfl
def T10 (N : Nat) : Tab := { tr := tr10, lp := lp10, ex := ex10, rg := rg10, jn := jn10, fuel := N }
theorem T10_pins (N : Nat) : (T10 N).pins = false := rfl
theorem tb10 (N : Nat) : TbOk Try.prog (T10 N) := tb_none fun _ => rfl
theorem T10_tr (N i : Nat) : (T10 N).tr i = tr10 i := rfl
theorem T10_lp (N i : Nat) : (T10 N).lp i = lp10 i := rfl
theorem T10_ex (N i : Nat) : (T10 N).ex i = ex10 i := rfl
theorem T10_rg (N i : Nat) : (T10 N).rg i = rg10 i := rfl
theorem T10_jn (N i : Nat) : (T10 N).jn i = jn10 i := rfl
theorem T10_fuel (N : Nat) : (T10 N).fuel = N := rfl
theorem run10 (N : Nat) (v0 : Val Y27) : runT tt Γ10 (T10 N) (Try.f10.body.getD .skip) (retR tt true [i36] [.cell 2 36]) (entryP [i27] 15 (v0, ())) = m10 N v0 := by
  rw [m10]; unfold Try.f10
  simp (maxSteps := 10000000) -implicitDefEqProofs [T10_tr, tr10, T10_lp, lp10, T10_ex, ex10, T10_rg, rg10, T10_jn, jn10, T10_fuel, T10_pins, Γ10_30, g30]
  try rfl
def g10 : G := { ps := [i27], rs := [i36], dp := true, pre := fun x => to_Atom_pre x.1, fn := fun x => (to_Atom x.1, ()) }
theorem e10 (x : Val Y27) (h : to_Atom_pre x) : ∃ N, m10 N x = some (to_Atom x, ()) := ⟨0, by
  obtain ⟨s0, s1, s2⟩ := h
  rw [m10, chk_pos (show to_IntS_pre _ from s0)]
  rfl⟩
theorem s10 : Sound Try.prog 10 g10 := sound_run (tt := tt) (Γ := Γ10) hT (ok_cons s30 ok_nil) hm (fn := Try.f10) Try.func10 (c := Try.f10.body.getD .skip) (by kernel_rfl) (by kernel_rfl) fun x hx => by
  obtain ⟨N, h⟩ := e10 x.1 hx
  exact ⟨T10 N, p10, noSem_ok _, tb10 N, (run10 N x.1).trans h⟩
def to_AtomS (x : List (Val Y27)) : List (Val Y36) := x
def to_AtomS_pre (x : List (Val Y27)) : Prop := Bd (.slice 27 Y27) x
-- laws.toAtomS
noncomputable def m29_l3 (N : Nat) (v1 : List (Val Y27)) (k0 : (List (Val Y36)) → Option (Vals [i30])) : Nat → Int → (List (Val Y36)) → Option (Vals [i30])
  | 0, _, _ => none
  | n + 1, v2, v3 => bif (decide (v2 < (v1.length : Int))) then (chk (0 ≤ v2 ∧ v2 < (v1.length : Int)) (chk (to_Atom_pre (v1.getD v2.toNat (dflt Y27))) (chk (0 ≤ v2 ∧ v2 < (v3.length : Int)) (chk (v2.toNat < v3.length) (m29_l3 N v1 k0 n (IntKind.i64.wrap (v2 + (1 : Int))) (v3.set v2.toNat (((to_Atom (v1.getD v2.toNat (dflt Y27))).1 : List (Val (.int .i64))), (((to_Atom (v1.getD v2.toNat (dflt Y27))).2).1 : Int), (((to_Atom (v1.getD v2.toNat (dflt Y27))).2).2 : Bool)))))))) else (k0 v3)
noncomputable def m29 (N : Nat) (v0 : List (Val Y27)) : Option (Vals [i30]) := chk (0 ≤ (v0.length : Int) ∧ (v0.length : Int) ≤ (v0.length : Int) ∧ (v0.length : Int) ≤ 1048576) (m29_l3 N v0 (fun (v5 : List (Val Y36)) => some (v5, ())) N (0 : Int) (List.replicate (v0.length : Int).toNat (dflt Y36)))
def Γ29 : Gam := [(10, g10)]
theorem Γ29_10 : Gam.get Γ29 10 = some g10 := rfl
def nl29_3 : Nm := ⟨[true, false, false, true, true], []⟩
theorem nl29_3_fix : nl29_3.fix = [] := rfl
theorem nl29_3_keep : nl29_3.keep = [true, false, false, true, true] := rfl
def nx29_0 : Nm := ⟨[false, false, false, true], []⟩
theorem nx29_0_fix : nx29_0.fix = [] := rfl
theorem nx29_0_keep : nx29_0.keep = [false, false, false, true] := rfl
def tr29 : Nat → Tree := fun _ => .done
def lp29 : Nat → Nm := fun i => if i = 3 then nl29_3 else ⟨[], []⟩
def jn29 : Nat → Option Jn := fun _ => none
def ex29 : Nat → Option Nm := fun i => if i = 0 then some nx29_0 else none
def rg29 : Nat → Option Nm := fun _ => none
theorem p29 : plansOk tr29 (Try.f29.body.getD .skip) = true := by kernel_rfl
def T29 (N : Nat) : Tab := { tr := tr29, lp := lp29, ex := ex29, rg := rg29, jn := jn29, fuel := N }
theorem T29_pins (N : Nat) : (T29 N).pins = false := rfl
theorem tb29 (N : Nat) : TbOk Try.prog (T29 N) := tb_none fun _ => rfl
theorem T29_tr (N i : Nat) : (T29 N).tr i = tr29 i := rfl
theorem T29_lp (N i : Nat) : (T29 N).lp i = lp29 i := rfl
theorem T29_ex (N i : Nat) : (T29 N).ex i = ex29 i := rfl
theorem T29_rg (N i : Nat) : (T29 N).rg i = rg29 i := rfl
theorem T29_jn (N i : Nat) : (T29 N).jn i = jn29 i := rfl
theorem T29_fuel (N : Nat) : (T29 N).fuel = N := rfl
noncomputable def c29_3 : Code := cut [true, true, false, true, true, true] (Try.f29.body.getD .skip)
theorem c29_3_at {N : Nat} {Q : X → St → Option (Vals [i30])} {e : List LV} {h : List Blk} : runT tt Γ29 (T29 N) c29_3 Q ⟨e, h⟩ = runT tt Γ29 (T29 N) (cut [true, true, false, true, true, true] (Try.f29.body.getD .skip)) Q ⟨e, h⟩ := rfl
theorem r29_l3 (N : Nat) (v1 : List (Val Y27)) {k0 : (List (Val Y36)) → Option (Vals [i30])} {Q : X → St → Option (Vals [i30])} {c : Code} (hc : c = c29_3) (hret : ∀ st, Q .ret st = retS tt true [i30] [.tmp 2] st) (h0 : ∀ (v4 : List (Val Y36)), Q (.exit 0) ⟨[u, u, u, .one (.own 0), u, u, u, u, u, u, u, u, u, u, u, u, u, u, u, u, u, u, u], [.row 36 Y36 v4 true true 0]⟩ = k0 v4) : ∀ (n : Nat) (v2 : Int) (v3 : List (Val Y36)), loopR (runT tt Γ29 (T29 N) c) false nl29_3 Q n ⟨[.one (.sl 27 Y27 v1 1), u, u, .one (.own 0), .one (.int .i64 v2), u, u, u, u, u, u, u, u, u, u, u, u, u, u, u, u, u, u], [.row 36 Y36 v3 true true 0]⟩ = m29_l3 N v1 k0 n v2 v3 := by
  subst hc; intro n; induction n with
  | zero => intros; rfl
  | succ n ih =>
    intro v2 v3
    rw [loop_succ, c29_3_at, m29_l3]; unfold Try.f29
    simp (maxSteps := 10000000) -implicitDefEqProofs [T29_tr, tr29, T29_lp, lp29, T29_ex, ex29, T29_rg, rg29, T29_jn, jn29, T29_fuel, T29_pins, nl29_3_fix, nl29_3_keep, nx29_0_fix, nx29_0_keep, Γ29_10, g10, hret, h0, ih]
theorem run29 (N : Nat) (v0 : List (Val Y27)) : runT tt Γ29 (T29 N) (Try.f29.body.getD .skip) (retR tt true [i30] [.tmp 2]) (entryP [i22] 23 (v0, ())) = m29 N v0 := by
  unfold Try.f29
  simp (maxSteps := 10000000) -implicitDefEqProofs [T29_tr, tr29, T29_lp, lp29, T29_ex, ex29, T29_rg, rg29, T29_jn, jn29, T29_fuel, T29_pins, nl29_3_fix, nl29_3_keep, nx29_0_fix, nx29_0_keep, Γ29_10, g10]
  rewrite [r29_l3 (k0 := (fun (v5 : List (Val Y36)) => some (v5, ()))) N _ ?_ ?_ ?_]
  · rewrite [m29]; first | rfl | simp (maxSteps := 10000000) -implicitDefEqProofs []
  · rfl
  · intro; simp only [seqR_ret, blockR_ret, retR_ret, retX_ret]
  · intro v5; simp (maxSteps := 10000000) -implicitDefEqProofs [T29_tr, tr29, T29_lp, lp29, T29_ex, ex29, T29_rg, rg29, T29_jn, jn29, T29_fuel, T29_pins, nl29_3_fix, nl29_3_keep, nx29_0_fix, nx29_0_keep, Γ29_10, g10]
def g29 : G := { ps := [i22], rs := [i30], dp := true, pre := fun x => to_AtomS_pre x.1, fn := fun x => (to_AtomS x.1, ()) }
theorem e29 (x : List (Val Y27)) (h : to_AtomS_pre x) : ∃ N, m29 N x = some (to_AtomS x, ()) := ⟨List.length x + 1, by
  rw [m29, chk_pos (chk_len h.1), Int.toNat_natCast]
  refine copy_loop (F := fun n i s => m29_l3 _ x _ n i s) (k := fun s => some (s, ())) (dflt Y36) h.1 (fun n i s hi hl => ?_) (fun n i s hi => ?_) _ (Nat.lt_succ_self _)
  · rw [m29_l3, bif_dec (by omega), chk_pos (by omega), chk_pos (show to_Atom_pre _ from by rw [getD_atI hi]; exact h.2 _ (List.getElem_mem hi)), getD_atI hi, chk_pos (by omega), chk_pos (by omega)]
    rfl
  · rw [m29_l3, bif_decN (by omega)]⟩
theorem s29 : Sound Try.prog 29 g29 := sound_run (tt := tt) (Γ := Γ29) hT (ok_cons s10 ok_nil) hm (fn := Try.f29) Try.func29 (c := Try.f29.body.getD .skip) (by kernel_rfl) (by kernel_rfl) fun x hx => by
  obtain ⟨N, h⟩ := e29 x.1 hx
  exact ⟨T29 N, p29, noSem_ok _, tb29 N, (run29 N x.1).trans h⟩
def to_Cell (x : Val Y24) : Val Y32 := x
def to_Cell_pre (x : Val Y24) : Prop := Bd Y24 x
-- laws.toCell
noncomputable def m9 (N : Nat) (v0 : Val Y24) : Option (Vals [i32]) := chk (to_AtomS_pre (v0.2 : List (Val Y27))) (some (((v0.1 : Int), ((to_AtomS (v0.2 : List (Val Y27))) : List (Val Y36))), ()))
def Γ9 : Gam := [(29, g29)]
theorem Γ9_29 : Gam.get Γ9 29 = some g29 := rfl
def tr9 : Nat → Tree := fun _ => .done
def lp9 : Nat → Nm := fun _ => ⟨[], []⟩
def jn9 : Nat → Option Jn := fun _ => none
def ex9 : Nat → Option Nm := fun _ => none
def rg9 : Nat → Option Nm := fun _ => none
theorem p9 : plansOk tr9 (Try.f9.body.getD .skip) = true := by kernel_rfl
def T9 (N : Nat) : Tab := { tr := tr9, lp := lp9, ex := ex9, rg := rg9, jn := jn9, fuel := N }
theorem T9_pins (N : Nat) : (T9 N).pins = false := rfl
theorem tb9 (N : Nat) : TbOk Try.prog (T9 N) := tb_none fun _ => rfl
theorem T9_tr (N i : Nat) : (T9 N).tr i = tr9 i := rfl
theorem T9_lp (N i : Nat) : (T9 N).lp i = lp9 i := rfl
theorem T9_ex (N i : Nat) : (T9 N).ex i = ex9 i := rfl
theorem T9_rg (N i : Nat) : (T9 N).rg i = rg9 i := rfl
theorem T9_jn (N i : Nat) : (T9 N).jn i = jn9 i := rfl
theorem T9_fuel (N : Nat) : (T9 N).fuel = N := rfl
theorem run9 (N : Nat) (v0 : Val Y24) : runT tt Γ9 (T9 N) (Try.f9.body.getD .skip) (retR tt true [i32] [.cell 2 32]) (entryP [i24] 12 (v0, ())) = m9 N v0 := by
  rw [m9]; unfold Try.f9
  simp (maxSteps := 10000000) -implicitDefEqProofs [T9_tr, tr9, T9_lp, lp9, T9_ex, ex9, T9_rg, rg9, T9_jn, jn9, T9_fuel, T9_pins, Γ9_29, g29]
  try rfl
def g9 : G := { ps := [i24], rs := [i32], dp := true, pre := fun x => to_Cell_pre x.1, fn := fun x => (to_Cell x.1, ()) }
theorem e9 (x : Val Y24) (h : to_Cell_pre x) : ∃ N, m9 N x = some (to_Cell x, ()) := ⟨0, by
  obtain ⟨s0, s1⟩ := h
  rw [m9, chk_pos (show to_AtomS_pre _ from s1)]
  rfl⟩
theorem s9 : Sound Try.prog 9 g9 := sound_run (tt := tt) (Γ := Γ9) hT (ok_cons s29 ok_nil) hm (fn := Try.f9) Try.func9 (c := Try.f9.body.getD .skip) (by kernel_rfl) (by kernel_rfl) fun x hx => by
  obtain ⟨N, h⟩ := e9 x.1 hx
  exact ⟨T9 N, p9, noSem_ok _, tb9 N, (run9 N x.1).trans h⟩
def eq_IntS (x y : List (Val (.int .i64))) : Bool := eqV (.slice 3 (.int .i64)) x y
def eq_IntS_pre (x _ : List (Val (.int .i64))) : Prop := Bd (.slice 3 (.int .i64)) x
-- laws.eqIntS
noncomputable def m34_l4 (N : Nat) (v2 : List (Val (.int .i64))) (v3 : List (Val (.int .i64))) (k0 : Unit → Option (Vals [i4])) : Nat → Int → Option (Vals [i4])
  | 0, _ => none
  | n + 1, v4 => bif (decide (v4 < (v2.length : Int))) then (chk (0 ≤ v4 ∧ v4 < (v2.length : Int)) (chk (0 ≤ v4 ∧ v4 < (v3.length : Int)) (bif (!(decide (((v2.getD v4.toNat (dflt (.int .i64))) : Int) = ((v3.getD v4.toNat (dflt (.int .i64))) : Int)))) then (some (false, ())) else (m34_l4 N v2 v3 k0 n (IntKind.i64.wrap (v4 + (1 : Int))))))) else (k0 ())
noncomputable def m34 (N : Nat) (v0 : List (Val (.int .i64))) (v1 : List (Val (.int .i64))) : Option (Vals [i4]) := bif (!(decide ((v0.length : Int) = (v1.length : Int)))) then (some (false, ())) else (m34_l4 N v0 v1 (fun (_ : Unit) => some (true, ())) N (0 : Int))
def Γ34 : Gam := []
def nl34_4 : Nm := ⟨[true, true, false, false, false, true], []⟩
theorem nl34_4_fix : nl34_4.fix = [] := rfl
theorem nl34_4_keep : nl34_4.keep = [true, true, false, false, false, true] := rfl
def nx34_0 : Nm := ⟨[], []⟩
theorem nx34_0_fix : nx34_0.fix = [] := rfl
theorem nx34_0_keep : nx34_0.keep = [] := rfl
def tr34 : Nat → Tree := fun i => if i = 6 then .quiet 0 (.quiet 1 (.quiet 2 (.quiet 3 (.quiet 4 (.quiet 5 (.quiet 6 (.quiet 7 (.quiet 8 .done)))))))) else .done
def lp34 : Nat → Nm := fun i => if i = 4 then nl34_4 else ⟨[], []⟩
def jn34 : Nat → Option Jn := fun _ => none
def ex34 : Nat → Option Nm := fun i => if i = 0 then some nx34_0 else none
def rg34 : Nat → Option Nm := fun _ => none
theorem p34 : plansOk tr34 (Try.f34.body.getD .skip) = true := by kernel_rfl
def T34 (N : Nat) : Tab := { tr := tr34, lp := lp34, ex := ex34, rg := rg34, jn := jn34, fuel := N }
theorem T34_pins (N : Nat) : (T34 N).pins = false := rfl
theorem tb34 (N : Nat) : TbOk Try.prog (T34 N) := tb_none fun _ => rfl
theorem T34_tr (N i : Nat) : (T34 N).tr i = tr34 i := rfl
theorem T34_lp (N i : Nat) : (T34 N).lp i = lp34 i := rfl
theorem T34_ex (N i : Nat) : (T34 N).ex i = ex34 i := rfl
theorem T34_rg (N i : Nat) : (T34 N).rg i = rg34 i := rfl
theorem T34_jn (N i : Nat) : (T34 N).jn i = jn34 i := rfl
theorem T34_fuel (N : Nat) : (T34 N).fuel = N := rfl
noncomputable def c34_4 : Code := cut [true, true, false, true, true, true] (Try.f34.body.getD .skip)
theorem c34_4_at {N : Nat} {Q : X → St → Option (Vals [i4])} {e : List LV} {h : List Blk} : runT tt Γ34 (T34 N) c34_4 Q ⟨e, h⟩ = runT tt Γ34 (T34 N) (cut [true, true, false, true, true, true] (Try.f34.body.getD .skip)) Q ⟨e, h⟩ := rfl
theorem r34_l4 (N : Nat) (v2 : List (Val (.int .i64))) (v3 : List (Val (.int .i64))) {k0 : Unit → Option (Vals [i4])} {Q : X → St → Option (Vals [i4])} {c : Code} (hc : c = c34_4) (hret : ∀ st, Q .ret st = retS tt true [i4] [.tmp 4] st) (h0 : Q (.exit 0) ⟨[u, u, u, u, u, u, u, u, u, u, u, u, u, u, u, u, u, u, u, u, u, u, u, u, u, u], []⟩ = k0 ()) : ∀ (n : Nat) (v4 : Int), loopR (runT tt Γ34 (T34 N) c) false nl34_4 Q n ⟨[.one (.sl 3 (.int .i64) v2 0), .one (.sl 3 (.int .i64) v3 0), u, u, u, .one (.int .i64 v4), u, u, u, u, u, u, u, u, u, u, u, u, u, u, u, u, u, u, u, u], []⟩ = m34_l4 N v2 v3 k0 n v4 := by
  subst hc; intro n; induction n with
  | zero => intros; rfl
  | succ n ih =>
    intro v4
    rw [loop_succ, c34_4_at, m34_l4]; unfold Try.f34
    simp (maxSteps := 10000000) -implicitDefEqProofs [T34_tr, tr34, T34_lp, lp34, T34_ex, ex34, T34_rg, rg34, T34_jn, jn34, T34_fuel, T34_pins, nl34_4_fix, nl34_4_keep, nx34_0_fix, nx34_0_keep, hret, h0, ih]
theorem run34 (N : Nat) (v0 : List (Val (.int .i64))) (v1 : List (Val (.int .i64))) : runT tt Γ34 (T34 N) (Try.f34.body.getD .skip) (retR tt true [i4] [.tmp 4]) (entryP [i25, i25] 26 (v0, v1, ())) = m34 N v0 v1 := by
  unfold Try.f34
  simp (maxSteps := 10000000) -implicitDefEqProofs [T34_tr, tr34, T34_lp, lp34, T34_ex, ex34, T34_rg, rg34, T34_jn, jn34, T34_fuel, T34_pins, nl34_4_fix, nl34_4_keep, nx34_0_fix, nx34_0_keep]
  rewrite [r34_l4 (k0 := (fun (_ : Unit) => some (true, ()))) N _ _ ?_ ?_ ?_]
  · rewrite [m34]; first | rfl | simp (maxSteps := 10000000) -implicitDefEqProofs []
  · rfl
  · intro; simp only [seqR_ret, blockR_ret, retR_ret, retX_ret]
  · simp (maxSteps := 10000000) -implicitDefEqProofs [T34_tr, tr34, T34_lp, lp34, T34_ex, ex34, T34_rg, rg34, T34_jn, jn34, T34_fuel, T34_pins, nl34_4_fix, nl34_4_keep, nx34_0_fix, nx34_0_keep]
def g34 : G := { ps := [i25, i25], rs := [i4], dp := true, pre := fun x => eq_IntS_pre x.1 x.2.1, fn := fun x => (eq_IntS x.1 x.2.1, ()) }
theorem e34 (x y : List (Val (.int .i64))) (h : eq_IntS_pre x y) : ∃ N, m34 N x y = some (eq_IntS x y, ()) := ⟨List.length x + 1, by
  rw [m34, bif_not]
  rw [eq_IntS, eqS]
  by_cases c : List.length x = List.length y
  · rw [bif_dec (by omega)]
    refine (eq_loop (f := eqV (.int .i64)) (xs := x) (ys := y) (F := fun n i => m34_l4 _ x y _ n i) (k := fun _ => some (true, ())) (r := some (false, ())) h.1 c (fun n i hi hi2 => ?_) (fun n i hi => ?_) _ (Nat.lt_succ_self _)).trans bif_some
    · rw [m34_l4, bif_dec (by omega), chk_pos (by omega), chk_pos (by omega), getD_atI hi, getD_atI hi2, bif_not]
      rfl
    · rw [m34_l4, bif_decN (by omega)]
  · rw [bif_decN (by omega), eqL_len _ _ c]⟩
theorem s34 : Sound Try.prog 34 g34 := sound_run (tt := tt) (Γ := Γ34) hT ok_nil hm (fn := Try.f34) Try.func34 (c := Try.f34.body.getD .skip) (by kernel_rfl) (by kernel_rfl) fun x hx => by
  obtain ⟨N, h⟩ := e34 x.1 x.2.1 hx
  exact ⟨T34 N, p34, noSem_ok _, tb34 N, (run34 N x.1 x.2.1).trans h⟩
def eq_Atom (x y : Val Y36) : Bool := eqV Y36 x y
def eq_Atom_pre (x _ : Val Y36) : Prop := Bd Y36 x
-- laws.eqAtom
noncomputable def m13 (N : Nat) (v0 : Val Y36) (v1 : Val Y36) : Option (Vals [i4]) := chk (eq_IntS_pre (v0.1 : List (Val (.int .i64))) (v1.1 : List (Val (.int .i64)))) (bif (!((eq_IntS (v0.1 : List (Val (.int .i64))) (v1.1 : List (Val (.int .i64)))) : Bool)) then (some (false, ())) else (bif (!(decide ((v0.2.1 : Int) = (v1.2.1 : Int)))) then (some (false, ())) else (bif (!((v0.2.2 : Bool) == (v1.2.2 : Bool))) then (some (false, ())) else (some (true, ())))))
def Γ13 : Gam := [(34, g34)]
theorem Γ13_34 : Gam.get Γ13 34 = some g34 := rfl
def tr13 : Nat → Tree := fun _ => .done
def lp13 : Nat → Nm := fun _ => ⟨[], []⟩
def jn13 : Nat → Option Jn := fun _ => none
def ex13 : Nat → Option Nm := fun _ => none
def rg13 : Nat → Option Nm := fun _ => none
theorem p13 : plansOk tr13 (Try.f13.body.getD .skip) = true := by kernel_rfl
def T13 (N : Nat) : Tab := { tr := tr13, lp := lp13, ex := ex13, rg := rg13, jn := jn13, fuel := N }
theorem T13_pins (N : Nat) : (T13 N).pins = false := rfl
theorem tb13 (N : Nat) : TbOk Try.prog (T13 N) := tb_none fun _ => rfl
theorem T13_tr (N i : Nat) : (T13 N).tr i = tr13 i := rfl
theorem T13_lp (N i : Nat) : (T13 N).lp i = lp13 i := rfl
theorem T13_ex (N i : Nat) : (T13 N).ex i = ex13 i := rfl
theorem T13_rg (N i : Nat) : (T13 N).rg i = rg13 i := rfl
theorem T13_jn (N i : Nat) : (T13 N).jn i = jn13 i := rfl
theorem T13_fuel (N : Nat) : (T13 N).fuel = N := rfl
theorem run13 (N : Nat) (v0 : Val Y36) (v1 : Val Y36) : runT tt Γ13 (T13 N) (Try.f13.body.getD .skip) (retR tt true [i4] [.tmp 4]) (entryP [i36, i36] 21 (v0, v1, ())) = m13 N v0 v1 := by
  rw [m13]; unfold Try.f13
  simp (maxSteps := 10000000) -implicitDefEqProofs [T13_tr, tr13, T13_lp, lp13, T13_ex, ex13, T13_rg, rg13, T13_jn, jn13, T13_fuel, T13_pins, Γ13_34, g34]
  try rfl
def g13 : G := { ps := [i36, i36], rs := [i4], dp := true, pre := fun x => eq_Atom_pre x.1 x.2.1, fn := fun x => (eq_Atom x.1 x.2.1, ()) }
theorem e13 (x y : Val Y36) (h : eq_Atom_pre x y) : ∃ N, m13 N x y = some (eq_Atom x y, ()) := ⟨0, by
  obtain ⟨s0, s1, s2⟩ := h
  rw [m13, chk_pos (show eq_IntS_pre _ _ from s0)]
  obtain ⟨x0, x1, x2⟩ := x
  obtain ⟨y0, y1, y2⟩ := y
  change _ = some ((eqV (.slice 3 (.int .i64)) x0 y0 && (eqV (.int .i64) x1 y1 && eqV .bool x2 y2)), ())
  simp only [bif_not]
  show _ = _
  generalize he0 : eqV (.slice 3 (.int .i64)) x0 y0 = e0
  have hd0 : eq_IntS x0 y0 = e0 := he0
  generalize he1 : eqV (.int .i64) x1 y1 = e1
  have hd1 : decide ((x1 : Int) = y1) = e1 := he1
  generalize he2 : eqV .bool x2 y2 = e2
  have hd2 : ((x2 : Bool) == y2) = e2 := he2
  simp only [hd0, hd1, hd2]
  cases e0 <;> cases e1 <;> cases e2 <;> rfl⟩
theorem s13 : Sound Try.prog 13 g13 := sound_run (tt := tt) (Γ := Γ13) hT (ok_cons s34 ok_nil) hm (fn := Try.f13) Try.func13 (c := Try.f13.body.getD .skip) (by kernel_rfl) (by kernel_rfl) fun x hx => by
  obtain ⟨N, h⟩ := e13 x.1 x.2.1 hx
  exact ⟨T13 N, p13, noSem_ok _, tb13 N, (run13 N x.1 x.2.1).trans h⟩
def eq_AtomS (x y : List (Val Y36)) : Bool := eqV (.slice 36 Y36) x y
def eq_AtomS_pre (x _ : List (Val Y36)) : Prop := Bd (.slice 36 Y36) x
-- laws.eqAtomS
noncomputable def m33_l4 (N : Nat) (v2 : List (Val Y36)) (v3 : List (Val Y36)) (k0 : Unit → Option (Vals [i4])) : Nat → Int → Option (Vals [i4])
  | 0, _ => none
  | n + 1, v4 => bif (decide (v4 < (v2.length : Int))) then (chk (0 ≤ v4 ∧ v4 < (v2.length : Int)) (chk (0 ≤ v4 ∧ v4 < (v3.length : Int)) (chk (eq_Atom_pre (v2.getD v4.toNat (dflt Y36)) (v3.getD v4.toNat (dflt Y36))) (bif (!((eq_Atom (v2.getD v4.toNat (dflt Y36)) (v3.getD v4.toNat (dflt Y36))) : Bool)) then (some (false, ())) else (m33_l4 N v2 v3 k0 n (IntKind.i64.wrap (v4 + (1 : Int)))))))) else (k0 ())
noncomputable def m33 (N : Nat) (v0 : List (Val Y36)) (v1 : List (Val Y36)) : Option (Vals [i4]) := bif (!(decide ((v0.length : Int) = (v1.length : Int)))) then (some (false, ())) else (m33_l4 N v0 v1 (fun (_ : Unit) => some (true, ())) N (0 : Int))
def Γ33 : Gam := [(13, g13)]
theorem Γ33_13 : Gam.get Γ33 13 = some g13 := rfl
def nl33_4 : Nm := ⟨[true, true, false, false, false, true], []⟩
theorem nl33_4_fix : nl33_4.fix = [] := rfl
theorem nl33_4_keep : nl33_4.keep = [true, true, false, false, false, true] := rfl
def nx33_0 : Nm := ⟨[], []⟩
theorem nx33_0_fix : nx33_0.fix = [] := rfl
theorem nx33_0_keep : nx33_0.keep = [] := rfl
def tr33 : Nat → Tree := fun i => if i = 6 then .quiet 0 (.quiet 1 (.quiet 2 (.quiet 3 (.quiet 4 (.quiet 5 (.quiet 6 (.quiet 7 (.alt 8 (.quiet 9 .done) .stop)))))))) else .done
def lp33 : Nat → Nm := fun i => if i = 4 then nl33_4 else ⟨[], []⟩
def jn33 : Nat → Option Jn := fun _ => none
def ex33 : Nat → Option Nm := fun i => if i = 0 then some nx33_0 else none
def rg33 : Nat → Option Nm := fun _ => none
theorem p33 : plansOk tr33 (Try.f33.body.getD .skip) = true := by kernel_rfl
def T33 (N : Nat) : Tab := { tr := tr33, lp := lp33, ex := ex33, rg := rg33, jn := jn33, fuel := N }
theorem T33_pins (N : Nat) : (T33 N).pins = false := rfl
theorem tb33 (N : Nat) : TbOk Try.prog (T33 N) := tb_none fun _ => rfl
theorem T33_tr (N i : Nat) : (T33 N).tr i = tr33 i := rfl
theorem T33_lp (N i : Nat) : (T33 N).lp i = lp33 i := rfl
theorem T33_ex (N i : Nat) : (T33 N).ex i = ex33 i := rfl
theorem T33_rg (N i : Nat) : (T33 N).rg i = rg33 i := rfl
theorem T33_jn (N i : Nat) : (T33 N).jn i = jn33 i := rfl
theorem T33_fuel (N : Nat) : (T33 N).fuel = N := rfl
noncomputable def c33_4 : Code := cut [true, true, false, true, true, true] (Try.f33.body.getD .skip)
theorem c33_4_at {N : Nat} {Q : X → St → Option (Vals [i4])} {e : List LV} {h : List Blk} : runT tt Γ33 (T33 N) c33_4 Q ⟨e, h⟩ = runT tt Γ33 (T33 N) (cut [true, true, false, true, true, true] (Try.f33.body.getD .skip)) Q ⟨e, h⟩ := rfl
theorem r33_l4 (N : Nat) (v2 : List (Val Y36)) (v3 : List (Val Y36)) {k0 : Unit → Option (Vals [i4])} {Q : X → St → Option (Vals [i4])} {c : Code} (hc : c = c33_4) (hret : ∀ st, Q .ret st = retS tt true [i4] [.tmp 4] st) (h0 : Q (.exit 0) ⟨[u, u, u, u, u, u, u, u, u, u, u, u, u, u, u, u, u, u, u, u, u, u, u, u, u, u, u], []⟩ = k0 ()) : ∀ (n : Nat) (v4 : Int), loopR (runT tt Γ33 (T33 N) c) false nl33_4 Q n ⟨[.one (.sl 36 Y36 v2 0), .one (.sl 36 Y36 v3 0), u, u, u, .one (.int .i64 v4), u, u, u, u, u, u, u, u, u, u, u, u, u, u, u, u, u, u, u, u, u], []⟩ = m33_l4 N v2 v3 k0 n v4 := by
  subst hc; intro n; induction n with
  | zero => intros; rfl
  | succ n ih =>
    intro v4
    rw [loop_succ, c33_4_at, m33_l4]; unfold Try.f33
    simp (maxSteps := 10000000) -implicitDefEqProofs [T33_tr, tr33, T33_lp, lp33, T33_ex, ex33, T33_rg, rg33, T33_jn, jn33, T33_fuel, T33_pins, nl33_4_fix, nl33_4_keep, nx33_0_fix, nx33_0_keep, Γ33_13, g13, hret, h0, ih]
theorem run33 (N : Nat) (v0 : List (Val Y36)) (v1 : List (Val Y36)) : runT tt Γ33 (T33 N) (Try.f33.body.getD .skip) (retR tt true [i4] [.tmp 4]) (entryP [i30, i30] 27 (v0, v1, ())) = m33 N v0 v1 := by
  unfold Try.f33
  simp (maxSteps := 10000000) -implicitDefEqProofs [T33_tr, tr33, T33_lp, lp33, T33_ex, ex33, T33_rg, rg33, T33_jn, jn33, T33_fuel, T33_pins, nl33_4_fix, nl33_4_keep, nx33_0_fix, nx33_0_keep, Γ33_13, g13]
  rewrite [r33_l4 (k0 := (fun (_ : Unit) => some (true, ()))) N _ _ ?_ ?_ ?_]
  · rewrite [m33]; first | rfl | simp (maxSteps := 10000000) -implicitDefEqProofs []
  · rfl
  · intro; simp only [seqR_ret, blockR_ret, retR_ret, retX_ret]
  · simp (maxSteps := 10000000) -implicitDefEqProofs [T33_tr, tr33, T33_lp, lp33, T33_ex, ex33, T33_rg, rg33, T33_jn, jn33, T33_fuel, T33_pins, nl33_4_fix, nl33_4_keep, nx33_0_fix, nx33_0_keep, Γ33_13, g13]
def g33 : G := { ps := [i30, i30], rs := [i4], dp := true, pre := fun x => eq_AtomS_pre x.1 x.2.1, fn := fun x => (eq_AtomS x.1 x.2.1, ()) }
theorem e33 (x y : List (Val Y36)) (h : eq_AtomS_pre x y) : ∃ N, m33 N x y = some (eq_AtomS x y, ()) := ⟨List.length x + 1, by
  rw [m33, bif_not]
  rw [eq_AtomS, eqS]
  by_cases c : List.length x = List.length y
  · rw [bif_dec (by omega)]
    refine (eq_loop (f := eqV Y36) (xs := x) (ys := y) (F := fun n i => m33_l4 _ x y _ n i) (k := fun _ => some (true, ())) (r := some (false, ())) h.1 c (fun n i hi hi2 => ?_) (fun n i hi => ?_) _ (Nat.lt_succ_self _)).trans bif_some
    · rw [m33_l4, bif_dec (by omega), chk_pos (by omega), chk_pos (by omega), chk_pos (show eq_Atom_pre _ _ from by rw [getD_atI hi]; exact h.2 _ (List.getElem_mem hi)), getD_atI hi, getD_atI hi2, bif_not]
      rfl
    · rw [m33_l4, bif_decN (by omega)]
  · rw [bif_decN (by omega), eqL_len _ _ c]⟩
theorem s33 : Sound Try.prog 33 g33 := sound_run (tt := tt) (Γ := Γ33) hT (ok_cons s13 ok_nil) hm (fn := Try.f33) Try.func33 (c := Try.f33.body.getD .skip) (by kernel_rfl) (by kernel_rfl) fun x hx => by
  obtain ⟨N, h⟩ := e33 x.1 x.2.1 hx
  exact ⟨T33 N, p33, noSem_ok _, tb33 N, (run33 N x.1 x.2.1).trans h⟩
def eq_Cell (x y : Val Y32) : Bool := eqV Y32 x y
def eq_Cell_pre (x _ : Val Y32) : Prop := Bd Y32 x
-- laws.eqCell
noncomputable def m12 (N : Nat) (v0 : Val Y32) (v1 : Val Y32) : Option (Vals [i4]) := bif (!(decide ((v0.1 : Int) = (v1.1 : Int)))) then (some (false, ())) else (chk (eq_AtomS_pre (v0.2 : List (Val Y36)) (v1.2 : List (Val Y36))) (bif (!((eq_AtomS (v0.2 : List (Val Y36)) (v1.2 : List (Val Y36))) : Bool)) then (some (false, ())) else (some (true, ()))))
def Γ12 : Gam := [(33, g33)]
theorem Γ12_33 : Gam.get Γ12 33 = some g33 := rfl
def tr12 : Nat → Tree := fun _ => .done
def lp12 : Nat → Nm := fun _ => ⟨[], []⟩
def jn12 : Nat → Option Jn := fun _ => none
def ex12 : Nat → Option Nm := fun _ => none
def rg12 : Nat → Option Nm := fun _ => none
theorem p12 : plansOk tr12 (Try.f12.body.getD .skip) = true := by kernel_rfl
def T12 (N : Nat) : Tab := { tr := tr12, lp := lp12, ex := ex12, rg := rg12, jn := jn12, fuel := N }
theorem T12_pins (N : Nat) : (T12 N).pins = false := rfl
theorem tb12 (N : Nat) : TbOk Try.prog (T12 N) := tb_none fun _ => rfl
theorem T12_tr (N i : Nat) : (T12 N).tr i = tr12 i := rfl
theorem T12_lp (N i : Nat) : (T12 N).lp i = lp12 i := rfl
theorem T12_ex (N i : Nat) : (T12 N).ex i = ex12 i := rfl
theorem T12_rg (N i : Nat) : (T12 N).rg i = rg12 i := rfl
theorem T12_jn (N i : Nat) : (T12 N).jn i = jn12 i := rfl
theorem T12_fuel (N : Nat) : (T12 N).fuel = N := rfl
theorem run12 (N : Nat) (v0 : Val Y32) (v1 : Val Y32) : runT tt Γ12 (T12 N) (Try.f12.body.getD .skip) (retR tt true [i4] [.tmp 4]) (entryP [i32, i32] 16 (v0, v1, ())) = m12 N v0 v1 := by
  rw [m12]; unfold Try.f12
  simp (maxSteps := 10000000) -implicitDefEqProofs [T12_tr, tr12, T12_lp, lp12, T12_ex, ex12, T12_rg, rg12, T12_jn, jn12, T12_fuel, T12_pins, Γ12_33, g33]
  try rfl
def g12 : G := { ps := [i32, i32], rs := [i4], dp := true, pre := fun x => eq_Cell_pre x.1 x.2.1, fn := fun x => (eq_Cell x.1 x.2.1, ()) }
theorem e12 (x y : Val Y32) (h : eq_Cell_pre x y) : ∃ N, m12 N x y = some (eq_Cell x y, ()) := ⟨0, by
  obtain ⟨s0, s1⟩ := h
  rw [m12, chk_pos (show eq_AtomS_pre _ _ from s1)]
  obtain ⟨x0, x1⟩ := x
  obtain ⟨y0, y1⟩ := y
  change _ = some ((eqV (.int .i64) x0 y0 && eqV (.slice 36 Y36) x1 y1), ())
  simp only [bif_not]
  show _ = _
  generalize he0 : eqV (.int .i64) x0 y0 = e0
  have hd0 : decide ((x0 : Int) = y0) = e0 := he0
  generalize he1 : eqV (.slice 36 Y36) x1 y1 = e1
  have hd1 : eq_AtomS x1 y1 = e1 := he1
  simp only [hd0, hd1]
  cases e0 <;> cases e1 <;> rfl⟩
theorem s12 : Sound Try.prog 12 g12 := sound_run (tt := tt) (Γ := Γ12) hT (ok_cons s33 ok_nil) hm (fn := Try.f12) Try.func12 (c := Try.f12.body.getD .skip) (by kernel_rfl) (by kernel_rfl) fun x hx => by
  obtain ⟨N, h⟩ := e12 x.1 x.2.1 hx
  exact ⟨T12 N, p12, noSem_ok _, tb12 N, (run12 N x.1 x.2.1).trans h⟩
end Go.T
