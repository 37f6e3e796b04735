/- Sizes, copies and equality of regions. -/
import Derived.Test.YthefcjjgchekiaaGreatA1
set_option linter.unusedSimpArgs false
set_option linter.unusedVariables false
namespace Go.T
open Go Go.Proofs
set_option maxHeartbeats 4000000
set_option maxRecDepth 100000
def sz_IntS (x : List (Val (.int .i64))) (n : Int) : Int := szV (.slice 3 (.int .i64)) x n
def sz_IntS_pre (x : List (Val (.int .i64))) (n : Int) : Prop := szPre (.slice 3 (.int .i64)) x n
noncomputable def m176 (N : Nat) (v0 : List (Val (.int .i64))) (v1 : Int) : Option (Vals [i3]) := bif (decide ((IntKind.i64.wrap (v1 - (v0.length : Int))) < (0 : Int))) then (some ((-1 : Int), ())) else (some ((IntKind.i64.wrap (v1 - (v0.length : Int))), ()))
def Γ176 : Gam := []
def tr176 : Nat → Tree := fun _ => .done
def lp176 : Nat → Nm := fun _ => ⟨[], [], false⟩
def jn176 : Nat → Option Jn := fun _ => none
def ex176 : Nat → Option Nm := fun _ => none
def rg176 : Nat → Option Nm := fun _ => none
theorem p176 : plansOk tr176 (Tryz.f176.body.getD .skip) = true := by kernel_rfl
def T176 (N : Nat) : Tab := { tr := tr176, lp := lp176, ex := ex176, rg := rg176, jn := jn176, fuel := N }
theorem T176_pins (N : Nat) : (T176 N).pins = false := rfl
theorem tb176 (N : Nat) : TbOk Tryz.prog (T176 N) := tb_none fun _ => rfl
theorem T176_tr (N : Nat) (i : Nat) : (T176 N).tr i = tr176 i := rfl
theorem T176_lp (N : Nat) (i : Nat) : (T176 N).lp i = lp176 i := rfl
theorem T176_ex (N : Nat) (i : Nat) : (T176 N).ex i = ex176 i := rfl
theorem T176_rg (N : Nat) (i : Nat) : (T176 N).rg i = rg176 i := rfl
theorem T176_jn (N : Nat) (i : Nat) : (T176 N).jn i = jn176 i := rfl
theorem T176_fuel (N : Nat) : (T176 N).fuel = N := rfl
theorem run176 (N : Nat) (v0 : List (Val (.int .i64))) (v1 : Int) : runT tt Γ176 (T176 N) (Tryz.f176.body.getD .skip) (retR tt true [i3] [.tmp 4]) (entryP [i25, i3] 12 (v0, v1, ())) = m176 N v0 v1 := by
  rw [m176]; unfold Tryz.f176
  simp (maxSteps := 10000000) -implicitDefEqProofs [T176_tr, tr176, T176_lp, lp176, T176_ex, ex176, T176_rg, rg176, T176_jn, jn176, T176_fuel, T176_pins]
  try rfl
def g176 : G := { ps := [i25, i3], rs := [i3], dp := true, pre := fun x => sz_IntS_pre x.1 x.2.1, fn := fun x => (sz_IntS x.1 x.2.1, ()) }
theorem e176 (x : List (Val (.int .i64))) (n : Int) (h : sz_IntS_pre x n) : ∃ N, m176 N x n = some (sz_IntS x n, ()) := ⟨0, by
  obtain ⟨hs, h0, h1⟩ := h
  rw [m176, wrapSub h0 h1 hs.1]
  simp only [sz_IntS, szV_slice]
  by_cases c : n - (List.length x : Int) < 0
  · rw [bif_dec c, if_pos c]
  · rw [bif_decN c, if_neg c, szL_flatV (fun _ _ => rfl) _ _ (by omega)]⟩
theorem s176 : Sound Tryz.prog 176 g176 := sound_run (tt := tt) (Γ := Γ176) hT ok_nil hm (fn := Tryz.f176) Tryz.func176 (c := Tryz.f176.body.getD .skip) (by kernel_rfl) (by kernel_rfl) fun x hx => by
  obtain ⟨N, h⟩ := e176 x.1 x.2.1 hx
  exact ⟨T176 N, p176, noSem_ok _, tb176 N, (run176 N x.1 x.2.1).trans h⟩
def sz_Atom (x : Val Y101) (n : Int) : Int := szV Y101 x n
def sz_Atom_pre (x : Val Y101) (n : Int) : Prop := szPre Y101 x n
noncomputable def m175 (N : Nat) (v0 : Val Y101) (v1 : Int) : Option (Vals [i3]) := chk (sz_IntS_pre (v0.1 : List (Val (.int .i64))) v1) (bif (decide (((sz_IntS (v0.1 : List (Val (.int .i64))) v1) : Int) < (0 : Int))) then (some ((-1 : Int), ())) else (some (((sz_IntS (v0.1 : List (Val (.int .i64))) v1) : Int), ())))
def Γ175 : Gam := [(176, g176)]
theorem Γ175_176 : Gam.get Γ175 176 = some g176 := rfl
def tr175 : Nat → Tree := fun _ => .done
def lp175 : Nat → Nm := fun _ => ⟨[], [], false⟩
def jn175 : Nat → Option Jn := fun _ => none
def ex175 : Nat → Option Nm := fun _ => none
def rg175 : Nat → Option Nm := fun _ => none
theorem p175 : plansOk tr175 (Tryz.f175.body.getD .skip) = true := by kernel_rfl
def T175 (N : Nat) : Tab := { tr := tr175, lp := lp175, ex := ex175, rg := rg175, jn := jn175, fuel := N }
theorem T175_pins (N : Nat) : (T175 N).pins = false := rfl
theorem tb175 (N : Nat) : TbOk Tryz.prog (T175 N) := tb_none fun _ => rfl
theorem T175_tr (N : Nat) (i : Nat) : (T175 N).tr i = tr175 i := rfl
theorem T175_lp (N : Nat) (i : Nat) : (T175 N).lp i = lp175 i := rfl
theorem T175_ex (N : Nat) (i : Nat) : (T175 N).ex i = ex175 i := rfl
theorem T175_rg (N : Nat) (i : Nat) : (T175 N).rg i = rg175 i := rfl
theorem T175_jn (N : Nat) (i : Nat) : (T175 N).jn i = jn175 i := rfl
theorem T175_fuel (N : Nat) : (T175 N).fuel = N := rfl
theorem run175 (N : Nat) (v0 : Val Y101) (v1 : Int) : runT tt Γ175 (T175 N) (Tryz.f175.body.getD .skip) (retR tt true [i3] [.tmp 4]) (entryP [i101, i3] 12 (v0, v1, ())) = m175 N v0 v1 := by
  rw [m175]; unfold Tryz.f175
  simp (maxSteps := 10000000) -implicitDefEqProofs [T175_tr, tr175, T175_lp, lp175, T175_ex, ex175, T175_rg, rg175, T175_jn, jn175, T175_fuel, T175_pins, Γ175_176, g176]
  try rfl
def g175 : G := { ps := [i101, i3], rs := [i3], dp := true, pre := fun x => sz_Atom_pre x.1 x.2.1, fn := fun x => (sz_Atom x.1 x.2.1, ()) }
theorem e175 (x : Val Y101) (n : Int) (h : sz_Atom_pre x n) : ∃ N, m175 N x n = some (sz_Atom x n, ()) := ⟨0, by
  obtain ⟨x0, x1, x2⟩ := x
  obtain ⟨hs, h0, h1⟩ := h
  obtain ⟨s0, s1, s2⟩ := hs
  rw [m175, sz_Atom]
  dsimp only
  rw [chk_pos (show sz_IntS_pre x0 n from ⟨s0, h0, h1⟩)]
  by_cases c0 : sz_IntS x0 n < 0
  · rw [bif_dec c0, szP_neg (show szV (.slice 3 (.int .i64)) x0 n < 0 from c0)]
  · have h00 : 0 ≤ sz_IntS x0 n := by omega
    have h10 : sz_IntS x0 n ≤ 1048576 := Int.le_trans (szV_le (.slice 3 (.int .i64)) x0 n h0).1 h1
    rw [bif_decN c0, szP_pos (show 0 ≤ szV (.slice 3 (.int .i64)) x0 n from h00)]
    change _ = some (szV (.pair (.int .i64) .bool) _ (sz_IntS x0 n), ())
    rw [szP_int h00]
    rfl⟩
theorem s175 : Sound Tryz.prog 175 g175 := sound_run (tt := tt) (Γ := Γ175) hT (ok_cons s176 ok_nil) hm (fn := Tryz.f175) Tryz.func175 (c := Tryz.f175.body.getD .skip) (by kernel_rfl) (by kernel_rfl) fun x hx => by
  obtain ⟨N, h⟩ := e175 x.1 x.2.1 hx
  exact ⟨T175 N, p175, noSem_ok _, tb175 N, (run175 N x.1 x.2.1).trans h⟩
def sz_AtomS (x : List (Val Y101)) (n : Int) : Int := szV (.slice 101 Y101) x n
def sz_AtomS_pre (x : List (Val Y101)) (n : Int) : Prop := szPre (.slice 101 Y101) x n
noncomputable def m103_l5 (N : Nat) (v2 : List (Val Y101)) (k0 : Int → Option (Vals [i3])) : Nat → Int → Int → Option (Vals [i3])
  | 0, _, _ => none
  | n + 1, v3, v4 => bif (decide (v4 < (v2.length : Int))) then (chk (0 ≤ v4 ∧ v4 < (v2.length : Int)) (chk (sz_Atom_pre (v2.getD v4.toNat (dflt Y101)) v3) (bif (decide (((sz_Atom (v2.getD v4.toNat (dflt Y101)) v3) : Int) < (0 : Int))) then (some ((-1 : Int), ())) else (m103_l5 N v2 k0 n ((sz_Atom (v2.getD v4.toNat (dflt Y101)) v3) : Int) (IntKind.i64.wrap (v4 + (1 : Int))))))) else (k0 v3)
noncomputable def m103 (N : Nat) (v0 : List (Val Y101)) (v1 : Int) : Option (Vals [i3]) := bif (decide ((IntKind.i64.wrap (v1 - (v0.length : Int))) < (0 : Int))) then (some ((-1 : Int), ())) else (m103_l5 N v0 (fun (v6 : Int) => some (v6, ())) N (IntKind.i64.wrap (v1 - (v0.length : Int))) (0 : Int))
def Γ103 : Gam := [(175, g175)]
theorem Γ103_175 : Gam.get Γ103 175 = some g175 := rfl
def nl103_5 : Nm := ⟨[true, true, false, false, false, true], [], false⟩
theorem nl103_5_zero : nl103_5.zero = false := rfl
theorem nl103_5_fix : nl103_5.fix = [] := rfl
theorem nl103_5_keep : nl103_5.keep = [true, true, false, false, false, true] := rfl
def nx103_0 : Nm := ⟨[false, true], [], false⟩
theorem nx103_0_zero : nx103_0.zero = false := rfl
theorem nx103_0_fix : nx103_0.fix = [] := rfl
theorem nx103_0_keep : nx103_0.keep = [false, true] := rfl
def tr103 : Nat → Tree := fun _ => .done
def lp103 : Nat → Nm := fun i => if i = 5 then nl103_5 else ⟨[], [], false⟩
def jn103 : Nat → Option Jn := fun _ => none
def ex103 : Nat → Option Nm := fun i => if i = 0 then some nx103_0 else none
def rg103 : Nat → Option Nm := fun _ => none
theorem p103 : plansOk tr103 (Tryz.f103.body.getD .skip) = true := by kernel_rfl
def T103 (N : Nat) : Tab := { tr := tr103, lp := lp103, ex := ex103, rg := rg103, jn := jn103, fuel := N }
theorem T103_pins (N : Nat) : (T103 N).pins = false := rfl
theorem tb103 (N : Nat) : TbOk Tryz.prog (T103 N) := tb_none fun _ => rfl
theorem T103_tr (N : Nat) (i : Nat) : (T103 N).tr i = tr103 i := rfl
theorem T103_lp (N : Nat) (i : Nat) : (T103 N).lp i = lp103 i := rfl
theorem T103_ex (N : Nat) (i : Nat) : (T103 N).ex i = ex103 i := rfl
theorem T103_rg (N : Nat) (i : Nat) : (T103 N).rg i = rg103 i := rfl
theorem T103_jn (N : Nat) (i : Nat) : (T103 N).jn i = jn103 i := rfl
theorem T103_fuel (N : Nat) : (T103 N).fuel = N := rfl
noncomputable def c103_5 : Code := cut [true, true, true, false, true, true, true] (Tryz.f103.body.getD .skip)
theorem c103_5_at {N : Nat} {Q : X → St → Option (Vals [i3])} {e : List LV} {h : List Blk} : runT tt Γ103 (T103 N) c103_5 Q ⟨e, h⟩ = runT tt Γ103 (T103 N) (cut [true, true, true, false, true, true, true] (Tryz.f103.body.getD .skip)) Q ⟨e, h⟩ := rfl
theorem r103_l5 (N : Nat) (v2 : List (Val Y101)) {k0 : Int → Option (Vals [i3])} {Q : X → St → Option (Vals [i3])} {c : Code} (hc : c = c103_5) (hret : ∀ st, Q .ret st = retS tt true [i3] [.tmp 4] st) (h0 : ∀ (v5 : Int), Q (.exit 0) ⟨[u, .one (.int .i64 v5), u, u, u, u, u, u, u, u, u, u, u, u, u, u, u, u, u, u, u, u, u, u, u, u, u], []⟩ = k0 v5) : ∀ (n : Nat) (v3 : Int) (v4 : Int), loopR (runT tt Γ103 (T103 N) c) false nl103_5 Q n ⟨[.one (.sl 101 Y101 v2 0), .one (.int .i64 v3), u, u, u, .one (.int .i64 v4), u, u, u, u, u, u, u, u, u, u, u, u, u, u, u, u, u, u, u, u, u], []⟩ = m103_l5 N v2 k0 n v3 v4 := by
  subst hc; intro n; induction n with
  | zero => intros; rfl
  | succ n ih =>
    intro v3 v4
    rw [loop_succ, c103_5_at, m103_l5]; unfold Tryz.f103
    simp (maxSteps := 10000000) -implicitDefEqProofs [T103_tr, tr103, T103_lp, lp103, T103_ex, ex103, T103_rg, rg103, T103_jn, jn103, T103_fuel, T103_pins, nl103_5_fix, nl103_5_keep, nl103_5_zero, nx103_0_fix, nx103_0_keep, nx103_0_zero, Γ103_175, g175, hret, h0, ih]
theorem run103 (N : Nat) (v0 : List (Val Y101)) (v1 : Int) : runT tt Γ103 (T103 N) (Tryz.f103.body.getD .skip) (retR tt true [i3] [.tmp 4]) (entryP [i22, i3] 27 (v0, v1, ())) = m103 N v0 v1 := by
  unfold Tryz.f103
  simp (maxSteps := 10000000) -implicitDefEqProofs [T103_tr, tr103, T103_lp, lp103, T103_ex, ex103, T103_rg, rg103, T103_jn, jn103, T103_fuel, T103_pins, nl103_5_fix, nl103_5_keep, nl103_5_zero, nx103_0_fix, nx103_0_keep, nx103_0_zero, Γ103_175, g175]
  rewrite [r103_l5 (k0 := (fun (v6 : Int) => some (v6, ()))) N _ ?_ ?_ ?_]
  · rewrite [m103]; first | rfl | simp (maxSteps := 10000000) -implicitDefEqProofs []
  · rfl
  · intro; simp only [seqR_ret, blockR_ret, retR_ret, retX_ret]
  · intro v6; simp (maxSteps := 10000000) -implicitDefEqProofs [T103_tr, tr103, T103_lp, lp103, T103_ex, ex103, T103_rg, rg103, T103_jn, jn103, T103_fuel, T103_pins, nl103_5_fix, nl103_5_keep, nl103_5_zero, nx103_0_fix, nx103_0_keep, nx103_0_zero, Γ103_175, g175]
def g103 : G := { ps := [i22, i3], rs := [i3], dp := true, pre := fun x => sz_AtomS_pre x.1 x.2.1, fn := fun x => (sz_AtomS x.1 x.2.1, ()) }
theorem e103 (x : List (Val Y101)) (n : Int) (h : sz_AtomS_pre x n) : ∃ N, m103 N x n = some (sz_AtomS x n, ()) := ⟨List.length x + 1, by
  obtain ⟨hs, h0, h1⟩ := h
  rw [m103, wrapSub h0 h1 hs.1]
  simp only [sz_AtomS, szV_slice]
  by_cases c : n - (List.length x : Int) < 0
  · rw [bif_dec c, if_pos c]
  · rw [bif_decN c, if_neg c]
    refine (loop_fold (F := fun n i s => m103_l5 _ x _ n s i) (step := fun _ y (s : Int) K => chk (sz_Atom_pre y s) (bif decide (sz_Atom y s < 0) then some ((-1 : Int), ()) else K (sz_Atom y s))) (k := fun s => some (s, ())) (by omega) (fun n i s hi => ?_) (fun n i s hi => ?_) _ _ (Nat.lt_succ_self _)).trans (sz_loop (t := Y101) x 0 _ (by omega) (by omega) hs.2)
    · rw [m103_l5, bif_dec (by omega), chk_pos (by omega), getD_atI hi]
    · rw [m103_l5, bif_decN (by omega)]⟩
theorem s103 : Sound Tryz.prog 103 g103 := sound_run (tt := tt) (Γ := Γ103) hT (ok_cons s175 ok_nil) hm (fn := Tryz.f103) Tryz.func103 (c := Tryz.f103.body.getD .skip) (by kernel_rfl) (by kernel_rfl) fun x hx => by
  obtain ⟨N, h⟩ := e103 x.1 x.2.1 hx
  exact ⟨T103 N, p103, noSem_ok _, tb103 N, (run103 N x.1 x.2.1).trans h⟩
def sz_Cell (x : Val Y24) (n : Int) : Int := szV Y24 x n
def sz_Cell_pre (x : Val Y24) (n : Int) : Prop := szPre Y24 x n
noncomputable def m22 (N : Nat) (v0 : Val Y24) (v1 : Int) : Option (Vals [i3]) := chk (sz_AtomS_pre (v0.2 : List (Val Y101)) v1) (bif (decide (((sz_AtomS (v0.2 : List (Val Y101)) v1) : Int) < (0 : Int))) then (some ((-1 : Int), ())) else (some (((sz_AtomS (v0.2 : List (Val Y101)) v1) : Int), ())))
def Γ22 : Gam := [(103, g103)]
theorem Γ22_103 : Gam.get Γ22 103 = some g103 := rfl
def tr22 : Nat → Tree := fun _ => .done
def lp22 : Nat → Nm := fun _ => ⟨[], [], false⟩
def jn22 : Nat → Option Jn := fun _ => none
def ex22 : Nat → Option Nm := fun _ => none
def rg22 : Nat → Option Nm := fun _ => none
theorem p22 : plansOk tr22 (Tryz.f22.body.getD .skip) = true := by kernel_rfl
def T22 (N : Nat) : Tab := { tr := tr22, lp := lp22, ex := ex22, rg := rg22, jn := jn22, fuel := N }
theorem T22_pins (N : Nat) : (T22 N).pins = false := rfl
theorem tb22 (N : Nat) : TbOk Tryz.prog (T22 N) := tb_none fun _ => rfl
theorem T22_tr (N : Nat) (i : Nat) : (T22 N).tr i = tr22 i := rfl
theorem T22_lp (N : Nat) (i : Nat) : (T22 N).lp i = lp22 i := rfl
theorem T22_ex (N : Nat) (i : Nat) : (T22 N).ex i = ex22 i := rfl
theorem T22_rg (N : Nat) (i : Nat) : (T22 N).rg i = rg22 i := rfl
theorem T22_jn (N : Nat) (i : Nat) : (T22 N).jn i = jn22 i := rfl
theorem T22_fuel (N : Nat) : (T22 N).fuel = N := rfl
theorem run22 (N : Nat) (v0 : Val Y24) (v1 : Int) : runT tt Γ22 (T22 N) (Tryz.f22.body.getD .skip) (retR tt true [i3] [.tmp 4]) (entryP [i24, i3] 12 (v0, v1, ())) = m22 N v0 v1 := by
  rw [m22]; unfold Tryz.f22
  simp (maxSteps := 10000000) -implicitDefEqProofs [T22_tr, tr22, T22_lp, lp22, T22_ex, ex22, T22_rg, rg22, T22_jn, jn22, T22_fuel, T22_pins, Γ22_103, g103]
  try rfl
def g22 : G := { ps := [i24, i3], rs := [i3], dp := true, pre := fun x => sz_Cell_pre x.1 x.2.1, fn := fun x => (sz_Cell x.1 x.2.1, ()) }
theorem e22 (x : Val Y24) (n : Int) (h : sz_Cell_pre x n) : ∃ N, m22 N x n = some (sz_Cell x n, ()) := ⟨0, by
  obtain ⟨x0, x1⟩ := x
  obtain ⟨hs, h0, h1⟩ := h
  obtain ⟨s0, s1⟩ := hs
  rw [m22, sz_Cell]
  dsimp only
  rw [szP_int h0]
  rw [chk_pos (show sz_AtomS_pre x1 n from ⟨s1, h0, h1⟩)]
  by_cases c1 : sz_AtomS x1 n < 0
  · rw [bif_dec c1]
    exact congrArg (fun z => some (z, ())) ((szV_le (.slice 101 Y101) x1 n h0).2 c1).symm
  · rw [bif_decN c1]
    rfl⟩
theorem s22 : Sound Tryz.prog 22 g22 := sound_run (tt := tt) (Γ := Γ22) hT (ok_cons s103 ok_nil) hm (fn := Tryz.f22) Tryz.func22 (c := Tryz.f22.body.getD .skip) (by kernel_rfl) (by kernel_rfl) fun x hx => by
  obtain ⟨N, h⟩ := e22 x.1 x.2.1 hx
  exact ⟨T22 N, p22, noSem_ok _, tb22 N, (run22 N x.1 x.2.1).trans h⟩
def sz_CellS (x : List (Val Y24)) (n : Int) : Int := szV (.slice 24 Y24) x n
def sz_CellS_pre (x : List (Val Y24)) (n : Int) : Prop := szPre (.slice 24 Y24) x n
noncomputable def m116_l5 (N : Nat) (v2 : List (Val Y24)) (k0 : Int → Option (Vals [i3])) : Nat → Int → Int → Option (Vals [i3])
  | 0, _, _ => none
  | n + 1, v3, v4 => bif (decide (v4 < (v2.length : Int))) then (chk (0 ≤ v4 ∧ v4 < (v2.length : Int)) (chk (sz_Cell_pre (v2.getD v4.toNat (dflt Y24)) v3) (bif (decide (((sz_Cell (v2.getD v4.toNat (dflt Y24)) v3) : Int) < (0 : Int))) then (some ((-1 : Int), ())) else (m116_l5 N v2 k0 n ((sz_Cell (v2.getD v4.toNat (dflt Y24)) v3) : Int) (IntKind.i64.wrap (v4 + (1 : Int))))))) else (k0 v3)
noncomputable def m116 (N : Nat) (v0 : List (Val Y24)) (v1 : Int) : Option (Vals [i3]) := bif (decide ((IntKind.i64.wrap (v1 - (v0.length : Int))) < (0 : Int))) then (some ((-1 : Int), ())) else (m116_l5 N v0 (fun (v6 : Int) => some (v6, ())) N (IntKind.i64.wrap (v1 - (v0.length : Int))) (0 : Int))
def Γ116 : Gam := [(22, g22)]
theorem Γ116_22 : Gam.get Γ116 22 = some g22 := rfl
def nl116_5 : Nm := ⟨[true, true, false, false, false, true], [], false⟩
theorem nl116_5_zero : nl116_5.zero = false := rfl
theorem nl116_5_fix : nl116_5.fix = [] := rfl
theorem nl116_5_keep : nl116_5.keep = [true, true, false, false, false, true] := rfl
def nx116_0 : Nm := ⟨[false, true], [], false⟩
theorem nx116_0_zero : nx116_0.zero = false := rfl
theorem nx116_0_fix : nx116_0.fix = [] := rfl
theorem nx116_0_keep : nx116_0.keep = [false, true] := rfl
def tr116 : Nat → Tree := fun _ => .done
def lp116 : Nat → Nm := fun i => if i = 5 then nl116_5 else ⟨[], [], false⟩
def jn116 : Nat → Option Jn := fun _ => none
def ex116 : Nat → Option Nm := fun i => if i = 0 then some nx116_0 else none
def rg116 : Nat → Option Nm := fun _ => none
theorem p116 : plansOk tr116 (Tryz.f116.body.getD .skip) = true := by kernel_rfl
def T116 (N : Nat) : Tab := { tr := tr116, lp := lp116, ex := ex116, rg := rg116, jn := jn116, fuel := N }
theorem T116_pins (N : Nat) : (T116 N).pins = false := rfl
theorem tb116 (N : Nat) : TbOk Tryz.prog (T116 N) := tb_none fun _ => rfl
theorem T116_tr (N : Nat) (i : Nat) : (T116 N).tr i = tr116 i := rfl
theorem T116_lp (N : Nat) (i : Nat) : (T116 N).lp i = lp116 i := rfl
theorem T116_ex (N : Nat) (i : Nat) : (T116 N).ex i = ex116 i := rfl
theorem T116_rg (N : Nat) (i : Nat) : (T116 N).rg i = rg116 i := rfl
theorem T116_jn (N : Nat) (i : Nat) : (T116 N).jn i = jn116 i := rfl
theorem T116_fuel (N : Nat) : (T116 N).fuel = N := rfl
noncomputable def c116_5 : Code := cut [true, true, true, false, true, true, true] (Tryz.f116.body.getD .skip)
theorem c116_5_at {N : Nat} {Q : X → St → Option (Vals [i3])} {e : List LV} {h : List Blk} : runT tt Γ116 (T116 N) c116_5 Q ⟨e, h⟩ = runT tt Γ116 (T116 N) (cut [true, true, true, false, true, true, true] (Tryz.f116.body.getD .skip)) Q ⟨e, h⟩ := rfl
theorem r116_l5 (N : Nat) (v2 : List (Val Y24)) {k0 : Int → Option (Vals [i3])} {Q : X → St → Option (Vals [i3])} {c : Code} (hc : c = c116_5) (hret : ∀ st, Q .ret st = retS tt true [i3] [.tmp 4] st) (h0 : ∀ (v5 : Int), Q (.exit 0) ⟨[u, .one (.int .i64 v5), u, u, u, u, u, u, u, u, u, u, u, u, u, u, u, u, u, u, u, u, u, u, u, u, u], []⟩ = k0 v5) : ∀ (n : Nat) (v3 : Int) (v4 : Int), loopR (runT tt Γ116 (T116 N) c) false nl116_5 Q n ⟨[.one (.sl 24 Y24 v2 0), .one (.int .i64 v3), u, u, u, .one (.int .i64 v4), u, u, u, u, u, u, u, u, u, u, u, u, u, u, u, u, u, u, u, u, u], []⟩ = m116_l5 N v2 k0 n v3 v4 := by
  subst hc; intro n; induction n with
  | zero => intros; rfl
  | succ n ih =>
    intro v3 v4
    rw [loop_succ, c116_5_at, m116_l5]; unfold Tryz.f116
    simp (maxSteps := 10000000) -implicitDefEqProofs [T116_tr, tr116, T116_lp, lp116, T116_ex, ex116, T116_rg, rg116, T116_jn, jn116, T116_fuel, T116_pins, nl116_5_fix, nl116_5_keep, nl116_5_zero, nx116_0_fix, nx116_0_keep, nx116_0_zero, Γ116_22, g22, hret, h0, ih]
theorem run116 (N : Nat) (v0 : List (Val Y24)) (v1 : Int) : runT tt Γ116 (T116 N) (Tryz.f116.body.getD .skip) (retR tt true [i3] [.tmp 4]) (entryP [i40, i3] 27 (v0, v1, ())) = m116 N v0 v1 := by
  unfold Tryz.f116
  simp (maxSteps := 10000000) -implicitDefEqProofs [T116_tr, tr116, T116_lp, lp116, T116_ex, ex116, T116_rg, rg116, T116_jn, jn116, T116_fuel, T116_pins, nl116_5_fix, nl116_5_keep, nl116_5_zero, nx116_0_fix, nx116_0_keep, nx116_0_zero, Γ116_22, g22]
  rewrite [r116_l5 (k0 := (fun (v6 : Int) => some (v6, ()))) N _ ?_ ?_ ?_]
  · rewrite [m116]; first | rfl | simp (maxSteps := 10000000) -implicitDefEqProofs []
  · rfl
  · intro; simp only [seqR_ret, blockR_ret, retR_ret, retX_ret]
  · intro v6; simp (maxSteps := 10000000) -implicitDefEqProofs [T116_tr, tr116, T116_lp, lp116, T116_ex, ex116, T116_rg, rg116, T116_jn, jn116, T116_fuel, T116_pins, nl116_5_fix, nl116_5_keep, nl116_5_zero, nx116_0_fix, nx116_0_keep, nx116_0_zero, Γ116_22, g22]
def g116 : G := { ps := [i40, i3], rs := [i3], dp := true, pre := fun x => sz_CellS_pre x.1 x.2.1, fn := fun x => (sz_CellS x.1 x.2.1, ()) }
theorem e116 (x : List (Val Y24)) (n : Int) (h : sz_CellS_pre x n) : ∃ N, m116 N x n = some (sz_CellS x n, ()) := ⟨List.length x + 1, by
  obtain ⟨hs, h0, h1⟩ := h
  rw [m116, wrapSub h0 h1 hs.1]
  simp only [sz_CellS, szV_slice]
  by_cases c : n - (List.length x : Int) < 0
  · rw [bif_dec c, if_pos c]
  · rw [bif_decN c, if_neg c]
    refine (loop_fold (F := fun n i s => m116_l5 _ x _ n s i) (step := fun _ y (s : Int) K => chk (sz_Cell_pre y s) (bif decide (sz_Cell y s < 0) then some ((-1 : Int), ()) else K (sz_Cell y s))) (k := fun s => some (s, ())) (by omega) (fun n i s hi => ?_) (fun n i s hi => ?_) _ _ (Nat.lt_succ_self _)).trans (sz_loop (t := Y24) x 0 _ (by omega) (by omega) hs.2)
    · rw [m116_l5, bif_dec (by omega), chk_pos (by omega), getD_atI hi]
    · rw [m116_l5, bif_decN (by omega)]⟩
theorem s116 : Sound Tryz.prog 116 g116 := sound_run (tt := tt) (Γ := Γ116) hT (ok_cons s22 ok_nil) hm (fn := Tryz.f116) Tryz.func116 (c := Tryz.f116.body.getD .skip) (by kernel_rfl) (by kernel_rfl) fun x hx => by
  obtain ⟨N, h⟩ := e116 x.1 x.2.1 hx
  exact ⟨T116 N, p116, noSem_ok _, tb116 N, (run116 N x.1 x.2.1).trans h⟩
def sz_Region (x : Val Y42) (n : Int) : Int := szV Y42 x n
def sz_Region_pre (x : Val Y42) (n : Int) : Prop := szPre Y42 x n
noncomputable def m30 (N : Nat) (v0 : Val Y42) (v1 : Int) : Option (Vals [i3]) := chk (sz_CellS_pre (v0.2 : List (Val Y24)) v1) (bif (decide (((sz_CellS (v0.2 : List (Val Y24)) v1) : Int) < (0 : Int))) then (some ((-1 : Int), ())) else (some (((sz_CellS (v0.2 : List (Val Y24)) v1) : Int), ())))
def Γ30 : Gam := [(116, g116)]
theorem Γ30_116 : Gam.get Γ30 116 = some g116 := rfl
def tr30 : Nat → Tree := fun _ => .done
def lp30 : Nat → Nm := fun _ => ⟨[], [], false⟩
def jn30 : Nat → Option Jn := fun _ => none
def ex30 : Nat → Option Nm := fun _ => none
def rg30 : Nat → Option Nm := fun _ => none
theorem p30 : plansOk tr30 (Tryz.f30.body.getD .skip) = true := by kernel_rfl
def T30 (N : Nat) : Tab := { tr := tr30, lp := lp30, ex := ex30, rg := rg30, jn := jn30, fuel := N }
theorem T30_pins (N : Nat) : (T30 N).pins = false := rfl
theorem tb30 (N : Nat) : TbOk Tryz.prog (T30 N) := tb_none fun _ => rfl
theorem T30_tr (N : Nat) (i : Nat) : (T30 N).tr i = tr30 i := rfl
theorem T30_lp (N : Nat) (i : Nat) : (T30 N).lp i = lp30 i := rfl
theorem T30_ex (N : Nat) (i : Nat) : (T30 N).ex i = ex30 i := rfl
theorem T30_rg (N : Nat) (i : Nat) : (T30 N).rg i = rg30 i := rfl
theorem T30_jn (N : Nat) (i : Nat) : (T30 N).jn i = jn30 i := rfl
theorem T30_fuel (N : Nat) : (T30 N).fuel = N := rfl
theorem run30 (N : Nat) (v0 : Val Y42) (v1 : Int) : runT tt Γ30 (T30 N) (Tryz.f30.body.getD .skip) (retR tt true [i3] [.tmp 4]) (entryP [i42, i3] 12 (v0, v1, ())) = m30 N v0 v1 := by
  rw [m30]; unfold Tryz.f30
  simp (maxSteps := 10000000) -implicitDefEqProofs [T30_tr, tr30, T30_lp, lp30, T30_ex, ex30, T30_rg, rg30, T30_jn, jn30, T30_fuel, T30_pins, Γ30_116, g116]
  try rfl
def g30 : G := { ps := [i42, i3], rs := [i3], dp := true, pre := fun x => sz_Region_pre x.1 x.2.1, fn := fun x => (sz_Region x.1 x.2.1, ()) }
theorem e30 (x : Val Y42) (n : Int) (h : sz_Region_pre x n) : ∃ N, m30 N x n = some (sz_Region x n, ()) := ⟨0, by
  obtain ⟨x0, x1⟩ := x
  obtain ⟨hs, h0, h1⟩ := h
  obtain ⟨s0, s1⟩ := hs
  rw [m30, sz_Region]
  dsimp only
  rw [szP_int h0]
  rw [chk_pos (show sz_CellS_pre x1 n from ⟨s1, h0, h1⟩)]
  by_cases c1 : sz_CellS x1 n < 0
  · rw [bif_dec c1]
    exact congrArg (fun z => some (z, ())) ((szV_le (.slice 24 Y24) x1 n h0).2 c1).symm
  · rw [bif_decN c1]
    rfl⟩
theorem s30 : Sound Tryz.prog 30 g30 := sound_run (tt := tt) (Γ := Γ30) hT (ok_cons s116 ok_nil) hm (fn := Tryz.f30) Tryz.func30 (c := Tryz.f30.body.getD .skip) (by kernel_rfl) (by kernel_rfl) fun x hx => by
  obtain ⟨N, h⟩ := e30 x.1 x.2.1 hx
  exact ⟨T30 N, p30, noSem_ok _, tb30 N, (run30 N x.1 x.2.1).trans h⟩
def to_IntS (x : List (Val (.int .i64))) : List (Val (.int .i64)) := x
def to_IntS_pre (x : List (Val (.int .i64))) : Prop := Bd (.slice 3 (.int .i64)) x
noncomputable def m25_l3 (N : Nat) (v1 : List (Val (.int .i64))) (k0 : (List (Val (.int .i64))) → Option (Vals [i25])) : Nat → Int → (List (Val (.int .i64))) → Option (Vals [i25])
  | 0, _, _ => none
  | n + 1, v2, v3 => bif (decide (v2 < (v1.length : Int))) then (chk (0 ≤ v2 ∧ v2 < (v1.length : Int)) (chk (0 ≤ v2 ∧ v2 < (v3.length : Int)) (chk (v2.toNat < v3.length) (m25_l3 N v1 k0 n (IntKind.i64.wrap (v2 + (1 : Int))) (v3.set v2.toNat ((v1.getD v2.toNat (dflt (.int .i64))) : Int)))))) else (k0 v3)
noncomputable def m25 (N : Nat) (v0 : List (Val (.int .i64))) : Option (Vals [i25]) := chk (0 ≤ (v0.length : Int) ∧ (v0.length : Int) ≤ (v0.length : Int) ∧ (v0.length : Int) ≤ 1048576) (m25_l3 N v0 (fun (v5 : List (Val (.int .i64))) => some (v5, ())) N (0 : Int) (List.replicate (v0.length : Int).toNat (dflt (.int .i64))))
def Γ25 : Gam := []
def nl25_3 : Nm := ⟨[true, false, false, true, true], [], false⟩
theorem nl25_3_zero : nl25_3.zero = false := rfl
theorem nl25_3_fix : nl25_3.fix = [] := rfl
theorem nl25_3_keep : nl25_3.keep = [true, false, false, true, true] := rfl
def nx25_0 : Nm := ⟨[false, false, false, true], [], false⟩
theorem nx25_0_zero : nx25_0.zero = false := rfl
theorem nx25_0_fix : nx25_0.fix = [] := rfl
theorem nx25_0_keep : nx25_0.keep = [false, false, false, true] := rfl
def tr25 : Nat → Tree := fun _ => .done
def lp25 : Nat → Nm := fun i => if i = 3 then nl25_3 else ⟨[], [], false⟩
def jn25 : Nat → Option Jn := fun _ => none
def ex25 : Nat → Option Nm := fun i => if i = 0 then some nx25_0 else none
def rg25 : Nat → Option Nm := fun _ => none
theorem p25 : plansOk tr25 (Tryz.f25.body.getD .skip) = true := by kernel_rfl
def T25 (N : Nat) : Tab := { tr := tr25, lp := lp25, ex := ex25, rg := rg25, jn := jn25, fuel := N }
theorem T25_pins (N : Nat) : (T25 N).pins = false := rfl
theorem tb25 (N : Nat) : TbOk Tryz.prog (T25 N) := tb_none fun _ => rfl
theorem T25_tr (N : Nat) (i : Nat) : (T25 N).tr i = tr25 i := rfl
theorem T25_lp (N : Nat) (i : Nat) : (T25 N).lp i = lp25 i := rfl
theorem T25_ex (N : Nat) (i : Nat) : (T25 N).ex i = ex25 i := rfl
theorem T25_rg (N : Nat) (i : Nat) : (T25 N).rg i = rg25 i := rfl
theorem T25_jn (N : Nat) (i : Nat) : (T25 N).jn i = jn25 i := rfl
theorem T25_fuel (N : Nat) : (T25 N).fuel = N := rfl
noncomputable def c25_3 : Code := cut [true, true, false, true, true, true] (Tryz.f25.body.getD .skip)
theorem c25_3_at {N : Nat} {Q : X → St → Option (Vals [i25])} {e : List LV} {h : List Blk} : runT tt Γ25 (T25 N) c25_3 Q ⟨e, h⟩ = runT tt Γ25 (T25 N) (cut [true, true, false, true, true, true] (Tryz.f25.body.getD .skip)) Q ⟨e, h⟩ := rfl
theorem r25_l3 (N : Nat) (v1 : List (Val (.int .i64))) {k0 : (List (Val (.int .i64))) → Option (Vals [i25])} {Q : X → St → Option (Vals [i25])} {c : Code} (hc : c = c25_3) (hret : ∀ st, Q .ret st = retS tt true [i25] [.tmp 2] st) (h0 : ∀ (v4 : List (Val (.int .i64))), Q (.exit 0) ⟨[u, u, u, .one (.own 0), u, u, u, u, u, u, u, u, u, u, u, u, u, u, u, u, u, u], [.row 3 (.int .i64) v4 true true 0]⟩ = k0 v4) : ∀ (n : Nat) (v2 : Int) (v3 : List (Val (.int .i64))), loopR (runT tt Γ25 (T25 N) c) false nl25_3 Q n ⟨[.one (.sl 3 (.int .i64) v1 1), u, u, .one (.own 0), .one (.int .i64 v2), u, u, u, u, u, u, u, u, u, u, u, u, u, u, u, u, u], [.row 3 (.int .i64) v3 true true 0]⟩ = m25_l3 N v1 k0 n v2 v3 := by
  subst hc; intro n; induction n with
  | zero => intros; rfl
  | succ n ih =>
    intro v2 v3
    rw [loop_succ, c25_3_at, m25_l3]; unfold Tryz.f25
    simp (maxSteps := 10000000) -implicitDefEqProofs [T25_tr, tr25, T25_lp, lp25, T25_ex, ex25, T25_rg, rg25, T25_jn, jn25, T25_fuel, T25_pins, nl25_3_fix, nl25_3_keep, nl25_3_zero, nx25_0_fix, nx25_0_keep, nx25_0_zero, hret, h0, ih]
theorem run25 (N : Nat) (v0 : List (Val (.int .i64))) : runT tt Γ25 (T25 N) (Tryz.f25.body.getD .skip) (retR tt true [i25] [.tmp 2]) (entryP [i25] 22 (v0, ())) = m25 N v0 := by
  unfold Tryz.f25
  simp (maxSteps := 10000000) -implicitDefEqProofs [T25_tr, tr25, T25_lp, lp25, T25_ex, ex25, T25_rg, rg25, T25_jn, jn25, T25_fuel, T25_pins, nl25_3_fix, nl25_3_keep, nl25_3_zero, nx25_0_fix, nx25_0_keep, nx25_0_zero]
  rewrite [r25_l3 (k0 := (fun (v5 : List (Val (.int .i64))) => some (v5, ()))) N _ ?_ ?_ ?_]
  · rewrite [m25]; first | rfl | simp (maxSteps := 10000000) -implicitDefEqProofs []
  · rfl
  · intro; simp only [seqR_ret, blockR_ret, retR_ret, retX_ret]
  · intro v5; simp (maxSteps := 10000000) -implicitDefEqProofs [T25_tr, tr25, T25_lp, lp25, T25_ex, ex25, T25_rg, rg25, T25_jn, jn25, T25_fuel, T25_pins, nl25_3_fix, nl25_3_keep, nl25_3_zero, nx25_0_fix, nx25_0_keep, nx25_0_zero]
def g25 : G := { ps := [i25], rs := [i25], dp := true, pre := fun x => to_IntS_pre x.1, fn := fun x => (to_IntS x.1, ()) }
theorem e25 (x : List (Val (.int .i64))) (h : to_IntS_pre x) : ∃ N, m25 N x = some (to_IntS x, ()) := ⟨List.length x + 1, by
  rw [m25, chk_pos (chk_len h.1), Int.toNat_natCast]
  refine copy_loop (F := fun n i s => m25_l3 _ x _ n i s) (k := fun s => some (s, ())) (dflt (.int .i64)) h.1 (fun n i s hi hl => ?_) (fun n i s hi => ?_) _ (Nat.lt_succ_self _)
  · rw [m25_l3, bif_dec (by omega), chk_pos (by omega), getD_atI hi, chk_pos (by omega), chk_pos (by omega)]
    rfl
  · rw [m25_l3, bif_decN (by omega)]⟩
theorem s25 : Sound Tryz.prog 25 g25 := sound_run (tt := tt) (Γ := Γ25) hT ok_nil hm (fn := Tryz.f25) Tryz.func25 (c := Tryz.f25.body.getD .skip) (by kernel_rfl) (by kernel_rfl) fun x hx => by
  obtain ⟨N, h⟩ := e25 x.1 hx
  exact ⟨T25 N, p25, noSem_ok _, tb25 N, (run25 N x.1).trans h⟩
def to_Atom (x : Val Y101) : Val Y108 := x
def to_Atom_pre (x : Val Y101) : Prop := Bd Y101 x
noncomputable def m179 (N : Nat) (v0 : Val Y101) : Option (Vals [i108]) := chk (to_IntS_pre (v0.1 : List (Val (.int .i64)))) (some ((((to_IntS (v0.1 : List (Val (.int .i64)))) : List (Val (.int .i64))), (v0.2.1 : Int), (v0.2.2 : Bool)), ()))
def Γ179 : Gam := [(25, g25)]
theorem Γ179_25 : Gam.get Γ179 25 = some g25 := rfl
def tr179 : Nat → Tree := fun _ => .done
def lp179 : Nat → Nm := fun _ => ⟨[], [], false⟩
def jn179 : Nat → Option Jn := fun _ => none
def ex179 : Nat → Option Nm := fun _ => none
def rg179 : Nat → Option Nm := fun _ => none
theorem p179 : plansOk tr179 (Tryz.f179.body.getD .skip) = true := by kernel_rfl
def T179 (N : Nat) : Tab := { tr := tr179, lp := lp179, ex := ex179, rg := rg179, jn := jn179, fuel := N }
theorem T179_pins (N : Nat) : (T179 N).pins = false := rfl
theorem tb179 (N : Nat) : TbOk Tryz.prog (T179 N) := tb_none fun _ => rfl
theorem T179_tr (N : Nat) (i : Nat) : (T179 N).tr i = tr179 i := rfl
theorem T179_lp (N : Nat) (i : Nat) : (T179 N).lp i = lp179 i := rfl
theorem T179_ex (N : Nat) (i : Nat) : (T179 N).ex i = ex179 i := rfl
theorem T179_rg (N : Nat) (i : Nat) : (T179 N).rg i = rg179 i := rfl
theorem T179_jn (N : Nat) (i : Nat) : (T179 N).jn i = jn179 i := rfl
theorem T179_fuel (N : Nat) : (T179 N).fuel = N := rfl
theorem run179 (N : Nat) (v0 : Val Y101) : runT tt Γ179 (T179 N) (Tryz.f179.body.getD .skip) (retR tt true [i108] [.cell 2 108]) (entryP [i101] 15 (v0, ())) = m179 N v0 := by
  rw [m179]; unfold Tryz.f179
  simp (maxSteps := 10000000) -implicitDefEqProofs [T179_tr, tr179, T179_lp, lp179, T179_ex, ex179, T179_rg, rg179, T179_jn, jn179, T179_fuel, T179_pins, Γ179_25, g25]
  try rfl
def g179 : G := { ps := [i101], rs := [i108], dp := true, pre := fun x => to_Atom_pre x.1, fn := fun x => (to_Atom x.1, ()) }
theorem e179 (x : Val Y101) (h : to_Atom_pre x) : ∃ N, m179 N x = some (to_Atom x, ()) := ⟨0, by
  obtain ⟨s0, s1, s2⟩ := h
  rw [m179, chk_pos (show to_IntS_pre _ from s0)]
  rfl⟩
theorem s179 : Sound Tryz.prog 179 g179 := sound_run (tt := tt) (Γ := Γ179) hT (ok_cons s25 ok_nil) hm (fn := Tryz.f179) Tryz.func179 (c := Tryz.f179.body.getD .skip) (by kernel_rfl) (by kernel_rfl) fun x hx => by
  obtain ⟨N, h⟩ := e179 x.1 hx
  exact ⟨T179 N, p179, noSem_ok _, tb179 N, (run179 N x.1).trans h⟩
def to_AtomS (x : List (Val Y101)) : List (Val Y108) := x
def to_AtomS_pre (x : List (Val Y101)) : Prop := Bd (.slice 101 Y101) x
noncomputable def m110_l3 (N : Nat) (v1 : List (Val Y101)) (k0 : (List (Val Y108)) → Option (Vals [i31])) : Nat → Int → (List (Val Y108)) → Option (Vals [i31])
  | 0, _, _ => none
  | n + 1, v2, v3 => bif (decide (v2 < (v1.length : Int))) then (chk (0 ≤ v2 ∧ v2 < (v1.length : Int)) (chk (to_Atom_pre (v1.getD v2.toNat (dflt Y101))) (chk (0 ≤ v2 ∧ v2 < (v3.length : Int)) (chk (v2.toNat < v3.length) (m110_l3 N v1 k0 n (IntKind.i64.wrap (v2 + (1 : Int))) (v3.set v2.toNat (((to_Atom (v1.getD v2.toNat (dflt Y101))).1 : List (Val (.int .i64))), (((to_Atom (v1.getD v2.toNat (dflt Y101))).2).1 : Int), (((to_Atom (v1.getD v2.toNat (dflt Y101))).2).2 : Bool)))))))) else (k0 v3)
noncomputable def m110 (N : Nat) (v0 : List (Val Y101)) : Option (Vals [i31]) := chk (0 ≤ (v0.length : Int) ∧ (v0.length : Int) ≤ (v0.length : Int) ∧ (v0.length : Int) ≤ 1048576) (m110_l3 N v0 (fun (v5 : List (Val Y108)) => some (v5, ())) N (0 : Int) (List.replicate (v0.length : Int).toNat (dflt Y108)))
def Γ110 : Gam := [(179, g179)]
theorem Γ110_179 : Gam.get Γ110 179 = some g179 := rfl
def nl110_3 : Nm := ⟨[true, false, false, true, true], [], false⟩
theorem nl110_3_zero : nl110_3.zero = false := rfl
theorem nl110_3_fix : nl110_3.fix = [] := rfl
theorem nl110_3_keep : nl110_3.keep = [true, false, false, true, true] := rfl
def nx110_0 : Nm := ⟨[false, false, false, true], [], false⟩
theorem nx110_0_zero : nx110_0.zero = false := rfl
theorem nx110_0_fix : nx110_0.fix = [] := rfl
theorem nx110_0_keep : nx110_0.keep = [false, false, false, true] := rfl
def tr110 : Nat → Tree := fun _ => .done
def lp110 : Nat → Nm := fun i => if i = 3 then nl110_3 else ⟨[], [], false⟩
def jn110 : Nat → Option Jn := fun _ => none
def ex110 : Nat → Option Nm := fun i => if i = 0 then some nx110_0 else none
def rg110 : Nat → Option Nm := fun _ => none
theorem p110 : plansOk tr110 (Tryz.f110.body.getD .skip) = true := by kernel_rfl
def T110 (N : Nat) : Tab := { tr := tr110, lp := lp110, ex := ex110, rg := rg110, jn := jn110, fuel := N }
theorem T110_pins (N : Nat) : (T110 N).pins = false := rfl
theorem tb110 (N : Nat) : TbOk Tryz.prog (T110 N) := tb_none fun _ => rfl
theorem T110_tr (N : Nat) (i : Nat) : (T110 N).tr i = tr110 i := rfl
theorem T110_lp (N : Nat) (i : Nat) : (T110 N).lp i = lp110 i := rfl
theorem T110_ex (N : Nat) (i : Nat) : (T110 N).ex i = ex110 i := rfl
theorem T110_rg (N : Nat) (i : Nat) : (T110 N).rg i = rg110 i := rfl
theorem T110_jn (N : Nat) (i : Nat) : (T110 N).jn i = jn110 i := rfl
theorem T110_fuel (N : Nat) : (T110 N).fuel = N := rfl
noncomputable def c110_3 : Code := cut [true, true, false, true, true, true] (Tryz.f110.body.getD .skip)
theorem c110_3_at {N : Nat} {Q : X → St → Option (Vals [i31])} {e : List LV} {h : List Blk} : runT tt Γ110 (T110 N) c110_3 Q ⟨e, h⟩ = runT tt Γ110 (T110 N) (cut [true, true, false, true, true, true] (Tryz.f110.body.getD .skip)) Q ⟨e, h⟩ := rfl
theorem r110_l3 (N : Nat) (v1 : List (Val Y101)) {k0 : (List (Val Y108)) → Option (Vals [i31])} {Q : X → St → Option (Vals [i31])} {c : Code} (hc : c = c110_3) (hret : ∀ st, Q .ret st = retS tt true [i31] [.tmp 2] st) (h0 : ∀ (v4 : List (Val Y108)), Q (.exit 0) ⟨[u, u, u, .one (.own 0), u, u, u, u, u, u, u, u, u, u, u, u, u, u, u, u, u, u, u], [.row 108 Y108 v4 true true 0]⟩ = k0 v4) : ∀ (n : Nat) (v2 : Int) (v3 : List (Val Y108)), loopR (runT tt Γ110 (T110 N) c) false nl110_3 Q n ⟨[.one (.sl 101 Y101 v1 1), u, u, .one (.own 0), .one (.int .i64 v2), u, u, u, u, u, u, u, u, u, u, u, u, u, u, u, u, u, u], [.row 108 Y108 v3 true true 0]⟩ = m110_l3 N v1 k0 n v2 v3 := by
  subst hc; intro n; induction n with
  | zero => intros; rfl
  | succ n ih =>
    intro v2 v3
    rw [loop_succ, c110_3_at, m110_l3]; unfold Tryz.f110
    simp (maxSteps := 10000000) -implicitDefEqProofs [T110_tr, tr110, T110_lp, lp110, T110_ex, ex110, T110_rg, rg110, T110_jn, jn110, T110_fuel, T110_pins, nl110_3_fix, nl110_3_keep, nl110_3_zero, nx110_0_fix, nx110_0_keep, nx110_0_zero, Γ110_179, g179, hret, h0, ih]
theorem run110 (N : Nat) (v0 : List (Val Y101)) : runT tt Γ110 (T110 N) (Tryz.f110.body.getD .skip) (retR tt true [i31] [.tmp 2]) (entryP [i22] 23 (v0, ())) = m110 N v0 := by
  unfold Tryz.f110
  simp (maxSteps := 10000000) -implicitDefEqProofs [T110_tr, tr110, T110_lp, lp110, T110_ex, ex110, T110_rg, rg110, T110_jn, jn110, T110_fuel, T110_pins, nl110_3_fix, nl110_3_keep, nl110_3_zero, nx110_0_fix, nx110_0_keep, nx110_0_zero, Γ110_179, g179]
  rewrite [r110_l3 (k0 := (fun (v5 : List (Val Y108)) => some (v5, ()))) N _ ?_ ?_ ?_]
  · rewrite [m110]; first | rfl | simp (maxSteps := 10000000) -implicitDefEqProofs []
  · rfl
  · intro; simp only [seqR_ret, blockR_ret, retR_ret, retX_ret]
  · intro v5; simp (maxSteps := 10000000) -implicitDefEqProofs [T110_tr, tr110, T110_lp, lp110, T110_ex, ex110, T110_rg, rg110, T110_jn, jn110, T110_fuel, T110_pins, nl110_3_fix, nl110_3_keep, nl110_3_zero, nx110_0_fix, nx110_0_keep, nx110_0_zero, Γ110_179, g179]
def g110 : G := { ps := [i22], rs := [i31], dp := true, pre := fun x => to_AtomS_pre x.1, fn := fun x => (to_AtomS x.1, ()) }
theorem e110 (x : List (Val Y101)) (h : to_AtomS_pre x) : ∃ N, m110 N x = some (to_AtomS x, ()) := ⟨List.length x + 1, by
  rw [m110, chk_pos (chk_len h.1), Int.toNat_natCast]
  refine copy_loop (F := fun n i s => m110_l3 _ x _ n i s) (k := fun s => some (s, ())) (dflt Y108) h.1 (fun n i s hi hl => ?_) (fun n i s hi => ?_) _ (Nat.lt_succ_self _)
  · rw [m110_l3, bif_dec (by omega), chk_pos (by omega), chk_pos (show to_Atom_pre _ from by rw [getD_atI hi]; exact h.2 _ (List.getElem_mem hi)), getD_atI hi, chk_pos (by omega), chk_pos (by omega)]
    rfl
  · rw [m110_l3, bif_decN (by omega)]⟩
theorem s110 : Sound Tryz.prog 110 g110 := sound_run (tt := tt) (Γ := Γ110) hT (ok_cons s179 ok_nil) hm (fn := Tryz.f110) Tryz.func110 (c := Tryz.f110.body.getD .skip) (by kernel_rfl) (by kernel_rfl) fun x hx => by
  obtain ⟨N, h⟩ := e110 x.1 hx
  exact ⟨T110 N, p110, noSem_ok _, tb110 N, (run110 N x.1).trans h⟩
def to_Cell (x : Val Y24) : Val Y33 := x
def to_Cell_pre (x : Val Y24) : Prop := Bd Y24 x
noncomputable def m24 (N : Nat) (v0 : Val Y24) : Option (Vals [i33]) := chk (to_AtomS_pre (v0.2 : List (Val Y101))) (some (((v0.1 : Int), ((to_AtomS (v0.2 : List (Val Y101))) : List (Val Y108))), ()))
def Γ24 : Gam := [(110, g110)]
theorem Γ24_110 : Gam.get Γ24 110 = some g110 := rfl
def tr24 : Nat → Tree := fun _ => .done
def lp24 : Nat → Nm := fun _ => ⟨[], [], false⟩
def jn24 : Nat → Option Jn := fun _ => none
def ex24 : Nat → Option Nm := fun _ => none
def rg24 : Nat → Option Nm := fun _ => none
theorem p24 : plansOk tr24 (Tryz.f24.body.getD .skip) = true := by kernel_rfl
def T24 (N : Nat) : Tab := { tr := tr24, lp := lp24, ex := ex24, rg := rg24, jn := jn24, fuel := N }
theorem T24_pins (N : Nat) : (T24 N).pins = false := rfl
theorem tb24 (N : Nat) : TbOk Tryz.prog (T24 N) := tb_none fun _ => rfl
theorem T24_tr (N : Nat) (i : Nat) : (T24 N).tr i = tr24 i := rfl
theorem T24_lp (N : Nat) (i : Nat) : (T24 N).lp i = lp24 i := rfl
theorem T24_ex (N : Nat) (i : Nat) : (T24 N).ex i = ex24 i := rfl
theorem T24_rg (N : Nat) (i : Nat) : (T24 N).rg i = rg24 i := rfl
theorem T24_jn (N : Nat) (i : Nat) : (T24 N).jn i = jn24 i := rfl
theorem T24_fuel (N : Nat) : (T24 N).fuel = N := rfl
theorem run24 (N : Nat) (v0 : Val Y24) : runT tt Γ24 (T24 N) (Tryz.f24.body.getD .skip) (retR tt true [i33] [.cell 2 33]) (entryP [i24] 12 (v0, ())) = m24 N v0 := by
  rw [m24]; unfold Tryz.f24
  simp (maxSteps := 10000000) -implicitDefEqProofs [T24_tr, tr24, T24_lp, lp24, T24_ex, ex24, T24_rg, rg24, T24_jn, jn24, T24_fuel, T24_pins, Γ24_110, g110]
  try rfl
def g24 : G := { ps := [i24], rs := [i33], dp := true, pre := fun x => to_Cell_pre x.1, fn := fun x => (to_Cell x.1, ()) }
theorem e24 (x : Val Y24) (h : to_Cell_pre x) : ∃ N, m24 N x = some (to_Cell x, ()) := ⟨0, by
  obtain ⟨s0, s1⟩ := h
  rw [m24, chk_pos (show to_AtomS_pre _ from s1)]
  rfl⟩
theorem s24 : Sound Tryz.prog 24 g24 := sound_run (tt := tt) (Γ := Γ24) hT (ok_cons s110 ok_nil) hm (fn := Tryz.f24) Tryz.func24 (c := Tryz.f24.body.getD .skip) (by kernel_rfl) (by kernel_rfl) fun x hx => by
  obtain ⟨N, h⟩ := e24 x.1 hx
  exact ⟨T24 N, p24, noSem_ok _, tb24 N, (run24 N x.1).trans h⟩
def to_CellS (x : List (Val Y24)) : List (Val Y33) := x
def to_CellS_pre (x : List (Val Y24)) : Prop := Bd (.slice 24 Y24) x
noncomputable def m123_l3 (N : Nat) (v1 : List (Val Y24)) (k0 : (List (Val Y33)) → Option (Vals [i48])) : Nat → Int → (List (Val Y33)) → Option (Vals [i48])
  | 0, _, _ => none
  | n + 1, v2, v3 => bif (decide (v2 < (v1.length : Int))) then (chk (0 ≤ v2 ∧ v2 < (v1.length : Int)) (chk (to_Cell_pre (v1.getD v2.toNat (dflt Y24))) (chk (0 ≤ v2 ∧ v2 < (v3.length : Int)) (chk (v2.toNat < v3.length) (m123_l3 N v1 k0 n (IntKind.i64.wrap (v2 + (1 : Int))) (v3.set v2.toNat (((to_Cell (v1.getD v2.toNat (dflt Y24))).1 : Int), ((to_Cell (v1.getD v2.toNat (dflt Y24))).2 : List (Val Y108))))))))) else (k0 v3)
noncomputable def m123 (N : Nat) (v0 : List (Val Y24)) : Option (Vals [i48]) := chk (0 ≤ (v0.length : Int) ∧ (v0.length : Int) ≤ (v0.length : Int) ∧ (v0.length : Int) ≤ 1048576) (m123_l3 N v0 (fun (v5 : List (Val Y33)) => some (v5, ())) N (0 : Int) (List.replicate (v0.length : Int).toNat (dflt Y33)))
def Γ123 : Gam := [(24, g24)]
theorem Γ123_24 : Gam.get Γ123 24 = some g24 := rfl
def nl123_3 : Nm := ⟨[true, false, false, true, true], [], false⟩
theorem nl123_3_zero : nl123_3.zero = false := rfl
theorem nl123_3_fix : nl123_3.fix = [] := rfl
theorem nl123_3_keep : nl123_3.keep = [true, false, false, true, true] := rfl
def nx123_0 : Nm := ⟨[false, false, false, true], [], false⟩
theorem nx123_0_zero : nx123_0.zero = false := rfl
theorem nx123_0_fix : nx123_0.fix = [] := rfl
theorem nx123_0_keep : nx123_0.keep = [false, false, false, true] := rfl
def tr123 : Nat → Tree := fun _ => .done
def lp123 : Nat → Nm := fun i => if i = 3 then nl123_3 else ⟨[], [], false⟩
def jn123 : Nat → Option Jn := fun _ => none
def ex123 : Nat → Option Nm := fun i => if i = 0 then some nx123_0 else none
def rg123 : Nat → Option Nm := fun _ => none
theorem p123 : plansOk tr123 (Tryz.f123.body.getD .skip) = true := by kernel_rfl
def T123 (N : Nat) : Tab := { tr := tr123, lp := lp123, ex := ex123, rg := rg123, jn := jn123, fuel := N }
theorem T123_pins (N : Nat) : (T123 N).pins = false := rfl
theorem tb123 (N : Nat) : TbOk Tryz.prog (T123 N) := tb_none fun _ => rfl
theorem T123_tr (N : Nat) (i : Nat) : (T123 N).tr i = tr123 i := rfl
theorem T123_lp (N : Nat) (i : Nat) : (T123 N).lp i = lp123 i := rfl
theorem T123_ex (N : Nat) (i : Nat) : (T123 N).ex i = ex123 i := rfl
theorem T123_rg (N : Nat) (i : Nat) : (T123 N).rg i = rg123 i := rfl
theorem T123_jn (N : Nat) (i : Nat) : (T123 N).jn i = jn123 i := rfl
theorem T123_fuel (N : Nat) : (T123 N).fuel = N := rfl
noncomputable def c123_3 : Code := cut [true, true, false, true, true, true] (Tryz.f123.body.getD .skip)
theorem c123_3_at {N : Nat} {Q : X → St → Option (Vals [i48])} {e : List LV} {h : List Blk} : runT tt Γ123 (T123 N) c123_3 Q ⟨e, h⟩ = runT tt Γ123 (T123 N) (cut [true, true, false, true, true, true] (Tryz.f123.body.getD .skip)) Q ⟨e, h⟩ := rfl
theorem r123_l3 (N : Nat) (v1 : List (Val Y24)) {k0 : (List (Val Y33)) → Option (Vals [i48])} {Q : X → St → Option (Vals [i48])} {c : Code} (hc : c = c123_3) (hret : ∀ st, Q .ret st = retS tt true [i48] [.tmp 2] st) (h0 : ∀ (v4 : List (Val Y33)), Q (.exit 0) ⟨[u, u, u, .one (.own 0), u, u, u, u, u, u, u, u, u, u, u, u, u, u, u, u, u, u, u], [.row 33 Y33 v4 true true 0]⟩ = k0 v4) : ∀ (n : Nat) (v2 : Int) (v3 : List (Val Y33)), loopR (runT tt Γ123 (T123 N) c) false nl123_3 Q n ⟨[.one (.sl 24 Y24 v1 1), u, u, .one (.own 0), .one (.int .i64 v2), u, u, u, u, u, u, u, u, u, u, u, u, u, u, u, u, u, u], [.row 33 Y33 v3 true true 0]⟩ = m123_l3 N v1 k0 n v2 v3 := by
  subst hc; intro n; induction n with
  | zero => intros; rfl
  | succ n ih =>
    intro v2 v3
    rw [loop_succ, c123_3_at, m123_l3]; unfold Tryz.f123
    simp (maxSteps := 10000000) -implicitDefEqProofs [T123_tr, tr123, T123_lp, lp123, T123_ex, ex123, T123_rg, rg123, T123_jn, jn123, T123_fuel, T123_pins, nl123_3_fix, nl123_3_keep, nl123_3_zero, nx123_0_fix, nx123_0_keep, nx123_0_zero, Γ123_24, g24, hret, h0, ih]
theorem run123 (N : Nat) (v0 : List (Val Y24)) : runT tt Γ123 (T123 N) (Tryz.f123.body.getD .skip) (retR tt true [i48] [.tmp 2]) (entryP [i40] 23 (v0, ())) = m123 N v0 := by
  unfold Tryz.f123
  simp (maxSteps := 10000000) -implicitDefEqProofs [T123_tr, tr123, T123_lp, lp123, T123_ex, ex123, T123_rg, rg123, T123_jn, jn123, T123_fuel, T123_pins, nl123_3_fix, nl123_3_keep, nl123_3_zero, nx123_0_fix, nx123_0_keep, nx123_0_zero, Γ123_24, g24]
  rewrite [r123_l3 (k0 := (fun (v5 : List (Val Y33)) => some (v5, ()))) N _ ?_ ?_ ?_]
  · rewrite [m123]; first | rfl | simp (maxSteps := 10000000) -implicitDefEqProofs []
  · rfl
  · intro; simp only [seqR_ret, blockR_ret, retR_ret, retX_ret]
  · intro v5; simp (maxSteps := 10000000) -implicitDefEqProofs [T123_tr, tr123, T123_lp, lp123, T123_ex, ex123, T123_rg, rg123, T123_jn, jn123, T123_fuel, T123_pins, nl123_3_fix, nl123_3_keep, nl123_3_zero, nx123_0_fix, nx123_0_keep, nx123_0_zero, Γ123_24, g24]
def g123 : G := { ps := [i40], rs := [i48], dp := true, pre := fun x => to_CellS_pre x.1, fn := fun x => (to_CellS x.1, ()) }
theorem e123 (x : List (Val Y24)) (h : to_CellS_pre x) : ∃ N, m123 N x = some (to_CellS x, ()) := ⟨List.length x + 1, by
  rw [m123, chk_pos (chk_len h.1), Int.toNat_natCast]
  refine copy_loop (F := fun n i s => m123_l3 _ x _ n i s) (k := fun s => some (s, ())) (dflt Y33) h.1 (fun n i s hi hl => ?_) (fun n i s hi => ?_) _ (Nat.lt_succ_self _)
  · rw [m123_l3, bif_dec (by omega), chk_pos (by omega), chk_pos (show to_Cell_pre _ from by rw [getD_atI hi]; exact h.2 _ (List.getElem_mem hi)), getD_atI hi, chk_pos (by omega), chk_pos (by omega)]
    rfl
  · rw [m123_l3, bif_decN (by omega)]⟩
theorem s123 : Sound Tryz.prog 123 g123 := sound_run (tt := tt) (Γ := Γ123) hT (ok_cons s24 ok_nil) hm (fn := Tryz.f123) Tryz.func123 (c := Tryz.f123.body.getD .skip) (by kernel_rfl) (by kernel_rfl) fun x hx => by
  obtain ⟨N, h⟩ := e123 x.1 hx
  exact ⟨T123 N, p123, noSem_ok _, tb123 N, (run123 N x.1).trans h⟩
def to_Region (x : Val Y42) : Val Y50 := x
def to_Region_pre (x : Val Y42) : Prop := Bd Y42 x
noncomputable def m33 (N : Nat) (v0 : Val Y42) : Option (Vals [i50]) := chk (to_CellS_pre (v0.2 : List (Val Y24))) (some (((v0.1 : Int), ((to_CellS (v0.2 : List (Val Y24))) : List (Val Y33))), ()))
def Γ33 : Gam := [(123, g123)]
theorem Γ33_123 : Gam.get Γ33 123 = some g123 := rfl
def tr33 : Nat → Tree := fun _ => .done
def lp33 : Nat → Nm := fun _ => ⟨[], [], false⟩
def jn33 : Nat → Option Jn := fun _ => none
def ex33 : Nat → Option Nm := fun _ => none
def rg33 : Nat → Option Nm := fun _ => none
theorem p33 : plansOk tr33 (Tryz.f33.body.getD .skip) = true := by kernel_rfl
def T33 (N : Nat) : Tab := { tr := tr33, lp := lp33, ex := ex33, rg := rg33, jn := jn33, fuel := N }
theorem T33_pins (N : Nat) : (T33 N).pins = false := rfl
theorem tb33 (N : Nat) : TbOk Tryz.prog (T33 N) := tb_none fun _ => rfl
theorem T33_tr (N : Nat) (i : Nat) : (T33 N).tr i = tr33 i := rfl
theorem T33_lp (N : Nat) (i : Nat) : (T33 N).lp i = lp33 i := rfl
theorem T33_ex (N : Nat) (i : Nat) : (T33 N).ex i = ex33 i := rfl
theorem T33_rg (N : Nat) (i : Nat) : (T33 N).rg i = rg33 i := rfl
theorem T33_jn (N : Nat) (i : Nat) : (T33 N).jn i = jn33 i := rfl
theorem T33_fuel (N : Nat) : (T33 N).fuel = N := rfl
theorem run33 (N : Nat) (v0 : Val Y42) : runT tt Γ33 (T33 N) (Tryz.f33.body.getD .skip) (retR tt true [i50] [.cell 2 50]) (entryP [i42] 12 (v0, ())) = m33 N v0 := by
  rw [m33]; unfold Tryz.f33
  simp (maxSteps := 10000000) -implicitDefEqProofs [T33_tr, tr33, T33_lp, lp33, T33_ex, ex33, T33_rg, rg33, T33_jn, jn33, T33_fuel, T33_pins, Γ33_123, g123]
  try rfl
def g33 : G := { ps := [i42], rs := [i50], dp := true, pre := fun x => to_Region_pre x.1, fn := fun x => (to_Region x.1, ()) }
theorem e33 (x : Val Y42) (h : to_Region_pre x) : ∃ N, m33 N x = some (to_Region x, ()) := ⟨0, by
  obtain ⟨s0, s1⟩ := h
  rw [m33, chk_pos (show to_CellS_pre _ from s1)]
  rfl⟩
theorem s33 : Sound Tryz.prog 33 g33 := sound_run (tt := tt) (Γ := Γ33) hT (ok_cons s123 ok_nil) hm (fn := Tryz.f33) Tryz.func33 (c := Tryz.f33.body.getD .skip) (by kernel_rfl) (by kernel_rfl) fun x hx => by
  obtain ⟨N, h⟩ := e33 x.1 hx
  exact ⟨T33 N, p33, noSem_ok _, tb33 N, (run33 N x.1).trans h⟩
def eq_IntS (x y : List (Val (.int .i64))) : Bool := eqV (.slice 3 (.int .i64)) x y
def eq_IntS_pre (x _ : List (Val (.int .i64))) : Prop := Bd (.slice 3 (.int .i64)) x
noncomputable def m29_l4 (N : Nat) (v2 : List (Val (.int .i64))) (v3 : List (Val (.int .i64))) (k0 : Unit → Option (Vals [i4])) : Nat → Int → Option (Vals [i4])
  | 0, _ => none
  | n + 1, v4 => bif (decide (v4 < (v2.length : Int))) then (chk (0 ≤ v4 ∧ v4 < (v2.length : Int)) (chk (0 ≤ v4 ∧ v4 < (v3.length : Int)) (bif (!(decide (((v2.getD v4.toNat (dflt (.int .i64))) : Int) = ((v3.getD v4.toNat (dflt (.int .i64))) : Int)))) then (some (false, ())) else (m29_l4 N v2 v3 k0 n (IntKind.i64.wrap (v4 + (1 : Int))))))) else (k0 ())
noncomputable def m29 (N : Nat) (v0 : List (Val (.int .i64))) (v1 : List (Val (.int .i64))) : Option (Vals [i4]) := bif (!(decide ((v0.length : Int) = (v1.length : Int)))) then (some (false, ())) else (m29_l4 N v0 v1 (fun (_ : Unit) => some (true, ())) N (0 : Int))
def Γ29 : Gam := []
def nl29_4 : Nm := ⟨[true, true, false, false, false, true], [], false⟩
theorem nl29_4_zero : nl29_4.zero = false := rfl
theorem nl29_4_fix : nl29_4.fix = [] := rfl
theorem nl29_4_keep : nl29_4.keep = [true, true, false, false, false, true] := rfl
def nx29_0 : Nm := ⟨[], [], false⟩
theorem nx29_0_zero : nx29_0.zero = false := rfl
theorem nx29_0_fix : nx29_0.fix = [] := rfl
theorem nx29_0_keep : nx29_0.keep = [] := rfl
def tr29 : Nat → Tree := fun i => if i = 6 then .quiet 0 (.quiet 1 (.quiet 2 (.quiet 3 (.quiet 4 (.quiet 5 (.quiet 6 (.quiet 7 (.quiet 8 .done)))))))) else .done
def lp29 : Nat → Nm := fun i => if i = 4 then nl29_4 else ⟨[], [], false⟩
def jn29 : Nat → Option Jn := fun _ => none
def ex29 : Nat → Option Nm := fun i => if i = 0 then some nx29_0 else none
def rg29 : Nat → Option Nm := fun _ => none
theorem p29 : plansOk tr29 (Tryz.f29.body.getD .skip) = true := by kernel_rfl
def T29 (N : Nat) : Tab := { tr := tr29, lp := lp29, ex := ex29, rg := rg29, jn := jn29, fuel := N }
theorem T29_pins (N : Nat) : (T29 N).pins = false := rfl
theorem tb29 (N : Nat) : TbOk Tryz.prog (T29 N) := tb_none fun _ => rfl
theorem T29_tr (N : Nat) (i : Nat) : (T29 N).tr i = tr29 i := rfl
theorem T29_lp (N : Nat) (i : Nat) : (T29 N).lp i = lp29 i := rfl
theorem T29_ex (N : Nat) (i : Nat) : (T29 N).ex i = ex29 i := rfl
theorem T29_rg (N : Nat) (i : Nat) : (T29 N).rg i = rg29 i := rfl
theorem T29_jn (N : Nat) (i : Nat) : (T29 N).jn i = jn29 i := rfl
theorem T29_fuel (N : Nat) : (T29 N).fuel = N := rfl
noncomputable def c29_4 : Code := cut [true, true, false, true, true, true] (Tryz.f29.body.getD .skip)
theorem c29_4_at {N : Nat} {Q : X → St → Option (Vals [i4])} {e : List LV} {h : List Blk} : runT tt Γ29 (T29 N) c29_4 Q ⟨e, h⟩ = runT tt Γ29 (T29 N) (cut [true, true, false, true, true, true] (Tryz.f29.body.getD .skip)) Q ⟨e, h⟩ := rfl
theorem r29_l4 (N : Nat) (v2 : List (Val (.int .i64))) (v3 : List (Val (.int .i64))) {k0 : Unit → Option (Vals [i4])} {Q : X → St → Option (Vals [i4])} {c : Code} (hc : c = c29_4) (hret : ∀ st, Q .ret st = retS tt true [i4] [.tmp 4] st) (h0 : Q (.exit 0) ⟨[u, u, u, u, u, u, u, u, u, u, u, u, u, u, u, u, u, u, u, u, u, u, u, u, u, u], []⟩ = k0 ()) : ∀ (n : Nat) (v4 : Int), loopR (runT tt Γ29 (T29 N) c) false nl29_4 Q n ⟨[.one (.sl 3 (.int .i64) v2 0), .one (.sl 3 (.int .i64) v3 0), u, u, u, .one (.int .i64 v4), u, u, u, u, u, u, u, u, u, u, u, u, u, u, u, u, u, u, u, u], []⟩ = m29_l4 N v2 v3 k0 n v4 := by
  subst hc; intro n; induction n with
  | zero => intros; rfl
  | succ n ih =>
    intro v4
    rw [loop_succ, c29_4_at, m29_l4]; unfold Tryz.f29
    simp (maxSteps := 10000000) -implicitDefEqProofs [T29_tr, tr29, T29_lp, lp29, T29_ex, ex29, T29_rg, rg29, T29_jn, jn29, T29_fuel, T29_pins, nl29_4_fix, nl29_4_keep, nl29_4_zero, nx29_0_fix, nx29_0_keep, nx29_0_zero, hret, h0, ih]
theorem run29 (N : Nat) (v0 : List (Val (.int .i64))) (v1 : List (Val (.int .i64))) : runT tt Γ29 (T29 N) (Tryz.f29.body.getD .skip) (retR tt true [i4] [.tmp 4]) (entryP [i25, i25] 26 (v0, v1, ())) = m29 N v0 v1 := by
  unfold Tryz.f29
  simp (maxSteps := 10000000) -implicitDefEqProofs [T29_tr, tr29, T29_lp, lp29, T29_ex, ex29, T29_rg, rg29, T29_jn, jn29, T29_fuel, T29_pins, nl29_4_fix, nl29_4_keep, nl29_4_zero, nx29_0_fix, nx29_0_keep, nx29_0_zero]
  rewrite [r29_l4 (k0 := (fun (_ : Unit) => some (true, ()))) N _ _ ?_ ?_ ?_]
  · rewrite [m29]; first | rfl | simp (maxSteps := 10000000) -implicitDefEqProofs []
  · rfl
  · intro; simp only [seqR_ret, blockR_ret, retR_ret, retX_ret]
  · simp (maxSteps := 10000000) -implicitDefEqProofs [T29_tr, tr29, T29_lp, lp29, T29_ex, ex29, T29_rg, rg29, T29_jn, jn29, T29_fuel, T29_pins, nl29_4_fix, nl29_4_keep, nl29_4_zero, nx29_0_fix, nx29_0_keep, nx29_0_zero]
def g29 : G := { ps := [i25, i25], rs := [i4], dp := true, pre := fun x => eq_IntS_pre x.1 x.2.1, fn := fun x => (eq_IntS x.1 x.2.1, ()) }
theorem e29 (x y : List (Val (.int .i64))) (h : eq_IntS_pre x y) : ∃ N, m29 N x y = some (eq_IntS x y, ()) := ⟨List.length x + 1, by
  rw [m29, bif_not]
  rw [eq_IntS, eqS]
  by_cases c : List.length x = List.length y
  · rw [bif_dec (by omega)]
    refine (eq_loop (f := eqV (.int .i64)) (xs := x) (ys := y) (F := fun n i => m29_l4 _ x y _ n i) (k := fun _ => some (true, ())) (r := some (false, ())) h.1 c (fun n i hi hi2 => ?_) (fun n i hi => ?_) _ (Nat.lt_succ_self _)).trans bif_some
    · rw [m29_l4, bif_dec (by omega), chk_pos (by omega), chk_pos (by omega), getD_atI hi, getD_atI hi2, bif_not]
      rfl
    · rw [m29_l4, bif_decN (by omega)]
  · rw [bif_decN (by omega), eqL_len _ _ c]⟩
theorem s29 : Sound Tryz.prog 29 g29 := sound_run (tt := tt) (Γ := Γ29) hT ok_nil hm (fn := Tryz.f29) Tryz.func29 (c := Tryz.f29.body.getD .skip) (by kernel_rfl) (by kernel_rfl) fun x hx => by
  obtain ⟨N, h⟩ := e29 x.1 x.2.1 hx
  exact ⟨T29 N, p29, noSem_ok _, tb29 N, (run29 N x.1 x.2.1).trans h⟩
def eq_Atom (x y : Val Y108) : Bool := eqV Y108 x y
def eq_Atom_pre (x _ : Val Y108) : Prop := Bd Y108 x
noncomputable def m183 (N : Nat) (v0 : Val Y108) (v1 : Val Y108) : Option (Vals [i4]) := chk (eq_IntS_pre (v0.1 : List (Val (.int .i64))) (v1.1 : List (Val (.int .i64)))) (bif (!((eq_IntS (v0.1 : List (Val (.int .i64))) (v1.1 : List (Val (.int .i64)))) : Bool)) then (some (false, ())) else (bif (!(decide ((v0.2.1 : Int) = (v1.2.1 : Int)))) then (some (false, ())) else (bif (!((v0.2.2 : Bool) == (v1.2.2 : Bool))) then (some (false, ())) else (some (true, ())))))
def Γ183 : Gam := [(29, g29)]
theorem Γ183_29 : Gam.get Γ183 29 = some g29 := rfl
def tr183 : Nat → Tree := fun _ => .done
def lp183 : Nat → Nm := fun _ => ⟨[], [], false⟩
def jn183 : Nat → Option Jn := fun _ => none
def ex183 : Nat → Option Nm := fun _ => none
def rg183 : Nat → Option Nm := fun _ => none
theorem p183 : plansOk tr183 (Tryz.f183.body.getD .skip) = true := by kernel_rfl
def T183 (N : Nat) : Tab := { tr := tr183, lp := lp183, ex := ex183, rg := rg183, jn := jn183, fuel := N }
theorem T183_pins (N : Nat) : (T183 N).pins = false := rfl
theorem tb183 (N : Nat) : TbOk Tryz.prog (T183 N) := tb_none fun _ => rfl
theorem T183_tr (N : Nat) (i : Nat) : (T183 N).tr i = tr183 i := rfl
theorem T183_lp (N : Nat) (i : Nat) : (T183 N).lp i = lp183 i := rfl
theorem T183_ex (N : Nat) (i : Nat) : (T183 N).ex i = ex183 i := rfl
theorem T183_rg (N : Nat) (i : Nat) : (T183 N).rg i = rg183 i := rfl
theorem T183_jn (N : Nat) (i : Nat) : (T183 N).jn i = jn183 i := rfl
theorem T183_fuel (N : Nat) : (T183 N).fuel = N := rfl
theorem run183 (N : Nat) (v0 : Val Y108) (v1 : Val Y108) : runT tt Γ183 (T183 N) (Tryz.f183.body.getD .skip) (retR tt true [i4] [.tmp 4]) (entryP [i108, i108] 21 (v0, v1, ())) = m183 N v0 v1 := by
  rw [m183]; unfold Tryz.f183
  simp (maxSteps := 10000000) -implicitDefEqProofs [T183_tr, tr183, T183_lp, lp183, T183_ex, ex183, T183_rg, rg183, T183_jn, jn183, T183_fuel, T183_pins, Γ183_29, g29]
  try rfl
def g183 : G := { ps := [i108, i108], rs := [i4], dp := true, pre := fun x => eq_Atom_pre x.1 x.2.1, fn := fun x => (eq_Atom x.1 x.2.1, ()) }
theorem e183 (x y : Val Y108) (h : eq_Atom_pre x y) : ∃ N, m183 N x y = some (eq_Atom x y, ()) := ⟨0, by
  obtain ⟨s0, s1, s2⟩ := h
  rw [m183, chk_pos (show eq_IntS_pre _ _ from s0)]
  obtain ⟨x0, x1, x2⟩ := x
  obtain ⟨y0, y1, y2⟩ := y
  change _ = some ((eqV (.slice 3 (.int .i64)) x0 y0 && (eqV (.int .i64) x1 y1 && eqV .bool x2 y2)), ())
  simp only [bif_not]
  show _ = _
  generalize he0 : eqV (.slice 3 (.int .i64)) x0 y0 = e0
  have hd0 : eq_IntS x0 y0 = e0 := he0
  generalize he1 : eqV (.int .i64) x1 y1 = e1
  have hd1 : decide ((x1 : Int) = y1) = e1 := he1
  generalize he2 : eqV .bool x2 y2 = e2
  have hd2 : ((x2 : Bool) == y2) = e2 := he2
  simp only [hd0, hd1, hd2]
  cases e0 <;> cases e1 <;> cases e2 <;> rfl⟩
theorem s183 : Sound Tryz.prog 183 g183 := sound_run (tt := tt) (Γ := Γ183) hT (ok_cons s29 ok_nil) hm (fn := Tryz.f183) Tryz.func183 (c := Tryz.f183.body.getD .skip) (by kernel_rfl) (by kernel_rfl) fun x hx => by
  obtain ⟨N, h⟩ := e183 x.1 x.2.1 hx
  exact ⟨T183 N, p183, noSem_ok _, tb183 N, (run183 N x.1 x.2.1).trans h⟩
def eq_AtomS (x y : List (Val Y108)) : Bool := eqV (.slice 108 Y108) x y
def eq_AtomS_pre (x _ : List (Val Y108)) : Prop := Bd (.slice 108 Y108) x
noncomputable def m115_l4 (N : Nat) (v2 : List (Val Y108)) (v3 : List (Val Y108)) (k0 : Unit → Option (Vals [i4])) : Nat → Int → Option (Vals [i4])
  | 0, _ => none
  | n + 1, v4 => bif (decide (v4 < (v2.length : Int))) then (chk (0 ≤ v4 ∧ v4 < (v2.length : Int)) (chk (0 ≤ v4 ∧ v4 < (v3.length : Int)) (chk (eq_Atom_pre (v2.getD v4.toNat (dflt Y108)) (v3.getD v4.toNat (dflt Y108))) (bif (!((eq_Atom (v2.getD v4.toNat (dflt Y108)) (v3.getD v4.toNat (dflt Y108))) : Bool)) then (some (false, ())) else (m115_l4 N v2 v3 k0 n (IntKind.i64.wrap (v4 + (1 : Int)))))))) else (k0 ())
noncomputable def m115 (N : Nat) (v0 : List (Val Y108)) (v1 : List (Val Y108)) : Option (Vals [i4]) := bif (!(decide ((v0.length : Int) = (v1.length : Int)))) then (some (false, ())) else (m115_l4 N v0 v1 (fun (_ : Unit) => some (true, ())) N (0 : Int))
def Γ115 : Gam := [(183, g183)]
theorem Γ115_183 : Gam.get Γ115 183 = some g183 := rfl
def nl115_4 : Nm := ⟨[true, true, false, false, false, true], [], false⟩
theorem nl115_4_zero : nl115_4.zero = false := rfl
theorem nl115_4_fix : nl115_4.fix = [] := rfl
theorem nl115_4_keep : nl115_4.keep = [true, true, false, false, false, true] := rfl
def nx115_0 : Nm := ⟨[], [], false⟩
theorem nx115_0_zero : nx115_0.zero = false := rfl
theorem nx115_0_fix : nx115_0.fix = [] := rfl
theorem nx115_0_keep : nx115_0.keep = [] := rfl
def tr115 : Nat → Tree := fun i => if i = 6 then .quiet 0 (.quiet 1 (.quiet 2 (.quiet 3 (.quiet 4 (.quiet 5 (.quiet 6 (.quiet 7 (.alt 8 (.quiet 9 .done) .stop)))))))) else .done
def lp115 : Nat → Nm := fun i => if i = 4 then nl115_4 else ⟨[], [], false⟩
def jn115 : Nat → Option Jn := fun _ => none
def ex115 : Nat → Option Nm := fun i => if i = 0 then some nx115_0 else none
def rg115 : Nat → Option Nm := fun _ => none
theorem p115 : plansOk tr115 (Tryz.f115.body.getD .skip) = true := by kernel_rfl
def T115 (N : Nat) : Tab := { tr := tr115, lp := lp115, ex := ex115, rg := rg115, jn := jn115, fuel := N }
theorem T115_pins (N : Nat) : (T115 N).pins = false := rfl
theorem tb115 (N : Nat) : TbOk Tryz.prog (T115 N) := tb_none fun _ => rfl
theorem T115_tr (N : Nat) (i : Nat) : (T115 N).tr i = tr115 i := rfl
theorem T115_lp (N : Nat) (i : Nat) : (T115 N).lp i = lp115 i := rfl
theorem T115_ex (N : Nat) (i : Nat) : (T115 N).ex i = ex115 i := rfl
theorem T115_rg (N : Nat) (i : Nat) : (T115 N).rg i = rg115 i := rfl
theorem T115_jn (N : Nat) (i : Nat) : (T115 N).jn i = jn115 i := rfl
theorem T115_fuel (N : Nat) : (T115 N).fuel = N := rfl
noncomputable def c115_4 : Code := cut [true, true, false, true, true, true] (Tryz.f115.body.getD .skip)
theorem c115_4_at {N : Nat} {Q : X → St → Option (Vals [i4])} {e : List LV} {h : List Blk} : runT tt Γ115 (T115 N) c115_4 Q ⟨e, h⟩ = runT tt Γ115 (T115 N) (cut [true, true, false, true, true, true] (Tryz.f115.body.getD .skip)) Q ⟨e, h⟩ := rfl
theorem r115_l4 (N : Nat) (v2 : List (Val Y108)) (v3 : List (Val Y108)) {k0 : Unit → Option (Vals [i4])} {Q : X → St → Option (Vals [i4])} {c : Code} (hc : c = c115_4) (hret : ∀ st, Q .ret st = retS tt true [i4] [.tmp 4] st) (h0 : Q (.exit 0) ⟨[u, u, u, u, u, u, u, u, u, u, u, u, u, u, u, u, u, u, u, u, u, u, u, u, u, u, u], []⟩ = k0 ()) : ∀ (n : Nat) (v4 : Int), loopR (runT tt Γ115 (T115 N) c) false nl115_4 Q n ⟨[.one (.sl 108 Y108 v2 0), .one (.sl 108 Y108 v3 0), u, u, u, .one (.int .i64 v4), u, u, u, u, u, u, u, u, u, u, u, u, u, u, u, u, u, u, u, u, u], []⟩ = m115_l4 N v2 v3 k0 n v4 := by
  subst hc; intro n; induction n with
  | zero => intros; rfl
  | succ n ih =>
    intro v4
    rw [loop_succ, c115_4_at, m115_l4]; unfold Tryz.f115
    simp (maxSteps := 10000000) -implicitDefEqProofs [T115_tr, tr115, T115_lp, lp115, T115_ex, ex115, T115_rg, rg115, T115_jn, jn115, T115_fuel, T115_pins, nl115_4_fix, nl115_4_keep, nl115_4_zero, nx115_0_fix, nx115_0_keep, nx115_0_zero, Γ115_183, g183, hret, h0, ih]
theorem run115 (N : Nat) (v0 : List (Val Y108)) (v1 : List (Val Y108)) : runT tt Γ115 (T115 N) (Tryz.f115.body.getD .skip) (retR tt true [i4] [.tmp 4]) (entryP [i31, i31] 27 (v0, v1, ())) = m115 N v0 v1 := by
  unfold Tryz.f115
  simp (maxSteps := 10000000) -implicitDefEqProofs [T115_tr, tr115, T115_lp, lp115, T115_ex, ex115, T115_rg, rg115, T115_jn, jn115, T115_fuel, T115_pins, nl115_4_fix, nl115_4_keep, nl115_4_zero, nx115_0_fix, nx115_0_keep, nx115_0_zero, Γ115_183, g183]
  rewrite [r115_l4 (k0 := (fun (_ : Unit) => some (true, ()))) N _ _ ?_ ?_ ?_]
  · rewrite [m115]; first | rfl | simp (maxSteps := 10000000) -implicitDefEqProofs []
  · rfl
  · intro; simp only [seqR_ret, blockR_ret, retR_ret, retX_ret]
  · simp (maxSteps := 10000000) -implicitDefEqProofs [T115_tr, tr115, T115_lp, lp115, T115_ex, ex115, T115_rg, rg115, T115_jn, jn115, T115_fuel, T115_pins, nl115_4_fix, nl115_4_keep, nl115_4_zero, nx115_0_fix, nx115_0_keep, nx115_0_zero, Γ115_183, g183]
def g115 : G := { ps := [i31, i31], rs := [i4], dp := true, pre := fun x => eq_AtomS_pre x.1 x.2.1, fn := fun x => (eq_AtomS x.1 x.2.1, ()) }
theorem e115 (x y : List (Val Y108)) (h : eq_AtomS_pre x y) : ∃ N, m115 N x y = some (eq_AtomS x y, ()) := ⟨List.length x + 1, by
  rw [m115, bif_not]
  rw [eq_AtomS, eqS]
  by_cases c : List.length x = List.length y
  · rw [bif_dec (by omega)]
    refine (eq_loop (f := eqV Y108) (xs := x) (ys := y) (F := fun n i => m115_l4 _ x y _ n i) (k := fun _ => some (true, ())) (r := some (false, ())) h.1 c (fun n i hi hi2 => ?_) (fun n i hi => ?_) _ (Nat.lt_succ_self _)).trans bif_some
    · rw [m115_l4, bif_dec (by omega), chk_pos (by omega), chk_pos (by omega), chk_pos (show eq_Atom_pre _ _ from by rw [getD_atI hi]; exact h.2 _ (List.getElem_mem hi)), getD_atI hi, getD_atI hi2, bif_not]
      rfl
    · rw [m115_l4, bif_decN (by omega)]
  · rw [bif_decN (by omega), eqL_len _ _ c]⟩
theorem s115 : Sound Tryz.prog 115 g115 := sound_run (tt := tt) (Γ := Γ115) hT (ok_cons s183 ok_nil) hm (fn := Tryz.f115) Tryz.func115 (c := Tryz.f115.body.getD .skip) (by kernel_rfl) (by kernel_rfl) fun x hx => by
  obtain ⟨N, h⟩ := e115 x.1 x.2.1 hx
  exact ⟨T115 N, p115, noSem_ok _, tb115 N, (run115 N x.1 x.2.1).trans h⟩
def eq_Cell (x y : Val Y33) : Bool := eqV Y33 x y
def eq_Cell_pre (x _ : Val Y33) : Prop := Bd Y33 x
noncomputable def m28 (N : Nat) (v0 : Val Y33) (v1 : Val Y33) : Option (Vals [i4]) := bif (!(decide ((v0.1 : Int) = (v1.1 : Int)))) then (some (false, ())) else (chk (eq_AtomS_pre (v0.2 : List (Val Y108)) (v1.2 : List (Val Y108))) (bif (!((eq_AtomS (v0.2 : List (Val Y108)) (v1.2 : List (Val Y108))) : Bool)) then (some (false, ())) else (some (true, ()))))
def Γ28 : Gam := [(115, g115)]
theorem Γ28_115 : Gam.get Γ28 115 = some g115 := rfl
def tr28 : Nat → Tree := fun _ => .done
def lp28 : Nat → Nm := fun _ => ⟨[], [], false⟩
def jn28 : Nat → Option Jn := fun _ => none
def ex28 : Nat → Option Nm := fun _ => none
def rg28 : Nat → Option Nm := fun _ => none
theorem p28 : plansOk tr28 (Tryz.f28.body.getD .skip) = true := by kernel_rfl
def T28 (N : Nat) : Tab := { tr := tr28, lp := lp28, ex := ex28, rg := rg28, jn := jn28, fuel := N }
theorem T28_pins (N : Nat) : (T28 N).pins = false := rfl
theorem tb28 (N : Nat) : TbOk Tryz.prog (T28 N) := tb_none fun _ => rfl
theorem T28_tr (N : Nat) (i : Nat) : (T28 N).tr i = tr28 i := rfl
theorem T28_lp (N : Nat) (i : Nat) : (T28 N).lp i = lp28 i := rfl
theorem T28_ex (N : Nat) (i : Nat) : (T28 N).ex i = ex28 i := rfl
theorem T28_rg (N : Nat) (i : Nat) : (T28 N).rg i = rg28 i := rfl
theorem T28_jn (N : Nat) (i : Nat) : (T28 N).jn i = jn28 i := rfl
theorem T28_fuel (N : Nat) : (T28 N).fuel = N := rfl
theorem run28 (N : Nat) (v0 : Val Y33) (v1 : Val Y33) : runT tt Γ28 (T28 N) (Tryz.f28.body.getD .skip) (retR tt true [i4] [.tmp 4]) (entryP [i33, i33] 16 (v0, v1, ())) = m28 N v0 v1 := by
  rw [m28]; unfold Tryz.f28
  simp (maxSteps := 10000000) -implicitDefEqProofs [T28_tr, tr28, T28_lp, lp28, T28_ex, ex28, T28_rg, rg28, T28_jn, jn28, T28_fuel, T28_pins, Γ28_115, g115]
  try rfl
def g28 : G := { ps := [i33, i33], rs := [i4], dp := true, pre := fun x => eq_Cell_pre x.1 x.2.1, fn := fun x => (eq_Cell x.1 x.2.1, ()) }
theorem e28 (x y : Val Y33) (h : eq_Cell_pre x y) : ∃ N, m28 N x y = some (eq_Cell x y, ()) := ⟨0, by
  obtain ⟨s0, s1⟩ := h
  rw [m28, chk_pos (show eq_AtomS_pre _ _ from s1)]
  obtain ⟨x0, x1⟩ := x
  obtain ⟨y0, y1⟩ := y
  change _ = some ((eqV (.int .i64) x0 y0 && eqV (.slice 108 Y108) x1 y1), ())
  simp only [bif_not]
  show _ = _
  generalize he0 : eqV (.int .i64) x0 y0 = e0
  have hd0 : decide ((x0 : Int) = y0) = e0 := he0
  generalize he1 : eqV (.slice 108 Y108) x1 y1 = e1
  have hd1 : eq_AtomS x1 y1 = e1 := he1
  simp only [hd0, hd1]
  cases e0 <;> cases e1 <;> rfl⟩
theorem s28 : Sound Tryz.prog 28 g28 := sound_run (tt := tt) (Γ := Γ28) hT (ok_cons s115 ok_nil) hm (fn := Tryz.f28) Tryz.func28 (c := Tryz.f28.body.getD .skip) (by kernel_rfl) (by kernel_rfl) fun x hx => by
  obtain ⟨N, h⟩ := e28 x.1 x.2.1 hx
  exact ⟨T28 N, p28, noSem_ok _, tb28 N, (run28 N x.1 x.2.1).trans h⟩
def eq_CellS (x y : List (Val Y33)) : Bool := eqV (.slice 33 Y33) x y
def eq_CellS_pre (x _ : List (Val Y33)) : Prop := Bd (.slice 33 Y33) x
noncomputable def m128_l4 (N : Nat) (v2 : List (Val Y33)) (v3 : List (Val Y33)) (k0 : Unit → Option (Vals [i4])) : Nat → Int → Option (Vals [i4])
  | 0, _ => none
  | n + 1, v4 => bif (decide (v4 < (v2.length : Int))) then (chk (0 ≤ v4 ∧ v4 < (v2.length : Int)) (chk (0 ≤ v4 ∧ v4 < (v3.length : Int)) (chk (eq_Cell_pre (v2.getD v4.toNat (dflt Y33)) (v3.getD v4.toNat (dflt Y33))) (bif (!((eq_Cell (v2.getD v4.toNat (dflt Y33)) (v3.getD v4.toNat (dflt Y33))) : Bool)) then (some (false, ())) else (m128_l4 N v2 v3 k0 n (IntKind.i64.wrap (v4 + (1 : Int)))))))) else (k0 ())
noncomputable def m128 (N : Nat) (v0 : List (Val Y33)) (v1 : List (Val Y33)) : Option (Vals [i4]) := bif (!(decide ((v0.length : Int) = (v1.length : Int)))) then (some (false, ())) else (m128_l4 N v0 v1 (fun (_ : Unit) => some (true, ())) N (0 : Int))
def Γ128 : Gam := [(28, g28)]
theorem Γ128_28 : Gam.get Γ128 28 = some g28 := rfl
def nl128_4 : Nm := ⟨[true, true, false, false, false, true], [], false⟩
theorem nl128_4_zero : nl128_4.zero = false := rfl
theorem nl128_4_fix : nl128_4.fix = [] := rfl
theorem nl128_4_keep : nl128_4.keep = [true, true, false, false, false, true] := rfl
def nx128_0 : Nm := ⟨[], [], false⟩
theorem nx128_0_zero : nx128_0.zero = false := rfl
theorem nx128_0_fix : nx128_0.fix = [] := rfl
theorem nx128_0_keep : nx128_0.keep = [] := rfl
def tr128 : Nat → Tree := fun i => if i = 6 then .quiet 0 (.quiet 1 (.quiet 2 (.quiet 3 (.quiet 4 (.quiet 5 (.quiet 6 (.quiet 7 (.alt 8 (.quiet 9 .done) .stop)))))))) else .done
def lp128 : Nat → Nm := fun i => if i = 4 then nl128_4 else ⟨[], [], false⟩
def jn128 : Nat → Option Jn := fun _ => none
def ex128 : Nat → Option Nm := fun i => if i = 0 then some nx128_0 else none
def rg128 : Nat → Option Nm := fun _ => none
theorem p128 : plansOk tr128 (Tryz.f128.body.getD .skip) = true := by kernel_rfl
def T128 (N : Nat) : Tab := { tr := tr128, lp := lp128, ex := ex128, rg := rg128, jn := jn128, fuel := N }
theorem T128_pins (N : Nat) : (T128 N).pins = false := rfl
theorem tb128 (N : Nat) : TbOk Tryz.prog (T128 N) := tb_none fun _ => rfl
theorem T128_tr (N : Nat) (i : Nat) : (T128 N).tr i = tr128 i := rfl
theorem T128_lp (N : Nat) (i : Nat) : (T128 N).lp i = lp128 i := rfl
theorem T128_ex (N : Nat) (i : Nat) : (T128 N).ex i = ex128 i := rfl
theorem T128_rg (N : Nat) (i : Nat) : (T128 N).rg i = rg128 i := rfl
theorem T128_jn (N : Nat) (i : Nat) : (T128 N).jn i = jn128 i := rfl
theorem T128_fuel (N : Nat) : (T128 N).fuel = N := rfl
noncomputable def c128_4 : Code := cut [true, true, false, true, true, true] (Tryz.f128.body.getD .skip)
theorem c128_4_at {N : Nat} {Q : X → St → Option (Vals [i4])} {e : List LV} {h : List Blk} : runT tt Γ128 (T128 N) c128_4 Q ⟨e, h⟩ = runT tt Γ128 (T128 N) (cut [true, true, false, true, true, true] (Tryz.f128.body.getD .skip)) Q ⟨e, h⟩ := rfl
theorem r128_l4 (N : Nat) (v2 : List (Val Y33)) (v3 : List (Val Y33)) {k0 : Unit → Option (Vals [i4])} {Q : X → St → Option (Vals [i4])} {c : Code} (hc : c = c128_4) (hret : ∀ st, Q .ret st = retS tt true [i4] [.tmp 4] st) (h0 : Q (.exit 0) ⟨[u, u, u, u, u, u, u, u, u, u, u, u, u, u, u, u, u, u, u, u, u, u, u, u, u, u, u], []⟩ = k0 ()) : ∀ (n : Nat) (v4 : Int), loopR (runT tt Γ128 (T128 N) c) false nl128_4 Q n ⟨[.one (.sl 33 Y33 v2 0), .one (.sl 33 Y33 v3 0), u, u, u, .one (.int .i64 v4), u, u, u, u, u, u, u, u, u, u, u, u, u, u, u, u, u, u, u, u, u], []⟩ = m128_l4 N v2 v3 k0 n v4 := by
  subst hc; intro n; induction n with
  | zero => intros; rfl
  | succ n ih =>
    intro v4
    rw [loop_succ, c128_4_at, m128_l4]; unfold Tryz.f128
    simp (maxSteps := 10000000) -implicitDefEqProofs [T128_tr, tr128, T128_lp, lp128, T128_ex, ex128, T128_rg, rg128, T128_jn, jn128, T128_fuel, T128_pins, nl128_4_fix, nl128_4_keep, nl128_4_zero, nx128_0_fix, nx128_0_keep, nx128_0_zero, Γ128_28, g28, hret, h0, ih]
theorem run128 (N : Nat) (v0 : List (Val Y33)) (v1 : List (Val Y33)) : runT tt Γ128 (T128 N) (Tryz.f128.body.getD .skip) (retR tt true [i4] [.tmp 4]) (entryP [i48, i48] 27 (v0, v1, ())) = m128 N v0 v1 := by
  unfold Tryz.f128
  simp (maxSteps := 10000000) -implicitDefEqProofs [T128_tr, tr128, T128_lp, lp128, T128_ex, ex128, T128_rg, rg128, T128_jn, jn128, T128_fuel, T128_pins, nl128_4_fix, nl128_4_keep, nl128_4_zero, nx128_0_fix, nx128_0_keep, nx128_0_zero, Γ128_28, g28]
  rewrite [r128_l4 (k0 := (fun (_ : Unit) => some (true, ()))) N _ _ ?_ ?_ ?_]
  · rewrite [m128]; first | rfl | simp (maxSteps := 10000000) -implicitDefEqProofs []
  · rfl
  · intro; simp only [seqR_ret, blockR_ret, retR_ret, retX_ret]
  · simp (maxSteps := 10000000) -implicitDefEqProofs [T128_tr, tr128, T128_lp, lp128, T128_ex, ex128, T128_rg, rg128, T128_jn, jn128, T128_fuel, T128_pins, nl128_4_fix, nl128_4_keep, nl128_4_zero, nx128_0_fix, nx128_0_keep, nx128_0_zero, Γ128_28, g28]
def g128 : G := { ps := [i48, i48], rs := [i4], dp := true, pre := fun x => eq_CellS_pre x.1 x.2.1, fn := fun x => (eq_CellS x.1 x.2.1, ()) }
theorem e128 (x y : List (Val Y33)) (h : eq_CellS_pre x y) : ∃ N, m128 N x y = some (eq_CellS x y, ()) := ⟨List.length x + 1, by
  rw [m128, bif_not]
  rw [eq_CellS, eqS]
  by_cases c : List.length x = List.length y
  · rw [bif_dec (by omega)]
    refine (eq_loop (f := eqV Y33) (xs := x) (ys := y) (F := fun n i => m128_l4 _ x y _ n i) (k := fun _ => some (true, ())) (r := some (false, ())) h.1 c (fun n i hi hi2 => ?_) (fun n i hi => ?_) _ (Nat.lt_succ_self _)).trans bif_some
    · rw [m128_l4, bif_dec (by omega), chk_pos (by omega), chk_pos (by omega), chk_pos (show eq_Cell_pre _ _ from by rw [getD_atI hi]; exact h.2 _ (List.getElem_mem hi)), getD_atI hi, getD_atI hi2, bif_not]
      rfl
    · rw [m128_l4, bif_decN (by omega)]
  · rw [bif_decN (by omega), eqL_len _ _ c]⟩
theorem s128 : Sound Tryz.prog 128 g128 := sound_run (tt := tt) (Γ := Γ128) hT (ok_cons s28 ok_nil) hm (fn := Tryz.f128) Tryz.func128 (c := Tryz.f128.body.getD .skip) (by kernel_rfl) (by kernel_rfl) fun x hx => by
  obtain ⟨N, h⟩ := e128 x.1 x.2.1 hx
  exact ⟨T128 N, p128, noSem_ok _, tb128 N, (run128 N x.1 x.2.1).trans h⟩
def eq_Region (x y : Val Y50) : Bool := eqV Y50 x y
def eq_Region_pre (x _ : Val Y50) : Prop := Bd Y50 x
noncomputable def m36 (N : Nat) (v0 : Val Y50) (v1 : Val Y50) : Option (Vals [i4]) := bif (!(decide ((v0.1 : Int) = (v1.1 : Int)))) then (some (false, ())) else (chk (eq_CellS_pre (v0.2 : List (Val Y33)) (v1.2 : List (Val Y33))) (bif (!((eq_CellS (v0.2 : List (Val Y33)) (v1.2 : List (Val Y33))) : Bool)) then (some (false, ())) else (some (true, ()))))
def Γ36 : Gam := [(128, g128)]
theorem Γ36_128 : Gam.get Γ36 128 = some g128 := rfl
def tr36 : Nat → Tree := fun _ => .done
def lp36 : Nat → Nm := fun _ => ⟨[], [], false⟩
def jn36 : Nat → Option Jn := fun _ => none
def ex36 : Nat → Option Nm := fun _ => none
def rg36 : Nat → Option Nm := fun _ => none
theorem p36 : plansOk tr36 (Tryz.f36.body.getD .skip) = true := by kernel_rfl
def T36 (N : Nat) : Tab := { tr := tr36, lp := lp36, ex := ex36, rg := rg36, jn := jn36, fuel := N }
theorem T36_pins (N : Nat) : (T36 N).pins = false := rfl
theorem tb36 (N : Nat) : TbOk Tryz.prog (T36 N) := tb_none fun _ => rfl
theorem T36_tr (N : Nat) (i : Nat) : (T36 N).tr i = tr36 i := rfl
theorem T36_lp (N : Nat) (i : Nat) : (T36 N).lp i = lp36 i := rfl
theorem T36_ex (N : Nat) (i : Nat) : (T36 N).ex i = ex36 i := rfl
theorem T36_rg (N : Nat) (i : Nat) : (T36 N).rg i = rg36 i := rfl
theorem T36_jn (N : Nat) (i : Nat) : (T36 N).jn i = jn36 i := rfl
theorem T36_fuel (N : Nat) : (T36 N).fuel = N := rfl
theorem run36 (N : Nat) (v0 : Val Y50) (v1 : Val Y50) : runT tt Γ36 (T36 N) (Tryz.f36.body.getD .skip) (retR tt true [i4] [.tmp 4]) (entryP [i50, i50] 16 (v0, v1, ())) = m36 N v0 v1 := by
  rw [m36]; unfold Tryz.f36
  simp (maxSteps := 10000000) -implicitDefEqProofs [T36_tr, tr36, T36_lp, lp36, T36_ex, ex36, T36_rg, rg36, T36_jn, jn36, T36_fuel, T36_pins, Γ36_128, g128]
  try rfl
def g36 : G := { ps := [i50, i50], rs := [i4], dp := true, pre := fun x => eq_Region_pre x.1 x.2.1, fn := fun x => (eq_Region x.1 x.2.1, ()) }
theorem e36 (x y : Val Y50) (h : eq_Region_pre x y) : ∃ N, m36 N x y = some (eq_Region x y, ()) := ⟨0, by
  obtain ⟨s0, s1⟩ := h
  rw [m36, chk_pos (show eq_CellS_pre _ _ from s1)]
  obtain ⟨x0, x1⟩ := x
  obtain ⟨y0, y1⟩ := y
  change _ = some ((eqV (.int .i64) x0 y0 && eqV (.slice 33 Y33) x1 y1), ())
  simp only [bif_not]
  show _ = _
  generalize he0 : eqV (.int .i64) x0 y0 = e0
  have hd0 : decide ((x0 : Int) = y0) = e0 := he0
  generalize he1 : eqV (.slice 33 Y33) x1 y1 = e1
  have hd1 : eq_CellS x1 y1 = e1 := he1
  simp only [hd0, hd1]
  cases e0 <;> cases e1 <;> rfl⟩
theorem s36 : Sound Tryz.prog 36 g36 := sound_run (tt := tt) (Γ := Γ36) hT (ok_cons s128 ok_nil) hm (fn := Tryz.f36) Tryz.func36 (c := Tryz.f36.body.getD .skip) (by kernel_rfl) (by kernel_rfl) fun x hx => by
  obtain ⟨N, h⟩ := e36 x.1 x.2.1 hx
  exact ⟨T36 N, p36, noSem_ok _, tb36 N, (run36 N x.1 x.2.1).trans h⟩
end Go.T
