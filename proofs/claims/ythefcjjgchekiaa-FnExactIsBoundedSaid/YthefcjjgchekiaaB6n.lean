/- Negated atoms. -/
import Derived.Test.YthefcjjgchekiaaB1
set_option linter.unusedSimpArgs false
set_option linter.unusedVariables false
namespace Go.T
open Go Go.Proofs
set_option maxHeartbeats 4000000
set_option maxRecDepth 100000
def negV (a : Val Y36) : Val Y36 × Bool := bif isAtom a then ((List.map (α := Int) (fun x => -x) a.1, (-(a.2.1 : Int), !a.2.2)), true) else (([], ((0 : Int), false)), false)
def negV_pre (a : Val Y36) : Prop := idA_pre a
def g31 : G := { ps := [i36], rs := [i36, i4], dp := true, pre := fun _ => True, fn := fun x => ((negV x.1).1, (negV x.1).2, ()) }
def g26 : G := { ps := [i36], rs := [i36, i4], dp := true, pre := fun x => negV_pre x.1, fn := fun x => ((negV x.1).1, (negV x.1).2, ()) }
-- impl.NegateAtom
noncomputable def m31_l5 (N : Nat) (v1 : List (Val (.int .i64))) (v2 : Int) (v4 : Int) (v5 : Bool) (v6 : Int) (v7 : Bool) (k0 : (List (Val (.int .i64))) → Option (Vals [i36, i4])) : Nat → Int → (List (Val (.int .i64))) → Option (Vals [i36, i4])
  | 0, _, _ => none
  | n + 1, v3, v8 => bif (decide (v3 < v2)) then (chk (0 ≤ v3 ∧ v3 < (v1.length : Int)) (chk (0 ≤ v3 ∧ v3 < (v8.length : Int)) (chk (v3.toNat < v8.length) (m31_l5 N v1 v2 v4 v5 v6 v7 k0 n (IntKind.i64.wrap (v3 + (1 : Int))) (v8.set v3.toNat (IntKind.i64.wrap (0 - ((v1.getD v3.toNat (dflt (.int .i64))) : Int)))))))) else (k0 v8)
noncomputable def m31 (N : Nat) (v0 : Val Y36) : Option (Vals [i36, i4]) := bif (!((isAtom v0) : Bool)) then (some ((([] : List (Val (.int .i64))), (0 : Int), false), false, ())) else (chk (0 ≤ ((v0.1 : List (Val (.int .i64))).length : Int) ∧ ((v0.1 : List (Val (.int .i64))).length : Int) ≤ ((v0.1 : List (Val (.int .i64))).length : Int) ∧ ((v0.1 : List (Val (.int .i64))).length : Int) ≤ 1048576) (m31_l5 N (v0.1 : List (Val (.int .i64))) ((v0.1 : List (Val (.int .i64))).length : Int) (0 : Int) false (IntKind.i64.wrap (0 - (v0.2.1 : Int))) (!(v0.2.2 : Bool)) (fun (v10 : List (Val (.int .i64))) => some ((v10, (IntKind.i64.wrap (0 - (v0.2.1 : Int))), (!(v0.2.2 : Bool))), true, ())) N (0 : Int) (List.replicate ((v0.1 : List (Val (.int .i64))).length : Int).toNat (dflt (.int .i64)))))
def Γ31 : Gam := [(45, g45)]
theorem Γ31_45 : Gam.get Γ31 45 = some g45 := rfl
def nl31_5 : Nm := ⟨[false, false, true, false, true, false, false, false, false, false, false, false, false, false, false, false, false, false, false, false, false, false, false, true, true, true], []⟩
theorem nl31_5_fix : nl31_5.fix = [] := rfl
theorem nl31_5_keep : nl31_5.keep = [false, false, true, false, true, false, false, false, false, false, false, false, false, false, false, false, false, false, false, false, false, false, false, true, true, true] := rfl
def nx31_0 : Nm := ⟨[false, false, true, false, true], []⟩
theorem nx31_0_fix : nx31_0.fix = [] := rfl
theorem nx31_0_keep : nx31_0.keep = [false, false, true, false, true] := rfl
def nr31_3 : Nm := ⟨[false, true, true, false, true], []⟩
theorem nr31_3_fix : nr31_3.fix = [] := rfl
theorem nr31_3_keep : nr31_3.keep = [false, true, true, false, true] := rfl
def tr31 : Nat → Tree := fun i => if i = 3 then .grow 0 (.grow 1 (.grow 2 (.grow 4 (.grow 5 (.first 6 (.grow 7 (.grow 8 (.first 9 (.alt 3 (.first 10 (.alt 11 (.alt 12 .done .stop) .stop)) (.alt 11 (.alt 3 (.quiet 10 (.alt 12 .done .stop)) .stop) .stop)))))))))) else .done
def lp31 : Nat → Nm := fun i => if i = 5 then nl31_5 else ⟨[], []⟩
def jn31 : Nat → Option Jn := fun _ => none
def ex31 : Nat → Option Nm := fun i => if i = 0 then some nx31_0 else none
def rg31 : Nat → Option Nm := fun i => if i = 3 then some nr31_3 else none
theorem p31 : plansOk tr31 (Try.f31.body.getD .skip) = true := by kernel_rfl
def T31 (N : Nat) : Tab := { tr := tr31, lp := lp31, ex := ex31, rg := rg31, jn := jn31, fuel := N }
theorem T31_pins (N : Nat) : (T31 N).pins = false := rfl
theorem tb31 (N : Nat) : TbOk Try.prog (T31 N) := tb_none fun _ => rfl
theorem T31_tr (N i : Nat) : (T31 N).tr i = tr31 i := rfl
theorem T31_lp (N i : Nat) : (T31 N).lp i = lp31 i := rfl
theorem T31_ex (N i : Nat) : (T31 N).ex i = ex31 i := rfl
theorem T31_rg (N i : Nat) : (T31 N).rg i = rg31 i := rfl
theorem T31_jn (N i : Nat) : (T31 N).jn i = jn31 i := rfl
theorem T31_fuel (N : Nat) : (T31 N).fuel = N := rfl
noncomputable def c31_5 : Code := cut [true, true, true, false, true, true, true] (Try.f31.body.getD .skip)
theorem c31_5_at {N : Nat} {Q : X → St → Option (Vals [i36, i4])} {e : List LV} {h : List Blk} : runT tt Γ31 (T31 N) c31_5 Q ⟨e, h⟩ = runT tt Γ31 (T31 N) (cut [true, true, true, false, true, true, true] (Try.f31.body.getD .skip)) Q ⟨e, h⟩ := rfl
theorem r31_l5 (N : Nat) (v1 : List (Val (.int .i64))) (v2 : Int) (v4 : Int) (v5 : Bool) (v6 : Int) (v7 : Bool) {k0 : (List (Val (.int .i64))) → Option (Vals [i36, i4])} {Q : X → St → Option (Vals [i36, i4])} {c : Code} (hc : c = c31_5) (hret : ∀ st, Q .ret st = retS tt true [i36, i4] [.cell 2 36, .tmp 3] st) (h0 : ∀ (v9 : List (Val (.int .i64))), Q (.exit 0) ⟨[u, u, .one (.ptr 0 0 0), u, .one (.ptr 1 0 0), u, u, u, u, u, u, u, u, u, u, u, u, u, u, u, u, u, u, u, u, u, u, u, u, u, u, u, u, u, u, u, u, u], [.box [.nils, .int .i64 v4, .bool v5], .box [.own 2, .int .i64 v6, .bool v7], .row 3 (.int .i64) v9 true true 0]⟩ = k0 v9) : ∀ (n : Nat) (v3 : Int) (v8 : List (Val (.int .i64))), loopR (runT tt Γ31 (T31 N) c) false nl31_5 Q n ⟨[u, u, .one (.ptr 0 0 0), u, .one (.ptr 1 0 0), u, u, u, u, u, u, u, u, u, u, u, u, u, u, u, u, u, u, .one (.sl 3 (.int .i64) v1 3), .one (.int .i64 v2), .one (.int .i64 v3), u, u, u, u, u, u, u, u, u, u, u, u], [.box [.nils, .int .i64 v4, .bool v5], .box [.own 2, .int .i64 v6, .bool v7], .row 3 (.int .i64) v8 true true 0]⟩ = m31_l5 N v1 v2 v4 v5 v6 v7 k0 n v3 v8 := by
  subst hc; intro n; induction n with
  | zero => intros; rfl
  | succ n ih =>
    intro v3 v8
    rw [loop_succ, c31_5_at, m31_l5]; unfold Try.f31
    simp (maxSteps := 10000000) -implicitDefEqProofs [T31_tr, tr31, T31_lp, lp31, T31_ex, ex31, T31_rg, rg31, T31_jn, jn31, T31_fuel, T31_pins, nl31_5_fix, nl31_5_keep, nx31_0_fix, nx31_0_keep, nr31_3_fix, nr31_3_keep, Γ31_45, g45, hret, h0, ih]
theorem run31 (N : Nat) (v0 : Val Y36) : runT tt Γ31 (T31 N) (Try.f31.body.getD .skip) (retR tt true [i36, i4] [.cell 2 36, .tmp 3]) (entryP [i36] 38 (v0, ())) = m31 N v0 := by
  unfold Try.f31
  simp (maxSteps := 10000000) -implicitDefEqProofs [T31_tr, tr31, T31_lp, lp31, T31_ex, ex31, T31_rg, rg31, T31_jn, jn31, T31_fuel, T31_pins, nl31_5_fix, nl31_5_keep, nx31_0_fix, nx31_0_keep, nr31_3_fix, nr31_3_keep, Γ31_45, g45]
  rewrite [r31_l5 (k0 := (fun (v10 : List (Val (.int .i64))) => some ((v10, (IntKind.i64.wrap (0 - (v0.2.1 : Int))), (!(v0.2.2 : Bool))), true, ()))) N _ _ _ _ _ _ ?_ ?_ ?_]
  · rewrite [m31]; first | rfl | simp (maxSteps := 10000000) -implicitDefEqProofs []
  · rfl
  · intro; simp only [seqR_ret, blockR_ret, retR_ret, retX_ret]
  · intro v10; simp (maxSteps := 10000000) -implicitDefEqProofs [T31_tr, tr31, T31_lp, lp31, T31_ex, ex31, T31_rg, rg31, T31_jn, jn31, T31_fuel, T31_pins, nl31_5_fix, nl31_5_keep, nx31_0_fix, nx31_0_keep, nr31_3_fix, nr31_3_keep, Γ31_45, g45]
-- spec.NegateAtom
noncomputable def m26_l5 (N : Nat) (v2 : List (Val (.int .i64))) (v3 : Int) (v4 : Bool) (v5 : Int) (v6 : Bool) (v7 : Int) (v8 : Bool) (k0 : (List (Val (.int .i64))) → Option (Vals [i36, i4])) : Nat → Int → (List (Val (.int .i64))) → Option (Vals [i36, i4])
  | 0, _, _ => none
  | n + 1, v1, v9 => bif (decide (v1 < (v2.length : Int))) then (chk (0 ≤ v1 ∧ v1 < (v2.length : Int)) (chk (v9.length + ([(IntKind.i64.wrap (0 - ((v2.getD v1.toNat (dflt (.int .i64))) : Int)))] : List (Val (.int .i64))).length ≤ 1048576) (m26_l5 N v2 v3 v4 v5 v6 v7 v8 k0 n (IntKind.i64.wrap (v1 + (1 : Int))) (v9 ++ ([(IntKind.i64.wrap (0 - ((v2.getD v1.toNat (dflt (.int .i64))) : Int)))] : List (Val (.int .i64))))))) else (k0 v9)
noncomputable def m26 (N : Nat) (v0 : Val Y36) : Option (Vals [i36, i4]) := bif (!((isAtom v0) : Bool)) then (some ((([] : List (Val (.int .i64))), (0 : Int), false), false, ())) else (m26_l5 N (v0.1 : List (Val (.int .i64))) (v0.2.1 : Int) (v0.2.2 : Bool) (0 : Int) false (IntKind.i64.wrap (0 - (v0.2.1 : Int))) (!(v0.2.2 : Bool)) (fun (v11 : List (Val (.int .i64))) => some ((v11, (IntKind.i64.wrap (0 - (v0.2.1 : Int))), (!(v0.2.2 : Bool))), true, ())) N (0 : Int) ([] : List (Val (.int .i64))))
def Γ26 : Gam := [(43, g43)]
theorem Γ26_43 : Gam.get Γ26 43 = some g43 := rfl
def nl26_5 : Nm := ⟨[false, true, true, false, true, true], [.box 4 0 3 (.int .i64)]⟩
theorem nl26_5_fix : nl26_5.fix = [.box 4 0 3 (.int .i64)] := rfl
theorem nl26_5_keep : nl26_5.keep = [false, true, true, false, true, true] := rfl
def nx26_0 : Nm := ⟨[false, false, true, false, true], []⟩
theorem nx26_0_fix : nx26_0.fix = [] := rfl
theorem nx26_0_keep : nx26_0.keep = [false, false, true, false, true] := rfl
def nr26_7 : Nm := ⟨[false, true, true, false, true, true], []⟩
theorem nr26_7_fix : nr26_7.fix = [] := rfl
theorem nr26_7_keep : nr26_7.keep = [false, true, true, false, true, true] := rfl
def tr26 : Nat → Tree := fun i => if i = 7 then .quiet 2 (.quiet 3 (.quiet 4 (.quiet 5 (.quiet 6 (.quiet 7 (.alt 0 (.alt 1 (.alt 8 (.alt 9 (.quiet 10 (.alt 11 .done .stop)) .stop) .stop) (.alt 8 (.quiet 1 (.alt 9 (.quiet 10 (.alt 11 .done .stop)) .stop)) .stop)) (.alt 8 (.quiet 0 (.quiet 1 (.alt 9 (.quiet 10 (.alt 11 .done .stop)) .stop))) .stop))))))) else .done
def lp26 : Nat → Nm := fun i => if i = 5 then nl26_5 else ⟨[], []⟩
def jn26 : Nat → Option Jn := fun _ => none
def ex26 : Nat → Option Nm := fun i => if i = 0 then some nx26_0 else none
def rg26 : Nat → Option Nm := fun i => if i = 7 then some nr26_7 else none
theorem p26 : plansOk tr26 (Try.f26.body.getD .skip) = true := by kernel_rfl
def T26 (N : Nat) : Tab := { tr := tr26, lp := lp26, ex := ex26, rg := rg26, jn := jn26, fuel := N }
theorem T26_pins (N : Nat) : (T26 N).pins = false := rfl
theorem tb26 (N : Nat) : TbOk Try.prog (T26 N) := tb_none fun _ => rfl
theorem T26_tr (N i : Nat) : (T26 N).tr i = tr26 i := rfl
theorem T26_lp (N i : Nat) : (T26 N).lp i = lp26 i := rfl
theorem T26_ex (N i : Nat) : (T26 N).ex i = ex26 i := rfl
theorem T26_rg (N i : Nat) : (T26 N).rg i = rg26 i := rfl
theorem T26_jn (N i : Nat) : (T26 N).jn i = jn26 i := rfl
theorem T26_fuel (N : Nat) : (T26 N).fuel = N := rfl
noncomputable def c26_5 : Code := cut [true, true, true, false, true, true, true] (Try.f26.body.getD .skip)
theorem c26_5_at {N : Nat} {Q : X → St → Option (Vals [i36, i4])} {e : List LV} {h : List Blk} : runT tt Γ26 (T26 N) c26_5 Q ⟨e, h⟩ = runT tt Γ26 (T26 N) (cut [true, true, true, false, true, true, true] (Try.f26.body.getD .skip)) Q ⟨e, h⟩ := rfl
theorem r26_l5 (N : Nat) (v2 : List (Val (.int .i64))) (v3 : Int) (v4 : Bool) (v5 : Int) (v6 : Bool) (v7 : Int) (v8 : Bool) {k0 : (List (Val (.int .i64))) → Option (Vals [i36, i4])} {Q : X → St → Option (Vals [i36, i4])} {c : Code} (hc : c = c26_5) (hret : ∀ st, Q .ret st = retS tt true [i36, i4] [.cell 2 36, .tmp 3] st) (h0 : ∀ (v10 : List (Val (.int .i64))), Q (.exit 0) ⟨[u, u, .one (.ptr 0 0 0), u, .one (.ptr 1 0 0), u, u, u, u, u, u, u, u, u, u, u, u, u, u, u, u, u, u, u, u, u, u, u, u, u, u, u, u, u, u, u], [.box [.nils, .int .i64 v5, .bool v6], .box [.own 2, .int .i64 v7, .bool v8], .row 3 (.int .i64) v10 true true 0]⟩ = k0 v10) : ∀ (n : Nat) (v1 : Int) (v9 : List (Val (.int .i64))), loopR (runT tt Γ26 (T26 N) c) false nl26_5 Q n ⟨[u, .one (.ptr 0 0 0), .one (.ptr 1 0 0), u, .one (.ptr 2 0 0), .one (.int .i64 v1), u, u, u, u, u, u, u, u, u, u, u, u, u, u, u, u, u, u, u, u, u, u, u, u, u, u, u, u, u, u], [.box [.sl 3 (.int .i64) v2 4, .int .i64 v3, .bool v4], .box [.nils, .int .i64 v5, .bool v6], .box [.own 3, .int .i64 v7, .bool v8], .row 3 (.int .i64) v9 true true 0]⟩ = m26_l5 N v2 v3 v4 v5 v6 v7 v8 k0 n v1 v9 := by
  subst hc; intro n; induction n with
  | zero => intros; rfl
  | succ n ih =>
    intro v1 v9
    rw [loop_succ, c26_5_at, m26_l5]; unfold Try.f26
    simp (maxSteps := 10000000) -implicitDefEqProofs [T26_tr, tr26, T26_lp, lp26, T26_ex, ex26, T26_rg, rg26, T26_jn, jn26, T26_fuel, T26_pins, nl26_5_fix, nl26_5_keep, nx26_0_fix, nx26_0_keep, nr26_7_fix, nr26_7_keep, Γ26_43, g43, hret, h0, ih]
theorem run26 (N : Nat) (v0 : Val Y36) : runT tt Γ26 (T26 N) (Try.f26.body.getD .skip) (retR tt true [i36, i4] [.cell 2 36, .tmp 3]) (entryP [i36] 36 (v0, ())) = m26 N v0 := by
  unfold Try.f26
  simp (maxSteps := 10000000) -implicitDefEqProofs [T26_tr, tr26, T26_lp, lp26, T26_ex, ex26, T26_rg, rg26, T26_jn, jn26, T26_fuel, T26_pins, nl26_5_fix, nl26_5_keep, nx26_0_fix, nx26_0_keep, nr26_7_fix, nr26_7_keep, Γ26_43, g43]
  rewrite [r26_l5 (k0 := (fun (v11 : List (Val (.int .i64))) => some ((v11, (IntKind.i64.wrap (0 - (v0.2.1 : Int))), (!(v0.2.2 : Bool))), true, ()))) N _ _ _ _ _ _ _ ?_ ?_ ?_]
  · rewrite [m26]; first | rfl | simp (maxSteps := 10000000) -implicitDefEqProofs []
  · rfl
  · intro; simp only [seqR_ret, blockR_ret, retR_ret, retX_ret]
  · intro v11; simp (maxSteps := 10000000) -implicitDefEqProofs [T26_tr, tr26, T26_lp, lp26, T26_ex, ex26, T26_rg, rg26, T26_jn, jn26, T26_fuel, T26_pins, nl26_5_fix, nl26_5_keep, nx26_0_fix, nx26_0_keep, nr26_7_fix, nr26_7_keep, Γ26_43, g43]
theorem neg_in {x : Int} (h : inI x) : IntKind.i64.wrap (0 - x) = -x := by
  unfold inI at h
  rw [wrap64 (by omega) (by omega)]; omega
theorem t26 (N : Nat) (co : List (Val (.int .i64))) (c : Int) (s : Bool) (a : Int) (b : Bool) (c' : Int) (s' : Bool) (K : List (Val (.int .i64)) → Option (Vals [i36, i4])) (hl : co.length ≤ 1048576) (hx : ∀ x ∈ co, inI x) (n : Nat) (hn : co.length < n) :
    m26_l5 N co c s a b c' s' K n 0 [] = K (List.map (α := Int) (fun x => -x) co) := by
  refine (loop_fold (F := fun n i v => m26_l5 N co c s a b c' s' K n i v) (step := fun _ x (s : List (Val (.int .i64))) K => chk (s.length + [IntKind.i64.wrap (0 - x)].length ≤ 1048576) (K (s ++ [IntKind.i64.wrap (0 - x)]))) (k := K) hl (fun n i v hi => ?_) (fun n i v hi => ?_) n _ hn).trans ((app_fold (f := fun x => IntKind.i64.wrap (0 - x)) (k := K) co 0 [] (by simpa using hl)).trans ?_)
  · rw [m26_l5, bif_dec (by omega), chk_pos (by omega), getD_atI hi]
  · rw [m26_l5, bif_decN (by omega)]
  · have e : List.map (fun x => IntKind.i64.wrap (0 - x)) co = List.map (α := Int) (fun x => -x) co := List.map_congr_left fun x hx' => neg_in (hx x hx')
    rw [List.nil_append, e]
theorem e26 (a : Val Y36) (h : negV_pre a) : ∃ N, m26 N a = some ((negV a).1, (negV a).2, ()) := ⟨List.length (α := Int) a.1 + 1, by
  rw [m26]
  unfold negV
  cases ha : isAtom a with
  | false => rfl
  | true =>
    have hi := atom_in ha
    have hx := okA_in ha
    have h4 : List.length (α := Int) a.1 ≤ 4 := hi.1
    have t := t26 (List.length (α := Int) a.1 + 1) a.1 a.2.1 a.2.2 0 false (IntKind.i64.wrap (0 - (a.2.1 : Int))) (!(a.2.2 : Bool)) (fun v => some ((v, (IntKind.i64.wrap (0 - (a.2.1 : Int))), (!(a.2.2 : Bool))), true, ())) (by omega) hx _ (Nat.lt_succ_self _)
    simp only [Bool.not_true, cond_false, cond_true]
    rw [t, neg_in hi.2.1]⟩
theorem s26 : Sound Try.prog 26 g26 := sound_run (tt := tt) (Γ := Γ26) hT (ok_cons s43 ok_nil) hm (fn := Try.f26) Try.func26 (c := Try.f26.body.getD .skip) (by kernel_rfl) (by kernel_rfl) fun x hx => by
  obtain ⟨N, h⟩ := e26 x.1 hx
  exact ⟨T26 N, p26, noSem_ok _, tb26 N, (run26 N x.1).trans h⟩
theorem t31 (N : Nat) (co : List (Val (.int .i64))) (a : Int) (b : Bool) (c : Int) (s : Bool) (K : List (Val (.int .i64)) → Option (Vals [i36, i4])) (hl : co.length ≤ 1048576) (hx : ∀ x ∈ co, inI x) (n : Nat) (hn : co.length < n) :
    m31_l5 N co co.length a b c s K n 0 (List.replicate co.length (dflt (.int .i64))) = K (List.map (α := Int) (fun x => -x) co) := by
  have := copy_loop (xs := List.map (α := Int) (fun x => -x) co) (F := fun n i s' => m31_l5 N co co.length a b c s K n i s') (k := K) (dflt (.int .i64)) (by simpa using hl) (fun n i s' hi hs => ?_) (fun n i s' hi => ?_) n (by simpa using hn)
  · simpa using this
  · have hi : i < co.length := by simpa using hi
    have hs : s'.length = co.length := by simpa using hs
    rw [m31_l5, bif_dec (by omega), chk_pos (by omega), chk_pos (by omega), chk_pos (by simp; omega), getD_atI hi, neg_in (hx _ (List.getElem_mem hi))]
    simp
  · have hi : co.length ≤ i := by simpa using hi
    rw [m31_l5, bif_decN (by omega)]
theorem e31 (a : Val Y36) : ∃ N, m31 N a = some ((negV a).1, (negV a).2, ()) := ⟨List.length (α := Int) a.1 + 1, by
  rw [m31]
  unfold negV
  cases ha : isAtom a with
  | false => rfl
  | true =>
    have hi := atom_in ha
    have hx := okA_in ha
    have h4 : List.length (α := Int) a.1 ≤ 4 := hi.1
    have t := t31 (List.length (α := Int) a.1 + 1) a.1 0 false (IntKind.i64.wrap (0 - (a.2.1 : Int))) (!(a.2.2 : Bool)) (fun v => some ((v, (IntKind.i64.wrap (0 - (a.2.1 : Int))), (!(a.2.2 : Bool))), true, ())) (by omega) hx _ (Nat.lt_succ_self _)
    simp only [Bool.not_true, cond_false, cond_true]
    rw [chk_pos (chk_len (by omega)), Int.toNat_natCast, t, neg_in hi.2.1]⟩
theorem s31 : Sound Try.prog 31 g31 := sound_run (tt := tt) (Γ := Γ31) hT (ok_cons s45 ok_nil) hm (fn := Try.f31) Try.func31 (c := Try.f31.body.getD .skip) (by kernel_rfl) (by kernel_rfl) fun x hx => by
  obtain ⟨N, h⟩ := e31 x.1
  exact ⟨T31 N, p31, noSem_ok _, tb31 N, (run31 N x.1).trans h⟩
end Go.T
