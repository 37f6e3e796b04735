/- Negated atoms. -/
import Derived.Test.YthefcjjgchekiaaGreatB1
set_option linter.unusedSimpArgs false
set_option linter.unusedVariables false
namespace Go.T
open Go Go.Proofs
set_option maxHeartbeats 4000000
set_option maxRecDepth 100000
def negV (a : Val Y108) : Val Y108 × Bool := bif isAtom a then ((List.map (α := Int) (fun x => -x) a.1, (-(a.2.1 : Int), !a.2.2)), true) else (([], ((0 : Int), false)), false)
def negV_pre (a : Val Y108) : Prop := idA_pre a
def g221 : G := { ps := [i108], rs := [i108, i4], dp := true, pre := fun _ => True, fn := fun x => ((negV x.1).1, (negV x.1).2, ()) }
def g218 : G := { ps := [i108], rs := [i108, i4], dp := true, pre := fun x => negV_pre x.1, fn := fun x => ((negV x.1).1, (negV x.1).2, ()) }
noncomputable def m221_l5 (N : Nat) (v1 : List (Val (.int .i64))) (v2 : Int) (v4 : Int) (v5 : Bool) (v6 : Int) (v7 : Bool) (k0 : (List (Val (.int .i64))) → Option (Vals [i108, i4])) : Nat → Int → (List (Val (.int .i64))) → Option (Vals [i108, i4])
  | 0, _, _ => none
  | n + 1, v3, v8 => bif (decide (v3 < v2)) then (chk (0 ≤ v3 ∧ v3 < (v1.length : Int)) (chk (0 ≤ v3 ∧ v3 < (v8.length : Int)) (chk (v3.toNat < v8.length) (m221_l5 N v1 v2 v4 v5 v6 v7 k0 n (IntKind.i64.wrap (v3 + (1 : Int))) (v8.set v3.toNat (IntKind.i64.wrap (0 - ((v1.getD v3.toNat (dflt (.int .i64))) : Int)))))))) else (k0 v8)
noncomputable def m221 (N : Nat) (v0 : Val Y108) : Option (Vals [i108, i4]) := bif (!((isAtom v0) : Bool)) then (some ((([] : List (Val (.int .i64))), (0 : Int), false), false, ())) else (chk (0 ≤ ((v0.1 : List (Val (.int .i64))).length : Int) ∧ ((v0.1 : List (Val (.int .i64))).length : Int) ≤ ((v0.1 : List (Val (.int .i64))).length : Int) ∧ ((v0.1 : List (Val (.int .i64))).length : Int) ≤ 1048576) (m221_l5 N (v0.1 : List (Val (.int .i64))) ((v0.1 : List (Val (.int .i64))).length : Int) (0 : Int) false (IntKind.i64.wrap (0 - (v0.2.1 : Int))) (!(v0.2.2 : Bool)) (fun (v10 : List (Val (.int .i64))) => some ((v10, (IntKind.i64.wrap (0 - (v0.2.1 : Int))), (!(v0.2.2 : Bool))), true, ())) N (0 : Int) (List.replicate ((v0.1 : List (Val (.int .i64))).length : Int).toNat (dflt (.int .i64)))))
def Γ221 : Gam := [(279, g279)]
theorem Γ221_279 : Gam.get Γ221 279 = some g279 := rfl
def nl221_5 : Nm := ⟨[false, false, true, false, true, false, false, false, false, false, false, false, false, false, false, false, false, false, false, false, false, false, false, true, true, true], [], false⟩
theorem nl221_5_zero : nl221_5.zero = false := rfl
theorem nl221_5_fix : nl221_5.fix = [] := rfl
theorem nl221_5_keep : nl221_5.keep = [false, false, true, false, true, false, false, false, false, false, false, false, false, false, false, false, false, false, false, false, false, false, false, true, true, true] := rfl
def nx221_0 : Nm := ⟨[false, false, true, false, true], [], false⟩
theorem nx221_0_zero : nx221_0.zero = false := rfl
theorem nx221_0_fix : nx221_0.fix = [] := rfl
theorem nx221_0_keep : nx221_0.keep = [false, false, true, false, true] := rfl
def nr221_3 : Nm := ⟨[false, true, true, false, true], [], false⟩
theorem nr221_3_zero : nr221_3.zero = false := rfl
theorem nr221_3_fix : nr221_3.fix = [] := rfl
theorem nr221_3_keep : nr221_3.keep = [false, true, true, false, true] := rfl
def tr221 : Nat → Tree := fun i => if i = 3 then .grow 0 (.grow 1 (.grow 2 (.grow 4 (.grow 5 (.first 6 (.grow 7 (.grow 8 (.first 9 (.alt 3 (.first 10 (.alt 11 (.alt 12 .done .stop) .stop)) (.alt 11 (.alt 3 (.quiet 10 (.alt 12 .done .stop)) .stop) .stop)))))))))) else .done
def lp221 : Nat → Nm := fun i => if i = 5 then nl221_5 else ⟨[], [], false⟩
def jn221 : Nat → Option Jn := fun _ => none
def ex221 : Nat → Option Nm := fun i => if i = 0 then some nx221_0 else none
def rg221 : Nat → Option Nm := fun i => if i = 3 then some nr221_3 else none
theorem p221 : plansOk tr221 (Tryz.f221.body.getD .skip) = true := by kernel_rfl
def T221 (N : Nat) : Tab := { tr := tr221, lp := lp221, ex := ex221, rg := rg221, jn := jn221, fuel := N }
theorem T221_pins (N : Nat) : (T221 N).pins = false := rfl
theorem tb221 (N : Nat) : TbOk Tryz.prog (T221 N) := tb_none fun _ => rfl
theorem T221_tr (N : Nat) (i : Nat) : (T221 N).tr i = tr221 i := rfl
theorem T221_lp (N : Nat) (i : Nat) : (T221 N).lp i = lp221 i := rfl
theorem T221_ex (N : Nat) (i : Nat) : (T221 N).ex i = ex221 i := rfl
theorem T221_rg (N : Nat) (i : Nat) : (T221 N).rg i = rg221 i := rfl
theorem T221_jn (N : Nat) (i : Nat) : (T221 N).jn i = jn221 i := rfl
theorem T221_fuel (N : Nat) : (T221 N).fuel = N := rfl
noncomputable def c221_5 : Code := cut [true, true, true, false, true, true, true] (Tryz.f221.body.getD .skip)
theorem c221_5_at {N : Nat} {Q : X → St → Option (Vals [i108, i4])} {e : List LV} {h : List Blk} : runT tt Γ221 (T221 N) c221_5 Q ⟨e, h⟩ = runT tt Γ221 (T221 N) (cut [true, true, true, false, true, true, true] (Tryz.f221.body.getD .skip)) Q ⟨e, h⟩ := rfl
theorem r221_l5 (N : Nat) (v1 : List (Val (.int .i64))) (v2 : Int) (v4 : Int) (v5 : Bool) (v6 : Int) (v7 : Bool) {k0 : (List (Val (.int .i64))) → Option (Vals [i108, i4])} {Q : X → St → Option (Vals [i108, i4])} {c : Code} (hc : c = c221_5) (hret : ∀ st, Q .ret st = retS tt true [i108, i4] [.cell 2 108, .tmp 3] st) (h0 : ∀ (v9 : List (Val (.int .i64))), Q (.exit 0) ⟨[u, u, .one (.ptr 0 0 0), u, .one (.ptr 1 0 0), u, u, u, u, u, u, u, u, u, u, u, u, u, u, u, u, u, u, u, u, u, u, u, u, u, u, u, u, u, u, u, u, u], [.box [.nils, .int .i64 v4, .bool v5], .box [.own 2, .int .i64 v6, .bool v7], .row 3 (.int .i64) v9 true true 0]⟩ = k0 v9) : ∀ (n : Nat) (v3 : Int) (v8 : List (Val (.int .i64))), loopR (runT tt Γ221 (T221 N) c) false nl221_5 Q n ⟨[u, u, .one (.ptr 0 0 0), u, .one (.ptr 1 0 0), u, u, u, u, u, u, u, u, u, u, u, u, u, u, u, u, u, u, .one (.sl 3 (.int .i64) v1 3), .one (.int .i64 v2), .one (.int .i64 v3), u, u, u, u, u, u, u, u, u, u, u, u], [.box [.nils, .int .i64 v4, .bool v5], .box [.own 2, .int .i64 v6, .bool v7], .row 3 (.int .i64) v8 true true 0]⟩ = m221_l5 N v1 v2 v4 v5 v6 v7 k0 n v3 v8 := by
  subst hc; intro n; induction n with
  | zero => intros; rfl
  | succ n ih =>
    intro v3 v8
    rw [loop_succ, c221_5_at, m221_l5]; unfold Tryz.f221
    simp (maxSteps := 10000000) -implicitDefEqProofs [T221_tr, tr221, T221_lp, lp221, T221_ex, ex221, T221_rg, rg221, T221_jn, jn221, T221_fuel, T221_pins, nl221_5_fix, nl221_5_keep, nl221_5_zero, nx221_0_fix, nx221_0_keep, nx221_0_zero, nr221_3_fix, nr221_3_keep, nr221_3_zero, Γ221_279, g279, hret, h0, ih]
theorem run221 (N : Nat) (v0 : Val Y108) : runT tt Γ221 (T221 N) (Tryz.f221.body.getD .skip) (retR tt true [i108, i4] [.cell 2 108, .tmp 3]) (entryP [i108] 38 (v0, ())) = m221 N v0 := by
  unfold Tryz.f221
  simp (maxSteps := 10000000) -implicitDefEqProofs [T221_tr, tr221, T221_lp, lp221, T221_ex, ex221, T221_rg, rg221, T221_jn, jn221, T221_fuel, T221_pins, nl221_5_fix, nl221_5_keep, nl221_5_zero, nx221_0_fix, nx221_0_keep, nx221_0_zero, nr221_3_fix, nr221_3_keep, nr221_3_zero, Γ221_279, g279]
  rewrite [r221_l5 (k0 := (fun (v10 : List (Val (.int .i64))) => some ((v10, (IntKind.i64.wrap (0 - (v0.2.1 : Int))), (!(v0.2.2 : Bool))), true, ()))) N _ _ _ _ _ _ ?_ ?_ ?_]
  · rewrite [m221]; first | rfl | simp (maxSteps := 10000000) -implicitDefEqProofs []
  · rfl
  · intro; simp only [seqR_ret, blockR_ret, retR_ret, retX_ret]
  · intro v10; simp (maxSteps := 10000000) -implicitDefEqProofs [T221_tr, tr221, T221_lp, lp221, T221_ex, ex221, T221_rg, rg221, T221_jn, jn221, T221_fuel, T221_pins, nl221_5_fix, nl221_5_keep, nl221_5_zero, nx221_0_fix, nx221_0_keep, nx221_0_zero, nr221_3_fix, nr221_3_keep, nr221_3_zero, Γ221_279, g279]
noncomputable def m218_l5 (N : Nat) (v2 : List (Val (.int .i64))) (v3 : Int) (v4 : Bool) (v5 : Int) (v6 : Bool) (v7 : Int) (v8 : Bool) (k0 : (List (Val (.int .i64))) → Option (Vals [i108, i4])) : Nat → Int → (List (Val (.int .i64))) → Option (Vals [i108, i4])
  | 0, _, _ => none
  | n + 1, v1, v9 => bif (decide (v1 < (v2.length : Int))) then (chk (0 ≤ v1 ∧ v1 < (v2.length : Int)) (chk (v9.length + ([(IntKind.i64.wrap (0 - ((v2.getD v1.toNat (dflt (.int .i64))) : Int)))] : List (Val (.int .i64))).length ≤ 1048576) (m218_l5 N v2 v3 v4 v5 v6 v7 v8 k0 n (IntKind.i64.wrap (v1 + (1 : Int))) (v9 ++ ([(IntKind.i64.wrap (0 - ((v2.getD v1.toNat (dflt (.int .i64))) : Int)))] : List (Val (.int .i64))))))) else (k0 v9)
noncomputable def m218 (N : Nat) (v0 : Val Y108) : Option (Vals [i108, i4]) := bif (!((isAtom v0) : Bool)) then (some ((([] : List (Val (.int .i64))), (0 : Int), false), false, ())) else (m218_l5 N (v0.1 : List (Val (.int .i64))) (v0.2.1 : Int) (v0.2.2 : Bool) (0 : Int) false (IntKind.i64.wrap (0 - (v0.2.1 : Int))) (!(v0.2.2 : Bool)) (fun (v11 : List (Val (.int .i64))) => some ((v11, (IntKind.i64.wrap (0 - (v0.2.1 : Int))), (!(v0.2.2 : Bool))), true, ())) N (0 : Int) ([] : List (Val (.int .i64))))
def Γ218 : Gam := [(193, g193)]
theorem Γ218_193 : Gam.get Γ218 193 = some g193 := rfl
def nl218_5 : Nm := ⟨[false, true, true, false, true, true], [.box 4 0 3 (.int .i64)], false⟩
theorem nl218_5_zero : nl218_5.zero = false := rfl
theorem nl218_5_fix : nl218_5.fix = [.box 4 0 3 (.int .i64)] := rfl
theorem nl218_5_keep : nl218_5.keep = [false, true, true, false, true, true] := rfl
def nx218_0 : Nm := ⟨[false, false, true, false, true], [], false⟩
theorem nx218_0_zero : nx218_0.zero = false := rfl
theorem nx218_0_fix : nx218_0.fix = [] := rfl
theorem nx218_0_keep : nx218_0.keep = [false, false, true, false, true] := rfl
def nr218_7 : Nm := ⟨[false, true, true, false, true, true], [], false⟩
theorem nr218_7_zero : nr218_7.zero = false := rfl
theorem nr218_7_fix : nr218_7.fix = [] := rfl
theorem nr218_7_keep : nr218_7.keep = [false, true, true, false, true, true] := rfl
def tr218 : Nat → Tree := fun i => if i = 7 then .quiet 2 (.quiet 3 (.quiet 4 (.quiet 5 (.quiet 6 (.quiet 7 (.alt 0 (.alt 1 (.alt 8 (.alt 9 (.quiet 10 (.alt 11 .done .stop)) .stop) .stop) (.alt 8 (.quiet 1 (.alt 9 (.quiet 10 (.alt 11 .done .stop)) .stop)) .stop)) (.alt 8 (.quiet 0 (.quiet 1 (.alt 9 (.quiet 10 (.alt 11 .done .stop)) .stop))) .stop))))))) else .done
def lp218 : Nat → Nm := fun i => if i = 5 then nl218_5 else ⟨[], [], false⟩
def jn218 : Nat → Option Jn := fun _ => none
def ex218 : Nat → Option Nm := fun i => if i = 0 then some nx218_0 else none
def rg218 : Nat → Option Nm := fun i => if i = 7 then some nr218_7 else none
theorem p218 : plansOk tr218 (Tryz.f218.body.getD .skip) = true := by kernel_rfl
def T218 (N : Nat) : Tab := { tr := tr218, lp := lp218, ex := ex218, rg := rg218, jn := jn218, fuel := N }
theorem T218_pins (N : Nat) : (T218 N).pins = false := rfl
theorem tb218 (N : Nat) : TbOk Tryz.prog (T218 N) := tb_none fun _ => rfl
theorem T218_tr (N : Nat) (i : Nat) : (T218 N).tr i = tr218 i := rfl
theorem T218_lp (N : Nat) (i : Nat) : (T218 N).lp i = lp218 i := rfl
theorem T218_ex (N : Nat) (i : Nat) : (T218 N).ex i = ex218 i := rfl
theorem T218_rg (N : Nat) (i : Nat) : (T218 N).rg i = rg218 i := rfl
theorem T218_jn (N : Nat) (i : Nat) : (T218 N).jn i = jn218 i := rfl
theorem T218_fuel (N : Nat) : (T218 N).fuel = N := rfl
noncomputable def c218_5 : Code := cut [true, true, true, false, true, true, true] (Tryz.f218.body.getD .skip)
theorem c218_5_at {N : Nat} {Q : X → St → Option (Vals [i108, i4])} {e : List LV} {h : List Blk} : runT tt Γ218 (T218 N) c218_5 Q ⟨e, h⟩ = runT tt Γ218 (T218 N) (cut [true, true, true, false, true, true, true] (Tryz.f218.body.getD .skip)) Q ⟨e, h⟩ := rfl
theorem r218_l5 (N : Nat) (v2 : List (Val (.int .i64))) (v3 : Int) (v4 : Bool) (v5 : Int) (v6 : Bool) (v7 : Int) (v8 : Bool) {k0 : (List (Val (.int .i64))) → Option (Vals [i108, i4])} {Q : X → St → Option (Vals [i108, i4])} {c : Code} (hc : c = c218_5) (hret : ∀ st, Q .ret st = retS tt true [i108, i4] [.cell 2 108, .tmp 3] st) (h0 : ∀ (v10 : List (Val (.int .i64))), Q (.exit 0) ⟨[u, u, .one (.ptr 0 0 0), u, .one (.ptr 1 0 0), u, u, u, u, u, u, u, u, u, u, u, u, u, u, u, u, u, u, u, u, u, u, u, u, u, u, u, u, u, u, u], [.box [.nils, .int .i64 v5, .bool v6], .box [.own 2, .int .i64 v7, .bool v8], .row 3 (.int .i64) v10 true true 0]⟩ = k0 v10) : ∀ (n : Nat) (v1 : Int) (v9 : List (Val (.int .i64))), loopR (runT tt Γ218 (T218 N) c) false nl218_5 Q n ⟨[u, .one (.ptr 0 0 0), .one (.ptr 1 0 0), u, .one (.ptr 2 0 0), .one (.int .i64 v1), u, u, u, u, u, u, u, u, u, u, u, u, u, u, u, u, u, u, u, u, u, u, u, u, u, u, u, u, u, u], [.box [.sl 3 (.int .i64) v2 4, .int .i64 v3, .bool v4], .box [.nils, .int .i64 v5, .bool v6], .box [.own 3, .int .i64 v7, .bool v8], .row 3 (.int .i64) v9 true true 0]⟩ = m218_l5 N v2 v3 v4 v5 v6 v7 v8 k0 n v1 v9 := by
  subst hc; intro n; induction n with
  | zero => intros; rfl
  | succ n ih =>
    intro v1 v9
    rw [loop_succ, c218_5_at, m218_l5]; unfold Tryz.f218
    simp (maxSteps := 10000000) -implicitDefEqProofs [T218_tr, tr218, T218_lp, lp218, T218_ex, ex218, T218_rg, rg218, T218_jn, jn218, T218_fuel, T218_pins, nl218_5_fix, nl218_5_keep, nl218_5_zero, nx218_0_fix, nx218_0_keep, nx218_0_zero, nr218_7_fix, nr218_7_keep, nr218_7_zero, Γ218_193, g193, hret, h0, ih]
theorem run218 (N : Nat) (v0 : Val Y108) : runT tt Γ218 (T218 N) (Tryz.f218.body.getD .skip) (retR tt true [i108, i4] [.cell 2 108, .tmp 3]) (entryP [i108] 36 (v0, ())) = m218 N v0 := by
  unfold Tryz.f218
  simp (maxSteps := 10000000) -implicitDefEqProofs [T218_tr, tr218, T218_lp, lp218, T218_ex, ex218, T218_rg, rg218, T218_jn, jn218, T218_fuel, T218_pins, nl218_5_fix, nl218_5_keep, nl218_5_zero, nx218_0_fix, nx218_0_keep, nx218_0_zero, nr218_7_fix, nr218_7_keep, nr218_7_zero, Γ218_193, g193]
  rewrite [r218_l5 (k0 := (fun (v11 : List (Val (.int .i64))) => some ((v11, (IntKind.i64.wrap (0 - (v0.2.1 : Int))), (!(v0.2.2 : Bool))), true, ()))) N _ _ _ _ _ _ _ ?_ ?_ ?_]
  · rewrite [m218]; first | rfl | simp (maxSteps := 10000000) -implicitDefEqProofs []
  · rfl
  · intro; simp only [seqR_ret, blockR_ret, retR_ret, retX_ret]
  · intro v11; simp (maxSteps := 10000000) -implicitDefEqProofs [T218_tr, tr218, T218_lp, lp218, T218_ex, ex218, T218_rg, rg218, T218_jn, jn218, T218_fuel, T218_pins, nl218_5_fix, nl218_5_keep, nl218_5_zero, nx218_0_fix, nx218_0_keep, nx218_0_zero, nr218_7_fix, nr218_7_keep, nr218_7_zero, Γ218_193, g193]
theorem neg_in {x : Int} (h : inI x) : IntKind.i64.wrap (0 - x) = -x := by
  unfold inI at h
  rw [wrap64 (by omega) (by omega)]; omega
theorem t218 (N : Nat) (co : List (Val (.int .i64))) (c : Int) (s : Bool) (a : Int) (b : Bool) (c' : Int) (s' : Bool) (K : List (Val (.int .i64)) → Option (Vals [i108, i4])) (hl : co.length ≤ 1048576) (hx : ∀ x ∈ co, inI x) (n : Nat) (hn : co.length < n) :
    m218_l5 N co c s a b c' s' K n 0 [] = K (List.map (α := Int) (fun x => -x) co) := by
  refine (loop_fold (F := fun n i v => m218_l5 N co c s a b c' s' K n i v) (step := fun _ x (s : List (Val (.int .i64))) K => chk (s.length + [IntKind.i64.wrap (0 - x)].length ≤ 1048576) (K (s ++ [IntKind.i64.wrap (0 - x)]))) (k := K) hl (fun n i v hi => ?_) (fun n i v hi => ?_) n _ hn).trans ((app_fold (f := fun x => IntKind.i64.wrap (0 - x)) (k := K) co 0 [] (by simpa using hl)).trans ?_)
  · rw [m218_l5, bif_dec (by omega), chk_pos (by omega), getD_atI hi]
  · rw [m218_l5, bif_decN (by omega)]
  · have e : List.map (fun x => IntKind.i64.wrap (0 - x)) co = List.map (α := Int) (fun x => -x) co := List.map_congr_left fun x hx' => neg_in (hx x hx')
    rw [List.nil_append, e]
theorem e218 (a : Val Y108) (h : negV_pre a) : ∃ N, m218 N a = some ((negV a).1, (negV a).2, ()) := ⟨List.length (α := Int) a.1 + 1, by
  rw [m218]
  unfold negV
  cases ha : isAtom a with
  | false => rfl
  | true =>
    have hi := atom_in ha
    have hx := okA_in ha
    have h4 : List.length (α := Int) a.1 ≤ 4 := hi.1
    have t := t218 (List.length (α := Int) a.1 + 1) a.1 a.2.1 a.2.2 0 false (IntKind.i64.wrap (0 - (a.2.1 : Int))) (!(a.2.2 : Bool)) (fun v => some ((v, (IntKind.i64.wrap (0 - (a.2.1 : Int))), (!(a.2.2 : Bool))), true, ())) (by omega) hx _ (Nat.lt_succ_self _)
    simp only [Bool.not_true, cond_false, cond_true]
    rw [t, neg_in hi.2.1]⟩
theorem s218 : Sound Tryz.prog 218 g218 := sound_run (tt := tt) (Γ := Γ218) hT (ok_cons s193 ok_nil) hm (fn := Tryz.f218) Tryz.func218 (c := Tryz.f218.body.getD .skip) (by kernel_rfl) (by kernel_rfl) fun x hx => by
  obtain ⟨N, h⟩ := e218 x.1 hx
  exact ⟨T218 N, p218, noSem_ok _, tb218 N, (run218 N x.1).trans h⟩
theorem t221 (N : Nat) (co : List (Val (.int .i64))) (a : Int) (b : Bool) (c : Int) (s : Bool) (K : List (Val (.int .i64)) → Option (Vals [i108, i4])) (hl : co.length ≤ 1048576) (hx : ∀ x ∈ co, inI x) (n : Nat) (hn : co.length < n) :
    m221_l5 N co co.length a b c s K n 0 (List.replicate co.length (dflt (.int .i64))) = K (List.map (α := Int) (fun x => -x) co) := by
  have := copy_loop (xs := List.map (α := Int) (fun x => -x) co) (F := fun n i s' => m221_l5 N co co.length a b c s K n i s') (k := K) (dflt (.int .i64)) (by simpa using hl) (fun n i s' hi hs => ?_) (fun n i s' hi => ?_) n (by simpa using hn)
  · simpa using this
  · have hi : i < co.length := by simpa using hi
    have hs : s'.length = co.length := by simpa using hs
    rw [m221_l5, bif_dec (by omega), chk_pos (by omega), chk_pos (by omega), chk_pos (by simp; omega), getD_atI hi, neg_in (hx _ (List.getElem_mem hi))]
    simp
  · have hi : co.length ≤ i := by simpa using hi
    rw [m221_l5, bif_decN (by omega)]
theorem e221 (a : Val Y108) : ∃ N, m221 N a = some ((negV a).1, (negV a).2, ()) := ⟨List.length (α := Int) a.1 + 1, by
  rw [m221]
  unfold negV
  cases ha : isAtom a with
  | false => rfl
  | true =>
    have hi := atom_in ha
    have hx := okA_in ha
    have h4 : List.length (α := Int) a.1 ≤ 4 := hi.1
    have t := t221 (List.length (α := Int) a.1 + 1) a.1 0 false (IntKind.i64.wrap (0 - (a.2.1 : Int))) (!(a.2.2 : Bool)) (fun v => some ((v, (IntKind.i64.wrap (0 - (a.2.1 : Int))), (!(a.2.2 : Bool))), true, ())) (by omega) hx _ (Nat.lt_succ_self _)
    simp only [Bool.not_true, cond_false, cond_true]
    rw [chk_pos (chk_len (by omega)), Int.toNat_natCast, t, neg_in hi.2.1]⟩
theorem s221 : Sound Tryz.prog 221 g221 := sound_run (tt := tt) (Γ := Γ221) hT (ok_cons s279 ok_nil) hm (fn := Tryz.f221) Tryz.func221 (c := Tryz.f221.body.getD .skip) (by kernel_rfl) (by kernel_rfl) fun x hx => by
  obtain ⟨N, h⟩ := e221 x.1
  exact ⟨T221 N, p221, noSem_ok _, tb221 N, (run221 N x.1).trans h⟩
end Go.T
