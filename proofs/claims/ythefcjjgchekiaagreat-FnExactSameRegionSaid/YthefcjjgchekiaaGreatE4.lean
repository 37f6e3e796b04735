/- Minimal cells: run. -/
import Derived.Test.YthefcjjgchekiaaGreatE3
set_option linter.unusedSimpArgs false
set_option linter.unusedVariables false
namespace Go.T
open Go Go.Proofs
set_option maxHeartbeats 4000000
set_option maxRecDepth 100000
theorem cond_cg {α : Type} {b : Bool} {x x' y y' : α} (h : x = x') (h' : y = y') : cond b x y = cond b x' y' := by rw [h, h']
abbrev dA : Val Y108 := dflt Y108
abbrev failC : Val Y33 × Bool := (((0 : Int), []), false)
def nrmC (c : Val Y33) : Val Y33 × Bool := bif isCell c then (nrmV c.1 c.2, true) else failC
def g215 : G := { ps := [i33], rs := [i33, i4], dp := true, pre := fun _ => True, fn := fun x => ((nrmC x.1).1, (nrmC x.1).2, ()) }
noncomputable def m215 (N : Nat) (v0 : Val Y33) : Option (Vals [i33, i4]) := bif (!((isCell v0) : Bool)) then (some (((0 : Int), ([] : List (Val Y108))), false, ())) else (chk (nrmV_pre (v0.1 : Int) (v0.2 : List (Val Y108))) (some ((nrmV (v0.1 : Int) (v0.2 : List (Val Y108))), true, ())))
def Γ215 : Gam := [(199, g199), (230, g230)]
theorem Γ215_199 : Gam.get Γ215 199 = some g199 := rfl
theorem Γ215_230 : Gam.get Γ215 230 = some g230 := rfl
def tr215 : Nat → Tree := fun _ => .done
def lp215 : Nat → Nm := fun _ => ⟨[], [], false⟩
def jn215 : Nat → Option Jn := fun _ => none
def ex215 : Nat → Option Nm := fun _ => none
def rg215 : Nat → Option Nm := fun _ => none
theorem p215 : plansOk tr215 (Tryz.f215.body.getD .skip) = true := by kernel_rfl
def T215 (N : Nat) : Tab := { tr := tr215, lp := lp215, ex := ex215, rg := rg215, jn := jn215, fuel := N }
theorem T215_pins (N : Nat) : (T215 N).pins = false := rfl
theorem tb215 (N : Nat) : TbOk Tryz.prog (T215 N) := tb_none fun _ => rfl
theorem T215_tr (N : Nat) (i : Nat) : (T215 N).tr i = tr215 i := rfl
theorem T215_lp (N : Nat) (i : Nat) : (T215 N).lp i = lp215 i := rfl
theorem T215_ex (N : Nat) (i : Nat) : (T215 N).ex i = ex215 i := rfl
theorem T215_rg (N : Nat) (i : Nat) : (T215 N).rg i = rg215 i := rfl
theorem T215_jn (N : Nat) (i : Nat) : (T215 N).jn i = jn215 i := rfl
theorem T215_fuel (N : Nat) : (T215 N).fuel = N := rfl
theorem run215 (N : Nat) (v0 : Val Y33) : runT tt Γ215 (T215 N) (Tryz.f215.body.getD .skip) (retR tt true [i33, i4] [.cell 2 33, .tmp 3]) (entryP [i33] 13 (v0, ())) = m215 N v0 := by
  rw [m215]; unfold Tryz.f215
  simp (maxSteps := 10000000) -implicitDefEqProofs [T215_tr, tr215, T215_lp, lp215, T215_ex, ex215, T215_rg, rg215, T215_jn, jn215, T215_fuel, T215_pins, Γ215_199, Γ215_230, g199, g230]
  try rfl
def minL (d : Int) : Nat → Nat → List (Val Y108) → Option (List (Val Y108))
  | 0, _, l => some l
  | n + 1, i, l => if i < l.length then (bif (impV (d, l.take i ++ l.drop (i + 1)) (l.getD i dA)).2 then (bif (impV (d, l.take i ++ l.drop (i + 1)) (l.getD i dA)).1 then minL d n i (l.take i ++ l.drop (i + 1)) else minL d n (i + 1) l) else none) else some l
def minI (d : Int) (vs : List (Val Y108)) : Nat → Nat → List Nat → Option (List Nat)
  | 0, _, is => some is
  | n + 1, i, is => if i < is.length then (bif (impV (d, (is.take i ++ is.drop (i + 1)).map fun j => vs.getD j dA) (vs.getD (is.getD i 0) dA)).2 then (bif (impV (d, (is.take i ++ is.drop (i + 1)).map fun j => vs.getD j dA) (vs.getD (is.getD i 0) dA)).1 then minI d vs n i (is.take i ++ is.drop (i + 1)) else minI d vs n (i + 1) is) else none) else some is
def dimL (vs : List (Val Y108)) : Int := (List.length (α := Int) (vs.getD 0 dA).1 : Int)
def minS (vs : List (Val Y108)) : List Nat := (minI (dimL vs) vs (vs.length + 1) 0 (List.range vs.length)).getD []
def minN (x : Val Y33) : Val Y33 × Bool := bif (empV x).2 then (bif (empV x).1 then (noneC x.1, true) else (match minL x.1 (List.length (α := Val Y108) x.2 + 1) 0 x.2 with
  | some l => ((x.1, l), true)
  | none => failC)) else failC
def minN_pre (x : Val Y33) : Prop := isCell x = true
def minV (c : Val Y33) : Val Y33 × Bool := bif isCell c then minN (nrmV c.1 c.2) else failC
def g138 : G := { ps := [i33], rs := [i33, i4], dp := true, pre := fun _ => True, fn := fun x => ((minV x.1).1, (minV x.1).2, ()) }
noncomputable def m138_l1011 (N : Nat) (v19 : Int) (v20 : List (Val (hd Y108))) (v21 : List (Val Y108)) (v22 : Int) (v23 : List (Val Y108)) (v24 : Int) (v25 : Int) (v26 : List (Val (hd Y108))) (k9011 : (List (Val (hd Y108))) → Option (Vals [i33, i4])) (_ : Nat) : Option (Vals [i33, i4]) := chk (0 ≤ (0 : Int) ∧ (0 : Int) ≤ v19 ∧ v19 ≤ (v26.length : Int)) (chk (0 ≤ (IntKind.i64.wrap (v19 + (1 : Int))) ∧ (IntKind.i64.wrap (v19 + (1 : Int))) ≤ (v26.length : Int) ∧ (v26.length : Int) ≤ (v26.length : Int)) (chk (catH_pre ([((v26.take v19.toNat).drop (0 : Int).toNat), ((v26.take (v26.length : Int).toNat).drop (IntKind.i64.wrap (v19 + (1 : Int))).toNat)] : List (Val (.slice 108 (hd Y108))))) (k9011 ((catH ([((v26.take v19.toNat).drop (0 : Int).toNat), ((v26.take (v26.length : Int).toNat).drop (IntKind.i64.wrap (v19 + (1 : Int))).toNat)] : List (Val (.slice 108 (hd Y108))))) : List (Val (hd Y108))))))
noncomputable def m138_l10 (N : Nat) (v2 : List (Val (hd Y108))) (v3 : List (Val Y108)) (v4 : Int) (v5 : List (Val Y108)) (v6 : Int) (k0 : Int → (List (Val (hd Y108))) → Option (Vals [i33, i4])) : Nat → Int → Int → (List (Val (hd Y108))) → Option (Vals [i33, i4])
  | 0, _, _, _ => none
  | n + 1, v1, v7, v8 => bif (decide (v1 < (v8.length : Int))) then (m138_l1011 N v1 v2 v3 v4 v5 v6 v7 v8 (fun (v28 : List (Val (hd Y108))) => chk (0 ≤ v1 ∧ v1 < (v8.length : Int)) (chk (v1.toNat < v8.length) (chk (mixL Y108 v3 v2 = v2 ∧ ((∀ y ∈ v28, y ∈ v2) ∧ (v8.getD v1.toNat (dflt (hd Y108))) ∈ v2)) (bif (!((impV (v4, (v28.map (lk Y108 v2 v3))) (lk Y108 v2 v3 (v8.getD v1.toNat (dflt (hd Y108))))).2 : Bool)) then (some (((0 : Int), ([] : List (Val Y108))), false, ())) else (bif ((impV (v4, (v28.map (lk Y108 v2 v3))) (lk Y108 v2 v3 (v8.getD v1.toNat (dflt (hd Y108))))).1 : Bool) then (m138_l10 N v2 v3 v4 v5 v6 k0 n v1 v4 v28) else (m138_l10 N v2 v3 v4 v5 v6 k0 n (IntKind.i64.wrap (v1 + (1 : Int))) v7 v8)))))) N) else (k0 v7 v8)
noncomputable def m138 (N : Nat) (v0 : Val Y33) : Option (Vals [i33, i4]) := bif (!((nrmC v0).2 : Bool)) then (some (((0 : Int), ([] : List (Val Y108))), false, ())) else (bif (!((empV ((((nrmC v0).1).1 : Int), (((nrmC v0).1).2 : List (Val Y108)))).2 : Bool)) then (some (((0 : Int), ([] : List (Val Y108))), false, ())) else (bif ((empV ((((nrmC v0).1).1 : Int), (((nrmC v0).1).2 : List (Val Y108)))).1 : Bool) then (chk (noneC_pre (v0.1 : Int)) (some ((((noneC (v0.1 : Int)).1 : Int), ((noneC (v0.1 : Int)).2 : List (Val Y108))), true, ()))) else (allG (fun p1 : List Nat × List (Val (hd Y108)) => Good Y108 p1.2 (((nrmC v0).1).2 : List (Val Y108))) (fun p1 => m138_l10 N p1.2 (((nrmC v0).1).2 : List (Val Y108)) (v0.1 : Int) (v0.2 : List (Val Y108)) (0 : Int) (fun (v31 : Int) (v32 : List (Val (hd Y108))) => chk (v32 = (minS (((nrmC v0).1).2 : List (Val Y108))).map (fun i => p1.2.getD i (dflt (hd Y108))) ∧ (minS (((nrmC v0).1).2 : List (Val Y108))).Nodup ∧ (∀ i ∈ (minS (((nrmC v0).1).2 : List (Val Y108))), i < (((nrmC v0).1).2 : List (Val Y108)).length) ∧ mixL Y108 (((nrmC v0).1).2 : List (Val Y108)) p1.2 = p1.2 ∧ p1.2.length = (((nrmC v0).1).2 : List (Val Y108)).length) (some ((v31, ((minS (((nrmC v0).1).2 : List (Val Y108))).map (fun i => (((nrmC v0).1).2 : List (Val Y108)).getD i (dflt Y108)))), true, ()))) N (0 : Int) (((nrmC v0).1).1 : Int) p1.2))))
def Γ138 : Gam := [(212, g212), (213, g213), (215, g215), (219, gH219), (220, g220)]
theorem Γ138_212 : Gam.get Γ138 212 = some g212 := rfl
theorem Γ138_213 : Gam.get Γ138 213 = some g213 := rfl
theorem Γ138_215 : Gam.get Γ138 215 = some g215 := rfl
theorem Γ138_219 : Gam.get Γ138 219 = some gH219 := rfl
theorem Γ138_220 : Gam.get Γ138 220 = some g220 := rfl
def nl138_1011 : Nm := ⟨[false, true, true, false, true, false, false, true], [], false⟩
theorem nl138_1011_zero : nl138_1011.zero = false := rfl
theorem nl138_1011_fix : nl138_1011.fix = [] := rfl
theorem nl138_1011_keep : nl138_1011.keep = [false, true, true, false, true, false, false, true] := rfl
def nl138_10 : Nm := ⟨[false, true, true, false, true, false, false, true], [.frb 4 1 108 Y108], false⟩
theorem nl138_10_zero : nl138_10.zero = false := rfl
theorem nl138_10_fix : nl138_10.fix = [.frb 4 1 108 Y108] := rfl
theorem nl138_10_keep : nl138_10.keep = [false, true, true, false, true, false, false, true] := rfl
def nx138_0 : Nm := ⟨[false, false, true, false, true], [], false⟩
theorem nx138_0_zero : nx138_0.zero = false := rfl
theorem nx138_0_fix : nx138_0.fix = [] := rfl
theorem nx138_0_keep : nx138_0.keep = [false, false, true, false, true] := rfl
def nr138_11 : Nm := ⟨[false, true, true, false, true, false, false, true, true], [], false⟩
theorem nr138_11_zero : nr138_11.zero = false := rfl
theorem nr138_11_fix : nr138_11.fix = [] := rfl
theorem nr138_11_keep : nr138_11.keep = [false, true, true, false, true, false, false, true, true] := rfl
def tr138 : Nat → Tree := fun i => if i = 11 then .first 4 (.first 8 (.first 9 (.keep 0 (.keep 1 (.keep 2 (.keep 3 (.keep 6 (.keep 7 (.alt 5 (.alt 10 (.alt 11 (.alt 12 (.first 13 (.alt 14 (.alt 15 .done .stop) .stop)) (.alt 14 (.alt 12 (.quiet 13 (.alt 15 .done .stop)) .stop) .stop)) (.alt 14 (.alt 11 (.alt 12 (.quiet 13 (.alt 15 .done .stop)) .stop) .stop) .stop)) (.alt 14 (.alt 10 (.alt 11 (.alt 12 (.quiet 13 (.alt 15 .done .stop)) .stop) .stop) .stop) .stop)) (.alt 10 (.alt 5 (.alt 11 (.alt 12 (.first 13 (.alt 14 (.alt 15 .done .stop) .stop)) (.alt 14 (.alt 12 (.quiet 13 (.alt 15 .done .stop)) .stop) .stop)) (.alt 14 (.alt 11 (.alt 12 (.quiet 13 (.alt 15 .done .stop)) .stop) .stop) .stop)) (.alt 14 (.alt 5 (.alt 11 (.alt 12 (.quiet 13 (.alt 15 .done .stop)) .stop) .stop) .stop) .stop)) (.alt 14 (.alt 5 (.alt 10 (.alt 11 (.alt 12 (.quiet 13 (.alt 15 .done .stop)) .stop) .stop) .stop) (.alt 10 (.alt 5 (.alt 11 (.alt 12 (.quiet 13 (.alt 15 .done .stop)) .stop) .stop) .stop) .stop)) .stop))))))))))) else if i = 12 then .quiet 0 (.quiet 1 (.quiet 2 (.quiet 3 (.quiet 4 (.quiet 5 (.alt 6 (.quiet 7 (.quiet 8 (.quiet 9 (.quiet 10 (.quiet 11 .done))))) .stop)))))) else .done
def lp138 : Nat → Nm := fun i => if i = 10 then nl138_10 else ⟨[], [], false⟩
noncomputable def jn138 : Nat → Option Jn := fun i => if i = 11 then some (.nt nl138_1011 ttH) else if i = 9 then some (.at (some (.opn 2 Y108)) none) else if i = 18 then some (.at (some (.cls 3 0 Y108 minS)) none) else none
def ex138 : Nat → Option Nm := fun i => if i = 0 then some nx138_0 else none
def rg138 : Nat → Option Nm := fun i => if i = 11 then some nr138_11 else none
theorem p138 : plansOk tr138 (Tryz.f138.body.getD .skip) = true := by kernel_rfl
noncomputable def T138 (N : Nat) : Tab := { tr := tr138, lp := lp138, ex := ex138, rg := rg138, jn := jn138, fuel := N }
theorem T138_pins (N : Nat) : (T138 N).pins = false := rfl
theorem tb138 (N : Nat) : TbOk Tryz.prog (T138 N) := fun id j t h ht => by
  have h : jn138 id = _ := h
  unfold jn138 at h
  repeat' split at h
  all_goals first | (simp at h; done) | (simp only [Option.some.injEq] at h; subst h; simp [Jn.tb] at ht; done) | (simp only [Option.some.injEq] at h; subst h; simp only [Jn.tb, Option.some.injEq] at ht; subst ht; exact hTH)
theorem T138_tr (N : Nat) (i : Nat) : (T138 N).tr i = tr138 i := rfl
theorem T138_lp (N : Nat) (i : Nat) : (T138 N).lp i = lp138 i := rfl
theorem T138_ex (N : Nat) (i : Nat) : (T138 N).ex i = ex138 i := rfl
theorem T138_rg (N : Nat) (i : Nat) : (T138 N).rg i = rg138 i := rfl
theorem T138_jn (N : Nat) (i : Nat) : (T138 N).jn i = jn138 i := rfl
theorem T138_fuel (N : Nat) : (T138 N).fuel = N := rfl
noncomputable def c138_1011 : Code := cut [true, true, true, true, true, true, false, true, true, true, true, true, false] (Tryz.f138.body.getD .skip)
theorem c138_1011_at {N : Nat} {Q : X → St → Option (Vals [i33, i4])} {e : List LV} {h : List Blk} : joinR ttH Γ138 (T138 N) c138_1011 Q ⟨e, h⟩ = joinR ttH Γ138 (T138 N) (cut [true, true, true, true, true, true, false, true, true, true, true, true, false] (Tryz.f138.body.getD .skip)) Q ⟨e, h⟩ := rfl
theorem r138_l1011 (N : Nat) (F : List Nat) (v19 : Int) (v20 : List (Val (hd Y108))) (v21 : List (Val Y108)) (v22 : Int) (v23 : List (Val Y108)) (v24 : Int) (v25 : Int) (v26 : List (Val (hd Y108))) {k9011 : (List (Val (hd Y108))) → Option (Vals [i33, i4])} {Q : X → St → Option (Vals [i33, i4])} {c : Code} (hc : c = c138_1011) (h9011 : ∀ (v27 : List (Val (hd Y108))), Q .normal ⟨[u, .one (.ptr 1 0 0), .one (.ptr 2 0 0), u, .one (.ptr 3 0 0), u, u, .one (.int .i64 v19), .one (.ptr 4 0 0), u, u, u, u, u, u, u, u, u, u, u, u, u, u, u, u, u, u, u, u, u, u, u, u, u, u, u, u, u, u, u, u, u, u, u, u, u, u, u, u, u, u, u, u, u, u, u, u, u, u, u, u, u, u, u, u, u, u, u], [.nst F Y108 v20 v21, .box [.int .i64 v22, .sl 108 Y108 v23 7], .box [.int .i64 v24, .nils], .box [.int .i64 v25, .own 5], .box [.int .i64 v22, .own 6], .row 108 (hd Y108) v26 true false 0, .row 108 (hd Y108) v27 true true 0]⟩ = k9011 v27) : joinR ttH Γ138 (T138 N) c Q ⟨[u, .one (.ptr 1 0 0), .one (.ptr 2 0 0), u, .one (.ptr 3 0 0), u, u, .one (.int .i64 v19), u, u, u, u, u, u, u, u, u, u, u, u, u, u, u, u, u, u, u, u, u, u, u, u, u, u, u, u, u, u, u, u, u, u, u, u, u, u, u, u, u, u, u, u, u, u, u, u, u, u, u, u, u, u, u, u, u, u, u, u], [.nst F Y108 v20 v21, .box [.int .i64 v22, .sl 108 Y108 v23 5], .box [.int .i64 v24, .nils], .box [.int .i64 v25, .own 4], .row 108 (hd Y108) v26 true false 0]⟩ = m138_l1011 N v19 v20 v21 v22 v23 v24 v25 v26 k9011 N := by
  subst hc; rw [c138_1011_at, m138_l1011]; unfold Tryz.f138
  simp (maxSteps := 10000000) -implicitDefEqProofs [joinR_f (id := 11), joinR_d (id := 11), T138_tr, tr138, T138_lp, lp138, T138_ex, ex138, T138_rg, rg138, T138_jn, jn138, T138_fuel, T138_pins, chk_comm, joinR_f (id := 9), joinR_d (id := 9), joinR_f (id := 18), joinR_d (id := 18), nl138_1011_fix, nl138_1011_keep, nl138_1011_zero, nl138_10_fix, nl138_10_keep, nl138_10_zero, nx138_0_fix, nx138_0_keep, nx138_0_zero, nr138_11_fix, nr138_11_keep, nr138_11_zero, Γ138_212, Γ138_213, Γ138_215, Γ138_219, Γ138_220, g212, g213, g215, gH219, g220, h9011]
noncomputable def c138_10 : Code := cut [true, true, true, true, true, true, false, true, true, true] (Tryz.f138.body.getD .skip)
theorem c138_10_at {N : Nat} {Q : X → St → Option (Vals [i33, i4])} {e : List LV} {h : List Blk} : runT tt Γ138 (T138 N) c138_10 Q ⟨e, h⟩ = runT tt Γ138 (T138 N) (cut [true, true, true, true, true, true, false, true, true, true] (Tryz.f138.body.getD .skip)) Q ⟨e, h⟩ := rfl
theorem r138_l10 (N : Nat) (F : List Nat) (v2 : List (Val (hd Y108))) (v3 : List (Val Y108)) (v4 : Int) (v5 : List (Val Y108)) (v6 : Int) {k0 : Int → (List (Val (hd Y108))) → Option (Vals [i33, i4])} {Q : X → St → Option (Vals [i33, i4])} {c : Code} (hc : c = c138_10) (hret : ∀ st, Q .ret st = retS tt true [i33, i4] [.cell 2 33, .tmp 3] st) (h0 : ∀ (v29 : Int) (v30 : List (Val (hd Y108))), Q (.exit 0) ⟨[u, u, .one (.ptr 1 0 0), u, .one (.ptr 2 0 0), u, u, u, u, u, u, u, u, u, u, u, u, u, u, u, u, u, u, u, u, u, u, u, u, u, u, u, u, u, u, u, u, u, u, u, u, u, u, u, u, u, u, u, u, u, u, u, u, u, u, u, u, u, u, u, u, u, u, u, u, u, u, u], [.nst F Y108 v2 v3, .box [.int .i64 v6, .nils], .box [.int .i64 v29, .own 3], .row 108 (hd Y108) v30 true false 0]⟩ = k0 v29 v30) : ∀ (n : Nat) (v1 : Int) (v7 : Int) (v8 : List (Val (hd Y108))), loopR (runT tt Γ138 (T138 N) c) false nl138_10 Q n ⟨[u, .one (.ptr 1 0 0), .one (.ptr 2 0 0), u, .one (.ptr 3 0 0), u, u, .one (.int .i64 v1), u, u, u, u, u, u, u, u, u, u, u, u, u, u, u, u, u, u, u, u, u, u, u, u, u, u, u, u, u, u, u, u, u, u, u, u, u, u, u, u, u, u, u, u, u, u, u, u, u, u, u, u, u, u, u, u, u, u, u, u], [.nst F Y108 v2 v3, .box [.int .i64 v4, .sl 108 Y108 v5 5], .box [.int .i64 v6, .nils], .box [.int .i64 v7, .own 4], .row 108 (hd Y108) v8 true false 0]⟩ = m138_l10 N v2 v3 v4 v5 v6 k0 n v1 v7 v8 := by
  subst hc; intro n; induction n with
  | zero => intros; rfl
  | succ n ih =>
    intro v1 v7 v8
    rw [loop_succ, c138_10_at]; unfold Tryz.f138
    simp (maxSteps := 10000000) -implicitDefEqProofs [T138_tr, tr138, T138_lp, lp138, T138_ex, ex138, T138_rg, rg138, T138_jn, jn138, T138_fuel, T138_pins, joinR_f (id := 9), joinR_d (id := 9), joinR_f (id := 18), joinR_d (id := 18), nl138_1011_fix, nl138_1011_keep, nl138_1011_zero, nl138_10_fix, nl138_10_keep, nl138_10_zero, nx138_0_fix, nx138_0_keep, nx138_0_zero, nr138_11_fix, nr138_11_keep, nr138_11_zero, Γ138_212, Γ138_213, Γ138_215, Γ138_219, Γ138_220, g212, g213, g215, gH219, g220, hret, h0, ih]
    rewrite [r138_l1011 (k9011 := (fun (v28 : List (Val (hd Y108))) => chk (0 ≤ v1 ∧ v1 < (v8.length : Int)) (chk (v1.toNat < v8.length) (chk (mixL Y108 v3 v2 = v2 ∧ ((∀ y ∈ v28, y ∈ v2) ∧ (v8.getD v1.toNat (dflt (hd Y108))) ∈ v2)) (bif (!((impV (v4, (v28.map (lk Y108 v2 v3))) (lk Y108 v2 v3 (v8.getD v1.toNat (dflt (hd Y108))))).2 : Bool)) then (some (((0 : Int), ([] : List (Val Y108))), false, ())) else (bif ((impV (v4, (v28.map (lk Y108 v2 v3))) (lk Y108 v2 v3 (v8.getD v1.toNat (dflt (hd Y108))))).1 : Bool) then (m138_l10 N v2 v3 v4 v5 v6 k0 n v1 v4 v28) else (m138_l10 N v2 v3 v4 v5 v6 k0 n (IntKind.i64.wrap (v1 + (1 : Int))) v7 v8))))))) N _ _ _ _ _ _ _ _ _ ?_ ?_]
    · rewrite [m138_l10]; first | rfl | simp (maxSteps := 10000000) -implicitDefEqProofs [ih]
    · rfl
    · intro v28; simp (maxSteps := 10000000) -implicitDefEqProofs [T138_tr, tr138, T138_lp, lp138, T138_ex, ex138, T138_rg, rg138, T138_jn, jn138, T138_fuel, T138_pins, joinR_f (id := 9), joinR_d (id := 9), joinR_f (id := 18), joinR_d (id := 18), nl138_1011_fix, nl138_1011_keep, nl138_1011_zero, nl138_10_fix, nl138_10_keep, nl138_10_zero, nx138_0_fix, nx138_0_keep, nx138_0_zero, nr138_11_fix, nr138_11_keep, nr138_11_zero, Γ138_212, Γ138_213, Γ138_215, Γ138_219, Γ138_220, g212, g213, g215, gH219, g220, hret, h0, ih]
theorem run138 (N : Nat) (v0 : Val Y33) : runT tt Γ138 (T138 N) (Tryz.f138.body.getD .skip) (retR tt true [i33, i4] [.cell 2 33, .tmp 3]) (entryP [i33] 68 (v0, ())) = m138 N v0 := by
  unfold Tryz.f138
  simp (maxSteps := 10000000) -implicitDefEqProofs [T138_tr, tr138, T138_lp, lp138, T138_ex, ex138, T138_rg, rg138, T138_jn, jn138, T138_fuel, T138_pins, joinR_f (id := 9), joinR_d (id := 9), joinR_f (id := 18), joinR_d (id := 18), nl138_1011_fix, nl138_1011_keep, nl138_1011_zero, nl138_10_fix, nl138_10_keep, nl138_10_zero, nx138_0_fix, nx138_0_keep, nx138_0_zero, nr138_11_fix, nr138_11_keep, nr138_11_zero, Γ138_212, Γ138_213, Γ138_215, Γ138_219, Γ138_220, g212, g213, g215, gH219, g220]
  rewrite [m138]
  simp only [Bool.cond_not]
  repeat' (first | with_reducible rfl | refine chk_congr fun _ => ?_ | refine allG_congr fun p1 _ => ?_ | refine cond_cg ?_ ?_ | (refine congrArg some ?_; rfl))
  rewrite [r138_l10 (k0 := (fun (v31 : Int) (v32 : List (Val (hd Y108))) => chk (v32 = (minS (((nrmC v0).1).2 : List (Val Y108))).map (fun i => p1.2.getD i (dflt (hd Y108))) ∧ (minS (((nrmC v0).1).2 : List (Val Y108))).Nodup ∧ (∀ i ∈ (minS (((nrmC v0).1).2 : List (Val Y108))), i < (((nrmC v0).1).2 : List (Val Y108)).length) ∧ mixL Y108 (((nrmC v0).1).2 : List (Val Y108)) p1.2 = p1.2 ∧ p1.2.length = (((nrmC v0).1).2 : List (Val Y108)).length) (some ((v31, ((minS (((nrmC v0).1).2 : List (Val Y108))).map (fun i => (((nrmC v0).1).2 : List (Val Y108)).getD i (dflt Y108)))), true, ())))) N _ _ _ _ _ _ ?_ ?_ ?_]
  · first | rfl | simp (maxSteps := 10000000) -implicitDefEqProofs []
  · rfl
  · intro; simp only [seqR_ret, blockR_ret, retR_ret, retX_ret]
  · intro v31 v32; simp (maxSteps := 10000000) -implicitDefEqProofs [T138_tr, tr138, T138_lp, lp138, T138_ex, ex138, T138_rg, rg138, T138_jn, jn138, T138_fuel, T138_pins, joinR_f (id := 9), joinR_d (id := 9), joinR_f (id := 18), joinR_d (id := 18), nl138_1011_fix, nl138_1011_keep, nl138_1011_zero, nl138_10_fix, nl138_10_keep, nl138_10_zero, nx138_0_fix, nx138_0_keep, nx138_0_zero, nr138_11_fix, nr138_11_keep, nr138_11_zero, Γ138_212, Γ138_213, Γ138_215, Γ138_219, Γ138_220, g212, g213, g215, gH219, g220]
def cpC (c : Val Y33) : Val Y33 := c
def cpC_pre (c : Val Y33) : Prop := Bd Y33 c
def g210 : G := { ps := [i33], rs := [i33], dp := true, pre := fun x => cpC_pre x.1, fn := fun x => (cpC x.1, ()) }
noncomputable def m210_l3 (N : Nat) (v2 : Int) (v3 : List (Val Y108)) (v4 : Int) (v5 : Int) (k0 : (List (Val Y108)) → Option (Vals [i33])) : Nat → Int → (List (Val Y108)) → Option (Vals [i33])
  | 0, _, _ => none
  | n + 1, v1, v6 => bif (decide (v1 < (v3.length : Int))) then (chk (0 ≤ v1 ∧ v1 < (v3.length : Int)) (chk (idA_pre (v3.getD v1.toNat (dflt Y108))) (chk (v6.length + ([(((idA (v3.getD v1.toNat (dflt Y108))).1 : List (Val (.int .i64))), (((idA (v3.getD v1.toNat (dflt Y108))).2).1 : Int), (((idA (v3.getD v1.toNat (dflt Y108))).2).2 : Bool))] : List (Val Y108)).length ≤ 1048576) (m210_l3 N v2 v3 v4 v5 k0 n (IntKind.i64.wrap (v1 + (1 : Int))) (v6 ++ ([(((idA (v3.getD v1.toNat (dflt Y108))).1 : List (Val (.int .i64))), (((idA (v3.getD v1.toNat (dflt Y108))).2).1 : Int), (((idA (v3.getD v1.toNat (dflt Y108))).2).2 : Bool))] : List (Val Y108))))))) else (k0 v6)
noncomputable def m210 (N : Nat) (v0 : Val Y33) : Option (Vals [i33]) := m210_l3 N (v0.1 : Int) (v0.2 : List (Val Y108)) (0 : Int) (v0.1 : Int) (fun (v8 : List (Val Y108)) => some (((v0.1 : Int), v8), ())) N (0 : Int) ([] : List (Val Y108))
def Γ210 : Gam := [(234, g234)]
theorem Γ210_234 : Gam.get Γ210 234 = some g234 := rfl
def nl210_3 : Nm := ⟨[false, true, true, true, true], [.box 3 1 108 Y108], false⟩
theorem nl210_3_zero : nl210_3.zero = false := rfl
theorem nl210_3_fix : nl210_3.fix = [.box 3 1 108 Y108] := rfl
theorem nl210_3_keep : nl210_3.keep = [false, true, true, true, true] := rfl
def nx210_0 : Nm := ⟨[false, false, true, true], [], false⟩
theorem nx210_0_zero : nx210_0.zero = false := rfl
theorem nx210_0_fix : nx210_0.fix = [] := rfl
theorem nx210_0_keep : nx210_0.keep = [false, false, true, true] := rfl
def nr210_5 : Nm := ⟨[false, true, true, true, true], [], false⟩
theorem nr210_5_zero : nr210_5.zero = false := rfl
theorem nr210_5_fix : nr210_5.fix = [] := rfl
theorem nr210_5_keep : nr210_5.keep = [false, true, true, true, true] := rfl
def tr210 : Nat → Tree := fun i => if i = 5 then .quiet 2 (.quiet 3 (.quiet 4 (.quiet 5 (.quiet 6 (.alt 0 (.alt 1 (.alt 7 (.alt 8 (.alt 9 (.quiet 10 (.alt 11 .done .stop)) .stop) .stop) .stop) (.alt 7 (.alt 1 (.alt 8 (.alt 9 (.quiet 10 (.alt 11 .done .stop)) .stop) .stop) (.alt 8 (.quiet 1 (.alt 9 (.quiet 10 (.alt 11 .done .stop)) .stop)) .stop)) .stop)) (.alt 7 (.alt 0 (.alt 1 (.alt 8 (.alt 9 (.quiet 10 (.alt 11 .done .stop)) .stop) .stop) (.alt 8 (.quiet 1 (.alt 9 (.quiet 10 (.alt 11 .done .stop)) .stop)) .stop)) (.alt 8 (.quiet 0 (.quiet 1 (.alt 9 (.quiet 10 (.alt 11 .done .stop)) .stop))) .stop)) .stop)))))) else .done
def lp210 : Nat → Nm := fun i => if i = 3 then nl210_3 else ⟨[], [], false⟩
def jn210 : Nat → Option Jn := fun _ => none
def ex210 : Nat → Option Nm := fun i => if i = 0 then some nx210_0 else none
def rg210 : Nat → Option Nm := fun i => if i = 5 then some nr210_5 else none
theorem p210 : plansOk tr210 (Tryz.f210.body.getD .skip) = true := by kernel_rfl
def T210 (N : Nat) : Tab := { tr := tr210, lp := lp210, ex := ex210, rg := rg210, jn := jn210, fuel := N }
theorem T210_pins (N : Nat) : (T210 N).pins = false := rfl
theorem tb210 (N : Nat) : TbOk Tryz.prog (T210 N) := tb_none fun _ => rfl
theorem T210_tr (N : Nat) (i : Nat) : (T210 N).tr i = tr210 i := rfl
theorem T210_lp (N : Nat) (i : Nat) : (T210 N).lp i = lp210 i := rfl
theorem T210_ex (N : Nat) (i : Nat) : (T210 N).ex i = ex210 i := rfl
theorem T210_rg (N : Nat) (i : Nat) : (T210 N).rg i = rg210 i := rfl
theorem T210_jn (N : Nat) (i : Nat) : (T210 N).jn i = jn210 i := rfl
theorem T210_fuel (N : Nat) : (T210 N).fuel = N := rfl
noncomputable def c210_3 : Code := cut [true, true, false, true, true, true] (Tryz.f210.body.getD .skip)
theorem c210_3_at {N : Nat} {Q : X → St → Option (Vals [i33])} {e : List LV} {h : List Blk} : runT tt Γ210 (T210 N) c210_3 Q ⟨e, h⟩ = runT tt Γ210 (T210 N) (cut [true, true, false, true, true, true] (Tryz.f210.body.getD .skip)) Q ⟨e, h⟩ := rfl
theorem r210_l3 (N : Nat) (v2 : Int) (v3 : List (Val Y108)) (v4 : Int) (v5 : Int) {k0 : (List (Val Y108)) → Option (Vals [i33])} {Q : X → St → Option (Vals [i33])} {c : Code} (hc : c = c210_3) (hret : ∀ st, Q .ret st = retS tt true [i33] [.cell 2 33] st) (h0 : ∀ (v7 : List (Val Y108)), Q (.exit 0) ⟨[u, u, .one (.ptr 0 0 0), .one (.ptr 1 0 0), u, u, u, u, u, u, u, u, u, u, u, u, u, u, u, u, u, u, u, u, u, u, u], [.box [.int .i64 v4, .nils], .box [.int .i64 v5, .own 2], .row 108 Y108 v7 true true 0]⟩ = k0 v7) : ∀ (n : Nat) (v1 : Int) (v6 : List (Val Y108)), loopR (runT tt Γ210 (T210 N) c) false nl210_3 Q n ⟨[u, .one (.ptr 0 0 0), .one (.ptr 1 0 0), .one (.ptr 2 0 0), .one (.int .i64 v1), u, u, u, u, u, u, u, u, u, u, u, u, u, u, u, u, u, u, u, u, u, u], [.box [.int .i64 v2, .sl 108 Y108 v3 4], .box [.int .i64 v4, .nils], .box [.int .i64 v5, .own 3], .row 108 Y108 v6 true true 0]⟩ = m210_l3 N v2 v3 v4 v5 k0 n v1 v6 := by
  subst hc; intro n; induction n with
  | zero => intros; rfl
  | succ n ih =>
    intro v1 v6
    rw [loop_succ, c210_3_at, m210_l3]; unfold Tryz.f210
    simp (maxSteps := 10000000) -implicitDefEqProofs [T210_tr, tr210, T210_lp, lp210, T210_ex, ex210, T210_rg, rg210, T210_jn, jn210, T210_fuel, T210_pins, nl210_3_fix, nl210_3_keep, nl210_3_zero, nx210_0_fix, nx210_0_keep, nx210_0_zero, nr210_5_fix, nr210_5_keep, nr210_5_zero, Γ210_234, g234, hret, h0, ih]
theorem run210 (N : Nat) (v0 : Val Y33) : runT tt Γ210 (T210 N) (Tryz.f210.body.getD .skip) (retR tt true [i33] [.cell 2 33]) (entryP [i33] 27 (v0, ())) = m210 N v0 := by
  unfold Tryz.f210
  simp (maxSteps := 10000000) -implicitDefEqProofs [T210_tr, tr210, T210_lp, lp210, T210_ex, ex210, T210_rg, rg210, T210_jn, jn210, T210_fuel, T210_pins, nl210_3_fix, nl210_3_keep, nl210_3_zero, nx210_0_fix, nx210_0_keep, nx210_0_zero, nr210_5_fix, nr210_5_keep, nr210_5_zero, Γ210_234, g234]
  rewrite [r210_l3 (k0 := (fun (v8 : List (Val Y108)) => some (((v0.1 : Int), v8), ()))) N _ _ _ _ ?_ ?_ ?_]
  · rewrite [m210]; first | rfl | simp (maxSteps := 10000000) -implicitDefEqProofs []
  · rfl
  · intro; simp only [seqR_ret, blockR_ret, retR_ret, retX_ret]
  · intro v8; simp (maxSteps := 10000000) -implicitDefEqProofs [T210_tr, tr210, T210_lp, lp210, T210_ex, ex210, T210_rg, rg210, T210_jn, jn210, T210_fuel, T210_pins, nl210_3_fix, nl210_3_keep, nl210_3_zero, nx210_0_fix, nx210_0_keep, nx210_0_zero, nr210_5_fix, nr210_5_keep, nr210_5_zero, Γ210_234, g234]
def g217 : G := { ps := [i33], rs := [i33, i4], dp := true, pre := fun x => minN_pre x.1, fn := fun x => ((minN x.1).1, (minN x.1).2, ()) }
noncomputable def m217_l1009 (N : Nat) (v15 : Int) (v16 : Int) (v17 : List (Val Y108)) (v18 : Int) (v19 : Int) (v20 : List (Val Y108)) (k9009 : (List (Val Y108)) → Option (Vals [i33, i4])) (_ : Nat) : Option (Vals [i33, i4]) := chk (0 ≤ (0 : Int) ∧ (0 : Int) ≤ v15 ∧ v15 ≤ (v20.length : Int)) (chk (([] : List (Val Y108)).length + ((v20.take v15.toNat).drop (0 : Int).toNat).length ≤ 1048576) (chk (0 ≤ (IntKind.i64.wrap (v15 + (1 : Int))) ∧ (IntKind.i64.wrap (v15 + (1 : Int))) ≤ (v20.length : Int) ∧ (v20.length : Int) ≤ (v20.length : Int)) (chk ((([] : List (Val Y108)) ++ ((v20.take v15.toNat).drop (0 : Int).toNat)).length + ((v20.take (v20.length : Int).toNat).drop (IntKind.i64.wrap (v15 + (1 : Int))).toNat).length ≤ 1048576) (k9009 ((([] : List (Val Y108)) ++ ((v20.take v15.toNat).drop (0 : Int).toNat)) ++ ((v20.take (v20.length : Int).toNat).drop (IntKind.i64.wrap (v15 + (1 : Int))).toNat))))))
noncomputable def m217_l8 (N : Nat) (v2 : Int) (v3 : List (Val Y108)) (v4 : Int) (k0 : Int → (List (Val Y108)) → Option (Vals [i33, i4])) : Nat → Int → Int → (List (Val Y108)) → Option (Vals [i33, i4])
  | 0, _, _, _ => none
  | n + 1, v1, v5, v6 => bif (decide (v1 < (v6.length : Int))) then (m217_l1009 N v1 v2 v3 v4 v5 v6 (fun (v22 : List (Val Y108)) => chk (0 ≤ v1 ∧ v1 < (v6.length : Int)) (chk (v1.toNat < v6.length) (chk (impV_pre (v2, v22) (v6.getD v1.toNat (dflt Y108))) (bif (!((impV (v2, v22) (v6.getD v1.toNat (dflt Y108))).2 : Bool)) then (some (((0 : Int), ([] : List (Val Y108))), false, ())) else (bif ((impV (v2, v22) (v6.getD v1.toNat (dflt Y108))).1 : Bool) then (chk (cpC_pre (v2, v22)) (m217_l8 N v2 v3 v4 k0 n v1 ((cpC (v2, v22)).1 : Int) ((cpC (v2, v22)).2 : List (Val Y108)))) else (m217_l8 N v2 v3 v4 k0 n (IntKind.i64.wrap (v1 + (1 : Int))) v5 v6)))))) N) else (k0 v5 v6)
noncomputable def m217 (N : Nat) (v0 : Val Y33) : Option (Vals [i33, i4]) := chk (empV_pre v0) (bif (!((empV v0).2 : Bool)) then (some (((0 : Int), ([] : List (Val Y108))), false, ())) else (bif ((empV v0).1 : Bool) then (chk (noneC_pre (v0.1 : Int)) (some ((((noneC (v0.1 : Int)).1 : Int), ((noneC (v0.1 : Int)).2 : List (Val Y108))), true, ()))) else (chk (cpC_pre v0) (m217_l8 N (v0.1 : Int) (v0.2 : List (Val Y108)) (0 : Int) (fun (v25 : Int) (v26 : List (Val Y108)) => some ((v25, v26), true, ())) N (0 : Int) ((cpC v0).1 : Int) ((cpC v0).2 : List (Val Y108))))))
def Γ217 : Gam := [(208, g208), (209, g209), (210, g210), (283, g283)]
theorem Γ217_208 : Gam.get Γ217 208 = some g208 := rfl
theorem Γ217_209 : Gam.get Γ217 209 = some g209 := rfl
theorem Γ217_210 : Gam.get Γ217 210 = some g210 := rfl
theorem Γ217_283 : Gam.get Γ217 283 = some g283 := rfl
def nl217_1009 : Nm := ⟨[false, true, true, false, false, false, true, true], [], false⟩
theorem nl217_1009_zero : nl217_1009.zero = false := rfl
theorem nl217_1009_fix : nl217_1009.fix = [] := rfl
theorem nl217_1009_keep : nl217_1009.keep = [false, true, true, false, false, false, true, true] := rfl
def nl217_8 : Nm := ⟨[false, true, true, false, false, false, true, true], [.frb 6 1 108 Y108], false⟩
theorem nl217_8_zero : nl217_8.zero = false := rfl
theorem nl217_8_fix : nl217_8.fix = [.frb 6 1 108 Y108] := rfl
theorem nl217_8_keep : nl217_8.keep = [false, true, true, false, false, false, true, true] := rfl
def nx217_0 : Nm := ⟨[false, false, true, false, false, false, true], [], false⟩
theorem nx217_0_zero : nx217_0.zero = false := rfl
theorem nx217_0_fix : nx217_0.fix = [] := rfl
theorem nx217_0_keep : nx217_0.keep = [false, false, true, false, false, false, true] := rfl
def nr217_9 : Nm := ⟨[false, true, true, false, false, false, true, true, true], [], false⟩
theorem nr217_9_zero : nr217_9.zero = false := rfl
theorem nr217_9_fix : nr217_9.fix = [] := rfl
theorem nr217_9_keep : nr217_9.keep = [false, true, true, false, false, false, true, true, true] := rfl
def tr217 : Nat → Tree := fun i => if i = 9 then .first 5 (.first 10 (.first 11 (.keep 0 (.keep 1 (.keep 3 (.keep 4 (.keep 8 (.keep 9 (.alt 2 (.alt 6 (.alt 7 (.alt 12 (.alt 13 (.first 14 (.alt 15 (.alt 16 .done .stop) .stop)) (.alt 15 (.alt 13 (.quiet 14 (.alt 16 .done .stop)) .stop) .stop)) (.alt 15 (.alt 12 (.alt 13 (.quiet 14 (.alt 16 .done .stop)) .stop) .stop) .stop)) (.alt 12 (.alt 7 (.alt 13 (.first 14 (.alt 15 (.alt 16 .done .stop) .stop)) (.alt 15 (.alt 13 (.quiet 14 (.alt 16 .done .stop)) .stop) .stop)) (.alt 15 (.alt 7 (.alt 13 (.quiet 14 (.alt 16 .done .stop)) .stop) .stop) .stop)) (.alt 15 (.alt 7 (.alt 12 (.alt 13 (.quiet 14 (.alt 16 .done .stop)) .stop) .stop) (.alt 12 (.alt 7 (.alt 13 (.quiet 14 (.alt 16 .done .stop)) .stop) .stop) .stop)) .stop))) (.alt 12 (.alt 6 (.alt 7 (.alt 13 (.first 14 (.alt 15 (.alt 16 .done .stop) .stop)) (.alt 15 (.alt 13 (.quiet 14 (.alt 16 .done .stop)) .stop) .stop)) (.alt 15 (.alt 7 (.alt 13 (.quiet 14 (.alt 16 .done .stop)) .stop) .stop) .stop)) (.alt 15 (.alt 6 (.alt 7 (.alt 13 (.quiet 14 (.alt 16 .done .stop)) .stop) .stop) .stop) .stop)) (.alt 15 (.alt 6 (.alt 7 (.alt 12 (.alt 13 (.quiet 14 (.alt 16 .done .stop)) .stop) .stop) (.alt 12 (.alt 7 (.alt 13 (.quiet 14 (.alt 16 .done .stop)) .stop) .stop) .stop)) (.alt 12 (.alt 6 (.alt 7 (.alt 13 (.quiet 14 (.alt 16 .done .stop)) .stop) .stop) .stop) .stop)) .stop))) (.alt 6 (.alt 2 (.alt 7 (.alt 12 (.alt 13 (.first 14 (.alt 15 (.alt 16 .done .stop) .stop)) (.alt 15 (.alt 13 (.quiet 14 (.alt 16 .done .stop)) .stop) .stop)) (.alt 15 (.alt 12 (.alt 13 (.quiet 14 (.alt 16 .done .stop)) .stop) .stop) .stop)) (.alt 12 (.alt 7 (.alt 13 (.first 14 (.alt 15 (.alt 16 .done .stop) .stop)) (.alt 15 (.alt 13 (.quiet 14 (.alt 16 .done .stop)) .stop) .stop)) (.alt 15 (.alt 7 (.alt 13 (.quiet 14 (.alt 16 .done .stop)) .stop) .stop) .stop)) (.alt 15 (.alt 7 (.alt 12 (.alt 13 (.quiet 14 (.alt 16 .done .stop)) .stop) .stop) (.alt 12 (.alt 7 (.alt 13 (.quiet 14 (.alt 16 .done .stop)) .stop) .stop) .stop)) .stop))) (.alt 12 (.alt 2 (.alt 7 (.alt 13 (.first 14 (.alt 15 (.alt 16 .done .stop) .stop)) (.alt 15 (.alt 13 (.quiet 14 (.alt 16 .done .stop)) .stop) .stop)) (.alt 15 (.alt 7 (.alt 13 (.quiet 14 (.alt 16 .done .stop)) .stop) .stop) .stop)) (.alt 15 (.alt 2 (.alt 7 (.alt 13 (.quiet 14 (.alt 16 .done .stop)) .stop) .stop) .stop) .stop)) (.alt 15 (.alt 2 (.alt 7 (.alt 12 (.alt 13 (.quiet 14 (.alt 16 .done .stop)) .stop) .stop) (.alt 12 (.alt 7 (.alt 13 (.quiet 14 (.alt 16 .done .stop)) .stop) .stop) .stop)) (.alt 12 (.alt 2 (.alt 7 (.alt 13 (.quiet 14 (.alt 16 .done .stop)) .stop) .stop) .stop) .stop)) .stop))) (.alt 12 (.alt 2 (.alt 6 (.alt 7 (.alt 13 (.first 14 (.alt 15 (.alt 16 .done .stop) .stop)) (.alt 15 (.alt 13 (.quiet 14 (.alt 16 .done .stop)) .stop) .stop)) (.alt 15 (.alt 7 (.alt 13 (.quiet 14 (.alt 16 .done .stop)) .stop) .stop) .stop)) (.alt 15 (.alt 6 (.alt 7 (.alt 13 (.quiet 14 (.alt 16 .done .stop)) .stop) .stop) .stop) .stop)) (.alt 6 (.alt 2 (.alt 7 (.alt 13 (.first 14 (.alt 15 (.alt 16 .done .stop) .stop)) (.alt 15 (.alt 13 (.quiet 14 (.alt 16 .done .stop)) .stop) .stop)) (.alt 15 (.alt 7 (.alt 13 (.quiet 14 (.alt 16 .done .stop)) .stop) .stop) .stop)) (.alt 15 (.alt 2 (.alt 7 (.alt 13 (.quiet 14 (.alt 16 .done .stop)) .stop) .stop) .stop) .stop)) (.alt 15 (.alt 2 (.alt 6 (.alt 7 (.alt 13 (.quiet 14 (.alt 16 .done .stop)) .stop) .stop) .stop) (.alt 6 (.alt 2 (.alt 7 (.alt 13 (.quiet 14 (.alt 16 .done .stop)) .stop) .stop) .stop) .stop)) .stop))) (.alt 15 (.alt 2 (.alt 6 (.alt 7 (.alt 12 (.alt 13 (.quiet 14 (.alt 16 .done .stop)) .stop) .stop) (.alt 12 (.alt 7 (.alt 13 (.quiet 14 (.alt 16 .done .stop)) .stop) .stop) .stop)) (.alt 12 (.alt 6 (.alt 7 (.alt 13 (.quiet 14 (.alt 16 .done .stop)) .stop) .stop) .stop) .stop)) (.alt 6 (.alt 2 (.alt 7 (.alt 12 (.alt 13 (.quiet 14 (.alt 16 .done .stop)) .stop) .stop) (.alt 12 (.alt 7 (.alt 13 (.quiet 14 (.alt 16 .done .stop)) .stop) .stop) .stop)) (.alt 12 (.alt 2 (.alt 7 (.alt 13 (.quiet 14 (.alt 16 .done .stop)) .stop) .stop) .stop) .stop)) (.alt 12 (.alt 2 (.alt 6 (.alt 7 (.alt 13 (.quiet 14 (.alt 16 .done .stop)) .stop) .stop) .stop) (.alt 6 (.alt 2 (.alt 7 (.alt 13 (.quiet 14 (.alt 16 .done .stop)) .stop) .stop) .stop) .stop)) .stop))) .stop)))))))))))) else if i = 10 then .quiet 0 (.quiet 1 (.quiet 2 (.quiet 3 (.quiet 4 (.quiet 5 (.alt 6 (.quiet 7 (.quiet 8 (.quiet 9 (.quiet 10 (.quiet 11 .done))))) .stop)))))) else .done
def lp217 : Nat → Nm := fun i => if i = 8 then nl217_8 else ⟨[], [], false⟩
def jn217 : Nat → Option Jn := fun i => if i = 9 then some (.nm nl217_1009) else none
def ex217 : Nat → Option Nm := fun i => if i = 0 then some nx217_0 else none
def rg217 : Nat → Option Nm := fun i => if i = 9 then some nr217_9 else none
theorem p217 : plansOk tr217 (Tryz.f217.body.getD .skip) = true := by kernel_rfl
def T217 (N : Nat) : Tab := { tr := tr217, lp := lp217, ex := ex217, rg := rg217, jn := jn217, fuel := N }
theorem T217_pins (N : Nat) : (T217 N).pins = false := rfl
theorem tb217 (N : Nat) : TbOk Tryz.prog (T217 N) := fun id j t h ht => by
  have h : jn217 id = _ := h
  unfold jn217 at h
  repeat' split at h
  all_goals first | (simp at h; done) | (simp only [Option.some.injEq] at h; subst h; simp [Jn.tb] at ht; done) | (simp only [Option.some.injEq] at h; subst h; simp only [Jn.tb, Option.some.injEq] at ht; subst ht; exact hTH)
theorem T217_tr (N : Nat) (i : Nat) : (T217 N).tr i = tr217 i := rfl
theorem T217_lp (N : Nat) (i : Nat) : (T217 N).lp i = lp217 i := rfl
theorem T217_ex (N : Nat) (i : Nat) : (T217 N).ex i = ex217 i := rfl
theorem T217_rg (N : Nat) (i : Nat) : (T217 N).rg i = rg217 i := rfl
theorem T217_jn (N : Nat) (i : Nat) : (T217 N).jn i = jn217 i := rfl
theorem T217_fuel (N : Nat) : (T217 N).fuel = N := rfl
noncomputable def c217_1009 : Code := cut [true, true, true, true, true, false, true, true, true, true, true, false] (Tryz.f217.body.getD .skip)
theorem c217_1009_at {N : Nat} {Q : X → St → Option (Vals [i33, i4])} {e : List LV} {h : List Blk} : joinR tt Γ217 (T217 N) c217_1009 Q ⟨e, h⟩ = joinR tt Γ217 (T217 N) (cut [true, true, true, true, true, false, true, true, true, true, true, false] (Tryz.f217.body.getD .skip)) Q ⟨e, h⟩ := rfl
theorem r217_l1009 (N : Nat) (v15 : Int) (v16 : Int) (v17 : List (Val Y108)) (v18 : Int) (v19 : Int) (v20 : List (Val Y108)) {k9009 : (List (Val Y108)) → Option (Vals [i33, i4])} {Q : X → St → Option (Vals [i33, i4])} {c : Code} (hc : c = c217_1009) (h9009 : ∀ (v21 : List (Val Y108)), Q .normal ⟨[u, .one (.ptr 0 0 0), .one (.ptr 1 0 0), u, u, u, .one (.ptr 2 0 0), .one (.int .i64 v15), .one (.ptr 3 0 0), u, u, u, u, u, u, u, u, u, u, u, u, u, u, u, u, u, u, u, u, u, u, u, u, u, u, u, u, u, u, u, u, u, u, u, u, u, u, u, u, u, u, u, u, u, u, u, u, u, u, u, u, u, u, u], [.box [.int .i64 v16, .sl 108 Y108 v17 6], .box [.int .i64 v18, .nils], .box [.int .i64 v19, .own 4], .box [.int .i64 v16, .own 5], .row 108 Y108 v20 true false 0, .row 108 Y108 v21 false true 6]⟩ = k9009 v21) : joinR tt Γ217 (T217 N) c Q ⟨[u, .one (.ptr 0 0 0), .one (.ptr 1 0 0), u, u, u, .one (.ptr 2 0 0), .one (.int .i64 v15), u, u, u, u, u, u, u, u, u, u, u, u, u, u, u, u, u, u, u, u, u, u, u, u, u, u, u, u, u, u, u, u, u, u, u, u, u, u, u, u, u, u, u, u, u, u, u, u, u, u, u, u, u, u, u, u], [.box [.int .i64 v16, .sl 108 Y108 v17 4], .box [.int .i64 v18, .nils], .box [.int .i64 v19, .own 3], .row 108 Y108 v20 true false 0]⟩ = m217_l1009 N v15 v16 v17 v18 v19 v20 k9009 N := by
  subst hc; rw [c217_1009_at, m217_l1009]; unfold Tryz.f217
  simp (maxSteps := 10000000) -implicitDefEqProofs [joinR_f (id := 9), joinR_d (id := 9), T217_tr, tr217, T217_lp, lp217, T217_ex, ex217, T217_rg, rg217, T217_jn, jn217, T217_fuel, T217_pins, chk_comm, nl217_1009_fix, nl217_1009_keep, nl217_1009_zero, nl217_8_fix, nl217_8_keep, nl217_8_zero, nx217_0_fix, nx217_0_keep, nx217_0_zero, nr217_9_fix, nr217_9_keep, nr217_9_zero, Γ217_208, Γ217_209, Γ217_210, Γ217_283, g208, g209, g210, g283, h9009]
noncomputable def c217_8 : Code := cut [true, true, true, true, true, false, true, true, true] (Tryz.f217.body.getD .skip)
theorem c217_8_at {N : Nat} {Q : X → St → Option (Vals [i33, i4])} {e : List LV} {h : List Blk} : runT tt Γ217 (T217 N) c217_8 Q ⟨e, h⟩ = runT tt Γ217 (T217 N) (cut [true, true, true, true, true, false, true, true, true] (Tryz.f217.body.getD .skip)) Q ⟨e, h⟩ := rfl
theorem r217_l8 (N : Nat) (v2 : Int) (v3 : List (Val Y108)) (v4 : Int) {k0 : Int → (List (Val Y108)) → Option (Vals [i33, i4])} {Q : X → St → Option (Vals [i33, i4])} {c : Code} (hc : c = c217_8) (hret : ∀ st, Q .ret st = retS tt true [i33, i4] [.cell 2 33, .tmp 3] st) (h0 : ∀ (v23 : Int) (v24 : List (Val Y108)), Q (.exit 0) ⟨[u, u, .one (.ptr 0 0 0), u, u, u, .one (.ptr 1 0 0), u, u, u, u, u, u, u, u, u, u, u, u, u, u, u, u, u, u, u, u, u, u, u, u, u, u, u, u, u, u, u, u, u, u, u, u, u, u, u, u, u, u, u, u, u, u, u, u, u, u, u, u, u, u, u, u, u], [.box [.int .i64 v4, .nils], .box [.int .i64 v23, .own 2], .row 108 Y108 v24 true false 0]⟩ = k0 v23 v24) : ∀ (n : Nat) (v1 : Int) (v5 : Int) (v6 : List (Val Y108)), loopR (runT tt Γ217 (T217 N) c) false nl217_8 Q n ⟨[u, .one (.ptr 0 0 0), .one (.ptr 1 0 0), u, u, u, .one (.ptr 2 0 0), .one (.int .i64 v1), u, u, u, u, u, u, u, u, u, u, u, u, u, u, u, u, u, u, u, u, u, u, u, u, u, u, u, u, u, u, u, u, u, u, u, u, u, u, u, u, u, u, u, u, u, u, u, u, u, u, u, u, u, u, u, u], [.box [.int .i64 v2, .sl 108 Y108 v3 4], .box [.int .i64 v4, .nils], .box [.int .i64 v5, .own 3], .row 108 Y108 v6 true false 0]⟩ = m217_l8 N v2 v3 v4 k0 n v1 v5 v6 := by
  subst hc; intro n; induction n with
  | zero => intros; rfl
  | succ n ih =>
    intro v1 v5 v6
    rw [loop_succ, c217_8_at]; unfold Tryz.f217
    simp (maxSteps := 10000000) -implicitDefEqProofs [T217_tr, tr217, T217_lp, lp217, T217_ex, ex217, T217_rg, rg217, T217_jn, jn217, T217_fuel, T217_pins, nl217_1009_fix, nl217_1009_keep, nl217_1009_zero, nl217_8_fix, nl217_8_keep, nl217_8_zero, nx217_0_fix, nx217_0_keep, nx217_0_zero, nr217_9_fix, nr217_9_keep, nr217_9_zero, Γ217_208, Γ217_209, Γ217_210, Γ217_283, g208, g209, g210, g283, hret, h0, ih]
    rewrite [r217_l1009 (k9009 := (fun (v22 : List (Val Y108)) => chk (0 ≤ v1 ∧ v1 < (v6.length : Int)) (chk (v1.toNat < v6.length) (chk (impV_pre (v2, v22) (v6.getD v1.toNat (dflt Y108))) (bif (!((impV (v2, v22) (v6.getD v1.toNat (dflt Y108))).2 : Bool)) then (some (((0 : Int), ([] : List (Val Y108))), false, ())) else (bif ((impV (v2, v22) (v6.getD v1.toNat (dflt Y108))).1 : Bool) then (chk (cpC_pre (v2, v22)) (m217_l8 N v2 v3 v4 k0 n v1 ((cpC (v2, v22)).1 : Int) ((cpC (v2, v22)).2 : List (Val Y108)))) else (m217_l8 N v2 v3 v4 k0 n (IntKind.i64.wrap (v1 + (1 : Int))) v5 v6))))))) N _ _ _ _ _ _ ?_ ?_]
    · rewrite [m217_l8]; first | rfl | simp (maxSteps := 10000000) -implicitDefEqProofs [ih]
    · rfl
    · intro v22; simp (maxSteps := 10000000) -implicitDefEqProofs [T217_tr, tr217, T217_lp, lp217, T217_ex, ex217, T217_rg, rg217, T217_jn, jn217, T217_fuel, T217_pins, nl217_1009_fix, nl217_1009_keep, nl217_1009_zero, nl217_8_fix, nl217_8_keep, nl217_8_zero, nx217_0_fix, nx217_0_keep, nx217_0_zero, nr217_9_fix, nr217_9_keep, nr217_9_zero, Γ217_208, Γ217_209, Γ217_210, Γ217_283, g208, g209, g210, g283, hret, h0, ih]
theorem run217 (N : Nat) (v0 : Val Y33) : runT tt Γ217 (T217 N) (Tryz.f217.body.getD .skip) (retR tt true [i33, i4] [.cell 2 33, .tmp 3]) (entryP [i33] 64 (v0, ())) = m217 N v0 := by
  unfold Tryz.f217
  simp (maxSteps := 10000000) -implicitDefEqProofs [T217_tr, tr217, T217_lp, lp217, T217_ex, ex217, T217_rg, rg217, T217_jn, jn217, T217_fuel, T217_pins, nl217_1009_fix, nl217_1009_keep, nl217_1009_zero, nl217_8_fix, nl217_8_keep, nl217_8_zero, nx217_0_fix, nx217_0_keep, nx217_0_zero, nr217_9_fix, nr217_9_keep, nr217_9_zero, Γ217_208, Γ217_209, Γ217_210, Γ217_283, g208, g209, g210, g283]
  rewrite [r217_l8 (k0 := (fun (v25 : Int) (v26 : List (Val Y108)) => some ((v25, v26), true, ()))) N _ _ _ ?_ ?_ ?_]
  · rewrite [m217]; first | rfl | simp (maxSteps := 10000000) -implicitDefEqProofs []
  · rfl
  · intro; simp only [seqR_ret, blockR_ret, retR_ret, retX_ret]
  · intro v25 v26; simp (maxSteps := 10000000) -implicitDefEqProofs [T217_tr, tr217, T217_lp, lp217, T217_ex, ex217, T217_rg, rg217, T217_jn, jn217, T217_fuel, T217_pins, nl217_1009_fix, nl217_1009_keep, nl217_1009_zero, nl217_8_fix, nl217_8_keep, nl217_8_zero, nx217_0_fix, nx217_0_keep, nx217_0_zero, nr217_9_fix, nr217_9_keep, nr217_9_zero, Γ217_208, Γ217_209, Γ217_210, Γ217_283, g208, g209, g210, g283]
end Go.T
