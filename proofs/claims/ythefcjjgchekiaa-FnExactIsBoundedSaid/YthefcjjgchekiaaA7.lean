/- Marks of cells. -/
import Derived.Test.YthefcjjgchekiaaA1
set_option linter.unusedSimpArgs false
set_option linter.unusedVariables false
namespace Go.T
open Go Go.Proofs
set_option maxHeartbeats 4000000
set_option maxRecDepth 100000
def mk_IntS_v (x : List (Val (.int .i64))) (k : Int) : List (Val (.int .i64)) := (mkT (.slice 3 (.int .i64)) x k).1
def mk_IntS_k (x : List (Val (.int .i64))) (k : Int) : Int := (mkT (.slice 3 (.int .i64)) x k).2
def mk_IntS_pre (x : List (Val (.int .i64))) (k : Int) : Prop := Bd (.slice 3 (.int .i64)) x ∧ k ≤ 9223372036854775807
def gm36 : Gms := ⟨3, (.int .i64), mk_IntS_pre, mk_IntS_v, mk_IntS_k⟩
-- laws.markIntS
noncomputable def m36_l2 (N : Nat)  (k0 : Int → (List (Val (.int .i64))) → Option ((List (Val (.int .i64))) × Int)) : Nat → Int → Int → (List (Val (.int .i64))) → Option ((List (Val (.int .i64))) × Int)
  | 0, _, _, _ => none
  | n + 1, v2, v3, v4 => bif (decide (v3 < (v4.length : Int))) then (chk (0 ≤ v3 ∧ v3 < (v4.length : Int)) (chk (v3.toNat < v4.length) (m36_l2 N  k0 n (IntKind.i64.wrap (v2 + (1 : Int))) (IntKind.i64.wrap (v3 + (1 : Int))) (v4.set v3.toNat v2)))) else (k0 v2 v4)
noncomputable def m36 (N : Nat) (v0 : List (Val (.int .i64))) (v1 : Int) : Option ((List (Val (.int .i64))) × Int) := m36_l2 N  (fun (v7 : Int) (v8 : List (Val (.int .i64))) => some (v8, v7)) N v1 (0 : Int) v0
def Γ36 : Gam := []
def nl36_2 : Nm := ⟨[true, true, false, false, false, true], []⟩
theorem nl36_2_fix : nl36_2.fix = [] := rfl
theorem nl36_2_keep : nl36_2.keep = [true, true, false, false, false, true] := rfl
def nx36_0 : Nm := ⟨[false, true], []⟩
theorem nx36_0_fix : nx36_0.fix = [] := rfl
theorem nx36_0_keep : nx36_0.keep = [false, true] := rfl
def sem36 : Sem := markSem [] []
def tr36 : Nat → Tree := fun _ => .done
def lp36 : Nat → Nm := fun i => if i = 2 then nl36_2 else ⟨[], []⟩
def jn36 : Nat → Option Jn := fun _ => none
def ex36 : Nat → Option Nm := fun i => if i = 0 then some nx36_0 else none
def rg36 : Nat → Option Nm := fun _ => none
theorem p36 : plansOk tr36 (Try.f36.body.getD .skip) = true := by kernel_rfl
def T36 (N : Nat) : Tab := { tr := tr36, lp := lp36, ex := ex36, rg := rg36, jn := jn36, fuel := N, pins := true, sem := sem36 }
theorem T36_pins (N : Nat) : (T36 N).pins = true := rfl
theorem tb36 (N : Nat) : TbOk Try.prog (T36 N) := tb_none fun _ => rfl
theorem T36_sem (N : Nat) : (T36 N).sem = sem36 := rfl
theorem T36_tr (N i : Nat) : (T36 N).tr i = tr36 i := rfl
theorem T36_lp (N i : Nat) : (T36 N).lp i = lp36 i := rfl
theorem T36_ex (N i : Nat) : (T36 N).ex i = ex36 i := rfl
theorem T36_rg (N i : Nat) : (T36 N).rg i = rg36 i := rfl
theorem T36_jn (N i : Nat) : (T36 N).jn i = jn36 i := rfl
theorem T36_fuel (N : Nat) : (T36 N).fuel = N := rfl
noncomputable def c36_2 : Code := cut [true, false, true, true, true] (Try.f36.body.getD .skip)
theorem c36_2_at {N : Nat} {Q : X → St → Option ((List (Val (.int .i64))) × Int)} {e : List LV} {h : List Blk} : runT tt Γ36 (T36 N) c36_2 Q ⟨e, h⟩ = runT tt Γ36 (T36 N) (cut [true, false, true, true, true] (Try.f36.body.getD .skip)) Q ⟨e, h⟩ := rfl
theorem r36_l2 (N : Nat)  {k0 : Int → (List (Val (.int .i64))) → Option ((List (Val (.int .i64))) × Int)} {Q : X → St → Option ((List (Val (.int .i64))) × Int)} {c : Code} (hc : c = c36_2) (hret : ∀ st, Q .ret st = retM1 tt (.slice 3 (.int .i64)) [.own 0] [.tmp 4] st) (h0 : ∀ (v5 : Int) (v6 : List (Val (.int .i64))), Q (.exit 0) ⟨[u, .one (.int .i64 v5), u, u, u, u, u, u, u, u, u, u, u, u, u, u, u, u, u], [.row 3 (.int .i64) v6 true true 0]⟩ = k0 v5 v6) : ∀ (n : Nat) (v2 : Int) (v3 : Int) (v4 : List (Val (.int .i64))), loopR (runT tt Γ36 (T36 N) c) true nl36_2 Q n ⟨[.one (.own 0), .one (.int .i64 v2), u, u, u, .one (.int .i64 v3), u, u, u, u, u, u, u, u, u, u, u, u, u], [.row 3 (.int .i64) v4 true true 0]⟩ = m36_l2 N  k0 n v2 v3 v4 := by
  subst hc; intro n; induction n with
  | zero => intros; rfl
  | succ n ih =>
    intro v2 v3 v4
    rw [loop_succ, c36_2_at, m36_l2]; unfold Try.f36
    simp (maxSteps := 10000000) -implicitDefEqProofs [T36_tr, tr36, T36_lp, lp36, T36_ex, ex36, T36_rg, rg36, T36_jn, jn36, T36_fuel, T36_pins, T36_sem, sem36, semR', retX_ret, entryM, nl36_2_fix, nl36_2_keep, nx36_0_fix, nx36_0_keep, hret, h0, ih]
theorem run36 (N : Nat) (v0 : List (Val (.int .i64))) (v1 : Int) : runT tt Γ36 (T36 N) (Try.f36.body.getD .skip) (retX (retM1 tt (.slice 3 (.int .i64)) (explodeOwn 0 (.slice 3 (.int .i64)) v0).1 [.tmp 4])) (entryM i25 19 v0 v1) = m36 N v0 v1 := by
  unfold Try.f36
  simp (maxSteps := 10000000) -implicitDefEqProofs [T36_tr, tr36, T36_lp, lp36, T36_ex, ex36, T36_rg, rg36, T36_jn, jn36, T36_fuel, T36_pins, T36_sem, sem36, semR', retX_ret, entryM, nl36_2_fix, nl36_2_keep, nx36_0_fix, nx36_0_keep]
  rewrite [r36_l2 (k0 := (fun (v7 : Int) (v8 : List (Val (.int .i64))) => some (v8, v7))) N  ?_ ?_ ?_]
  · rewrite [m36]; first | rfl | simp (maxSteps := 10000000) -implicitDefEqProofs []
  · rfl
  · intro; simp only [seqR_ret, blockR_ret, retR_ret, retX_ret]
  · intro v7 v8; simp (maxSteps := 10000000) -implicitDefEqProofs [T36_tr, tr36, T36_lp, lp36, T36_ex, ex36, T36_rg, rg36, T36_jn, jn36, T36_fuel, T36_pins, T36_sem, sem36, semR', retX_ret, entryM, nl36_2_fix, nl36_2_keep, nx36_0_fix, nx36_0_keep]
theorem e36 (x : List (Val (.int .i64))) (k : Int) (h : mk_IntS_pre x k) : ∃ N, m36 N x k = some (mk_IntS_v x k, mk_IntS_k x k) := ⟨x.length + 1, by
  rw [m36]
  refine mark_loop (f := mkE (.int .i64)) (F := fun n i k s => m36_l2 _ _ n k i s) (kf := fun k s => some (s, k)) x h.1.1 (mkE_le _) (fun n i k s hi _ hl => ?_) (fun n i k s hl hi => ?_) _ k h.2 (Nat.lt_succ_self _)
  · rw [m36_l2, bif_dec (by omega), chk_pos (by omega), chk_pos (by omega)]
    rfl
  · rw [m36_l2, bif_decN (by omega)]⟩
theorem sm36 : SoundMs Try.prog 36 gm36 := sound_mf (tt := tt) (Γ := Γ36) hT ok_nil hm (fn := Try.f36) Try.func36 (c := Try.f36.body.getD .skip) (by kernel_rfl) (by kernel_rfl) rfl fun x n hx => by
  obtain ⟨N, h⟩ := e36 x n hx
  exact ⟨T36 N, rfl, p36, ⟨markSem_ok own_nil hdr_nil, tb36 N⟩, (run36 N x n).trans h⟩
def mk_AtomS_v (x : List (Val Y36)) (k : Int) : List (Val Y36) := (mkT (.slice 36 Y36) x k).1
def mk_AtomS_k (x : List (Val Y36)) (k : Int) : Int := (mkT (.slice 36 Y36) x k).2
def mk_AtomS_pre (x : List (Val Y36)) (k : Int) : Prop := Bd (.slice 36 Y36) x ∧ k ≤ 9223372036854775807
def gm35 : Gms := ⟨36, Y36, mk_AtomS_pre, mk_AtomS_v, mk_AtomS_k⟩
-- laws.markAtomS
noncomputable def m35_l2 (N : Nat) (v6 : List (Val (hd Y36))) (k0 : Int → (List (Val H36)) → (List (Val Y36)) → Option (List (Val H36) × List (Val Y36) × Int)) : Nat → Int → Int → (List (Val H36)) → (List (Val Y36)) → Option (List (Val H36) × List (Val Y36) × Int)
  | 0, _, _, _, _ => none
  | n + 1, v3, v4, v5, v7 => bif (decide (v4 < (v5.length : Int))) then (chk (0 ≤ v4 ∧ v4 < (v5.length : Int)) (chk (v4.toNat < v5.length) (chk (v4.toNat < v7.length ∧ v4.toNat < v6.length ∧ ((v6.getD v4.toNat (dflt (hd Y36)) : Val H36).1 : Value) = ((v5.getD v4.toNat (dflt H36)).1 : Value) ∧ mk_IntS_pre ((v7.getD v4.toNat (dflt Y36)).1 : List (Val (.int .i64))) v3) (chk (0 ≤ v4 ∧ v4 < (v5.length : Int)) (chk (v4.toNat < v5.length) (chk ((3 : Int) ≠ 0) (chk (0 ≤ v4 ∧ v4 < ((v5.set v4.toNat (((v5.getD v4.toNat (dflt H36)).1 : Value), ((mk_IntS_k ((v7.getD v4.toNat (dflt Y36)).1 : List (Val (.int .i64))) v3), (((v5.getD v4.toNat (dflt H36)).2).2 : Bool)))).length : Int)) (chk (v4.toNat < (v5.set v4.toNat (((v5.getD v4.toNat (dflt H36)).1 : Value), ((mk_IntS_k ((v7.getD v4.toNat (dflt Y36)).1 : List (Val (.int .i64))) v3), (((v5.getD v4.toNat (dflt H36)).2).2 : Bool)))).length) (m35_l2 N v6 k0 n (IntKind.i64.wrap ((IntKind.i64.wrap ((mk_IntS_k ((v7.getD v4.toNat (dflt Y36)).1 : List (Val (.int .i64))) v3) + (1 : Int))) + (1 : Int))) (IntKind.i64.wrap (v4 + (1 : Int))) ((v5.set v4.toNat (((v5.getD v4.toNat (dflt H36)).1 : Value), ((mk_IntS_k ((v7.getD v4.toNat (dflt Y36)).1 : List (Val (.int .i64))) v3), (((v5.getD v4.toNat (dflt H36)).2).2 : Bool)))).set v4.toNat ((((v5.set v4.toNat (((v5.getD v4.toNat (dflt H36)).1 : Value), ((mk_IntS_k ((v7.getD v4.toNat (dflt Y36)).1 : List (Val (.int .i64))) v3), (((v5.getD v4.toNat (dflt H36)).2).2 : Bool)))).getD v4.toNat (dflt H36)).1 : Value), (((((v5.set v4.toNat (((v5.getD v4.toNat (dflt H36)).1 : Value), ((mk_IntS_k ((v7.getD v4.toNat (dflt Y36)).1 : List (Val (.int .i64))) v3), (((v5.getD v4.toNat (dflt H36)).2).2 : Bool)))).getD v4.toNat (dflt H36)).2).1 : Int), (decide (((IntKind.i64.wrap ((mk_IntS_k ((v7.getD v4.toNat (dflt Y36)).1 : List (Val (.int .i64))) v3) + (1 : Int))).tmod (3 : Int)) = (0 : Int)))))) (v7.set v4.toNat ((mk_IntS_v ((v7.getD v4.toNat (dflt Y36)).1 : List (Val (.int .i64))) v3), (v7.getD v4.toNat (dflt Y36)).2))))))))))) else (k0 v3 v5 v7)
noncomputable def m35 (N : Nat) (v0 : List (Val (hd Y36))) (v1 : List (Val Y36)) (v2 : Int) : Option (List (Val H36) × List (Val Y36) × Int) := m35_l2 N v0 (fun (v11 : Int) (v12 : List (Val H36)) (v13 : List (Val Y36)) => some (v12, v13, v11)) N v2 (0 : Int) v0 v1
def Γ35 : Gam := []
theorem Γ35_36 : Gam.get Γ35 36 = none := rfl
def nl35_2 : Nm := ⟨[true, true, false, false, false, true], []⟩
theorem nl35_2_fix : nl35_2.fix = [] := rfl
theorem nl35_2_keep : nl35_2.keep = [true, true, false, false, false, true] := rfl
def nx35_0 : Nm := ⟨[false, true], []⟩
theorem nx35_0_fix : nx35_0.fix = [] := rfl
theorem nx35_0_keep : nx35_0.keep = [false, true] := rfl
def sem35 : Sem := markSem [] [(18, 36, gm36, 0, 13)]
def tr35 : Nat → Tree := fun _ => .done
def lp35 : Nat → Nm := fun i => if i = 2 then nl35_2 else ⟨[], []⟩
def jn35 : Nat → Option Jn := fun _ => none
def ex35 : Nat → Option Nm := fun i => if i = 0 then some nx35_0 else none
def rg35 : Nat → Option Nm := fun _ => none
theorem p35 : plansOk tr35 (Try.f35.body.getD .skip) = true := by kernel_rfl
def T35 (N : Nat) : Tab := { tr := tr35, lp := lp35, ex := ex35, rg := rg35, jn := jn35, fuel := N, pins := true, sem := sem35 }
theorem T35_pins (N : Nat) : (T35 N).pins = true := rfl
theorem tb35 (N : Nat) : TbOk Try.prog (T35 N) := tb_none fun _ => rfl
theorem T35_sem (N : Nat) : (T35 N).sem = sem35 := rfl
theorem T35_tr (N i : Nat) : (T35 N).tr i = tr35 i := rfl
theorem T35_lp (N i : Nat) : (T35 N).lp i = lp35 i := rfl
theorem T35_ex (N i : Nat) : (T35 N).ex i = ex35 i := rfl
theorem T35_rg (N i : Nat) : (T35 N).rg i = rg35 i := rfl
theorem T35_jn (N i : Nat) : (T35 N).jn i = jn35 i := rfl
theorem T35_fuel (N : Nat) : (T35 N).fuel = N := rfl
noncomputable def c35_2 : Code := cut [true, false, true, true, true] (Try.f35.body.getD .skip)
theorem c35_2_at {N : Nat} {Q : X → St → Option (List (Val H36) × List (Val Y36) × Int)} {e : List LV} {h : List Blk} : runT tt Γ35 (T35 N) c35_2 Q ⟨e, h⟩ = runT tt Γ35 (T35 N) (cut [true, false, true, true, true] (Try.f35.body.getD .skip)) Q ⟨e, h⟩ := rfl
theorem r35_l2 (N : Nat) (F : List Nat) (v6 : List (Val (hd Y36))) {k0 : Int → (List (Val H36)) → (List (Val Y36)) → Option (List (Val H36) × List (Val Y36) × Int)} {Q : X → St → Option (List (Val H36) × List (Val Y36) × Int)} {c : Code} (hc : c = c35_2) (hret : ∀ st, Q .ret st = retMS tt 36 Y36 H36 F v6 [.tmp 4] st) (h0 : ∀ (v8 : Int) (v9 : List (Val H36)) (v10 : List (Val Y36)), Q (.exit 0) ⟨[u, .one (.int .i64 v8), u, u, u, u, u, u, u, u, u, u, u, u, u, u, u, u, u, u, u, u, u, u, u, u, u, u, u, u, u, u, u, u, u, u], [.row 36 H36 v9 true true 0, .nst F Y36 v6 v10]⟩ = k0 v8 v9 v10) : ∀ (n : Nat) (v3 : Int) (v4 : Int) (v5 : List (Val H36)) (v7 : List (Val Y36)), loopR (runT tt Γ35 (T35 N) c) true nl35_2 Q n ⟨[.one (.own 0), .one (.int .i64 v3), u, u, u, .one (.int .i64 v4), u, u, u, u, u, u, u, u, u, u, u, u, u, u, u, u, u, u, u, u, u, u, u, u, u, u, u, u, u, u], [.row 36 H36 v5 true true 0, .nst F Y36 v6 v7]⟩ = m35_l2 N v6 k0 n v3 v4 v5 v7 := by
  subst hc; intro n; induction n with
  | zero => intros; rfl
  | succ n ih =>
    intro v3 v4 v5 v7
    rw [loop_succ, c35_2_at, m35_l2]; unfold Try.f35
    simp (maxSteps := 10000000) -implicitDefEqProofs [T35_tr, tr35, T35_lp, lp35, T35_ex, ex35, T35_rg, rg35, T35_jn, jn35, T35_fuel, T35_pins, T35_sem, sem35, semR', Γ35_36, gm36, retX_ret, entryM, nl35_2_fix, nl35_2_keep, nx35_0_fix, nx35_0_keep, hret, h0, ih]
theorem run35 (N : Nat) (F : List Nat) (v0 : List (Val (hd Y36))) (v1 : List (Val Y36)) (v2 : Int) : runT tt Γ35 (T35 N) (Try.f35.body.getD .skip) (retX (retMS tt 36 Y36 H36 F v0 [.tmp 4])) ⟨[.one (.own 0), .one (.int .i64 v2), .tup [], .tup [], .tup [], .tup [], .tup [], .tup [], .tup [], .tup [], .tup [], .tup [], .tup [], .tup [], .tup [], .tup [], .tup [], .tup [], .tup [], .tup [], .tup [], .tup [], .tup [], .tup [], .tup [], .tup [], .tup [], .tup [], .tup [], .tup [], .tup [], .tup [], .tup [], .tup [], .tup [], .tup []], [.row 36 H36 v0 true true 0, .nst F Y36 v0 v1]⟩ = m35 N v0 v1 v2 := by
  unfold Try.f35
  simp (maxSteps := 10000000) -implicitDefEqProofs [T35_tr, tr35, T35_lp, lp35, T35_ex, ex35, T35_rg, rg35, T35_jn, jn35, T35_fuel, T35_pins, T35_sem, sem35, semR', Γ35_36, gm36, retX_ret, entryM, nl35_2_fix, nl35_2_keep, nx35_0_fix, nx35_0_keep]
  rewrite [r35_l2 (k0 := (fun (v11 : Int) (v12 : List (Val H36)) (v13 : List (Val Y36)) => some (v12, v13, v11))) N _ _ ?_ ?_ ?_]
  · rewrite [m35]; first | rfl | simp (maxSteps := 10000000) -implicitDefEqProofs []
  · rfl
  · intro; simp only [seqR_ret, blockR_ret, retR_ret, retX_ret]
  · intro v11 v12 v13; simp (maxSteps := 10000000) -implicitDefEqProofs [T35_tr, tr35, T35_lp, lp35, T35_ex, ex35, T35_rg, rg35, T35_jn, jn35, T35_fuel, T35_pins, T35_sem, sem35, semR', Γ35_36, gm36, retX_ret, entryM, nl35_2_fix, nl35_2_keep, nx35_0_fix, nx35_0_keep]
theorem e35 (hs : List (Val (hd Y36))) (xs : List (Val Y36)) (k : Int) (h : mk_AtomS_pre xs k) (hl : xs.length = hs.length) (hmx : mixL Y36 xs hs = hs) :
    ∃ N vs, vs.map (slcV Y36) = (mk_AtomS_v xs k).map (slcV Y36) ∧ m35 N hs xs k = some (mixL Y36 (mk_AtomS_v xs k) hs, vs, mk_AtomS_k xs k) := by
  refine ⟨xs.length + 1, ?_⟩
  rw [m35]
  refine nst_loop (t := Y36) (F := fun n i k ys vs => m35_l2 _ hs _ n k i ys vs) (kf := fun k ys vs => some (ys, vs, k)) xs hl hmx (by rw [← hl]; exact h.1.1) (fun n i k fs vs hi hh hv hk l1 l2 hsl ⟨hx, hfx⟩ => ?_) (fun n i k ys vs hl hi => ?_) _ k h.2 (Nat.lt_succ_self _)
  · have hy : (mixL Y36 fs hs).length = hs.length := mixL_len l1
    have e1 : vs[i].1 = fs[i].1 := (Prod.mk.inj hsl).1
    refine ⟨(mk_IntS_v vs[i].1 k, vs[i].2), ?_, ?_⟩
    · show ((mk_IntS_v vs[i].1 k, (0, false)) : Val Y36) = (mk_IntS_v fs[i].1 k, (0, false))
      rw [e1]
    · have hb : mk_IntS_pre vs[i].1 k := ⟨by rw [e1, hfx]; exact (h.1.2 _ (List.getElem_mem hx)).1, hk⟩
      rw [m35_l2, bif_dec (by omega), chk_pos (by omega), chk_pos (by omega), mixL_at hi hh l1, getD_atI hv, getD_atI hh, chk_pos ⟨by omega, by omega, rfl, hb⟩, chk_pos (by omega), chk_pos (by omega), chk_pos (by decide), chk_pos (by rw [List.length_set]; omega), chk_pos (by rw [List.length_set]; omega), List.set_set, getD_setI (by omega), Int.toNat_natCast]
      rw [← mixL_set hh l1]
      simp only [e1]
      rfl
  · rw [m35_l2, bif_decN (by omega)]
theorem sm35 : SoundMs Try.prog 35 gm35 := sound_ms (tt := tt) (Γ := Γ35) hT ok_nil hm (fn := Try.f35) Try.func35 (c := Try.f35.body.getD .skip) (by kernel_rfl) (by kernel_rfl) fun xs hs n F hx hl hmx => by
  obtain ⟨N, vs, h1, h2⟩ := e35 hs xs n hx hl hmx
  exact ⟨T35 N, vs, rfl, p35, ⟨markSem_ok own_nil (hdr_cons sm36 hdr_nil), tb35 N⟩, h1, (run35 N F hs xs n).trans h2⟩
def mk_Cell_v (x : Val Y32) (k : Int) : Val Y32 := (mkT Y32 x k).1
def mk_Cell_k (x : Val Y32) (k : Int) : Int := (mkT Y32 x k).2
def mk_Cell_pre (x : Val Y32) (k : Int) : Prop := Bd Y32 x ∧ k ≤ 9223372036854775807
def gm14 : Gm := ⟨i32, mk_Cell_pre, mk_Cell_v, mk_Cell_k⟩
-- laws.markCell
noncomputable def m14 (N : Nat) (v0 : Val Y32) (v1 : Int) : Option ((Val Y32) × Int) := chk (mk_AtomS_pre (v0.2 : List (Val Y36)) v1) (some (((v0.1 : Int), ((mk_AtomS_v (v0.2 : List (Val Y36)) v1) : List (Val Y36))), (mk_AtomS_k (v0.2 : List (Val Y36)) v1)))
def Γ14 : Gam := []
theorem Γ14_35 : Gam.get Γ14 35 = none := rfl
def sem14 : Sem := markSem [(35, gm35.gm)] []
def tr14 : Nat → Tree := fun _ => .done
def lp14 : Nat → Nm := fun _ => ⟨[], []⟩
def jn14 : Nat → Option Jn := fun _ => none
def ex14 : Nat → Option Nm := fun _ => none
def rg14 : Nat → Option Nm := fun _ => none
theorem p14 : plansOk tr14 (Try.f14.body.getD .skip) = true := by kernel_rfl
def T14 (N : Nat) : Tab := { tr := tr14, lp := lp14, ex := ex14, rg := rg14, jn := jn14, fuel := N, pins := true, sem := sem14 }
theorem T14_pins (N : Nat) : (T14 N).pins = true := rfl
theorem tb14 (N : Nat) : TbOk Try.prog (T14 N) := tb_none fun _ => rfl
theorem T14_sem (N : Nat) : (T14 N).sem = sem14 := rfl
theorem T14_tr (N i : Nat) : (T14 N).tr i = tr14 i := rfl
theorem T14_lp (N i : Nat) : (T14 N).lp i = lp14 i := rfl
theorem T14_ex (N i : Nat) : (T14 N).ex i = ex14 i := rfl
theorem T14_rg (N i : Nat) : (T14 N).rg i = rg14 i := rfl
theorem T14_jn (N i : Nat) : (T14 N).jn i = jn14 i := rfl
theorem T14_fuel (N : Nat) : (T14 N).fuel = N := rfl
theorem run14 (N : Nat) (v0 : Val Y32) (v1 : Int) : runT tt Γ14 (T14 N) (Try.f14.body.getD .skip) (retX (retM1 tt Y32 (explodeOwn 0 Y32 v0).1 [.tmp 4])) (entryM i32 10 v0 v1) = m14 N v0 v1 := by
  rw [m14]; unfold Try.f14
  simp (maxSteps := 10000000) -implicitDefEqProofs [T14_tr, tr14, T14_lp, lp14, T14_ex, ex14, T14_rg, rg14, T14_jn, jn14, T14_fuel, T14_pins, T14_sem, sem14, semR', Γ14_35, gm35, retX_ret, entryM]
  try rfl
theorem e14 (x : Val Y32) (k : Int) (h : mk_Cell_pre x k) : ∃ N, m14 N x k = some (mk_Cell_v x k, mk_Cell_k x k) := ⟨0, by
  rw [m14, chk_pos (show mk_AtomS_pre _ k from ⟨h.1.2, h.2⟩)]
  rfl⟩
theorem sm14 : SoundM Try.prog 14 gm14 := sound_m1 (tt := tt) (Γ := Γ14) hT ok_nil hm (fn := Try.f14) Try.func14 (c := Try.f14.body.getD .skip) (by kernel_rfl) (by kernel_rfl) fun x n hx => by
  obtain ⟨N, h⟩ := e14 x n hx
  exact ⟨T14 N, rfl, p14, ⟨markSem_ok (own_cons sm35.gm own_nil) hdr_nil, tb14 N⟩, (run14 N x n).trans h⟩
def held_IntS (x : List (Val (.int .i64))) (k : Int) : Int := (mkT (.slice 3 (.int .i64)) x k).2
def held_IntS_pre (x : List (Val (.int .i64))) (k : Int) : Prop := heldPre (.slice 3 (.int .i64)) x k
-- laws.heldIntS
noncomputable def m48_l2 (N : Nat) (v2 : List (Val (.int .i64))) (k0 : Int → Option (Vals [i3])) : Nat → Int → Int → Option (Vals [i3])
  | 0, _, _ => none
  | n + 1, v3, v4 => bif (decide (v4 < (v2.length : Int))) then (chk (0 ≤ v4 ∧ v4 < (v2.length : Int)) (bif (!(decide (((v2.getD v4.toNat (dflt (.int .i64))) : Int) = v3))) then (some ((-1 : Int), ())) else (m48_l2 N v2 k0 n (IntKind.i64.wrap (v3 + (1 : Int))) (IntKind.i64.wrap (v4 + (1 : Int)))))) else (k0 v3)
noncomputable def m48 (N : Nat) (v0 : List (Val (.int .i64))) (v1 : Int) : Option (Vals [i3]) := m48_l2 N v0 (fun (v6 : Int) => some (v6, ())) N v1 (0 : Int)
def Γ48 : Gam := []
def nl48_2 : Nm := ⟨[true, true, false, false, false, true], []⟩
theorem nl48_2_fix : nl48_2.fix = [] := rfl
theorem nl48_2_keep : nl48_2.keep = [true, true, false, false, false, true] := rfl
def nx48_0 : Nm := ⟨[false, true], []⟩
theorem nx48_0_fix : nx48_0.fix = [] := rfl
theorem nx48_0_keep : nx48_0.keep = [false, true] := rfl
def tr48 : Nat → Tree := fun _ => .done
def lp48 : Nat → Nm := fun i => if i = 2 then nl48_2 else ⟨[], []⟩
def jn48 : Nat → Option Jn := fun _ => none
def ex48 : Nat → Option Nm := fun i => if i = 0 then some nx48_0 else none
def rg48 : Nat → Option Nm := fun _ => none
theorem p48 : plansOk tr48 (Try.f48.body.getD .skip) = true := by kernel_rfl
def T48 (N : Nat) : Tab := { tr := tr48, lp := lp48, ex := ex48, rg := rg48, jn := jn48, fuel := N }
theorem T48_pins (N : Nat) : (T48 N).pins = false := rfl
theorem tb48 (N : Nat) : TbOk Try.prog (T48 N) := tb_none fun _ => rfl
theorem T48_tr (N i : Nat) : (T48 N).tr i = tr48 i := rfl
theorem T48_lp (N i : Nat) : (T48 N).lp i = lp48 i := rfl
theorem T48_ex (N i : Nat) : (T48 N).ex i = ex48 i := rfl
theorem T48_rg (N i : Nat) : (T48 N).rg i = rg48 i := rfl
theorem T48_jn (N i : Nat) : (T48 N).jn i = jn48 i := rfl
theorem T48_fuel (N : Nat) : (T48 N).fuel = N := rfl
noncomputable def c48_2 : Code := cut [true, false, true, true, true] (Try.f48.body.getD .skip)
theorem c48_2_at {N : Nat} {Q : X → St → Option (Vals [i3])} {e : List LV} {h : List Blk} : runT tt Γ48 (T48 N) c48_2 Q ⟨e, h⟩ = runT tt Γ48 (T48 N) (cut [true, false, true, true, true] (Try.f48.body.getD .skip)) Q ⟨e, h⟩ := rfl
theorem r48_l2 (N : Nat) (v2 : List (Val (.int .i64))) {k0 : Int → Option (Vals [i3])} {Q : X → St → Option (Vals [i3])} {c : Code} (hc : c = c48_2) (hret : ∀ st, Q .ret st = retS tt true [i3] [.tmp 4] st) (h0 : ∀ (v5 : Int), Q (.exit 0) ⟨[u, .one (.int .i64 v5), u, u, u, u, u, u, u, u, u, u, u, u, u, u, u, u, u, u, u], []⟩ = k0 v5) : ∀ (n : Nat) (v3 : Int) (v4 : Int), loopR (runT tt Γ48 (T48 N) c) false nl48_2 Q n ⟨[.one (.sl 3 (.int .i64) v2 0), .one (.int .i64 v3), u, u, u, .one (.int .i64 v4), u, u, u, u, u, u, u, u, u, u, u, u, u, u, u], []⟩ = m48_l2 N v2 k0 n v3 v4 := by
  subst hc; intro n; induction n with
  | zero => intros; rfl
  | succ n ih =>
    intro v3 v4
    rw [loop_succ, c48_2_at, m48_l2]; unfold Try.f48
    simp (maxSteps := 10000000) -implicitDefEqProofs [T48_tr, tr48, T48_lp, lp48, T48_ex, ex48, T48_rg, rg48, T48_jn, jn48, T48_fuel, T48_pins, nl48_2_fix, nl48_2_keep, nx48_0_fix, nx48_0_keep, hret, h0, ih]
theorem run48 (N : Nat) (v0 : List (Val (.int .i64))) (v1 : Int) : runT tt Γ48 (T48 N) (Try.f48.body.getD .skip) (retR tt true [i3] [.tmp 4]) (entryP [i25, i3] 21 (v0, v1, ())) = m48 N v0 v1 := by
  unfold Try.f48
  simp (maxSteps := 10000000) -implicitDefEqProofs [T48_tr, tr48, T48_lp, lp48, T48_ex, ex48, T48_rg, rg48, T48_jn, jn48, T48_fuel, T48_pins, nl48_2_fix, nl48_2_keep, nx48_0_fix, nx48_0_keep]
  rewrite [r48_l2 (k0 := (fun (v6 : Int) => some (v6, ()))) N _ ?_ ?_ ?_]
  · rewrite [m48]; first | rfl | simp (maxSteps := 10000000) -implicitDefEqProofs []
  · rfl
  · intro; simp only [seqR_ret, blockR_ret, retR_ret, retX_ret]
  · intro v6; simp (maxSteps := 10000000) -implicitDefEqProofs [T48_tr, tr48, T48_lp, lp48, T48_ex, ex48, T48_rg, rg48, T48_jn, jn48, T48_fuel, T48_pins, nl48_2_fix, nl48_2_keep, nx48_0_fix, nx48_0_keep]
def g48 : G := { ps := [i25, i3], rs := [i3], dp := true, pre := fun x => held_IntS_pre x.1 x.2.1, fn := fun x => (held_IntS x.1 x.2.1, ()) }
theorem e48 (x : List (Val (.int .i64))) (k : Int) (h : held_IntS_pre x k) : ∃ N, m48 N x k = some (held_IntS x k, ()) := ⟨x.length + 1, by
  obtain ⟨hm, hb, h0, hc⟩ := h
  rw [m48]
  refine held_loop (t := .int .i64) (F := fun n i k => m48_l2 _ x _ n k i) (kf := fun k => some (k, ())) x hb.1 (fun n i k hi hx h0 hb => ?_) (fun n i k hi => ?_) _ k (Nat.lt_succ_self _) hm h0 hc
  · have hx : k = x[i] := hx
    rw [m48_l2, bif_dec (by omega), chk_pos (by omega), getD_atI hi, bif_not, bif_dec hx.symm]
    rfl
  · rw [m48_l2, bif_decN (by omega)]⟩
theorem s48 : Sound Try.prog 48 g48 := sound_run (tt := tt) (Γ := Γ48) hT ok_nil hm (fn := Try.f48) Try.func48 (c := Try.f48.body.getD .skip) (by kernel_rfl) (by kernel_rfl) fun x hx => by
  obtain ⟨N, h⟩ := e48 x.1 x.2.1 hx
  exact ⟨T48 N, p48, noSem_ok _, tb48 N, (run48 N x.1 x.2.1).trans h⟩
def held_AtomS (x : List (Val Y36)) (k : Int) : Int := (mkT (.slice 36 Y36) x k).2
def held_AtomS_pre (x : List (Val Y36)) (k : Int) : Prop := heldPre (.slice 36 Y36) x k
-- laws.heldAtomS
noncomputable def m37_l2 (N : Nat) (v2 : List (Val Y36)) (k0 : Int → Option (Vals [i3])) : Nat → Int → Int → Option (Vals [i3])
  | 0, _, _ => none
  | n + 1, v3, v4 => bif (decide (v4 < (v2.length : Int))) then (chk (0 ≤ v4 ∧ v4 < (v2.length : Int)) (chk (held_IntS_pre ((v2.getD v4.toNat (dflt Y36)).1 : List (Val (.int .i64))) v3) (bif (decide (((held_IntS ((v2.getD v4.toNat (dflt Y36)).1 : List (Val (.int .i64))) v3) : Int) < (0 : Int))) then (some ((-1 : Int), ())) else (chk (0 ≤ v4 ∧ v4 < (v2.length : Int)) (bif (!(decide ((((v2.getD v4.toNat (dflt Y36)).2).1 : Int) = ((held_IntS ((v2.getD v4.toNat (dflt Y36)).1 : List (Val (.int .i64))) v3) : Int)))) then (some ((-1 : Int), ())) else (chk (0 ≤ v4 ∧ v4 < (v2.length : Int)) (chk ((3 : Int) ≠ 0) (bif (!((((v2.getD v4.toNat (dflt Y36)).2).2 : Bool) == (decide (((IntKind.i64.wrap (((held_IntS ((v2.getD v4.toNat (dflt Y36)).1 : List (Val (.int .i64))) v3) : Int) + (1 : Int))).tmod (3 : Int)) = (0 : Int))))) then (some ((-1 : Int), ())) else (m37_l2 N v2 k0 n (IntKind.i64.wrap ((IntKind.i64.wrap (((held_IntS ((v2.getD v4.toNat (dflt Y36)).1 : List (Val (.int .i64))) v3) : Int) + (1 : Int))) + (1 : Int))) (IntKind.i64.wrap (v4 + (1 : Int)))))))))))) else (k0 v3)
noncomputable def m37 (N : Nat) (v0 : List (Val Y36)) (v1 : Int) : Option (Vals [i3]) := m37_l2 N v0 (fun (v6 : Int) => some (v6, ())) N v1 (0 : Int)
def Γ37 : Gam := [(48, g48)]
theorem Γ37_48 : Gam.get Γ37 48 = some g48 := rfl
def nl37_2 : Nm := ⟨[true, true, false, false, false, true], []⟩
theorem nl37_2_fix : nl37_2.fix = [] := rfl
theorem nl37_2_keep : nl37_2.keep = [true, true, false, false, false, true] := rfl
def nx37_0 : Nm := ⟨[false, true], []⟩
theorem nx37_0_fix : nx37_0.fix = [] := rfl
theorem nx37_0_keep : nx37_0.keep = [false, true] := rfl
def tr37 : Nat → Tree := fun _ => .done
def lp37 : Nat → Nm := fun i => if i = 2 then nl37_2 else ⟨[], []⟩
def jn37 : Nat → Option Jn := fun _ => none
def ex37 : Nat → Option Nm := fun i => if i = 0 then some nx37_0 else none
def rg37 : Nat → Option Nm := fun _ => none
theorem p37 : plansOk tr37 (Try.f37.body.getD .skip) = true := by kernel_rfl
def T37 (N : Nat) : Tab := { tr := tr37, lp := lp37, ex := ex37, rg := rg37, jn := jn37, fuel := N }
theorem T37_pins (N : Nat) : (T37 N).pins = false := rfl
theorem tb37 (N : Nat) : TbOk Try.prog (T37 N) := tb_none fun _ => rfl
theorem T37_tr (N i : Nat) : (T37 N).tr i = tr37 i := rfl
theorem T37_lp (N i : Nat) : (T37 N).lp i = lp37 i := rfl
theorem T37_ex (N i : Nat) : (T37 N).ex i = ex37 i := rfl
theorem T37_rg (N i : Nat) : (T37 N).rg i = rg37 i := rfl
theorem T37_jn (N i : Nat) : (T37 N).jn i = jn37 i := rfl
theorem T37_fuel (N : Nat) : (T37 N).fuel = N := rfl
noncomputable def c37_2 : Code := cut [true, false, true, true, true] (Try.f37.body.getD .skip)
theorem c37_2_at {N : Nat} {Q : X → St → Option (Vals [i3])} {e : List LV} {h : List Blk} : runT tt Γ37 (T37 N) c37_2 Q ⟨e, h⟩ = runT tt Γ37 (T37 N) (cut [true, false, true, true, true] (Try.f37.body.getD .skip)) Q ⟨e, h⟩ := rfl
theorem r37_l2 (N : Nat) (v2 : List (Val Y36)) {k0 : Int → Option (Vals [i3])} {Q : X → St → Option (Vals [i3])} {c : Code} (hc : c = c37_2) (hret : ∀ st, Q .ret st = retS tt true [i3] [.tmp 4] st) (h0 : ∀ (v5 : Int), Q (.exit 0) ⟨[u, .one (.int .i64 v5), u, u, u, u, u, u, u, u, u, u, u, u, u, u, u, u, u, u, u, u, u, u, u, u, u, u, u, u, u, u, u, u, u, u, u, u, u, u, u, u], []⟩ = k0 v5) : ∀ (n : Nat) (v3 : Int) (v4 : Int), loopR (runT tt Γ37 (T37 N) c) false nl37_2 Q n ⟨[.one (.sl 36 Y36 v2 0), .one (.int .i64 v3), u, u, u, .one (.int .i64 v4), u, u, u, u, u, u, u, u, u, u, u, u, u, u, u, u, u, u, u, u, u, u, u, u, u, u, u, u, u, u, u, u, u, u, u, u], []⟩ = m37_l2 N v2 k0 n v3 v4 := by
  subst hc; intro n; induction n with
  | zero => intros; rfl
  | succ n ih =>
    intro v3 v4
    rw [loop_succ, c37_2_at, m37_l2]; unfold Try.f37
    simp (maxSteps := 10000000) -implicitDefEqProofs [T37_tr, tr37, T37_lp, lp37, T37_ex, ex37, T37_rg, rg37, T37_jn, jn37, T37_fuel, T37_pins, nl37_2_fix, nl37_2_keep, nx37_0_fix, nx37_0_keep, Γ37_48, g48, hret, h0, ih]
theorem run37 (N : Nat) (v0 : List (Val Y36)) (v1 : Int) : runT tt Γ37 (T37 N) (Try.f37.body.getD .skip) (retR tt true [i3] [.tmp 4]) (entryP [i30, i3] 42 (v0, v1, ())) = m37 N v0 v1 := by
  unfold Try.f37
  simp (maxSteps := 10000000) -implicitDefEqProofs [T37_tr, tr37, T37_lp, lp37, T37_ex, ex37, T37_rg, rg37, T37_jn, jn37, T37_fuel, T37_pins, nl37_2_fix, nl37_2_keep, nx37_0_fix, nx37_0_keep, Γ37_48, g48]
  rewrite [r37_l2 (k0 := (fun (v6 : Int) => some (v6, ()))) N _ ?_ ?_ ?_]
  · rewrite [m37]; first | rfl | simp (maxSteps := 10000000) -implicitDefEqProofs []
  · rfl
  · intro; simp only [seqR_ret, blockR_ret, retR_ret, retX_ret]
  · intro v6; simp (maxSteps := 10000000) -implicitDefEqProofs [T37_tr, tr37, T37_lp, lp37, T37_ex, ex37, T37_rg, rg37, T37_jn, jn37, T37_fuel, T37_pins, nl37_2_fix, nl37_2_keep, nx37_0_fix, nx37_0_keep, Γ37_48, g48]
def g37 : G := { ps := [i30, i3], rs := [i3], dp := true, pre := fun x => held_AtomS_pre x.1 x.2.1, fn := fun x => (held_AtomS x.1 x.2.1, ()) }
theorem e37 (x : List (Val Y36)) (k : Int) (h : held_AtomS_pre x k) : ∃ N, m37 N x k = some (held_AtomS x k, ()) := ⟨x.length + 1, by
  obtain ⟨hm, hb, h0, hc⟩ := h
  rw [m37]
  refine held_loop (t := Y36) (F := fun n i k => m37_l2 _ x _ n k i) (kf := fun k => some (k, ())) x hb.1 (fun n i k hi hx h0 hc => ?_) (fun n i k hi => ?_) _ k (Nat.lt_succ_self _) hm h0 hc
  · have hb := hb.2 _ (List.getElem_mem hi)
    obtain ⟨e1, e2, e3⟩ : (mkE (.slice 3 (.int .i64)) x[i].1 k).1 = x[i].1 ∧ (mkE (.slice 3 (.int .i64)) x[i].1 k).2 = x[i].2.1 ∧ decide (Int.tmod (IntKind.i64.wrap ((mkE (.slice 3 (.int .i64)) x[i].1 k).2 + 1)) 3 = 0) = x[i].2.2 := by
      have := Prod.mk.inj hx
      have h2 := Prod.mk.inj this.2
      exact ⟨this.1, h2.1, h2.2⟩
    have hcc : k + (cntE (.slice 3 (.int .i64)) x[i].1 : Nat) + 2 ≤ 4611686018427387904 := by
      have : cntE Y36 x[i] = cntE (.slice 3 (.int .i64)) x[i].1 + (1 + 1) := rfl
      omega
    have hk := mkE_k (.slice 3 (.int .i64)) x[i].1 k h0 (by omega)
    have hp : held_IntS_pre x[i].1 k := ⟨e1, hb.1, h0, by have : cntT (.slice 3 (.int .i64)) x[i].1 = cntE (.slice 3 (.int .i64)) x[i].1 := rfl; omega⟩
    have ev : held_IntS x[i].1 k = (mkE (.slice 3 (.int .i64)) x[i].1 k).2 := rfl
    rw [m37_l2, bif_dec (by omega), chk_pos (by omega), getD_atI hi, chk_pos hp, bif_decN (by omega), chk_pos (by omega), bif_not, bif_dec (by rw [ev]; exact e2.symm), chk_pos (by omega), chk_pos (by decide), bif_not, bif_true (by rw [ev, e3]; exact beq_self_eq_true _)]
    rfl
  · rw [m37_l2, bif_decN (by omega)]⟩
theorem s37 : Sound Try.prog 37 g37 := sound_run (tt := tt) (Γ := Γ37) hT (ok_cons s48 ok_nil) hm (fn := Try.f37) Try.func37 (c := Try.f37.body.getD .skip) (by kernel_rfl) (by kernel_rfl) fun x hx => by
  obtain ⟨N, h⟩ := e37 x.1 x.2.1 hx
  exact ⟨T37 N, p37, noSem_ok _, tb37 N, (run37 N x.1 x.2.1).trans h⟩
def held_Cell (x : Val Y32) (k : Int) : Int := (mkT Y32 x k).2
def held_Cell_pre (x : Val Y32) (k : Int) : Prop := heldPre Y32 x k
-- laws.heldCell
noncomputable def m16 (N : Nat) (v0 : Val Y32) (v1 : Int) : Option (Vals [i3]) := chk (held_AtomS_pre (v0.2 : List (Val Y36)) v1) (bif (decide (((held_AtomS (v0.2 : List (Val Y36)) v1) : Int) < (0 : Int))) then (some ((-1 : Int), ())) else (some (((held_AtomS (v0.2 : List (Val Y36)) v1) : Int), ())))
def Γ16 : Gam := [(37, g37)]
theorem Γ16_37 : Gam.get Γ16 37 = some g37 := rfl
def tr16 : Nat → Tree := fun _ => .done
def lp16 : Nat → Nm := fun _ => ⟨[], []⟩
def jn16 : Nat → Option Jn := fun _ => none
def ex16 : Nat → Option Nm := fun _ => none
def rg16 : Nat → Option Nm := fun _ => none
theorem p16 : plansOk tr16 (Try.f16.body.getD .skip) = true := by kernel_rfl
def T16 (N : Nat) : Tab := { tr := tr16, lp := lp16, ex := ex16, rg := rg16, jn := jn16, fuel := N }
theorem T16_pins (N : Nat) : (T16 N).pins = false := rfl
theorem tb16 (N : Nat) : TbOk Try.prog (T16 N) := tb_none fun _ => rfl
theorem T16_tr (N i : Nat) : (T16 N).tr i = tr16 i := rfl
theorem T16_lp (N i : Nat) : (T16 N).lp i = lp16 i := rfl
theorem T16_ex (N i : Nat) : (T16 N).ex i = ex16 i := rfl
theorem T16_rg (N i : Nat) : (T16 N).rg i = rg16 i := rfl
theorem T16_jn (N i : Nat) : (T16 N).jn i = jn16 i := rfl
theorem T16_fuel (N : Nat) : (T16 N).fuel = N := rfl
theorem run16 (N : Nat) (v0 : Val Y32) (v1 : Int) : runT tt Γ16 (T16 N) (Try.f16.body.getD .skip) (retR tt true [i3] [.tmp 4]) (entryP [i32, i3] 12 (v0, v1, ())) = m16 N v0 v1 := by
  rw [m16]; unfold Try.f16
  simp (maxSteps := 10000000) -implicitDefEqProofs [T16_tr, tr16, T16_lp, lp16, T16_ex, ex16, T16_rg, rg16, T16_jn, jn16, T16_fuel, T16_pins, Γ16_37, g37]
  try rfl
def g16 : G := { ps := [i32, i3], rs := [i3], dp := true, pre := fun x => held_Cell_pre x.1 x.2.1, fn := fun x => (held_Cell x.1 x.2.1, ()) }
theorem e16 (x : Val Y32) (k : Int) (h : held_Cell_pre x k) : ∃ N, m16 N x k = some (held_Cell x k, ()) := ⟨0, by
  obtain ⟨hm, hb, h0, hc⟩ := h
  have hc' : k + (cntT (.slice 36 Y36) x.2 : Nat) ≤ 4611686018427387904 := by
    have : cntT Y32 x = 0 + cntT (.slice 36 Y36) x.2 := rfl
    omega
  have hk := mkT_k (.slice 36 Y36) x.2 k h0 hc'
  have ev : held_AtomS x.2 k = (mkT (.slice 36 Y36) x.2 k).2 := rfl
  rw [m16, chk_pos (show held_AtomS_pre x.2 k from ⟨(Prod.mk.inj hm).2, hb.2, h0, hc'⟩), bif_decN (by omega)]
  rfl⟩
theorem s16 : Sound Try.prog 16 g16 := sound_run (tt := tt) (Γ := Γ16) hT (ok_cons s37 ok_nil) hm (fn := Try.f16) Try.func16 (c := Try.f16.body.getD .skip) (by kernel_rfl) (by kernel_rfl) fun x hx => by
  obtain ⟨N, h⟩ := e16 x.1 x.2.1 hx
  exact ⟨T16 N, p16, noSem_ok _, tb16 N, (run16 N x.1 x.2.1).trans h⟩
end Go.T
