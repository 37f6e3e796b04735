/- Marks of cells. -/
import Derived.Test.YtkjiecjpdbpghaaA1
set_option linter.unusedSimpArgs false
set_option linter.unusedVariables false
namespace Go.T
open Go Go.Proofs
set_option maxHeartbeats 4000000
set_option maxRecDepth 100000
def mk_IntS_v (x : List (Val (.int .i64))) (k : Int) : List (Val (.int .i64)) := (mkT (.slice 3 (.int .i64)) x k).1
def mk_IntS_k (x : List (Val (.int .i64))) (k : Int) : Int := (mkT (.slice 3 (.int .i64)) x k).2
def mk_IntS_pre (x : List (Val (.int .i64))) (k : Int) : Prop := Bd (.slice 3 (.int .i64)) x ∧ k ≤ 9223372036854775807
def gm26 : Gms := ⟨3, (.int .i64), mk_IntS_pre, mk_IntS_v, mk_IntS_k⟩
-- laws.markIntS
noncomputable def m26_l2 (N : Nat)  (k0 : Int → (List (Val (.int .i64))) → Option ((List (Val (.int .i64))) × Int)) : Nat → Int → Int → (List (Val (.int .i64))) → Option ((List (Val (.int .i64))) × Int)
  | 0, _, _, _ => none
  | n + 1, v2, v3, v4 => bif (decide (v3 < (v4.length : Int))) then (chk (0 ≤ v3 ∧ v3 < (v4.length : Int)) (chk (v3.toNat < v4.length) (m26_l2 N  k0 n (IntKind.i64.wrap (v2 + (1 : Int))) (IntKind.i64.wrap (v3 + (1 : Int))) (v4.set v3.toNat v2)))) else (k0 v2 v4)
noncomputable def m26 (N : Nat) (v0 : List (Val (.int .i64))) (v1 : Int) : Option ((List (Val (.int .i64))) × Int) := m26_l2 N  (fun (v7 : Int) (v8 : List (Val (.int .i64))) => some (v8, v7)) N v1 (0 : Int) v0
def Γ26 : Gam := []
def nl26_2 : Nm := ⟨[true, true, false, false, false, true], []⟩
theorem nl26_2_fix : nl26_2.fix = [] := rfl
theorem nl26_2_keep : nl26_2.keep = [true, true, false, false, false, true] := rfl
def nx26_0 : Nm := ⟨[false, true], []⟩
theorem nx26_0_fix : nx26_0.fix = [] := rfl
theorem nx26_0_keep : nx26_0.keep = [false, true] := rfl
def sem26 : Sem := markSem [] []
def tr26 : Nat → Tree := fun _ => .done
def lp26 : Nat → Nm := fun i => if i = 2 then nl26_2 else ⟨[], []⟩
def ex26 : Nat → Option Nm := fun i => if i = 0 then some nx26_0 else none
def rg26 : Nat → Option Nm := fun _ => none
theorem p26 : plansOk tr26 (Try.f26.body.getD .skip) = true := by kernel_rfl
def T26 (N : Nat) : Tab := { tr := tr26, lp := lp26, ex := ex26, rg := rg26, fuel := N, pins := true, sem := sem26 }
theorem T26_pins (N : Nat) : (T26 N).pins = true := rfl
theorem T26_sem (N : Nat) : (T26 N).sem = sem26 := rfl
theorem T26_tr (N i : Nat) : (T26 N).tr i = tr26 i := rfl
theorem T26_lp (N i : Nat) : (T26 N).lp i = lp26 i := rfl
theorem T26_ex (N i : Nat) : (T26 N).ex i = ex26 i := rfl
theorem T26_rg (N i : Nat) : (T26 N).rg i = rg26 i := rfl
theorem T26_fuel (N : Nat) : (T26 N).fuel = N := rfl
noncomputable def c26_2 : Code := cut [true, false, true, true, true] (Try.f26.body.getD .skip)
theorem c26_2_at {N : Nat} {Q : X → St → Option ((List (Val (.int .i64))) × Int)} {e : List LV} {h : List Blk} : runT tt Γ26 (T26 N) c26_2 Q ⟨e, h⟩ = runT tt Γ26 (T26 N) (cut [true, false, true, true, true] (Try.f26.body.getD .skip)) Q ⟨e, h⟩ := rfl
theorem r26_l2 (N : Nat)  {k0 : Int → (List (Val (.int .i64))) → Option ((List (Val (.int .i64))) × Int)} {Q : X → St → Option ((List (Val (.int .i64))) × Int)} {c : Code} (hc : c = c26_2) (hret : ∀ st, Q .ret st = retM1 tt (.slice 3 (.int .i64)) [.own 0] [.tmp 4] st) (h0 : ∀ (v5 : Int) (v6 : List (Val (.int .i64))), Q (.exit 0) ⟨[u, .one (.int .i64 v5), u, u, u, u, u, u, u, u, u, u, u, u, u, u, u, u, u], [.row 3 (.int .i64) v6 true true 0]⟩ = k0 v5 v6) : ∀ (n : Nat) (v2 : Int) (v3 : Int) (v4 : List (Val (.int .i64))), loopR (runT tt Γ26 (T26 N) c) true nl26_2 Q n ⟨[.one (.own 0), .one (.int .i64 v2), u, u, u, .one (.int .i64 v3), u, u, u, u, u, u, u, u, u, u, u, u, u], [.row 3 (.int .i64) v4 true true 0]⟩ = m26_l2 N  k0 n v2 v3 v4 := by
  subst hc; intro n; induction n with
  | zero => intros; rfl
  | succ n ih =>
    intro v2 v3 v4
    rw [loop_succ, c26_2_at, m26_l2]; unfold Try.f26
    simp (maxSteps := 10000000) -implicitDefEqProofs [T26_tr, tr26, T26_lp, lp26, T26_ex, ex26, T26_rg, rg26, T26_fuel, T26_pins, T26_sem, sem26, semR', retX_ret, entryM, nl26_2_fix, nl26_2_keep, nx26_0_fix, nx26_0_keep, hret, h0, ih]
theorem run26 (N : Nat) (v0 : List (Val (.int .i64))) (v1 : Int) : runT tt Γ26 (T26 N) (Try.f26.body.getD .skip) (retX (retM1 tt (.slice 3 (.int .i64)) (explodeOwn 0 (.slice 3 (.int .i64)) v0).1 [.tmp 4])) (entryM i32 19 v0 v1) = m26 N v0 v1 := by
  unfold Try.f26
  simp (maxSteps := 10000000) -implicitDefEqProofs [T26_tr, tr26, T26_lp, lp26, T26_ex, ex26, T26_rg, rg26, T26_fuel, T26_pins, T26_sem, sem26, semR', retX_ret, entryM, nl26_2_fix, nl26_2_keep, nx26_0_fix, nx26_0_keep]
  rewrite [r26_l2 (k0 := (fun (v7 : Int) (v8 : List (Val (.int .i64))) => some (v8, v7))) N  ?_ ?_ ?_]
  · rewrite [m26]; first | rfl | simp (maxSteps := 10000000) -implicitDefEqProofs []
  · rfl
  · intro; simp only [seqR_ret, blockR_ret, retR_ret, retX_ret]
  · intro v7 v8; simp (maxSteps := 10000000) -implicitDefEqProofs [T26_tr, tr26, T26_lp, lp26, T26_ex, ex26, T26_rg, rg26, T26_fuel, T26_pins, T26_sem, sem26, semR', retX_ret, entryM, nl26_2_fix, nl26_2_keep, nx26_0_fix, nx26_0_keep]
theorem e26 (x : List (Val (.int .i64))) (k : Int) (h : mk_IntS_pre x k) : ∃ N, m26 N x k = some (mk_IntS_v x k, mk_IntS_k x k) := ⟨x.length + 1, by
  rw [m26]
  refine mark_loop (f := mkE (.int .i64)) (F := fun n i k s => m26_l2 _ _ n k i s) (kf := fun k s => some (s, k)) x h.1.1 (mkE_le _) (fun n i k s hi _ hl => ?_) (fun n i k s hl hi => ?_) _ k h.2 (Nat.lt_succ_self _)
  · rw [m26_l2, bif_dec (by omega), chk_pos (by omega), chk_pos (by omega)]
    rfl
  · rw [m26_l2, bif_decN (by omega)]⟩
theorem sm26 : SoundMs Try.prog 26 gm26 := sound_mf (tt := tt) (Γ := Γ26) hT ok_nil hm (fn := Try.f26) Try.func26 (c := Try.f26.body.getD .skip) (by kernel_rfl) (by kernel_rfl) rfl fun x n hx => by
  obtain ⟨N, h⟩ := e26 x n hx
  exact ⟨T26 N, rfl, p26, markSem_ok own_nil hdr_nil, (run26 N x n).trans h⟩
def mk_AtomS_v (x : List (Val Y106)) (k : Int) : List (Val Y106) := (mkT (.slice 106 Y106) x k).1
def mk_AtomS_k (x : List (Val Y106)) (k : Int) : Int := (mkT (.slice 106 Y106) x k).2
def mk_AtomS_pre (x : List (Val Y106)) (k : Int) : Prop := Bd (.slice 106 Y106) x ∧ k ≤ 9223372036854775807
def gm72 : Gms := ⟨106, Y106, mk_AtomS_pre, mk_AtomS_v, mk_AtomS_k⟩
-- laws.markAtomS
noncomputable def m72_l2 (N : Nat) (v6 : List (Val (hd Y106))) (k0 : Int → (List (Val H106)) → (List (Val Y106)) → Option (List (Val H106) × List (Val Y106) × Int)) : Nat → Int → Int → (List (Val H106)) → (List (Val Y106)) → Option (List (Val H106) × List (Val Y106) × Int)
  | 0, _, _, _, _ => none
  | n + 1, v3, v4, v5, v7 => bif (decide (v4 < (v5.length : Int))) then (chk (0 ≤ v4 ∧ v4 < (v5.length : Int)) (chk (v4.toNat < v5.length) (chk (v4.toNat < v7.length ∧ v4.toNat < v6.length ∧ ((v6.getD v4.toNat (dflt (hd Y106)) : Val H106).1 : Value) = ((v5.getD v4.toNat (dflt H106)).1 : Value) ∧ mk_IntS_pre ((v7.getD v4.toNat (dflt Y106)).1 : List (Val (.int .i64))) v3) (chk (0 ≤ v4 ∧ v4 < (v5.length : Int)) (chk (v4.toNat < v5.length) (chk ((3 : Int) ≠ 0) (chk (0 ≤ v4 ∧ v4 < ((v5.set v4.toNat (((v5.getD v4.toNat (dflt H106)).1 : Value), ((mk_IntS_k ((v7.getD v4.toNat (dflt Y106)).1 : List (Val (.int .i64))) v3), (((v5.getD v4.toNat (dflt H106)).2).2 : Bool)))).length : Int)) (chk (v4.toNat < (v5.set v4.toNat (((v5.getD v4.toNat (dflt H106)).1 : Value), ((mk_IntS_k ((v7.getD v4.toNat (dflt Y106)).1 : List (Val (.int .i64))) v3), (((v5.getD v4.toNat (dflt H106)).2).2 : Bool)))).length) (m72_l2 N v6 k0 n (IntKind.i64.wrap ((IntKind.i64.wrap ((mk_IntS_k ((v7.getD v4.toNat (dflt Y106)).1 : List (Val (.int .i64))) v3) + (1 : Int))) + (1 : Int))) (IntKind.i64.wrap (v4 + (1 : Int))) ((v5.set v4.toNat (((v5.getD v4.toNat (dflt H106)).1 : Value), ((mk_IntS_k ((v7.getD v4.toNat (dflt Y106)).1 : List (Val (.int .i64))) v3), (((v5.getD v4.toNat (dflt H106)).2).2 : Bool)))).set v4.toNat ((((v5.set v4.toNat (((v5.getD v4.toNat (dflt H106)).1 : Value), ((mk_IntS_k ((v7.getD v4.toNat (dflt Y106)).1 : List (Val (.int .i64))) v3), (((v5.getD v4.toNat (dflt H106)).2).2 : Bool)))).getD v4.toNat (dflt H106)).1 : Value), (((((v5.set v4.toNat (((v5.getD v4.toNat (dflt H106)).1 : Value), ((mk_IntS_k ((v7.getD v4.toNat (dflt Y106)).1 : List (Val (.int .i64))) v3), (((v5.getD v4.toNat (dflt H106)).2).2 : Bool)))).getD v4.toNat (dflt H106)).2).1 : Int), (decide (((IntKind.i64.wrap ((mk_IntS_k ((v7.getD v4.toNat (dflt Y106)).1 : List (Val (.int .i64))) v3) + (1 : Int))).tmod (3 : Int)) = (0 : Int)))))) (v7.set v4.toNat ((mk_IntS_v ((v7.getD v4.toNat (dflt Y106)).1 : List (Val (.int .i64))) v3), (v7.getD v4.toNat (dflt Y106)).2))))))))))) else (k0 v3 v5 v7)
noncomputable def m72 (N : Nat) (v0 : List (Val (hd Y106))) (v1 : List (Val Y106)) (v2 : Int) : Option (List (Val H106) × List (Val Y106) × Int) := m72_l2 N v0 (fun (v11 : Int) (v12 : List (Val H106)) (v13 : List (Val Y106)) => some (v12, v13, v11)) N v2 (0 : Int) v0 v1
def Γ72 : Gam := []
theorem Γ72_26 : Gam.get Γ72 26 = none := rfl
def nl72_2 : Nm := ⟨[true, true, false, false, false, true], []⟩
theorem nl72_2_fix : nl72_2.fix = [] := rfl
theorem nl72_2_keep : nl72_2.keep = [true, true, false, false, false, true] := rfl
def nx72_0 : Nm := ⟨[false, true], []⟩
theorem nx72_0_fix : nx72_0.fix = [] := rfl
theorem nx72_0_keep : nx72_0.keep = [false, true] := rfl
def sem72 : Sem := markSem [] [(18, 26, gm26, 0, 13)]
def tr72 : Nat → Tree := fun _ => .done
def lp72 : Nat → Nm := fun i => if i = 2 then nl72_2 else ⟨[], []⟩
def ex72 : Nat → Option Nm := fun i => if i = 0 then some nx72_0 else none
def rg72 : Nat → Option Nm := fun _ => none
theorem p72 : plansOk tr72 (Try.f72.body.getD .skip) = true := by kernel_rfl
def T72 (N : Nat) : Tab := { tr := tr72, lp := lp72, ex := ex72, rg := rg72, fuel := N, pins := true, sem := sem72 }
theorem T72_pins (N : Nat) : (T72 N).pins = true := rfl
theorem T72_sem (N : Nat) : (T72 N).sem = sem72 := rfl
theorem T72_tr (N i : Nat) : (T72 N).tr i = tr72 i := rfl
theorem T72_lp (N i : Nat) : (T72 N).lp i = lp72 i := rfl
theorem T72_ex (N i : Nat) : (T72 N).ex i = ex72 i := rfl
theorem T72_rg (N i : Nat) : (T72 N).rg i = rg72 i := rfl
theorem T72_fuel (N : Nat) : (T72 N).fuel = N := rfl
noncomputable def c72_2 : Code := cut [true, false, true, true, true] (Try.f72.body.getD .skip)
theorem c72_2_at {N : Nat} {Q : X → St → Option (List (Val H106) × List (Val Y106) × Int)} {e : List LV} {h : List Blk} : runT tt Γ72 (T72 N) c72_2 Q ⟨e, h⟩ = runT tt Γ72 (T72 N) (cut [true, false, true, true, true] (Try.f72.body.getD .skip)) Q ⟨e, h⟩ := rfl
theorem r72_l2 (N : Nat) (F : List Nat) (v6 : List (Val (hd Y106))) {k0 : Int → (List (Val H106)) → (List (Val Y106)) → Option (List (Val H106) × List (Val Y106) × Int)} {Q : X → St → Option (List (Val H106) × List (Val Y106) × Int)} {c : Code} (hc : c = c72_2) (hret : ∀ st, Q .ret st = retMS tt 106 Y106 H106 F v6 [.tmp 4] st) (h0 : ∀ (v8 : Int) (v9 : List (Val H106)) (v10 : List (Val Y106)), Q (.exit 0) ⟨[u, .one (.int .i64 v8), u, u, u, u, u, u, u, u, u, u, u, u, u, u, u, u, u, u, u, u, u, u, u, u, u, u, u, u, u, u, u, u, u, u], [.row 106 H106 v9 true true 0, .nst F Y106 v6 v10]⟩ = k0 v8 v9 v10) : ∀ (n : Nat) (v3 : Int) (v4 : Int) (v5 : List (Val H106)) (v7 : List (Val Y106)), loopR (runT tt Γ72 (T72 N) c) true nl72_2 Q n ⟨[.one (.own 0), .one (.int .i64 v3), u, u, u, .one (.int .i64 v4), u, u, u, u, u, u, u, u, u, u, u, u, u, u, u, u, u, u, u, u, u, u, u, u, u, u, u, u, u, u], [.row 106 H106 v5 true true 0, .nst F Y106 v6 v7]⟩ = m72_l2 N v6 k0 n v3 v4 v5 v7 := by
  subst hc; intro n; induction n with
  | zero => intros; rfl
  | succ n ih =>
    intro v3 v4 v5 v7
    rw [loop_succ, c72_2_at, m72_l2]; unfold Try.f72
    simp (maxSteps := 10000000) -implicitDefEqProofs [T72_tr, tr72, T72_lp, lp72, T72_ex, ex72, T72_rg, rg72, T72_fuel, T72_pins, T72_sem, sem72, semR', Γ72_26, gm26, retX_ret, entryM, nl72_2_fix, nl72_2_keep, nx72_0_fix, nx72_0_keep, hret, h0, ih]
theorem run72 (N : Nat) (F : List Nat) (v0 : List (Val (hd Y106))) (v1 : List (Val Y106)) (v2 : Int) : runT tt Γ72 (T72 N) (Try.f72.body.getD .skip) (retX (retMS tt 106 Y106 H106 F v0 [.tmp 4])) ⟨[.one (.own 0), .one (.int .i64 v2), .tup [], .tup [], .tup [], .tup [], .tup [], .tup [], .tup [], .tup [], .tup [], .tup [], .tup [], .tup [], .tup [], .tup [], .tup [], .tup [], .tup [], .tup [], .tup [], .tup [], .tup [], .tup [], .tup [], .tup [], .tup [], .tup [], .tup [], .tup [], .tup [], .tup [], .tup [], .tup [], .tup [], .tup []], [.row 106 H106 v0 true true 0, .nst F Y106 v0 v1]⟩ = m72 N v0 v1 v2 := by
  unfold Try.f72
  simp (maxSteps := 10000000) -implicitDefEqProofs [T72_tr, tr72, T72_lp, lp72, T72_ex, ex72, T72_rg, rg72, T72_fuel, T72_pins, T72_sem, sem72, semR', Γ72_26, gm26, retX_ret, entryM, nl72_2_fix, nl72_2_keep, nx72_0_fix, nx72_0_keep]
  rewrite [r72_l2 (k0 := (fun (v11 : Int) (v12 : List (Val H106)) (v13 : List (Val Y106)) => some (v12, v13, v11))) N _ _ ?_ ?_ ?_]
  · rewrite [m72]; first | rfl | simp (maxSteps := 10000000) -implicitDefEqProofs []
  · rfl
  · intro; simp only [seqR_ret, blockR_ret, retR_ret, retX_ret]
  · intro v11 v12 v13; simp (maxSteps := 10000000) -implicitDefEqProofs [T72_tr, tr72, T72_lp, lp72, T72_ex, ex72, T72_rg, rg72, T72_fuel, T72_pins, T72_sem, sem72, semR', Γ72_26, gm26, retX_ret, entryM, nl72_2_fix, nl72_2_keep, nx72_0_fix, nx72_0_keep]
theorem e72 (hs : List (Val (hd Y106))) (xs : List (Val Y106)) (k : Int) (h : mk_AtomS_pre xs k) (hl : xs.length = hs.length) (hmx : mixL Y106 xs hs = hs) :
    ∃ N vs, vs.map (slcV Y106) = (mk_AtomS_v xs k).map (slcV Y106) ∧ m72 N hs xs k = some (mixL Y106 (mk_AtomS_v xs k) hs, vs, mk_AtomS_k xs k) := by
  refine ⟨xs.length + 1, ?_⟩
  rw [m72]
  refine nst_loop (t := Y106) (F := fun n i k ys vs => m72_l2 _ hs _ n k i ys vs) (kf := fun k ys vs => some (ys, vs, k)) xs hl hmx (by rw [← hl]; exact h.1.1) (fun n i k fs vs hi hh hv hk l1 l2 hsl ⟨hx, hfx⟩ => ?_) (fun n i k ys vs hl hi => ?_) _ k h.2 (Nat.lt_succ_self _)
  · have hy : (mixL Y106 fs hs).length = hs.length := mixL_len l1
    have e1 : vs[i].1 = fs[i].1 := (Prod.mk.inj hsl).1
    refine ⟨(mk_IntS_v vs[i].1 k, vs[i].2), ?_, ?_⟩
    · show ((mk_IntS_v vs[i].1 k, (0, false)) : Val Y106) = (mk_IntS_v fs[i].1 k, (0, false))
      rw [e1]
    · have hb : mk_IntS_pre vs[i].1 k := ⟨by rw [e1, hfx]; exact (h.1.2 _ (List.getElem_mem hx)).1, hk⟩
      rw [m72_l2, bif_dec (by omega), chk_pos (by omega), chk_pos (by omega), mixL_at hi hh l1, getD_atI hv, getD_atI hh, chk_pos ⟨by omega, by omega, rfl, hb⟩, chk_pos (by omega), chk_pos (by omega), chk_pos (by decide), chk_pos (by rw [List.length_set]; omega), chk_pos (by rw [List.length_set]; omega), List.set_set, getD_setI (by omega), Int.toNat_natCast]
      rw [← mixL_set hh l1]
      simp only [e1]
      rfl
  · rw [m72_l2, bif_decN (by omega)]
theorem sm72 : SoundMs Try.prog 72 gm72 := sound_ms (tt := tt) (Γ := Γ72) hT ok_nil hm (fn := Try.f72) Try.func72 (c := Try.f72.body.getD .skip) (by kernel_rfl) (by kernel_rfl) fun xs hs n F hx hl hmx => by
  obtain ⟨N, vs, h1, h2⟩ := e72 hs xs n hx hl hmx
  exact ⟨T72 N, vs, rfl, p72, markSem_ok own_nil (hdr_cons sm26 hdr_nil), h1, (run72 N F hs xs n).trans h2⟩
def mk_Cell_v (x : Val Y36) (k : Int) : Val Y36 := (mkT Y36 x k).1
def mk_Cell_k (x : Val Y36) (k : Int) : Int := (mkT Y36 x k).2
def mk_Cell_pre (x : Val Y36) (k : Int) : Prop := Bd Y36 x ∧ k ≤ 9223372036854775807
def gm25 : Gm := ⟨i36, mk_Cell_pre, mk_Cell_v, mk_Cell_k⟩
-- laws.markCell
noncomputable def m25 (N : Nat) (v0 : Val Y36) (v1 : Int) : Option ((Val Y36) × Int) := chk (mk_AtomS_pre (v0.2 : List (Val Y106)) v1) (some (((v0.1 : Int), ((mk_AtomS_v (v0.2 : List (Val Y106)) v1) : List (Val Y106))), (mk_AtomS_k (v0.2 : List (Val Y106)) v1)))
def Γ25 : Gam := []
theorem Γ25_72 : Gam.get Γ25 72 = none := rfl
def sem25 : Sem := markSem [(72, gm72.gm)] []
def tr25 : Nat → Tree := fun _ => .done
def lp25 : Nat → Nm := fun _ => ⟨[], []⟩
def ex25 : Nat → Option Nm := fun _ => none
def rg25 : Nat → Option Nm := fun _ => none
theorem p25 : plansOk tr25 (Try.f25.body.getD .skip) = true := by kernel_rfl
def T25 (N : Nat) : Tab := { tr := tr25, lp := lp25, ex := ex25, rg := rg25, fuel := N, pins := true, sem := sem25 }
theorem T25_pins (N : Nat) : (T25 N).pins = true := rfl
theorem T25_sem (N : Nat) : (T25 N).sem = sem25 := rfl
theorem T25_tr (N i : Nat) : (T25 N).tr i = tr25 i := rfl
theorem T25_lp (N i : Nat) : (T25 N).lp i = lp25 i := rfl
theorem T25_ex (N i : Nat) : (T25 N).ex i = ex25 i := rfl
theorem T25_rg (N i : Nat) : (T25 N).rg i = rg25 i := rfl
theorem T25_fuel (N : Nat) : (T25 N).fuel = N := rfl
theorem run25 (N : Nat) (v0 : Val Y36) (v1 : Int) : runT tt Γ25 (T25 N) (Try.f25.body.getD .skip) (retX (retM1 tt Y36 (explodeOwn 0 Y36 v0).1 [.tmp 4])) (entryM i36 10 v0 v1) = m25 N v0 v1 := by
  rw [m25]; unfold Try.f25
  simp (maxSteps := 10000000) -implicitDefEqProofs [T25_tr, tr25, T25_lp, lp25, T25_ex, ex25, T25_rg, rg25, T25_fuel, T25_pins, T25_sem, sem25, semR', Γ25_72, gm72, retX_ret, entryM]
  try rfl
theorem e25 (x : Val Y36) (k : Int) (h : mk_Cell_pre x k) : ∃ N, m25 N x k = some (mk_Cell_v x k, mk_Cell_k x k) := ⟨0, by
  rw [m25, chk_pos (show mk_AtomS_pre _ k from ⟨h.1.2, h.2⟩)]
  rfl⟩
theorem sm25 : SoundM Try.prog 25 gm25 := sound_m1 (tt := tt) (Γ := Γ25) hT ok_nil hm (fn := Try.f25) Try.func25 (c := Try.f25.body.getD .skip) (by kernel_rfl) (by kernel_rfl) fun x n hx => by
  obtain ⟨N, h⟩ := e25 x n hx
  exact ⟨T25 N, rfl, p25, markSem_ok (own_cons sm72.gm own_nil) hdr_nil, (run25 N x n).trans h⟩
def held_IntS (x : List (Val (.int .i64))) (k : Int) : Int := (mkT (.slice 3 (.int .i64)) x k).2
def held_IntS_pre (x : List (Val (.int .i64))) (k : Int) : Prop := heldPre (.slice 3 (.int .i64)) x k
-- laws.heldIntS
noncomputable def m59_l2 (N : Nat) (v2 : List (Val (.int .i64))) (k0 : Int → Option (Vals [i3])) : Nat → Int → Int → Option (Vals [i3])
  | 0, _, _ => none
  | n + 1, v3, v4 => bif (decide (v4 < (v2.length : Int))) then (chk (0 ≤ v4 ∧ v4 < (v2.length : Int)) (bif (!(decide (((v2.getD v4.toNat (dflt (.int .i64))) : Int) = v3))) then (some ((-1 : Int), ())) else (m59_l2 N v2 k0 n (IntKind.i64.wrap (v3 + (1 : Int))) (IntKind.i64.wrap (v4 + (1 : Int)))))) else (k0 v3)
noncomputable def m59 (N : Nat) (v0 : List (Val (.int .i64))) (v1 : Int) : Option (Vals [i3]) := m59_l2 N v0 (fun (v6 : Int) => some (v6, ())) N v1 (0 : Int)
def Γ59 : Gam := []
def nl59_2 : Nm := ⟨[true, true, false, false, false, true], []⟩
theorem nl59_2_fix : nl59_2.fix = [] := rfl
theorem nl59_2_keep : nl59_2.keep = [true, true, false, false, false, true] := rfl
def nx59_0 : Nm := ⟨[false, true], []⟩
theorem nx59_0_fix : nx59_0.fix = [] := rfl
theorem nx59_0_keep : nx59_0.keep = [false, true] := rfl
def tr59 : Nat → Tree := fun _ => .done
def lp59 : Nat → Nm := fun i => if i = 2 then nl59_2 else ⟨[], []⟩
def ex59 : Nat → Option Nm := fun i => if i = 0 then some nx59_0 else none
def rg59 : Nat → Option Nm := fun _ => none
theorem p59 : plansOk tr59 (Try.f59.body.getD .skip) = true := by kernel_rfl
def T59 (N : Nat) : Tab := { tr := tr59, lp := lp59, ex := ex59, rg := rg59, fuel := N }
theorem T59_pins (N : Nat) : (T59 N).pins = false := rfl
theorem T59_tr (N i : Nat) : (T59 N).tr i = tr59 i := rfl
theorem T59_lp (N i : Nat) : (T59 N).lp i = lp59 i := rfl
theorem T59_ex (N i : Nat) : (T59 N).ex i = ex59 i := rfl
theorem T59_rg (N i : Nat) : (T59 N).rg i = rg59 i := rfl
theorem T59_fuel (N : Nat) : (T59 N).fuel = N := rfl
noncomputable def c59_2 : Code := cut [true, false, true, true, true] (Try.f59.body.getD .skip)
theorem c59_2_at {N : Nat} {Q : X → St → Option (Vals [i3])} {e : List LV} {h : List Blk} : runT tt Γ59 (T59 N) c59_2 Q ⟨e, h⟩ = runT tt Γ59 (T59 N) (cut [true, false, true, true, true] (Try.f59.body.getD .skip)) Q ⟨e, h⟩ := rfl
theorem r59_l2 (N : Nat) (v2 : List (Val (.int .i64))) {k0 : Int → Option (Vals [i3])} {Q : X → St → Option (Vals [i3])} {c : Code} (hc : c = c59_2) (hret : ∀ st, Q .ret st = retS tt true [i3] [.tmp 4] st) (h0 : ∀ (v5 : Int), Q (.exit 0) ⟨[u, .one (.int .i64 v5), u, u, u, u, u, u, u, u, u, u, u, u, u, u, u, u, u, u, u], []⟩ = k0 v5) : ∀ (n : Nat) (v3 : Int) (v4 : Int), loopR (runT tt Γ59 (T59 N) c) false nl59_2 Q n ⟨[.one (.sl 3 (.int .i64) v2 0), .one (.int .i64 v3), u, u, u, .one (.int .i64 v4), u, u, u, u, u, u, u, u, u, u, u, u, u, u, u], []⟩ = m59_l2 N v2 k0 n v3 v4 := by
  subst hc; intro n; induction n with
  | zero => intros; rfl
  | succ n ih =>
    intro v3 v4
    rw [loop_succ, c59_2_at, m59_l2]; unfold Try.f59
    simp (maxSteps := 10000000) -implicitDefEqProofs [T59_tr, tr59, T59_lp, lp59, T59_ex, ex59, T59_rg, rg59, T59_fuel, T59_pins, nl59_2_fix, nl59_2_keep, nx59_0_fix, nx59_0_keep, hret, h0, ih]
theorem run59 (N : Nat) (v0 : List (Val (.int .i64))) (v1 : Int) : runT tt Γ59 (T59 N) (Try.f59.body.getD .skip) (retR tt true [i3] [.tmp 4]) (entryP [i32, i3] 21 (v0, v1, ())) = m59 N v0 v1 := by
  unfold Try.f59
  simp (maxSteps := 10000000) -implicitDefEqProofs [T59_tr, tr59, T59_lp, lp59, T59_ex, ex59, T59_rg, rg59, T59_fuel, T59_pins, nl59_2_fix, nl59_2_keep, nx59_0_fix, nx59_0_keep]
  rewrite [r59_l2 (k0 := (fun (v6 : Int) => some (v6, ()))) N _ ?_ ?_ ?_]
  · rewrite [m59]; first | rfl | simp (maxSteps := 10000000) -implicitDefEqProofs []
  · rfl
  · intro; simp only [seqR_ret, blockR_ret, retR_ret, retX_ret]
  · intro v6; simp (maxSteps := 10000000) -implicitDefEqProofs [T59_tr, tr59, T59_lp, lp59, T59_ex, ex59, T59_rg, rg59, T59_fuel, T59_pins, nl59_2_fix, nl59_2_keep, nx59_0_fix, nx59_0_keep]
def g59 : G := { ps := [i32, i3], rs := [i3], dp := true, pre := fun x => held_IntS_pre x.1 x.2.1, fn := fun x => (held_IntS x.1 x.2.1, ()) }
theorem e59 (x : List (Val (.int .i64))) (k : Int) (h : held_IntS_pre x k) : ∃ N, m59 N x k = some (held_IntS x k, ()) := ⟨x.length + 1, by
  obtain ⟨hm, hb, h0, hc⟩ := h
  rw [m59]
  refine held_loop (t := .int .i64) (F := fun n i k => m59_l2 _ x _ n k i) (kf := fun k => some (k, ())) x hb.1 (fun n i k hi hx h0 hb => ?_) (fun n i k hi => ?_) _ k (Nat.lt_succ_self _) hm h0 hc
  · have hx : k = x[i] := hx
    rw [m59_l2, bif_dec (by omega), chk_pos (by omega), getD_atI hi, bif_not, bif_dec hx.symm]
    rfl
  · rw [m59_l2, bif_decN (by omega)]⟩
theorem s59 : Sound Try.prog 59 g59 := sound_run (tt := tt) (Γ := Γ59) hT ok_nil hm (fn := Try.f59) Try.func59 (c := Try.f59.body.getD .skip) (by kernel_rfl) (by kernel_rfl) fun x hx => by
  obtain ⟨N, h⟩ := e59 x.1 x.2.1 hx
  exact ⟨T59 N, p59, noSem_ok _, (run59 N x.1 x.2.1).trans h⟩
def held_AtomS (x : List (Val Y106)) (k : Int) : Int := (mkT (.slice 106 Y106) x k).2
def held_AtomS_pre (x : List (Val Y106)) (k : Int) : Prop := heldPre (.slice 106 Y106) x k
-- laws.heldAtomS
noncomputable def m73_l2 (N : Nat) (v2 : List (Val Y106)) (k0 : Int → Option (Vals [i3])) : Nat → Int → Int → Option (Vals [i3])
  | 0, _, _ => none
  | n + 1, v3, v4 => bif (decide (v4 < (v2.length : Int))) then (chk (0 ≤ v4 ∧ v4 < (v2.length : Int)) (chk (held_IntS_pre ((v2.getD v4.toNat (dflt Y106)).1 : List (Val (.int .i64))) v3) (bif (decide (((held_IntS ((v2.getD v4.toNat (dflt Y106)).1 : List (Val (.int .i64))) v3) : Int) < (0 : Int))) then (some ((-1 : Int), ())) else (chk (0 ≤ v4 ∧ v4 < (v2.length : Int)) (bif (!(decide ((((v2.getD v4.toNat (dflt Y106)).2).1 : Int) = ((held_IntS ((v2.getD v4.toNat (dflt Y106)).1 : List (Val (.int .i64))) v3) : Int)))) then (some ((-1 : Int), ())) else (chk (0 ≤ v4 ∧ v4 < (v2.length : Int)) (chk ((3 : Int) ≠ 0) (bif (!((((v2.getD v4.toNat (dflt Y106)).2).2 : Bool) == (decide (((IntKind.i64.wrap (((held_IntS ((v2.getD v4.toNat (dflt Y106)).1 : List (Val (.int .i64))) v3) : Int) + (1 : Int))).tmod (3 : Int)) = (0 : Int))))) then (some ((-1 : Int), ())) else (m73_l2 N v2 k0 n (IntKind.i64.wrap ((IntKind.i64.wrap (((held_IntS ((v2.getD v4.toNat (dflt Y106)).1 : List (Val (.int .i64))) v3) : Int) + (1 : Int))) + (1 : Int))) (IntKind.i64.wrap (v4 + (1 : Int)))))))))))) else (k0 v3)
noncomputable def m73 (N : Nat) (v0 : List (Val Y106)) (v1 : Int) : Option (Vals [i3]) := m73_l2 N v0 (fun (v6 : Int) => some (v6, ())) N v1 (0 : Int)
def Γ73 : Gam := [(59, g59)]
theorem Γ73_59 : Gam.get Γ73 59 = some g59 := rfl
def nl73_2 : Nm := ⟨[true, true, false, false, false, true], []⟩
theorem nl73_2_fix : nl73_2.fix = [] := rfl
theorem nl73_2_keep : nl73_2.keep = [true, true, false, false, false, true] := rfl
def nx73_0 : Nm := ⟨[false, true], []⟩
theorem nx73_0_fix : nx73_0.fix = [] := rfl
theorem nx73_0_keep : nx73_0.keep = [false, true] := rfl
def tr73 : Nat → Tree := fun _ => .done
def lp73 : Nat → Nm := fun i => if i = 2 then nl73_2 else ⟨[], []⟩
def ex73 : Nat → Option Nm := fun i => if i = 0 then some nx73_0 else none
def rg73 : Nat → Option Nm := fun _ => none
theorem p73 : plansOk tr73 (Try.f73.body.getD .skip) = true := by kernel_rfl
def T73 (N : Nat) : Tab := { tr := tr73, lp := lp73, ex := ex73, rg := rg73, fuel := N }
theorem T73_pins (N : Nat) : (T73 N).pins = false := rfl
theorem T73_tr (N i : Nat) : (T73 N).tr i = tr73 i := rfl
theorem T73_lp (N i : Nat) : (T73 N).lp i = lp73 i := rfl
theorem T73_ex (N i : Nat) : (T73 N).ex i = ex73 i := rfl
theorem T73_rg (N i : Nat) : (T73 N).rg i = rg73 i := rfl
theorem T73_fuel (N : Nat) : (T73 N).fuel = N := rfl
noncomputable def c73_2 : Code := cut [true, false, true, true, true] (Try.f73.body.getD .skip)
theorem c73_2_at {N : Nat} {Q : X → St → Option (Vals [i3])} {e : List LV} {h : List Blk} : runT tt Γ73 (T73 N) c73_2 Q ⟨e, h⟩ = runT tt Γ73 (T73 N) (cut [true, false, true, true, true] (Try.f73.body.getD .skip)) Q ⟨e, h⟩ := rfl
theorem r73_l2 (N : Nat) (v2 : List (Val Y106)) {k0 : Int → Option (Vals [i3])} {Q : X → St → Option (Vals [i3])} {c : Code} (hc : c = c73_2) (hret : ∀ st, Q .ret st = retS tt true [i3] [.tmp 4] st) (h0 : ∀ (v5 : Int), Q (.exit 0) ⟨[u, .one (.int .i64 v5), u, u, u, u, u, u, u, u, u, u, u, u, u, u, u, u, u, u, u, u, u, u, u, u, u, u, u, u, u, u, u, u, u, u, u, u, u, u, u, u], []⟩ = k0 v5) : ∀ (n : Nat) (v3 : Int) (v4 : Int), loopR (runT tt Γ73 (T73 N) c) false nl73_2 Q n ⟨[.one (.sl 106 Y106 v2 0), .one (.int .i64 v3), u, u, u, .one (.int .i64 v4), u, u, u, u, u, u, u, u, u, u, u, u, u, u, u, u, u, u, u, u, u, u, u, u, u, u, u, u, u, u, u, u, u, u, u, u], []⟩ = m73_l2 N v2 k0 n v3 v4 := by
  subst hc; intro n; induction n with
  | zero => intros; rfl
  | succ n ih =>
    intro v3 v4
    rw [loop_succ, c73_2_at, m73_l2]; unfold Try.f73
    simp (maxSteps := 10000000) -implicitDefEqProofs [T73_tr, tr73, T73_lp, lp73, T73_ex, ex73, T73_rg, rg73, T73_fuel, T73_pins, nl73_2_fix, nl73_2_keep, nx73_0_fix, nx73_0_keep, Γ73_59, g59, hret, h0, ih]
theorem run73 (N : Nat) (v0 : List (Val Y106)) (v1 : Int) : runT tt Γ73 (T73 N) (Try.f73.body.getD .skip) (retR tt true [i3] [.tmp 4]) (entryP [i34, i3] 42 (v0, v1, ())) = m73 N v0 v1 := by
  unfold Try.f73
  simp (maxSteps := 10000000) -implicitDefEqProofs [T73_tr, tr73, T73_lp, lp73, T73_ex, ex73, T73_rg, rg73, T73_fuel, T73_pins, nl73_2_fix, nl73_2_keep, nx73_0_fix, nx73_0_keep, Γ73_59, g59]
  rewrite [r73_l2 (k0 := (fun (v6 : Int) => some (v6, ()))) N _ ?_ ?_ ?_]
  · rewrite [m73]; first | rfl | simp (maxSteps := 10000000) -implicitDefEqProofs []
  · rfl
  · intro; simp only [seqR_ret, blockR_ret, retR_ret, retX_ret]
  · intro v6; simp (maxSteps := 10000000) -implicitDefEqProofs [T73_tr, tr73, T73_lp, lp73, T73_ex, ex73, T73_rg, rg73, T73_fuel, T73_pins, nl73_2_fix, nl73_2_keep, nx73_0_fix, nx73_0_keep, Γ73_59, g59]
def g73 : G := { ps := [i34, i3], rs := [i3], dp := true, pre := fun x => held_AtomS_pre x.1 x.2.1, fn := fun x => (held_AtomS x.1 x.2.1, ()) }
theorem e73 (x : List (Val Y106)) (k : Int) (h : held_AtomS_pre x k) : ∃ N, m73 N x k = some (held_AtomS x k, ()) := ⟨x.length + 1, by
  obtain ⟨hm, hb, h0, hc⟩ := h
  rw [m73]
  refine held_loop (t := Y106) (F := fun n i k => m73_l2 _ x _ n k i) (kf := fun k => some (k, ())) x hb.1 (fun n i k hi hx h0 hc => ?_) (fun n i k hi => ?_) _ k (Nat.lt_succ_self _) hm h0 hc
  · have hb := hb.2 _ (List.getElem_mem hi)
    obtain ⟨e1, e2, e3⟩ : (mkE (.slice 3 (.int .i64)) x[i].1 k).1 = x[i].1 ∧ (mkE (.slice 3 (.int .i64)) x[i].1 k).2 = x[i].2.1 ∧ decide (Int.tmod (IntKind.i64.wrap ((mkE (.slice 3 (.int .i64)) x[i].1 k).2 + 1)) 3 = 0) = x[i].2.2 := by
      have := Prod.mk.inj hx
      have h2 := Prod.mk.inj this.2
      exact ⟨this.1, h2.1, h2.2⟩
    have hcc : k + (cntE (.slice 3 (.int .i64)) x[i].1 : Nat) + 2 ≤ 4611686018427387904 := by
      have : cntE Y106 x[i] = cntE (.slice 3 (.int .i64)) x[i].1 + (1 + 1) := rfl
      omega
    have hk := mkE_k (.slice 3 (.int .i64)) x[i].1 k h0 (by omega)
    have hp : held_IntS_pre x[i].1 k := ⟨e1, hb.1, h0, by have : cntT (.slice 3 (.int .i64)) x[i].1 = cntE (.slice 3 (.int .i64)) x[i].1 := rfl; omega⟩
    have ev : held_IntS x[i].1 k = (mkE (.slice 3 (.int .i64)) x[i].1 k).2 := rfl
    rw [m73_l2, bif_dec (by omega), chk_pos (by omega), getD_atI hi, chk_pos hp, bif_decN (by omega), chk_pos (by omega), bif_not, bif_dec (by rw [ev]; exact e2.symm), chk_pos (by omega), chk_pos (by decide), bif_not, bif_true (by rw [ev, e3]; exact beq_self_eq_true _)]
    rfl
  · rw [m73_l2, bif_decN (by omega)]⟩
theorem s73 : Sound Try.prog 73 g73 := sound_run (tt := tt) (Γ := Γ73) hT (ok_cons s59 ok_nil) hm (fn := Try.f73) Try.func73 (c := Try.f73.body.getD .skip) (by kernel_rfl) (by kernel_rfl) fun x hx => by
  obtain ⟨N, h⟩ := e73 x.1 x.2.1 hx
  exact ⟨T73 N, p73, noSem_ok _, (run73 N x.1 x.2.1).trans h⟩
def held_Cell (x : Val Y36) (k : Int) : Int := (mkT Y36 x k).2
def held_Cell_pre (x : Val Y36) (k : Int) : Prop := heldPre Y36 x k
-- laws.heldCell
noncomputable def m27 (N : Nat) (v0 : Val Y36) (v1 : Int) : Option (Vals [i3]) := chk (held_AtomS_pre (v0.2 : List (Val Y106)) v1) (bif (decide (((held_AtomS (v0.2 : List (Val Y106)) v1) : Int) < (0 : Int))) then (some ((-1 : Int), ())) else (some (((held_AtomS (v0.2 : List (Val Y106)) v1) : Int), ())))
def Γ27 : Gam := [(73, g73)]
theorem Γ27_73 : Gam.get Γ27 73 = some g73 := rfl
def tr27 : Nat → Tree := fun _ => .done
def lp27 : Nat → Nm := fun _ => ⟨[], []⟩
def ex27 : Nat → Option Nm := fun _ => none
def rg27 : Nat → Option Nm := fun _ => none
theorem p27 : plansOk tr27 (Try.f27.body.getD .skip) = true := by kernel_rfl
def T27 (N : Nat) : Tab := { tr := tr27, lp := lp27, ex := ex27, rg := rg27, fuel := N }
theorem T27_pins (N : Nat) : (T27 N).pins = false := rfl
theorem T27_tr (N i : Nat) : (T27 N).tr i = tr27 i := rfl
theorem T27_lp (N i : Nat) : (T27 N).lp i = lp27 i := rfl
theorem T27_ex (N i : Nat) : (T27 N).ex i = ex27 i := rfl
theorem T27_rg (N i : Nat) : (T27 N).rg i = rg27 i := rfl
theorem T27_fuel (N : Nat) : (T27 N).fuel = N := rfl
theorem run27 (N : Nat) (v0 : Val Y36) (v1 : Int) : runT tt Γ27 (T27 N) (Try.f27.body.getD .skip) (retR tt true [i3] [.tmp 4]) (entryP [i36, i3] 12 (v0, v1, ())) = m27 N v0 v1 := by
  rw [m27]; unfold Try.f27
  simp (maxSteps := 10000000) -implicitDefEqProofs [T27_tr, tr27, T27_lp, lp27, T27_ex, ex27, T27_rg, rg27, T27_fuel, T27_pins, Γ27_73, g73]
  try rfl
def g27 : G := { ps := [i36, i3], rs := [i3], dp := true, pre := fun x => held_Cell_pre x.1 x.2.1, fn := fun x => (held_Cell x.1 x.2.1, ()) }
theorem e27 (x : Val Y36) (k : Int) (h : held_Cell_pre x k) : ∃ N, m27 N x k = some (held_Cell x k, ()) := ⟨0, by
  obtain ⟨hm, hb, h0, hc⟩ := h
  have hc' : k + (cntT (.slice 106 Y106) x.2 : Nat) ≤ 4611686018427387904 := by
    have : cntT Y36 x = 0 + cntT (.slice 106 Y106) x.2 := rfl
    omega
  have hk := mkT_k (.slice 106 Y106) x.2 k h0 hc'
  have ev : held_AtomS x.2 k = (mkT (.slice 106 Y106) x.2 k).2 := rfl
  rw [m27, chk_pos (show held_AtomS_pre x.2 k from ⟨(Prod.mk.inj hm).2, hb.2, h0, hc'⟩), bif_decN (by omega)]
  rfl⟩
theorem s27 : Sound Try.prog 27 g27 := sound_run (tt := tt) (Γ := Γ27) hT (ok_cons s73 ok_nil) hm (fn := Try.f27) Try.func27 (c := Try.f27.body.getD .skip) (by kernel_rfl) (by kernel_rfl) fun x hx => by
  obtain ⟨N, h⟩ := e27 x.1 x.2.1 hx
  exact ⟨T27 N, p27, noSem_ok _, (run27 N x.1 x.2.1).trans h⟩
end Go.T
