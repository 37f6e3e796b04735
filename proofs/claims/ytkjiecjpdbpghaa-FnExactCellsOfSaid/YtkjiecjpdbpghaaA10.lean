/- Marks of relations and regions. -/
import Derived.Test.YtkjiecjpdbpghaaA7
set_option linter.unusedSimpArgs false
set_option linter.unusedVariables false
namespace Go.T
open Go Go.Proofs
set_option maxHeartbeats 4000000
set_option maxRecDepth 100000
theorem wrap8 {n : Int} (h1 : 0 ≤ n) (h2 : n ≤ 255) : IntKind.u8.wrap n = n := by
  rw [IntKind.wrap_u8]; omega
-- laws.markText
noncomputable def m123_l4 (N : Nat)  (k0 : ByteArray → Option (Vals [i9])) : Nat → Int → ByteArray → Option (Vals [i9])
  | 0, _, _ => none
  | n + 1, v1, v2 => bif (decide ((0 : Int) < v1)) then (chk ((10 : Int) ≠ 0) (chk ((bytesOf ([(IntKind.u8.wrap (IntKind.i64.wrap ((48 : Int) + (v1.tmod (10 : Int)))))] : List (Val (.int .u8)))).size + v2.size < 4611686018427387904) (chk ((10 : Int) ≠ 0) (m123_l4 N  k0 n (IntKind.i64.wrap (v1.tdiv (10 : Int))) ((bytesOf ([(IntKind.u8.wrap (IntKind.i64.wrap ((48 : Int) + (v1.tmod (10 : Int)))))] : List (Val (.int .u8)))) ++ v2))))) else (k0 v2)
noncomputable def m123 (N : Nat) (v0 : Int) : Option (Vals [i9]) := bif (decide (v0 ≤ (0 : Int))) then (some ((ByteArray.mk #[109, 48]), ())) else (m123_l4 N  (fun (v4 : ByteArray) => chk ((ByteArray.mk #[109]).size + v4.size < 4611686018427387904) (some (((ByteArray.mk #[109]) ++ v4), ()))) N v0 (ByteArray.mk #[]))
def Γ123 : Gam := []
def nl123_4 : Nm := ⟨[true, false, false, true], []⟩
theorem nl123_4_fix : nl123_4.fix = [] := rfl
theorem nl123_4_keep : nl123_4.keep = [true, false, false, true] := rfl
def nx123_0 : Nm := ⟨[false, false, false, true], []⟩
theorem nx123_0_fix : nx123_0.fix = [] := rfl
theorem nx123_0_keep : nx123_0.keep = [false, false, false, true] := rfl
def tr123 : Nat → Tree := fun _ => .done
def lp123 : Nat → Nm := fun i => if i = 4 then nl123_4 else ⟨[], []⟩
def ex123 : Nat → Option Nm := fun i => if i = 0 then some nx123_0 else none
def rg123 : Nat → Option Nm := fun _ => none
theorem p123 : plansOk tr123 (Try.f123.body.getD .skip) = true := by kernel_rfl
def T123 (N : Nat) : Tab := { tr := tr123, lp := lp123, ex := ex123, rg := rg123, fuel := N }
theorem T123_pins (N : Nat) : (T123 N).pins = false := rfl
theorem T123_tr (N i : Nat) : (T123 N).tr i = tr123 i := rfl
theorem T123_lp (N i : Nat) : (T123 N).lp i = lp123 i := rfl
theorem T123_ex (N i : Nat) : (T123 N).ex i = ex123 i := rfl
theorem T123_rg (N i : Nat) : (T123 N).rg i = rg123 i := rfl
theorem T123_fuel (N : Nat) : (T123 N).fuel = N := rfl
noncomputable def c123_4 : Code := cut [true, true, true, false, true, true] (Try.f123.body.getD .skip)
theorem c123_4_at {N : Nat} {Q : X → St → Option (Vals [i9])} {e : List LV} {h : List Blk} : runT tt Γ123 (T123 N) c123_4 Q ⟨e, h⟩ = runT tt Γ123 (T123 N) (cut [true, true, true, false, true, true] (Try.f123.body.getD .skip)) Q ⟨e, h⟩ := rfl
theorem r123_l4 (N : Nat)  {k0 : ByteArray → Option (Vals [i9])} {Q : X → St → Option (Vals [i9])} {c : Code} (hc : c = c123_4) (hret : ∀ st, Q .ret st = retS tt true [i9] [.tmp 2] st) (h0 : ∀ (v3 : ByteArray), Q (.exit 0) ⟨[u, u, u, .one (.str v3), u, u, u, u, u, u, u, u, u, u, u, u, u, u, u, u], []⟩ = k0 v3) : ∀ (n : Nat) (v1 : Int) (v2 : ByteArray), loopR (runT tt Γ123 (T123 N) c) false nl123_4 Q n ⟨[.one (.int .i64 v1), u, u, .one (.str v2), u, u, u, u, u, u, u, u, u, u, u, u, u, u, u, u], []⟩ = m123_l4 N  k0 n v1 v2 := by
  subst hc; intro n; induction n with
  | zero => intros; rfl
  | succ n ih =>
    intro v1 v2
    rw [loop_succ, c123_4_at, m123_l4]; unfold Try.f123
    simp (maxSteps := 10000000) -implicitDefEqProofs [T123_tr, tr123, T123_lp, lp123, T123_ex, ex123, T123_rg, rg123, T123_fuel, T123_pins, nl123_4_fix, nl123_4_keep, nx123_0_fix, nx123_0_keep, hret, h0, ih]
theorem run123 (N : Nat) (v0 : Int) : runT tt Γ123 (T123 N) (Try.f123.body.getD .skip) (retR tt true [i9] [.tmp 2]) (entryP [i3] 20 (v0, ())) = m123 N v0 := by
  unfold Try.f123
  simp (maxSteps := 10000000) -implicitDefEqProofs [T123_tr, tr123, T123_lp, lp123, T123_ex, ex123, T123_rg, rg123, T123_fuel, T123_pins, nl123_4_fix, nl123_4_keep, nx123_0_fix, nx123_0_keep]
  rewrite [r123_l4 (k0 := (fun (v4 : ByteArray) => chk ((ByteArray.mk #[109]).size + v4.size < 4611686018427387904) (some (((ByteArray.mk #[109]) ++ v4), ())))) N  ?_ ?_ ?_]
  · rewrite [m123]; first | rfl | simp (maxSteps := 10000000) -implicitDefEqProofs []
  · rfl
  · intro; simp only [seqR_ret, blockR_ret, retR_ret, retX_ret]
  · intro v4; simp (maxSteps := 10000000) -implicitDefEqProofs [T123_tr, tr123, T123_lp, lp123, T123_ex, ex123, T123_rg, rg123, T123_fuel, T123_pins, nl123_4_fix, nl123_4_keep, nx123_0_fix, nx123_0_keep]
def markTxt_pre (k : Int) : Prop := k ≤ 9223372036854775807
theorem t123 (N : Nat) (K : ByteArray → Option (Vals [i9])) : ∀ (f n k : Nat) (acc : ByteArray), k < 10 ^ f → f < n → k ≤ 9223372036854775807 → acc.size + f ≤ 1000 → m123_l4 N K n (k : Int) acc = K (digits f k acc)
  | 0, 0, _, _, _, h, _, _ => by omega
  | 0, n + 1, k, acc, hk, _, _, _ => by
    have : k = 0 := by simp at hk; exact hk
    subst this
    rw [m123_l4, bif_decN (by omega)]; rfl
  | f + 1, 0, _, _, _, h, _, _ => by omega
  | f + 1, n + 1, k, acc, hk, hn, hb, ha => by
    rw [m123_l4, digits]
    by_cases h0 : k = 0
    · subst h0; rw [bif_decN (by omega), if_pos rfl]
    · rw [bif_dec (by omega), if_neg h0]
      have e1 : ((k : Int).tmod 10) = ((k % 10 : Nat) : Int) := by rw [Int.tmod_eq_emod_of_nonneg (by omega)]; rfl
      have e2 : ((k : Int).tdiv 10) = ((k / 10 : Nat) : Int) := by rw [Int.tdiv_eq_ediv_of_nonneg (by omega)]; rfl
      have e3 : IntKind.i64.wrap ((48 : Int) + ((k % 10 : Nat) : Int)) = ((48 + k % 10 : Nat) : Int) := by rw [wrap64 (by omega) (by omega)]; omega
      have e4 : IntKind.u8.wrap ((48 + k % 10 : Nat) : Int) = ((48 + k % 10 : Nat) : Int) := by
        have : k % 10 < 10 := Nat.mod_lt _ (by omega)
        exact wrap8 (by omega) (by omega)
      have e5 : IntKind.i64.wrap ((k / 10 : Nat) : Int) = ((k / 10 : Nat) : Int) := wrap64 (by omega) (by omega)
      have e6 : bytesOf ([((48 + k % 10 : Nat) : Int)] : List (Val (.int .u8))) = ByteArray.mk #[UInt8.ofNat (48 + k % 10)] := rfl
      rw [e1, e2, e3, e4, e5, e6, chk_pos (by decide), chk_pos (by have e : (ByteArray.mk #[UInt8.ofNat (48 + k % 10)]).size = 1 := rfl; omega), chk_pos (by decide)]
      have hsz : (ByteArray.mk #[UInt8.ofNat (48 + k % 10)] ++ acc).size = 1 + acc.size := by rw [ByteArray.size_append]; rfl
      exact t123 N K f n (k / 10) _ (by rw [Nat.pow_succ] at hk; omega) (by omega) (by omega) (by omega)
theorem digits_sz : ∀ (f n : Nat) (acc : ByteArray), (digits f n acc).size ≤ acc.size + f := by
  intro f
  induction f with
  | zero => intro n acc; simp [digits]
  | succ f ih =>
    intro n acc
    simp only [digits]
    split
    · omega
    · have := ih (n / 10) (ByteArray.mk #[UInt8.ofNat (48 + n % 10)] ++ acc)
      rw [ByteArray.size_append] at this
      have e : (ByteArray.mk #[UInt8.ofNat (48 + n % 10)]).size = 1 := rfl
      omega
def g123 : G := { ps := [i3], rs := [i9], dp := true, pre := fun x => markTxt_pre x.1, fn := fun x => (markTxt x.1, ()) }
theorem e123 (k : Int) (h : markTxt_pre k) : ∃ N, m123 N k = some (markTxt k, ()) := ⟨100, by
  rw [m123, markTxt]
  by_cases h0 : k ≤ 0
  · rw [bif_dec h0, if_pos h0]
  · rw [bif_decN h0, if_neg h0]
    have ek : k = (k.toNat : Int) := by omega
    have hk : k.toNat ≤ 9223372036854775807 := by unfold markTxt_pre at h; omega
    have hp : (9223372036854775808 : Nat) ≤ 10 ^ 64 := by decide
    have hd := digits_sz 64 k.toNat ByteArray.empty
    have e0 : ByteArray.empty.size = 0 := rfl
    have e1 : (ByteArray.mk #[109]).size = 1 := rfl
    have := t123 100 (fun v => chk ((ByteArray.mk #[109]).size + v.size < 4611686018427387904) (some (ByteArray.mk #[109] ++ v, ()))) 64 100 k.toNat ByteArray.empty (by omega) (by omega) hk (by omega)
    rw [← ek] at this
    refine this.trans ?_
    rw [chk_pos (by omega)]⟩
theorem s123 : Sound Try.prog 123 g123 := sound_run (tt := tt) (Γ := Γ123) hT ok_nil hm (fn := Try.f123) Try.func123 (c := Try.f123.body.getD .skip) (by kernel_rfl) (by kernel_rfl) fun x hx => by
  obtain ⟨N, h⟩ := e123 x.1 hx
  exact ⟨T123 N, p123, noSem_ok _, (run123 N x.1).trans h⟩
def mk_RowS_v (x : List (Val Y116)) (k : Int) : List (Val Y116) := (mkT (.slice 116 Y116) x k).1
def mk_RowS_k (x : List (Val Y116)) (k : Int) : Int := (mkT (.slice 116 Y116) x k).2
def mk_RowS_pre (x : List (Val Y116)) (k : Int) : Prop := Bd (.slice 116 Y116) x ∧ k ≤ 9223372036854775807
def gm91 : Gms := ⟨116, Y116, mk_RowS_pre, mk_RowS_v, mk_RowS_k⟩
-- laws.markRowS
noncomputable def m91_l2 (N : Nat) (v6 : List (Val (hd Y116))) (k0 : Int → (List (Val H116)) → (List (Val Y116)) → Option (List (Val H116) × List (Val Y116) × Int)) : Nat → Int → Int → (List (Val H116)) → (List (Val Y116)) → Option (List (Val H116) × List (Val Y116) × Int)
  | 0, _, _, _, _ => none
  | n + 1, v3, v4, v5, v7 => bif (decide (v4 < (v5.length : Int))) then (chk (markTxt_pre v3) (chk (0 ≤ v4 ∧ v4 < (v5.length : Int)) (chk (v4.toNat < v5.length) (chk (0 ≤ v4 ∧ v4 < ((v5.set v4.toNat (((markTxt v3) : ByteArray), ((v5.getD v4.toNat (dflt H116)).2))).length : Int)) (chk (v4.toNat < (v5.set v4.toNat (((markTxt v3) : ByteArray), ((v5.getD v4.toNat (dflt H116)).2))).length) (chk (0 ≤ v4 ∧ v4 < (((v5.set v4.toNat (((markTxt v3) : ByteArray), ((v5.getD v4.toNat (dflt H116)).2))).set v4.toNat ((((v5.set v4.toNat (((markTxt v3) : ByteArray), ((v5.getD v4.toNat (dflt H116)).2))).getD v4.toNat (dflt H116)).1 : ByteArray), ((IntKind.i64.wrap (v3 + (1 : Int))), ((((v5.set v4.toNat (((markTxt v3) : ByteArray), ((v5.getD v4.toNat (dflt H116)).2))).getD v4.toNat (dflt H116)).2).2 : Value)))).length : Int)) (chk (v4.toNat < ((v5.set v4.toNat (((markTxt v3) : ByteArray), ((v5.getD v4.toNat (dflt H116)).2))).set v4.toNat ((((v5.set v4.toNat (((markTxt v3) : ByteArray), ((v5.getD v4.toNat (dflt H116)).2))).getD v4.toNat (dflt H116)).1 : ByteArray), ((IntKind.i64.wrap (v3 + (1 : Int))), ((((v5.set v4.toNat (((markTxt v3) : ByteArray), ((v5.getD v4.toNat (dflt H116)).2))).getD v4.toNat (dflt H116)).2).2 : Value)))).length) (chk (v4.toNat < v7.length ∧ v4.toNat < v6.length ∧ (((v6.getD v4.toNat (dflt (hd Y116)) : Val H116).2).2 : Value) = (((((v5.set v4.toNat (((markTxt v3) : ByteArray), ((v5.getD v4.toNat (dflt H116)).2))).set v4.toNat ((((v5.set v4.toNat (((markTxt v3) : ByteArray), ((v5.getD v4.toNat (dflt H116)).2))).getD v4.toNat (dflt H116)).1 : ByteArray), ((IntKind.i64.wrap (v3 + (1 : Int))), ((((v5.set v4.toNat (((markTxt v3) : ByteArray), ((v5.getD v4.toNat (dflt H116)).2))).getD v4.toNat (dflt H116)).2).2 : Value)))).getD v4.toNat (dflt H116)).2).2 : Value) ∧ mk_AtomS_pre (((v7.getD v4.toNat (dflt Y116)).2).2 : List (Val Y106)) (IntKind.i64.wrap ((IntKind.i64.wrap (v3 + (1 : Int))) + (1 : Int)))) (m91_l2 N v6 k0 n (mk_AtomS_k (((v7.getD v4.toNat (dflt Y116)).2).2 : List (Val Y106)) (IntKind.i64.wrap ((IntKind.i64.wrap (v3 + (1 : Int))) + (1 : Int)))) (IntKind.i64.wrap (v4 + (1 : Int))) ((v5.set v4.toNat (((markTxt v3) : ByteArray), ((v5.getD v4.toNat (dflt H116)).2))).set v4.toNat ((((v5.set v4.toNat (((markTxt v3) : ByteArray), ((v5.getD v4.toNat (dflt H116)).2))).getD v4.toNat (dflt H116)).1 : ByteArray), ((IntKind.i64.wrap (v3 + (1 : Int))), ((((v5.set v4.toNat (((markTxt v3) : ByteArray), ((v5.getD v4.toNat (dflt H116)).2))).getD v4.toNat (dflt H116)).2).2 : Value)))) (v7.set v4.toNat (((v7.getD v4.toNat (dflt Y116)).1 : ByteArray), ((((v7.getD v4.toNat (dflt Y116)).2).1 : Int), (mk_AtomS_v (((v7.getD v4.toNat (dflt Y116)).2).2 : List (Val Y106)) (IntKind.i64.wrap ((IntKind.i64.wrap (v3 + (1 : Int))) + (1 : Int)))))))))))))))) else (k0 v3 v5 v7)
noncomputable def m91 (N : Nat) (v0 : List (Val (hd Y116))) (v1 : List (Val Y116)) (v2 : Int) : Option (List (Val H116) × List (Val Y116) × Int) := m91_l2 N v0 (fun (v11 : Int) (v12 : List (Val H116)) (v13 : List (Val Y116)) => some (v12, v13, v11)) N v2 (0 : Int) v0 v1
def Γ91 : Gam := [(123, g123)]
theorem Γ91_123 : Gam.get Γ91 123 = some g123 := rfl
theorem Γ91_72 : Gam.get Γ91 72 = none := rfl
def nl91_2 : Nm := ⟨[true, true, false, false, false, true], []⟩
theorem nl91_2_fix : nl91_2.fix = [] := rfl
theorem nl91_2_keep : nl91_2.keep = [true, true, false, false, false, true] := rfl
def nx91_0 : Nm := ⟨[false, true], []⟩
theorem nx91_0_fix : nx91_0.fix = [] := rfl
theorem nx91_0_keep : nx91_0.keep = [false, true] := rfl
def sem91 : Sem := markSem [] [(35, 72, gm72, 2, 29)]
def tr91 : Nat → Tree := fun _ => .done
def lp91 : Nat → Nm := fun i => if i = 2 then nl91_2 else ⟨[], []⟩
def ex91 : Nat → Option Nm := fun i => if i = 0 then some nx91_0 else none
def rg91 : Nat → Option Nm := fun _ => none
theorem p91 : plansOk tr91 (Try.f91.body.getD .skip) = true := by kernel_rfl
def T91 (N : Nat) : Tab := { tr := tr91, lp := lp91, ex := ex91, rg := rg91, fuel := N, pins := true, sem := sem91 }
theorem T91_pins (N : Nat) : (T91 N).pins = true := rfl
theorem T91_sem (N : Nat) : (T91 N).sem = sem91 := rfl
theorem T91_tr (N i : Nat) : (T91 N).tr i = tr91 i := rfl
theorem T91_lp (N i : Nat) : (T91 N).lp i = lp91 i := rfl
theorem T91_ex (N i : Nat) : (T91 N).ex i = ex91 i := rfl
theorem T91_rg (N i : Nat) : (T91 N).rg i = rg91 i := rfl
theorem T91_fuel (N : Nat) : (T91 N).fuel = N := rfl
noncomputable def c91_2 : Code := cut [true, false, true, true, true] (Try.f91.body.getD .skip)
theorem c91_2_at {N : Nat} {Q : X → St → Option (List (Val H116) × List (Val Y116) × Int)} {e : List LV} {h : List Blk} : runT tt Γ91 (T91 N) c91_2 Q ⟨e, h⟩ = runT tt Γ91 (T91 N) (cut [true, false, true, true, true] (Try.f91.body.getD .skip)) Q ⟨e, h⟩ := rfl
theorem r91_l2 (N : Nat) (F : List Nat) (v6 : List (Val (hd Y116))) {k0 : Int → (List (Val H116)) → (List (Val Y116)) → Option (List (Val H116) × List (Val Y116) × Int)} {Q : X → St → Option (List (Val H116) × List (Val Y116) × Int)} {c : Code} (hc : c = c91_2) (hret : ∀ st, Q .ret st = retMS tt 116 Y116 H116 F v6 [.tmp 4] st) (h0 : ∀ (v8 : Int) (v9 : List (Val H116)) (v10 : List (Val Y116)), Q (.exit 0) ⟨[u, .one (.int .i64 v8), u, u, u, u, u, u, u, u, u, u, u, u, u, u, u, u, u, u, u, u, u, u, u, u, u, u, u, u, u, u, u, u, u, u, u], [.row 116 H116 v9 true true 0, .nst F Y116 v6 v10]⟩ = k0 v8 v9 v10) : ∀ (n : Nat) (v3 : Int) (v4 : Int) (v5 : List (Val H116)) (v7 : List (Val Y116)), loopR (runT tt Γ91 (T91 N) c) true nl91_2 Q n ⟨[.one (.own 0), .one (.int .i64 v3), u, u, u, .one (.int .i64 v4), u, u, u, u, u, u, u, u, u, u, u, u, u, u, u, u, u, u, u, u, u, u, u, u, u, u, u, u, u, u, u], [.row 116 H116 v5 true true 0, .nst F Y116 v6 v7]⟩ = m91_l2 N v6 k0 n v3 v4 v5 v7 := by
  subst hc; intro n; induction n with
  | zero => intros; rfl
  | succ n ih =>
    intro v3 v4 v5 v7
    rw [loop_succ, c91_2_at, m91_l2]; unfold Try.f91
    simp (maxSteps := 10000000) -implicitDefEqProofs [T91_tr, tr91, T91_lp, lp91, T91_ex, ex91, T91_rg, rg91, T91_fuel, T91_pins, T91_sem, sem91, semR', Γ91_72, gm72, retX_ret, entryM, nl91_2_fix, nl91_2_keep, nx91_0_fix, nx91_0_keep, Γ91_123, g123, hret, h0, ih]
theorem run91 (N : Nat) (F : List Nat) (v0 : List (Val (hd Y116))) (v1 : List (Val Y116)) (v2 : Int) : runT tt Γ91 (T91 N) (Try.f91.body.getD .skip) (retX (retMS tt 116 Y116 H116 F v0 [.tmp 4])) ⟨[.one (.own 0), .one (.int .i64 v2), .tup [], .tup [], .tup [], .tup [], .tup [], .tup [], .tup [], .tup [], .tup [], .tup [], .tup [], .tup [], .tup [], .tup [], .tup [], .tup [], .tup [], .tup [], .tup [], .tup [], .tup [], .tup [], .tup [], .tup [], .tup [], .tup [], .tup [], .tup [], .tup [], .tup [], .tup [], .tup [], .tup [], .tup [], .tup []], [.row 116 H116 v0 true true 0, .nst F Y116 v0 v1]⟩ = m91 N v0 v1 v2 := by
  unfold Try.f91
  simp (maxSteps := 10000000) -implicitDefEqProofs [T91_tr, tr91, T91_lp, lp91, T91_ex, ex91, T91_rg, rg91, T91_fuel, T91_pins, T91_sem, sem91, semR', Γ91_72, gm72, retX_ret, entryM, nl91_2_fix, nl91_2_keep, nx91_0_fix, nx91_0_keep, Γ91_123, g123]
  rewrite [r91_l2 (k0 := (fun (v11 : Int) (v12 : List (Val H116)) (v13 : List (Val Y116)) => some (v12, v13, v11))) N _ _ ?_ ?_ ?_]
  · rewrite [m91]; first | rfl | simp (maxSteps := 10000000) -implicitDefEqProofs []
  · rfl
  · intro; simp only [seqR_ret, blockR_ret, retR_ret, retX_ret]
  · intro v11 v12 v13; simp (maxSteps := 10000000) -implicitDefEqProofs [T91_tr, tr91, T91_lp, lp91, T91_ex, ex91, T91_rg, rg91, T91_fuel, T91_pins, T91_sem, sem91, semR', Γ91_72, gm72, retX_ret, entryM, nl91_2_fix, nl91_2_keep, nx91_0_fix, nx91_0_keep, Γ91_123, g123]
theorem e91 (hs : List (Val (hd Y116))) (xs : List (Val Y116)) (k : Int) (h : mk_RowS_pre xs k) (hl : xs.length = hs.length) (hmx : mixL Y116 xs hs = hs) :
    ∃ N vs, vs.map (slcV Y116) = (mk_RowS_v xs k).map (slcV Y116) ∧ m91 N hs xs k = some (mixL Y116 (mk_RowS_v xs k) hs, vs, mk_RowS_k xs k) := by
  refine ⟨xs.length + 1, ?_⟩
  rw [m91]
  refine nst_loop (t := Y116) (F := fun n i k ys vs => m91_l2 _ hs _ n k i ys vs) (kf := fun k ys vs => some (ys, vs, k)) xs hl hmx (by rw [← hl]; exact h.1.1) (fun n i k fs vs hi hh hv hk l1 l2 hsl ⟨hx, hfx⟩ => ?_) (fun n i k ys vs hl hi => ?_) _ k h.2 (Nat.lt_succ_self _)
  · have hy : (mixL Y116 fs hs).length = hs.length := mixL_len l1
    have e1 : vs[i].2.2 = fs[i].2.2 := (Prod.mk.inj (Prod.mk.inj hsl).2).2
    refine ⟨(vs[i].1, (vs[i].2.1, mk_AtomS_v vs[i].2.2 (IntKind.i64.wrap (IntKind.i64.wrap (k + 1) + 1)))), ?_, ?_⟩
    · show ((ByteArray.empty, (0, mk_AtomS_v vs[i].2.2 _)) : Val Y116) = (ByteArray.empty, (0, mk_AtomS_v fs[i].2.2 _))
      rw [e1]; rfl
    · have hb : mk_AtomS_pre vs[i].2.2 (IntKind.i64.wrap (IntKind.i64.wrap (k + 1) + 1)) := ⟨by rw [e1, hfx]; exact (h.1.2 _ (List.getElem_mem hx)).2.2, wrap_le _⟩
      rw [m91_l2, bif_dec (by omega), chk_pos (show markTxt_pre k from hk), mixL_at hi hh l1, getD_atI hv, getD_atI hh, getD_setI (by omega), List.set_set, getD_setI (by omega)]
      repeat rw [List.length_set]
      rw [chk_pos (by omega), chk_pos (by omega), chk_pos (by omega), chk_pos (by omega), chk_pos (by omega), chk_pos (by omega), chk_pos ⟨by omega, by omega, rfl, hb⟩, Int.toNat_natCast]
      rw [← mixL_set hh l1]
      simp only [e1]
      rfl
  · rw [m91_l2, bif_decN (by omega)]
theorem sm91 : SoundMs Try.prog 91 gm91 := sound_ms (tt := tt) (Γ := Γ91) hT (ok_cons s123 ok_nil) hm (fn := Try.f91) Try.func91 (c := Try.f91.body.getD .skip) (by kernel_rfl) (by kernel_rfl) fun xs hs n F hx hl hmx => by
  obtain ⟨N, vs, h1, h2⟩ := e91 hs xs n hx hl hmx
  exact ⟨T91 N, vs, rfl, p91, markSem_ok own_nil (hdr_cons sm72 hdr_nil), h1, (run91 N F hs xs n).trans h2⟩
def mk_Relation_v (x : Val Y53) (k : Int) : Val Y53 := (mkT Y53 x k).1
def mk_Relation_k (x : Val Y53) (k : Int) : Int := (mkT Y53 x k).2
def mk_Relation_pre (x : Val Y53) (k : Int) : Prop := Bd Y53 x ∧ k ≤ 9223372036854775807
def gm42 : Gm := ⟨i53, mk_Relation_pre, mk_Relation_v, mk_Relation_k⟩
-- laws.markRelation
noncomputable def m42 (N : Nat) (v0 : Val Y53) (v1 : Int) : Option ((Val Y53) × Int) := chk (mk_RowS_pre (v0.2.2 : List (Val Y116)) v1) (some (((v0.1 : ByteArray), (v0.2.1 : Int), ((mk_RowS_v (v0.2.2 : List (Val Y116)) v1) : List (Val Y116))), (mk_RowS_k (v0.2.2 : List (Val Y116)) v1)))
def Γ42 : Gam := []
theorem Γ42_91 : Gam.get Γ42 91 = none := rfl
def sem42 : Sem := markSem [(91, gm91.gm)] []
def tr42 : Nat → Tree := fun _ => .done
def lp42 : Nat → Nm := fun _ => ⟨[], []⟩
def ex42 : Nat → Option Nm := fun _ => none
def rg42 : Nat → Option Nm := fun _ => none
theorem p42 : plansOk tr42 (Try.f42.body.getD .skip) = true := by kernel_rfl
def T42 (N : Nat) : Tab := { tr := tr42, lp := lp42, ex := ex42, rg := rg42, fuel := N, pins := true, sem := sem42 }
theorem T42_pins (N : Nat) : (T42 N).pins = true := rfl
theorem T42_sem (N : Nat) : (T42 N).sem = sem42 := rfl
theorem T42_tr (N i : Nat) : (T42 N).tr i = tr42 i := rfl
theorem T42_lp (N i : Nat) : (T42 N).lp i = lp42 i := rfl
theorem T42_ex (N i : Nat) : (T42 N).ex i = ex42 i := rfl
theorem T42_rg (N i : Nat) : (T42 N).rg i = rg42 i := rfl
theorem T42_fuel (N : Nat) : (T42 N).fuel = N := rfl
theorem run42 (N : Nat) (v0 : Val Y53) (v1 : Int) : runT tt Γ42 (T42 N) (Try.f42.body.getD .skip) (retX (retM1 tt Y53 (explodeOwn 0 Y53 v0).1 [.tmp 4])) (entryM i53 10 v0 v1) = m42 N v0 v1 := by
  rw [m42]; unfold Try.f42
  simp (maxSteps := 10000000) -implicitDefEqProofs [T42_tr, tr42, T42_lp, lp42, T42_ex, ex42, T42_rg, rg42, T42_fuel, T42_pins, T42_sem, sem42, semR', Γ42_91, gm91, retX_ret, entryM]
  try rfl
theorem e42 (x : Val Y53) (k : Int) (h : mk_Relation_pre x k) : ∃ N, m42 N x k = some (mk_Relation_v x k, mk_Relation_k x k) := ⟨0, by
  rw [m42, chk_pos (show mk_RowS_pre _ k from ⟨h.1.2.2, h.2⟩)]
  rfl⟩
theorem sm42 : SoundM Try.prog 42 gm42 := sound_m1 (tt := tt) (Γ := Γ42) hT ok_nil hm (fn := Try.f42) Try.func42 (c := Try.f42.body.getD .skip) (by kernel_rfl) (by kernel_rfl) fun x n hx => by
  obtain ⟨N, h⟩ := e42 x n hx
  exact ⟨T42 N, rfl, p42, markSem_ok (own_cons sm91.gm own_nil) hdr_nil, (run42 N x n).trans h⟩
def mk_CellS_v (x : List (Val Y36)) (k : Int) : List (Val Y36) := (mkT (.slice 36 Y36) x k).1
def mk_CellS_k (x : List (Val Y36)) (k : Int) : Int := (mkT (.slice 36 Y36) x k).2
def mk_CellS_pre (x : List (Val Y36)) (k : Int) : Prop := Bd (.slice 36 Y36) x ∧ k ≤ 9223372036854775807
def gm92 : Gms := ⟨36, Y36, mk_CellS_pre, mk_CellS_v, mk_CellS_k⟩
-- laws.markCellS
noncomputable def m92_l2 (N : Nat) (v6 : List (Val (hd Y36))) (k0 : Int → (List (Val H36)) → (List (Val Y36)) → Option (List (Val H36) × List (Val Y36) × Int)) : Nat → Int → Int → (List (Val H36)) → (List (Val Y36)) → Option (List (Val H36) × List (Val Y36) × Int)
  | 0, _, _, _, _ => none
  | n + 1, v3, v4, v5, v7 => bif (decide (v4 < (v5.length : Int))) then (chk (0 ≤ v4 ∧ v4 < (v5.length : Int)) (chk (v4.toNat < v5.length) (chk (0 ≤ v4 ∧ v4 < ((v5.set v4.toNat (v3, ((v5.getD v4.toNat (dflt H36)).2 : Value))).length : Int)) (chk (v4.toNat < (v5.set v4.toNat (v3, ((v5.getD v4.toNat (dflt H36)).2 : Value))).length) (chk (v4.toNat < v7.length ∧ v4.toNat < v6.length ∧ ((v6.getD v4.toNat (dflt (hd Y36)) : Val H36).2 : Value) = (((v5.set v4.toNat (v3, ((v5.getD v4.toNat (dflt H36)).2 : Value))).getD v4.toNat (dflt H36)).2 : Value) ∧ mk_AtomS_pre ((v7.getD v4.toNat (dflt Y36)).2 : List (Val Y106)) (IntKind.i64.wrap (v3 + (1 : Int)))) (m92_l2 N v6 k0 n (mk_AtomS_k ((v7.getD v4.toNat (dflt Y36)).2 : List (Val Y106)) (IntKind.i64.wrap (v3 + (1 : Int)))) (IntKind.i64.wrap (v4 + (1 : Int))) (v5.set v4.toNat (v3, ((v5.getD v4.toNat (dflt H36)).2 : Value))) (v7.set v4.toNat (((v7.getD v4.toNat (dflt Y36)).1 : Int), (mk_AtomS_v ((v7.getD v4.toNat (dflt Y36)).2 : List (Val Y106)) (IntKind.i64.wrap (v3 + (1 : Int)))))))))))) else (k0 v3 v5 v7)
noncomputable def m92 (N : Nat) (v0 : List (Val (hd Y36))) (v1 : List (Val Y36)) (v2 : Int) : Option (List (Val H36) × List (Val Y36) × Int) := m92_l2 N v0 (fun (v11 : Int) (v12 : List (Val H36)) (v13 : List (Val Y36)) => some (v12, v13, v11)) N v2 (0 : Int) v0 v1
def Γ92 : Gam := []
theorem Γ92_72 : Gam.get Γ92 72 = none := rfl
def nl92_2 : Nm := ⟨[true, true, false, false, false, true], []⟩
theorem nl92_2_fix : nl92_2.fix = [] := rfl
theorem nl92_2_keep : nl92_2.keep = [true, true, false, false, false, true] := rfl
def nx92_0 : Nm := ⟨[false, true], []⟩
theorem nx92_0_fix : nx92_0.fix = [] := rfl
theorem nx92_0_keep : nx92_0.keep = [false, true] := rfl
def sem92 : Sem := markSem [] [(25, 72, gm72, 1, 20)]
def tr92 : Nat → Tree := fun _ => .done
def lp92 : Nat → Nm := fun i => if i = 2 then nl92_2 else ⟨[], []⟩
def ex92 : Nat → Option Nm := fun i => if i = 0 then some nx92_0 else none
def rg92 : Nat → Option Nm := fun _ => none
theorem p92 : plansOk tr92 (Try.f92.body.getD .skip) = true := by kernel_rfl
def T92 (N : Nat) : Tab := { tr := tr92, lp := lp92, ex := ex92, rg := rg92, fuel := N, pins := true, sem := sem92 }
theorem T92_pins (N : Nat) : (T92 N).pins = true := rfl
theorem T92_sem (N : Nat) : (T92 N).sem = sem92 := rfl
theorem T92_tr (N i : Nat) : (T92 N).tr i = tr92 i := rfl
theorem T92_lp (N i : Nat) : (T92 N).lp i = lp92 i := rfl
theorem T92_ex (N i : Nat) : (T92 N).ex i = ex92 i := rfl
theorem T92_rg (N i : Nat) : (T92 N).rg i = rg92 i := rfl
theorem T92_fuel (N : Nat) : (T92 N).fuel = N := rfl
noncomputable def c92_2 : Code := cut [true, false, true, true, true] (Try.f92.body.getD .skip)
theorem c92_2_at {N : Nat} {Q : X → St → Option (List (Val H36) × List (Val Y36) × Int)} {e : List LV} {h : List Blk} : runT tt Γ92 (T92 N) c92_2 Q ⟨e, h⟩ = runT tt Γ92 (T92 N) (cut [true, false, true, true, true] (Try.f92.body.getD .skip)) Q ⟨e, h⟩ := rfl
theorem r92_l2 (N : Nat) (F : List Nat) (v6 : List (Val (hd Y36))) {k0 : Int → (List (Val H36)) → (List (Val Y36)) → Option (List (Val H36) × List (Val Y36) × Int)} {Q : X → St → Option (List (Val H36) × List (Val Y36) × Int)} {c : Code} (hc : c = c92_2) (hret : ∀ st, Q .ret st = retMS tt 36 Y36 H36 F v6 [.tmp 4] st) (h0 : ∀ (v8 : Int) (v9 : List (Val H36)) (v10 : List (Val Y36)), Q (.exit 0) ⟨[u, .one (.int .i64 v8), u, u, u, u, u, u, u, u, u, u, u, u, u, u, u, u, u, u, u, u, u, u, u, u, u], [.row 36 H36 v9 true true 0, .nst F Y36 v6 v10]⟩ = k0 v8 v9 v10) : ∀ (n : Nat) (v3 : Int) (v4 : Int) (v5 : List (Val H36)) (v7 : List (Val Y36)), loopR (runT tt Γ92 (T92 N) c) true nl92_2 Q n ⟨[.one (.own 0), .one (.int .i64 v3), u, u, u, .one (.int .i64 v4), u, u, u, u, u, u, u, u, u, u, u, u, u, u, u, u, u, u, u, u, u], [.row 36 H36 v5 true true 0, .nst F Y36 v6 v7]⟩ = m92_l2 N v6 k0 n v3 v4 v5 v7 := by
  subst hc; intro n; induction n with
  | zero => intros; rfl
  | succ n ih =>
    intro v3 v4 v5 v7
    rw [loop_succ, c92_2_at, m92_l2]; unfold Try.f92
    simp (maxSteps := 10000000) -implicitDefEqProofs [T92_tr, tr92, T92_lp, lp92, T92_ex, ex92, T92_rg, rg92, T92_fuel, T92_pins, T92_sem, sem92, semR', Γ92_72, gm72, retX_ret, entryM, nl92_2_fix, nl92_2_keep, nx92_0_fix, nx92_0_keep, hret, h0, ih]
theorem run92 (N : Nat) (F : List Nat) (v0 : List (Val (hd Y36))) (v1 : List (Val Y36)) (v2 : Int) : runT tt Γ92 (T92 N) (Try.f92.body.getD .skip) (retX (retMS tt 36 Y36 H36 F v0 [.tmp 4])) ⟨[.one (.own 0), .one (.int .i64 v2), .tup [], .tup [], .tup [], .tup [], .tup [], .tup [], .tup [], .tup [], .tup [], .tup [], .tup [], .tup [], .tup [], .tup [], .tup [], .tup [], .tup [], .tup [], .tup [], .tup [], .tup [], .tup [], .tup [], .tup [], .tup []], [.row 36 H36 v0 true true 0, .nst F Y36 v0 v1]⟩ = m92 N v0 v1 v2 := by
  unfold Try.f92
  simp (maxSteps := 10000000) -implicitDefEqProofs [T92_tr, tr92, T92_lp, lp92, T92_ex, ex92, T92_rg, rg92, T92_fuel, T92_pins, T92_sem, sem92, semR', Γ92_72, gm72, retX_ret, entryM, nl92_2_fix, nl92_2_keep, nx92_0_fix, nx92_0_keep]
  rewrite [r92_l2 (k0 := (fun (v11 : Int) (v12 : List (Val H36)) (v13 : List (Val Y36)) => some (v12, v13, v11))) N _ _ ?_ ?_ ?_]
  · rewrite [m92]; first | rfl | simp (maxSteps := 10000000) -implicitDefEqProofs []
  · rfl
  · intro; simp only [seqR_ret, blockR_ret, retR_ret, retX_ret]
  · intro v11 v12 v13; simp (maxSteps := 10000000) -implicitDefEqProofs [T92_tr, tr92, T92_lp, lp92, T92_ex, ex92, T92_rg, rg92, T92_fuel, T92_pins, T92_sem, sem92, semR', Γ92_72, gm72, retX_ret, entryM, nl92_2_fix, nl92_2_keep, nx92_0_fix, nx92_0_keep]
theorem e92 (hs : List (Val (hd Y36))) (xs : List (Val Y36)) (k : Int) (h : mk_CellS_pre xs k) (hl : xs.length = hs.length) (hmx : mixL Y36 xs hs = hs) :
    ∃ N vs, vs.map (slcV Y36) = (mk_CellS_v xs k).map (slcV Y36) ∧ m92 N hs xs k = some (mixL Y36 (mk_CellS_v xs k) hs, vs, mk_CellS_k xs k) := by
  refine ⟨xs.length + 1, ?_⟩
  rw [m92]
  refine nst_loop (t := Y36) (F := fun n i k ys vs => m92_l2 _ hs _ n k i ys vs) (kf := fun k ys vs => some (ys, vs, k)) xs hl hmx (by rw [← hl]; exact h.1.1) (fun n i k fs vs hi hh hv hk l1 l2 hsl ⟨hx, hfx⟩ => ?_) (fun n i k ys vs hl hi => ?_) _ k h.2 (Nat.lt_succ_self _)
  · have hy : (mixL Y36 fs hs).length = hs.length := mixL_len l1
    have e1 : vs[i].2 = fs[i].2 := (Prod.mk.inj hsl).2
    refine ⟨(vs[i].1, mk_AtomS_v vs[i].2 (IntKind.i64.wrap (k + 1))), ?_, ?_⟩
    · show ((0, mk_AtomS_v vs[i].2 _) : Val Y36) = (0, mk_AtomS_v fs[i].2 _)
      rw [e1]; rfl
    · have hb : mk_AtomS_pre vs[i].2 (IntKind.i64.wrap (k + 1)) := ⟨by rw [e1, hfx]; exact (h.1.2 _ (List.getElem_mem hx)).2, wrap_le _⟩
      rw [m92_l2, bif_dec (by omega), mixL_at hi hh l1, getD_atI hv, getD_atI hh, getD_setI (by omega)]
      repeat rw [List.length_set]
      rw [chk_pos (by omega), chk_pos (by omega), chk_pos (by omega), chk_pos (by omega), chk_pos ⟨by omega, by omega, rfl, hb⟩, Int.toNat_natCast]
      rw [← mixL_set hh l1]
      simp only [e1]
      rfl
  · rw [m92_l2, bif_decN (by omega)]
theorem sm92 : SoundMs Try.prog 92 gm92 := sound_ms (tt := tt) (Γ := Γ92) hT ok_nil hm (fn := Try.f92) Try.func92 (c := Try.f92.body.getD .skip) (by kernel_rfl) (by kernel_rfl) fun xs hs n F hx hl hmx => by
  obtain ⟨N, vs, h1, h2⟩ := e92 hs xs n hx hl hmx
  exact ⟨T92 N, vs, rfl, p92, markSem_ok own_nil (hdr_cons sm72 hdr_nil), h1, (run92 N F hs xs n).trans h2⟩
def mk_Region_v (x : Val Y71) (k : Int) : Val Y71 := (mkT Y71 x k).1
def mk_Region_k (x : Val Y71) (k : Int) : Int := (mkT Y71 x k).2
def mk_Region_pre (x : Val Y71) (k : Int) : Prop := Bd Y71 x ∧ k ≤ 9223372036854775807
def gm43 : Gm := ⟨i71, mk_Region_pre, mk_Region_v, mk_Region_k⟩
-- laws.markRegion
noncomputable def m43 (N : Nat) (v0 : Val Y71) (v1 : Int) : Option ((Val Y71) × Int) := chk (mk_CellS_pre (v0.2 : List (Val Y36)) v1) (some (((v0.1 : Int), ((mk_CellS_v (v0.2 : List (Val Y36)) v1) : List (Val Y36))), (mk_CellS_k (v0.2 : List (Val Y36)) v1)))
def Γ43 : Gam := []
theorem Γ43_92 : Gam.get Γ43 92 = none := rfl
def sem43 : Sem := markSem [(92, gm92.gm)] []
def tr43 : Nat → Tree := fun _ => .done
def lp43 : Nat → Nm := fun _ => ⟨[], []⟩
def ex43 : Nat → Option Nm := fun _ => none
def rg43 : Nat → Option Nm := fun _ => none
theorem p43 : plansOk tr43 (Try.f43.body.getD .skip) = true := by kernel_rfl
def T43 (N : Nat) : Tab := { tr := tr43, lp := lp43, ex := ex43, rg := rg43, fuel := N, pins := true, sem := sem43 }
theorem T43_pins (N : Nat) : (T43 N).pins = true := rfl
theorem T43_sem (N : Nat) : (T43 N).sem = sem43 := rfl
theorem T43_tr (N i : Nat) : (T43 N).tr i = tr43 i := rfl
theorem T43_lp (N i : Nat) : (T43 N).lp i = lp43 i := rfl
theorem T43_ex (N i : Nat) : (T43 N).ex i = ex43 i := rfl
theorem T43_rg (N i : Nat) : (T43 N).rg i = rg43 i := rfl
theorem T43_fuel (N : Nat) : (T43 N).fuel = N := rfl
theorem run43 (N : Nat) (v0 : Val Y71) (v1 : Int) : runT tt Γ43 (T43 N) (Try.f43.body.getD .skip) (retX (retM1 tt Y71 (explodeOwn 0 Y71 v0).1 [.tmp 4])) (entryM i71 10 v0 v1) = m43 N v0 v1 := by
  rw [m43]; unfold Try.f43
  simp (maxSteps := 10000000) -implicitDefEqProofs [T43_tr, tr43, T43_lp, lp43, T43_ex, ex43, T43_rg, rg43, T43_fuel, T43_pins, T43_sem, sem43, semR', Γ43_92, gm92, retX_ret, entryM]
  try rfl
theorem e43 (x : Val Y71) (k : Int) (h : mk_Region_pre x k) : ∃ N, m43 N x k = some (mk_Region_v x k, mk_Region_k x k) := ⟨0, by
  rw [m43, chk_pos (show mk_CellS_pre _ k from ⟨h.1.2, h.2⟩)]
  rfl⟩
theorem sm43 : SoundM Try.prog 43 gm43 := sound_m1 (tt := tt) (Γ := Γ43) hT ok_nil hm (fn := Try.f43) Try.func43 (c := Try.f43.body.getD .skip) (by kernel_rfl) (by kernel_rfl) fun x n hx => by
  obtain ⟨N, h⟩ := e43 x n hx
  exact ⟨T43 N, rfl, p43, markSem_ok (own_cons sm92.gm own_nil) hdr_nil, (run43 N x n).trans h⟩
def held_CellS (x : List (Val Y36)) (k : Int) : Int := (mkT (.slice 36 Y36) x k).2
def held_CellS_pre (x : List (Val Y36)) (k : Int) : Prop := heldPre (.slice 36 Y36) x k
-- laws.heldCellS
noncomputable def m93_l2 (N : Nat) (v2 : List (Val Y36)) (k0 : Int → Option (Vals [i3])) : Nat → Int → Int → Option (Vals [i3])
  | 0, _, _ => none
  | n + 1, v3, v4 => bif (decide (v4 < (v2.length : Int))) then (chk (0 ≤ v4 ∧ v4 < (v2.length : Int)) (bif (!(decide (((v2.getD v4.toNat (dflt Y36)).1 : Int) = v3))) then (some ((-1 : Int), ())) else (chk (0 ≤ v4 ∧ v4 < (v2.length : Int)) (chk (held_AtomS_pre ((v2.getD v4.toNat (dflt Y36)).2 : List (Val Y106)) (IntKind.i64.wrap (v3 + (1 : Int)))) (bif (decide (((held_AtomS ((v2.getD v4.toNat (dflt Y36)).2 : List (Val Y106)) (IntKind.i64.wrap (v3 + (1 : Int)))) : Int) < (0 : Int))) then (some ((-1 : Int), ())) else (m93_l2 N v2 k0 n ((held_AtomS ((v2.getD v4.toNat (dflt Y36)).2 : List (Val Y106)) (IntKind.i64.wrap (v3 + (1 : Int)))) : Int) (IntKind.i64.wrap (v4 + (1 : Int))))))))) else (k0 v3)
noncomputable def m93 (N : Nat) (v0 : List (Val Y36)) (v1 : Int) : Option (Vals [i3]) := m93_l2 N v0 (fun (v6 : Int) => some (v6, ())) N v1 (0 : Int)
def Γ93 : Gam := [(73, g73)]
theorem Γ93_73 : Gam.get Γ93 73 = some g73 := rfl
def nl93_2 : Nm := ⟨[true, true, false, false, false, true], []⟩
theorem nl93_2_fix : nl93_2.fix = [] := rfl
theorem nl93_2_keep : nl93_2.keep = [true, true, false, false, false, true] := rfl
def nx93_0 : Nm := ⟨[false, true], []⟩
theorem nx93_0_fix : nx93_0.fix = [] := rfl
theorem nx93_0_keep : nx93_0.keep = [false, true] := rfl
def tr93 : Nat → Tree := fun _ => .done
def lp93 : Nat → Nm := fun i => if i = 2 then nl93_2 else ⟨[], []⟩
def ex93 : Nat → Option Nm := fun i => if i = 0 then some nx93_0 else none
def rg93 : Nat → Option Nm := fun _ => none
theorem p93 : plansOk tr93 (Try.f93.body.getD .skip) = true := by kernel_rfl
def T93 (N : Nat) : Tab := { tr := tr93, lp := lp93, ex := ex93, rg := rg93, fuel := N }
theorem T93_pins (N : Nat) : (T93 N).pins = false := rfl
theorem T93_tr (N i : Nat) : (T93 N).tr i = tr93 i := rfl
theorem T93_lp (N i : Nat) : (T93 N).lp i = lp93 i := rfl
theorem T93_ex (N i : Nat) : (T93 N).ex i = ex93 i := rfl
theorem T93_rg (N i : Nat) : (T93 N).rg i = rg93 i := rfl
theorem T93_fuel (N : Nat) : (T93 N).fuel = N := rfl
noncomputable def c93_2 : Code := cut [true, false, true, true, true] (Try.f93.body.getD .skip)
theorem c93_2_at {N : Nat} {Q : X → St → Option (Vals [i3])} {e : List LV} {h : List Blk} : runT tt Γ93 (T93 N) c93_2 Q ⟨e, h⟩ = runT tt Γ93 (T93 N) (cut [true, false, true, true, true] (Try.f93.body.getD .skip)) Q ⟨e, h⟩ := rfl
theorem r93_l2 (N : Nat) (v2 : List (Val Y36)) {k0 : Int → Option (Vals [i3])} {Q : X → St → Option (Vals [i3])} {c : Code} (hc : c = c93_2) (hret : ∀ st, Q .ret st = retS tt true [i3] [.tmp 4] st) (h0 : ∀ (v5 : Int), Q (.exit 0) ⟨[u, .one (.int .i64 v5), u, u, u, u, u, u, u, u, u, u, u, u, u, u, u, u, u, u, u, u, u, u, u, u, u, u, u, u, u], []⟩ = k0 v5) : ∀ (n : Nat) (v3 : Int) (v4 : Int), loopR (runT tt Γ93 (T93 N) c) false nl93_2 Q n ⟨[.one (.sl 36 Y36 v2 0), .one (.int .i64 v3), u, u, u, .one (.int .i64 v4), u, u, u, u, u, u, u, u, u, u, u, u, u, u, u, u, u, u, u, u, u, u, u, u, u], []⟩ = m93_l2 N v2 k0 n v3 v4 := by
  subst hc; intro n; induction n with
  | zero => intros; rfl
  | succ n ih =>
    intro v3 v4
    rw [loop_succ, c93_2_at, m93_l2]; unfold Try.f93
    simp (maxSteps := 10000000) -implicitDefEqProofs [T93_tr, tr93, T93_lp, lp93, T93_ex, ex93, T93_rg, rg93, T93_fuel, T93_pins, nl93_2_fix, nl93_2_keep, nx93_0_fix, nx93_0_keep, Γ93_73, g73, hret, h0, ih]
theorem run93 (N : Nat) (v0 : List (Val Y36)) (v1 : Int) : runT tt Γ93 (T93 N) (Try.f93.body.getD .skip) (retR tt true [i3] [.tmp 4]) (entryP [i69, i3] 31 (v0, v1, ())) = m93 N v0 v1 := by
  unfold Try.f93
  simp (maxSteps := 10000000) -implicitDefEqProofs [T93_tr, tr93, T93_lp, lp93, T93_ex, ex93, T93_rg, rg93, T93_fuel, T93_pins, nl93_2_fix, nl93_2_keep, nx93_0_fix, nx93_0_keep, Γ93_73, g73]
  rewrite [r93_l2 (k0 := (fun (v6 : Int) => some (v6, ()))) N _ ?_ ?_ ?_]
  · rewrite [m93]; first | rfl | simp (maxSteps := 10000000) -implicitDefEqProofs []
  · rfl
  · intro; simp only [seqR_ret, blockR_ret, retR_ret, retX_ret]
  · intro v6; simp (maxSteps := 10000000) -implicitDefEqProofs [T93_tr, tr93, T93_lp, lp93, T93_ex, ex93, T93_rg, rg93, T93_fuel, T93_pins, nl93_2_fix, nl93_2_keep, nx93_0_fix, nx93_0_keep, Γ93_73, g73]
def g93 : G := { ps := [i69, i3], rs := [i3], dp := true, pre := fun x => held_CellS_pre x.1 x.2.1, fn := fun x => (held_CellS x.1 x.2.1, ()) }
theorem e93 (x : List (Val Y36)) (k : Int) (h : held_CellS_pre x k) : ∃ N, m93 N x k = some (held_CellS x k, ()) := ⟨x.length + 1, by
  obtain ⟨hm, hb, h0, hc⟩ := h
  rw [m93]
  refine held_loop (t := Y36) (F := fun n i k => m93_l2 _ x _ n k i) (kf := fun k => some (k, ())) x hb.1 (fun n i k hi hx h0 hc => ?_) (fun n i k hi => ?_) _ k (Nat.lt_succ_self _) hm h0 hc
  · have hb := hb.2 _ (List.getElem_mem hi)
    obtain ⟨e1, e2⟩ := Prod.mk.inj hx
    have e1 : k = x[i].1 := e1
    have ek : IntKind.i64.wrap (k + 1) = k + 1 := wrap64 (by omega) (by omega)
    have hcc : (k + 1) + (cntE (.slice 106 Y106) x[i].2 : Nat) ≤ 4611686018427387904 := by
      have : cntE Y36 x[i] = 1 + cntE (.slice 106 Y106) x[i].2 := rfl
      omega
    have hk := mkE_k (.slice 106 Y106) x[i].2 (k + 1) (by omega) hcc
    have hp : held_AtomS_pre x[i].2 (k + 1) := ⟨by rw [← ek]; exact e2, hb.2, by omega, by have : cntT (.slice 106 Y106) x[i].2 = cntE (.slice 106 Y106) x[i].2 := rfl; omega⟩
    have ev : held_AtomS x[i].2 (k + 1) = (mkE (.slice 106 Y106) x[i].2 (k + 1)).2 := rfl
    rw [m93_l2, bif_dec (by omega), chk_pos (by omega), getD_atI hi, bif_not, bif_dec e1.symm, ek, chk_pos (by omega), chk_pos hp, bif_decN (by omega), ev, ← ek]
    rfl
  · rw [m93_l2, bif_decN (by omega)]⟩
theorem s93 : Sound Try.prog 93 g93 := sound_run (tt := tt) (Γ := Γ93) hT (ok_cons s73 ok_nil) hm (fn := Try.f93) Try.func93 (c := Try.f93.body.getD .skip) (by kernel_rfl) (by kernel_rfl) fun x hx => by
  obtain ⟨N, h⟩ := e93 x.1 x.2.1 hx
  exact ⟨T93 N, p93, noSem_ok _, (run93 N x.1 x.2.1).trans h⟩
def held_Region (x : Val Y71) (k : Int) : Int := (mkT Y71 x k).2
def held_Region_pre (x : Val Y71) (k : Int) : Prop := heldPre Y71 x k
-- laws.heldRegion
noncomputable def m44 (N : Nat) (v0 : Val Y71) (v1 : Int) : Option (Vals [i3]) := chk (held_CellS_pre (v0.2 : List (Val Y36)) v1) (bif (decide (((held_CellS (v0.2 : List (Val Y36)) v1) : Int) < (0 : Int))) then (some ((-1 : Int), ())) else (some (((held_CellS (v0.2 : List (Val Y36)) v1) : Int), ())))
def Γ44 : Gam := [(93, g93)]
theorem Γ44_93 : Gam.get Γ44 93 = some g93 := rfl
def tr44 : Nat → Tree := fun _ => .done
def lp44 : Nat → Nm := fun _ => ⟨[], []⟩
def ex44 : Nat → Option Nm := fun _ => none
def rg44 : Nat → Option Nm := fun _ => none
theorem p44 : plansOk tr44 (Try.f44.body.getD .skip) = true := by kernel_rfl
def T44 (N : Nat) : Tab := { tr := tr44, lp := lp44, ex := ex44, rg := rg44, fuel := N }
theorem T44_pins (N : Nat) : (T44 N).pins = false := rfl
theorem T44_tr (N i : Nat) : (T44 N).tr i = tr44 i := rfl
theorem T44_lp (N i : Nat) : (T44 N).lp i = lp44 i := rfl
theorem T44_ex (N i : Nat) : (T44 N).ex i = ex44 i := rfl
theorem T44_rg (N i : Nat) : (T44 N).rg i = rg44 i := rfl
theorem T44_fuel (N : Nat) : (T44 N).fuel = N := rfl
theorem run44 (N : Nat) (v0 : Val Y71) (v1 : Int) : runT tt Γ44 (T44 N) (Try.f44.body.getD .skip) (retR tt true [i3] [.tmp 4]) (entryP [i71, i3] 12 (v0, v1, ())) = m44 N v0 v1 := by
  rw [m44]; unfold Try.f44
  simp (maxSteps := 10000000) -implicitDefEqProofs [T44_tr, tr44, T44_lp, lp44, T44_ex, ex44, T44_rg, rg44, T44_fuel, T44_pins, Γ44_93, g93]
  try rfl
def g44 : G := { ps := [i71, i3], rs := [i3], dp := true, pre := fun x => held_Region_pre x.1 x.2.1, fn := fun x => (held_Region x.1 x.2.1, ()) }
theorem e44 (x : Val Y71) (k : Int) (h : held_Region_pre x k) : ∃ N, m44 N x k = some (held_Region x k, ()) := ⟨0, by
  obtain ⟨hm, hb, h0, hc⟩ := h
  have hc' : k + (cntT (.slice 36 Y36) x.2 : Nat) ≤ 4611686018427387904 := by
    have : cntT Y71 x = 0 + cntT (.slice 36 Y36) x.2 := rfl
    omega
  have hk := mkT_k (.slice 36 Y36) x.2 k h0 hc'
  have ev : held_CellS x.2 k = (mkT (.slice 36 Y36) x.2 k).2 := rfl
  rw [m44, chk_pos (show held_CellS_pre x.2 k from ⟨(Prod.mk.inj hm).2, hb.2, h0, hc'⟩), bif_decN (by omega)]
  rfl⟩
theorem s44 : Sound Try.prog 44 g44 := sound_run (tt := tt) (Γ := Γ44) hT (ok_cons s93 ok_nil) hm (fn := Try.f44) Try.func44 (c := Try.f44.body.getD .skip) (by kernel_rfl) (by kernel_rfl) fun x hx => by
  obtain ⟨N, h⟩ := e44 x.1 x.2.1 hx
  exact ⟨T44 N, p44, noSem_ok _, (run44 N x.1 x.2.1).trans h⟩
end Go.T
