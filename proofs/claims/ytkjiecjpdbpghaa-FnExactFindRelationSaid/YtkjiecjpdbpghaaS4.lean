/- Equality. -/
import Derived.Test.YtkjiecjpdbpghaaS3
namespace Go.T
open Go Go.Proofs
set_option maxHeartbeats 1000000
def gEq (ti : TI) : G := { ps := [ti, ti], rs := [i4], dp := true, pre := fun x => Bd ti.ty x.1, fn := fun x => (eqV ti.ty x.1 x.2.1, ()) }
attribute [local simp] gEq
theorem s24 : Sound Try.prog 24 (gEq i32) := by
  refine sound_of (tr := fun id => if id = 6 then chain 0 9 .done else .done) (Γ := []) hT ok_nil hm (fn := Try.f24) Try.func24 (c := Try.f24.body.getD .skip) (by kernel_rfl) (by kernel_rfl) (by kernel_rfl) ?_
  rintro ⟨xs, ys, ⟨⟩⟩ hs
  dsimp only [gEq] at hs
  unfold Try.f24
  simp -implicitDefEqProofs
  refine ⟨fun h => eqL_len _ _ (by omega), fun h => ?_⟩
  have hl : List.length xs = List.length ys := by omega
  refine ⟨Nat, fun i => ⟨[.one (.sl 3 (.int .i64) xs 0), .one (.sl 3 (.int .i64) ys 0), .one .undef, .one .undef, .one .undef, .one (.int .i64 i)] ++ List.replicate 20 (.one .undef), []⟩,
    fun i => i ≤ List.length xs ∧ eqL (eqV (.int .i64)) (List.drop i xs) (List.drop i ys) = eqV (.slice 3 (.int .i64)) xs ys, fun i => List.length xs - i, ⟨0, Le.of_gc [true, true, false, false, false, true] ?_, by simp; rfl⟩, ?_⟩
  · simp -implicitDefEqProofs
  · rintro i ⟨hi, hI⟩
    simp -implicitDefEqProofs
    refine ⟨fun hlt => ?_, fun hge => eqL_end hl hge hI⟩
    obtain ⟨e1, e2⟩ := eqL_step (d := dflt (.int .i64)) hl hlt hI
    refine ⟨hlt, by omega, fun h => e1 (by simp [eqV]; exact h), fun h => ⟨i + 1, Le.of_gc [true, true, false, false, false, true] ?_, ⟨hlt, e2 (by simp [eqV]; exact h)⟩, by omega⟩⟩
    simp -implicitDefEqProofs [wrap_succ hlt hs.1]
theorem s133 : Sound Try.prog 133 (gEq i106) := by
  refine sound_of (tr := fun _ => .done) (Γ := [(24, gEq i32)]) hT (ok_cons s24 ok_nil) hm (fn := Try.f133) Try.func133 (c := Try.f133.body.getD .skip) (by kernel_rfl) (by kernel_rfl) (by kernel_rfl) ?_
  rintro ⟨x, y, ⟨⟩⟩ hs
  dsimp only [gEq] at hs
  obtain ⟨x1, x2⟩ := x
  obtain ⟨y1, y2⟩ := y
  obtain ⟨x2, x3⟩ := x2
  obtain ⟨y2, y3⟩ := y2
  unfold Try.f133
  simp -implicitDefEqProofs [eqV_pair, eqV_int, eqV_bool, eqV_str]
  refine ⟨hs.1, ?_⟩
  generalize eqV _ x1 y1 = A
  cases A <;> by_cases h2 : x2 = y2 <;> by_cases h3 : x3 = y3 <;> simp [h2, h3]
theorem s71 : Sound Try.prog 71 (gEq i34) := by
  refine sound_of (tr := fun id => if id = 6 then chain 0 8 (.alt 8 (.quiet 9 .done) .stop) else .done) (Γ := [(133, gEq i106)]) hT (ok_cons s133 ok_nil) hm (fn := Try.f71) Try.func71 (c := Try.f71.body.getD .skip) (by kernel_rfl) (by kernel_rfl) (by kernel_rfl) ?_
  rintro ⟨xs, ys, ⟨⟩⟩ hs
  dsimp only [gEq] at hs
  unfold Try.f71
  simp -implicitDefEqProofs
  refine ⟨fun h => eqL_len _ _ (by omega), fun h => ?_⟩
  have hl : List.length xs = List.length ys := by omega
  refine ⟨Nat, fun i => ⟨[.one (.sl 106 Y106 xs 0), .one (.sl 106 Y106 ys 0), .one .undef, .one .undef, .one .undef, .one (.int .i64 i)] ++ List.replicate 21 (.one .undef), []⟩,
    fun i => i ≤ List.length xs ∧ eqL (eqV Y106) (List.drop i xs) (List.drop i ys) = eqV (.slice 106 Y106) xs ys, fun i => List.length xs - i, ⟨0, Le.of_gc [true, true, false, false, false, true] ?_, by simp; rfl⟩, ?_⟩
  · simp -implicitDefEqProofs
  · rintro i ⟨hi, hI⟩
    simp -implicitDefEqProofs
    refine ⟨fun hlt => ?_, fun hge => eqL_end hl hge hI⟩
    obtain ⟨e1, e2⟩ := eqL_step (d := dflt Y106) hl hlt hI
    refine ⟨hlt, by omega, hs.2 _ (mem_at hlt), fun h => e1 h, fun h => ⟨i + 1, Le.of_gc [true, true, false, false, false, true] ?_, ⟨hlt, e2 h⟩, by omega⟩⟩
    simp -implicitDefEqProofs [wrap_succ hlt hs.1]
theorem s23 : Sound Try.prog 23 (gEq i36) := by
  refine sound_of (tr := fun _ => .done) (Γ := [(71, gEq i34)]) hT (ok_cons s71 ok_nil) hm (fn := Try.f23) Try.func23 (c := Try.f23.body.getD .skip) (by kernel_rfl) (by kernel_rfl) (by kernel_rfl) ?_
  rintro ⟨x, y, ⟨⟩⟩ hs
  dsimp only [gEq] at hs
  obtain ⟨x1, x2⟩ := x
  obtain ⟨y1, y2⟩ := y
  unfold Try.f23
  simp -implicitDefEqProofs [eqV_pair, eqV_int, eqV_bool, eqV_str]
  by_cases h1 : x1 = y1
  · simp only [h1, not_true, false_implies, true_implies, true_and]
    refine ⟨hs.2, ?_⟩
    generalize eqV _ x2 y2 = A
    cases A <;> simp
  · simp [h1]
theorem s137 : Sound Try.prog 137 (gEq i116) := by
  refine sound_of (tr := fun _ => .done) (Γ := [(23, gEq i36)]) hT (ok_cons s23 ok_nil) hm (fn := Try.f137) Try.func137 (c := Try.f137.body.getD .skip) (by kernel_rfl) (by kernel_rfl) (by kernel_rfl) ?_
  rintro ⟨x, y, ⟨⟩⟩ hs
  dsimp only [gEq] at hs
  obtain ⟨x1, x2⟩ := x
  obtain ⟨y1, y2⟩ := y
  unfold Try.f137
  simp -implicitDefEqProofs [eqV_pair, eqV_int, eqV_bool, eqV_str]
  by_cases h1 : ByteArray.toList x1 = ByteArray.toList y1
  · simp only [h1, not_true, false_implies, true_implies, true_and]
    refine ⟨hs.2, ?_⟩
    generalize eqV _ x2.2 y2.2 = A
    cases A <;> by_cases h2 : x2.1 = y2.1 <;> simp [h2]
  · simp [h1]
theorem s79 : Sound Try.prog 79 (gEq i51) := by
  refine sound_of (tr := fun id => if id = 6 then chain 0 8 (.alt 8 (.quiet 9 .done) .stop) else .done) (Γ := [(137, gEq i116)]) hT (ok_cons s137 ok_nil) hm (fn := Try.f79) Try.func79 (c := Try.f79.body.getD .skip) (by kernel_rfl) (by kernel_rfl) (by kernel_rfl) ?_
  rintro ⟨xs, ys, ⟨⟩⟩ hs
  dsimp only [gEq] at hs
  unfold Try.f79
  simp -implicitDefEqProofs
  refine ⟨fun h => eqL_len _ _ (by omega), fun h => ?_⟩
  have hl : List.length xs = List.length ys := by omega
  refine ⟨Nat, fun i => ⟨[.one (.sl 116 Y116 xs 0), .one (.sl 116 Y116 ys 0), .one .undef, .one .undef, .one .undef, .one (.int .i64 i)] ++ List.replicate 21 (.one .undef), []⟩,
    fun i => i ≤ List.length xs ∧ eqL (eqV Y116) (List.drop i xs) (List.drop i ys) = eqV (.slice 116 Y116) xs ys, fun i => List.length xs - i, ⟨0, Le.of_gc [true, true, false, false, false, true] ?_, by simp; rfl⟩, ?_⟩
  · simp -implicitDefEqProofs
  · rintro i ⟨hi, hI⟩
    simp -implicitDefEqProofs
    refine ⟨fun hlt => ?_, fun hge => eqL_end hl hge hI⟩
    obtain ⟨e1, e2⟩ := eqL_step (d := dflt Y116) hl hlt hI
    refine ⟨hlt, by omega, hs.2 _ (mem_at hlt), fun h => e1 h, fun h => ⟨i + 1, Le.of_gc [true, true, false, false, false, true] ?_, ⟨hlt, e2 h⟩, by omega⟩⟩
    simp -implicitDefEqProofs [wrap_succ hlt hs.1]
theorem s32 : Sound Try.prog 32 (gEq i53) := by
  refine sound_of (tr := fun _ => .done) (Γ := [(79, gEq i51)]) hT (ok_cons s79 ok_nil) hm (fn := Try.f32) Try.func32 (c := Try.f32.body.getD .skip) (by kernel_rfl) (by kernel_rfl) (by kernel_rfl) ?_
  rintro ⟨x, y, ⟨⟩⟩ hs
  dsimp only [gEq] at hs
  obtain ⟨x1, x2⟩ := x
  obtain ⟨y1, y2⟩ := y
  obtain ⟨x2, x3⟩ := x2
  obtain ⟨y2, y3⟩ := y2
  unfold Try.f32
  simp -implicitDefEqProofs [eqV_pair, eqV_int, eqV_bool, eqV_str]
  have hb := hs.2.2
  generalize eqV _ x3 y3 = A
  by_cases h1 : ByteArray.toList x1 = ByteArray.toList y1 <;> by_cases h2 : x2 = y2 <;> cases A <;> first | (simp [h1, h2]; done) | (simp [h1, h2]; exact hb)
theorem s17 : Sound Try.prog 17 (gEq i25) := by
  refine sound_of (tr := fun id => if id = 6 then chain 0 8 (.alt 8 (.quiet 9 .done) .stop) else .done) (Γ := [(32, gEq i53)]) hT (ok_cons s32 ok_nil) hm (fn := Try.f17) Try.func17 (c := Try.f17.body.getD .skip) (by kernel_rfl) (by kernel_rfl) (by kernel_rfl) ?_
  rintro ⟨xs, ys, ⟨⟩⟩ hs
  dsimp only [gEq] at hs
  unfold Try.f17
  simp -implicitDefEqProofs
  refine ⟨fun h => eqL_len _ _ (by omega), fun h => ?_⟩
  have hl : List.length xs = List.length ys := by omega
  refine ⟨Nat, fun i => ⟨[.one (.sl 53 Y53 xs 0), .one (.sl 53 Y53 ys 0), .one .undef, .one .undef, .one .undef, .one (.int .i64 i)] ++ List.replicate 21 (.one .undef), []⟩,
    fun i => i ≤ List.length xs ∧ eqL (eqV Y53) (List.drop i xs) (List.drop i ys) = eqV (.slice 53 Y53) xs ys, fun i => List.length xs - i, ⟨0, Le.of_gc [true, true, false, false, false, true] ?_, by simp; rfl⟩, ?_⟩
  · simp -implicitDefEqProofs
  · rintro i ⟨hi, hI⟩
    simp -implicitDefEqProofs
    refine ⟨fun hlt => ?_, fun hge => eqL_end hl hge hI⟩
    obtain ⟨e1, e2⟩ := eqL_step (d := dflt Y53) hl hlt hI
    refine ⟨hlt, by omega, hs.2 _ (mem_at hlt), fun h => e1 h, fun h => ⟨i + 1, Le.of_gc [true, true, false, false, false, true] ?_, ⟨hlt, e2 h⟩, by omega⟩⟩
    simp -implicitDefEqProofs [wrap_succ hlt hs.1]
end Go.T
