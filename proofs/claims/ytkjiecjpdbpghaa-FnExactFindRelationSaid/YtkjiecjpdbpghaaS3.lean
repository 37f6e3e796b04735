/- Copies of the other package's types. -/
import Derived.Test.YtkjiecjpdbpghaaS2
namespace Go.T
open Go Go.Proofs
set_option maxHeartbeats 1000000
def g21 : G := { ps := [i32], rs := [i32], dp := true, pre := fun x => Bd i32.ty x.1, fn := fun x => (x.1, ()) }
theorem s21 : Sound Try.prog 21 g21 := by
  refine sound_of (tr := fun _ => .done) (Γ := []) hT ok_nil hm (fn := Try.f21) Try.func21 (c := Try.f21.body.getD .skip) (by kernel_rfl) (by kernel_rfl) (by kernel_rfl) ?_
  rintro ⟨xs, ⟨⟩⟩ hs
  dsimp only [g21] at hs
  unfold Try.f21
  simp -implicitDefEqProofs [g21]
  refine ⟨by have := hs.1; omega, ?_⟩
  refine ⟨Nat, fun i => ⟨[.one (.sl 3 (.int .i64) xs 1), .one .undef, .one .undef, .one (.own 0), .one (.int .i64 i)] ++ List.replicate 17 (.one .undef), [.row 3 (.int .i64) (fillP (α := Int) xs (dflt (.int .i64)) i) true true 0]⟩,
    fun i => i ≤ List.length xs, fun i => List.length xs - i, ⟨0, Le.of_gc [true, false, false, true, true] ?_, by simp⟩, ?_⟩
  · simp -implicitDefEqProofs [fillP_zero]
  · intro i hi
    have hl := fillP_len (α := Int) (d := dflt (.int .i64)) hi
    simp -implicitDefEqProofs [hl]
    refine ⟨fun hlt => ⟨hlt, i + 1, Le.of_gc [true, false, false, true, true] ?_, hlt, by omega⟩, fun hge => fillP_end hge⟩
    simp -implicitDefEqProofs [wrap_succ hlt hs.1]
    exact fillP_set hlt
def g129 : G := { ps := [i134], rs := [i106], dp := true, pre := fun x => Bd i134.ty x.1, fn := fun x => (x.1, ()) }
theorem s129 : Sound Try.prog 129 g129 := by
  refine sound_of (tr := fun _ => .done) (Γ := [(21, g21)]) hT (ok_cons s21 ok_nil) hm (fn := Try.f129) Try.func129 (c := Try.f129.body.getD .skip) (by kernel_rfl) (by kernel_rfl) (by kernel_rfl) ?_
  rintro ⟨x, ⟨⟩⟩ hs
  dsimp only [g129] at hs
  unfold Try.f129
  simp -implicitDefEqProofs [g129, g21]
  exact hs.1
def g67 : G := { ps := [i29], rs := [i34], dp := true, pre := fun x => Bd i29.ty x.1, fn := fun x => (x.1, ()) }
theorem s67 : Sound Try.prog 67 g67 := by
  refine sound_of (tr := fun _ => .done) (Γ := [(129, g129)]) hT (ok_cons s129 ok_nil) hm (fn := Try.f67) Try.func67 (c := Try.f67.body.getD .skip) (by kernel_rfl) (by kernel_rfl) (by kernel_rfl) ?_
  rintro ⟨xs, ⟨⟩⟩ hs
  dsimp only [g67] at hs
  unfold Try.f67
  simp -implicitDefEqProofs [g67]
  refine ⟨by have := hs.1; omega, ?_⟩
  refine ⟨Nat, fun i => ⟨[.one (.sl 134 Y134 xs 1), .one .undef, .one .undef, .one (.own 0), .one (.int .i64 i)] ++ List.replicate 18 (.one .undef), [.row 106 Y106 (fillP (α := Val Y106) xs (dflt Y106) i) true true 0]⟩,
    fun i => i ≤ List.length xs, fun i => List.length xs - i, ⟨0, Le.of_gc [true, false, false, true, true] ?_, by simp⟩, ?_⟩
  · simp -implicitDefEqProofs [fillP_zero]
  · intro i hi
    have hl := fillP_len (α := Val Y106) (d := dflt Y106) hi
    simp -implicitDefEqProofs [hl, g129]
    refine ⟨fun hlt => ⟨hlt, hs.2 _ (mem_at hlt), hlt, i + 1, Le.of_gc [true, false, false, true, true] ?_, hlt, by omega⟩, fun hge => fillP_end hge⟩
    simp -implicitDefEqProofs [wrap_succ hlt hs.1]
    exact fillP_set hlt
def g20 : G := { ps := [i31], rs := [i36], dp := true, pre := fun x => Bd i31.ty x.1, fn := fun x => (x.1, ()) }
theorem s20 : Sound Try.prog 20 g20 := by
  refine sound_of (tr := fun _ => .done) (Γ := [(67, g67)]) hT (ok_cons s67 ok_nil) hm (fn := Try.f20) Try.func20 (c := Try.f20.body.getD .skip) (by kernel_rfl) (by kernel_rfl) (by kernel_rfl) ?_
  rintro ⟨x, ⟨⟩⟩ hs
  dsimp only [g20] at hs
  unfold Try.f20
  simp -implicitDefEqProofs [g20, g67]
  first | exact hs.1 | exact hs.2 | exact hs.2.2
def g135 : G := { ps := [i172], rs := [i116], dp := true, pre := fun x => Bd i172.ty x.1, fn := fun x => (x.1, ()) }
theorem s135 : Sound Try.prog 135 g135 := by
  refine sound_of (tr := fun _ => .done) (Γ := [(20, g20)]) hT (ok_cons s20 ok_nil) hm (fn := Try.f135) Try.func135 (c := Try.f135.body.getD .skip) (by kernel_rfl) (by kernel_rfl) (by kernel_rfl) ?_
  rintro ⟨x, ⟨⟩⟩ hs
  dsimp only [g135] at hs
  unfold Try.f135
  simp -implicitDefEqProofs [g135, g20]
  first | exact hs.1 | exact hs.2 | exact hs.2.2
def g76 : G := { ps := [i46], rs := [i51], dp := true, pre := fun x => Bd i46.ty x.1, fn := fun x => (x.1, ()) }
theorem s76 : Sound Try.prog 76 g76 := by
  refine sound_of (tr := fun _ => .done) (Γ := [(135, g135)]) hT (ok_cons s135 ok_nil) hm (fn := Try.f76) Try.func76 (c := Try.f76.body.getD .skip) (by kernel_rfl) (by kernel_rfl) (by kernel_rfl) ?_
  rintro ⟨xs, ⟨⟩⟩ hs
  dsimp only [g76] at hs
  unfold Try.f76
  simp -implicitDefEqProofs [g76]
  refine ⟨by have := hs.1; omega, ?_⟩
  refine ⟨Nat, fun i => ⟨[.one (.sl 172 Y172 xs 1), .one .undef, .one .undef, .one (.own 0), .one (.int .i64 i)] ++ List.replicate 18 (.one .undef), [.row 116 Y116 (fillP (α := Val Y116) xs (dflt Y116) i) true true 0]⟩,
    fun i => i ≤ List.length xs, fun i => List.length xs - i, ⟨0, Le.of_gc [true, false, false, true, true] ?_, by simp⟩, ?_⟩
  · simp -implicitDefEqProofs [fillP_zero]
  · intro i hi
    have hl := fillP_len (α := Val Y116) (d := dflt Y116) hi
    simp -implicitDefEqProofs [hl, g135]
    refine ⟨fun hlt => ⟨hlt, hs.2 _ (mem_at hlt), hlt, i + 1, Le.of_gc [true, false, false, true, true] ?_, hlt, by omega⟩, fun hge => fillP_end hge⟩
    simp -implicitDefEqProofs [wrap_succ hlt hs.1]
    exact fillP_set hlt
def g30 : G := { ps := [i48], rs := [i53], dp := true, pre := fun x => Bd i48.ty x.1, fn := fun x => (x.1, ()) }
theorem s30 : Sound Try.prog 30 g30 := by
  refine sound_of (tr := fun _ => .done) (Γ := [(76, g76)]) hT (ok_cons s76 ok_nil) hm (fn := Try.f30) Try.func30 (c := Try.f30.body.getD .skip) (by kernel_rfl) (by kernel_rfl) (by kernel_rfl) ?_
  rintro ⟨x, ⟨⟩⟩ hs
  dsimp only [g30] at hs
  unfold Try.f30
  simp -implicitDefEqProofs [g30, g76]
  first | exact hs.1 | exact hs.2 | exact hs.2.2
def g15 : G := { ps := [i22], rs := [i25], dp := true, pre := fun x => Bd i22.ty x.1, fn := fun x => (x.1, ()) }
theorem s15 : Sound Try.prog 15 g15 := by
  refine sound_of (tr := fun _ => .done) (Γ := [(30, g30)]) hT (ok_cons s30 ok_nil) hm (fn := Try.f15) Try.func15 (c := Try.f15.body.getD .skip) (by kernel_rfl) (by kernel_rfl) (by kernel_rfl) ?_
  rintro ⟨xs, ⟨⟩⟩ hs
  dsimp only [g15] at hs
  unfold Try.f15
  simp -implicitDefEqProofs [g15]
  refine ⟨by have := hs.1; omega, ?_⟩
  refine ⟨Nat, fun i => ⟨[.one (.sl 48 Y48 xs 1), .one .undef, .one .undef, .one (.own 0), .one (.int .i64 i)] ++ List.replicate 18 (.one .undef), [.row 53 Y53 (fillP (α := Val Y53) xs (dflt Y53) i) true true 0]⟩,
    fun i => i ≤ List.length xs, fun i => List.length xs - i, ⟨0, Le.of_gc [true, false, false, true, true] ?_, by simp⟩, ?_⟩
  · simp -implicitDefEqProofs [fillP_zero]
  · intro i hi
    have hl := fillP_len (α := Val Y53) (d := dflt Y53) hi
    simp -implicitDefEqProofs [hl, g30]
    refine ⟨fun hlt => ⟨hlt, hs.2 _ (mem_at hlt), hlt, i + 1, Le.of_gc [true, false, false, true, true] ?_, hlt, by omega⟩, fun hge => fillP_end hge⟩
    simp -implicitDefEqProofs [wrap_succ hlt hs.1]
    exact fillP_set hlt
end Go.T
