/- Sizes. -/
import Derived.Test.YtkjiecjpdbpghaaS1
namespace Go.T
open Go Go.Proofs
set_option maxHeartbeats 1000000
attribute [local simp] gSz szPre
theorem s101 : Sound Try.prog 101 (gSz i32) := by
  refine sound_of (tr := fun _ => .done) (Γ := []) hT ok_nil hm (fn := Try.f101) Try.func101 (c := Try.f101.body.getD .skip) (by kernel_rfl) (by kernel_rfl) (by kernel_rfl) ?_
  rintro ⟨xs, n, ⟨⟩⟩ ⟨hs, h0, h1⟩
  change Int at n
  dsimp only at hs h0 h1
  have hw : IntKind.i64.wrap (n - (List.length xs : Int)) = n - List.length xs := wrap64 (by have := hs.1; simp only [maxLen] at this; omega) (by omega)
  unfold Try.f101
  simp -implicitDefEqProofs [hw]
  refine ⟨fun h => by rw [szV_slice, if_pos h], fun h => ?_⟩
  rw [szV_slice, if_neg (by omega), szL_flatV (fun _ _ => rfl) _ _ (by omega)]
theorem s126 : Sound Try.prog 126 (gSz i134) := by
  refine sound_of (tr := fun _ => .done) (Γ := [(101, gSz i32)]) hT (ok_cons s101 ok_nil) hm (fn := Try.f126) Try.func126 (c := Try.f126.body.getD .skip) (by kernel_rfl) (by kernel_rfl) (by kernel_rfl) ?_
  rintro ⟨x, n, ⟨⟩⟩ ⟨hs, h0, h1⟩
  change Int at n
  dsimp only at hs h0 h1
  unfold Try.f126
  simp -implicitDefEqProofs
  refine ⟨⟨hs.1, h0, h1⟩, ?_⟩
  exact ⟨fun h => by rw [szV_pair_neg h], fun h => by rw [szV_pair_pos h, szV_pair_int h, szV_bool]⟩
theorem s63 : Sound Try.prog 63 (gSz i29) := by
  refine sound_of (tr := fun _ => .done) (Γ := [(126, gSz i134)]) hT (ok_cons s126 ok_nil) hm (fn := Try.f63) Try.func63 (c := Try.f63.body.getD .skip) (by kernel_rfl) (by kernel_rfl) (by kernel_rfl) ?_
  rintro ⟨xs, n, ⟨⟩⟩ ⟨hs, h0, h1⟩
  change Int at n
  dsimp only at hs h0 h1
  have hw : IntKind.i64.wrap (n - (List.length xs : Int)) = n - List.length xs := wrap64 (by have := hs.1; simp only [maxLen] at this; omega) (by omega)
  unfold Try.f63
  simp -implicitDefEqProofs [hw]
  refine ⟨fun h => by rw [szV_slice, if_pos h], fun h => ?_⟩
  refine ⟨Nat × Int, fun x => ⟨[.one (.sl 134 Y134 xs 0), .one (.int .i64 x.2), .one .undef, .one .undef, .one .undef, .one (.int .i64 x.1)] ++ List.replicate 21 (.one .undef), []⟩,
    fun x => x.1 ≤ List.length xs ∧ 0 ≤ x.2 ∧ x.2 ≤ 1048576 ∧ szL (szV Y134) (List.drop x.1 xs) x.2 = szV (.slice 134 Y134) xs n, fun x => List.length xs - x.1, ⟨(0, n - List.length xs), Le.of_gc [true, true, false, false, false, true] ?_, ?_⟩, ?_⟩
  · simp -implicitDefEqProofs
  · exact ⟨by simp, by show (0:Int) ≤ n - List.length xs; omega, by show n - List.length xs ≤ (1048576:Int); omega, by rw [szV_slice, if_neg (by omega)]; rfl⟩
  · rintro ⟨i, m⟩ ⟨hi, hm0, hm1, hI⟩
    dsimp only at hi hm0 hm1 hI
    simp -implicitDefEqProofs
    refine ⟨fun hlt => ?_, fun hge => szL_end hge hI⟩
    obtain ⟨e1, e2⟩ := szL_step (d := dflt Y134) hlt hI
    refine ⟨hlt, ⟨hs.2 _ (mem_at hlt), hm0, hm1⟩, e1, fun h => ⟨i + 1, _, Le.of_gc [true, true, false, false, false, true] ?_, ⟨hlt, h, Int.le_trans (szV_le Y134 _ m hm0).1 hm1, e2 h⟩, by omega⟩⟩
    simp -implicitDefEqProofs [wrap_succ hlt (by omega)]
theorem s18 : Sound Try.prog 18 (gSz i31) := by
  refine sound_of (tr := fun _ => .done) (Γ := [(63, gSz i29)]) hT (ok_cons s63 ok_nil) hm (fn := Try.f18) Try.func18 (c := Try.f18.body.getD .skip) (by kernel_rfl) (by kernel_rfl) (by kernel_rfl) ?_
  rintro ⟨x, n, ⟨⟩⟩ ⟨hs, h0, h1⟩
  change Int at n
  dsimp only at hs h0 h1
  unfold Try.f18
  simp -implicitDefEqProofs
  rw [szV_pair_int h0]
  exact ⟨⟨hs.2, h0, h1⟩, fun h => ((szV_le _ _ n h0).2 h).symm, fun h => rfl⟩
theorem s134 : Sound Try.prog 134 (gSz i172) := by
  refine sound_of (tr := fun _ => .done) (Γ := [(18, gSz i31)]) hT (ok_cons s18 ok_nil) hm (fn := Try.f134) Try.func134 (c := Try.f134.body.getD .skip) (by kernel_rfl) (by kernel_rfl) (by kernel_rfl) ?_
  rintro ⟨x, n, ⟨⟩⟩ ⟨hs, h0, h1⟩
  change Int at n
  dsimp only at hs h0 h1
  have hw : IntKind.i64.wrap (n - (ByteArray.size x.1 : Int)) = n - ByteArray.size x.1 := wrap64 (by have : ByteArray.size x.1 ≤ maxLen := hs.1; simp only [maxLen] at this; omega) (by omega)
  unfold Try.f134
  simp -implicitDefEqProofs [hw]
  refine ⟨fun h => by rw [szV_pair_neg (by rw [szV_str_neg h]; decide)], fun h => ?_⟩
  have e : szV .str x.1 n = n - ByteArray.size x.1 := szV_str_pos (by omega)
  have e2 : szV Y172 x n = szV Y31 x.2 (n - ByteArray.size x.1) := (szV_pair_pos (a := .str) (by rw [e]; omega)).trans (by rw [e])
  rw [e2]
  exact ⟨⟨hs.2, h, by omega⟩, fun h' => ((szV_le _ _ _ (by omega)).2 h').symm, fun h => rfl⟩
theorem s74 : Sound Try.prog 74 (gSz i46) := by
  refine sound_of (tr := fun _ => .done) (Γ := [(134, gSz i172)]) hT (ok_cons s134 ok_nil) hm (fn := Try.f74) Try.func74 (c := Try.f74.body.getD .skip) (by kernel_rfl) (by kernel_rfl) (by kernel_rfl) ?_
  rintro ⟨xs, n, ⟨⟩⟩ ⟨hs, h0, h1⟩
  change Int at n
  dsimp only at hs h0 h1
  have hw : IntKind.i64.wrap (n - (List.length xs : Int)) = n - List.length xs := wrap64 (by have := hs.1; simp only [maxLen] at this; omega) (by omega)
  unfold Try.f74
  simp -implicitDefEqProofs [hw]
  refine ⟨fun h => by rw [szV_slice, if_pos h], fun h => ?_⟩
  refine ⟨Nat × Int, fun x => ⟨[.one (.sl 172 Y172 xs 0), .one (.int .i64 x.2), .one .undef, .one .undef, .one .undef, .one (.int .i64 x.1)] ++ List.replicate 21 (.one .undef), []⟩,
    fun x => x.1 ≤ List.length xs ∧ 0 ≤ x.2 ∧ x.2 ≤ 1048576 ∧ szL (szV Y172) (List.drop x.1 xs) x.2 = szV (.slice 172 Y172) xs n, fun x => List.length xs - x.1, ⟨(0, n - List.length xs), Le.of_gc [true, true, false, false, false, true] ?_, ?_⟩, ?_⟩
  · simp -implicitDefEqProofs
  · exact ⟨by simp, by show (0:Int) ≤ n - List.length xs; omega, by show n - List.length xs ≤ (1048576:Int); omega, by rw [szV_slice, if_neg (by omega)]; rfl⟩
  · rintro ⟨i, m⟩ ⟨hi, hm0, hm1, hI⟩
    dsimp only at hi hm0 hm1 hI
    simp -implicitDefEqProofs
    refine ⟨fun hlt => ?_, fun hge => szL_end hge hI⟩
    obtain ⟨e1, e2⟩ := szL_step (d := dflt Y172) hlt hI
    refine ⟨hlt, ⟨hs.2 _ (mem_at hlt), hm0, hm1⟩, e1, fun h => ⟨i + 1, _, Le.of_gc [true, true, false, false, false, true] ?_, ⟨hlt, h, Int.le_trans (szV_le Y172 _ m hm0).1 hm1, e2 h⟩, by omega⟩⟩
    simp -implicitDefEqProofs [wrap_succ hlt (by omega)]
theorem s28 : Sound Try.prog 28 (gSz i48) := by
  refine sound_of (tr := fun _ => .done) (Γ := [(74, gSz i46)]) hT (ok_cons s74 ok_nil) hm (fn := Try.f28) Try.func28 (c := Try.f28.body.getD .skip) (by kernel_rfl) (by kernel_rfl) (by kernel_rfl) ?_
  rintro ⟨x, n, ⟨⟩⟩ ⟨hs, h0, h1⟩
  change Int at n
  dsimp only at hs h0 h1
  have hw : IntKind.i64.wrap (n - (ByteArray.size x.1 : Int)) = n - ByteArray.size x.1 := wrap64 (by have : ByteArray.size x.1 ≤ maxLen := hs.1; simp only [maxLen] at this; omega) (by omega)
  unfold Try.f28
  simp -implicitDefEqProofs [hw]
  refine ⟨fun h => by rw [szV_pair_neg (by rw [szV_str_neg h]; decide)], fun h => ?_⟩
  have e : szV .str x.1 n = n - ByteArray.size x.1 := szV_str_pos (by omega)
  have e2 : szV Y48 x n = szV (.pair (.int .i64) (.slice 172 Y172)) x.2 (n - ByteArray.size x.1) := (szV_pair_pos (a := .str) (by rw [e]; omega)).trans (by rw [e])
  rw [e2]
  have h2 : 0 ≤ n - (ByteArray.size x.1 : Int) := by omega
  rw [szV_pair_int h2]
  exact ⟨⟨hs.2.2, h, by omega⟩, fun h' => ((szV_le _ _ _ (by omega)).2 h').symm, fun h => rfl⟩
theorem s13 : Sound Try.prog 13 (gSz i22) := by
  refine sound_of (tr := fun _ => .done) (Γ := [(28, gSz i48)]) hT (ok_cons s28 ok_nil) hm (fn := Try.f13) Try.func13 (c := Try.f13.body.getD .skip) (by kernel_rfl) (by kernel_rfl) (by kernel_rfl) ?_
  rintro ⟨xs, n, ⟨⟩⟩ ⟨hs, h0, h1⟩
  change Int at n
  dsimp only at hs h0 h1
  have hw : IntKind.i64.wrap (n - (List.length xs : Int)) = n - List.length xs := wrap64 (by have := hs.1; simp only [maxLen] at this; omega) (by omega)
  unfold Try.f13
  simp -implicitDefEqProofs [hw]
  refine ⟨fun h => by rw [szV_slice, if_pos h], fun h => ?_⟩
  refine ⟨Nat × Int, fun x => ⟨[.one (.sl 48 Y48 xs 0), .one (.int .i64 x.2), .one .undef, .one .undef, .one .undef, .one (.int .i64 x.1)] ++ List.replicate 21 (.one .undef), []⟩,
    fun x => x.1 ≤ List.length xs ∧ 0 ≤ x.2 ∧ x.2 ≤ 1048576 ∧ szL (szV Y48) (List.drop x.1 xs) x.2 = szV (.slice 48 Y48) xs n, fun x => List.length xs - x.1, ⟨(0, n - List.length xs), Le.of_gc [true, true, false, false, false, true] ?_, ?_⟩, ?_⟩
  · simp -implicitDefEqProofs
  · exact ⟨by simp, by show (0:Int) ≤ n - List.length xs; omega, by show n - List.length xs ≤ (1048576:Int); omega, by rw [szV_slice, if_neg (by omega)]; rfl⟩
  · rintro ⟨i, m⟩ ⟨hi, hm0, hm1, hI⟩
    dsimp only at hi hm0 hm1 hI
    simp -implicitDefEqProofs
    refine ⟨fun hlt => ?_, fun hge => szL_end hge hI⟩
    obtain ⟨e1, e2⟩ := szL_step (d := dflt Y48) hlt hI
    refine ⟨hlt, ⟨hs.2 _ (mem_at hlt), hm0, hm1⟩, e1, fun h => ⟨i + 1, _, Le.of_gc [true, true, false, false, false, true] ?_, ⟨hlt, h, Int.le_trans (szV_le Y48 _ m hm0).1 hm1, e2 h⟩, by omega⟩⟩
    simp -implicitDefEqProofs [wrap_succ hlt (by omega)]
end Go.T
