/- FindRelation. -/
import Derived.Test.YtkjiecjpdbpghaaS4
namespace Go.T
open Go Go.Proofs
set_option maxHeartbeats 1000000
/-- The first of that name. -/
def idxName (name : ByteArray) : List (Val Y53) → Nat → Int
  | [], _ => -1
  | x :: r, i => if ByteArray.toList x.1 = ByteArray.toList name then (i : Int) else idxName name r (i + 1)
theorem idx_step {name : ByteArray} {xs : List (Val Y53)} {i : Nat} {R : Int} {d : Val Y53} (hi : i < xs.length) (hI : idxName name (xs.drop i) i = R) :
    (ByteArray.toList (xs[i]?.getD d).1 = ByteArray.toList name → (i : Int) = R) ∧ (¬ ByteArray.toList (xs[i]?.getD d).1 = ByteArray.toList name → idxName name (xs.drop (i + 1)) (i + 1) = R) := by
  rw [List.drop_eq_getElem_cons hi] at hI
  rw [List.getElem?_eq_getElem hi, Option.getD_some]
  simp only [idxName] at hI
  exact ⟨fun h => by rw [if_pos h] at hI; exact hI, fun h => by rw [if_neg h] at hI; exact hI⟩
theorem idx_end {name : ByteArray} {xs : List (Val Y53)} {i : Nat} {R : Int} (hi : xs.length ≤ i) (hI : idxName name (xs.drop i) i = R) : -1 = R := by
  rw [List.drop_eq_nil_of_le hi] at hI; exact hI
def gFind : G := { ps := [i25, i9], rs := [i3], dp := true, pre := fun x => Bd i25.ty x.1, fn := fun x => (idxName x.2.1 x.1 0, ()) }
theorem s16 : Sound Try.prog 16 gFind := by
  refine sound_of (tr := fun _ => .done) (Γ := []) hT ok_nil hm (fn := Try.f16) Try.func16 (c := Try.f16.body.getD .skip) (by kernel_rfl) (by kernel_rfl) (by kernel_rfl) ?_
  rintro ⟨xs, name, ⟨⟩⟩ hs
  dsimp only [gFind] at hs
  unfold Try.f16
  simp -implicitDefEqProofs [gFind]
  refine ⟨Nat, fun i => ⟨[.one (.sl 53 Y53 xs 0), .one (.str name), .one .undef, .one .undef, .one .undef, .one .undef, .one .undef, .one (.sl 53 Y53 xs 0), .one (.int .i64 xs.length), .one (.int .i64 i)] ++ List.replicate 10 (.one .undef), []⟩, fun i => i ≤ xs.length ∧ idxName name (xs.drop i) i = idxName name xs 0, fun i => xs.length - i, ⟨0, Le.of_gc [true, true, false, false, false, false, false, true, true, true] ?_, by simp⟩, ?_⟩
  · simp -implicitDefEqProofs
  · rintro i ⟨hi, hI⟩
    simp -implicitDefEqProofs
    refine ⟨fun hlt => ?_, fun hge => idx_end hge hI⟩
    obtain ⟨e1, e2⟩ := idx_step (d := dflt Y53) hlt hI
    refine ⟨hlt, e1, fun h => ⟨i + 1, Le.of_gc [true, true, false, false, false, false, false, true, true, true] ?_, ⟨hlt, e2 h⟩, by omega⟩⟩
    simp -implicitDefEqProofs [wrap_succ hlt hs.1]
theorem s14 : Sound Try.prog 14 gFind := by
  refine sound_of (tr := fun _ => .done) (Γ := []) hT ok_nil hm (fn := Try.f14) Try.func14 (c := Try.f14.body.getD .skip) (by kernel_rfl) (by kernel_rfl) (by kernel_rfl) ?_
  rintro ⟨xs, name, ⟨⟩⟩ hs
  dsimp only [gFind] at hs
  unfold Try.f14
  simp -implicitDefEqProofs [gFind]
  refine ⟨Nat, fun i => ⟨[.one (.sl 53 Y53 xs 0), .one (.str name), .one .undef, .one .undef, .one .undef, .one (.int .i64 i)] ++ List.replicate 14 (.one .undef), []⟩, fun i => i ≤ xs.length ∧ idxName name (xs.drop i) i = idxName name xs 0, fun i => xs.length - i, ⟨0, Le.of_gc [true, true, false, false, false, true] ?_, by simp⟩, ?_⟩
  · simp -implicitDefEqProofs
  · rintro i ⟨hi, hI⟩
    simp -implicitDefEqProofs
    refine ⟨fun hlt => ?_, fun hge => idx_end hge hI⟩
    obtain ⟨e1, e2⟩ := idx_step (d := dflt Y53) hlt hI
    refine ⟨hlt, e1, fun h => ⟨i + 1, Le.of_gc [true, true, false, false, false, true] ?_, ⟨hlt, e2 h⟩, by omega⟩⟩
    simp -implicitDefEqProofs [wrap_succ hlt hs.1]
def gLaw3 : G := { ps := [i22, i9], rs := [i4], dp := true, pre := fun x => Sms [i22, i9] x, fn := fun _ => (true, ()) }
theorem s3 : Sound Try.prog 3 gLaw3 := by
  refine sound_of (tr := fun _ => .done) (Γ := [(13, gSz i22), (14, gFind), (15, g15), (16, gFind), (17, gEq i25)]) hT (ok_cons s13 (ok_cons s14 (ok_cons s15 (ok_cons s16 (ok_cons s17 ok_nil))))) hm (fn := Try.f3) Try.func3 (c := Try.f3.body.getD .skip) (by kernel_rfl) (by kernel_rfl) (by kernel_rfl) ?_
  rintro ⟨xs, name, ⟨⟩⟩ ⟨hs, hn, -⟩
  dsimp only at hs hn
  unfold Try.f3
  simp -implicitDefEqProofs [gLaw3, gSz, gFind, g15, gEq, szPre, eqV_refl]
  intro _
  refine ⟨hs, fun h => ?_⟩
  have hb := szV_Bd (.slice 48 Y48) xs 1048576 (by omega) (by omega) h
  exact ⟨hb, hb, hb, hb, hb, hb⟩
end Go.T
