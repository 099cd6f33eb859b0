/- linotypekit.OverBytes over whatever field.Put answered: it writes over nothing else. No conditions. -/
import Derived.Test.YtlmpecahmmgphaaHand3
import Derived.Test.YtlmpecahmmgphaaHand5
namespace Go.Proofs.Ytlmpecahmmgphaa.Hand
open Go.RowKit Go.Proofs.YtlmpecahmmgphaaW.PrintWords
set_option linter.unusedVariables false
set_option maxHeartbeats 4000000 in
set_option maxRecDepth 100000 in
theorem OverBytes_nil (W : World) : Calls Try.prog 20 #[.slice none 0 0] W fun e w' => e = .returned (.tuple #[]) ∧ w' = W := by
  have hu := Try.underlying22
  go_enter Try.func20, Try.ntmps20
  go_wp2
  go_loopg [3] 0 (fun q s3 wx => s3 = .int .i64 0 ∧ wx = W)
  case atStart => exact ⟨rfl, rfl⟩
  case round =>
    obtain ⟨rfl, rfl⟩ := hrel
    go_wp2
    go_end0
    exact ⟨rfl, rfl⟩
theorem put_form {W : World} {base : Nat} {v : Value} {xs : List Int} (HO : (Kd.int .u8).R 5 W base (fun _ => True) v xs) : ∃ A c, v = .slice A xs.length c ∧ xs.length ≤ c ∧ Kd.C (Kd.int .u8) W A xs.length xs := by
  have own := Kd.own_of_R (enc := Value.int .u8) (h1 := fun _ => rfl) HO
  obtain ⟨A, c, rfl, hr⟩ := own_reads (k := .u8) (by simpa [encs, nums] using own)
  refine ⟨A, c, rfl, ?_, Kd.C_of_reads (d := (0 : Int)) (h1 := fun _ => rfl) hr⟩
  rcases own.2 with ⟨e, h0⟩ | ⟨g, cap, cur, e, _, _, hnc, _⟩
  · simp only [Value.slice.injEq] at e; omega
  · simp only [Value.slice.injEq] at e; omega
theorem OverBytes_put {W : World} {base : Nat} {v : Value} {xs : List Int} (HO : (Kd.int .u8).R 5 W base (fun _ => True) v xs) (hT : Typed W v) :
    Calls Try.prog 20 #[v] W fun e w' => e = .returned (.tuple #[]) ∧ Below base W w' := by
  have own := Kd.own_of_R (enc := Value.int .u8) (h1 := fun _ => rfl) HO
  rcases own.2 with ⟨rfl, h0⟩ | ⟨g, cap, cur, rfl, hb, hg, hnc, hm, _⟩
  · exact (OverBytes_nil W).mono fun e w' ⟨h1, h2⟩ => ⟨h1, by rw [h2]; exact Below.refl _ _⟩
  · obtain ⟨cu, hcu, hl⟩ := hT _ _ _ rfl
    exact OverBytes_any g _ cap cu W hcu hl hnc (by simp only [maxLen] at hm; omega) base hb
end Go.Proofs.Ytlmpecahmmgphaa.Hand
