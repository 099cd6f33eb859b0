/- The reference of layer 27 computes what layout does. -/
import Derived.Test.YtlmpecahmmgphaaPureLayB
import Derived.Test.YtlmpecahmmgphaaXLayx15
namespace Go.Proofs.Ytlmpecahmmgphaa.PureLp
open Go.RowKit Go.Proofs.Ytlmpecahmmgphaa.Lay Go.Proofs.Ytlmpecahmmgphaa.PureLay Go.Proofs.Ytlmpecahmmgphaa.Math Go.Proofs.YtlmpecahmmgphaaW.PrintWords Go.Proofs.YtlmpecahmmgphaaW.PrintLast Go.Proofs.YtlmpecahmmgphaaW.PrintMore
open Go.Proofs.Ytlmpecahmmgphaa.XLay hiding layout_Plan.f layout_Check.f layout_Fits.f
set_option linter.unusedVariables false
set_option linter.unusedSimpArgs false
theorem rfits_eq (x b : Int) (h : b = 8 ∨ b = 32) : linotyperef01_Fits.f x b = field_Fits.f x b := by
  rw [fits_eq x b h]
  unfold linotyperef01_Fits.f
  rcases h with rfl | rfl
  · rw [if_neg (by decide), if_neg (by decide), hf8, show wrap64 (8 - 1) = 7 from by unfold wrap64; decide, if_pos (by decide)]
    have e : shr .i64 x 7 = x / 128 := rfl
    rw [e]
    by_cases g : x / 128 = 0
    · rw [if_pos g, decide_eq_true (by omega)]
    · rw [if_neg g]
      congr 1
      rw [Bool.eq_iff_iff, beq_iff_eq, decide_eq_true_eq]
      omega
  · rw [if_neg (by decide), if_neg (by decide), hf32, show wrap64 (32 - 1) = 31 from by unfold wrap64; decide, if_pos (by decide)]
    have e : shr .i64 x 31 = x / 2147483648 := rfl
    rw [e]
    by_cases g : x / 2147483648 = 0
    · rw [if_pos g, decide_eq_true (by omega)]
    · rw [if_neg g]
      congr 1
      rw [Bool.eq_iff_iff, beq_iff_eq, decide_eq_true_eq]
      omega
def Pow (A : Int) : Prop := A = 1 ∨ A = 2 ∨ A = 4 ∨ A = 8 ∨ A = 16 ∨ A = 32 ∨ A = 64 ∨ A = 128 ∨ A = 256 ∨ A = 512 ∨ A = 1024 ∨ A = 2048 ∨ A = 4096
instance (A : Int) : Decidable (Pow A) := by unfold Pow; infer_instance
theorem pow_iff (A : Int) : Pow A ↔ 1 ≤ A ∧ A ≤ 4096 ∧ Go.bits .and .i64 A (A - 1) = 0 := by
  constructor
  · intro h
    rcases h with rfl | rfl | rfl | rfl | rfl | rfl | rfl | rfl | rfl | rfl | rfl | rfl | rfl <;> exact ⟨by decide, by decide, by decide +kernel⟩
  · intro ⟨h1, h2, h3⟩
    obtain ⟨j, hj, rfl⟩ := pow_of A h1 h2 h3
    have : j = 0 ∨ j = 1 ∨ j = 2 ∨ j = 3 ∨ j = 4 ∨ j = 5 ∨ j = 6 ∨ j = 7 ∨ j = 8 ∨ j = 9 ∨ j = 10 ∨ j = 11 ∨ j = 12 := by omega
    rcases this with rfl | rfl | rfl | rfl | rfl | rfl | rfl | rfl | rfl | rfl | rfl | rfl | rfl <;> decide
theorem power15 (A : Int) : linotyperef27_power.f 15 A = some (decide (Pow A)) := by
  unfold linotyperef27_power.f
  by_cases h : Pow A
  · rw [decide_eq_true h]
    rcases h with rfl | rfl | rfl | rfl | rfl | rfl | rfl | rfl | rfl | rfl | rfl | rfl | rfl <;> decide +kernel
  · rw [decide_eq_false h]
    unfold Pow at h
    have step : ∀ (k : Nat) (x : Int), x ≤ 4096 → x ≠ A → linotyperef27_power.l0 (k + 1) A x = linotyperef27_power.l0 k A (wrap64 (2 * x)) := fun k x h1 h2 => by
      rw [linotyperef27_power.l0, if_pos h1, if_neg h2]
    rw [step 14 1 (by omega) (by omega), show wrap64 (2 * 1) = 2 from by unfold wrap64; decide, step 13 2 (by omega) (by omega), show wrap64 (2 * 2) = 4 from by unfold wrap64; decide, step 12 4 (by omega) (by omega), show wrap64 (2 * 4) = 8 from by unfold wrap64; decide, step 11 8 (by omega) (by omega), show wrap64 (2 * 8) = 16 from by unfold wrap64; decide, step 10 16 (by omega) (by omega), show wrap64 (2 * 16) = 32 from by unfold wrap64; decide, step 9 32 (by omega) (by omega), show wrap64 (2 * 32) = 64 from by unfold wrap64; decide, step 8 64 (by omega) (by omega), show wrap64 (2 * 64) = 128 from by unfold wrap64; decide, step 7 128 (by omega) (by omega), show wrap64 (2 * 128) = 256 from by unfold wrap64; decide, step 6 256 (by omega) (by omega), show wrap64 (2 * 256) = 512 from by unfold wrap64; decide, step 5 512 (by omega) (by omega), show wrap64 (2 * 512) = 1024 from by unfold wrap64; decide, step 4 1024 (by omega) (by omega), show wrap64 (2 * 1024) = 2048 from by unfold wrap64; decide, step 3 2048 (by omega) (by omega), show wrap64 (2 * 2048) = 4096 from by unfold wrap64; decide, step 2 4096 (by omega) (by omega), show wrap64 (2 * 4096) = 8192 from by unfold wrap64; decide]
    rfl
theorem power_eq (A : Int) (k : Nat) (h : 15 ≤ k) : linotyperef27_power.f k A = some (decide (Pow A)) := at_rounds (g := fun k => linotyperef27_power.f k A) (fun k => linotyperef27_power.mono A k) h (power15 A)
theorem within_eq (x a b : Int) : linotyperef27_within.f x a b = some (decide (a ≤ x ∧ x ≤ b)) := by
  unfold linotyperef27_within.f
  by_cases h : x ≥ a
  · rw [if_pos h]
    congr 1
    rw [decide_eq_decide]
    omega
  · rw [if_neg h]
    congr 1
    rw [decide_eq_false (by omega)]
/-- What j0 tells. -/
theorem j0_bad (k : Nat) (m : Int) (b : Bool) (K Z S N T O A : Int) : linotyperef27_one.j0 (k + 1) m b true K Z S N T O A = some false := by rw [linotyperef27_one.j0, if_pos rfl]
theorem ofP1 (Z S N T O A m : Int) : ofP 1 Z S N T O A m = (if Z < 0 then none else if 1048576 < Z then none else if S = 0 ∧ N = 0 ∧ T = 0 ∧ O = 0 ∧ A = 0 then some (PV.fix Z) else none) := by unfold ofP; rw [if_pos rfl]
theorem ofP2 (Z S N T O A m : Int) : ofP 2 Z S N T O A m = (if S < 1 then none else if N ≤ S then none else if 15 < N then none else if T < 0 then none else if m < T then none else if field_Fits.f O 32 = some true then (if Z = 0 ∧ A = 0 then some (PV.br S N T O) else none) else none) := by unfold ofP; rw [if_neg (by decide), if_pos rfl]
theorem ofP3 (Z S N T O A m : Int) : ofP 3 Z S N T O A m = (if A < 1 then none else if 4096 < A then none else if Go.bits .and .i64 A (A - 1) = 0 then (if Z = 0 ∧ S = 0 ∧ N = 0 ∧ T = 0 ∧ O = 0 then some (PV.al A) else none) else none) := by unfold ofP; rw [if_neg (by decide), if_neg (by decide), if_pos rfl]
theorem ofPn (K Z S N T O A m : Int) (k1 : K ≠ 1) (k2 : K ≠ 2) (k3 : K ≠ 3) : ofP K Z S N T O A m = none := by unfold ofP; rw [if_neg k1, if_neg k2, if_neg k3]
theorem one_eq (k : Nat) (hk : 20 ≤ k) (K Z S N T O A m : Int) (hS : -9223372036854775808 ≤ S ∧ S ≤ 9223372036854775807) : linotyperef27_one.f k K Z S N T O A m = some (ofP K Z S N T O A m).isSome := by
  obtain ⟨k, rfl⟩ : ∃ n, k = n + 1 := ⟨k - 1, by omega⟩
  unfold linotyperef27_one.f
  by_cases k1 : K = 1
  · subst k1
    rw [if_pos rfl, if_neg (by decide), ofP1]
    by_cases q : S = 0 ∧ N = 0 ∧ T = 0 ∧ O = 0 ∧ A = 0
    · obtain ⟨rfl, rfl, rfl, rfl, rfl⟩ := q
      rw [if_pos rfl, if_neg (by decide), if_pos rfl, if_pos rfl, if_pos rfl, linotyperef27_one.j0, if_neg (by decide), if_pos rfl, within_eq]
      simp only [Option.bind_some]
      by_cases h1 : Z < 0
      · rw [if_pos h1, decide_eq_false (by omega)]; rfl
      · rw [if_neg h1]
        by_cases h2 : 1048576 < Z
        · rw [if_pos h2, decide_eq_false (by omega)]; rfl
        · rw [if_neg h2, if_pos (by simp), decide_eq_true (by omega)]; rfl
    · have e : (if Z < 0 then none else if 1048576 < Z then none else if S = 0 ∧ N = 0 ∧ T = 0 ∧ O = 0 ∧ A = 0 then some (PV.fix Z) else none).isSome = false := by
        rw [if_neg q]
        split
        · rfl
        · split <;> rfl
      rw [e]
      by_cases gA : A = 0
      · rw [if_pos gA, if_neg (by decide)]
        by_cases gS : S = 0
        · rw [if_pos gS]
          by_cases gN : N = 0
          · rw [if_pos gN]
            by_cases gT : T = 0
            · have gO : (O != 0) = true := bne_iff_ne.2 fun g => q ⟨gS, gN, gT, g, gA⟩
              rw [if_pos gT, gO]; exact j0_bad _ _ _ _ _ _ _ _ _ _
            · rw [if_neg gT]; exact j0_bad _ _ _ _ _ _ _ _ _ _
          · rw [if_neg gN]; exact j0_bad _ _ _ _ _ _ _ _ _ _
        · rw [if_neg gS]; exact j0_bad _ _ _ _ _ _ _ _ _ _
      · rw [if_neg gA]; exact j0_bad _ _ _ _ _ _ _ _ _ _
  · rw [if_neg k1]
    by_cases k2 : K = 2
    · subst k2
      rw [ofP2]
      by_cases gZ : Z = 0
      · rw [if_pos gZ, if_neg (by decide)]
        by_cases gA : A = 0
        · rw [if_pos gA, if_pos rfl, linotyperef27_one.j0, if_neg (by decide), if_neg (by decide), if_neg (by decide), if_pos (by decide), within_eq]
          simp only [Option.bind_some]
          by_cases h1 : S < 1
          · rw [if_pos h1, decide_eq_false (by omega), if_neg (by decide)]; rfl
          · rw [if_neg h1]
            by_cases h1b : 15 < S
            · rw [decide_eq_false (by omega), if_neg (by decide)]
              by_cases h2 : N ≤ S
              · rw [if_pos h2]; rfl
              · rw [if_neg h2, if_pos (by omega)]; rfl
            · rw [decide_eq_true (by omega), if_pos rfl, within_eq, w64 (S + 1) (by omega) (by omega)]
              simp only [Option.bind_some]
              by_cases h2 : N ≤ S
              · rw [if_pos h2, decide_eq_false (by omega), if_neg (by decide)]; rfl
              · rw [if_neg h2]
                by_cases h3 : 15 < N
                · rw [if_pos h3, decide_eq_false (by omega), if_neg (by decide)]; rfl
                · rw [if_neg h3, decide_eq_true (by omega), if_pos rfl, within_eq]
                  simp only [Option.bind_some]
                  by_cases h4 : T < 0
                  · rw [if_pos h4, decide_eq_false (by omega), if_neg (by decide)]; rfl
                  · rw [if_neg h4]
                    by_cases h5 : m < T
                    · rw [if_pos h5, decide_eq_false (by omega), if_neg (by decide)]; rfl
                    · rw [if_neg h5, decide_eq_true (by omega), if_pos rfl, rfits_eq O 32 (.inr rfl)]
                      rcases fits32 O with hf_ | hf_
                      · rw [hf_]; simp [gZ, gA]
                      · rw [hf_]; simp
        · rw [if_neg gA]
          have e : (if S < 1 then none else if N ≤ S then none else if 15 < N then none else if T < 0 then none else if m < T then none else if field_Fits.f O 32 = some true then (if Z = 0 ∧ A = 0 then some (PV.br S N T O) else none) else none).isSome = false := by
            rw [if_neg (show ¬ (Z = 0 ∧ A = 0) from fun g => gA g.2)]
            repeat (split; · rfl)
            rfl
          rw [e]; exact j0_bad _ _ _ _ _ _ _ _ _ _
      · rw [if_neg gZ]
        have e : (if S < 1 then none else if N ≤ S then none else if 15 < N then none else if T < 0 then none else if m < T then none else if field_Fits.f O 32 = some true then (if Z = 0 ∧ A = 0 then some (PV.br S N T O) else none) else none).isSome = false := by
          rw [if_neg (show ¬ (Z = 0 ∧ A = 0) from fun g => gZ g.1)]
          repeat (split; · rfl)
          rfl
        rw [e]; exact j0_bad _ _ _ _ _ _ _ _ _ _
    · by_cases k3 : K = 3
      · subst k3
        rw [ofP3]
        have e1 : (if A < 1 then none else if 4096 < A then none else if Go.bits .and .i64 A (A - 1) = 0 then (if Z = 0 ∧ S = 0 ∧ N = 0 ∧ T = 0 ∧ O = 0 then some (PV.al A) else none) else none).isSome = (decide (Pow A) && decide (Z = 0 ∧ S = 0 ∧ N = 0 ∧ T = 0 ∧ O = 0)) := by
          have := pow_iff A
          by_cases h1 : A < 1
          · rw [if_pos h1, decide_eq_false (fun g => by have := this.1 g; omega)]; rfl
          · rw [if_neg h1]
            by_cases h2 : 4096 < A
            · rw [if_pos h2, decide_eq_false (fun g => by have := this.1 g; omega)]; rfl
            · rw [if_neg h2]
              by_cases h3 : Go.bits .and .i64 A (A - 1) = 0
              · rw [if_pos h3, decide_eq_true (this.2 ⟨by omega, by omega, h3⟩), Bool.true_and]
                split
                · rename_i g; rw [decide_eq_true g]; rfl
                · rename_i g; rw [decide_eq_false g]; rfl
              · rw [if_neg h3, decide_eq_false (fun g => h3 (this.1 g).2.2)]; rfl
        rw [e1]
        by_cases q : Z = 0 ∧ S = 0 ∧ N = 0 ∧ T = 0 ∧ O = 0
        · obtain ⟨rfl, rfl, rfl, rfl, rfl⟩ := q
          rw [if_pos rfl, if_pos rfl, if_neg (by decide), if_pos rfl, if_pos rfl, if_pos rfl, linotyperef27_one.j0, if_neg (by decide), if_neg (by decide), if_pos rfl, power_eq A k (by omega)]
          simp
        · rw [decide_eq_false q, Bool.and_false]
          by_cases gZ : Z = 0
          · rw [if_pos gZ, if_pos rfl, if_neg (by decide)]
            by_cases gS : S = 0
            · rw [if_pos gS]
              by_cases gN : N = 0
              · rw [if_pos gN]
                by_cases gT : T = 0
                · have gO : (O != 0) = true := bne_iff_ne.2 fun g => q ⟨gZ, gS, gN, gT, g⟩
                  rw [if_pos gT, gO]; exact j0_bad _ _ _ _ _ _ _ _ _ _
                · rw [if_neg gT]; exact j0_bad _ _ _ _ _ _ _ _ _ _
              · rw [if_neg gN]; exact j0_bad _ _ _ _ _ _ _ _ _ _
            · rw [if_neg gS]; exact j0_bad _ _ _ _ _ _ _ _ _ _
          · rw [if_neg gZ]; exact j0_bad _ _ _ _ _ _ _ _ _ _
      · rw [ofPn K Z S N T O A m k1 k2 k3]
        have j0n : ∀ b, linotyperef27_one.j0 (k + 1) m (K == 2) b K Z S N T O A = some false := fun b => by
          cases b with
          | true => exact j0_bad _ _ _ _ _ _ _ _ _ _
          | false => rw [linotyperef27_one.j0, if_neg (by decide), if_neg k1, if_neg k3, if_neg (by simpa using k2)]
        rw [if_neg k3, if_neg k2]
        repeat (first | exact j0n _ | split)
end Go.Proofs.Ytlmpecahmmgphaa.PureLp
