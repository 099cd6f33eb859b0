/- Plain facts: which places may be, said by plain numbers; a canon is its own, and may be. No conditions. -/
import Derived.Test.YtceofdchbolidaaDoorPureMem
namespace Go.Proofs.YtceofdchbolidaaDoor.Pure2
set_option linter.unusedVariables false
set_option linter.unusedSimpArgs false
open Go.RowKit Go.Proofs.YtceofdchbolidaaDoor.XAll Go.Proofs.YtceofdchbolidaaDoor.Hand Go.Proofs.YtceofdchbolidaaDoor.Math Go.Proofs.YtceofdchbolidaaDoorW.PrintWords
theorem none_iff (c n : Int) : noneB c n = true ↔ c = 0 ∧ n = 0 := by unfold noneB; simp
theorem rsp_iff (c n : Int) : rspB c n = true ↔ c = 5 ∧ n = 4 := by unfold rspB; simp
theorem wide_iff (c n : Int) : wideB c n = true ↔ c = 5 ∧ 0 ≤ n ∧ n ≤ 15 := by
  unfold wideB
  simp only [Bool.and_eq_true, beq_iff_eq]
  constructor
  · rintro ⟨rfl, h⟩
    simpa [validB, full] using h
  · rintro ⟨rfl, h⟩
    exact ⟨rfl, by simpa [validB, full] using h⟩
theorem scale_yes (s : Int) : scaleB s true = true ↔ s = 1 ∨ s = 2 ∨ s = 4 ∨ s = 8 := by
  simp [scaleB, oneOf]
  omega
theorem scale_no (s : Int) : scaleB s false = true ↔ s = 0 := by simp [scaleB]
/-- A place may be. -/
def may (b0 b1 i0 i1 s d z : Int) : Prop :=
  (-2147483648 ≤ d ∧ d < 2147483648) ∧ sizeB z = true ∧
  ((i0 = 0 ∧ i1 = 0 ∧ s = 0 ∧ ((b0 = 0 ∧ b1 = 0) ∨ (b0 = 5 ∧ 0 ≤ b1 ∧ b1 ≤ 15) ∨ (b0 = 8 ∧ b1 = 0))) ∨
   (i0 = 5 ∧ 0 ≤ i1 ∧ i1 ≤ 15 ∧ (s = 1 ∨ s = 2 ∨ s = 4 ∨ s = 8) ∧ ((b0 = 0 ∧ b1 = 0) ∨ (b0 = 5 ∧ 0 ≤ b1 ∧ b1 ≤ 15)) ∧ (i1 = 4 → s = 1 ∧ ¬ (b0 = 5 ∧ b1 = 4))))
theorem chk_iff (b0 b1 i0 i1 s d z : Int) : chk b0 b1 i0 i1 s d z = 0 ↔ may b0 b1 i0 i1 s d z := by
  have n1 := none_iff b0 b1
  have n2 := none_iff i0 i1
  have r1 := rsp_iff b0 b1
  have r2 := rsp_iff i0 i1
  have w1 := wide_iff b0 b1
  have w2 := wide_iff i0 i1
  have s1 := scale_yes s
  have s2 := scale_no s
  unfold chk may
  by_cases c1 : d < -2147483648 ∨ 2147483648 ≤ d
  · rw [if_pos c1]
    constructor
    · intro h; cases h
    · rintro ⟨h, _⟩; omega
  rw [if_neg c1]
  cases hz : sizeB z
  · simp
  cases hn : noneB i0 i1
  · rw [hn] at n2
    simp only [Bool.not_false, Bool.true_and]
    cases hs : scaleB s true
    · rw [hs] at s1
      simp at s1 n2
      simp
      omega
    · rw [hs] at s1
      have s1 := s1.1 rfl
      cases hb : noneB b0 b1 <;> cases hw : wideB b0 b1 <;> cases hi : wideB i0 i1 <;> cases hr : rspB i0 i1 <;> cases hq : rspB b0 b1 <;>
        (rw [hb] at n1; rw [hw] at w1; rw [hi] at w2; rw [hr] at r2; rw [hq] at r1; simp at n1 n2 w1 w2 r1 r2; simp; omega)
  · rw [hn] at n2
    have n2 := n2.1 rfl
    simp only [Bool.not_true, Bool.true_and]
    have hr : rspB i0 i1 = false := by
      cases h : rspB i0 i1
      · rfl
      · have := r2.1 h; omega
    cases hs : scaleB s false
    · rw [hs] at s2
      simp at s2
      simp
      omega
    · rw [hs] at s2
      have s2 := s2.1 rfl
      cases hb : noneB b0 b1 <;> cases hw : wideB b0 b1 <;>
        (rw [hb] at n1; rw [hw] at w1; rw [hr]; simp at n1 w1; simp; omega)
end Go.Proofs.YtceofdchbolidaaDoor.Pure2
