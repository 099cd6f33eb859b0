/- Plain facts: which number another one is in so many bits: the program's function and the reference's answer the same closed word. Condition: the number has 64 bits. -/
import Derived.Test.YtceofdchbolidaaDoorXAllx22
import Derived.Test.YtceofdchbolidaaDoorXAllx23
import Derived.Test.YtceofdchbolidaaDoorMath
namespace Go.Proofs.YtceofdchbolidaaDoor.Pure2
set_option linter.unusedVariables false
set_option linter.unusedSimpArgs false
open Go.RowKit Go.Proofs.YtceofdchbolidaaDoor.XAll Go.Proofs.YtceofdchbolidaaDoor.Math Go.Proofs.YtceofdchbolidaaDoorW.PrintWords Go.Proofs.YtceofdchbolidaaDoorW.PrintLast Go.Proofs.YtceofdchbolidaaDoorW.PrintMore
abbrev I64 (n : Int) : Prop := -9223372036854775808 ≤ n ∧ n ≤ 9223372036854775807
/-- One of the four widths. -/
def wid (b : Int) : Prop := b = 8 ∨ b = 16 ∨ b = 32 ∨ b = 64
instance (b : Int) : Decidable (wid b) := by unfold wid; infer_instance
def immF (n b : Int) (s : Bool) : Int × Int :=
  if wid b then (if sg n b ≠ n ∧ lo n b ≠ n then (0, 5) else if s = true then (sg n b, 0) else (lo n b, 0)) else (0, 2)
theorem wid_ok {b : Int} (h : wid b) : ok b := by rcases h with rfl | rfl | rfl | rfl <;> decide
theorem op_in (k : Nat) (n b : Int) (s : Bool) (hn : I64 n) (h : wid b) : operand_Imm.j0 (k + 2) n b s false = some (immF n b s) := by
  obtain ⟨h1, h2⟩ := wid_ok h
  show operand_Imm.j0 ((k + 1) + 1) n b s false = _
  simp only [operand_Imm.j0]
  rw [if_neg (by simp), wrap64_64 b h1 h2, if_pos (by omega), sign_eq n b h1 h2, low_eq n b hn h1 h2]
  unfold immF
  rw [if_pos h]
  by_cases e : sg n b = n
  · rw [if_pos e, if_neg (fun h => h.1 e)]
    simp [operand_Imm.j1]
    split <;> rfl
  · rw [if_neg e]
    by_cases e2 : lo n b = n
    · rw [if_neg (fun h => h.2 e2), show (lo n b != n) = false by simp [e2]]
      simp [operand_Imm.j1]
      split <;> rfl
    · rw [if_pos ⟨e, e2⟩, show (lo n b != n) = true by simp [e2]]
      simp [operand_Imm.j1]
theorem op_imm (k : Nat) (n b : Int) (s : Bool) (hn : I64 n) : operand_Imm.f (k + 2) n b s = some (immF n b s) := by
  unfold operand_Imm.f
  by_cases h8 : b = 8
  · rw [if_pos h8]; exact op_in k n b s hn (.inl h8)
  · rw [if_neg h8]
    by_cases h16 : b = 16
    · rw [if_pos h16]; exact op_in k n b s hn (.inr (.inl h16))
    · rw [if_neg h16]
      by_cases h32 : b = 32
      · rw [if_pos h32]; exact op_in k n b s hn (.inr (.inr (.inl h32)))
      · rw [if_neg h32]
        by_cases h64 : b = 64
        · rw [show (b != 64) = false by simp [h64]]; exact op_in k n b s hn (.inr (.inr (.inr h64)))
        · rw [show (b != 64) = true by simp [h64]]
          have : ¬ wid b := by unfold wid; omega
          unfold immF
          rw [if_neg this]
          simp [operand_Imm.j0]
theorem hf8 : hf 8 = 128 := rfl
theorem hf16 : hf 16 = 32768 := rfl
theorem hf32 : hf 32 = 2147483648 := rfl
theorem lo64 (n : Int) : lo n 64 = n := by unfold lo; rw [if_pos rfl]
theorem ref_small (k : Nat) (n b : Int) (s : Bool) (hn : I64 n) (h : b = 8 ∨ b = 16 ∨ b = 32) : linotyperef06_Imm.j0 (k + 3) n b s false = some (immF n b s) := by
  have key : ∀ b H : Int, wid b → b ≠ 64 → 0 ≤ b → hf b = H → 0 < H → 2 * H ≤ 4294967296 → shl .i64 1 b = 2 * H → linotyperef06_Imm.j0 (k + 3) n b s false = some (immF n b s) := by
    intro b H hw hb h0 hH hp hl hs
    show linotyperef06_Imm.j0 ((k + 2) + 1) n b s false = _
    simp only [linotyperef06_Imm.j0]
    rw [if_neg (by simp), if_neg hb, if_pos h0, hs]
    have e1 : wrap64 (Int.tdiv (wrap64 (-(2 * H))) 2) = -H := by
      have : wrap64 (-(2 * H)) = -(2 * H) := by unfold wrap64; omega
      rw [this, show -(2 * H) = 2 * (-H) by omega, Int.mul_tdiv_cancel_left _ (by omega)]
      unfold wrap64; omega
    have e2 : wrap64 (Int.tdiv (2 * H) 2) = H := by
      rw [Int.mul_tdiv_cancel_left _ (by omega)]
      unfold wrap64; omega
    have g1 := sg_iff n b
    have g2 := lo_iff n b hb
    have g3 := sg_spec n b
    have g4 := lo_spec n b hb
    rw [hH] at g1 g2 g3 g4
    rw [e1]
    unfold immF
    rw [if_pos hw]
    by_cases c1 : n < -H
    · rw [if_pos c1, if_pos ⟨fun e => by have := g1.1 e; omega, fun e => by have := g2.1 e; omega⟩]
      simp [linotyperef06_Imm.j1]
    · rw [if_neg c1]
      by_cases c2 : n ≥ 2 * H
      · rw [decide_eq_true c2, if_pos ⟨fun e => by have := g1.1 e; omega, fun e => by have := g2.1 e; omega⟩]
        simp [linotyperef06_Imm.j1]
      · rw [decide_eq_false c2]
        have hor : ¬ (sg n b ≠ n ∧ lo n b ≠ n) := by
          intro ⟨a1, a2⟩
          by_cases c3 : n < H
          · exact a1 (g1.2 ⟨by omega, c3⟩)
          · exact a2 (g2.2 ⟨by omega, by omega⟩)
        rw [if_neg hor]
        show linotyperef06_Imm.j1 ((k + 1) + 1) n s (2 * H) false = _
        simp only [linotyperef06_Imm.j1]
        rw [if_neg (by simp), e2]
        have hsl := lo_sg n b hb
        rw [hH] at hsl
        cases s
        · rw [if_neg (by simp), if_neg (by simp)]
          simp only [linotyperef06_Imm.j2]
          rw [if_neg (by simp), if_neg (by simp)]
          by_cases c4 : n < 0
          · rw [if_pos c4]
            have a1 := g1.2 ⟨by omega, by omega⟩
            have : lo n b = n + 2 * H := by rcases hsl with e | e <;> omega
            rw [this]
            congr 2
            unfold wrap64; omega
          · rw [if_neg c4]
            rw [g2.2 ⟨by omega, by omega⟩]
        · rw [if_pos rfl, if_pos rfl]
          by_cases c4 : n ≥ H
          · rw [decide_eq_true c4]
            simp only [linotyperef06_Imm.j2]
            rw [if_pos trivial]
            have a2 := g2.2 ⟨by omega, by omega⟩
            have : sg n b = n - 2 * H := by rcases hsl with e | e <;> omega
            rw [this]
            congr 2
            unfold wrap64; omega
          · rw [decide_eq_false c4]
            simp only [linotyperef06_Imm.j2]
            rw [if_neg (by simp), if_pos trivial]
            rw [g1.2 ⟨by omega, by omega⟩]
  rcases h with rfl | rfl | rfl
  · exact key 8 128 (.inl rfl) (by decide) (by decide) rfl (by decide) (by decide) (by decide +kernel)
  · exact key 16 32768 (.inr (.inl rfl)) (by decide) (by decide) rfl (by decide) (by decide) (by decide +kernel)
  · exact key 32 2147483648 (.inr (.inr (.inl rfl))) (by decide) (by decide) rfl (by decide) (by decide) (by decide +kernel)
theorem ref_imm (k : Nat) (n b : Int) (s : Bool) (hn : I64 n) : linotyperef06_Imm.f (k + 3) n b s = some (immF n b s) := by
  unfold linotyperef06_Imm.f
  by_cases h8 : b = 8
  · rw [if_pos h8]; exact ref_small k n b s hn (.inl h8)
  · rw [if_neg h8]
    by_cases h16 : b = 16
    · rw [if_pos h16]; exact ref_small k n b s hn (.inr (.inl h16))
    · rw [if_neg h16]
      by_cases h32 : b = 32
      · rw [if_pos h32]; exact ref_small k n b s hn (.inr (.inr h32))
      · rw [if_neg h32]
        by_cases h64 : b = 64
        · rw [show (b != 64) = false by simp [h64]]
          subst h64
          simp only [linotyperef06_Imm.j0]
          rw [if_neg (by simp), if_pos trivial]
          have hs : sg n 64 = n := (sg_iff n 64).2 (by rw [hf64]; omega)
          unfold immF
          rw [if_pos (.inr (.inr (.inr rfl))), hs, lo64]
          simp
        · rw [show (b != 64) = true by simp [h64]]
          have : ¬ wid b := by unfold wid; omega
          unfold immF
          rw [if_neg this]
          simp [linotyperef06_Imm.j0]
end Go.Proofs.YtceofdchbolidaaDoor.Pure2
