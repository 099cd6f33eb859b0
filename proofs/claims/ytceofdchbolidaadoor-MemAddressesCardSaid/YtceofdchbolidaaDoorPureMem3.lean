/- Plain facts: a place's canon may be, is its own, and is where the place is. Conditions: the numbers have 64 bits. -/
import Derived.Test.YtceofdchbolidaaDoorPureMem2
import Derived.Test.YtceofdchbolidaaDoorXAllx11
import Derived.Test.YtceofdchbolidaaDoorXAllx8
namespace Go.Proofs.YtceofdchbolidaaDoor.Pure2
set_option linter.unusedVariables false
set_option linter.unusedSimpArgs false
open Go.RowKit Go.Proofs.YtceofdchbolidaaDoor.XAll Go.Proofs.YtceofdchbolidaaDoor.Hand Go.Proofs.YtceofdchbolidaaDoor.Math Go.Proofs.YtceofdchbolidaaDoorW.PrintWords
instance (b0 b1 i0 i1 s d z : Int) : Decidable (may b0 b1 i0 i1 s d z) := by unfold may; infer_instance
/-- The canon of a place that may be: one of three. -/
theorem canon_cases {b0 b1 i0 i1 s d z : Int} (h : may b0 b1 i0 i1 s d z) :
    (s = 1 ∧ b0 = 0 ∧ b1 = 0 ∧ i0 = 5 ∧ 0 ≤ i1 ∧ i1 ≤ 15 ∧ canon b0 b1 i0 i1 s d z = (i0, i1, 0, 0, 0, d, z, 0)) ∨
    (s = 1 ∧ i0 = 5 ∧ i1 = 4 ∧ b0 = 5 ∧ 0 ≤ b1 ∧ b1 ≤ 15 ∧ b1 ≠ 4 ∧ canon b0 b1 i0 i1 s d z = (i0, i1, b0, b1, s, d, z, 0)) ∨
    (¬ (s = 1 ∧ b0 = 0 ∧ b1 = 0) ∧ ¬ (i0 = 5 ∧ i1 = 4) ∧ canon b0 b1 i0 i1 s d z = (b0, b1, i0, i1, s, d, z, 0)) := by
  have hc := (chk_iff b0 b1 i0 i1 s d z).2 h
  have n1 := none_iff b0 b1
  have r1 := rsp_iff i0 i1
  unfold canon
  rw [if_pos hc]
  unfold may at h
  by_cases a : s = 1 ∧ noneB b0 b1 = true
  · rw [if_pos a]
    have := n1.1 a.2
    exact .inl ⟨a.1, this.1, this.2, by omega, by omega, by omega, rfl⟩
  · rw [if_neg a]
    by_cases b : rspB i0 i1 = true
    · rw [if_pos b]
      have hr := r1.1 b
      have : ¬ (s = 1 ∧ (b0 = 0 ∧ b1 = 0)) := fun hx => a ⟨hx.1, n1.2 hx.2⟩
      exact .inr (.inl ⟨by omega, hr.1, hr.2, by omega, by omega, by omega, by omega, rfl⟩)
    · rw [if_neg b]
      exact .inr (.inr ⟨fun hx => a ⟨hx.1, n1.2 hx.2⟩, fun hx => b (r1.2 hx), rfl⟩)
theorem canon_not {b0 b1 i0 i1 s d z : Int} (h : ¬ may b0 b1 i0 i1 s d z) : canon b0 b1 i0 i1 s d z = (0, 0, 0, 0, 0, 0, 0, chk b0 b1 i0 i1 s d z) ∧ chk b0 b1 i0 i1 s d z ≠ 0 := by
  have hc : chk b0 b1 i0 i1 s d z ≠ 0 := fun e => h ((chk_iff b0 b1 i0 i1 s d z).1 e)
  unfold canon
  rw [if_neg hc]
  exact ⟨rfl, hc⟩
theorem canon_same {b0 b1 i0 i1 s d z : Int} (h : may b0 b1 i0 i1 s d z) (h1 : ¬ (s = 1 ∧ b0 = 0 ∧ b1 = 0)) (h2 : ¬ (i0 = 5 ∧ i1 = 4)) : canon b0 b1 i0 i1 s d z = (b0, b1, i0, i1, s, d, z, 0) := by
  rcases canon_cases h with h3 | h3 | h3
  · exact absurd ⟨h3.1, h3.2.1, h3.2.2.1⟩ h1
  · exact absurd ⟨h3.2.1, h3.2.2.1⟩ h2
  · exact h3.2.2
/-- What is told of a place's canon: it may be, is its own canon, has the size and the displacement. -/
theorem canon_good {b0 b1 i0 i1 s d z : Int} (h : may b0 b1 i0 i1 s d z) : ∃ c0 c1 j0 j1 t : Int, canon b0 b1 i0 i1 s d z = (c0, c1, j0, j1, t, d, z, 0) ∧ may c0 c1 j0 j1 t d z ∧ canon c0 c1 j0 j1 t d z = (c0, c1, j0, j1, t, d, z, 0) := by
  have h' := h
  unfold may at h'
  rcases canon_cases h with ⟨rfl, rfl, rfl, rfl, g1, g2, e⟩ | ⟨rfl, rfl, rfl, rfl, g1, g2, g3, e⟩ | ⟨g1, g2, e⟩
  · have hm : may 5 i1 0 0 0 d z := by unfold may; exact ⟨h'.1, h'.2.1, by omega⟩
    exact ⟨_, _, _, _, _, e, hm, canon_same hm (by omega) (by omega)⟩
  · have hm : may 5 4 5 b1 1 d z := by unfold may; exact ⟨h'.1, h'.2.1, by omega⟩
    exact ⟨_, _, _, _, _, e, hm, canon_same hm (by omega) (by omega)⟩
  · exact ⟨_, _, _, _, _, e, h, canon_same h g1 g2⟩

/-! Where a place is. -/
theorem wrap_add (a b : Int) : wrap64 (wrap64 a + b) = wrap64 (a + b) := by unfold wrap64; omega
theorem sum3 (k : Nat) (x y z : Int) : mem_sum.f (k + 4) [x, y, z] = some (wrap64 (x + y + z)) := by
  have e1 : wrap64 (0 + 1) = 1 := by unfold wrap64; omega
  have e2 : wrap64 (1 + 1) = 2 := by unfold wrap64; omega
  have e3 : wrap64 (2 + 1) = 3 := by unfold wrap64; omega
  unfold mem_sum.f
  simp only [mem_sum.l0, List.length_cons, List.length_nil, e1, e2, e3]
  simp only [Nat.zero_add, Nat.reduceAdd]
  simp [rd, wrap_add]
def base (b0 b1 : Int) (l : List Int) (nx : Int) : Int := if b0 = 8 then nx else if noneB b0 b1 = true then 0 else rd l b1
def index (i0 i1 : Int) (l : List Int) : Int := if noneB i0 i1 = true then 0 else rd l i1
def adr (b0 b1 i0 i1 s d z : Int) (l : List Int) (nx : Int) : Int × Int :=
  if chk b0 b1 i0 i1 s d z = 0 then (if l.length = 16 then (wrap64 (base b0 b1 l nx + wrap64 (s * index i0 i1 l) + d), 0) else (0, 2)) else (0, chk b0 b1 i0 i1 s d z)
theorem address_eq (k : Nat) (b0 b1 i0 i1 s d z : Int) (l : List Int) (nx : Int) (h1 : I64 i1) (hb : I64 b1) (hs : I64 s) (hz : I64 z) : mem_Address.f (k + 5) b0 b1 i0 i1 s d z l nx = some (adr b0 b1 i0 i1 s d z l nx) := by
  unfold mem_Address.f adr
  rw [check_eq (k + 1) b0 b1 i0 i1 s d z h1 hb hs hz]
  simp only [Option.bind_some]
  by_cases hc : chk b0 b1 i0 i1 s d z = 0
  · rw [if_pos hc, if_pos hc]
    have hm := (chk_iff b0 b1 i0 i1 s d z).1 hc
    unfold may at hm
    by_cases hl : l.length = 16
    · rw [if_pos (show (l.length : Int) = 16 by omega), if_pos hl]
      have hj : ∀ x, mem_Address.j0 (k + 5) l x 0 b0 b1 i0 i1 s d z = some (wrap64 (x + wrap64 (s * index i0 i1 l) + d), 0) := by
        intro x
        show mem_Address.j0 ((k + 4) + 1) l x 0 b0 b1 i0 i1 s d z = _
        simp only [mem_Address.j0, none_eq, Option.bind_some, sum3]
        unfold index
        by_cases hn : noneB i0 i1 = true
        · rw [if_pos hn, if_pos hn]
        · rw [if_neg hn, if_neg hn]
          have := none_iff i0 i1
          have hh : ¬ (i0 = 0 ∧ i1 = 0) := fun e => hn (this.2 e)
          rw [if_pos (by omega), if_pos (by omega)]
      simp only [hj]
      unfold base
      by_cases h8 : b0 = 8
      · rw [if_pos h8, if_pos h8]
      · rw [if_neg h8, if_neg h8, none_eq]
        simp only [Option.bind_some]
        by_cases hn : noneB b0 b1 = true
        · rw [if_pos hn, if_pos hn]
        · rw [if_neg hn, if_neg hn]
          have := none_iff b0 b1
          have hh : ¬ (b0 = 0 ∧ b1 = 0) := fun e => hn (this.2 e)
          rw [if_pos (by omega), if_pos (by omega)]
    · rw [if_neg (show ¬ (l.length : Int) = 16 by omega), if_neg hl]
  · rw [if_neg hc, if_neg hc]
end Go.Proofs.YtceofdchbolidaaDoor.Pure2
