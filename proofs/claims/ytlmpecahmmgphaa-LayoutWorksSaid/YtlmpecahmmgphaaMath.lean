/- Plain facts on the lowest bits of a number, by its sign and without: what the shifts of the code come to. No conditions. -/
import Derived.Test.YtlmpecahmmgphaaWMore
import Derived.DataShut
namespace Go.Proofs.Ytlmpecahmmgphaa.Math
open Go.RowKit Go.Proofs.YtlmpecahmmgphaaW.PrintWords Go.Proofs.YtlmpecahmmgphaaW.PrintLast Go.Proofs.YtlmpecahmmgphaaW.PrintMore

/-- A number of 64 bits lies between the ends. -/
theorem wf64 {n : Int} (h : (Lit.int .i64 n).wf = true) : -9223372036854775808 ≤ n ∧ n ≤ 9223372036854775807 := by
  have := (Lit.wf_int_iff _ _).1 h
  simpa [IntKind.min, IntKind.max, IntKind.signed, IntKind.bits] using this
theorem wf8 {n : Int} (h : (Lit.int .u8 n).wf = true) : 0 ≤ n ∧ n ≤ 255 := by
  have := (Lit.wf_int_iff _ _).1 h
  simpa [IntKind.min, IntKind.max, IntKind.signed, IntKind.bits] using this
/-- Are these bits? -/
abbrev ok (b : Int) : Prop := 1 ≤ b ∧ b ≤ 64

/-- Half of 2^b, for b from 1 on. -/
def hf (b : Int) : Int := 2 ^ (b.toNat - 1)
/-- The lowest bits by their sign. -/
def sg (n b : Int) : Int := (n + hf b) % (2 * hf b) - hf b
/-- The lowest bits without a sign. -/
def lo (n b : Int) : Int := if b = 64 then n else n % (2 * hf b)

theorem pow2_le {a b : Nat} (h : a ≤ b) : (2 : Int) ^ a ≤ 2 ^ b := by
  have := Nat.pow_le_pow_right (n := 2) (by omega) h
  exact_mod_cast this
theorem hf_pos (b : Int) : 0 < hf b := Int.pow_pos (by omega)
theorem hf_le (b : Int) (h : 1 ≤ b) (h2 : b ≤ 64) : hf b ≤ 9223372036854775808 := by
  unfold hf
  have : (2 : Int) ^ (b.toNat - 1) ≤ 2 ^ 63 := pow2_le (by omega)
  simpa using this
theorem hf_mono (a b : Int) (h : a ≤ b) : hf a ≤ hf b := by
  unfold hf
  exact pow2_le (by omega)
theorem hf_step (b : Int) (h : 1 ≤ b) : hf (b + 1) = 2 * hf b := by
  unfold hf
  have : (b + 1).toNat - 1 = (b.toNat - 1) + 1 := by omega
  rw [this, Int.pow_succ]; omega
theorem hf_double (a b : Int) (h1 : 1 ≤ a) (h : a < b) : 2 * hf a ≤ hf b := by
  rw [← hf_step a h1]; exact hf_mono _ _ (by omega)
theorem hf64 : hf 64 = 9223372036854775808 := rfl
theorem hf_lt64 (b : Int) (h1 : 1 ≤ b) (h : b < 64) : 2 * hf b ≤ 9223372036854775808 := hf_double b 64 h1 h
theorem two_hf (b : Int) (h : 1 ≤ b) : 2 * hf b = 2 ^ b.toNat := by
  unfold hf
  have : b.toNat = (b.toNat - 1) + 1 := by omega
  rw [this, Int.pow_succ]; simp; omega

theorem hf_shift (b : Int) (h1 : 1 ≤ b) (h2 : b ≤ 64) : hf b * 2 ^ (64 - b).toNat = 9223372036854775808 := by
  unfold hf
  rw [← Int.pow_add]
  have : (b.toNat - 1) + (64 - b).toNat = 63 := by omega
  rw [this]; rfl

theorem wrap64_64 (b : Int) (h1 : 1 ≤ b) (h2 : b ≤ 64) : wrap64 (64 - b) = 64 - b := by unfold wrap64; omega

theorem sign_eq (n b : Int) (h1 : 1 ≤ b) (h2 : b ≤ 64) : shr .i64 (shl .i64 n (64 - b)) (64 - b) = sg n b := by
  have hP : (0 : Int) < 2 ^ (64 - b).toNat := Int.pow_pos (by omega)
  have hs := hf_shift b h1 h2
  unfold shr shl
  have e : min (64 - b).toNat IntKind.i64.bits = (64 - b).toNat := Nat.min_eq_left (by show (64 - b).toNat ≤ 64; omega)
  rw [e, i64_w]
  unfold wrap64 sg
  generalize (2 : Int) ^ (64 - b).toNat = P at *
  generalize hf b = H at *
  have e1 : n * P + 9223372036854775808 = P * (n + H) := by rw [← hs, Int.mul_add, Int.mul_comm n P, Int.mul_comm H P]
  have e2 : (18446744073709551616 : Int) = P * (2 * H) := by
    have : P * (2 * H) = 2 * (H * P) := by rw [Int.mul_left_comm, Int.mul_comm P H]
    rw [this, hs]; rfl
  rw [e1, e2, Int.mul_emod_mul_of_pos _ _ hP]
  have e3 : P * ((n + H) % (2 * H)) - 9223372036854775808 = P * ((n + H) % (2 * H) - H) := by rw [Int.mul_sub, ← hs, Int.mul_comm H P]
  rw [e3, Int.mul_ediv_cancel_left _ (by omega)]

theorem low_eq (n b : Int) (hn : -9223372036854775808 ≤ n ∧ n ≤ 9223372036854775807) (h1 : 1 ≤ b) (h2 : b ≤ 64) :
    wrap64 (shr .u64 (shl .u64 (IntKind.u64.wrap n) (64 - b)) (64 - b)) = lo n b := by
  have hP : (0 : Int) < 2 ^ (64 - b).toNat := Int.pow_pos (by omega)
  have hs := hf_shift b h1 h2
  have hpos := hf_pos b
  have hle := hf_le b h1 h2
  have h64 := hf_lt64 b h1
  unfold shr shl
  have e : min (64 - b).toNat IntKind.u64.bits = (64 - b).toNat := Nat.min_eq_left (by show (64 - b).toNat ≤ 64; omega)
  rw [e, IntKind.wrap_u64, IntKind.wrap_u64]
  unfold lo
  by_cases hb : b = 64
  · subst hb
    simp only [if_true]
    unfold wrap64
    simp
    omega
  · rw [if_neg hb]
    have h64 := h64 (by omega)
    generalize (2 : Int) ^ (64 - b).toNat = P at *
    generalize hf b = H at *
    have e2 : (18446744073709551616 : Int) = P * (2 * H) := by
      have : P * (2 * H) = 2 * (H * P) := by rw [Int.mul_left_comm, Int.mul_comm P H]
      rw [this, hs]; rfl
    have e0 : n % 18446744073709551616 * P % 18446744073709551616 = P * (n % (2 * H)) := by
      rw [Int.mul_emod, Int.emod_emod_of_dvd n (Int.dvd_refl _), ← Int.mul_emod, Int.mul_comm n P, e2, Int.mul_emod_mul_of_pos _ _ hP]
    rw [e0, Int.mul_ediv_cancel_left _ (by omega)]
    have := Int.emod_nonneg n (b := 2 * H) (by omega)
    have := Int.emod_lt_of_pos n (b := 2 * H) (by omega)
    unfold wrap64
    omega

/-- n and its lowest bits differ by so many times 2^b. -/
theorem sg_spec (n b : Int) : -hf b ≤ sg n b ∧ sg n b < hf b ∧ ∃ k, n = sg n b + 2 * hf b * k := by
  have hpos := hf_pos b
  unfold sg
  have h1 := Int.emod_nonneg (n + hf b) (b := 2 * hf b) (by omega)
  have h2 := Int.emod_lt_of_pos (n + hf b) (b := 2 * hf b) (by omega)
  have h3 := Int.emod_add_mul_ediv (n + hf b) (2 * hf b)
  refine ⟨by omega, by omega, (n + hf b) / (2 * hf b), ?_⟩
  omega
theorem lo_spec (n b : Int) (h : b ≠ 64) : 0 ≤ lo n b ∧ lo n b < 2 * hf b ∧ ∃ k, n = lo n b + 2 * hf b * k := by
  have hpos := hf_pos b
  unfold lo
  rw [if_neg h]
  have h1 := Int.emod_nonneg n (b := 2 * hf b) (by omega)
  have h2 := Int.emod_lt_of_pos n (b := 2 * hf b) (by omega)
  have h3 := Int.emod_add_mul_ediv n (2 * hf b)
  exact ⟨by omega, by omega, n / (2 * hf b), by omega⟩
/-- What lies in reach and differs by a multiple is it. -/
theorem uniq (Q x y k : Int) (h : x = y + Q * k) (h1 : -Q < x - y) (h2 : x - y < Q) : x = y := by
  have hQ : 0 < Q := by omega
  have e : x - y = Q * k := by omega
  rcases Int.lt_trichotomy k 0 with hk | hk | hk
  · have : Q * k ≤ Q * (-1) := Int.mul_le_mul_of_nonneg_left (by omega) (by omega)
    omega
  · subst hk; omega
  · have : Q * 1 ≤ Q * k := Int.mul_le_mul_of_nonneg_left (by omega) (by omega)
    omega
theorem sg_iff (n b : Int) : sg n b = n ↔ -hf b ≤ n ∧ n < hf b := by
  obtain ⟨h1, h2, k, hk⟩ := sg_spec n b
  constructor
  · intro h; omega
  · intro ⟨h3, h4⟩; exact (uniq _ n (sg n b) k hk (by omega) (by omega)).symm
theorem lo_iff (n b : Int) (h : b ≠ 64) : lo n b = n ↔ 0 ≤ n ∧ n < 2 * hf b := by
  obtain ⟨h1, h2, k, hk⟩ := lo_spec n b h
  constructor
  · intro h; omega
  · intro ⟨h3, h4⟩; exact (uniq _ n (lo n b) k hk (by omega) (by omega)).symm
theorem sg_sg (n b : Int) : sg (sg n b) b = sg n b := by
  obtain ⟨h1, h2, _⟩ := sg_spec n b
  exact (sg_iff _ b).2 ⟨h1, h2⟩
theorem lo_lo (n b : Int) : lo (lo n b) b = lo n b := by
  by_cases h : b = 64
  · unfold lo; rw [if_pos h, if_pos h]
  · obtain ⟨h1, h2, _⟩ := lo_spec n b h
    exact (lo_iff _ b h).2 ⟨h1, h2⟩
theorem lo_sg (n b : Int) (h : b ≠ 64) : lo n b = sg n b ∨ lo n b = sg n b + 2 * hf b := by
  obtain ⟨h1, h2, k, hk⟩ := sg_spec n b
  obtain ⟨h3, h4, j, hj⟩ := lo_spec n b h
  by_cases hs : 0 ≤ sg n b
  · left
    exact uniq (2 * hf b) _ _ (k - j) (by rw [Int.mul_sub]; omega) (by omega) (by omega)
  · right
    exact uniq (2 * hf b) _ _ (k - j - 1) (by rw [Int.mul_sub, Int.mul_sub]; omega) (by omega) (by omega)
end Go.Proofs.Ytlmpecahmmgphaa.Math
