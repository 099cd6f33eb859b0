/- Plain facts on bytes put together: 'x | b << i', x having i bits, is the sum. No conditions. -/
import Derived.Test.YtlmpecahmmgphaaMath
import Derived.Laws.BitsLemmas
namespace Go.Proofs.Ytlmpecahmmgphaa.Math
open Go.RowKit Go.Proofs.YtlmpecahmmgphaaW.PrintWords Go.Proofs.YtlmpecahmmgphaaW.PrintLast Go.Proofs.YtlmpecahmmgphaaW.PrintMore

theorem wrap64_emod (y : Int) : wrap64 y % 18446744073709551616 = y % 18446744073709551616 := by unfold wrap64; omega
/-- 'x | b << i' where x has i bits: they join. -/
theorem or_join (x b : Int) (i : Nat) (hi : i ≤ 63) (h0 : 0 ≤ x) (h1 : x < 2 ^ i) : Go.bits .or .i64 x (wrap64 (b * 2 ^ i)) = wrap64 (x + b * 2 ^ i) := by
  obtain ⟨a, rfl⟩ := Int.eq_ofNat_of_zero_le h0
  have h2 : (2 : Int) ^ i ≤ 2 ^ 63 := pow2_le hi
  have h3 : (2 : Int) ^ 63 = 9223372036854775808 := rfl
  have ha : a < 2 ^ i := by exact_mod_cast h1
  have ha64 : a % 2 ^ 64 = a := Nat.mod_eq_of_lt (by omega)
  obtain ⟨c, hc⟩ := Int.eq_ofNat_of_zero_le (Int.emod_nonneg (b * 2 ^ i) (b := 18446744073709551616) (by omega))
  have hcl : c < 18446744073709551616 := by
    have := Int.emod_lt_of_pos (b * 2 ^ i) (b := 18446744073709551616) (by omega)
    omega
  have hdvd : (2 ^ i : Nat) ∣ c := by
    have hd : (2 : Int) ^ i ∣ (b * 2 ^ i) % 18446744073709551616 := by
      have hq : (18446744073709551616 : Int) = 2 ^ i * 2 ^ (64 - i) := by
        rw [← Int.pow_add, show i + (64 - i) = 64 by omega]; rfl
      rw [hq, Int.mul_comm b, Int.mul_emod_mul_of_pos _ _ (Int.pow_pos (by omega))]
      exact Int.dvd_mul_right _ _
    rw [hc] at hd
    exact_mod_cast hd
  obtain ⟨d, rfl⟩ := hdvd
  have hb : (BitVec.ofInt 64 (wrap64 (b * 2 ^ i))).toNat = 2 ^ i * d := by
    rw [BitVec.toNat_ofInt]
    show (wrap64 (b * 2 ^ i) % ((2 ^ 64 : Nat) : Int)).toNat = _
    have : ((2 ^ 64 : Nat) : Int) = 18446744073709551616 := rfl
    rw [this, wrap64_emod, hc]; rfl
  have e : Go.bits .or .i64 (a : Int) (wrap64 (b * 2 ^ i)) = IntKind.i64.wrap (((a ||| 2 ^ i * d : Nat)) : Int) := by
    show IntKind.i64.wrap ((BitVec.ofInt 64 (a : Int) ||| BitVec.ofInt 64 (wrap64 (b * 2 ^ i))).toNat : Int) = _
    rw [BitVec.toNat_or, hb, BitVec.ofInt_natCast, BitVec.toNat_ofNat, ha64]
  rw [e, Nat.or_comm, ← Nat.two_pow_add_eq_or_of_lt ha d, i64_w]
  rw [show (((2 ^ i * d + a : Nat)) : Int) = (a : Int) + (b * 2 ^ i) % 18446744073709551616 by rw [hc]; push_cast; omega]
  generalize b * 2 ^ i = y
  unfold wrap64
  omega
end Go.Proofs.Ytlmpecahmmgphaa.Math
