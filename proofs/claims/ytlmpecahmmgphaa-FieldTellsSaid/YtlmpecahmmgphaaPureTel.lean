/- The plain law of FieldTells: the program's functions and the document's tell the same of any numbers and any bytes. No conditions. -/
import Derived.Test.YtlmpecahmmgphaaPureTelA
import Derived.Test.YtlmpecahmmgphaaXTelx3
import Derived.Test.YtlmpecahmmgphaaXTelx5
import Derived.Test.YtlmpecahmmgphaaXTelx6
import Derived.Test.YtlmpecahmmgphaaXTelx7
namespace Go.Proofs.Ytlmpecahmmgphaa.PureTel
open Go.RowKit Go.Proofs.Ytlmpecahmmgphaa.XTel Go.Proofs.Ytlmpecahmmgphaa.Math Go.Proofs.YtlmpecahmmgphaaW.PrintWords Go.Proofs.YtlmpecahmmgphaaW.PrintLast Go.Proofs.YtlmpecahmmgphaaW.PrintMore
set_option linter.unusedVariables false

theorem fits_in (n b : Int) (h : ok b) : field_Fits.f n b = some (sg n b == n) := by
  unfold field_Fits.f
  rw [bits_eq, decide_eq_true h, sign_in n b h]
  rfl
theorem fits_out (n b : Int) (h : ¬ ok b) : field_Fits.f n b = some false := by
  unfold field_Fits.f
  rw [bits_eq, decide_eq_false h]
  rfl
theorem shr_hf (n b : Int) (h : ok b) : shr .i64 n (b - 1) = n / hf b := by
  unfold shr hf
  obtain ⟨h1, h2⟩ := h
  rw [show min (b - 1).toNat IntKind.i64.bits = b.toNat - 1 by
    rw [show (b - 1).toNat = b.toNat - 1 by omega]; exact Nat.min_eq_left (by show b.toNat - 1 ≤ 64; omega)]
theorem shr_2hf (n b : Int) (h : ok b) : shr .i64 n b = n / (2 * hf b) := by
  obtain ⟨h1, h2⟩ := h
  rw [two_hf b h1]
  unfold shr
  rw [show min b.toNat IntKind.i64.bits = b.toNat from Nat.min_eq_left (by show b.toNat ≤ 64; omega)]
theorem div0 (n H : Int) (h : 0 < H) : n / H = 0 ↔ 0 ≤ n ∧ n < H := by
  have h1 := Int.emod_add_mul_ediv n H
  have h2 := Int.emod_nonneg n (b := H) (by omega)
  have h3 := Int.emod_lt_of_pos n h
  constructor
  · intro e; rw [e] at h1; omega
  · intro ⟨e1, e2⟩; exact Int.ediv_eq_zero_of_lt e1 e2
theorem divm1 (n H : Int) (h : 0 < H) : n / H = -1 ↔ -H ≤ n ∧ n < 0 := by
  have h1 := Int.emod_add_mul_ediv n H
  have h2 := Int.emod_nonneg n (b := H) (by omega)
  have h3 := Int.emod_lt_of_pos n h
  constructor
  · intro e; rw [e] at h1; omega
  · intro ⟨e1, e2⟩
    have e : H * (n / H) = H * (-1) := uniq H _ _ (n / H + 1) (by rw [Int.mul_add]; omega) (by omega) (by omega)
    exact Int.eq_of_mul_eq_mul_left (by omega) e
theorem sub1 (b : Int) (h : ok b) : wrap64 (b - 1) = b - 1 := by obtain ⟨h1, h2⟩ := h; unfold wrap64; omega
theorem rfits_in (n b : Int) (h : ok b) : linotyperef01_Fits.f n b = some (sg n b == n) := by
  have hp := hf_pos b
  unfold linotyperef01_Fits.f
  rw [if_neg (by have := h.1; omega), if_neg (by have := h.2; omega), sub1 b h, if_pos (by have := h.1; omega), shr_hf n b h]
  by_cases e : n / hf b = 0
  · rw [if_pos e]
    have := (div0 n _ hp).1 e
    rw [(beq_iff_eq).2 ((sg_iff n b).2 ⟨by omega, by omega⟩)]
  · rw [if_neg e]
    congr 1
    rw [Bool.eq_iff_iff, beq_iff_eq, beq_iff_eq, sg_iff, divm1 n _ hp]
    have := (not_congr (div0 n _ hp)).1 e
    omega
theorem rfits_out (n b : Int) (h : ¬ ok b) : linotyperef01_Fits.f n b = some false := by
  unfold linotyperef01_Fits.f
  by_cases h1 : b < 1
  · rw [if_pos h1]
  · rw [if_neg h1, if_pos (by unfold ok at h; omega)]
theorem rwide (n b : Int) (hn : -9223372036854775808 ≤ n ∧ n ≤ 9223372036854775807) : linotyperef01_Wide.f n b = field_Wide.f n b := by
  by_cases h : ok b
  · have hp := hf_pos b
    rw [wide_in n b hn h]
    unfold linotyperef01_Wide.f
    rw [if_neg (by have := h.1; omega), if_neg (by have := h.2; omega), rfits_in n b h]
    simp only [Option.bind_some]
    by_cases e : sg n b = n
    · rw [beq_iff_eq.2 e, if_pos rfl]; rfl
    · rw [beq_eq_false_iff_ne.2 e, if_neg (by simp), Bool.false_or]
      have e2 := (not_congr (sg_iff n b)).1 e
      by_cases e3 : b < 64
      · rw [if_pos e3]
        by_cases e4 : n > 0
        · rw [if_pos e4, if_pos (by have := h.1; omega), shr_2hf n b h]
          congr 1
          rw [Bool.eq_iff_iff, beq_iff_eq, beq_iff_eq, lo_iff n b (by omega), div0 n _ (by omega)]
        · rw [if_neg e4]
          congr 1
          rw [eq_comm, beq_eq_false_iff_ne, ne_eq, lo_iff n b (by omega)]
          omega
      · have : b = 64 := by have := h.2; omega
        subst this
        rw [hf64] at e2
        omega
  · rw [wide_out n b h]
    unfold linotyperef01_Wide.f
    by_cases h1 : b < 1
    · rw [if_pos h1]
    · rw [if_neg h1, if_pos (by unfold ok at h; omega)]
theorem and1 (n : Int) : Go.bits .and .i64 n 1 = n % 2 := by
  have h1 : (BitVec.ofInt 64 1).toNat = 2 ^ 1 - 1 := by decide
  have key : (BitVec.ofInt 64 n &&& BitVec.ofInt 64 1).toNat = (n % ((2 ^ 64 : Nat) : Int)).toNat % 2 ^ 1 := by
    rw [BitVec.toNat_and, BitVec.toNat_ofInt, h1, Nat.and_two_pow_sub_one_eq_mod]
  show IntKind.i64.wrap ((BitVec.ofInt 64 n &&& BitVec.ofInt 64 1).toNat : Nat) = n % 2
  rw [key, IntKind.wrap_i64]
  omega
/-- The lowest bits, with the last as a sign where there are 64. -/
theorem mod_step (n : Int) (i : Nat) : n % 2 ^ i + n / 2 ^ i % 2 * 2 ^ i = n % 2 ^ (i + 1) := by
  have hp : (0 : Int) < 2 ^ i := Int.pow_pos (by omega)
  rw [Int.pow_succ]
  generalize (2 : Int) ^ i = P at *
  have h1 := Int.emod_add_mul_ediv n P
  have h2 := Int.emod_nonneg n (b := P) (by omega)
  have h3 := Int.emod_lt_of_pos n hp
  have h4 := Int.emod_add_mul_ediv (n / P) 2
  have h5 := Int.emod_add_mul_ediv n (P * 2)
  have h6 := Int.emod_nonneg n (b := P * 2) (by omega)
  have h7 := Int.emod_lt_of_pos n (b := P * 2) (by omega)
  have h8 := Int.emod_nonneg (n / P) (b := 2) (by omega)
  have h9 := Int.emod_lt_of_pos (n / P) (b := 2) (by omega)
  have e : P * (n / P) = n / P % 2 * P + P * 2 * (n / P / 2) := by
    conv => lhs; rw [← h4]
    rw [Int.mul_add, Int.mul_comm P, ← Int.mul_assoc]
  have hb : n / P % 2 * P ≤ P := by
    have : n / P % 2 ≤ 1 := by omega
    have := Int.mul_le_mul_of_nonneg_right this (show 0 ≤ P by omega)
    omega
  have hb0 : 0 ≤ n / P % 2 * P := Int.mul_nonneg h8 (by omega)
  refine uniq (P * 2) _ _ (n / (P * 2) - n / P / 2) ?_ (by omega) (by omega)
  rw [Int.mul_sub]; omega
theorem low_l (n b : Int) (hb : b ≤ 64) : ∀ (d i k : Nat), (i : Int) + d = b → linotyperef01_Low.l0 (k + d + 1) n b (wrap64 (n % 2 ^ i)) i = some (wrap64 (n % 2 ^ b.toNat)) := by
  intro d
  induction d with
  | zero =>
    intro i k h
    simp only [linotyperef01_Low.l0]
    rw [if_neg (by omega), show b.toNat = i by omega]
  | succ d ih =>
    intro i k h
    have hi : i ≤ 63 := by omega
    have hp : (0 : Int) < 2 ^ i := Int.pow_pos (by omega)
    have h63 : (2 : Int) ^ i ≤ 2 ^ 63 := pow2_le hi
    have h64 : (2 : Int) ^ 63 = 9223372036854775808 := rfl
    have h2 := Int.emod_nonneg n (b := 2 ^ i) (by omega)
    have h3 := Int.emod_lt_of_pos n hp
    have hw : wrap64 (n % 2 ^ i) = n % 2 ^ i := by generalize n % 2 ^ i = y at *; unfold wrap64; omega
    have hsh : shr .i64 n (i : Int) = n / 2 ^ i := by
      unfold shr
      rw [show min ((i : Int)).toNat IntKind.i64.bits = i from Nat.min_eq_left (by show i ≤ 64; omega)]
    have hsl : shl .i64 (n / 2 ^ i % 2) (i : Int) = wrap64 (n / 2 ^ i % 2 * 2 ^ i) := by
      unfold shl
      rw [show min ((i : Int)).toNat IntKind.i64.bits = i from Nat.min_eq_left (by show i ≤ 64; omega), i64_w]
    show linotyperef01_Low.l0 ((k + d + 1) + 1) n b (wrap64 (n % 2 ^ i)) i = _
    simp only [linotyperef01_Low.l0]
    rw [if_pos (by omega), if_pos (by omega), hsh, and1, hsl, hw, or_join _ _ i hi h2 h3, mod_step]
    rw [show wrap64 ((i : Int) + 1) = ((i + 1 : Nat) : Int) by unfold wrap64; omega]
    exact ih (i + 1) k (by omega)
theorem rlow_in (K : Nat) (n b : Int) (h : ok b) (hK : 67 ≤ K) : linotyperef01_Low.f K n b = some (wrap64 (n % 2 ^ b.toNat)) := by
  obtain ⟨h1, h2⟩ := h
  obtain ⟨k, rfl⟩ : ∃ k, K = (k + b.toNat + 1) + 1 := ⟨K - b.toNat - 2, by omega⟩
  unfold linotyperef01_Low.f
  rw [if_neg (by omega), decide_eq_false (by omega)]
  simp only [linotyperef01_Low.j0]
  rw [if_neg (by simp)]
  have := low_l n b h2 b.toNat 0 k (by omega)
  simpa [wrap64] using this
theorem rlow_out (K : Nat) (n b : Int) (h : ¬ ok b) (hK : 67 ≤ K) : linotyperef01_Low.f K n b = some 0 := by
  obtain ⟨k, rfl⟩ : ∃ k, K = k + 1 := ⟨K - 1, by omega⟩
  unfold linotyperef01_Low.f
  by_cases h1 : b < 1
  · rw [if_pos h1]; simp [linotyperef01_Low.j0]
  · rw [if_neg h1, decide_eq_true (by unfold ok at h; omega)]; simp [linotyperef01_Low.j0]
theorem low_mod (n b : Int) (h : ok b) (h64 : b ≠ 64) : wrap64 (n % 2 ^ b.toNat) = lo n b := by
  unfold lo
  rw [if_neg h64, ← two_hf b h.1]
  have := hf_lt64 b h.1 (by have := h.2; omega)
  have := hf_pos b
  have := Int.emod_nonneg n (b := 2 * hf b) (by omega)
  have := Int.emod_lt_of_pos n (b := 2 * hf b) (by omega)
  unfold wrap64; omega
theorem low_64 (n : Int) : wrap64 (n % 2 ^ (64 : Int).toNat) = wrap64 n := by
  show wrap64 (n % 18446744073709551616) = wrap64 n
  unfold wrap64; omega
theorem sg_64 (n : Int) : sg n 64 = wrap64 n := by
  unfold sg; rw [hf64]; unfold wrap64; omega
theorem rlow (K : Nat) (n b : Int) (hn : -9223372036854775808 ≤ n ∧ n ≤ 9223372036854775807) (hK : 67 ≤ K) : linotyperef01_Low.f K n b = field_Low.f n b := by
  by_cases h : ok b
  · rw [low_in n b hn h, rlow_in K n b h hK]
    by_cases h64 : b = 64
    · subst h64
      rw [low_64]
      unfold lo; rw [if_pos rfl]
      unfold wrap64; congr 1; omega
    · rw [low_mod n b h h64]
  · rw [low_out n b h, rlow_out K n b h hK]
theorem rsign (K : Nat) (n b : Int) (hK : 67 ≤ K) : linotyperef01_Sign.f K n b = field_Sign.f n b := by
  by_cases h : ok b
  · rw [sign_in n b h]
    unfold linotyperef01_Sign.f
    rw [rlow_in K n b h hK]
    simp only [Option.bind_some]
    rw [if_pos h.1]
    by_cases h64 : b < 64
    · rw [low_mod n b h (by omega), if_pos h64, sub1 b h, if_pos (by have := h.1; omega), shr_hf _ b h, and1]
      have hp := hf_pos b
      have hl := hf_lt64 b h.1 h64
      obtain ⟨h1, h2, _⟩ := lo_spec n b (by omega)
      obtain ⟨h3, h4, _⟩ := sg_spec n b
      have hsl : shl .i64 1 b = wrap64 (2 * hf b) := by
        rw [two_hf b h.1]
        unfold shl
        rw [show min b.toNat IntKind.i64.bits = b.toNat from Nat.min_eq_left (by show b.toNat ≤ 64; have := h.2; omega), i64_w, Int.one_mul]
      have hq : lo n b / hf b = if lo n b < hf b then 0 else 1 := by
        split
        · exact Int.ediv_eq_zero_of_lt h1 (by omega)
        · have : lo n b / hf b = (lo n b - hf b) / hf b + 1 := by
            conv => lhs; rw [show lo n b = (lo n b - hf b) + hf b * 1 by omega]
            rw [Int.add_mul_ediv_left _ _ (by omega)]
          rw [this, Int.ediv_eq_zero_of_lt (by omega) (by omega)]; rfl
      rw [hq, hsl]
      by_cases e : lo n b < hf b
      · rw [if_pos e, if_neg (by decide)]
        rcases lo_sg n b (by omega) with e2 | e2
        · rw [e2]
        · omega
      · rw [if_neg e, if_pos (by decide), if_pos (by have := h.1; omega)]
        rcases lo_sg n b (by omega) with e2 | e2
        · omega
        · rw [e2]; congr 1; unfold wrap64; omega
    · have : b = 64 := by have := h.2; omega
      subst this
      rw [if_neg (by omega), low_64, sg_64]
  · rw [sign_out n b h]
    unfold linotyperef01_Sign.f
    rw [rlow_out K n b h hK]
    simp only [Option.bind_some]
    by_cases h1 : b ≥ 1
    · rw [if_pos h1, if_neg (by unfold ok at h; omega)]
    · rw [if_neg h1]
theorem rput_l : ∀ (k : Nat) (n s : Int) (acc : List Int) (i : Int), linotyperef01_Put.l0 k n s acc i = field_Put.l0 k n acc s i := by
  intro k
  induction k with
  | zero => intros; rfl
  | succ k ih => intro n s acc i; simp only [linotyperef01_Put.l0, field_Put.l0, ih]
theorem rsize (s : Int) : linotyperef01_Size.f s = field_size.f s := rfl
theorem rput (k : Nat) (n s : Int) (hn : -9223372036854775808 ≤ n ∧ n ≤ 9223372036854775807) : linotyperef01_Put.f k n s = field_Put.f k n s := by
  unfold linotyperef01_Put.f field_Put.f
  rw [rsize]
  simp only [rput_l, rwide n _ hn]
theorem rget_l (m : Nat) (hm : 67 ≤ m) : ∀ (k : Nat) (l : List Int) (p s : Int) (sgd : Bool) (x i : Int) (r : Int × Int), field_Get.l0 k l p s sgd x s i = some r → linotyperef01_Get.l0 (k + m) l p s sgd x i = some r := by
  intro k
  induction k with
  | zero => intro l p s sgd x i r h; simp [field_Get.l0] at h
  | succ k ih =>
    intro l p s sgd x i r h
    rw [show k + 1 + m = (k + m) + 1 by omega]
    simp only [field_Get.l0] at h
    simp only [linotyperef01_Get.l0]
    by_cases e : i < s
    · rw [if_pos e] at h ⊢
      by_cases e2 : 0 ≤ wrap64 (p + i)
      · rw [if_pos e2] at h ⊢
        by_cases e3 : wrap64 (p + i) < (l.length : Int)
        · rw [if_pos e3] at h ⊢
          by_cases e4 : 0 ≤ wrap64 (8 * i)
          · rw [if_pos e4] at h ⊢
            exact ih _ _ _ _ _ _ _ h
          · rw [if_neg e4] at h; cases h
        · rw [if_neg e3] at h; cases h
      · rw [if_neg e2] at h; cases h
    · rw [if_neg e] at h ⊢
      rw [rsign (k + m) _ _ (by omega)]
      exact h
theorem rget_j (m : Nat) (hm : 67 ≤ m) (k : Nat) (l : List Int) (p s : Int) (sgd c : Bool) (r : Int × Int) (h : field_Get.j0 k l p s sgd c = some r) : linotyperef01_Get.j0 (k + m) l p s sgd c = some r := by
  cases k with
  | zero => simp [field_Get.j0] at h
  | succ k =>
    rw [show k + 1 + m = (k + m) + 1 by omega]
    simp only [field_Get.j0] at h
    simp only [linotyperef01_Get.j0]
    by_cases e : c = true
    · rw [if_pos e] at h ⊢; exact h
    · rw [if_neg e] at h ⊢
      by_cases e2 : wrap64 ((l.length : Int) - p) < s
      · rw [if_pos e2] at h ⊢; exact h
      · rw [if_neg e2] at h ⊢
        exact rget_l m hm k _ _ _ _ _ _ _ h
theorem rget (m : Nat) (hm : 67 ≤ m) (k : Nat) (l : List Int) (p s : Int) (sgd : Bool) (r : Int × Int) (h : field_Get.f k l p s sgd = some r) : linotyperef01_Get.f (k + m) l p s sgd = some r := by
  unfold field_Get.f at h
  unfold linotyperef01_Get.f
  rw [rsize]
  obtain ⟨b, hb, h⟩ := Option.bind_eq_some_iff.1 h
  rw [hb]
  simp only [Option.bind_some]
  by_cases e : b = true
  · rw [if_pos e] at h ⊢
    by_cases e2 : p < 0
    · rw [if_pos e2] at h ⊢; exact rget_j m hm k _ _ _ _ _ _ h
    · rw [if_neg e2] at h ⊢; exact rget_j m hm k _ _ _ _ _ _ h
  · rw [if_neg e] at h ⊢; exact h
theorem size_no (s : Int) (h : ¬ size s) : field_size.f s = some false := by
  unfold field_size.f
  unfold size at h
  rw [if_neg (by omega), if_neg (by omega), if_neg (by omega), beq_eq_false_iff_ne.2 (by omega)]
theorem get_some (l : List Int) (p s : Int) (sgd : Bool) (hb : ∀ x ∈ l, 0 ≤ x ∧ x ≤ 255) (hl : l.length ≤ 1000) : ∃ v e, ∀ K, 12 ≤ K → field_Get.f K l p s sgd = some (v, e) := by
  by_cases h : size s
  · by_cases h0 : 0 ≤ p ∧ p ≤ l.length
    · have hg := fun K (hK : 12 ≤ K) => get_f K hK l p s sgd hb hl h0.1 h0.2 h
      by_cases e : (l.length : Int) - p < s
      · exact ⟨0, 9, fun K hK => by rw [hg K hK, if_pos e]⟩
      · cases sgd with
        | true => exact ⟨_, _, fun K hK => by rw [hg K hK, if_neg e, fin_yes _ s h]⟩
        | false => exact ⟨_, _, fun K hK => by rw [hg K hK, if_neg e, fin_no _ s]⟩
    · refine ⟨0, 5, fun K hK => ?_⟩
      obtain ⟨k, rfl⟩ : ∃ k, K = k + 1 := ⟨K - 1, by omega⟩
      unfold field_Get.f
      rw [size_eq s h]
      simp only [Option.bind_some, if_true]
      by_cases e : p < 0
      · rw [if_pos e]; simp [field_Get.j0]
      · rw [if_neg e, decide_eq_true (by omega)]; simp [field_Get.j0]
  · refine ⟨0, 2, fun K hK => ?_⟩
    unfold field_Get.f
    rw [size_no s h]
    rfl
theorem put_some (n s : Int) (hn : -9223372036854775808 ≤ n ∧ n ≤ 9223372036854775807) : ∃ x e, ∀ K, 12 ≤ K → field_Put.f K n s = some (x, e) := by
  by_cases h : size s
  · have hg := fun K (hK : 12 ≤ K) => put_f K hK n s hn h
    by_cases e : (sg n (8 * s) == n || lo n (8 * s) == n) = true
    · exact ⟨_, _, fun K hK => by rw [hg K hK, if_pos e]⟩
    · exact ⟨_, _, fun K hK => by rw [hg K hK, if_neg e]⟩
  · refine ⟨[], 2, fun K hK => ?_⟩
    unfold field_Put.f
    rw [size_no s h]
    rfl
theorem awake_eq : linotypelaw01_awake.f 100 = some true := by decide +kernel
/-- The functions and the document's tell the same. -/
theorem FieldTells (n b s : Int) (l : List Int) (p : Int) (sgd : Bool) (hn : -9223372036854775808 ≤ n ∧ n ≤ 9223372036854775807) (hb : ∀ x ∈ l, 0 ≤ x ∧ x ≤ 255) (hl : l.length ≤ 100) :
    ∃ (x : List Int) (e_ v g : Int) (f_ wd : Bool) (s_ lo_ : Int), field_Put.f 100 n s = some (x, e_) ∧ linotyperef01_Put.f 100 n s = some (x, e_) ∧ field_Get.f 100 l p s sgd = some (v, g) ∧ linotyperef01_Get.f 100 l p s sgd = some (v, g) ∧ field_Fits.f n b = some f_ ∧ linotyperef01_Fits.f n b = some f_ ∧ field_Wide.f n b = some wd ∧ linotyperef01_Wide.f n b = some wd ∧ field_Sign.f n b = some s_ ∧ linotyperef01_Sign.f 100 n b = some s_ ∧ field_Low.f n b = some lo_ ∧ linotyperef01_Low.f 100 n b = some lo_ ∧ linotypelaw01_awake.f 100 = some true := by
  obtain ⟨x, e_, hx⟩ := put_some n s hn
  obtain ⟨v, g, hv⟩ := get_some l p s sgd hb (by omega)
  have hf : ∃ f_, field_Fits.f n b = some f_ ∧ linotyperef01_Fits.f n b = some f_ := by
    by_cases h : ok b
    · exact ⟨_, fits_in n b h, rfits_in n b h⟩
    · exact ⟨_, fits_out n b h, rfits_out n b h⟩
  have hw : ∃ w_, field_Wide.f n b = some w_ := by
    by_cases h : ok b
    · exact ⟨_, wide_in n b hn h⟩
    · exact ⟨_, wide_out n b h⟩
  have hs : ∃ s_, field_Sign.f n b = some s_ := by
    by_cases h : ok b
    · exact ⟨_, sign_in n b h⟩
    · exact ⟨_, sign_out n b h⟩
  have hlo : ∃ lo_, field_Low.f n b = some lo_ := by
    by_cases h : ok b
    · exact ⟨_, low_in n b hn h⟩
    · exact ⟨_, low_out n b h⟩
  obtain ⟨f_, f1, f2⟩ := hf
  obtain ⟨w_, w1⟩ := hw
  obtain ⟨s_, s1⟩ := hs
  obtain ⟨lo_, l1⟩ := hlo
  exact ⟨x, e_, v, g, f_, w_, s_, lo_, hx 100 (by omega), (rput 100 n s hn).trans (hx 100 (by omega)), hv 100 (by omega), rget 70 (by omega) 30 l p s sgd (v, g) (hv 30 (by omega)), f1, f2, w1, (rwide n b hn).trans w1, s1, (rsign 100 n b (by omega)).trans s1, l1, (rlow 100 n b hn (by omega)).trans l1, awake_eq⟩
end Go.Proofs.Ytlmpecahmmgphaa.PureTel
