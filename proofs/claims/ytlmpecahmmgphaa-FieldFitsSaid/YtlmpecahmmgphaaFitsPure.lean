/- The plain law of FieldFits: the function that the walk finds answers true for any three numbers of 64 bits. -/
import Derived.Test.YtlmpecahmmgphaaFitsWalk
import Derived.Test.YtlmpecahmmgphaaMath
namespace Go.Proofs.Ytlmpecahmmgphaa.FitsPure
open Go.RowKit Go.Proofs.Ytlmpecahmmgphaa.PFieldFits Go.Proofs.Ytlmpecahmmgphaa.Math Go.Proofs.YtlmpecahmmgphaaW.PrintWords Go.Proofs.YtlmpecahmmgphaaW.PrintLast Go.Proofs.YtlmpecahmmgphaaW.PrintMore

theorem bits_eq (b : Int) : field_bits.f b = some (decide (ok b)) := by
  unfold field_bits.f ok
  by_cases h : b ≥ 1
  · rw [if_pos h]; simp; intro; omega
  · rw [if_neg h]; simp; intro; omega
theorem sign_in (n b : Int) (h : ok b) : field_Sign.f n b = some (sg n b) := by
  unfold field_Sign.f
  rw [bits_eq, decide_eq_true h]
  simp only [Option.bind_some, if_true]
  rw [wrap64_64 b h.1 h.2, if_pos (by have := h.2; omega), sign_eq n b h.1 h.2]
theorem sign_out (n b : Int) (h : ¬ ok b) : field_Sign.f n b = some 0 := by
  unfold field_Sign.f
  rw [bits_eq, decide_eq_false h]
  simp
theorem low_in (n b : Int) (hn : -9223372036854775808 ≤ n ∧ n ≤ 9223372036854775807) (h : ok b) : field_Low.f n b = some (lo n b) := by
  unfold field_Low.f
  rw [bits_eq, decide_eq_true h]
  simp only [Option.bind_some, if_true]
  rw [wrap64_64 b h.1 h.2, if_pos (by have := h.2; omega), low_eq n b hn h.1 h.2]
theorem low_out (n b : Int) (h : ¬ ok b) : field_Low.f n b = some 0 := by
  unfold field_Low.f
  rw [bits_eq, decide_eq_false h]
  simp
theorem fits_in (n b : Int) (h : ok b) : field_Fits.f n b = some (sg n b == n) := by
  unfold field_Fits.f
  rw [bits_eq, decide_eq_true h, sign_in n b h]
  rfl
theorem fits_out (n b : Int) (h : ¬ ok b) : field_Fits.f n b = some false := by
  unfold field_Fits.f
  rw [bits_eq, decide_eq_false h]
  rfl
theorem wide_in (n b : Int) (hn : -9223372036854775808 ≤ n ∧ n ≤ 9223372036854775807) (h : ok b) : field_Wide.f n b = some (sg n b == n || lo n b == n) := by
  unfold field_Wide.f
  rw [bits_eq, decide_eq_true h, sign_in n b h, low_in n b hn h]
  simp only [Option.bind_some, if_true]
  by_cases e : sg n b = n
  · rw [if_pos e, beq_iff_eq.2 e]; rfl
  · rw [if_neg e, beq_eq_false_iff_ne.2 e]; rfl
theorem wide_out (n b : Int) (h : ¬ ok b) : field_Wide.f n b = some false := by
  unfold field_Wide.f
  rw [bits_eq, decide_eq_false h]
  rfl
theorem awake_eq : linotypelaw01_awake.f 9 = some true := by decide +kernel
theorem pick_eq (x : Int) : ∃ p, linotypekit_Pick.f x 64 = some p ∧ 0 ≤ p ∧ p < 64 := by
  unfold linotypekit_Pick.f
  rw [if_neg (by omega), if_neg (by omega)]
  have h1 := Int.tmod_lt_of_pos x (b := 64) (by omega)
  have h2 : -64 < Int.tmod x 64 := by
    rw [Int.tmod_eq_emod]
    split <;> omega
  by_cases h : Int.tmod x 64 < 0
  · rw [if_pos h]
    refine ⟨_, rfl, ?_, ?_⟩ <;> (unfold wrap64; omega)
  · rw [if_neg h]
    exact ⟨_, rfl, by omega, by omega⟩

/-- What fits in fewer bits fits in more. -/
theorem fits_more (n b c : Int) (h : b ≤ c) (hb : sg n b = n) : sg n c = n := by
  have := hf_mono b c h
  have := (sg_iff n b).1 hb
  exact (sg_iff n c).2 ⟨by omega, by omega⟩
theorem wide_more (n b c : Int) (hn : -9223372036854775808 ≤ n ∧ n ≤ 9223372036854775807) (h1 : 1 ≤ b) (h : b ≤ c) (h2 : c ≤ 64) (hb : (sg n b == n || lo n b == n) = true) : (sg n c == n || lo n c == n) = true := by
  by_cases e : c = b
  · rw [e]; exact hb
  · by_cases h64 : c = 64
    · subst h64
      simp [lo]
    · simp only [Bool.or_eq_true, beq_iff_eq] at hb ⊢
      rcases hb with hb | hb
      · exact .inl (fits_more n b c h hb)
      · right
        have h3 := hf_double b c h1 (by omega)
        have := (lo_iff n b (by omega)).1 hb
        have := hf_pos c
        exact (lo_iff n c h64).2 ⟨by omega, by omega⟩

theorem j2_eq (k : Nat) (n b m : Int) (hn : -9223372036854775808 ≤ n ∧ n ≤ 9223372036854775807) (h : ok b) : linotypelaw01_FieldFits.j2 (k + 1) n b m true false = some true := by
  obtain ⟨p, hp, h0, h1⟩ := pick_eq m
  have hw : wrap64 (b + p) = b + p := by obtain ⟨h2, h3⟩ := h; unfold wrap64; omega
  have hc : ok (mn (b + p) 64) := by obtain ⟨h2, h3⟩ := h; unfold mn; constructor <;> (split <;> omega)
  have hbc : b ≤ mn (b + p) 64 := by obtain ⟨h2, h3⟩ := h; unfold mn; split <;> omega
  simp only [linotypelaw01_FieldFits.j2]
  rw [if_neg (by simp), hp]
  simp only [Option.bind_some, if_true]
  rw [hw, fits_in n b h, fits_in n _ hc, wide_in n b hn h, wide_in n _ hn hc]
  simp only [Option.bind_some]
  generalize mn (b + p) 64 = c at *
  by_cases e : (sg n b == n) = true
  · rw [if_pos e, if_pos (by rw [beq_iff_eq] at e ⊢; exact fits_more n b c hbc e)]
    by_cases e2 : (sg n b == n || lo n b == n) = true
    · rw [if_pos e2, wide_more n b c hn h.1 hbc hc.2 e2]
    · rw [if_neg e2]
  · rw [if_neg e]
    by_cases e2 : (sg n b == n || lo n b == n) = true
    · rw [if_pos e2, wide_more n b c hn h.1 hbc hc.2 e2]
    · rw [if_neg e2]
theorem low_wf (n b : Int) (hn : -9223372036854775808 ≤ n ∧ n ≤ 9223372036854775807) (h : ok b) : -9223372036854775808 ≤ lo n b ∧ lo n b ≤ 9223372036854775807 := by
  by_cases h64 : b = 64
  · unfold lo; rw [if_pos h64]; exact hn
  · obtain ⟨h1, h2, _⟩ := lo_spec n b h64
    have := hf_lt64 b h.1 (by have := h.2; omega)
    omega
theorem j1_eq (k : Nat) (n b m : Int) (hn : -9223372036854775808 ≤ n ∧ n ≤ 9223372036854775807) (h : ok b) : linotypelaw01_FieldFits.j1 (k + 2) n b m true (sg n b) (lo n b) false = some true := by
  have hsg := sign_in (sg n b) b h
  rw [sg_sg] at hsg
  have hlo := low_in (lo n b) b (low_wf n b hn h) h
  rw [lo_lo] at hlo
  have hd : b < 63 → ¬ (sg n b = lo n b) → wrap64 (lo n b - sg n b) = shl .i64 1 b := by
    intro h63 hne
    have h2 := hf_le b h.1 h.2
    have h3 : hf (b + 1) ≤ hf 63 := hf_mono _ _ (by omega)
    rw [hf_step b h.1] at h3
    have h4 : hf 63 = 4611686018427387904 := rfl
    have hpos := hf_pos b
    unfold shl
    have e : min b.toNat IntKind.i64.bits = b.toNat := Nat.min_eq_left (by show b.toNat ≤ 64; omega)
    rw [e, i64_w, Int.one_mul, ← two_hf b h.1]
    rcases lo_sg n b (by omega) with h5 | h5
    · exact absurd h5.symm hne
    · unfold wrap64; omega
  show linotypelaw01_FieldFits.j1 ((k + 1) + 1) n b m true (sg n b) (lo n b) false = some true
  simp only [linotypelaw01_FieldFits.j1]
  rw [if_neg (by simp), hsg, hlo]
  simp only [Option.bind_some, if_true, bne_self_eq_false]
  rw [j2_eq k n b m hn h]
  by_cases h63 : b < 63
  · rw [if_pos h63]
    by_cases e : sg n b = lo n b
    · rw [if_pos e]
    · rw [if_neg e, if_pos (by have := h.1; omega), if_pos (hd h63 e)]
  · rw [if_neg h63]
theorem j0_in (k : Nat) (n b m : Int) (hn : -9223372036854775808 ≤ n ∧ n ≤ 9223372036854775807) (h : ok b) : linotypelaw01_FieldFits.j0 (k + 3) n b m true false = some true := by
  have hj := j1_eq k n b m hn h
  have hs := sg_spec n b
  have hff : field_Fits.f (sg n b) b = some true := by rw [fits_in _ b h, sg_sg, beq_self_eq_true]
  have hlow : b < 64 → ¬ lo n b < 0 := by
    intro h64
    obtain ⟨h1, _, _⟩ := lo_spec n b (by omega)
    omega
  show linotypelaw01_FieldFits.j0 ((k + 2) + 1) n b m true false = some true
  simp only [linotypelaw01_FieldFits.j0]
  rw [if_neg (by simp), sign_in n b h, low_in n b hn h, fits_in n b h, wide_in n b hn h]
  simp only [Option.bind_some]
  rw [hff]
  rw [if_neg (by simp)]
  simp only [Option.bind_some, if_true]
  by_cases e : sg n b = n
  · have e1 : (sg n b == n) = true := beq_iff_eq.2 e
    simp only [e1, if_true, Bool.true_or, bne_self_eq_false]
    by_cases h64 : b < 64
    · rw [if_pos h64, if_neg (hlow h64), if_pos e, hj]
    · rw [if_neg h64, if_pos e, hj]
  · have e1 : (sg n b == n) = false := beq_eq_false_iff_ne.2 e
    simp only [e1, Bool.false_or, bne_self_eq_false]
    by_cases h64 : b < 64
    · simp [h64, hlow h64, e, hj]
    · simp [h64, e, hj]
theorem j0_out (k : Nat) (n b m : Int) (h : ¬ ok b) : linotypelaw01_FieldFits.j0 (k + 1) n b m true true = some true := by
  simp only [linotypelaw01_FieldFits.j0]
  rw [if_pos trivial, if_pos trivial, fits_out n b h, wide_out n b h, sign_out n b h, low_out n b h]
  rfl

theorem FieldFits : linotypelaw01_FieldFits.Pure := by
  intro n b m hn hb hm
  refine ⟨9, ?_⟩
  unfold linotypelaw01_FieldFits.f
  rw [awake_eq]
  simp only [Option.bind_some]
  by_cases h1 : b < 1
  · rw [if_pos h1]; exact j0_out 8 n b m (by unfold ok; omega)
  · rw [if_neg h1]
    by_cases h2 : b > 64
    · rw [decide_eq_true h2]; exact j0_out 8 n b m (by unfold ok; omega)
    · rw [decide_eq_false h2]; exact j0_in 6 n b m (wf64 hn) ⟨by omega, by omega⟩
end Go.Proofs.Ytlmpecahmmgphaa.FitsPure
