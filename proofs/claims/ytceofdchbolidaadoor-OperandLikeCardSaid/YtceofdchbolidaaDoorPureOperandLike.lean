/- The plain law of OperandLike: a number in so many bits is like the one that it was told of. Conditions: the numbers have 64 bits. -/
import Derived.Test.YtceofdchbolidaaDoorXAllx27
import Derived.Test.YtceofdchbolidaaDoorPureImm
namespace Go.Proofs.YtceofdchbolidaaDoor.Pure2
set_option linter.unusedVariables false
set_option linter.unusedSimpArgs false
open Go.RowKit Go.Proofs.YtceofdchbolidaaDoor.XAll Go.Proofs.YtceofdchbolidaaDoor.Math Go.Proofs.YtceofdchbolidaaDoorW.PrintWords Go.Proofs.YtceofdchbolidaaDoorW.PrintLast Go.Proofs.YtceofdchbolidaaDoorW.PrintMore
theorem sg_lo (n b : Int) : sg (lo n b) b = sg n b := by
  by_cases h : b = 64
  · unfold lo; rw [if_pos h]
  · obtain ⟨h1, h2, k, hk⟩ := sg_spec n b
    obtain ⟨h3, h4, j, hj⟩ := sg_spec (lo n b) b
    obtain ⟨_, _, i, hi⟩ := lo_spec n b h
    have := hf_pos b
    exact uniq (2 * hf b) _ _ (k - i - j) (by rw [Int.mul_sub, Int.mul_sub]; omega) (by omega) (by omega)
theorem lo_sg2 (n b : Int) (h : b ≠ 64) : lo (sg n b) b = lo n b := by
  obtain ⟨h1, h2, k, hk⟩ := lo_spec n b h
  obtain ⟨h3, h4, j, hj⟩ := lo_spec (sg n b) b h
  obtain ⟨_, _, i, hi⟩ := sg_spec n b
  have := hf_pos b
  exact uniq (2 * hf b) _ _ (k - i - j) (by rw [Int.mul_sub, Int.mul_sub]; omega) (by omega) (by omega)
theorem awakeLike : linotypelaw06_awake.f 30 = some true := by decide +kernel
theorem imm_true (m : Nat) (n b : Int) (s : Bool) (x : Int) (hn : I64 n) (h : immF n b s = (x, 0)) : linotypelaw06_imm.f (m + 2) n b s x 0 = some true := by
  unfold linotypelaw06_imm.f
  rw [op_imm m n b s hn, h]
  simp
theorem j0_err (K : Nat) (n w H : Int) (hw : 1 ≤ w ∧ w < 64) (hm : shl .i64 (-1) (wrap64 (w - 1)) = -H) (hs : shl .i64 1 w = 2 * H) (hn : n < -H ∨ 2 * H ≤ n) :
    linotypelaw06_OperandLike.j0 (K + 1) n true w 0 5 0 5 true = some true := by
  simp only [linotypelaw06_OperandLike.j0, hm, hs]
  have h1 : 0 ≤ wrap64 (w - 1) := by unfold wrap64; omega
  by_cases c : n < -H
  · simp [hw.2, h1, c]
  · have c2 : n ≥ 2 * H := by omega
    have h0 : 0 ≤ w := by omega
    simp [hw.2, h1, c, h0, c2]
theorem j0_ok (K : Nat) (n w H : Int) (hn : I64 n) (hw : wid w) (h64 : w ≠ 64) (hH : hf w = H) (hp : 0 < H) (hl : 2 * H ≤ 4294967296) (hs : shl .i64 1 w = 2 * H) (hok : sg n w = n ∨ lo n w = n) :
    linotypelaw06_OperandLike.j0 (K + 3) n true w (sg n w) 0 (lo n w) 0 false = some true := by
  have g1 := sg_spec n w
  have g2 := lo_spec n w h64
  have g3 := lo_sg n w h64
  rw [hH] at g1 g2 g3
  have i1 : I64 (sg n w) := ⟨by omega, by omega⟩
  have i2 : I64 (lo n w) := ⟨by omega, by omega⟩
  have f1 : immF (sg n w) w true = (sg n w, 0) := by
    unfold immF; rw [if_pos hw, sg_sg, if_neg (fun h => h.1 rfl), if_pos rfl]
  have f2 : immF (lo n w) w false = (lo n w, 0) := by
    unfold immF; rw [if_pos hw, lo_lo, if_neg (fun h => h.2 rfl), if_neg (by simp)]
  have f3 : immF (sg n w) w false = (lo n w, 0) := by
    unfold immF; rw [if_pos hw, sg_sg, if_neg (fun h => h.1 rfl), if_neg (by simp), lo_sg2 n w h64]
  have f4 : immF (lo n w) w true = (sg n w, 0) := by
    unfold immF; rw [if_pos hw, lo_lo, if_neg (fun h => h.2 rfl), if_pos rfl, sg_lo]
  have t1 := imm_true K _ w true _ i1 f1
  have t2 := imm_true K _ w false _ i2 f2
  have t3 := imm_true K _ w false _ i1 f3
  have t4 := imm_true K _ w true _ i2 f4
  have e1 : wrap64 (Int.tdiv (wrap64 (-(2 * H))) 2) = -H := by
    have : wrap64 (-(2 * H)) = -(2 * H) := by unfold wrap64; omega
    rw [this, show -(2 * H) = 2 * (-H) by omega, Int.mul_tdiv_cancel_left _ (by omega)]
    unfold wrap64; omega
  have e2 : wrap64 (Int.tdiv (2 * H) 2) = H := by
    rw [Int.mul_tdiv_cancel_left _ (by omega)]
    unfold wrap64; omega
  have z0 : Int.tmod 0 (2 * H) = 0 := Int.zero_tmod _
  have zp : Int.tmod (2 * H) (2 * H) = 0 := Int.tmod_self
  have zm : Int.tmod (-(2 * H)) (2 * H) = 0 := by rw [Int.neg_tmod, zp]; rfl
  have m1 : Int.tmod (wrap64 (sg n w - n)) (2 * H) = 0 := by
    have : sg n w - n = 0 ∨ sg n w - n = -(2 * H) := by rcases hok with h | h <;> omega
    rcases this with h | h
    · rw [h, show wrap64 0 = 0 by unfold wrap64; omega, z0]
    · rw [h, show wrap64 (-(2 * H)) = -(2 * H) by unfold wrap64; omega, zm]
  have m2 : Int.tmod (wrap64 (lo n w - n)) (2 * H) = 0 := by
    have : lo n w - n = 0 ∨ lo n w - n = 2 * H := by rcases hok with h | h <;> omega
    rcases this with h | h
    · rw [h, show wrap64 0 = 0 by unfold wrap64; omega, z0]
    · rw [h, show wrap64 (2 * H) = 2 * H by unfold wrap64; omega, zp]
  have h0 : 0 ≤ w := by rcases hw with rfl | rfl | rfl | rfl <;> decide
  show linotypelaw06_OperandLike.j0 ((K + 2) + 1) n true w (sg n w) 0 (lo n w) 0 false = some true
  simp only [linotypelaw06_OperandLike.j0, hs, e1, e2, m1, m2, t1, t2, t3, t4, Option.bind_some]
  have a1 : sg n w ≥ -H := by omega
  have a2 : sg n w < H := by omega
  have a3 : lo n w ≥ 0 := by omega
  have a4 : lo n w < 2 * H := by omega
  have a5 : ¬ 2 * H = 0 := by omega
  have a5' : ¬ H = 0 := by omega
  simp [h64, h0, a1, a2, a3, a4, a5']
theorem j0_all (K : Nat) (n w : Int) (hn : I64 n) (hw : wid w) :
    linotypelaw06_OperandLike.j0 (K + 3) n true w (immF n w true).1 (immF n w true).2 (immF n w false).1 (immF n w false).2 ((immF n w true).2 != 0) = some true := by
  have hsm : ∀ H : Int, w ≠ 64 → hf w = H → 0 < H → 2 * H ≤ 4294967296 → shl .i64 1 w = 2 * H → shl .i64 (-1) (wrap64 (w - 1)) = -H → 1 ≤ w ∧ w < 64 →
      linotypelaw06_OperandLike.j0 (K + 3) n true w (immF n w true).1 (immF n w true).2 (immF n w false).1 (immF n w false).2 ((immF n w true).2 != 0) = some true := by
    intro H h64 hH hp hl hs hm h1
    have g1 := sg_iff n w
    have g2 := lo_iff n w h64
    rw [hH] at g1 g2
    by_cases e : sg n w ≠ n ∧ lo n w ≠ n
    · have f : ∀ s, immF n w s = (0, 5) := fun s => by unfold immF; rw [if_pos hw, if_pos e]
      rw [f, f]
      have hout : n < -H ∨ 2 * H ≤ n := by
        have a1 : ¬ (-H ≤ n ∧ n < H) := fun h => e.1 (g1.2 h)
        have a2 : ¬ (0 ≤ n ∧ n < 2 * H) := fun h => e.2 (g2.2 h)
        omega
      exact j0_err (K + 2) n w H h1 hm hs hout
    · have ft : immF n w true = (sg n w, 0) := by unfold immF; rw [if_pos hw, if_neg e, if_pos rfl]
      have ff : immF n w false = (lo n w, 0) := by unfold immF; rw [if_pos hw, if_neg e, if_neg (by simp)]
      rw [ft, ff]
      exact j0_ok K n w H hn hw h64 hH hp hl hs (by
        by_cases h : sg n w = n
        · exact .inl h
        · exact .inr (Decidable.of_not_not fun h2 => e ⟨h, h2⟩))
  rcases hw with h | h | h | h
  · subst h; exact hsm 128 (by decide) rfl (by decide) (by decide) (by decide +kernel) (by decide +kernel) (by decide)
  · subst h; exact hsm 32768 (by decide) rfl (by decide) (by decide) (by decide +kernel) (by decide +kernel) (by decide)
  · subst h; exact hsm 2147483648 (by decide) rfl (by decide) (by decide) (by decide +kernel) (by decide +kernel) (by decide)
  · subst h
    have hs : sg n 64 = n := (sg_iff n 64).2 (by rw [hf64]; omega)
    have hw : wid 64 := .inr (.inr (.inr rfl))
    have ft : immF n 64 true = (n, 0) := by unfold immF; rw [if_pos hw, hs, if_neg (fun h => h.1 rfl), if_pos rfl]
    have ff : immF n 64 false = (n, 0) := by unfold immF; rw [if_pos hw, hs, if_neg (fun h => h.1 rfl), if_neg (by simp), lo64]
    rw [ft, ff]
    show linotypelaw06_OperandLike.j0 ((K + 2) + 1) n true 64 n 0 n 0 false = some true
    simp only [linotypelaw06_OperandLike.j0]
    simp
theorem OperandLike (n which : Int) (w0 : (Lit.int .i64 n).wf = true) (w1 : (Lit.int .i64 which).wf = true) : ∃ k, linotypelaw06_OperandLike.f k n which = some true := by
  have hn := wf64 w0
  refine ⟨30, ?_⟩
  unfold linotypelaw06_OperandLike.f
  rw [awakeLike]
  simp only [Option.bind_some]
  have hi : ∃ i : Int, Int.tmod (wrap64 ((Int.tmod which 4) + 4)) 4 = i ∧ 0 ≤ i ∧ i < 4 := by
    refine ⟨_, rfl, ?_⟩
    have h1 := Int.tmod_lt_of_pos which (b := 4) (by omega)
    have h2 : -4 < Int.tmod which 4 := by
      rw [Int.tmod_eq_emod]
      split <;> omega
    have h3 : wrap64 (Int.tmod which 4 + 4) = Int.tmod which 4 + 4 := by unfold wrap64; omega
    rw [h3, Int.tmod_eq_emod_of_nonneg (by omega)]
    omega
  obtain ⟨i, hi, i0, i1⟩ := hi
  rw [hi, if_pos i0, if_pos (by simpa using i1)]
  have hw : wid (rd [8, 16, 32, 64] i) := by
    have : i = 0 ∨ i = 1 ∨ i = 2 ∨ i = 3 := by omega
    rcases this with rfl | rfl | rfl | rfl
    · exact .inl rfl
    · exact .inr (.inl rfl)
    · exact .inr (.inr (.inl rfl))
    · exact .inr (.inr (.inr rfl))
  generalize rd [8, 16, 32, 64] i = w at hw ⊢
  rw [show (30 : Nat) = 28 + 2 from rfl, op_imm 28 n w true hn, op_imm 28 n w false hn]
  simp only [Option.bind_some]
  have he : (immF n w true).2 = (immF n w false).2 := by
    unfold immF
    rw [if_pos hw, if_pos hw]
    split <;> simp
  rw [if_pos he]
  exact j0_all 27 n w hn hw
end Go.Proofs.YtceofdchbolidaaDoor.Pure2
