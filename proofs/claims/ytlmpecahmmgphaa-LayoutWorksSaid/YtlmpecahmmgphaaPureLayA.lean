/- What layout computes, over numbers: places, distances, choices. -/
import Derived.Test.YtlmpecahmmgphaaMath
import Derived.Test.YtlmpecahmmgphaaLayEnd
import Derived.Laws.BitsAllLaws
namespace Go.Proofs.Ytlmpecahmmgphaa.PureLay
open Go.RowKit Go.Proofs.Ytlmpecahmmgphaa.Lay Go.Proofs.Ytlmpecahmmgphaa.Math Go.Proofs.YtlmpecahmmgphaaW.PrintWords Go.Proofs.YtlmpecahmmgphaaW.PrintLast Go.Proofs.YtlmpecahmmgphaaW.PrintMore
open Go.Proofs.Ytlmpecahmmgphaa.XLay (S52 field_Fits.f field_Sign.f field_bits.f rd_T52 z52)
set_option linter.unusedVariables false
set_option linter.unusedSimpArgs false
theorem and_not (a j : Nat) (ha : a < 2 ^ 64) (hj : j ≤ 64) : a &&& (2 ^ 64 - (2 ^ j - 1 + 1)) = a / 2 ^ j * 2 ^ j := by
  apply Nat.eq_of_testBit_eq
  intro i
  have hp : 2 ^ j - 1 < 2 ^ 64 := by have := Nat.pow_le_pow_right (show 0 < 2 by decide) hj; have := Nat.two_pow_pos j; omega
  rw [Nat.testBit_and, Nat.testBit_two_pow_sub_succ hp, Nat.testBit_two_pow_sub_one, Nat.testBit_mul_two_pow, Nat.testBit_div_two_pow]
  by_cases h : i < j
  · simp [h, show ¬ j ≤ i by omega]
  · have h2 : j ≤ i := by omega
    simp only [h, h2, decide_true, decide_false, Bool.not_false, Bool.and_true, Bool.true_and]
    rw [show i - j + j = i by omega]
    by_cases h3 : i < 64
    · simp [h3]
    · have : a.testBit i = false := Nat.testBit_lt_two_pow (Nat.lt_of_lt_of_le ha (Nat.pow_le_pow_right (by decide) (by omega)))
      simp [this]
theorem i64_andNot (x : Int) (j : Nat) (h0 : 0 ≤ x) (h1 : x < 9223372036854775808) (hj : j ≤ 62) : Go.bits .andNot .i64 x ((2 : Int) ^ j - 1) = x / 2 ^ j * 2 ^ j := by
  obtain ⟨a, rfl⟩ := Int.eq_ofNat_of_zero_le h0
  have hpos : 0 < 2 ^ j := Nat.two_pow_pos j
  have hle : 2 ^ j ≤ 2 ^ 62 := Nat.pow_le_pow_right (by decide) hj
  have hc : ((2 : Int) ^ j - 1) = ((2 ^ j - 1 : Nat) : Int) := by rw [Int.natCast_sub hpos]; simp
  rw [hc]
  show IntKind.i64.wrap ((BitVec.ofInt 64 (a : Int) &&& ~~~BitVec.ofInt 64 ((2 ^ j - 1 : Nat) : Int)).toNat : Int) = _
  rw [BitVec.toNat_and, BitVec.toNat_not]
  have e1 : (BitVec.ofInt 64 (a : Int)).toNat = a := by simp [BitVec.ofInt_natCast]; omega
  have e2 : (BitVec.ofInt 64 ((2 ^ j - 1 : Nat) : Int)).toNat = 2 ^ j - 1 := by rw [BitVec.ofInt_natCast, BitVec.toNat_ofNat]; exact Nat.mod_eq_of_lt (by omega)
  rw [e1, e2]
  have e3 : 2 ^ 64 - 1 - (2 ^ j - 1) = 2 ^ 64 - (2 ^ j - 1 + 1) := by omega
  rw [e3, and_not a j (by omega) (by omega)]
  have h4 : a / 2 ^ j * 2 ^ j ≤ a := Nat.div_mul_le_self a _
  have e4 : ((a / 2 ^ j * 2 ^ j : Nat) : Int) = (a : Int) / 2 ^ j * 2 ^ j := by simp
  rw [← e4, IntKind.wrap_i64]
  omega
theorem pow_of (n : Int) (h1 : 1 ≤ n) (h2 : n ≤ 4096) (h : Go.bits .and .i64 n (n - 1) = 0) : ∃ j : Nat, j ≤ 12 ∧ n = 2 ^ j := by
  have all : ∀ a : Fin 64, ∀ b : Fin 64, Go.bits .and .i64 (((64 * a.val + b.val : Nat) : Int) + 1) ((64 * a.val + b.val : Nat) : Int) = 0 → ∃ j : Fin 13, 64 * a.val + b.val + 1 = 2 ^ j.val := by decide +kernel
  have hk : ∀ k : Nat, k < 4096 → Go.bits .and .i64 ((k : Int) + 1) (k : Int) = 0 → ∃ j : Fin 13, k + 1 = 2 ^ j.val := fun k hk hb => by
    have := all ⟨k / 64, by omega⟩ ⟨k % 64, by omega⟩
    simp only [Nat.div_add_mod] at this
    exact this hb
  obtain ⟨k, hk1⟩ : ∃ k : Nat, n = (k : Int) + 1 := ⟨(n - 1).toNat, by omega⟩
  subst hk1
  rw [show (k : Int) + 1 - 1 = k by omega] at h
  obtain ⟨j, hj⟩ := hk k (by omega) h
  refine ⟨j.val, by omega, ?_⟩
  have : ((2 ^ j.val : Nat) : Int) = (k : Int) + 1 := by omega
  rw [← this]; simp

/-- How many bytes a piece has at a place. -/
def szP (v : PV) (nb : Bool) (e : Int) : Int := match v with
  | .fix z => z
  | .br s n _ _ => if nb = true then n else s
  | .al n => (n - e % n) % n
theorem w64 (x : Int) (h0 : -9223372036854775808 ≤ x) (h1 : x ≤ 9223372036854775807) : wrap64 x = x := by unfold wrap64; omega
theorem al_eq (n e : Int) (h1 : 1 ≤ n) (h2 : n ≤ 4096) (h : Go.bits .and .i64 n (n - 1) = 0) (h0 : 0 ≤ e) (he : e ≤ 1125899906842624) :
    Go.bits .andNot .i64 (wrap64 (wrap64 (e + n) - 1)) (wrap64 (n - 1)) = e + (n - e % n) % n ∧ 0 ≤ (n - e % n) % n ∧ (n - e % n) % n < n := by
  obtain ⟨j, hj, rfl⟩ := pow_of n h1 h2 h
  rw [w64 (e + 2 ^ j) (by omega) (by omega), w64 (e + 2 ^ j - 1) (by omega) (by omega), w64 (2 ^ j - 1) (by omega) (by omega), i64_andNot _ j (by omega) (by omega) (by omega)]
  clear h h1 h2
  have : j = 0 ∨ j = 1 ∨ j = 2 ∨ j = 3 ∨ j = 4 ∨ j = 5 ∨ j = 6 ∨ j = 7 ∨ j = 8 ∨ j = 9 ∨ j = 10 ∨ j = 11 ∨ j = 12 := by omega
  rcases this with rfl | rfl | rfl | rfl | rfl | rfl | rfl | rfl | rfl | rfl | rfl | rfl | rfl <;> (simp only [show (2 : Int) ^ 0 = 1 from rfl, show (2 : Int) ^ 1 = 2 from rfl, show (2 : Int) ^ 2 = 4 from rfl, show (2 : Int) ^ 3 = 8 from rfl, show (2 : Int) ^ 4 = 16 from rfl, show (2 : Int) ^ 5 = 32 from rfl, show (2 : Int) ^ 6 = 64 from rfl, show (2 : Int) ^ 7 = 128 from rfl, show (2 : Int) ^ 8 = 256 from rfl, show (2 : Int) ^ 9 = 512 from rfl, show (2 : Int) ^ 10 = 1024 from rfl, show (2 : Int) ^ 11 = 2048 from rfl, show (2 : Int) ^ 12 = 4096 from rfl]; omega)
theorem step_eq (many : Int) (v : PV) (nb : Bool) (e : Int) (hv : okV many v) (h0 : 0 ≤ e) (he : e ≤ 1125899906842624) : stepP v nb e = e + szP v nb e ∧ 0 ≤ szP v nb e ∧ szP v nb e ≤ 1048576 := by
  cases v with
  | fix z => obtain ⟨h1, h2⟩ := hv; exact ⟨w64 _ (by omega) (by omega), h1, h2⟩
  | br s n t o =>
    obtain ⟨h1, h2, h3, _⟩ := hv
    cases nb
    · exact ⟨w64 _ (by omega) (by omega), by show 0 ≤ s; omega, by show s ≤ 1048576; omega⟩
    · exact ⟨w64 _ (by omega) (by omega), by show 0 ≤ n; omega, by show n ≤ 1048576; omega⟩
  | al n =>
    obtain ⟨h1, h2, h3⟩ := hv
    have := al_eq n e h1 h2 h3 h0 he
    exact ⟨this.1, this.2.1, by have := this.2.2; show (n - e % n) % n ≤ _; omega⟩
/-- Where the pieces begin. -/
def posL (ps : List PV) (near : List Bool) (o : Int) : Nat → Int
  | 0 => o
  | i + 1 => posL ps near o i + szP (ps.getD i (.fix 0)) (near.getD i false) (posL ps near o i)
theorem posL_succ (ps : List PV) (near : List Bool) (o : Int) (i : Nat) : posL ps near o (i + 1) = posL ps near o i + szP (ps.getD i (.fix 0)) (near.getD i false) (posL ps near o i) := rfl
/-- Pieces that may be, not too many, and an origin that may be. -/
structure Fine (ps : List PV) (o : Int) : Prop where
  ok : ∀ i, i < ps.length → okV ps.length (ps.getD i (.fix 0))
  n : ps.length ≤ 200
  o0 : 0 ≤ o
  o1 : o ≤ 140737488355328
theorem pos_bd {ps : List PV} {o : Int} (F : Fine ps o) (near : List Bool) : ∀ i, i ≤ ps.length → o ≤ posL ps near o i ∧ posL ps near o i ≤ o + i * 1048576 := by
  intro i
  induction i with
  | zero => intro _; exact ⟨Int.le_refl _, by show o ≤ _; omega⟩
  | succ i ih =>
    intro hi
    obtain ⟨h1, h2⟩ := ih (by omega)
    have hn := F.n
    have h3 := F.o1
    have h4 := F.o0
    obtain ⟨_, h5, h6⟩ := step_eq _ _ (near.getD i false) (posL ps near o i) (F.ok i (by omega)) (by omega) (by omega)
    rw [posL_succ]
    omega
theorem rd_app1 (xs : List Int) (y : Int) (j : Nat) (h : j < xs.length) : rd (xs ++ [y]) (j : Int) = rd xs (j : Int) := by
  unfold rd
  simp [List.getD_eq_getElem?_getD, List.getElem?_append_left h]
theorem rd_app2 (xs : List Int) (y : Int) : rd (xs ++ [y]) (xs.length : Int) = y := by
  unfold rd
  simp [List.getD_eq_getElem?_getD]
theorem lie_rd {ps : List PV} {o : Int} (F : Fine ps o) (near : List Bool) : ∀ i, i ≤ ps.length → ∀ j, j ≤ i → rd (lieL ps near o i) (j : Int) = posL ps near o j := by
  intro i
  induction i with
  | zero => intro _ j hj; obtain rfl : j = 0 := by omega
            rfl
  | succ i ih =>
    intro hi j hj
    rw [lieL_succ]
    have hlen := lieL_len ps near o i
    by_cases h : j ≤ i
    · rw [rd_app1 _ _ _ (by omega)]; exact ih (by omega) j h
    · obtain rfl : j = i + 1 := by omega
      have e : ((i + 1 : Nat) : Int) = ((lieL ps near o i).length : Int) := by rw [hlen]
      rw [e, rd_app2, ih (by omega) i (Nat.le_refl _), posL_succ]
      have hb := pos_bd F near i (by omega)
      have hn := F.n
      have h3 := F.o1
      have h4 := F.o0
      exact (step_eq _ _ _ _ (F.ok i (by omega)) (by omega) (by omega)).1
theorem lie_pos {ps : List PV} {o : Int} (F : Fine ps o) (near : List Bool) (j : Nat) (hj : j ≤ ps.length) : rd (lieL ps near o ps.length) (j : Int) = posL ps near o j := lie_rd F near ps.length (Nat.le_refl _) j hj
theorem fits_eq (x b : Int) (h : b = 8 ∨ b = 32) : field_Fits.f x b = some (decide (-hf b ≤ x ∧ x < hf b)) := by
  have hb : field_bits.f b = some true := by rcases h with rfl | rfl <;> decide
  have h1 : 1 ≤ b := by omega
  have h2 : b ≤ 64 := by omega
  unfold field_Fits.f field_Sign.f
  rw [hb]
  simp only [Option.bind_some, if_true]
  rw [wrap64_64 b h1 h2, if_pos (by omega), sign_eq x b h1 h2]
  simp only [Option.bind_some]
  have := sg_iff x b
  by_cases hq : -hf b ≤ x ∧ x < hf b
  · rw [decide_eq_true hq, this.2 hq]; simp
  · rw [decide_eq_false hq]
    have : sg x b ≠ x := fun e => hq (this.1 e)
    simp [this]
theorem hf8 : hf 8 = 128 := rfl
theorem hf32 : hf 32 = 2147483648 := rfl
/-- A branch's distance. -/
def dst (ps : List PV) (near : List Bool) (o : Int) (t off : Int) (i : Nat) : Int := posL ps near o t.toNat + off - posL ps near o (i + 1)
theorem off_bd {o : Int} (h : field_Fits.f o 32 = some true) : -2147483648 ≤ o ∧ o < 2147483648 := by
  rw [fits_eq o 32 (.inr rfl), hf32] at h
  simpa using h
theorem reach_eq {ps : List PV} {o : Int} (F : Fine ps o) (near : List Bool) (t off : Int) (i : Nat) (b : Int) (hb : b = 8 ∨ b = 32) (hi : i < ps.length) (h0 : 0 ≤ t) (h1 : t ≤ ps.length) (hf_ : field_Fits.f off 32 = some true) :
    reachP (lieL ps near o ps.length) t off i b = decide (-hf b ≤ dst ps near o t off i ∧ dst ps near o t off i < hf b) := by
  unfold reachP
  have ht : t = (t.toNat : Int) := by omega
  have e1 : rd (lieL ps near o ps.length) t = posL ps near o t.toNat := by rw [ht]; simp only [Int.toNat_natCast]; exact lie_pos F near _ (by omega)
  have e2 : rd (lieL ps near o ps.length) ((i : Int) + 1) = posL ps near o (i + 1) := by have := lie_pos F near (i + 1) (by omega); simpa using this
  have b1 := pos_bd F near t.toNat (by omega)
  have b2 := pos_bd F near (i + 1) (by omega)
  have hn := F.n
  have h3 := F.o1
  have h4 := F.o0
  have ho := off_bd hf_
  rw [e1, e2, w64 (posL ps near o t.toNat + off) (by omega) (by omega), w64 _ (by omega) (by omega), fits_eq _ _ hb]
  rfl
end Go.Proofs.Ytlmpecahmmgphaa.PureLay
