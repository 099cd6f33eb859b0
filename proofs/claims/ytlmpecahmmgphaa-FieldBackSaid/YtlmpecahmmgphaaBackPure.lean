/- The plain law of FieldBack: the function that the walk finds answers true for any numbers and any bytes. -/
import Derived.Test.YtlmpecahmmgphaaBackWalk
import Derived.Test.YtlmpecahmmgphaaMathB
namespace Go.Proofs.Ytlmpecahmmgphaa.BackPure
open Go.RowKit Go.Proofs.Ytlmpecahmmgphaa.PFieldBack Go.Proofs.Ytlmpecahmmgphaa.Math Go.Proofs.YtlmpecahmmgphaaW.PrintWords Go.Proofs.YtlmpecahmmgphaaW.PrintLast Go.Proofs.YtlmpecahmmgphaaW.PrintMore

theorem bits_eq (b : Int) : field_bits.f b = some (decide (ok b)) := by
  unfold field_bits.f ok
  by_cases h : b ≥ 1
  · rw [if_pos h]; simp; intro; omega
  · rw [if_neg h]; simp; intro; omega
theorem sign_in (n b : Int) (h : ok b) : field_Sign.f n b = some (sg n b) := by
  unfold field_Sign.f
  rw [bits_eq, decide_eq_true h]
  simp only [Option.bind_some, if_true]
  rw [wrap64_64 b h.1 h.2, if_pos (by have := h.2; omega), sign_eq n b h.1 h.2]
theorem sign_out (n b : Int) (h : ¬ ok b) : field_Sign.f n b = some 0 := by
  unfold field_Sign.f
  rw [bits_eq, decide_eq_false h]
  simp
theorem low_in (n b : Int) (hn : -9223372036854775808 ≤ n ∧ n ≤ 9223372036854775807) (h : ok b) : field_Low.f n b = some (lo n b) := by
  unfold field_Low.f
  rw [bits_eq, decide_eq_true h]
  simp only [Option.bind_some, if_true]
  rw [wrap64_64 b h.1 h.2, if_pos (by have := h.2; omega), low_eq n b hn h.1 h.2]
theorem low_out (n b : Int) (h : ¬ ok b) : field_Low.f n b = some 0 := by
  unfold field_Low.f
  rw [bits_eq, decide_eq_false h]
  simp
theorem fits_in (n b : Int) (h : ok b) : field_Fits.f n b = some (sg n b == n) := by
  unfold field_Fits.f
  rw [bits_eq, decide_eq_true h, sign_in n b h]
  rfl
theorem fits_out (n b : Int) (h : ¬ ok b) : field_Fits.f n b = some false := by
  unfold field_Fits.f
  rw [bits_eq, decide_eq_false h]
  rfl
theorem wide_in (n b : Int) (hn : -9223372036854775808 ≤ n ∧ n ≤ 9223372036854775807) (h : ok b) : field_Wide.f n b = some (sg n b == n || lo n b == n) := by
  unfold field_Wide.f
  rw [bits_eq, decide_eq_true h, sign_in n b h, low_in n b hn h]
  simp only [Option.bind_some, if_true]
  by_cases e : sg n b = n
  · rw [if_pos e, beq_iff_eq.2 e]; rfl
  · rw [if_neg e, beq_eq_false_iff_ne.2 e]; rfl
theorem wide_out (n b : Int) (h : ¬ ok b) : field_Wide.f n b = some false := by
  unfold field_Wide.f
  rw [bits_eq, decide_eq_false h]
  rfl

/-- The bytes of a number. -/
def by1 (n : Int) : List Int := [n % 256]
def by2 (n : Int) : List Int := [n % 256, n / 256 % 256]
def by4 (n : Int) : List Int := [n % 256, n / 256 % 256, n / 65536 % 256, n / 16777216 % 256]
def by8 (n : Int) : List Int := [n % 256, n / 256 % 256, n / 65536 % 256, n / 16777216 % 256, n / 4294967296 % 256, n / 1099511627776 % 256, n / 281474976710656 % 256, n / 72057594037927936 % 256]
def byN (s n : Int) : List Int := if s = 1 then by1 n else if s = 2 then by2 n else if s = 4 then by4 n else by8 n
def size (s : Int) : Prop := s = 1 ∨ s = 2 ∨ s = 4 ∨ s = 8
theorem shr_at (n : Int) (j m : Nat) (h : j ≤ 64) (e : (2 : Int) ^ j = (m : Int)) : shr .i64 n (j : Int) = n / m := by
  unfold shr
  rw [show min ((j : Int)).toNat IntKind.i64.bits = j from Nat.min_eq_left (by show j ≤ 64; exact h), e]
theorem put_l (k : Nat) (n s : Int) (h : size s) : field_Put.l0 (k + 9) n [] s 0 = some (byN s n, 0) := by
  rcases h with rfl | rfl | rfl | rfl <;> simp [field_Put.l0, wrap64, shr, IntKind.bits, byN, by1, by2, by4, by8]

theorem rd_byte {l : List Int} (hb : ∀ x ∈ l, 0 ≤ x ∧ x ≤ 255) (i : Int) : 0 ≤ rd l i ∧ rd l i ≤ 255 := by
  unfold rd
  rw [List.getD_eq_getElem?_getD]
  rcases Nat.lt_or_ge i.toNat l.length with h | h
  · rw [List.getElem?_eq_getElem h]
    exact hb _ (List.getElem_mem h)
  · rw [List.getElem?_eq_none h]; simp
theorem get_step (k : Nat) (l : List Int) (p s x : Int) (j : Nat) (sgd : Bool) (hb : ∀ x ∈ l, 0 ≤ x ∧ x ≤ 255) (hl : l.length ≤ 1000) (h0 : 0 ≤ p) (h1 : p + s ≤ l.length) (hj : (j : Int) < s) (hj2 : j ≤ 7)
    (hx0 : 0 ≤ x) (hx1 : x < 2 ^ (8 * j)) :
    field_Get.l0 (k + 1) l p s sgd x s (j : Int) = field_Get.l0 k l p s sgd (wrap64 (x + rd l (p + j) * 2 ^ (8 * j))) s ((j + 1 : Nat) : Int) := by
  have hw : wrap64 (p + j) = p + j := by unfold wrap64; omega
  have hw8 : wrap64 (8 * (j : Int)) = 8 * (j : Int) := by unfold wrap64; omega
  have hwj : wrap64 ((j : Int) + 1) = ((j + 1 : Nat) : Int) := by unfold wrap64; omega
  have hr := rd_byte hb (p + j)
  have hwr : wrap64 (rd l (p + j)) = rd l (p + j) := by unfold wrap64; omega
  have hsh : shl .i64 (rd l (p + j)) (8 * (j : Int)) = wrap64 (rd l (p + j) * 2 ^ (8 * j)) := by
    unfold shl
    rw [show min (8 * (j : Int)).toNat IntKind.i64.bits = 8 * j from by
      have : (8 * (j : Int)).toNat = 8 * j := by omega
      rw [this]; exact Nat.min_eq_left (by show 8 * j ≤ 64; omega), i64_w]
  simp only [field_Get.l0]
  rw [if_pos hj, hw, if_pos (by omega), if_pos (by omega), hw8, if_pos (by omega), hwj, hwr, hsh, or_join x _ (8 * j) (by omega) hx0 hx1]
/-- The number that stands there. -/
def va1 (l : List Int) (p : Int) : Int := rd l p
def va2 (l : List Int) (p : Int) : Int := rd l p + rd l (p + 1) * 256
def va4 (l : List Int) (p : Int) : Int := rd l p + rd l (p + 1) * 256 + rd l (p + 2) * 65536 + rd l (p + 3) * 16777216
def va8 (l : List Int) (p : Int) : Int := rd l p + rd l (p + 1) * 256 + rd l (p + 2) * 65536 + rd l (p + 3) * 16777216 + rd l (p + 4) * 4294967296 + rd l (p + 5) * 1099511627776 + rd l (p + 6) * 281474976710656 + rd l (p + 7) * 72057594037927936
def vaN (s : Int) (l : List Int) (p : Int) : Int := if s = 1 then va1 l p else if s = 2 then va2 l p else if s = 4 then va4 l p else va8 l p
def fin (sgd : Bool) (v s : Int) : Option (Int × Int) := if sgd = true then (field_Sign.f v (wrap64 (8 * s))).bind fun t => some (t, 0) else some (v, 0)
theorem get_end (k : Nat) (l : List Int) (p s x : Int) (sgd : Bool) : field_Get.l0 (k + 1) l p s sgd x s s = fin sgd x s := by
  simp only [field_Get.l0]
  rw [if_neg (by omega)]
  rfl
theorem get_l (k : Nat) (l : List Int) (p s : Int) (sgd : Bool) (hb : ∀ x ∈ l, 0 ≤ x ∧ x ≤ 255) (hl : l.length ≤ 1000) (h0 : 0 ≤ p) (h1 : p + s ≤ l.length) (h : size s) :
    field_Get.l0 (k + 9) l p s sgd 0 s 0 = fin sgd (wrap64 (vaN s l p)) s := by
  have st := fun k x j h2 h3 h4 h5 => get_step k l p s x j sgd hb hl h0 h1 h2 h3 h4 h5
  have b0 := rd_byte hb p
  have b1 := rd_byte hb (p + 1)
  have b2 := rd_byte hb (p + 2)
  have b3 := rd_byte hb (p + 3)
  have b4 := rd_byte hb (p + 4)
  have b5 := rd_byte hb (p + 5)
  have b6 := rd_byte hb (p + 6)
  have e0 : field_Get.l0 (k + 9) l p s sgd 0 s 0 = field_Get.l0 (k + 8) l p s sgd (va1 l p) s 1 := by
    have := st (k + 8) 0 0 (by rcases h with rfl | rfl | rfl | rfl <;> decide) (by omega) (by omega) (by decide)
    rw [show ((0 : Nat) : Int) = 0 from rfl] at this
    rw [this]
    congr 1
    show wrap64 (0 + rd l (p + 0) * 1) = rd l p
    rw [Int.add_zero p]
    unfold wrap64; omega
  have e1 : 1 < s → field_Get.l0 (k + 8) l p s sgd (va1 l p) s 1 = field_Get.l0 (k + 7) l p s sgd (va2 l p) s 2 := by
    intro hs
    have := st (k + 7) (va1 l p) 1 hs (by omega) (by unfold va1; omega) (by unfold va1; show rd l p < 256; omega)
    refine this.trans ?_
    congr 1
    show wrap64 (rd l p + rd l (p + 1) * 256) = rd l p + rd l (p + 1) * 256
    unfold wrap64; omega
  have e2 : 2 < s → field_Get.l0 (k + 7) l p s sgd (va2 l p) s 2 = field_Get.l0 (k + 5) l p s sgd (va4 l p) s 4 := by
    intro hs
    have hs4 : 3 < s := by rcases h with rfl | rfl | rfl | rfl <;> omega
    have t1 := st (k + 6) (va2 l p) 2 hs (by omega) (by unfold va2; omega) (by unfold va2; show _ < 65536; omega)
    have t2 := st (k + 5) (va2 l p + rd l (p + 2) * 65536) 3 hs4 (by omega) (by unfold va2; omega) (by unfold va2; show _ < 16777216; omega)
    refine (t1.trans ?_).trans (t2.trans ?_)
    · congr 1
      show wrap64 (va2 l p + rd l (p + 2) * 65536) = va2 l p + rd l (p + 2) * 65536
      unfold va2 wrap64; omega
    · congr 1
      show wrap64 (va2 l p + rd l (p + 2) * 65536 + rd l (p + 3) * 16777216) = va4 l p
      unfold va2 va4 wrap64; omega
  have e4 : 4 < s → field_Get.l0 (k + 5) l p s sgd (va4 l p) s 4 = field_Get.l0 (k + 1) l p s sgd (wrap64 (va8 l p)) s 8 := by
    intro hs
    have hs8 : 7 < s := by rcases h with rfl | rfl | rfl | rfl <;> omega
    have t1 := st (k + 4) (va4 l p) 4 hs (by omega) (by unfold va4; omega) (by unfold va4; show _ < 4294967296; omega)
    have t2 := st (k + 3) (va4 l p + rd l (p + 4) * 4294967296) 5 (show (5 : Int) < s by omega) (by omega) (by unfold va4; omega) (by unfold va4; show _ < 1099511627776; omega)
    have t3 := st (k + 2) (va4 l p + rd l (p + 4) * 4294967296 + rd l (p + 5) * 1099511627776) 6 (show (6 : Int) < s by omega) (by omega) (by unfold va4; omega) (by unfold va4; show _ < 281474976710656; omega)
    have t4 := st (k + 1) (va4 l p + rd l (p + 4) * 4294967296 + rd l (p + 5) * 1099511627776 + rd l (p + 6) * 281474976710656) 7 (show (7 : Int) < s by omega) (by omega) (by unfold va4; omega) (by unfold va4; show _ < 72057594037927936; omega)
    refine (t1.trans ?_).trans ((t2.trans ?_).trans ((t3.trans ?_).trans (t4.trans ?_)))
    · congr 1
      show wrap64 (va4 l p + rd l (p + 4) * 4294967296) = va4 l p + rd l (p + 4) * 4294967296
      unfold va4 wrap64; omega
    · congr 1
      show wrap64 (va4 l p + rd l (p + 4) * 4294967296 + rd l (p + 5) * 1099511627776) = va4 l p + rd l (p + 4) * 4294967296 + rd l (p + 5) * 1099511627776
      unfold va4 wrap64; omega
    · congr 1
      show wrap64 (va4 l p + rd l (p + 4) * 4294967296 + rd l (p + 5) * 1099511627776 + rd l (p + 6) * 281474976710656) = va4 l p + rd l (p + 4) * 4294967296 + rd l (p + 5) * 1099511627776 + rd l (p + 6) * 281474976710656
      unfold va4 wrap64; omega
    · rfl
  rcases h with rfl | rfl | rfl | rfl
  · rw [e0, get_end]
    congr 1
    show va1 l p = wrap64 (va1 l p)
    unfold va1 wrap64; omega
  · rw [e0, e1 (by omega), get_end]
    congr 1
    show va2 l p = wrap64 (va2 l p)
    unfold va2 wrap64; omega
  · rw [e0, e1 (by omega), e2 (by omega), get_end]
    congr 1
    show va4 l p = wrap64 (va4 l p)
    unfold va4 wrap64; omega
  · rw [e0, e1 (by omega), e2 (by omega), e4 (by omega), get_end]
    rfl

theorem size_eq (s : Int) (h : size s) : field_size.f s = some true := by rcases h with rfl | rfl | rfl | rfl <;> rfl
theorem size_ok (s : Int) (h : size s) : wrap64 (8 * s) = 8 * s ∧ ok (8 * s) := by
  rcases h with rfl | rfl | rfl | rfl <;> exact ⟨by unfold wrap64; omega, by decide, by decide⟩
theorem put_f (K : Nat) (hK : 12 ≤ K) (n s : Int) (hn : -9223372036854775808 ≤ n ∧ n ≤ 9223372036854775807) (h : size s) :
    field_Put.f K n s = if (sg n (8 * s) == n || lo n (8 * s) == n) = true then some (byN s n, 0) else some ([], 5) := by
  obtain ⟨k, rfl⟩ : ∃ k, K = k + 9 := ⟨K - 9, by omega⟩
  obtain ⟨h1, h2⟩ := size_ok s h
  unfold field_Put.f
  rw [size_eq s h]
  simp only [Option.bind_some, if_true]
  rw [h1, wide_in n _ hn h2]
  simp only [Option.bind_some]
  rw [put_l k n s h]
theorem get_f (K : Nat) (hK : 12 ≤ K) (l : List Int) (p s : Int) (sgd : Bool) (hb : ∀ x ∈ l, 0 ≤ x ∧ x ≤ 255) (hl : l.length ≤ 1000) (h0 : 0 ≤ p) (h1 : p ≤ l.length) (h : size s) :
    field_Get.f K l p s sgd = if (l.length : Int) - p < s then some (0, 9) else fin sgd (wrap64 (vaN s l p)) s := by
  obtain ⟨k, rfl⟩ : ∃ k, K = k + 10 := ⟨K - 10, by omega⟩
  unfold field_Get.f
  rw [size_eq s h]
  simp only [Option.bind_some, if_true]
  rw [if_neg (by omega), decide_eq_false (by omega)]
  show field_Get.j0 ((k + 9) + 1) l p s sgd false = _
  simp only [field_Get.j0]
  rw [if_neg (by simp), show wrap64 ((l.length : Int) - p) = (l.length : Int) - p by unfold wrap64; omega]
  by_cases e : (l.length : Int) - p < s
  · rw [if_pos e, if_pos e]
  · rw [if_neg e, if_neg e, get_l k l p s sgd hb hl h0 (by omega) h]
theorem fin_yes (v s : Int) (h : size s) : fin true v s = some (sg v (8 * s), 0) := by
  obtain ⟨h1, h2⟩ := size_ok s h
  unfold fin
  rw [if_pos rfl, h1, sign_in v _ h2]; rfl
theorem fin_no (v s : Int) : fin false v s = some (v, 0) := by unfold fin; rw [if_neg (by simp)]

theorem rd_app (l ys : List Int) (j : Nat) : rd (l ++ ys) ((l.length : Int) + j) = rd ys j := by
  unfold rd
  rw [show ((l.length : Int) + j).toNat = l.length + j by omega, show (j : Int).toNat = j by omega]
  rw [List.getD_eq_getElem?_getD, List.getD_eq_getElem?_getD, List.getElem?_append_right (by omega)]
  congr 2; omega
theorem va_app (s : Int) (l ys : List Int) : vaN s (l ++ ys) l.length = vaN s ys 0 := by
  have h := fun j => rd_app l ys j
  have h0 : rd (l ++ ys) l.length = rd ys 0 := by have := h 0; simpa using this
  have h1 : rd (l ++ ys) ((l.length : Int) + 1) = rd ys 1 := h 1
  have h2 : rd (l ++ ys) ((l.length : Int) + 2) = rd ys 2 := h 2
  have h3 : rd (l ++ ys) ((l.length : Int) + 3) = rd ys 3 := h 3
  have h4 : rd (l ++ ys) ((l.length : Int) + 4) = rd ys 4 := h 4
  have h5 : rd (l ++ ys) ((l.length : Int) + 5) = rd ys 5 := h 5
  have h6 : rd (l ++ ys) ((l.length : Int) + 6) = rd ys 6 := h 6
  have h7 : rd (l ++ ys) ((l.length : Int) + 7) = rd ys 7 := h 7
  unfold vaN va1 va2 va4 va8
  simp only [Int.zero_add]
  rw [h0, h1, h2, h3, h4, h5, h6, h7]
theorem hf8 : hf 8 = 128 := rfl
theorem hf16 : hf 16 = 32768 := rfl
theorem hf32 : hf 32 = 2147483648 := rfl
theorem va_by (s n : Int) (h : size s) (hn : -9223372036854775808 ≤ n ∧ n ≤ 9223372036854775807) : wrap64 (vaN s (byN s n) 0) = lo n (8 * s) := by
  rcases h with rfl | rfl | rfl | rfl
  · show wrap64 (n % 256) = lo n 8
    unfold lo; rw [if_neg (by decide), hf8]; unfold wrap64; omega
  · show wrap64 (n % 256 + n / 256 % 256 * 256) = lo n 16
    unfold lo; rw [if_neg (by decide), hf16]; unfold wrap64; omega
  · show wrap64 (n % 256 + n / 256 % 256 * 256 + n / 65536 % 256 * 65536 + n / 16777216 % 256 * 16777216) = lo n 32
    unfold lo; rw [if_neg (by decide), hf32]; unfold wrap64; omega
  · show wrap64 (n % 256 + n / 256 % 256 * 256 + n / 65536 % 256 * 65536 + n / 16777216 % 256 * 16777216 + n / 4294967296 % 256 * 4294967296 + n / 1099511627776 % 256 * 1099511627776 + n / 281474976710656 % 256 * 281474976710656 + n / 72057594037927936 % 256 * 72057594037927936) = lo n 64
    unfold lo; rw [if_pos rfl]; unfold wrap64; omega
theorem sg_lo (n b : Int) : sg (lo n b) b = sg n b := by
  by_cases h : b = 64
  · unfold lo; rw [if_pos h]
  · obtain ⟨h1, h2, k, hk⟩ := sg_spec n b
    obtain ⟨h3, h4, j, hj⟩ := sg_spec (lo n b) b
    obtain ⟨_, _, i, hi⟩ := lo_spec n b h
    have := hf_pos b
    exact uniq (2 * hf b) _ _ (k - i - j) (by rw [Int.mul_sub, Int.mul_sub]; omega) (by omega) (by omega)
theorem take_rd (l : List Int) (m : Nat) (h : m ≤ l.length) : l.take m = (List.range m).map fun (j : Nat) => rd l (j : Int) := by
  apply List.ext_getElem
  · simp; omega
  · intro i h1 h2
    simp only [List.length_take] at h1
    simp [rd, List.getElem?_eq_getElem (show i < l.length by omega)]
theorem by_va (s : Int) (l : List Int) (h : size s) (hb : ∀ x ∈ l, 0 ≤ x ∧ x ≤ 255) (hl : s ≤ l.length) : byN s (sg (wrap64 (vaN s l 0)) (8 * s)) = l.take s.toNat := by
  have b0 := rd_byte hb 0
  have b1 := rd_byte hb 1
  have b2 := rd_byte hb 2
  have b3 := rd_byte hb 3
  have b4 := rd_byte hb 4
  have b5 := rd_byte hb 5
  have b6 := rd_byte hb 6
  have b7 := rd_byte hb 7
  rw [take_rd l s.toNat (by omega)]
  rcases h with rfl | rfl | rfl | rfl
  · show [sg (wrap64 (rd l 0)) 8 % 256] = [rd l 0]
    unfold sg; rw [hf8]
    congr 1; unfold wrap64; omega
  · show [sg (wrap64 (rd l 0 + rd l 1 * 256)) 16 % 256, sg (wrap64 (rd l 0 + rd l 1 * 256)) 16 / 256 % 256] = [rd l 0, rd l 1]
    have e : wrap64 (rd l 0 + rd l 1 * 256) = rd l 0 + rd l 1 * 256 := by unfold wrap64; omega
    rw [e]; unfold sg; rw [hf16]
    congr 1
    · omega
    · congr 1; omega
  · have e : wrap64 (va4 l 0) = rd l 0 + rd l 1 * 256 + rd l 2 * 65536 + rd l 3 * 16777216 := by
      show wrap64 (rd l 0 + rd l 1 * 256 + rd l 2 * 65536 + rd l 3 * 16777216) = _
      unfold wrap64; omega
    show by4 (sg (wrap64 (va4 l 0)) 32) = [rd l 0, rd l 1, rd l 2, rd l 3]
    rw [e]; unfold sg by4; rw [hf32]
    congr 1
    · omega
    · congr 1
      · omega
      · congr 1
        · omega
        · congr 1; omega
  · have e : wrap64 (va8 l 0) = rd l 0 + rd l 1 * 256 + rd l 2 * 65536 + rd l 3 * 16777216 + rd l 4 * 4294967296 + rd l 5 * 1099511627776 + rd l 6 * 281474976710656 + (if rd l 7 < 128 then rd l 7 else rd l 7 - 256) * 72057594037927936 := by
      show wrap64 (rd l 0 + rd l 1 * 256 + rd l 2 * 65536 + rd l 3 * 16777216 + rd l 4 * 4294967296 + rd l 5 * 1099511627776 + rd l 6 * 281474976710656 + rd l 7 * 72057594037927936) = _
      unfold wrap64; split <;> omega
    have e2 : sg (wrap64 (va8 l 0)) 64 = wrap64 (va8 l 0) := (sg_iff _ _).2 (by rw [hf64]; unfold wrap64; omega)
    show by8 (sg (wrap64 (va8 l 0)) 64) = [rd l 0, rd l 1, rd l 2, rd l 3, rd l 4, rd l 5, rd l 6, rd l 7]
    rw [e2, e]; unfold by8
    have c : ∃ q, (if rd l 7 < 128 then rd l 7 else rd l 7 - 256) = q ∧ -128 ≤ q ∧ q ≤ 127 ∧ q % 256 = rd l 7 := by
      split
      · exact ⟨_, rfl, by omega, by omega, by omega⟩
      · exact ⟨_, rfl, by omega, by omega, by omega⟩
    obtain ⟨q, hq, q1, q2, q3⟩ := c
    rw [hq, ← q3]
    congr 1
    · omega
    · congr 1
      · omega
      · congr 1
        · omega
        · congr 1
          · omega
          · congr 1
            · omega
            · congr 1
              · omega
              · congr 1
                · omega
                · congr 1; omega
theorem by_len (s n : Int) (h : size s) : ((byN s n).length : Int) = s := by rcases h with rfl | rfl | rfl | rfl <;> rfl
theorem by_byte (s n : Int) (h : size s) : ∀ x ∈ byN s n, 0 ≤ x ∧ x ≤ 255 := by
  rcases h with rfl | rfl | rfl | rfl <;> intro x hx <;> simp [byN, by1, by2, by4, by8] at hx <;> omega
theorem awake_eq : linotypelaw01_awake.f 20 = some true := by decide +kernel
theorem pick_eq (x : Int) : ∃ p, linotypekit_Pick.f x 4 = some p ∧ 0 ≤ p ∧ p < 4 := by
  unfold linotypekit_Pick.f
  rw [if_neg (by omega), if_neg (by omega)]
  have h1 := Int.tmod_lt_of_pos x (b := 4) (by omega)
  have h2 : -4 < Int.tmod x 4 := by
    rw [Int.tmod_eq_emod]
    split <;> omega
  by_cases h : Int.tmod x 4 < 0
  · rw [if_pos h]
    refine ⟨_, rfl, ?_, ?_⟩ <;> (unfold wrap64; omega)
  · rw [if_neg h]
    exact ⟨_, rfl, by omega, by omega⟩
theorem shl_size (p : Int) (h0 : 0 ≤ p) (h1 : p < 4) : size (shl .i64 1 p) := by
  have : p = 0 ∨ p = 1 ∨ p = 2 ∨ p = 3 := by omega
  rcases this with rfl | rfl | rfl | rfl
  · exact .inl rfl
  · exact .inr (.inl rfl)
  · exact .inr (.inr (.inl rfl))
  · exact .inr (.inr (.inr rfl))
/-- The last part: what is got of any bytes is put as these. -/
theorem j0_eq (l : List Int) (s : Int) (h : size s) (hb : ∀ x ∈ l, 0 ≤ x ∧ x ≤ 255) (hl : l.length ≤ 1000) : linotypelaw01_FieldBack.j0 20 l true s = some true := by
  show linotypelaw01_FieldBack.j0 (19 + 1) l true s = some true
  simp only [linotypelaw01_FieldBack.j0]
  rw [get_f 19 (by omega) l 0 s true hb hl (by omega) (by omega) h]
  by_cases e : (l.length : Int) - 0 < s
  · rw [if_pos e]
    simp only [Option.bind_some]
    rw [if_neg (by decide)]
    simp
    omega
  · rw [if_neg e, fin_yes _ s h]
    simp only [Option.bind_some, if_true]
    have hsp := sg_spec (wrap64 (vaN s l 0)) (8 * s)
    have hle := hf_le (8 * s) (size_ok s h).2.1 (size_ok s h).2.2
    rw [put_f 19 (by omega) _ s (by omega) h, sg_sg]
    rw [if_pos (by simp)]
    simp only [Option.bind_some, if_true]
    have hs0 : 0 ≤ s := by rcases h with rfl | rfl | rfl | rfl <;> decide
    rw [if_pos hs0, if_pos (by omega), by_va s l h hb (by omega)]
    unfold linotypekit_SameBytes.f
    simp
theorem FieldBack : linotypelaw01_FieldBack.Pure := by
  intro n which l hn _ _ _ hb0
  have hb : ∀ x ∈ l, 0 ≤ x ∧ x ≤ 255 := fun x hx => wf8 (hb0 x hx)
  have hn := wf64 hn
  refine ⟨20, ?_⟩
  unfold linotypelaw01_FieldBack.f
  rw [awake_eq]
  simp only [Option.bind_some]
  by_cases h50 : (l.length : Int) > 50
  · rw [if_pos h50]
  · rw [if_neg h50]
    obtain ⟨p, hp, p0, p1⟩ := pick_eq which
    rw [hp]
    simp only [Option.bind_some]
    rw [if_pos p0]
    have hs := shl_size p p0 p1
    generalize shl .i64 1 p = s at *
    obtain ⟨w8, ok8⟩ := size_ok s hs
    rw [w8, put_f 20 (by omega) n s hn hs, wide_in n _ hn ok8]
    have hj := j0_eq l s hs hb (by omega)
    by_cases hw : (sg n (8 * s) == n || lo n (8 * s) == n) = true
    · rw [if_pos hw]
      simp only [Option.bind_some, hw]
      rw [if_neg (by simp), if_pos trivial]
      have hc : linotypekit_CopyBytes.f l = some l := by
        unfold linotypekit_CopyBytes.f
        simp only [Option.bind_some]
        rw [if_pos (by simp; omega)]
        rfl
      rw [hc]
      simp only [Option.bind_some]
      have hbl := by_len s n hs
      have hsm : s ≤ 8 := by rcases hs with rfl | rfl | rfl | rfl <;> decide
      have hs1 : 1 ≤ s := by rcases hs with rfl | rfl | rfl | rfl <;> decide
      rw [if_pos (by omega)]
      have hbb : ∀ x ∈ l ++ byN s n, 0 ≤ x ∧ x ≤ 255 := by
        intro x hx
        rcases List.mem_append.1 hx with hx | hx
        · exact hb x hx
        · exact by_byte s n hs x hx
      have hlen : ((l ++ byN s n).length : Int) = l.length + s := by rw [List.length_append]; push_cast; omega
      have hg := fun sgd => get_f 20 (by omega) (l ++ byN s n) (l.length : Int) s sgd hbb (by omega) (by omega) (by omega) hs
      have hg1 := hg true
      have hg2 := hg false
      rw [if_neg (by omega), fin_yes _ s hs, va_app, va_by s n hs hn, sg_lo] at hg1
      rw [if_neg (by omega), fin_no, va_app, va_by s n hs hn] at hg2
      rw [hg1, hg2]
      simp only [Option.bind_some, hbl, if_true]
      rw [fits_in n _ ok8]
      simp only [Option.bind_some]
      have hlo : sg n (8 * s) ≠ n → lo n (8 * s) = n := by
        intro hne
        simp only [Bool.or_eq_true, beq_iff_eq] at hw
        exact hw.resolve_left hne
      by_cases e : sg n (8 * s) = n
      · rw [if_pos e, if_pos (beq_iff_eq.2 e)]
        by_cases e0 : n ≥ 0
        · rw [if_pos e0]
          have : lo n (8 * s) = n := by
            by_cases h64 : 8 * s = 64
            · unfold lo; rw [if_pos h64]
            · have := (sg_iff n (8 * s)).1 e
              have := hf_pos (8 * s)
              exact (lo_iff n _ h64).2 ⟨by omega, by omega⟩
          rw [if_pos this, hj]
        · rw [if_neg e0, hj]
      · rw [if_neg e, if_pos (hlo e), if_neg (by simpa using e)]
        by_cases e0 : n ≥ 0
        · rw [if_pos e0, hj]
        · rw [if_neg e0, hj]
    · rw [if_neg hw]
      have hw' : (sg n (8 * s) == n || lo n (8 * s) == n) = false := by simpa using hw
      simp only [Option.bind_some, hw']
      rw [if_neg (by decide), if_neg (by decide), hj]
end Go.Proofs.Ytlmpecahmmgphaa.BackPure
