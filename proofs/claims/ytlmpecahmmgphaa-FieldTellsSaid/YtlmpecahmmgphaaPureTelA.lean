/- Plain facts on the numbers and bytes that the program's functions tell (FieldTells). No conditions. -/
import Derived.Test.YtlmpecahmmgphaaXTelx2
import Derived.Test.YtlmpecahmmgphaaXTelx4
import Derived.Test.YtlmpecahmmgphaaMathB
namespace Go.Proofs.Ytlmpecahmmgphaa.PureTel
open Go.RowKit Go.Proofs.Ytlmpecahmmgphaa.XTel Go.Proofs.Ytlmpecahmmgphaa.Math Go.Proofs.YtlmpecahmmgphaaW.PrintWords Go.Proofs.YtlmpecahmmgphaaW.PrintLast Go.Proofs.YtlmpecahmmgphaaW.PrintMore
set_option linter.unusedVariables false

theorem bits_eq (b : Int) : field_bits.f b = some (decide (ok b)) := by
  unfold field_bits.f ok
  by_cases h : b ≥ 1
  · rw [if_pos h]; simp; intro; omega
  · rw [if_neg h]; simp; intro; omega
theorem sign_in (n b : Int) (h : ok b) : field_Sign.f n b = some (sg n b) := by
  unfold field_Sign.f
  rw [bits_eq, decide_eq_true h]
  simp only [Option.bind_some, if_true]
  rw [wrap64_64 b h.1 h.2, if_pos (by have := h.2; omega), sign_eq n b h.1 h.2]
theorem sign_out (n b : Int) (h : ¬ ok b) : field_Sign.f n b = some 0 := by
  unfold field_Sign.f
  rw [bits_eq, decide_eq_false h]
  simp
theorem low_in (n b : Int) (hn : -9223372036854775808 ≤ n ∧ n ≤ 9223372036854775807) (h : ok b) : field_Low.f n b = some (lo n b) := by
  unfold field_Low.f
  rw [bits_eq, decide_eq_true h]
  simp only [Option.bind_some, if_true]
  rw [wrap64_64 b h.1 h.2, if_pos (by have := h.2; omega), low_eq n b hn h.1 h.2]
theorem low_out (n b : Int) (h : ¬ ok b) : field_Low.f n b = some 0 := by
  unfold field_Low.f
  rw [bits_eq, decide_eq_false h]
  simp
theorem wide_in (n b : Int) (hn : -9223372036854775808 ≤ n ∧ n ≤ 9223372036854775807) (h : ok b) : field_Wide.f n b = some (sg n b == n || lo n b == n) := by
  unfold field_Wide.f
  rw [bits_eq, decide_eq_true h, sign_in n b h, low_in n b hn h]
  simp only [Option.bind_some, if_true]
  by_cases e : sg n b = n
  · rw [if_pos e, beq_iff_eq.2 e]; rfl
  · rw [if_neg e, beq_eq_false_iff_ne.2 e]; rfl
theorem wide_out (n b : Int) (h : ¬ ok b) : field_Wide.f n b = some false := by
  unfold field_Wide.f
  rw [bits_eq, decide_eq_false h]
  rfl

/-- The bytes of a number. -/
def by1 (n : Int) : List Int := [n % 256]
def by2 (n : Int) : List Int := [n % 256, n / 256 % 256]
def by4 (n : Int) : List Int := [n % 256, n / 256 % 256, n / 65536 % 256, n / 16777216 % 256]
def by8 (n : Int) : List Int := [n % 256, n / 256 % 256, n / 65536 % 256, n / 16777216 % 256, n / 4294967296 % 256, n / 1099511627776 % 256, n / 281474976710656 % 256, n / 72057594037927936 % 256]
def byN (s n : Int) : List Int := if s = 1 then by1 n else if s = 2 then by2 n else if s = 4 then by4 n else by8 n
def size (s : Int) : Prop := s = 1 ∨ s = 2 ∨ s = 4 ∨ s = 8
theorem shr_at (n : Int) (j m : Nat) (h : j ≤ 64) (e : (2 : Int) ^ j = (m : Int)) : shr .i64 n (j : Int) = n / m := by
  unfold shr
  rw [show min ((j : Int)).toNat IntKind.i64.bits = j from Nat.min_eq_left (by show j ≤ 64; exact h), e]
theorem put_l (k : Nat) (n s : Int) (h : size s) : field_Put.l0 (k + 9) n [] s 0 = some (byN s n, 0) := by
  rcases h with rfl | rfl | rfl | rfl <;> simp [field_Put.l0, wrap64, shr, IntKind.bits, byN, by1, by2, by4, by8]

theorem rd_byte {l : List Int} (hb : ∀ x ∈ l, 0 ≤ x ∧ x ≤ 255) (i : Int) : 0 ≤ rd l i ∧ rd l i ≤ 255 := by
  unfold rd
  rw [List.getD_eq_getElem?_getD]
  rcases Nat.lt_or_ge i.toNat l.length with h | h
  · rw [List.getElem?_eq_getElem h]
    exact hb _ (List.getElem_mem h)
  · rw [List.getElem?_eq_none h]; simp
theorem get_step (k : Nat) (l : List Int) (p s x : Int) (j : Nat) (sgd : Bool) (hb : ∀ x ∈ l, 0 ≤ x ∧ x ≤ 255) (hl : l.length ≤ 1000) (h0 : 0 ≤ p) (h1 : p + s ≤ l.length) (hj : (j : Int) < s) (hj2 : j ≤ 7)
    (hx0 : 0 ≤ x) (hx1 : x < 2 ^ (8 * j)) :
    field_Get.l0 (k + 1) l p s sgd x s (j : Int) = field_Get.l0 k l p s sgd (wrap64 (x + rd l (p + j) * 2 ^ (8 * j))) s ((j + 1 : Nat) : Int) := by
  have hw : wrap64 (p + j) = p + j := by unfold wrap64; omega
  have hw8 : wrap64 (8 * (j : Int)) = 8 * (j : Int) := by unfold wrap64; omega
  have hwj : wrap64 ((j : Int) + 1) = ((j + 1 : Nat) : Int) := by unfold wrap64; omega
  have hr := rd_byte hb (p + j)
  have hwr : wrap64 (rd l (p + j)) = rd l (p + j) := by unfold wrap64; omega
  have hsh : shl .i64 (rd l (p + j)) (8 * (j : Int)) = wrap64 (rd l (p + j) * 2 ^ (8 * j)) := by
    unfold shl
    rw [show min (8 * (j : Int)).toNat IntKind.i64.bits = 8 * j from by
      have : (8 * (j : Int)).toNat = 8 * j := by omega
      rw [this]; exact Nat.min_eq_left (by show 8 * j ≤ 64; omega), i64_w]
  simp only [field_Get.l0]
  rw [if_pos hj, hw, if_pos (by omega), if_pos (by omega), hw8, if_pos (by omega), hwj, hwr, hsh, or_join x _ (8 * j) (by omega) hx0 hx1]
/-- The number that stands there. -/
def va1 (l : List Int) (p : Int) : Int := rd l p
def va2 (l : List Int) (p : Int) : Int := rd l p + rd l (p + 1) * 256
def va4 (l : List Int) (p : Int) : Int := rd l p + rd l (p + 1) * 256 + rd l (p + 2) * 65536 + rd l (p + 3) * 16777216
def va8 (l : List Int) (p : Int) : Int := rd l p + rd l (p + 1) * 256 + rd l (p + 2) * 65536 + rd l (p + 3) * 16777216 + rd l (p + 4) * 4294967296 + rd l (p + 5) * 1099511627776 + rd l (p + 6) * 281474976710656 + rd l (p + 7) * 72057594037927936
def vaN (s : Int) (l : List Int) (p : Int) : Int := if s = 1 then va1 l p else if s = 2 then va2 l p else if s = 4 then va4 l p else va8 l p
def fin (sgd : Bool) (v s : Int) : Option (Int × Int) := if sgd = true then (field_Sign.f v (wrap64 (8 * s))).bind fun t => some (t, 0) else some (v, 0)
theorem get_end (k : Nat) (l : List Int) (p s x : Int) (sgd : Bool) : field_Get.l0 (k + 1) l p s sgd x s s = fin sgd x s := by
  simp only [field_Get.l0]
  rw [if_neg (by omega)]
  rfl
theorem get_l (k : Nat) (l : List Int) (p s : Int) (sgd : Bool) (hb : ∀ x ∈ l, 0 ≤ x ∧ x ≤ 255) (hl : l.length ≤ 1000) (h0 : 0 ≤ p) (h1 : p + s ≤ l.length) (h : size s) :
    field_Get.l0 (k + 9) l p s sgd 0 s 0 = fin sgd (wrap64 (vaN s l p)) s := by
  have st := fun k x j h2 h3 h4 h5 => get_step k l p s x j sgd hb hl h0 h1 h2 h3 h4 h5
  have b0 := rd_byte hb p
  have b1 := rd_byte hb (p + 1)
  have b2 := rd_byte hb (p + 2)
  have b3 := rd_byte hb (p + 3)
  have b4 := rd_byte hb (p + 4)
  have b5 := rd_byte hb (p + 5)
  have b6 := rd_byte hb (p + 6)
  have e0 : field_Get.l0 (k + 9) l p s sgd 0 s 0 = field_Get.l0 (k + 8) l p s sgd (va1 l p) s 1 := by
    have := st (k + 8) 0 0 (by rcases h with rfl | rfl | rfl | rfl <;> decide) (by omega) (by omega) (by decide)
    rw [show ((0 : Nat) : Int) = 0 from rfl] at this
    rw [this]
    congr 1
    show wrap64 (0 + rd l (p + 0) * 1) = rd l p
    rw [Int.add_zero p]
    unfold wrap64; omega
  have e1 : 1 < s → field_Get.l0 (k + 8) l p s sgd (va1 l p) s 1 = field_Get.l0 (k + 7) l p s sgd (va2 l p) s 2 := by
    intro hs
    have := st (k + 7) (va1 l p) 1 hs (by omega) (by unfold va1; omega) (by unfold va1; show rd l p < 256; omega)
    refine this.trans ?_
    congr 1
    show wrap64 (rd l p + rd l (p + 1) * 256) = rd l p + rd l (p + 1) * 256
    unfold wrap64; omega
  have e2 : 2 < s → field_Get.l0 (k + 7) l p s sgd (va2 l p) s 2 = field_Get.l0 (k + 5) l p s sgd (va4 l p) s 4 := by
    intro hs
    have hs4 : 3 < s := by rcases h with rfl | rfl | rfl | rfl <;> omega
    have t1 := st (k + 6) (va2 l p) 2 hs (by omega) (by unfold va2; omega) (by unfold va2; show _ < 65536; omega)
    have t2 := st (k + 5) (va2 l p + rd l (p + 2) * 65536) 3 hs4 (by omega) (by unfold va2; omega) (by unfold va2; show _ < 16777216; omega)
    refine (t1.trans ?_).trans (t2.trans ?_)
    · congr 1
      show wrap64 (va2 l p + rd l (p + 2) * 65536) = va2 l p + rd l (p + 2) * 65536
      unfold va2 wrap64; omega
    · congr 1
      show wrap64 (va2 l p + rd l (p + 2) * 65536 + rd l (p + 3) * 16777216) = va4 l p
      unfold va2 va4 wrap64; omega
  have e4 : 4 < s → field_Get.l0 (k + 5) l p s sgd (va4 l p) s 4 = field_Get.l0 (k + 1) l p s sgd (wrap64 (va8 l p)) s 8 := by
    intro hs
    have hs8 : 7 < s := by rcases h with rfl | rfl | rfl | rfl <;> omega
    have t1 := st (k + 4) (va4 l p) 4 hs (by omega) (by unfold va4; omega) (by unfold va4; show _ < 4294967296; omega)
    have t2 := st (k + 3) (va4 l p + rd l (p + 4) * 4294967296) 5 (show (5 : Int) < s by omega) (by omega) (by unfold va4; omega) (by unfold va4; show _ < 1099511627776; omega)
    have t3 := st (k + 2) (va4 l p + rd l (p + 4) * 4294967296 + rd l (p + 5) * 1099511627776) 6 (show (6 : Int) < s by omega) (by omega) (by unfold va4; omega) (by unfold va4; show _ < 281474976710656; omega)
    have t4 := st (k + 1) (va4 l p + rd l (p + 4) * 4294967296 + rd l (p + 5) * 1099511627776 + rd l (p + 6) * 281474976710656) 7 (show (7 : Int) < s by omega) (by omega) (by unfold va4; omega) (by unfold va4; show _ < 72057594037927936; omega)
    refine (t1.trans ?_).trans ((t2.trans ?_).trans ((t3.trans ?_).trans (t4.trans ?_)))
    · congr 1
      show wrap64 (va4 l p + rd l (p + 4) * 4294967296) = va4 l p + rd l (p + 4) * 4294967296
      unfold va4 wrap64; omega
    · congr 1
      show wrap64 (va4 l p + rd l (p + 4) * 4294967296 + rd l (p + 5) * 1099511627776) = va4 l p + rd l (p + 4) * 4294967296 + rd l (p + 5) * 1099511627776
      unfold va4 wrap64; omega
    · congr 1
      show wrap64 (va4 l p + rd l (p + 4) * 4294967296 + rd l (p + 5) * 1099511627776 + rd l (p + 6) * 281474976710656) = va4 l p + rd l (p + 4) * 4294967296 + rd l (p + 5) * 1099511627776 + rd l (p + 6) * 281474976710656
      unfold va4 wrap64; omega
    · rfl
  rcases h with rfl | rfl | rfl | rfl
  · rw [e0, get_end]
    congr 1
    show va1 l p = wrap64 (va1 l p)
    unfold va1 wrap64; omega
  · rw [e0, e1 (by omega), get_end]
    congr 1
    show va2 l p = wrap64 (va2 l p)
    unfold va2 wrap64; omega
  · rw [e0, e1 (by omega), e2 (by omega), get_end]
    congr 1
    show va4 l p = wrap64 (va4 l p)
    unfold va4 wrap64; omega
  · rw [e0, e1 (by omega), e2 (by omega), e4 (by omega), get_end]
    rfl

theorem size_eq (s : Int) (h : size s) : field_size.f s = some true := by rcases h with rfl | rfl | rfl | rfl <;> rfl
theorem size_ok (s : Int) (h : size s) : wrap64 (8 * s) = 8 * s ∧ ok (8 * s) := by
  rcases h with rfl | rfl | rfl | rfl <;> exact ⟨by unfold wrap64; omega, by decide, by decide⟩
theorem put_f (K : Nat) (hK : 12 ≤ K) (n s : Int) (hn : -9223372036854775808 ≤ n ∧ n ≤ 9223372036854775807) (h : size s) :
    field_Put.f K n s = if (sg n (8 * s) == n || lo n (8 * s) == n) = true then some (byN s n, 0) else some ([], 5) := by
  obtain ⟨k, rfl⟩ : ∃ k, K = k + 9 := ⟨K - 9, by omega⟩
  obtain ⟨h1, h2⟩ := size_ok s h
  unfold field_Put.f
  rw [size_eq s h]
  simp only [Option.bind_some, if_true]
  rw [h1, wide_in n _ hn h2]
  simp only [Option.bind_some]
  rw [put_l k n s h]
theorem get_f (K : Nat) (hK : 12 ≤ K) (l : List Int) (p s : Int) (sgd : Bool) (hb : ∀ x ∈ l, 0 ≤ x ∧ x ≤ 255) (hl : l.length ≤ 1000) (h0 : 0 ≤ p) (h1 : p ≤ l.length) (h : size s) :
    field_Get.f K l p s sgd = if (l.length : Int) - p < s then some (0, 9) else fin sgd (wrap64 (vaN s l p)) s := by
  obtain ⟨k, rfl⟩ : ∃ k, K = k + 10 := ⟨K - 10, by omega⟩
  unfold field_Get.f
  rw [size_eq s h]
  simp only [Option.bind_some, if_true]
  rw [if_neg (by omega), decide_eq_false (by omega)]
  show field_Get.j0 ((k + 9) + 1) l p s sgd false = _
  simp only [field_Get.j0]
  rw [if_neg (by simp), show wrap64 ((l.length : Int) - p) = (l.length : Int) - p by unfold wrap64; omega]
  by_cases e : (l.length : Int) - p < s
  · rw [if_pos e, if_pos e]
  · rw [if_neg e, if_neg e, get_l k l p s sgd hb hl h0 (by omega) h]
theorem fin_yes (v s : Int) (h : size s) : fin true v s = some (sg v (8 * s), 0) := by
  obtain ⟨h1, h2⟩ := size_ok s h
  unfold fin
  rw [if_pos rfl, h1, sign_in v _ h2]; rfl
theorem fin_no (v s : Int) : fin false v s = some (v, 0) := by unfold fin; rw [if_neg (by simp)]

end Go.Proofs.Ytlmpecahmmgphaa.PureTel
