/- Closed words for what the program's and the document's functions of operands answer. Conditions: the numbers have 64 bits. -/
import Derived.Test.YtceofdchbolidaaDoorXOtx9
import Derived.Test.YtceofdchbolidaaDoorXOtx12
import Derived.Test.YtceofdchbolidaaDoorXOtx13
import Derived.Test.YtceofdchbolidaaDoorXOtx14
import Derived.Test.YtceofdchbolidaaDoorXOtx8
import Derived.Test.YtceofdchbolidaaDoorMath
namespace Go.Proofs.YtceofdchbolidaaDoor.Pure5
set_option linter.unusedVariables false
set_option linter.unusedSimpArgs false
open Go.RowKit Go.Proofs.YtceofdchbolidaaDoor.XOt Go.Proofs.YtceofdchbolidaaDoor.Hand Go.Proofs.YtceofdchbolidaaDoor.Math Go.Proofs.YtceofdchbolidaaDoorW.PrintWords Go.Proofs.YtceofdchbolidaaDoorW.PrintLast Go.Proofs.YtceofdchbolidaaDoorW.PrintMore
abbrev I64 (n : Int) : Prop := -9223372036854775808 ≤ n ∧ n ≤ 9223372036854775807
def full (c : Int) : Prop := c = 1 ∨ c = 3 ∨ c = 4 ∨ c = 5 ∨ c = 6 ∨ c = 7
instance (c : Int) : Decidable (full c) := by unfold full; infer_instance
/-- May a register be? -/
def validB (c n : Int) : Bool := if c = 2 then decide (4 ≤ n ∧ n ≤ 7) else if full c then decide (0 ≤ n ∧ n ≤ 15) else if c = 8 then decide (n = 0) else false
theorem core (ws : List ByteArray) (f n : Int) (m : Nat) (hall : (ws.all fun s => s.toList != []) = true) (hlen : ws.length = m) (hm : m ≤ 16) (hf : f = 0 ∨ f = 4) (hn : I64 n) :
    ((if (wrap64 (n - f)) < 0 then (some (⟨#[]⟩ : ByteArray)) else (if (wrap64 (n - f)) ≥ (ws.length : Int) then (some (⟨#[]⟩ : ByteArray)) else (if 0 ≤ (wrap64 (n - f)) then (if (wrap64 (n - f)) < (ws.length : Int) then (some (rdOf ByteArray.empty ws (wrap64 (n - f)))) else (none)) else (none)))).bind fun t => (some (t.toList != ([] : List UInt8)))) = some (decide (0 ≤ n - f ∧ n - f < m)) := by
  have hw : (wrap64 (n - f) = n - f) ∨ (n - f < -9223372036854775808 ∧ wrap64 (n - f) ≥ 100) := by
    by_cases h : n - f < -9223372036854775808
    · right; refine ⟨h, ?_⟩; unfold wrap64; omega
    · left; unfold wrap64; omega
  have he : ((⟨#[]⟩ : ByteArray).toList != ([] : List UInt8)) = false := by decide +kernel
  by_cases h1 : wrap64 (n - f) < 0
  · rw [if_pos h1]
    simp only [Option.bind_some, he]
    rw [decide_eq_false (by omega)]
  · rw [if_neg h1]
    by_cases h2 : wrap64 (n - f) ≥ (ws.length : Int)
    · rw [if_pos h2]
      simp only [Option.bind_some, he]
      rw [decide_eq_false (by omega)]
    · rw [if_neg h2, if_pos (by omega), if_pos (by omega)]
      simp only [Option.bind_some]
      have hi : (wrap64 (n - f)).toNat < ws.length := by omega
      have hg : rdOf ByteArray.empty ws (wrap64 (n - f)) = ws[(wrap64 (n - f)).toNat]'hi := by
        unfold rdOf
        rw [List.getD_eq_getElem?_getD, List.getElem?_eq_getElem hi]; rfl
      rw [hg, List.all_eq_true.1 hall _ (List.getElem_mem hi), decide_eq_true (by omega)]
theorem valid_eq (c n : Int) (hn : I64 n) : reg_Valid.f c n = some (validB c n) := by
  unfold reg_Valid.f reg_Name.f reg_names.f
  simp only [Option.bind_some]
  have go : ∀ (s : ByteArray) (f : Int) (m : Nat) (b : Bool), txt c = s → (if c = 2 then (4 : Int) else 0) = f → (f = 0 ∨ f = 4) → ((words s).all fun s => s.toList != []) = true → (words s).length = m → m ≤ 16 → decide (0 ≤ n - f ∧ n - f < m) = b →
      ((if (wrap64 (n - (if c = 2 then (4 : Int) else 0))) < 0 then (some (⟨#[]⟩ : ByteArray)) else (if (wrap64 (n - (if c = 2 then (4 : Int) else 0))) ≥ ((words (txt c)).length : Int) then (some (⟨#[]⟩ : ByteArray)) else (if 0 ≤ (wrap64 (n - (if c = 2 then (4 : Int) else 0))) then (if (wrap64 (n - (if c = 2 then (4 : Int) else 0))) < ((words (txt c)).length : Int) then (some (rdOf ByteArray.empty (words (txt c)) (wrap64 (n - (if c = 2 then (4 : Int) else 0))))) else (none)) else (none)))).bind fun t => (some (t.toList != ([] : List UInt8)))) = some b := by
    intro s f m b hs hf hf2 ha hl hm hb
    rw [hs, hf, core (words s) f n m ha hl hm hf2 hn, hb]
  by_cases h2 : c = 2
  · have eb : decide (0 ≤ n - 4 ∧ n - 4 < ((4 : Nat) : Int)) = validB c n := by
      unfold validB; rw [if_pos h2]; congr 1; simp; omega
    exact go txt2 4 4 _ (by unfold txt; rw [if_pos h2]) (if_pos h2) (.inr rfl) (by decide +kernel) (by decide +kernel) (by decide) eb
  · have f0 : (if c = 2 then (4 : Int) else 0) = 0 := if_neg h2
    by_cases hf : full c
    · have e : decide (0 ≤ n - 0 ∧ n - 0 < ((16 : Nat) : Int)) = validB c n := by
        unfold validB; rw [if_neg h2, if_pos hf]; congr 1; simp; omega
      rcases hf with rfl | rfl | rfl | rfl | rfl | rfl
      · exact go txt1 0 16 _ rfl f0 (.inl rfl) (by decide +kernel) (by decide +kernel) (by decide) e
      · exact go txt3 0 16 _ rfl f0 (.inl rfl) (by decide +kernel) (by decide +kernel) (by decide) e
      · exact go txt4 0 16 _ rfl f0 (.inl rfl) (by decide +kernel) (by decide +kernel) (by decide) e
      · exact go txt5 0 16 _ rfl f0 (.inl rfl) (by decide +kernel) (by decide +kernel) (by decide) e
      · exact go txt6 0 16 _ rfl f0 (.inl rfl) (by decide +kernel) (by decide +kernel) (by decide) e
      · exact go txt7 0 16 _ rfl f0 (.inl rfl) (by decide +kernel) (by decide +kernel) (by decide) e
    · have hf' := hf
      unfold full at hf
      by_cases h8 : c = 8
      · have e : decide (0 ≤ n - 0 ∧ n - 0 < ((1 : Nat) : Int)) = validB c n := by
          unfold validB; rw [if_neg h2, if_neg hf', if_pos h8]; congr 1; simp; omega
        subst h8
        exact go txt8 0 1 _ rfl f0 (.inl rfl) (by decide +kernel) (by decide +kernel) (by decide) e
      · have ht : txt c = ⟨#[]⟩ := by
          unfold txt
          rw [if_neg h2, if_neg (by omega), if_neg (by omega), if_neg (by omega), if_neg (by omega), if_neg (by omega), if_neg (by omega), if_neg h8]
        have e : decide (0 ≤ n - 0 ∧ n - 0 < ((0 : Nat) : Int)) = validB c n := by
          unfold validB; rw [if_neg h2, if_neg hf', if_neg h8]; exact decide_eq_false (by omega)
        exact go ⟨#[]⟩ 0 0 _ ht f0 (.inl rfl) (by decide +kernel) (by decide +kernel) (by decide) e
def wideB (c n : Int) : Bool := c == 5 && validB c n
theorem wide_eq (c n : Int) (hn : I64 n) : mem_wide.f c n = some (wideB c n) := by
  unfold mem_wide.f wideB
  by_cases h : c = 5
  · rw [if_pos h, valid_eq c n hn, beq_iff_eq.2 h]; rfl
  · rw [if_neg h, beq_eq_false_iff_ne.2 h]; rfl
def noneB (c n : Int) : Bool := c == 0 && (n == 0)
def rspB (c n : Int) : Bool := c == 5 && (n == 4)
theorem none_eq (c n : Int) : mem_none.f c n = some (noneB c n) := rfl
theorem rsp_eq (c n : Int) : mem_rsp.f c n = some (rspB c n) := rfl
def sizeB (z : Int) : Bool := oneOf [0, 1, 2, 4, 8, 16, 32] z
def scaleB (s : Int) (i : Bool) : Bool := oneOf [1, 2, 4, 8] s && i || !i && (s == 0)
theorem size_eq (z : Int) (h : I64 z) : mem_size.f z = some (sizeB z) := by unfold mem_size.f; rw [if_pos (show in64 z from h)]; rfl
theorem scale_eq (s : Int) (i : Bool) (h : I64 s) : mem_scale.f s i = some (scaleB s i) := by unfold mem_scale.f; rw [if_pos (show in64 s from h)]; rfl
/-- Why a place may not be. -/
def chk (b0 b1 i0 i1 s d z : Int) : Int :=
  if d < -2147483648 ∨ 2147483648 ≤ d then 5
  else if (sizeB z && scaleB s (!noneB i0 i1)) = false then 2
  else if (!noneB b0 b1 && !wideB b0 b1 && !(b0 == 8 && (b1 == 0))) = true then 2
  else if (!noneB i0 i1 && (!wideB i0 i1 || b0 == 8)) = true then 2
  else if (rspB i0 i1 && (!(s == 1) || rspB b0 b1)) = true then 2 else 0
theorem chk3 (k : Nat) (x : Bool) (b0 b1 i0 i1 s d z : Int) : mem_Check.j3 (k + 1) x b0 b1 i0 i1 s d z = some (if x = true then 2 else if (rspB i0 i1 && (!(s == 1) || rspB b0 b1)) = true then 2 else 0) := by
  simp only [mem_Check.j3, rsp_eq, Option.bind_some]
  cases x
  · cases rspB i0 i1
    · simp
    · by_cases h : s = 1
      · cases rspB b0 b1 <;> simp [h]
      · simp [h]
  · simp
theorem chk2 (k : Nat) (x : Bool) (b0 b1 i0 i1 s d z : Int) (h1 : I64 i1) : mem_Check.j2 (k + 2) (!noneB i0 i1) x b0 b1 i0 i1 s d z =
    some (if x = true then 2 else if (!noneB i0 i1 && (!wideB i0 i1 || b0 == 8)) = true then 2 else if (rspB i0 i1 && (!(s == 1) || rspB b0 b1)) = true then 2 else 0) := by
  show mem_Check.j2 ((k + 1) + 1) (!noneB i0 i1) x b0 b1 i0 i1 s d z = _
  simp only [mem_Check.j2, chk3, wide_eq i0 i1 h1, Option.bind_some]
  cases x
  · cases noneB i0 i1
    · cases wideB i0 i1
      · simp
      · simp
    · simp
  · simp
theorem chk1 (k : Nat) (x : Bool) (b0 b1 i0 i1 s d z : Int) (h1 : I64 i1) (hb : I64 b1) : mem_Check.j1 (k + 3) (!noneB i0 i1) x b0 b1 i0 i1 s d z =
    some (if x = true then 2 else if (!noneB b0 b1 && !wideB b0 b1 && !(b0 == 8 && (b1 == 0))) = true then 2 else if (!noneB i0 i1 && (!wideB i0 i1 || b0 == 8)) = true then 2 else if (rspB i0 i1 && (!(s == 1) || rspB b0 b1)) = true then 2 else 0) := by
  show mem_Check.j1 ((k + 2) + 1) (!noneB i0 i1) x b0 b1 i0 i1 s d z = _
  simp only [mem_Check.j1, wide_eq b0 b1 hb, none_eq, Option.bind_some, chk2 _ _ _ _ _ _ _ _ _ h1]
  cases x
  · cases noneB b0 b1
    · cases wideB b0 b1
      · simp
      · simp
    · simp
  · simp
theorem check_eq (k : Nat) (b0 b1 i0 i1 s d z : Int) (h1 : I64 i1) (hb : I64 b1) (hs : I64 s) (hz : I64 z) : mem_Check.f (k + 4) b0 b1 i0 i1 s d z = some (chk b0 b1 i0 i1 s d z) := by
  have h0 : ∀ x, mem_Check.j0 (k + 4) (!noneB i0 i1) x b0 b1 i0 i1 s d z = some (if x = true then 5 else if (sizeB z && scaleB s (!noneB i0 i1)) = false then 2
      else if (!noneB b0 b1 && !wideB b0 b1 && !(b0 == 8 && (b1 == 0))) = true then 2 else if (!noneB i0 i1 && (!wideB i0 i1 || b0 == 8)) = true then 2 else if (rspB i0 i1 && (!(s == 1) || rspB b0 b1)) = true then 2 else 0) := by
    intro x
    show mem_Check.j0 ((k + 3) + 1) (!noneB i0 i1) x b0 b1 i0 i1 s d z = _
    simp only [mem_Check.j0, size_eq z hz, scale_eq s _ hs, Option.bind_some, chk1 _ _ _ _ _ _ _ _ _ h1 hb]
    cases x
    · cases sizeB z
      · simp
      · cases scaleB s (!noneB i0 i1)
        · simp
        · simp
    · simp
  unfold mem_Check.f
  simp only [none_eq, Option.bind_some, h0]
  unfold chk
  by_cases c1 : d < -2147483648
  · rw [if_pos c1, if_pos (show d < -2147483648 ∨ 2147483648 ≤ d from .inl c1)]; simp
  · rw [if_neg c1]
    by_cases c2 : 2147483648 ≤ d
    · rw [decide_eq_true c2, if_pos (show d < -2147483648 ∨ 2147483648 ≤ d from .inr c2)]; simp
    · rw [decide_eq_false c2, if_neg (show ¬ (d < -2147483648 ∨ 2147483648 ≤ d) by omega)]; simp
/-- A place as it is written best, and why it may not be. -/
def canon (b0 b1 i0 i1 s d z : Int) : Int × Int × Int × Int × Int × Int × Int × Int :=
  if chk b0 b1 i0 i1 s d z = 0 then
    (if s = 1 ∧ noneB b0 b1 = true then (i0, i1, 0, 0, 0, d, z, 0) else if rspB i0 i1 = true then (i0, i1, b0, b1, s, d, z, 0) else (b0, b1, i0, i1, s, d, z, 0))
  else (0, 0, 0, 0, 0, 0, 0, chk b0 b1 i0 i1 s d z)
theorem canon_eq (k : Nat) (b0 b1 i0 i1 s d z : Int) (h1 : I64 i1) (hb : I64 b1) (hs : I64 s) (hz : I64 z) : mem_Canon.f (k + 4) b0 b1 i0 i1 s d z = some (canon b0 b1 i0 i1 s d z) := by
  unfold mem_Canon.f canon
  rw [check_eq k b0 b1 i0 i1 s d z h1 hb hs hz]
  simp only [Option.bind_some, none_eq]
  by_cases hc : chk b0 b1 i0 i1 s d z = 0
  · rw [if_pos hc, if_pos hc]
    by_cases h : s = 1
    · rw [if_pos h]
      simp only [mem_Canon.j0, rsp_eq, Option.bind_some]
      cases noneB b0 b1
      · simp
        split <;> rfl
      · simp [h]
    · rw [if_neg h]
      simp only [mem_Canon.j0, rsp_eq, Option.bind_some]
      simp [h]
      split <;> rfl
  · rw [if_neg hc, if_neg hc]
theorem none_iff (c n : Int) : noneB c n = true ↔ c = 0 ∧ n = 0 := by unfold noneB; simp
theorem rsp_iff (c n : Int) : rspB c n = true ↔ c = 5 ∧ n = 4 := by unfold rspB; simp
theorem wide_iff (c n : Int) : wideB c n = true ↔ c = 5 ∧ 0 ≤ n ∧ n ≤ 15 := by
  unfold wideB
  simp only [Bool.and_eq_true, beq_iff_eq]
  constructor
  · rintro ⟨rfl, h⟩
    simpa [validB, full] using h
  · rintro ⟨rfl, h⟩
    exact ⟨rfl, by simpa [validB, full] using h⟩
theorem scale_yes (s : Int) : scaleB s true = true ↔ s = 1 ∨ s = 2 ∨ s = 4 ∨ s = 8 := by
  simp [scaleB, oneOf]
  omega
theorem scale_no (s : Int) : scaleB s false = true ↔ s = 0 := by simp [scaleB]
/-- A place may be. -/
def may (b0 b1 i0 i1 s d z : Int) : Prop :=
  (-2147483648 ≤ d ∧ d < 2147483648) ∧ sizeB z = true ∧
  ((i0 = 0 ∧ i1 = 0 ∧ s = 0 ∧ ((b0 = 0 ∧ b1 = 0) ∨ (b0 = 5 ∧ 0 ≤ b1 ∧ b1 ≤ 15) ∨ (b0 = 8 ∧ b1 = 0))) ∨
   (i0 = 5 ∧ 0 ≤ i1 ∧ i1 ≤ 15 ∧ (s = 1 ∨ s = 2 ∨ s = 4 ∨ s = 8) ∧ ((b0 = 0 ∧ b1 = 0) ∨ (b0 = 5 ∧ 0 ≤ b1 ∧ b1 ≤ 15)) ∧ (i1 = 4 → s = 1 ∧ ¬ (b0 = 5 ∧ b1 = 4))))
theorem chk_iff (b0 b1 i0 i1 s d z : Int) : chk b0 b1 i0 i1 s d z = 0 ↔ may b0 b1 i0 i1 s d z := by
  have n1 := none_iff b0 b1
  have n2 := none_iff i0 i1
  have r1 := rsp_iff b0 b1
  have r2 := rsp_iff i0 i1
  have w1 := wide_iff b0 b1
  have w2 := wide_iff i0 i1
  have s1 := scale_yes s
  have s2 := scale_no s
  unfold chk may
  by_cases c1 : d < -2147483648 ∨ 2147483648 ≤ d
  · rw [if_pos c1]
    constructor
    · intro h; cases h
    · rintro ⟨h, _⟩; omega
  rw [if_neg c1]
  cases hz : sizeB z
  · simp
  cases hn : noneB i0 i1
  · rw [hn] at n2
    simp only [Bool.not_false, Bool.true_and]
    cases hs : scaleB s true
    · rw [hs] at s1
      simp at s1 n2
      simp
      omega
    · rw [hs] at s1
      have s1 := s1.1 rfl
      cases hb : noneB b0 b1 <;> cases hw : wideB b0 b1 <;> cases hi : wideB i0 i1 <;> cases hr : rspB i0 i1 <;> cases hq : rspB b0 b1 <;>
        (rw [hb] at n1; rw [hw] at w1; rw [hi] at w2; rw [hr] at r2; rw [hq] at r1; simp at n1 n2 w1 w2 r1 r2; simp; omega)
  · rw [hn] at n2
    have n2 := n2.1 rfl
    simp only [Bool.not_true, Bool.true_and]
    have hr : rspB i0 i1 = false := by
      cases h : rspB i0 i1
      · rfl
      · have := r2.1 h; omega
    cases hs : scaleB s false
    · rw [hs] at s2
      simp at s2
      simp
      omega
    · rw [hs] at s2
      have s2 := s2.1 rfl
      cases hb : noneB b0 b1 <;> cases hw : wideB b0 b1 <;>
        (rw [hb] at n1; rw [hw] at w1; rw [hr]; simp at n1 w1; simp; omega)
instance (b0 b1 i0 i1 s d z : Int) : Decidable (may b0 b1 i0 i1 s d z) := by unfold may; infer_instance
/-- The canon of a place that may be: one of three. -/
theorem canon_cases {b0 b1 i0 i1 s d z : Int} (h : may b0 b1 i0 i1 s d z) :
    (s = 1 ∧ b0 = 0 ∧ b1 = 0 ∧ i0 = 5 ∧ 0 ≤ i1 ∧ i1 ≤ 15 ∧ canon b0 b1 i0 i1 s d z = (i0, i1, 0, 0, 0, d, z, 0)) ∨
    (s = 1 ∧ i0 = 5 ∧ i1 = 4 ∧ b0 = 5 ∧ 0 ≤ b1 ∧ b1 ≤ 15 ∧ b1 ≠ 4 ∧ canon b0 b1 i0 i1 s d z = (i0, i1, b0, b1, s, d, z, 0)) ∨
    (¬ (s = 1 ∧ b0 = 0 ∧ b1 = 0) ∧ ¬ (i0 = 5 ∧ i1 = 4) ∧ canon b0 b1 i0 i1 s d z = (b0, b1, i0, i1, s, d, z, 0)) := by
  have hc := (chk_iff b0 b1 i0 i1 s d z).2 h
  have n1 := none_iff b0 b1
  have r1 := rsp_iff i0 i1
  unfold canon
  rw [if_pos hc]
  unfold may at h
  by_cases a : s = 1 ∧ noneB b0 b1 = true
  · rw [if_pos a]
    have := n1.1 a.2
    exact .inl ⟨a.1, this.1, this.2, by omega, by omega, by omega, rfl⟩
  · rw [if_neg a]
    by_cases b : rspB i0 i1 = true
    · rw [if_pos b]
      have hr := r1.1 b
      have : ¬ (s = 1 ∧ (b0 = 0 ∧ b1 = 0)) := fun hx => a ⟨hx.1, n1.2 hx.2⟩
      exact .inr (.inl ⟨by omega, hr.1, hr.2, by omega, by omega, by omega, by omega, rfl⟩)
    · rw [if_neg b]
      exact .inr (.inr ⟨fun hx => a ⟨hx.1, n1.2 hx.2⟩, fun hx => b (r1.2 hx), rfl⟩)
theorem canon_not {b0 b1 i0 i1 s d z : Int} (h : ¬ may b0 b1 i0 i1 s d z) : canon b0 b1 i0 i1 s d z = (0, 0, 0, 0, 0, 0, 0, chk b0 b1 i0 i1 s d z) ∧ chk b0 b1 i0 i1 s d z ≠ 0 := by
  have hc : chk b0 b1 i0 i1 s d z ≠ 0 := fun e => h ((chk_iff b0 b1 i0 i1 s d z).1 e)
  unfold canon
  rw [if_neg hc]
  exact ⟨rfl, hc⟩
theorem canon_same {b0 b1 i0 i1 s d z : Int} (h : may b0 b1 i0 i1 s d z) (h1 : ¬ (s = 1 ∧ b0 = 0 ∧ b1 = 0)) (h2 : ¬ (i0 = 5 ∧ i1 = 4)) : canon b0 b1 i0 i1 s d z = (b0, b1, i0, i1, s, d, z, 0) := by
  rcases canon_cases h with h3 | h3 | h3
  · exact absurd ⟨h3.1, h3.2.1, h3.2.2.1⟩ h1
  · exact absurd ⟨h3.2.1, h3.2.2.1⟩ h2
  · exact h3.2.2
/-- What is told of a place's canon: it may be, is its own canon, has the size and the displacement. -/
theorem canon_good {b0 b1 i0 i1 s d z : Int} (h : may b0 b1 i0 i1 s d z) : ∃ c0 c1 j0 j1 t : Int, canon b0 b1 i0 i1 s d z = (c0, c1, j0, j1, t, d, z, 0) ∧ may c0 c1 j0 j1 t d z ∧ canon c0 c1 j0 j1 t d z = (c0, c1, j0, j1, t, d, z, 0) := by
  have h' := h
  unfold may at h'
  rcases canon_cases h with ⟨rfl, rfl, rfl, rfl, g1, g2, e⟩ | ⟨rfl, rfl, rfl, rfl, g1, g2, g3, e⟩ | ⟨g1, g2, e⟩
  · have hm : may 5 i1 0 0 0 d z := by unfold may; exact ⟨h'.1, h'.2.1, by omega⟩
    exact ⟨_, _, _, _, _, e, hm, canon_same hm (by omega) (by omega)⟩
  · have hm : may 5 4 5 b1 1 d z := by unfold may; exact ⟨h'.1, h'.2.1, by omega⟩
    exact ⟨_, _, _, _, _, e, hm, canon_same hm (by omega) (by omega)⟩
  · exact ⟨_, _, _, _, _, e, h, canon_same h g1 g2⟩
/-- Why an operand may not be. -/
def oChk (K c n b0 b1 i0 i1 s d z N : Int) : Int :=
  if K = 1 then (if validB c n = true then (if c = 8 then 2 else 0) else 2) else if K = 2 then chk b0 b1 i0 i1 s d z
  else if K = 4 then (if N < -2147483648 then 5 else if N ≥ 2147483648 then 5 else 0) else if K = 3 then 0 else 2
theorem ochk_eq (k : Nat) (K c n b0 b1 i0 i1 s d z N : Int) (hn : I64 n) (h1 : I64 i1) (hb : I64 b1) (hs : I64 s) (hz : I64 z) : operand_Check.f (k + 4) K c n b0 b1 i0 i1 s d z N = some (oChk K c n b0 b1 i0 i1 s d z N) := by
  unfold operand_Check.f oChk
  rw [valid_eq c n hn, check_eq k b0 b1 i0 i1 s d z h1 hb hs hz]
  simp only [Option.bind_some]
  by_cases g1 : K = 1
  · rw [if_pos g1, if_pos g1]
    by_cases g2 : validB c n = true
    · rw [if_pos g2, if_pos g2]; split <;> rfl
    · rw [if_neg g2, if_neg g2]
  rw [if_neg g1, if_neg g1]
  by_cases g2 : K = 2
  · rw [if_pos g2, if_pos g2]
  rw [if_neg g2, if_neg g2]
  by_cases g3 : K = 4
  · rw [if_pos g3, if_pos g3]; split
    · rfl
    · split <;> rfl
  rw [if_neg g3, if_neg g3]
  split <;> rfl
abbrev T12 := Int × Int × Int × Int × Int × Int × Int × Int × Int × Int × Int × Int
/-- An operand's canon, and why it may not be. -/
def oCan (K c n b0 b1 i0 i1 s d z N : Int) : T12 :=
  if oChk K c n b0 b1 i0 i1 s d z N = 0 then (if K = 1 then (K, c, n, 0, 0, 0, 0, 0, 0, 0, 0, 0) else if K = 2 then
    (K, 0, 0, (canon b0 b1 i0 i1 s d z).1, (canon b0 b1 i0 i1 s d z).2.1, (canon b0 b1 i0 i1 s d z).2.2.1, (canon b0 b1 i0 i1 s d z).2.2.2.1, (canon b0 b1 i0 i1 s d z).2.2.2.2.1, (canon b0 b1 i0 i1 s d z).2.2.2.2.2.1, (canon b0 b1 i0 i1 s d z).2.2.2.2.2.2.1, 0, (canon b0 b1 i0 i1 s d z).2.2.2.2.2.2.2)
    else (K, 0, 0, 0, 0, 0, 0, 0, 0, 0, N, 0)) else (0, 0, 0, 0, 0, 0, 0, 0, 0, 0, 0, oChk K c n b0 b1 i0 i1 s d z N)
theorem ocan_eq (k : Nat) (K c n b0 b1 i0 i1 s d z N : Int) (hn : I64 n) (h1 : I64 i1) (hb : I64 b1) (hs : I64 s) (hz : I64 z) : operand_Canon.f (k + 4) K c n b0 b1 i0 i1 s d z N = some (oCan K c n b0 b1 i0 i1 s d z N) := by
  unfold operand_Canon.f oCan
  rw [ochk_eq k K c n b0 b1 i0 i1 s d z N hn h1 hb hs hz, canon_eq k b0 b1 i0 i1 s d z h1 hb hs hz]
  simp only [Option.bind_some]
  split
  · split
    · rfl
    · split <;> rfl
  · rfl
def rSize (c n : Int) : Int := (reg_Size.f 1 c n).getD 0
theorem rsize_eq (k : Nat) (c n : Int) (hn : I64 n) : reg_Size.f (k + 1) c n = some (rSize c n) := by
  unfold rSize reg_Size.f
  rw [valid_eq c n hn]
  simp only [Option.bind_some, reg_Size.j0]
  cases validB c n
  · rfl
  · simp only [if_true]
    split
    · rfl
    · split
      · rfl
      · split
        · split
          · rfl
          · split
            · rfl
            · split <;> rfl
        · split
          · rfl
          · split
            · rfl
            · split <;> rfl
def oSize (K c n b0 b1 i0 i1 s d z N : Int) : Int := if oChk K c n b0 b1 i0 i1 s d z N = 0 then (if K = 1 then rSize c n else if K = 2 then z else 0) else 0
theorem osize_eq (k : Nat) (K c n b0 b1 i0 i1 s d z N : Int) (hn : I64 n) (h1 : I64 i1) (hb : I64 b1) (hs : I64 s) (hz : I64 z) : operand_Size.f (k + 4) K c n b0 b1 i0 i1 s d z N = some (oSize K c n b0 b1 i0 i1 s d z N) := by
  unfold operand_Size.f oSize
  rw [ochk_eq k K c n b0 b1 i0 i1 s d z N hn h1 hb hs hz, rsize_eq (k + 3) c n hn]
  simp only [Option.bind_some]
  split
  · split
    · rfl
    · split <;> rfl
  · rfl
theorem valid3_eq (k : Nat) (c n : Int) : linotyperef03_Valid.f (k + 1) c n = some (validB c n) := by
  unfold linotyperef03_Valid.f validB
  simp only [linotyperef03_Valid.j0]
  by_cases h1 : c = 1
  · subst h1
    simp [full]
    by_cases h : 0 ≤ n <;> simp [h]
  by_cases h3 : c = 3
  · subst h3
    simp [full]
    by_cases h : 0 ≤ n <;> simp [h]
  by_cases h4 : c = 4
  · subst h4
    simp [full]
    by_cases h : 0 ≤ n <;> simp [h]
  by_cases h5 : c = 5
  · subst h5
    simp [full]
    by_cases h : 0 ≤ n <;> simp [h]
  by_cases h6 : c = 6
  · subst h6
    simp [full]
    by_cases h : 0 ≤ n <;> simp [h]
  by_cases h7 : c = 7
  · subst h7
    simp [full]
    by_cases h : 0 ≤ n <;> simp [h]
  by_cases h2 : c = 2
  · subst h2
    simp [full]
    by_cases h : 4 ≤ n <;> simp [h]
  by_cases h8 : c = 8
  · subst h8
    simp [full]
    rfl
  · simp [full, h1, h2, h3, h4, h5, h6, h7, h8]
theorem wide5_eq (k : Nat) (c n : Int) : linotyperef05_wide.f (k + 1) c n = some (wideB c n) := by
  unfold linotyperef05_wide.f wideB
  by_cases h : c = 5
  · rw [if_pos h, valid3_eq k c n, beq_iff_eq.2 h]; rfl
  · rw [if_neg h, beq_eq_false_iff_ne.2 h]; rfl
theorem in_l (n : Int) (l : List Int) (hl : l.length < 1000) : ∀ (d k i : Nat), i + d = l.length → linotyperef05_in.l0 (k + d + 1) n l (i : Int) = some ((l.drop i).any fun x => x == n)
  | 0, k, i, h => by
    simp only [linotyperef05_in.l0]
    rw [if_neg (by omega), List.drop_eq_nil_of_le (by omega)]
    rfl
  | d + 1, k, i, h => by
    have hi : i < l.length := by omega
    have ih := in_l n l hl d k (i + 1) (by omega)
    show linotyperef05_in.l0 ((k + d + 1) + 1) n l (i : Int) = _
    generalize k + d + 1 = K at ih ⊢
    simp only [linotyperef05_in.l0]
    rw [if_pos (by omega), if_pos (by omega), List.drop_eq_getElem_cons hi, List.any_cons]
    have hr : rd l (i : Int) = l[i] := by simp [rd, List.getElem?_eq_getElem hi]
    rw [hr]
    by_cases e : l[i] = n
    · rw [if_pos e, beq_iff_eq.2 e]; rfl
    · rw [if_neg e, beq_eq_false_iff_ne.2 e, show wrap64 ((i : Int) + 1) = ((i + 1 : Nat) : Int) by unfold wrap64; omega, ih]
      rfl
theorem in_eq (k : Nat) (n : Int) (l : List Int) (hl : l.length < 1000) : linotyperef05_in.f (k + l.length + 1) n l = some (oneOf l n) := by
  unfold linotyperef05_in.f oneOf
  have := in_l n l hl l.length k 0 (by omega)
  rw [List.drop_zero] at this
  exact this
theorem chk_val (b0 b1 i0 i1 s d z : Int) : chk b0 b1 i0 i1 s d z = if d < -2147483648 ∨ 2147483648 ≤ d then 5 else if may b0 b1 i0 i1 s d z then 0 else 2 := by
  have h := chk_iff b0 b1 i0 i1 s d z
  by_cases c1 : d < -2147483648 ∨ 2147483648 ≤ d
  · rw [if_pos c1]; unfold chk; rw [if_pos c1]
  · rw [if_neg c1]
    by_cases hm : may b0 b1 i0 i1 s d z
    · rw [if_pos hm]; exact h.2 hm
    · rw [if_neg hm]
      have hne : chk b0 b1 i0 i1 s d z ≠ 0 := fun e => hm (h.1 e)
      unfold chk at hne ⊢
      rw [if_neg c1] at hne ⊢
      split
      · rfl
      · rename_i h1
        rw [if_neg h1] at hne
        split
        · rfl
        · rename_i h2
          rw [if_neg h2] at hne
          split
          · rfl
          · rename_i h3
            rw [if_neg h3] at hne
            split
            · rfl
            · rename_i h4
              rw [if_neg h4] at hne
              exact absurd rfl hne
theorem rj2 (k : Nat) (x : Bool) (b0 b1 i0 i1 s d z : Int) : linotyperef05_Check.j2 (k + 1) x b0 b1 i0 i1 s d z 5 4 = some (if x = true then 2 else if (rspB i0 i1 && (!(s == 1) || rspB b0 b1)) = true then 2 else 0) := by
  simp only [linotyperef05_Check.j2]
  show (if x = true then some 2 else if rspB i0 i1 = true then (if s = 1 then (if rspB b0 b1 = true then some 2 else some 0) else some 2) else some 0) = _
  cases x
  · cases rspB i0 i1
    · simp
    · by_cases h : s = 1
      · cases rspB b0 b1 <;> simp [h]
      · simp [h]
  · simp
theorem rj1 (k : Nat) (x : Bool) (b0 b1 i0 i1 s d z : Int) : linotyperef05_Check.j1 (k + 6) x b0 b1 i0 i1 s d z 8 0 5 4 =
    some (if x = true then 2 else if noneB i0 i1 = true then (if s = 0 then 0 else 2) else if (wideB i0 i1 && oneOf [1, 2, 4, 8] s && !(b0 == 8 && (b1 == 0))) = true then (if (rspB i0 i1 && (!(s == 1) || rspB b0 b1)) = true then 2 else 0) else 2) := by
  show linotyperef05_Check.j1 ((k + 5) + 1) x b0 b1 i0 i1 s d z 8 0 5 4 = _
  have hin : linotyperef05_in.f (k + 5) s [1, 2, 4, 8] = some (oneOf [1, 2, 4, 8] s) := in_eq k s [1, 2, 4, 8] (by decide)
  have hn : linotyperef05_none.f i0 i1 = some (noneB i0 i1) := rfl
  have h2 : ∀ x, linotyperef05_Check.j2 (k + 5) x b0 b1 i0 i1 s d z 5 4 = some (if x = true then 2 else if (rspB i0 i1 && (!(s == 1) || rspB b0 b1)) = true then 2 else 0) := fun x => rj2 (k + 4) x b0 b1 i0 i1 s d z
  simp only [linotyperef05_Check.j1, hn, show linotyperef05_wide.f (k + 5) i0 i1 = some (wideB i0 i1) from wide5_eq (k + 4) i0 i1, hin, h2, Option.bind_some]
  have hn2 := none_iff i0 i1
  generalize (b0 == 8 && (b1 == 0)) = q
  cases x
  · cases hb : noneB i0 i1
    · cases wideB i0 i1
      · simp
      · cases oneOf [1, 2, 4, 8] s
        · simp
        · cases q
          · simp
          · simp
    · rw [hb] at hn2
      have := hn2.1 rfl
      by_cases hs : s = 0
      · simp [this.1, this.2, hs]
      · simp [hs]
  · simp
def eref (b0 b1 i0 i1 s : Int) : Int := if (!noneB b0 b1 && !wideB b0 b1 && !(b0 == 8 && (b1 == 0))) = true then 2 else if noneB i0 i1 = true then (if s = 0 then 0 else 2) else if (wideB i0 i1 && oneOf [1, 2, 4, 8] s && !(b0 == 8 && (b1 == 0))) = true then (if (rspB i0 i1 && (!(s == 1) || rspB b0 b1)) = true then 2 else 0) else 2
theorem eref_two (b0 b1 i0 i1 s : Int) : eref b0 b1 i0 i1 s = 0 ∨ eref b0 b1 i0 i1 s = 2 := by
  unfold eref
  repeat' split
  all_goals first | exact .inl rfl | exact .inr rfl
theorem eref_iff (b0 b1 i0 i1 s z : Int) (hz : sizeB z = true) : eref b0 b1 i0 i1 s = 0 ↔ may b0 b1 i0 i1 s 0 z := by
  have n1 := none_iff b0 b1
  have n2 := none_iff i0 i1
  have r1 := rsp_iff b0 b1
  have r2 := rsp_iff i0 i1
  have w1 := wide_iff b0 b1
  have w2 := wide_iff i0 i1
  have s1 : oneOf [1, 2, 4, 8] s = true ↔ s = 1 ∨ s = 2 ∨ s = 4 ∨ s = 8 := by simp [oneOf]; omega
  unfold eref may
  rw [hz]
  cases hn : noneB i0 i1
  · rw [hn] at n2
    cases hs : oneOf [1, 2, 4, 8] s
    · rw [hs] at s1
      simp at s1 n2
      simp
      omega
    · rw [hs] at s1
      have s1 := s1.1 rfl
      cases hb : noneB b0 b1 <;> cases hw : wideB b0 b1 <;> cases hi : wideB i0 i1 <;> cases hr : rspB i0 i1 <;> cases hq : rspB b0 b1 <;>
        (rw [hb] at n1; rw [hw] at w1; rw [hi] at w2; rw [hr] at r2; rw [hq] at r1; simp at n1 n2 w1 w2 r1 r2; simp; omega)
  · rw [hn] at n2
    have n2 := n2.1 rfl
    by_cases hs : s = 0
    · cases hb : noneB b0 b1 <;> cases hw : wideB b0 b1 <;>
        (rw [hb] at n1; rw [hw] at w1; simp at n1 w1; simp [hs]; omega)
    · simp [hs]
      omega
theorem rcheck_eq (k : Nat) (b0 b1 i0 i1 s d z : Int) : linotyperef05_Check.f (k + 9) b0 b1 i0 i1 s d z = some (chk b0 b1 i0 i1 s d z) := by
  rw [chk_val]
  have hin : linotyperef05_in.f (k + 8) z [0, 1, 2, 4, 8, 16, 32] = some (sizeB z) := in_eq k z [0, 1, 2, 4, 8, 16, 32] (by decide)
  have hn : linotyperef05_none.f b0 b1 = some (noneB b0 b1) := rfl
  have h1 : ∀ x, linotyperef05_Check.j1 (k + 8) x b0 b1 i0 i1 s d z 8 0 5 4 = _ := fun x => rj1 (k + 2) x b0 b1 i0 i1 s d z
  have h0 : ∀ x, linotyperef05_Check.j0 (k + 9) x b0 b1 i0 i1 s d z = some (if x = true then 5 else if may b0 b1 i0 i1 s 0 z then 0 else 2) := by
    intro x
    show linotyperef05_Check.j0 ((k + 8) + 1) x b0 b1 i0 i1 s d z = _
    simp only [linotyperef05_Check.j0, hin, hn, h1, show linotyperef05_wide.f (k + 8) b0 b1 = some (wideB b0 b1) from wide5_eq (k + 7) b0 b1, Option.bind_some]
    cases x
    · simp only [Bool.false_eq_true, if_false]
      cases hz : sizeB z
      · have : ¬ may b0 b1 i0 i1 s 0 z := by unfold may; rw [hz]; simp
        rw [if_neg this]; simp
      · have he := eref_iff b0 b1 i0 i1 s z hz
        have key : some (eref b0 b1 i0 i1 s) = some (if may b0 b1 i0 i1 s 0 z then (0 : Int) else 2) := by
          by_cases hm : may b0 b1 i0 i1 s 0 z
          · rw [if_pos hm, he.2 hm]
          · rw [if_neg hm]
            rcases eref_two b0 b1 i0 i1 s with h | h
            · exact absurd (he.1 h) hm
            · rw [h]
        rw [← key]
        unfold eref
        simp only [if_true]
        cases noneB b0 b1
        · cases wideB b0 b1
          · simp
          · simp
        · simp
    · simp
  have hmay : ¬ (d < -2147483648 ∨ 2147483648 ≤ d) → (may b0 b1 i0 i1 s 0 z ↔ may b0 b1 i0 i1 s d z) := by
    intro h
    unfold may
    constructor
    · rintro ⟨_, h2⟩; exact ⟨by omega, h2⟩
    · rintro ⟨_, h2⟩; exact ⟨by omega, h2⟩
  have hif : ∀ (p q : Prop) [Decidable p] [Decidable q], (p ↔ q) → (if p then (0 : Int) else 2) = if q then 0 else 2 := by
    intro p q _ _ h
    by_cases hp : p
    · rw [if_pos hp, if_pos (h.1 hp)]
    · rw [if_neg hp, if_neg (fun e => hp (h.2 e))]
  unfold linotyperef05_Check.f
  simp only [h0]
  by_cases c1 : d < -2147483648
  · rw [if_pos c1, if_pos (show d < -2147483648 ∨ 2147483648 ≤ d from .inl c1)]; simp
  · rw [if_neg c1]
    by_cases c2 : 2147483648 ≤ d
    · rw [decide_eq_true (by omega), if_pos (show d < -2147483648 ∨ 2147483648 ≤ d from .inr c2)]; simp
    · have hx : ¬ (d < -2147483648 ∨ 2147483648 ≤ d) := by omega
      rw [decide_eq_false (by omega), if_neg hx, if_neg (by simp), hif _ _ (hmay hx)]
theorem rcanon_eq (k : Nat) (b0 b1 i0 i1 s d z : Int) : linotyperef05_Canon.f (k + 9) b0 b1 i0 i1 s d z = some (canon b0 b1 i0 i1 s d z) := by
  unfold linotyperef05_Canon.f
  rw [rcheck_eq k b0 b1 i0 i1 s d z]
  have hn : linotyperef05_none.f b0 b1 = some (noneB b0 b1) := rfl
  have n1 := none_iff b0 b1
  simp only [Option.bind_some, hn]
  by_cases hm : may b0 b1 i0 i1 s d z
  · have hc := (chk_iff b0 b1 i0 i1 s d z).2 hm
    rw [if_pos hc]
    have hm' := hm
    unfold may at hm'
    have hj : ∀ x, linotyperef05_Canon.j0 (k + 9) x b0 b1 i0 i1 s d z = some (if x = true then (i0, i1, 0, 0, 0, d, z, 0) else if s = 1 ∧ i1 = 4 then (i0, i1, b0, b1, s, d, z, 0) else (b0, b1, i0, i1, s, d, z, 0)) := by
      intro x
      show linotyperef05_Canon.j0 ((k + 8) + 1) x b0 b1 i0 i1 s d z = _
      simp only [linotyperef05_Canon.j0]
      cases x
      · by_cases h1 : s = 1 <;> by_cases h2 : i1 = 4 <;> simp [h1, h2]
      · simp
    rcases canon_cases hm with ⟨g1, g2, g3, _, _, _, e⟩ | ⟨g1, g2, g3, g4, g5, g6, g7, e⟩ | ⟨g1, g2, e⟩
    · rw [if_pos g1, hj, n1.2 ⟨g2, g3⟩, e]; simp
    · have hb : noneB b0 b1 = false := by
        cases h : noneB b0 b1
        · rfl
        · have := n1.1 h; omega
      rw [if_pos g1, hj, hb, e, if_neg (by simp), if_pos ⟨g1, g3⟩]
    · rw [e]
      by_cases hs : s = 1
      · have hb : noneB b0 b1 = false := by
          cases h : noneB b0 b1
          · rfl
          · have := n1.1 h; omega
        have h4 : ¬ (s = 1 ∧ i1 = 4) := by omega
        rw [if_pos hs, hj, hb, if_neg (by simp), if_neg h4]
      · have h4 : ¬ (s = 1 ∧ i1 = 4) := fun h => hs h.1
        rw [if_neg hs, hj, if_neg (by simp), if_neg h4]
  · obtain ⟨h1, h2⟩ := canon_not hm
    rw [if_neg h2, h1]
theorem rochk_eq (k : Nat) (K c n b0 b1 i0 i1 s d z N : Int) : linotyperef06_Check.f (k + 9) K c n b0 b1 i0 i1 s d z N = some (oChk K c n b0 b1 i0 i1 s d z N) := by
  unfold linotyperef06_Check.f oChk
  rw [valid3_eq (k + 8) c n, rcheck_eq k b0 b1 i0 i1 s d z]
  simp only [Option.bind_some]
  by_cases g1 : K = 1
  · rw [if_pos g1, if_pos g1]
    by_cases g2 : validB c n = true
    · rw [if_pos g2, if_pos g2]; split <;> rfl
    · rw [if_neg g2, if_neg g2]
  rw [if_neg g1, if_neg g1]
  by_cases g2 : K = 2
  · rw [if_pos g2, if_pos g2]
  rw [if_neg g2, if_neg g2]
  by_cases g3 : K = 3
  · rw [if_pos g3]
    subst g3
    rw [if_neg (by decide), if_pos rfl]
  rw [if_neg g3]
  by_cases g4 : K = 4
  · rw [if_pos g4, if_pos g4]
    split
    · rfl
    · by_cases g5 : N > 2147483647
      · rw [if_pos g5, if_pos (by omega)]
      · rw [if_neg g5, if_neg (by omega)]
  · rw [if_neg g4, if_neg g4, if_neg g3]
theorem rsize3_eq (k : Nat) (c n : Int) (hn : I64 n) : linotyperef03_Size.f (k + 2) c n = some (rSize c n) := by
  have h := rsize_eq 0 c n hn
  rw [← h]
  unfold linotyperef03_Size.f reg_Size.f
  rw [valid_eq c n hn, show k + 2 = (k + 1) + 1 from rfl, valid3_eq (k + 1) c n]
  simp only [Option.bind_some]
  cases validB c n
  · rfl
  · simp only [if_true, linotyperef03_Size.j0, reg_Size.j0]
    by_cases g3 : c = 3
    · subst g3; first | decide | (simp [wrap64]; done)
    by_cases g4 : c = 4
    · subst g4; first | decide | (simp [wrap64]; done)
    by_cases g5 : c = 5
    · subst g5; first | decide | (simp [wrap64]; done)
    by_cases g6 : c = 6
    · subst g6; first | decide | (simp [wrap64]; done)
    by_cases g7 : c = 7
    · subst g7; first | decide | (simp [wrap64]; done)
    by_cases g8 : c = 8
    · subst g8; first | decide | (simp [wrap64]; done)
    simp [g3, g4, g5, g6, g7, g8]
theorem rosize_eq (k : Nat) (K c n b0 b1 i0 i1 s d z N : Int) (hn : I64 n) : linotyperef06_Size.f (k + 9) K c n b0 b1 i0 i1 s d z N = some (oSize K c n b0 b1 i0 i1 s d z N) := by
  unfold linotyperef06_Size.f oSize
  rw [rochk_eq k K c n b0 b1 i0 i1 s d z N, show k + 9 = (k + 7) + 2 from rfl, rsize3_eq (k + 7) c n hn]
  simp only [Option.bind_some]
  split
  · split
    · rfl
    · split <;> rfl
  · rfl
end Go.Proofs.YtceofdchbolidaaDoor.Pure5
