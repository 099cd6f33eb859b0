/- The plain law of OperandCanon: an operand's canon may be, is its own, has the operand's size, and is the same as it; what does not count does not matter. Conditions: the numbers have 64 bits. -/
import Derived.Test.YtceofdchbolidaaDoorXCanx12
import Derived.Test.YtceofdchbolidaaDoorMath
namespace Go.Proofs.YtceofdchbolidaaDoor.Pure3
set_option linter.unusedVariables false
set_option linter.unusedSimpArgs false
open Go.RowKit Go.Proofs.YtceofdchbolidaaDoor.XCan Go.Proofs.YtceofdchbolidaaDoor.Hand Go.Proofs.YtceofdchbolidaaDoor.Math Go.Proofs.YtceofdchbolidaaDoorW.PrintWords Go.Proofs.YtceofdchbolidaaDoorW.PrintLast Go.Proofs.YtceofdchbolidaaDoorW.PrintMore
abbrev I64 (n : Int) : Prop := -9223372036854775808 ≤ n ∧ n ≤ 9223372036854775807
def full (c : Int) : Prop := c = 1 ∨ c = 3 ∨ c = 4 ∨ c = 5 ∨ c = 6 ∨ c = 7
instance (c : Int) : Decidable (full c) := by unfold full; infer_instance
/-- May a register be? -/
def validB (c n : Int) : Bool := if c = 2 then decide (4 ≤ n ∧ n ≤ 7) else if full c then decide (0 ≤ n ∧ n ≤ 15) else if c = 8 then decide (n = 0) else false
theorem core (ws : List ByteArray) (f n : Int) (m : Nat) (hall : (ws.all fun s => s.toList != []) = true) (hlen : ws.length = m) (hm : m ≤ 16) (hf : f = 0 ∨ f = 4) (hn : I64 n) :
    ((if (wrap64 (n - f)) < 0 then (some (⟨#[]⟩ : ByteArray)) else (if (wrap64 (n - f)) ≥ (ws.length : Int) then (some (⟨#[]⟩ : ByteArray)) else (if 0 ≤ (wrap64 (n - f)) then (if (wrap64 (n - f)) < (ws.length : Int) then (some (rdOf ByteArray.empty ws (wrap64 (n - f)))) else (none)) else (none)))).bind fun t => (some (t.toList != ([] : List UInt8)))) = some (decide (0 ≤ n - f ∧ n - f < m)) := by
  have hw : (wrap64 (n - f) = n - f) ∨ (n - f < -9223372036854775808 ∧ wrap64 (n - f) ≥ 100) := by
    by_cases h : n - f < -9223372036854775808
    · right; refine ⟨h, ?_⟩; unfold wrap64; omega
    · left; unfold wrap64; omega
  have he : ((⟨#[]⟩ : ByteArray).toList != ([] : List UInt8)) = false := by decide +kernel
  by_cases h1 : wrap64 (n - f) < 0
  · rw [if_pos h1]
    simp only [Option.bind_some, he]
    rw [decide_eq_false (by omega)]
  · rw [if_neg h1]
    by_cases h2 : wrap64 (n - f) ≥ (ws.length : Int)
    · rw [if_pos h2]
      simp only [Option.bind_some, he]
      rw [decide_eq_false (by omega)]
    · rw [if_neg h2, if_pos (by omega), if_pos (by omega)]
      simp only [Option.bind_some]
      have hi : (wrap64 (n - f)).toNat < ws.length := by omega
      have hg : rdOf ByteArray.empty ws (wrap64 (n - f)) = ws[(wrap64 (n - f)).toNat]'hi := by
        unfold rdOf
        rw [List.getD_eq_getElem?_getD, List.getElem?_eq_getElem hi]; rfl
      rw [hg, List.all_eq_true.1 hall _ (List.getElem_mem hi), decide_eq_true (by omega)]
theorem valid_eq (c n : Int) (hn : I64 n) : reg_Valid.f c n = some (validB c n) := by
  unfold reg_Valid.f reg_Name.f reg_names.f
  simp only [Option.bind_some]
  have go : ∀ (s : ByteArray) (f : Int) (m : Nat) (b : Bool), txt c = s → (if c = 2 then (4 : Int) else 0) = f → (f = 0 ∨ f = 4) → ((words s).all fun s => s.toList != []) = true → (words s).length = m → m ≤ 16 → decide (0 ≤ n - f ∧ n - f < m) = b →
      ((if (wrap64 (n - (if c = 2 then (4 : Int) else 0))) < 0 then (some (⟨#[]⟩ : ByteArray)) else (if (wrap64 (n - (if c = 2 then (4 : Int) else 0))) ≥ ((words (txt c)).length : Int) then (some (⟨#[]⟩ : ByteArray)) else (if 0 ≤ (wrap64 (n - (if c = 2 then (4 : Int) else 0))) then (if (wrap64 (n - (if c = 2 then (4 : Int) else 0))) < ((words (txt c)).length : Int) then (some (rdOf ByteArray.empty (words (txt c)) (wrap64 (n - (if c = 2 then (4 : Int) else 0))))) else (none)) else (none)))).bind fun t => (some (t.toList != ([] : List UInt8)))) = some b := by
    intro s f m b hs hf hf2 ha hl hm hb
    rw [hs, hf, core (words s) f n m ha hl hm hf2 hn, hb]
  by_cases h2 : c = 2
  · have eb : decide (0 ≤ n - 4 ∧ n - 4 < ((4 : Nat) : Int)) = validB c n := by
      unfold validB; rw [if_pos h2]; congr 1; simp; omega
    exact go txt2 4 4 _ (by unfold txt; rw [if_pos h2]) (if_pos h2) (.inr rfl) (by decide +kernel) (by decide +kernel) (by decide) eb
  · have f0 : (if c = 2 then (4 : Int) else 0) = 0 := if_neg h2
    by_cases hf : full c
    · have e : decide (0 ≤ n - 0 ∧ n - 0 < ((16 : Nat) : Int)) = validB c n := by
        unfold validB; rw [if_neg h2, if_pos hf]; congr 1; simp; omega
      rcases hf with rfl | rfl | rfl | rfl | rfl | rfl
      · exact go txt1 0 16 _ rfl f0 (.inl rfl) (by decide +kernel) (by decide +kernel) (by decide) e
      · exact go txt3 0 16 _ rfl f0 (.inl rfl) (by decide +kernel) (by decide +kernel) (by decide) e
      · exact go txt4 0 16 _ rfl f0 (.inl rfl) (by decide +kernel) (by decide +kernel) (by decide) e
      · exact go txt5 0 16 _ rfl f0 (.inl rfl) (by decide +kernel) (by decide +kernel) (by decide) e
      · exact go txt6 0 16 _ rfl f0 (.inl rfl) (by decide +kernel) (by decide +kernel) (by decide) e
      · exact go txt7 0 16 _ rfl f0 (.inl rfl) (by decide +kernel) (by decide +kernel) (by decide) e
    · have hf' := hf
      unfold full at hf
      by_cases h8 : c = 8
      · have e : decide (0 ≤ n - 0 ∧ n - 0 < ((1 : Nat) : Int)) = validB c n := by
          unfold validB; rw [if_neg h2, if_neg hf', if_pos h8]; congr 1; simp; omega
        subst h8
        exact go txt8 0 1 _ rfl f0 (.inl rfl) (by decide +kernel) (by decide +kernel) (by decide) e
      · have ht : txt c = ⟨#[]⟩ := by
          unfold txt
          rw [if_neg h2, if_neg (by omega), if_neg (by omega), if_neg (by omega), if_neg (by omega), if_neg (by omega), if_neg (by omega), if_neg h8]
        have e : decide (0 ≤ n - 0 ∧ n - 0 < ((0 : Nat) : Int)) = validB c n := by
          unfold validB; rw [if_neg h2, if_neg hf', if_neg h8]; exact decide_eq_false (by omega)
        exact go ⟨#[]⟩ 0 0 _ ht f0 (.inl rfl) (by decide +kernel) (by decide +kernel) (by decide) e
def wideB (c n : Int) : Bool := c == 5 && validB c n
theorem wide_eq (c n : Int) (hn : I64 n) : mem_wide.f c n = some (wideB c n) := by
  unfold mem_wide.f wideB
  by_cases h : c = 5
  · rw [if_pos h, valid_eq c n hn, beq_iff_eq.2 h]; rfl
  · rw [if_neg h, beq_eq_false_iff_ne.2 h]; rfl
def noneB (c n : Int) : Bool := c == 0 && (n == 0)
def rspB (c n : Int) : Bool := c == 5 && (n == 4)
theorem none_eq (c n : Int) : mem_none.f c n = some (noneB c n) := rfl
theorem rsp_eq (c n : Int) : mem_rsp.f c n = some (rspB c n) := rfl
def sizeB (z : Int) : Bool := oneOf [0, 1, 2, 4, 8, 16, 32] z
def scaleB (s : Int) (i : Bool) : Bool := oneOf [1, 2, 4, 8] s && i || !i && (s == 0)
theorem size_eq (z : Int) (h : I64 z) : mem_size.f z = some (sizeB z) := by unfold mem_size.f; rw [if_pos (show in64 z from h)]; rfl
theorem scale_eq (s : Int) (i : Bool) (h : I64 s) : mem_scale.f s i = some (scaleB s i) := by unfold mem_scale.f; rw [if_pos (show in64 s from h)]; rfl
/-- Why a place may not be. -/
def chk (b0 b1 i0 i1 s d z : Int) : Int :=
  if d < -2147483648 ∨ 2147483648 ≤ d then 5
  else if (sizeB z && scaleB s (!noneB i0 i1)) = false then 2
  else if (!noneB b0 b1 && !wideB b0 b1 && !(b0 == 8 && (b1 == 0))) = true then 2
  else if (!noneB i0 i1 && (!wideB i0 i1 || b0 == 8)) = true then 2
  else if (rspB i0 i1 && (!(s == 1) || rspB b0 b1)) = true then 2 else 0
theorem chk3 (k : Nat) (x : Bool) (b0 b1 i0 i1 s d z : Int) : mem_Check.j3 (k + 1) x b0 b1 i0 i1 s d z = some (if x = true then 2 else if (rspB i0 i1 && (!(s == 1) || rspB b0 b1)) = true then 2 else 0) := by
  simp only [mem_Check.j3, rsp_eq, Option.bind_some]
  cases x
  · cases rspB i0 i1
    · simp
    · by_cases h : s = 1
      · cases rspB b0 b1 <;> simp [h]
      · simp [h]
  · simp
theorem chk2 (k : Nat) (x : Bool) (b0 b1 i0 i1 s d z : Int) (h1 : I64 i1) : mem_Check.j2 (k + 2) (!noneB i0 i1) x b0 b1 i0 i1 s d z =
    some (if x = true then 2 else if (!noneB i0 i1 && (!wideB i0 i1 || b0 == 8)) = true then 2 else if (rspB i0 i1 && (!(s == 1) || rspB b0 b1)) = true then 2 else 0) := by
  show mem_Check.j2 ((k + 1) + 1) (!noneB i0 i1) x b0 b1 i0 i1 s d z = _
  simp only [mem_Check.j2, chk3, wide_eq i0 i1 h1, Option.bind_some]
  cases x
  · cases noneB i0 i1
    · cases wideB i0 i1
      · simp
      · simp
    · simp
  · simp
theorem chk1 (k : Nat) (x : Bool) (b0 b1 i0 i1 s d z : Int) (h1 : I64 i1) (hb : I64 b1) : mem_Check.j1 (k + 3) (!noneB i0 i1) x b0 b1 i0 i1 s d z =
    some (if x = true then 2 else if (!noneB b0 b1 && !wideB b0 b1 && !(b0 == 8 && (b1 == 0))) = true then 2 else if (!noneB i0 i1 && (!wideB i0 i1 || b0 == 8)) = true then 2 else if (rspB i0 i1 && (!(s == 1) || rspB b0 b1)) = true then 2 else 0) := by
  show mem_Check.j1 ((k + 2) + 1) (!noneB i0 i1) x b0 b1 i0 i1 s d z = _
  simp only [mem_Check.j1, wide_eq b0 b1 hb, none_eq, Option.bind_some, chk2 _ _ _ _ _ _ _ _ _ h1]
  cases x
  · cases noneB b0 b1
    · cases wideB b0 b1
      · simp
      · simp
    · simp
  · simp
theorem check_eq (k : Nat) (b0 b1 i0 i1 s d z : Int) (h1 : I64 i1) (hb : I64 b1) (hs : I64 s) (hz : I64 z) : mem_Check.f (k + 4) b0 b1 i0 i1 s d z = some (chk b0 b1 i0 i1 s d z) := by
  have h0 : ∀ x, mem_Check.j0 (k + 4) (!noneB i0 i1) x b0 b1 i0 i1 s d z = some (if x = true then 5 else if (sizeB z && scaleB s (!noneB i0 i1)) = false then 2
      else if (!noneB b0 b1 && !wideB b0 b1 && !(b0 == 8 && (b1 == 0))) = true then 2 else if (!noneB i0 i1 && (!wideB i0 i1 || b0 == 8)) = true then 2 else if (rspB i0 i1 && (!(s == 1) || rspB b0 b1)) = true then 2 else 0) := by
    intro x
    show mem_Check.j0 ((k + 3) + 1) (!noneB i0 i1) x b0 b1 i0 i1 s d z = _
    simp only [mem_Check.j0, size_eq z hz, scale_eq s _ hs, Option.bind_some, chk1 _ _ _ _ _ _ _ _ _ h1 hb]
    cases x
    · cases sizeB z
      · simp
      · cases scaleB s (!noneB i0 i1)
        · simp
        · simp
    · simp
  unfold mem_Check.f
  simp only [none_eq, Option.bind_some, h0]
  unfold chk
  by_cases c1 : d < -2147483648
  · rw [if_pos c1, if_pos (show d < -2147483648 ∨ 2147483648 ≤ d from .inl c1)]; simp
  · rw [if_neg c1]
    by_cases c2 : 2147483648 ≤ d
    · rw [decide_eq_true c2, if_pos (show d < -2147483648 ∨ 2147483648 ≤ d from .inr c2)]; simp
    · rw [decide_eq_false c2, if_neg (show ¬ (d < -2147483648 ∨ 2147483648 ≤ d) by omega)]; simp
/-- A place as it is written best, and why it may not be. -/
def canon (b0 b1 i0 i1 s d z : Int) : Int × Int × Int × Int × Int × Int × Int × Int :=
  if chk b0 b1 i0 i1 s d z = 0 then
    (if s = 1 ∧ noneB b0 b1 = true then (i0, i1, 0, 0, 0, d, z, 0) else if rspB i0 i1 = true then (i0, i1, b0, b1, s, d, z, 0) else (b0, b1, i0, i1, s, d, z, 0))
  else (0, 0, 0, 0, 0, 0, 0, chk b0 b1 i0 i1 s d z)
theorem canon_eq (k : Nat) (b0 b1 i0 i1 s d z : Int) (h1 : I64 i1) (hb : I64 b1) (hs : I64 s) (hz : I64 z) : mem_Canon.f (k + 4) b0 b1 i0 i1 s d z = some (canon b0 b1 i0 i1 s d z) := by
  unfold mem_Canon.f canon
  rw [check_eq k b0 b1 i0 i1 s d z h1 hb hs hz]
  simp only [Option.bind_some, none_eq]
  by_cases hc : chk b0 b1 i0 i1 s d z = 0
  · rw [if_pos hc, if_pos hc]
    by_cases h : s = 1
    · rw [if_pos h]
      simp only [mem_Canon.j0, rsp_eq, Option.bind_some]
      cases noneB b0 b1
      · simp
        split <;> rfl
      · simp [h]
    · rw [if_neg h]
      simp only [mem_Canon.j0, rsp_eq, Option.bind_some]
      simp [h]
      split <;> rfl
  · rw [if_neg hc, if_neg hc]
theorem none_iff (c n : Int) : noneB c n = true ↔ c = 0 ∧ n = 0 := by unfold noneB; simp
theorem rsp_iff (c n : Int) : rspB c n = true ↔ c = 5 ∧ n = 4 := by unfold rspB; simp
theorem wide_iff (c n : Int) : wideB c n = true ↔ c = 5 ∧ 0 ≤ n ∧ n ≤ 15 := by
  unfold wideB
  simp only [Bool.and_eq_true, beq_iff_eq]
  constructor
  · rintro ⟨rfl, h⟩
    simpa [validB, full] using h
  · rintro ⟨rfl, h⟩
    exact ⟨rfl, by simpa [validB, full] using h⟩
theorem scale_yes (s : Int) : scaleB s true = true ↔ s = 1 ∨ s = 2 ∨ s = 4 ∨ s = 8 := by
  simp [scaleB, oneOf]
  omega
theorem scale_no (s : Int) : scaleB s false = true ↔ s = 0 := by simp [scaleB]
/-- A place may be. -/
def may (b0 b1 i0 i1 s d z : Int) : Prop :=
  (-2147483648 ≤ d ∧ d < 2147483648) ∧ sizeB z = true ∧
  ((i0 = 0 ∧ i1 = 0 ∧ s = 0 ∧ ((b0 = 0 ∧ b1 = 0) ∨ (b0 = 5 ∧ 0 ≤ b1 ∧ b1 ≤ 15) ∨ (b0 = 8 ∧ b1 = 0))) ∨
   (i0 = 5 ∧ 0 ≤ i1 ∧ i1 ≤ 15 ∧ (s = 1 ∨ s = 2 ∨ s = 4 ∨ s = 8) ∧ ((b0 = 0 ∧ b1 = 0) ∨ (b0 = 5 ∧ 0 ≤ b1 ∧ b1 ≤ 15)) ∧ (i1 = 4 → s = 1 ∧ ¬ (b0 = 5 ∧ b1 = 4))))
theorem chk_iff (b0 b1 i0 i1 s d z : Int) : chk b0 b1 i0 i1 s d z = 0 ↔ may b0 b1 i0 i1 s d z := by
  have n1 := none_iff b0 b1
  have n2 := none_iff i0 i1
  have r1 := rsp_iff b0 b1
  have r2 := rsp_iff i0 i1
  have w1 := wide_iff b0 b1
  have w2 := wide_iff i0 i1
  have s1 := scale_yes s
  have s2 := scale_no s
  unfold chk may
  by_cases c1 : d < -2147483648 ∨ 2147483648 ≤ d
  · rw [if_pos c1]
    constructor
    · intro h; cases h
    · rintro ⟨h, _⟩; omega
  rw [if_neg c1]
  cases hz : sizeB z
  · simp
  cases hn : noneB i0 i1
  · rw [hn] at n2
    simp only [Bool.not_false, Bool.true_and]
    cases hs : scaleB s true
    · rw [hs] at s1
      simp at s1 n2
      simp
      omega
    · rw [hs] at s1
      have s1 := s1.1 rfl
      cases hb : noneB b0 b1 <;> cases hw : wideB b0 b1 <;> cases hi : wideB i0 i1 <;> cases hr : rspB i0 i1 <;> cases hq : rspB b0 b1 <;>
        (rw [hb] at n1; rw [hw] at w1; rw [hi] at w2; rw [hr] at r2; rw [hq] at r1; simp at n1 n2 w1 w2 r1 r2; simp; omega)
  · rw [hn] at n2
    have n2 := n2.1 rfl
    simp only [Bool.not_true, Bool.true_and]
    have hr : rspB i0 i1 = false := by
      cases h : rspB i0 i1
      · rfl
      · have := r2.1 h; omega
    cases hs : scaleB s false
    · rw [hs] at s2
      simp at s2
      simp
      omega
    · rw [hs] at s2
      have s2 := s2.1 rfl
      cases hb : noneB b0 b1 <;> cases hw : wideB b0 b1 <;>
        (rw [hb] at n1; rw [hw] at w1; rw [hr]; simp at n1 w1; simp; omega)
instance (b0 b1 i0 i1 s d z : Int) : Decidable (may b0 b1 i0 i1 s d z) := by unfold may; infer_instance
/-- The canon of a place that may be: one of three. -/
theorem canon_cases {b0 b1 i0 i1 s d z : Int} (h : may b0 b1 i0 i1 s d z) :
    (s = 1 ∧ b0 = 0 ∧ b1 = 0 ∧ i0 = 5 ∧ 0 ≤ i1 ∧ i1 ≤ 15 ∧ canon b0 b1 i0 i1 s d z = (i0, i1, 0, 0, 0, d, z, 0)) ∨
    (s = 1 ∧ i0 = 5 ∧ i1 = 4 ∧ b0 = 5 ∧ 0 ≤ b1 ∧ b1 ≤ 15 ∧ b1 ≠ 4 ∧ canon b0 b1 i0 i1 s d z = (i0, i1, b0, b1, s, d, z, 0)) ∨
    (¬ (s = 1 ∧ b0 = 0 ∧ b1 = 0) ∧ ¬ (i0 = 5 ∧ i1 = 4) ∧ canon b0 b1 i0 i1 s d z = (b0, b1, i0, i1, s, d, z, 0)) := by
  have hc := (chk_iff b0 b1 i0 i1 s d z).2 h
  have n1 := none_iff b0 b1
  have r1 := rsp_iff i0 i1
  unfold canon
  rw [if_pos hc]
  unfold may at h
  by_cases a : s = 1 ∧ noneB b0 b1 = true
  · rw [if_pos a]
    have := n1.1 a.2
    exact .inl ⟨a.1, this.1, this.2, by omega, by omega, by omega, rfl⟩
  · rw [if_neg a]
    by_cases b : rspB i0 i1 = true
    · rw [if_pos b]
      have hr := r1.1 b
      have : ¬ (s = 1 ∧ (b0 = 0 ∧ b1 = 0)) := fun hx => a ⟨hx.1, n1.2 hx.2⟩
      exact .inr (.inl ⟨by omega, hr.1, hr.2, by omega, by omega, by omega, by omega, rfl⟩)
    · rw [if_neg b]
      exact .inr (.inr ⟨fun hx => a ⟨hx.1, n1.2 hx.2⟩, fun hx => b (r1.2 hx), rfl⟩)
theorem canon_not {b0 b1 i0 i1 s d z : Int} (h : ¬ may b0 b1 i0 i1 s d z) : canon b0 b1 i0 i1 s d z = (0, 0, 0, 0, 0, 0, 0, chk b0 b1 i0 i1 s d z) ∧ chk b0 b1 i0 i1 s d z ≠ 0 := by
  have hc : chk b0 b1 i0 i1 s d z ≠ 0 := fun e => h ((chk_iff b0 b1 i0 i1 s d z).1 e)
  unfold canon
  rw [if_neg hc]
  exact ⟨rfl, hc⟩
theorem canon_same {b0 b1 i0 i1 s d z : Int} (h : may b0 b1 i0 i1 s d z) (h1 : ¬ (s = 1 ∧ b0 = 0 ∧ b1 = 0)) (h2 : ¬ (i0 = 5 ∧ i1 = 4)) : canon b0 b1 i0 i1 s d z = (b0, b1, i0, i1, s, d, z, 0) := by
  rcases canon_cases h with h3 | h3 | h3
  · exact absurd ⟨h3.1, h3.2.1, h3.2.2.1⟩ h1
  · exact absurd ⟨h3.2.1, h3.2.2.1⟩ h2
  · exact h3.2.2
/-- What is told of a place's canon: it may be, is its own canon, has the size and the displacement. -/
theorem canon_good {b0 b1 i0 i1 s d z : Int} (h : may b0 b1 i0 i1 s d z) : ∃ c0 c1 j0 j1 t : Int, canon b0 b1 i0 i1 s d z = (c0, c1, j0, j1, t, d, z, 0) ∧ may c0 c1 j0 j1 t d z ∧ canon c0 c1 j0 j1 t d z = (c0, c1, j0, j1, t, d, z, 0) := by
  have h' := h
  unfold may at h'
  rcases canon_cases h with ⟨rfl, rfl, rfl, rfl, g1, g2, e⟩ | ⟨rfl, rfl, rfl, rfl, g1, g2, g3, e⟩ | ⟨g1, g2, e⟩
  · have hm : may 5 i1 0 0 0 d z := by unfold may; exact ⟨h'.1, h'.2.1, by omega⟩
    exact ⟨_, _, _, _, _, e, hm, canon_same hm (by omega) (by omega)⟩
  · have hm : may 5 4 5 b1 1 d z := by unfold may; exact ⟨h'.1, h'.2.1, by omega⟩
    exact ⟨_, _, _, _, _, e, hm, canon_same hm (by omega) (by omega)⟩
  · exact ⟨_, _, _, _, _, e, h, canon_same h g1 g2⟩
/-- Why an operand may not be. -/
def oChk (K c n b0 b1 i0 i1 s d z N : Int) : Int :=
  if K = 1 then (if validB c n = true then (if c = 8 then 2 else 0) else 2) else if K = 2 then chk b0 b1 i0 i1 s d z
  else if K = 4 then (if N < -2147483648 then 5 else if N ≥ 2147483648 then 5 else 0) else if K = 3 then 0 else 2
theorem ochk_eq (k : Nat) (K c n b0 b1 i0 i1 s d z N : Int) (hn : I64 n) (h1 : I64 i1) (hb : I64 b1) (hs : I64 s) (hz : I64 z) : operand_Check.f (k + 4) K c n b0 b1 i0 i1 s d z N = some (oChk K c n b0 b1 i0 i1 s d z N) := by
  unfold operand_Check.f oChk
  rw [valid_eq c n hn, check_eq k b0 b1 i0 i1 s d z h1 hb hs hz]
  simp only [Option.bind_some]
  by_cases g1 : K = 1
  · rw [if_pos g1, if_pos g1]
    by_cases g2 : validB c n = true
    · rw [if_pos g2, if_pos g2]; split <;> rfl
    · rw [if_neg g2, if_neg g2]
  rw [if_neg g1, if_neg g1]
  by_cases g2 : K = 2
  · rw [if_pos g2, if_pos g2]
  rw [if_neg g2, if_neg g2]
  by_cases g3 : K = 4
  · rw [if_pos g3, if_pos g3]; split
    · rfl
    · split <;> rfl
  rw [if_neg g3, if_neg g3]
  split <;> rfl
abbrev T12 := Int × Int × Int × Int × Int × Int × Int × Int × Int × Int × Int × Int
/-- An operand's canon, and why it may not be. -/
def oCan (K c n b0 b1 i0 i1 s d z N : Int) : T12 :=
  if oChk K c n b0 b1 i0 i1 s d z N = 0 then (if K = 1 then (K, c, n, 0, 0, 0, 0, 0, 0, 0, 0, 0) else if K = 2 then
    (K, 0, 0, (canon b0 b1 i0 i1 s d z).1, (canon b0 b1 i0 i1 s d z).2.1, (canon b0 b1 i0 i1 s d z).2.2.1, (canon b0 b1 i0 i1 s d z).2.2.2.1, (canon b0 b1 i0 i1 s d z).2.2.2.2.1, (canon b0 b1 i0 i1 s d z).2.2.2.2.2.1, (canon b0 b1 i0 i1 s d z).2.2.2.2.2.2.1, 0, (canon b0 b1 i0 i1 s d z).2.2.2.2.2.2.2)
    else (K, 0, 0, 0, 0, 0, 0, 0, 0, 0, N, 0)) else (0, 0, 0, 0, 0, 0, 0, 0, 0, 0, 0, oChk K c n b0 b1 i0 i1 s d z N)
theorem ocan_eq (k : Nat) (K c n b0 b1 i0 i1 s d z N : Int) (hn : I64 n) (h1 : I64 i1) (hb : I64 b1) (hs : I64 s) (hz : I64 z) : operand_Canon.f (k + 4) K c n b0 b1 i0 i1 s d z N = some (oCan K c n b0 b1 i0 i1 s d z N) := by
  unfold operand_Canon.f oCan
  rw [ochk_eq k K c n b0 b1 i0 i1 s d z N hn h1 hb hs hz, canon_eq k b0 b1 i0 i1 s d z h1 hb hs hz]
  simp only [Option.bind_some]
  split
  · split
    · rfl
    · split <;> rfl
  · rfl
def rSize (c n : Int) : Int := (reg_Size.f 1 c n).getD 0
theorem rsize_eq (k : Nat) (c n : Int) (hn : I64 n) : reg_Size.f (k + 1) c n = some (rSize c n) := by
  unfold rSize reg_Size.f
  rw [valid_eq c n hn]
  simp only [Option.bind_some, reg_Size.j0]
  cases validB c n
  · rfl
  · simp only [if_true]
    split
    · rfl
    · split
      · rfl
      · split
        · split
          · rfl
          · split
            · rfl
            · split <;> rfl
        · split
          · rfl
          · split
            · rfl
            · split <;> rfl
def oSize (K c n b0 b1 i0 i1 s d z N : Int) : Int := if oChk K c n b0 b1 i0 i1 s d z N = 0 then (if K = 1 then rSize c n else if K = 2 then z else 0) else 0
theorem osize_eq (k : Nat) (K c n b0 b1 i0 i1 s d z N : Int) (hn : I64 n) (h1 : I64 i1) (hb : I64 b1) (hs : I64 s) (hz : I64 z) : operand_Size.f (k + 4) K c n b0 b1 i0 i1 s d z N = some (oSize K c n b0 b1 i0 i1 s d z N) := by
  unfold operand_Size.f oSize
  rw [ochk_eq k K c n b0 b1 i0 i1 s d z N hn h1 hb hs hz, rsize_eq (k + 3) c n hn]
  simp only [Option.bind_some]
  split
  · split
    · rfl
    · split <;> rfl
  · rfl
theorem osame_yes (k : Nat) (K c n b0 b1 i0 i1 s d z N L e m c0 c1 j0 j1 t f y M : Int) (hn : I64 n) (h1 : I64 i1) (hb : I64 b1) (hs : I64 s) (hz : I64 z) (hn' : I64 m) (h1' : I64 j1) (hb' : I64 c1) (hs' : I64 t) (hz' : I64 y) (h : oCan K c n b0 b1 i0 i1 s d z N = oCan L e m c0 c1 j0 j1 t f y M) (h0 : oChk K c n b0 b1 i0 i1 s d z N = 0) (r : (oCan K c n b0 b1 i0 i1 s d z N).2.2.2.2.2.2.2.2.2.2.2 = 0) : operand_Same.f (k + 4) K c n b0 b1 i0 i1 s d z N L e m c0 c1 j0 j1 t f y M = some true := by
  unfold operand_Same.f
  rw [ocan_eq k K c n b0 b1 i0 i1 s d z N hn h1 hb hs hz, ocan_eq k L e m c0 c1 j0 j1 t f y M hn' h1' hb' hs' hz', ← h]
  simp only [Option.bind_some, r, if_true, beq_self_eq_true, Bool.and_self]
theorem osame_no (k : Nat) (K c n b0 b1 i0 i1 s d z N : Int) (hn : I64 n) (h1 : I64 i1) (hb : I64 b1) (hs : I64 s) (hz : I64 z) (h0 : oChk K c n b0 b1 i0 i1 s d z N ≠ 0) : operand_Same.f (k + 4) K c n b0 b1 i0 i1 s d z N K c n b0 b1 i0 i1 s d z N = some false := by
  unfold operand_Same.f
  rw [ocan_eq k K c n b0 b1 i0 i1 s d z N hn h1 hb hs hz]
  unfold oCan
  rw [if_neg h0]
  simp only [Option.bind_some]
  rw [if_neg h0]
theorem known30 : linotypelaw06_OperandKnown.f 30 = some true := by decide +kernel
theorem OperandCanon (a0 a1 a2 a3 a4 a5 a6 a7 a8 a9 a10 b0 b1 b2 b3 b4 b5 b6 b7 b8 b9 b10 : Int) (v0 : (Lit.int .i64 a0).wf = true) (v1 : (Lit.int .i64 a1).wf = true) (v2 : (Lit.int .i64 a2).wf = true) (v3 : (Lit.int .i64 a3).wf = true) (v4 : (Lit.int .i64 a4).wf = true) (v5 : (Lit.int .i64 a5).wf = true) (v6 : (Lit.int .i64 a6).wf = true) (v7 : (Lit.int .i64 a7).wf = true) (v8 : (Lit.int .i64 a8).wf = true) (v9 : (Lit.int .i64 a9).wf = true) (v10 : (Lit.int .i64 a10).wf = true) (w0 : (Lit.int .i64 b0).wf = true) (w1 : (Lit.int .i64 b1).wf = true) (w2 : (Lit.int .i64 b2).wf = true) (w3 : (Lit.int .i64 b3).wf = true) (w4 : (Lit.int .i64 b4).wf = true) (w5 : (Lit.int .i64 b5).wf = true) (w6 : (Lit.int .i64 b6).wf = true) (w7 : (Lit.int .i64 b7).wf = true) (w8 : (Lit.int .i64 b8).wf = true) (w9 : (Lit.int .i64 b9).wf = true) (w10 : (Lit.int .i64 b10).wf = true) : ∃ k, linotypelaw06_OperandCanon.f k a0 a1 a2 a3 a4 a5 a6 a7 a8 a9 a10 b0 b1 b2 b3 b4 b5 b6 b7 b8 b9 b10 = some true := by
  have ha2 := wf64 v2; have ha4 := wf64 v4; have ha6 := wf64 v6; have ha7 := wf64 v7; have ha9 := wf64 v9
  have hb2 := wf64 w2; have hb4 := wf64 w4; have hb6 := wf64 w6; have hb7 := wf64 w7; have hb9 := wf64 w9
  have z : I64 0 := by omega
  refine ⟨30, ?_⟩
  unfold linotypelaw06_OperandCanon.f
  rw [known30, ocan_eq 26 a0 a1 a2 a3 a4 a5 a6 a7 a8 a9 a10 ha2 ha6 ha4 ha7 ha9, ochk_eq 26 a0 a1 a2 a3 a4 a5 a6 a7 a8 a9 a10 ha2 ha6 ha4 ha7 ha9]
  simp only [Option.bind_some]
  by_cases h0 : oChk a0 a1 a2 a3 a4 a5 a6 a7 a8 a9 a10 = 0
  · have err : (oCan a0 a1 a2 a3 a4 a5 a6 a7 a8 a9 a10).2.2.2.2.2.2.2.2.2.2.2 = 0 := by
      unfold oCan
      rw [if_pos h0]
      split
      · rfl
      · split
        · rename_i g1 g2
          have hc : chk a3 a4 a5 a6 a7 a8 a9 = 0 := by unfold oChk at h0; rw [if_neg g1, if_pos g2] at h0; exact h0
          obtain ⟨_, _, _, _, _, e, _⟩ := canon_good ((chk_iff a3 a4 a5 a6 a7 a8 a9).1 hc)
          show (canon a3 a4 a5 a6 a7 a8 a9).2.2.2.2.2.2.2 = 0
          rw [e]
        · rfl
    rw [err, h0, if_pos rfl, if_pos rfl]
    by_cases g1 : a0 = 1
    · subst g1
      have hx : oChk 1 a1 a2 0 0 0 0 0 0 0 0 = 0 := by rw [← h0]; unfold oChk; rfl
      have hc : oChk 1 a1 a2 b3 b4 b5 b6 b7 b8 b9 b10 = 0 := by rw [← h0]; unfold oChk; rfl
      have ea : oCan 1 a1 a2 a3 a4 a5 a6 a7 a8 a9 a10 = (1, a1, a2, 0, 0, 0, 0, 0, 0, 0, 0, 0) := by unfold oCan; rw [if_pos h0, if_pos rfl]
      have ex : oCan 1 a1 a2 0 0 0 0 0 0 0 0 = (1, a1, a2, 0, 0, 0, 0, 0, 0, 0, 0, 0) := by unfold oCan; rw [if_pos hx, if_pos rfl]
      have ec : oCan 1 a1 a2 b3 b4 b5 b6 b7 b8 b9 b10 = (1, a1, a2, 0, 0, 0, 0, 0, 0, 0, 0, 0) := by unfold oCan; rw [if_pos hc, if_pos rfl]
      have sa : oSize 1 a1 a2 a3 a4 a5 a6 a7 a8 a9 a10 = rSize a1 a2 := by unfold oSize; rw [if_pos h0, if_pos rfl]
      have sx : oSize 1 a1 a2 0 0 0 0 0 0 0 0 = rSize a1 a2 := by unfold oSize; rw [if_pos hx, if_pos rfl]
      have sc : oSize 1 a1 a2 b3 b4 b5 b6 b7 b8 b9 b10 = rSize a1 a2 := by unfold oSize; rw [if_pos hc, if_pos rfl]
      have m1 : ∀ k, operand_Same.f (k + 4) 1 a1 a2 a3 a4 a5 a6 a7 a8 a9 a10 1 a1 a2 0 0 0 0 0 0 0 0 = some true := fun k => osame_yes k _ _ _ _ _ _ _ _ _ _ _ _ _ _ _ _ _ _ _ _ _ _ ha2 ha6 ha4 ha7 ha9 ha2 z z z z (ea.trans ex.symm) h0 err
      have m2 : ∀ k, operand_Same.f (k + 4) 1 a1 a2 a3 a4 a5 a6 a7 a8 a9 a10 1 a1 a2 b3 b4 b5 b6 b7 b8 b9 b10 = some true := fun k => osame_yes k _ _ _ _ _ _ _ _ _ _ _ _ _ _ _ _ _ _ _ _ _ _ ha2 ha6 ha4 ha7 ha9 ha2 hb6 hb4 hb7 hb9 (ea.trans ec.symm) h0 err
      rw [ea]
      simp only [ocan_eq 26 1 a1 a2 0 0 0 0 0 0 0 0 ha2 z z z z, ex, Option.bind_some, if_true]
      have p0 := osize_eq 22 1 a1 a2 a3 a4 a5 a6 a7 a8 a9 a10 ha2 ha6 ha4 ha7 ha9
      have p1 := osize_eq 22 1 a1 a2 0 0 0 0 0 0 0 0 ha2 z z z z
      have p2 := osize_eq 22 1 a1 a2 b3 b4 b5 b6 b7 b8 b9 b10 ha2 hb6 hb4 hb7 hb9
      have q1 := m1 22
      have q2 := m2 22
      rw [sa] at p0; rw [sx] at p1; rw [sc] at p2
      simp [linotypelaw06_OperandCanon.j0, linotypelaw06_OperandCanon.j1, linotypelaw06_OperandCanon.j2, linotypelaw06_OperandCanon.j3, p0, p1, p2, q1, q2]
    · by_cases g2 : a0 = 2
      · subst g2
        have hm : chk a3 a4 a5 a6 a7 a8 a9 = 0 := by unfold oChk at h0; rw [if_neg g1, if_pos rfl] at h0; exact h0
        obtain ⟨c0, c1, j0, j1, t, e, hmay, hcan⟩ := canon_good ((chk_iff a3 a4 a5 a6 a7 a8 a9).1 hm)
        have hx0 := (chk_iff c0 c1 j0 j1 t a8 a9).2 hmay
        have r0 : I64 j1 ∧ I64 c1 ∧ I64 t := by unfold may at hmay; omega
        have hx : oChk 2 0 0 c0 c1 j0 j1 t a8 a9 0 = 0 := by unfold oChk; rw [if_neg g1, if_pos rfl]; exact hx0
        have hc : oChk 2 b1 b2 a3 a4 a5 a6 a7 a8 a9 b10 = 0 := by unfold oChk; rw [if_neg g1, if_pos rfl]; exact hm
        have ea : oCan 2 a1 a2 a3 a4 a5 a6 a7 a8 a9 a10 = (2, 0, 0, c0, c1, j0, j1, t, a8, a9, 0, 0) := by unfold oCan; rw [if_pos h0, if_neg g1, if_pos rfl, e]
        have ex : oCan 2 0 0 c0 c1 j0 j1 t a8 a9 0 = (2, 0, 0, c0, c1, j0, j1, t, a8, a9, 0, 0) := by unfold oCan; rw [if_pos hx, if_neg g1, if_pos rfl, hcan]
        have ec : oCan 2 b1 b2 a3 a4 a5 a6 a7 a8 a9 b10 = (2, 0, 0, c0, c1, j0, j1, t, a8, a9, 0, 0) := by unfold oCan; rw [if_pos hc, if_neg g1, if_pos rfl, e]
        have sa : oSize 2 a1 a2 a3 a4 a5 a6 a7 a8 a9 a10 = a9 := by unfold oSize; rw [if_pos h0, if_neg g1, if_pos rfl]
        have sx : oSize 2 0 0 c0 c1 j0 j1 t a8 a9 0 = a9 := by unfold oSize; rw [if_pos hx, if_neg g1, if_pos rfl]
        have sc : oSize 2 b1 b2 a3 a4 a5 a6 a7 a8 a9 b10 = a9 := by unfold oSize; rw [if_pos hc, if_neg g1, if_pos rfl]
        have q1 : operand_Same.f (22 + 4) 2 a1 a2 a3 a4 a5 a6 a7 a8 a9 a10 2 0 0 c0 c1 j0 j1 t a8 a9 0 = some true := osame_yes 22 _ _ _ _ _ _ _ _ _ _ _ _ _ _ _ _ _ _ _ _ _ _ ha2 ha6 ha4 ha7 ha9 z r0.1 r0.2.1 r0.2.2 ha9 (ea.trans ex.symm) h0 err
        have q2 : operand_Same.f (22 + 4) 2 a1 a2 a3 a4 a5 a6 a7 a8 a9 a10 2 b1 b2 a3 a4 a5 a6 a7 a8 a9 b10 = some true := osame_yes 22 _ _ _ _ _ _ _ _ _ _ _ _ _ _ _ _ _ _ _ _ _ _ ha2 ha6 ha4 ha7 ha9 hb2 ha6 ha4 ha7 ha9 (ea.trans ec.symm) h0 err
        rw [ea]
        simp only [ocan_eq 26 2 0 0 c0 c1 j0 j1 t a8 a9 0 z r0.1 r0.2.1 r0.2.2 ha9, ex, Option.bind_some, if_true]
        have p0 := osize_eq 22 2 a1 a2 a3 a4 a5 a6 a7 a8 a9 a10 ha2 ha6 ha4 ha7 ha9
        have p1 := osize_eq 22 2 0 0 c0 c1 j0 j1 t a8 a9 0 z r0.1 r0.2.1 r0.2.2 ha9
        have p2 := osize_eq 22 2 b1 b2 a3 a4 a5 a6 a7 a8 a9 b10 hb2 ha6 ha4 ha7 ha9
        rw [sa] at p0; rw [sx] at p1; rw [sc] at p2
        simp [linotypelaw06_OperandCanon.j0, linotypelaw06_OperandCanon.j1, linotypelaw06_OperandCanon.j2, linotypelaw06_OperandCanon.j3, p0, p1, p2, q1, q2]
      · have hx : oChk a0 0 0 0 0 0 0 0 0 0 a10 = 0 := by rw [← h0]; unfold oChk; rw [if_neg g1, if_neg g2, if_neg g1, if_neg g2]
        have hc : oChk a0 b1 b2 b3 b4 b5 b6 b7 b8 b9 a10 = 0 := by rw [← h0]; unfold oChk; rw [if_neg g1, if_neg g2, if_neg g1, if_neg g2]
        have ea : oCan a0 a1 a2 a3 a4 a5 a6 a7 a8 a9 a10 = (a0, 0, 0, 0, 0, 0, 0, 0, 0, 0, a10, 0) := by unfold oCan; rw [if_pos h0, if_neg g1, if_neg g2]
        have ex : oCan a0 0 0 0 0 0 0 0 0 0 a10 = (a0, 0, 0, 0, 0, 0, 0, 0, 0, 0, a10, 0) := by unfold oCan; rw [if_pos hx, if_neg g1, if_neg g2]
        have ec : oCan a0 b1 b2 b3 b4 b5 b6 b7 b8 b9 a10 = (a0, 0, 0, 0, 0, 0, 0, 0, 0, 0, a10, 0) := by unfold oCan; rw [if_pos hc, if_neg g1, if_neg g2]
        have sa : oSize a0 a1 a2 a3 a4 a5 a6 a7 a8 a9 a10 = 0 := by unfold oSize; rw [if_pos h0, if_neg g1, if_neg g2]
        have sx : oSize a0 0 0 0 0 0 0 0 0 0 a10 = 0 := by unfold oSize; rw [if_pos hx, if_neg g1, if_neg g2]
        have sc : oSize a0 b1 b2 b3 b4 b5 b6 b7 b8 b9 a10 = 0 := by unfold oSize; rw [if_pos hc, if_neg g1, if_neg g2]
        have q1 : operand_Same.f (22 + 4) a0 a1 a2 a3 a4 a5 a6 a7 a8 a9 a10 a0 0 0 0 0 0 0 0 0 0 a10 = some true := osame_yes 22 _ _ _ _ _ _ _ _ _ _ _ _ _ _ _ _ _ _ _ _ _ _ ha2 ha6 ha4 ha7 ha9 z z z z z (ea.trans ex.symm) h0 err
        have q2 : operand_Same.f (22 + 4) a0 a1 a2 a3 a4 a5 a6 a7 a8 a9 a10 a0 b1 b2 b3 b4 b5 b6 b7 b8 b9 a10 = some true := osame_yes 22 _ _ _ _ _ _ _ _ _ _ _ _ _ _ _ _ _ _ _ _ _ _ ha2 ha6 ha4 ha7 ha9 hb2 hb6 hb4 hb7 hb9 (ea.trans ec.symm) h0 err
        rw [ea]
        simp only [ocan_eq 26 a0 0 0 0 0 0 0 0 0 0 a10 z z z z z, ex, Option.bind_some, if_true]
        have p0 := osize_eq 22 a0 a1 a2 a3 a4 a5 a6 a7 a8 a9 a10 ha2 ha6 ha4 ha7 ha9
        have p1 := osize_eq 22 a0 0 0 0 0 0 0 0 0 0 a10 z z z z z
        have p2 := osize_eq 22 a0 b1 b2 b3 b4 b5 b6 b7 b8 b9 a10 hb2 hb6 hb4 hb7 hb9
        rw [sa] at p0; rw [sx] at p1; rw [sc] at p2
        simp [linotypelaw06_OperandCanon.j0, linotypelaw06_OperandCanon.j1, linotypelaw06_OperandCanon.j2, linotypelaw06_OperandCanon.j3, p0, p1, p2, q1, q2, g1, g2]
  · have ea : oCan a0 a1 a2 a3 a4 a5 a6 a7 a8 a9 a10 = (0, 0, 0, 0, 0, 0, 0, 0, 0, 0, 0, oChk a0 a1 a2 a3 a4 a5 a6 a7 a8 a9 a10) := by unfold oCan; rw [if_neg h0]
    have sa := osize_eq 26 a0 a1 a2 a3 a4 a5 a6 a7 a8 a9 a10 ha2 ha6 ha4 ha7 ha9
    have so : oSize a0 a1 a2 a3 a4 a5 a6 a7 a8 a9 a10 = 0 := by unfold oSize; rw [if_neg h0]
    have qa := osame_no 26 a0 a1 a2 a3 a4 a5 a6 a7 a8 a9 a10 ha2 ha6 ha4 ha7 ha9 h0
    rw [so] at sa
    rw [ea]
    simp only [sa, qa, if_neg h0, Option.bind_some, if_true, beq_self_eq_true, Bool.and_self, Bool.not_false]
end Go.Proofs.YtceofdchbolidaaDoor.Pure3
