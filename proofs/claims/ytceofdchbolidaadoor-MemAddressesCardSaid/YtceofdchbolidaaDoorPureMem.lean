/- Plain facts: which registers and places may be, and how a place is written best: what the program's functions answer, in closed words. Condition: the numbers have 64 bits. -/
import Derived.Test.YtceofdchbolidaaDoorXAllx6
import Derived.Test.YtceofdchbolidaaDoorPureImm
namespace Go.Proofs.YtceofdchbolidaaDoor.Pure2
set_option linter.unusedVariables false
set_option linter.unusedSimpArgs false
open Go.RowKit Go.Proofs.YtceofdchbolidaaDoor.XAll Go.Proofs.YtceofdchbolidaaDoor.Hand Go.Proofs.YtceofdchbolidaaDoor.Math Go.Proofs.YtceofdchbolidaaDoorW.PrintWords Go.Proofs.YtceofdchbolidaaDoorW.PrintLast Go.Proofs.YtceofdchbolidaaDoorW.PrintMore

def full (c : Int) : Prop := c = 1 ∨ c = 3 ∨ c = 4 ∨ c = 5 ∨ c = 6 ∨ c = 7
instance (c : Int) : Decidable (full c) := by unfold full; infer_instance
/-- May a register be? -/
def validB (c n : Int) : Bool := if c = 2 then decide (4 ≤ n ∧ n ≤ 7) else if full c then decide (0 ≤ n ∧ n ≤ 15) else if c = 8 then decide (n = 0) else false
theorem core (ws : List ByteArray) (f n : Int) (m : Nat) (hall : (ws.all fun s => s.toList != []) = true) (hlen : ws.length = m) (hm : m ≤ 16) (hf : f = 0 ∨ f = 4) (hn : I64 n) :
    ((if (wrap64 (n - f)) < 0 then (some (⟨#[]⟩ : ByteArray)) else (if (wrap64 (n - f)) ≥ (ws.length : Int) then (some (⟨#[]⟩ : ByteArray)) else (if 0 ≤ (wrap64 (n - f)) then (if (wrap64 (n - f)) < (ws.length : Int) then (some (rdOf ByteArray.empty ws (wrap64 (n - f)))) else (none)) else (none)))).bind fun t => (some (t.toList != ([] : List UInt8)))) = some (decide (0 ≤ n - f ∧ n - f < m)) := by
  have hw : (wrap64 (n - f) = n - f) ∨ (n - f < -9223372036854775808 ∧ wrap64 (n - f) ≥ 100) := by
    by_cases h : n - f < -9223372036854775808
    · right; refine ⟨h, ?_⟩; unfold wrap64; omega
    · left; unfold wrap64; omega
  have he : ((⟨#[]⟩ : ByteArray).toList != ([] : List UInt8)) = false := by decide +kernel
  by_cases h1 : wrap64 (n - f) < 0
  · rw [if_pos h1]
    simp only [Option.bind_some, he]
    rw [decide_eq_false (by omega)]
  · rw [if_neg h1]
    by_cases h2 : wrap64 (n - f) ≥ (ws.length : Int)
    · rw [if_pos h2]
      simp only [Option.bind_some, he]
      rw [decide_eq_false (by omega)]
    · rw [if_neg h2, if_pos (by omega), if_pos (by omega)]
      simp only [Option.bind_some]
      have hi : (wrap64 (n - f)).toNat < ws.length := by omega
      have hg : rdOf ByteArray.empty ws (wrap64 (n - f)) = ws[(wrap64 (n - f)).toNat]'hi := by
        unfold rdOf
        rw [List.getD_eq_getElem?_getD, List.getElem?_eq_getElem hi]; rfl
      rw [hg, List.all_eq_true.1 hall _ (List.getElem_mem hi), decide_eq_true (by omega)]
theorem valid_eq (c n : Int) (hn : I64 n) : reg_Valid.f c n = some (validB c n) := by
  unfold reg_Valid.f reg_Name.f reg_names.f
  simp only [Option.bind_some]
  have go : ∀ (s : ByteArray) (f : Int) (m : Nat) (b : Bool), txt c = s → (if c = 2 then (4 : Int) else 0) = f → (f = 0 ∨ f = 4) → ((words s).all fun s => s.toList != []) = true → (words s).length = m → m ≤ 16 → decide (0 ≤ n - f ∧ n - f < m) = b →
      ((if (wrap64 (n - (if c = 2 then (4 : Int) else 0))) < 0 then (some (⟨#[]⟩ : ByteArray)) else (if (wrap64 (n - (if c = 2 then (4 : Int) else 0))) ≥ ((words (txt c)).length : Int) then (some (⟨#[]⟩ : ByteArray)) else (if 0 ≤ (wrap64 (n - (if c = 2 then (4 : Int) else 0))) then (if (wrap64 (n - (if c = 2 then (4 : Int) else 0))) < ((words (txt c)).length : Int) then (some (rdOf ByteArray.empty (words (txt c)) (wrap64 (n - (if c = 2 then (4 : Int) else 0))))) else (none)) else (none)))).bind fun t => (some (t.toList != ([] : List UInt8)))) = some b := by
    intro s f m b hs hf hf2 ha hl hm hb
    rw [hs, hf, core (words s) f n m ha hl hm hf2 hn, hb]
  by_cases h2 : c = 2
  · have eb : decide (0 ≤ n - 4 ∧ n - 4 < ((4 : Nat) : Int)) = validB c n := by
      unfold validB; rw [if_pos h2]; congr 1; simp; omega
    exact go txt2 4 4 _ (by unfold txt; rw [if_pos h2]) (if_pos h2) (.inr rfl) (by decide +kernel) (by decide +kernel) (by decide) eb
  · have f0 : (if c = 2 then (4 : Int) else 0) = 0 := if_neg h2
    by_cases hf : full c
    · have e : decide (0 ≤ n - 0 ∧ n - 0 < ((16 : Nat) : Int)) = validB c n := by
        unfold validB; rw [if_neg h2, if_pos hf]; congr 1; simp; omega
      rcases hf with rfl | rfl | rfl | rfl | rfl | rfl
      · exact go txt1 0 16 _ rfl f0 (.inl rfl) (by decide +kernel) (by decide +kernel) (by decide) e
      · exact go txt3 0 16 _ rfl f0 (.inl rfl) (by decide +kernel) (by decide +kernel) (by decide) e
      · exact go txt4 0 16 _ rfl f0 (.inl rfl) (by decide +kernel) (by decide +kernel) (by decide) e
      · exact go txt5 0 16 _ rfl f0 (.inl rfl) (by decide +kernel) (by decide +kernel) (by decide) e
      · exact go txt6 0 16 _ rfl f0 (.inl rfl) (by decide +kernel) (by decide +kernel) (by decide) e
      · exact go txt7 0 16 _ rfl f0 (.inl rfl) (by decide +kernel) (by decide +kernel) (by decide) e
    · have hf' := hf
      unfold full at hf
      by_cases h8 : c = 8
      · have e : decide (0 ≤ n - 0 ∧ n - 0 < ((1 : Nat) : Int)) = validB c n := by
          unfold validB; rw [if_neg h2, if_neg hf', if_pos h8]; congr 1; simp; omega
        subst h8
        exact go txt8 0 1 _ rfl f0 (.inl rfl) (by decide +kernel) (by decide +kernel) (by decide) e
      · have ht : txt c = ⟨#[]⟩ := by
          unfold txt
          rw [if_neg h2, if_neg (by omega), if_neg (by omega), if_neg (by omega), if_neg (by omega), if_neg (by omega), if_neg (by omega), if_neg h8]
        have e : decide (0 ≤ n - 0 ∧ n - 0 < ((0 : Nat) : Int)) = validB c n := by
          unfold validB; rw [if_neg h2, if_neg hf', if_neg h8]; exact decide_eq_false (by omega)
        exact go ⟨#[]⟩ 0 0 _ ht f0 (.inl rfl) (by decide +kernel) (by decide +kernel) (by decide) e
def wideB (c n : Int) : Bool := c == 5 && validB c n
theorem wide_eq (c n : Int) (hn : I64 n) : mem_wide.f c n = some (wideB c n) := by
  unfold mem_wide.f wideB
  by_cases h : c = 5
  · rw [if_pos h, valid_eq c n hn, beq_iff_eq.2 h]; rfl
  · rw [if_neg h, beq_eq_false_iff_ne.2 h]; rfl
def noneB (c n : Int) : Bool := c == 0 && (n == 0)
def rspB (c n : Int) : Bool := c == 5 && (n == 4)
theorem none_eq (c n : Int) : mem_none.f c n = some (noneB c n) := rfl
theorem rsp_eq (c n : Int) : mem_rsp.f c n = some (rspB c n) := rfl
def sizeB (z : Int) : Bool := oneOf [0, 1, 2, 4, 8, 16, 32] z
def scaleB (s : Int) (i : Bool) : Bool := oneOf [1, 2, 4, 8] s && i || !i && (s == 0)
theorem size_eq (z : Int) (h : I64 z) : mem_size.f z = some (sizeB z) := by unfold mem_size.f; rw [if_pos (show in64 z from h)]; rfl
theorem scale_eq (s : Int) (i : Bool) (h : I64 s) : mem_scale.f s i = some (scaleB s i) := by unfold mem_scale.f; rw [if_pos (show in64 s from h)]; rfl
/-- Why a place may not be. -/
def chk (b0 b1 i0 i1 s d z : Int) : Int :=
  if d < -2147483648 ∨ 2147483648 ≤ d then 5
  else if (sizeB z && scaleB s (!noneB i0 i1)) = false then 2
  else if (!noneB b0 b1 && !wideB b0 b1 && !(b0 == 8 && (b1 == 0))) = true then 2
  else if (!noneB i0 i1 && (!wideB i0 i1 || b0 == 8)) = true then 2
  else if (rspB i0 i1 && (!(s == 1) || rspB b0 b1)) = true then 2 else 0
theorem chk3 (k : Nat) (x : Bool) (b0 b1 i0 i1 s d z : Int) : mem_Check.j3 (k + 1) x b0 b1 i0 i1 s d z = some (if x = true then 2 else if (rspB i0 i1 && (!(s == 1) || rspB b0 b1)) = true then 2 else 0) := by
  simp only [mem_Check.j3, rsp_eq, Option.bind_some]
  cases x
  · cases rspB i0 i1
    · simp
    · by_cases h : s = 1
      · cases rspB b0 b1 <;> simp [h]
      · simp [h]
  · simp
theorem chk2 (k : Nat) (x : Bool) (b0 b1 i0 i1 s d z : Int) (h1 : I64 i1) : mem_Check.j2 (k + 2) (!noneB i0 i1) x b0 b1 i0 i1 s d z =
    some (if x = true then 2 else if (!noneB i0 i1 && (!wideB i0 i1 || b0 == 8)) = true then 2 else if (rspB i0 i1 && (!(s == 1) || rspB b0 b1)) = true then 2 else 0) := by
  show mem_Check.j2 ((k + 1) + 1) (!noneB i0 i1) x b0 b1 i0 i1 s d z = _
  simp only [mem_Check.j2, chk3, wide_eq i0 i1 h1, Option.bind_some]
  cases x
  · cases noneB i0 i1
    · cases wideB i0 i1
      · simp
      · simp
    · simp
  · simp
theorem chk1 (k : Nat) (x : Bool) (b0 b1 i0 i1 s d z : Int) (h1 : I64 i1) (hb : I64 b1) : mem_Check.j1 (k + 3) (!noneB i0 i1) x b0 b1 i0 i1 s d z =
    some (if x = true then 2 else if (!noneB b0 b1 && !wideB b0 b1 && !(b0 == 8 && (b1 == 0))) = true then 2 else if (!noneB i0 i1 && (!wideB i0 i1 || b0 == 8)) = true then 2 else if (rspB i0 i1 && (!(s == 1) || rspB b0 b1)) = true then 2 else 0) := by
  show mem_Check.j1 ((k + 2) + 1) (!noneB i0 i1) x b0 b1 i0 i1 s d z = _
  simp only [mem_Check.j1, wide_eq b0 b1 hb, none_eq, Option.bind_some, chk2 _ _ _ _ _ _ _ _ _ h1]
  cases x
  · cases noneB b0 b1
    · cases wideB b0 b1
      · simp
      · simp
    · simp
  · simp
theorem check_eq (k : Nat) (b0 b1 i0 i1 s d z : Int) (h1 : I64 i1) (hb : I64 b1) (hs : I64 s) (hz : I64 z) : mem_Check.f (k + 4) b0 b1 i0 i1 s d z = some (chk b0 b1 i0 i1 s d z) := by
  have h0 : ∀ x, mem_Check.j0 (k + 4) (!noneB i0 i1) x b0 b1 i0 i1 s d z = some (if x = true then 5 else if (sizeB z && scaleB s (!noneB i0 i1)) = false then 2
      else if (!noneB b0 b1 && !wideB b0 b1 && !(b0 == 8 && (b1 == 0))) = true then 2 else if (!noneB i0 i1 && (!wideB i0 i1 || b0 == 8)) = true then 2 else if (rspB i0 i1 && (!(s == 1) || rspB b0 b1)) = true then 2 else 0) := by
    intro x
    show mem_Check.j0 ((k + 3) + 1) (!noneB i0 i1) x b0 b1 i0 i1 s d z = _
    simp only [mem_Check.j0, size_eq z hz, scale_eq s _ hs, Option.bind_some, chk1 _ _ _ _ _ _ _ _ _ h1 hb]
    cases x
    · cases sizeB z
      · simp
      · cases scaleB s (!noneB i0 i1)
        · simp
        · simp
    · simp
  unfold mem_Check.f
  simp only [none_eq, Option.bind_some, h0]
  unfold chk
  by_cases c1 : d < -2147483648
  · rw [if_pos c1, if_pos (show d < -2147483648 ∨ 2147483648 ≤ d from .inl c1)]; simp
  · rw [if_neg c1]
    by_cases c2 : 2147483648 ≤ d
    · rw [decide_eq_true c2, if_pos (show d < -2147483648 ∨ 2147483648 ≤ d from .inr c2)]; simp
    · rw [decide_eq_false c2, if_neg (show ¬ (d < -2147483648 ∨ 2147483648 ≤ d) by omega)]; simp
/-- A place as it is written best, and why it may not be. -/
def canon (b0 b1 i0 i1 s d z : Int) : Int × Int × Int × Int × Int × Int × Int × Int :=
  if chk b0 b1 i0 i1 s d z = 0 then
    (if s = 1 ∧ noneB b0 b1 = true then (i0, i1, 0, 0, 0, d, z, 0) else if rspB i0 i1 = true then (i0, i1, b0, b1, s, d, z, 0) else (b0, b1, i0, i1, s, d, z, 0))
  else (0, 0, 0, 0, 0, 0, 0, chk b0 b1 i0 i1 s d z)
theorem canon_eq (k : Nat) (b0 b1 i0 i1 s d z : Int) (h1 : I64 i1) (hb : I64 b1) (hs : I64 s) (hz : I64 z) : mem_Canon.f (k + 4) b0 b1 i0 i1 s d z = some (canon b0 b1 i0 i1 s d z) := by
  unfold mem_Canon.f canon
  rw [check_eq k b0 b1 i0 i1 s d z h1 hb hs hz]
  simp only [Option.bind_some, none_eq]
  by_cases hc : chk b0 b1 i0 i1 s d z = 0
  · rw [if_pos hc, if_pos hc]
    by_cases h : s = 1
    · rw [if_pos h]
      simp only [mem_Canon.j0, rsp_eq, Option.bind_some]
      cases noneB b0 b1
      · simp
        split <;> rfl
      · simp [h]
    · rw [if_neg h]
      simp only [mem_Canon.j0, rsp_eq, Option.bind_some]
      simp [h]
      split <;> rfl
  · rw [if_neg hc, if_neg hc]
end Go.Proofs.YtceofdchbolidaaDoor.Pure2
