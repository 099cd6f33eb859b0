/- Places compared, and a canon's place: plain laws. Conditions: the numbers have 64 bits. -/
import Derived.Test.YtceofdchbolidaaDoorPureMem3
namespace Go.Proofs.YtceofdchbolidaaDoor.Pure2
set_option linter.unusedVariables false
set_option linter.unusedSimpArgs false
open Go.RowKit Go.Proofs.YtceofdchbolidaaDoor.XAll Go.Proofs.YtceofdchbolidaaDoor.Hand Go.Proofs.YtceofdchbolidaaDoor.Math Go.Proofs.YtceofdchbolidaaDoorW.PrintWords
abbrev T8 := Int × Int × Int × Int × Int × Int × Int × Int
def eq7 (x y : T8) : Bool := (x.1 == y.1 && (x.2.1 == y.2.1)) && ((x.2.2.1 == y.2.2.1 && (x.2.2.2.1 == y.2.2.2.1)) && (x.2.2.2.2.1 == y.2.2.2.2.1 && (x.2.2.2.2.2.1 == y.2.2.2.2.2.1 && (x.2.2.2.2.2.2.1 == y.2.2.2.2.2.2.1))))
def sameT (x y : T8) : Bool := if x.2.2.2.2.2.2.2 = 0 then (if y.2.2.2.2.2.2.2 = 0 then eq7 x y else false) else false
theorem eq7_self (x : T8) : eq7 x x = true := by unfold eq7; simp

theorem sameT_iff (x y : T8) : sameT x y = true ↔ x.2.2.2.2.2.2.2 = 0 ∧ x = y := by
  obtain ⟨x0, x1, x2, x3, x4, x5, x6, x7⟩ := x
  obtain ⟨y0, y1, y2, y3, y4, y5, y6, y7⟩ := y
  unfold sameT eq7
  by_cases h : x7 = 0
  · by_cases h2 : y7 = 0
    · simp [h, h2, and_assoc]
    · simp [h, h2]
      intros
      exact fun e => h2 e.symm
  · simp [h]
theorem sameT_comm (x y : T8) : sameT x y = sameT y x := by
  have h1 := sameT_iff x y
  have h2 := sameT_iff y x
  cases a : sameT x y <;> cases b : sameT y x
  · rfl
  · have := h2.1 b; rw [h1.2 ⟨by rw [← this.2]; exact this.1, this.2.symm⟩] at a; cases a
  · have := h1.1 a; rw [h2.2 ⟨by rw [← this.2]; exact this.1, this.2.symm⟩] at b; cases b
  · rfl
theorem same_eq (k : Nat) (b0 b1 i0 i1 s d z c0 c1 j0 j1 t e y : Int) (h1 : I64 i1) (hb : I64 b1) (hs : I64 s) (hz : I64 z) (h1' : I64 j1) (hb' : I64 c1) (hs' : I64 t) (hz' : I64 y) :
    mem_Same.f (k + 4) b0 b1 i0 i1 s d z c0 c1 j0 j1 t e y = some (sameT (canon b0 b1 i0 i1 s d z) (canon c0 c1 j0 j1 t e y)) := by
  unfold mem_Same.f
  rw [canon_eq k b0 b1 i0 i1 s d z h1 hb hs hz, canon_eq k c0 c1 j0 j1 t e y h1' hb' hs' hz']
  simp only [Option.bind_some]
  unfold sameT
  split
  · split <;> rfl
  · rfl
theorem canon_err (b0 b1 i0 i1 s d z : Int) : (canon b0 b1 i0 i1 s d z).2.2.2.2.2.2.2 = chk b0 b1 i0 i1 s d z := by
  by_cases h : may b0 b1 i0 i1 s d z
  · obtain ⟨c0, c1, j0, j1, t, e, _, _⟩ := canon_good h
    rw [e, (chk_iff b0 b1 i0 i1 s d z).2 h]
  · rw [(canon_not h).1]
theorem adr_canon {b0 b1 i0 i1 s d z c0 c1 j0 j1 t : Int} (h : may b0 b1 i0 i1 s d z) (hc : canon b0 b1 i0 i1 s d z = (c0, c1, j0, j1, t, d, z, 0)) (l : List Int) (nx : Int) : adr c0 c1 j0 j1 t d z l nx = adr b0 b1 i0 i1 s d z l nx := by
  obtain ⟨e0, e1, k0, k1, u, e, hm, _⟩ := canon_good h
  rw [hc] at e
  simp only [Prod.mk.injEq] at e
  obtain ⟨rfl, rfl, rfl, rfl, rfl, _⟩ := e
  have m1 := (chk_iff b0 b1 i0 i1 s d z).2 h
  have m2 := (chk_iff c0 c1 j0 j1 t d z).2 hm
  unfold adr
  rw [if_pos m1, if_pos m2]
  by_cases hl : l.length = 16
  · rw [if_pos hl, if_pos hl]
    congr 1
    rcases canon_cases h with ⟨rfl, rfl, rfl, rfl, g1, g2, e⟩ | ⟨rfl, rfl, rfl, rfl, g1, g2, g3, e⟩ | ⟨g1, g2, e⟩
    · rw [hc] at e
      simp only [Prod.mk.injEq] at e
      obtain ⟨rfl, rfl, rfl, rfl, rfl, _⟩ := e
      have n1 : noneB 0 0 = true := rfl
      have n2 : noneB 5 c1 = false := rfl
      unfold base index
      simp [n1, n2]
      generalize rd l c1 = r
      unfold wrap64; omega
    · rw [hc] at e
      simp only [Prod.mk.injEq] at e
      obtain ⟨rfl, rfl, rfl, rfl, rfl, _⟩ := e
      have n1 : noneB 5 4 = false := rfl
      have n2 : noneB 5 j1 = false := rfl
      unfold base index
      simp [n1, n2]
      generalize rd l 4 = r
      generalize rd l j1 = q
      unfold wrap64; omega
    · rw [hc] at e
      simp only [Prod.mk.injEq] at e
      obtain ⟨rfl, rfl, rfl, rfl, rfl, _⟩ := e
      rfl
  · rw [if_neg hl, if_neg hl]
theorem may_in {b0 b1 i0 i1 s d z : Int} (h : may b0 b1 i0 i1 s d z) : I64 i1 ∧ I64 b1 ∧ I64 s := by unfold may at h; omega
theorem memAwake30 : linotypelaw05_awake.f = some true := rfl
end Go.Proofs.YtceofdchbolidaaDoor.Pure2
