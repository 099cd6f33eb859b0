/- The plain laws of MemCanon and MemSame: a canon may be, is its own, and is where the place is; the same places are the same place. Conditions: the numbers have 64 bits. -/
import Derived.Test.YtceofdchbolidaaDoorPureMemSame
import Derived.Test.YtceofdchbolidaaDoorXAllx12
import Derived.Test.YtceofdchbolidaaDoorXAllx13
namespace Go.Proofs.YtceofdchbolidaaDoor.Pure2
set_option linter.unusedVariables false
set_option linter.unusedSimpArgs false
open Go.RowKit Go.Proofs.YtceofdchbolidaaDoor.XAll Go.Proofs.YtceofdchbolidaaDoor.Hand Go.Proofs.YtceofdchbolidaaDoor.Math Go.Proofs.YtceofdchbolidaaDoorW.PrintWords
theorem memKnown30 : linotypelaw05_MemKnown.f 30 = some true := by decide +kernel
theorem MemCanon (b0 b1 i0 i1 s d z : Int) (l : List Int) (nx : Int) (w0 : (Lit.int .i64 b0).wf = true) (w1 : (Lit.int .i64 b1).wf = true) (w2 : (Lit.int .i64 i0).wf = true) (w3 : (Lit.int .i64 i1).wf = true) (w4 : (Lit.int .i64 s).wf = true) (w5 : (Lit.int .i64 d).wf = true) (w6 : (Lit.int .i64 z).wf = true) (wl : ∀ x ∈ l, (Lit.int .i64 x).wf = true) (wn : (Lit.int .i64 nx).wf = true) :
    ∃ k, linotypelaw05_MemCanon.f k b0 b1 i0 i1 s d z l nx = some true := by
  have hb := wf64 w1; have hi := wf64 w3; have hs := wf64 w4; have hz := wf64 w6
  refine ⟨30, ?_⟩
  have c1 := canon_eq 26 b0 b1 i0 i1 s d z hi hb hs hz
  have k1 := check_eq 26 b0 b1 i0 i1 s d z hi hb hs hz
  have k2 := check_eq 25 b0 b1 i0 i1 s d z hi hb hs hz
  have ce := canon_err b0 b1 i0 i1 s d z
  unfold linotypelaw05_MemCanon.f
  rw [memKnown30, show (30 : Nat) = 26 + 4 from rfl, c1, k1]
  simp only [Option.bind_some]
  rw [if_pos ce]
  show linotypelaw05_MemCanon.j0 (29 + 1) _ _ _ _ _ _ _ _ _ _ _ _ _ _ _ _ _ _ _ = _
  simp only [linotypelaw05_MemCanon.j0]
  by_cases h20 : (l.length : Int) > 20
  · rw [decide_eq_true h20, if_pos rfl, if_pos trivial, show (29 : Nat) = 25 + 4 from rfl, k2]
    simp [ce]
  · rw [decide_eq_false h20, if_neg (by simp)]
    by_cases hm : may b0 b1 i0 i1 s d z
    · have hc0 := (chk_iff b0 b1 i0 i1 s d z).2 hm
      obtain ⟨e0, e1, f0, f1, u, e, hm2, hcc⟩ := canon_good hm
      have hd0 := (chk_iff e0 e1 f0 f1 u d z).2 hm2
      obtain ⟨g1, g2, g3⟩ := may_in hm2
      rw [ce, hc0, if_pos rfl, e]
      have a1 := address_eq 24 b0 b1 i0 i1 s d z l nx hi hb hs hz
      have a2 := address_eq 24 e0 e1 f0 f1 u d z l nx g1 g2 g3 hz
      have k3 := check_eq 25 e0 e1 f0 f1 u d z g1 g2 g3 hz
      have s1 := same_eq 25 b0 b1 i0 i1 s d z e0 e1 f0 f1 u d z hi hb hs hz g1 g2 g3 hz
      have s2 := same_eq 25 e0 e1 f0 f1 u d z b0 b1 i0 i1 s d z g1 g2 g3 hz hi hb hs hz
      have hS : sameT (canon b0 b1 i0 i1 s d z) (canon e0 e1 f0 f1 u d z) = true := (sameT_iff _ _).2 ⟨by rw [e], by rw [e, hcc]⟩
      have hcan : linotypelaw05_canon.f 29 e0 e1 f0 f1 u d z e0 e1 f0 f1 u d z = some true := by
        unfold linotypelaw05_canon.f
        rw [show (29 : Nat) = 25 + 4 from rfl, canon_eq 25 e0 e1 f0 f1 u d z g1 g2 g3 hz, hcc]
        simp
      simp only [show (29 : Nat) = 24 + 5 from rfl, a1, a2, Option.bind_some]
      simp only [show (24 + 5 : Nat) = 25 + 4 from rfl, k3, s1, s2, hd0, Option.bind_some]
      simp only [show (25 + 4 : Nat) = 29 from rfl, hcan, Option.bind_some, if_true]
      rw [sameT_comm (canon e0 e1 f0 f1 u d z), hS, adr_canon hm e l nx]
      simp only [if_true]
      have hq : (((adr b0 b1 i0 i1 s d z l nx).2 == 0) == ((l.length : Int) == 16)) = true := by
        unfold adr
        rw [if_pos hc0]
        by_cases hl : l.length = 16
        · rw [if_pos hl]; simp [hl]
        · rw [if_neg hl]
          have : ((l.length : Int) == 16) = false := by simp; omega
          rw [this]; rfl
      rw [if_pos hq]
      simp
    · obtain ⟨h1, h2⟩ := canon_not hm
      rw [ce, if_neg h2, if_pos trivial, h1]
      simp
theorem MemSame (a0 a1 a2 a3 a4 a5 a6 b0 b1 b2 b3 b4 b5 b6 : Int) (l : List Int) (nx : Int)
    (v0 : (Lit.int .i64 a0).wf = true) (v1 : (Lit.int .i64 a1).wf = true) (v2 : (Lit.int .i64 a2).wf = true) (v3 : (Lit.int .i64 a3).wf = true) (v4 : (Lit.int .i64 a4).wf = true) (v5 : (Lit.int .i64 a5).wf = true) (v6 : (Lit.int .i64 a6).wf = true)
    (w0 : (Lit.int .i64 b0).wf = true) (w1 : (Lit.int .i64 b1).wf = true) (w2 : (Lit.int .i64 b2).wf = true) (w3 : (Lit.int .i64 b3).wf = true) (w4 : (Lit.int .i64 b4).wf = true) (w5 : (Lit.int .i64 b5).wf = true) (w6 : (Lit.int .i64 b6).wf = true)
    (wl : ∀ x ∈ l, (Lit.int .i64 x).wf = true) (wn : (Lit.int .i64 nx).wf = true) :
    ∃ k, linotypelaw05_MemSame.f k a0 a1 a2 a3 a4 a5 a6 b0 b1 b2 b3 b4 b5 b6 l nx = some true := by
  have ha1 := wf64 v1; have ha3 := wf64 v3; have ha4 := wf64 v4; have ha6 := wf64 v6
  have hb1 := wf64 w1; have hb3 := wf64 w3; have hb4 := wf64 w4; have hb6 := wf64 w6
  refine ⟨30, ?_⟩
  have sab := fun k => same_eq k a0 a1 a2 a3 a4 a5 a6 b0 b1 b2 b3 b4 b5 b6 ha3 ha1 ha4 ha6 hb3 hb1 hb4 hb6
  have sba := fun k => same_eq k b0 b1 b2 b3 b4 b5 b6 a0 a1 a2 a3 a4 a5 a6 hb3 hb1 hb4 hb6 ha3 ha1 ha4 ha6
  have saa := fun k => same_eq k a0 a1 a2 a3 a4 a5 a6 a0 a1 a2 a3 a4 a5 a6 ha3 ha1 ha4 ha6 ha3 ha1 ha4 ha6
  have ca := fun k => check_eq k a0 a1 a2 a3 a4 a5 a6 ha3 ha1 ha4 ha6
  have cb := fun k => check_eq k b0 b1 b2 b3 b4 b5 b6 hb3 hb1 hb4 hb6
  have da := fun k => address_eq k a0 a1 a2 a3 a4 a5 a6 l nx ha3 ha1 ha4 ha6
  have db := fun k => address_eq k b0 b1 b2 b3 b4 b5 b6 l nx hb3 hb1 hb4 hb6
  have ea := canon_err a0 a1 a2 a3 a4 a5 a6
  have eb := canon_err b0 b1 b2 b3 b4 b5 b6
  have hsa : sameT (canon a0 a1 a2 a3 a4 a5 a6) (canon a0 a1 a2 a3 a4 a5 a6) = (chk a0 a1 a2 a3 a4 a5 a6 == 0) := by
    have := sameT_iff (canon a0 a1 a2 a3 a4 a5 a6) (canon a0 a1 a2 a3 a4 a5 a6)
    rw [ea] at this
    by_cases h : chk a0 a1 a2 a3 a4 a5 a6 = 0
    · rw [this.2 ⟨h, rfl⟩, beq_iff_eq.2 h]
    · rw [beq_eq_false_iff_ne.2 h]
      cases hh : sameT (canon a0 a1 a2 a3 a4 a5 a6) (canon a0 a1 a2 a3 a4 a5 a6)
      · rfl
      · exact absurd (this.1 hh).1 h
  unfold linotypelaw05_MemSame.f
  rw [memAwake30]
  simp only [show (30 : Nat) = 26 + 4 from rfl, sab, sba, saa, ca, Option.bind_some]
  rw [sameT_comm (canon b0 b1 b2 b3 b4 b5 b6), hsa]
  rw [if_neg (by simp), if_neg (by simp)]
  show linotypelaw05_MemSame.j0 (29 + 1) _ _ _ _ _ _ _ _ _ _ _ _ _ _ _ _ _ _ _ = _
  simp only [linotypelaw05_MemSame.j0]
  by_cases h20 : (l.length : Int) > 20
  · rw [decide_eq_true h20, if_pos rfl, if_pos trivial]
    simp only [show (29 : Nat) = 25 + 4 from rfl, sba, saa, ca, Option.bind_some]
    rw [sameT_comm (canon b0 b1 b2 b3 b4 b5 b6), hsa]
    simp
  · rw [decide_eq_false h20, if_neg (by simp)]
    simp only [show (29 : Nat) = 24 + 5 from rfl, da, db, Option.bind_some]
    have j1f : ∀ same, (same = true → chk a0 a1 a2 a3 a4 a5 a6 = 0 ∧ chk b0 b1 b2 b3 b4 b5 b6 = 0) → linotypelaw05_MemSame.j1 (24 + 5) true same false a0 a1 a2 a3 a4 a5 a6 b0 b1 b2 b3 b4 b5 b6 = some true := by
      intro same hsame
      show linotypelaw05_MemSame.j1 (28 + 1) _ _ _ _ _ _ _ _ _ _ _ _ _ _ _ _ _ = _
      simp only [linotypelaw05_MemSame.j1]
      rw [if_neg (by simp), if_pos trivial]
      cases same
      · simp
      · obtain ⟨g1, g2⟩ := hsame rfl
        simp only [show (28 : Nat) = 24 + 4 from rfl, ca, cb, g1, g2, Option.bind_some]
        simp
    cases hs : sameT (canon a0 a1 a2 a3 a4 a5 a6) (canon b0 b1 b2 b3 b4 b5 b6)
    · rw [if_neg (by simp)]
      exact j1f false (fun h => by cases h)
    · rw [if_pos rfl]
      have hx := (sameT_iff _ _).1 hs
      rw [ea] at hx
      have hma := (chk_iff a0 a1 a2 a3 a4 a5 a6).1 hx.1
      have hcb : chk b0 b1 b2 b3 b4 b5 b6 = 0 := by rw [← eb, ← hx.2, ea]; exact hx.1
      have hmb := (chk_iff b0 b1 b2 b3 b4 b5 b6).1 hcb
      obtain ⟨e0, e1, f0, f1, u, e, _, _⟩ := canon_good hma
      obtain ⟨e0', e1', f0', f1', u', e', _, _⟩ := canon_good hmb
      have hxx := hx.2
      rw [e, e'] at hxx
      simp only [Prod.mk.injEq] at hxx
      obtain ⟨rfl, rfl, rfl, rfl, rfl, rfl, rfl, _⟩ := hxx
      have had : adr a0 a1 a2 a3 a4 a5 a6 l nx = adr b0 b1 b2 b3 b4 a5 a6 l nx := (adr_canon hma e l nx).symm.trans (adr_canon hmb e' l nx)
      rw [had]
      simp only [if_true, bne_self_eq_false]
      exact j1f true (fun _ => ⟨hx.1, hcb⟩)
end Go.Proofs.YtceofdchbolidaaDoor.Pure2
