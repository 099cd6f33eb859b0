/- What the rows of layer 27 share: a slice of pieces and a slice of bools that came in, opened. No conditions. -/
import Derived.Test.YtlmpecahmmgphaaRows
import Derived.Test.YtlmpecahmmgphaaXLayx0
import Derived.Deep.Slices
import Derived.Deep.Fields
import Derived.ChangeSame
import Derived.ProofKit
import Derived.OpenShut
import Derived.ShutString
import Derived.ChangeOld
import Derived.SizedLaws
namespace Go.Proofs.Ytlmpecahmmgphaa.LayLaw0
open Go.ChangeShapes Go.WideShapes Go.ChangeAt Go.RowKit Go.Deep Go.Proofs.Ytlmpecahmmgphaa.XLay Go.Proofs.YtlmpecahmmgphaaW.PrintWords
set_option linter.unusedVariables false
theorem own : ownKnob Try.prog.godebug = none := by kernel_rfl
theorem laidOut : laidOutB Try.prog = true := by kernel_rfl
section
variable {H : Type} {enc : TypeId × Value → H} {w : World} {base : Nat} {spare : Nat → Bool} {held : Bool}
abbrev W64 (n : Int) : Prop := (Lit.int .i64 n).wf = true
def WS (p : S52) : Prop := W64 p.f0 ∧ W64 p.f1 ∧ W64 p.f2 ∧ W64 p.f3 ∧ W64 p.f4 ∧ W64 p.f5 ∧ W64 p.f6
theorem some_of {α : Type} {xs : List α} {n i : Nat} (h : xs.length = n) (hi : i < n) : xs[i]? = some (xs[i]'(by omega)) := List.getElem?_eq_getElem (by omega)
theorem int_cells {fuel : Nat} {cs : List Value} {x : DataW H × List MemPlace} (h : DataW.trod enc Try.prog w base spare held fuel 3 cs = some x) : ∃ a : Int, cs = [.int .i64 a] ∧ W64 a := by
  obtain ⟨n, e, _, hw⟩ := DataW.trod_int Try.underlying3 h
  exact ⟨n, e, hw⟩
theorem piece_cells {fuel : Nat} {cs : List Value} {x : DataW H × List MemPlace} (h : DataW.trod enc Try.prog w base spare held fuel 52 cs = some x) :
    ∃ p : S52, cs = [.int .i64 p.f0, .int .i64 p.f1, .int .i64 p.f2, .int .i64 p.f3, .int .i64 p.f4, .int .i64 p.f5, .int .i64 p.f6] ∧ WS p := by
  obtain ⟨xs, n, _, _, hl, hx, hg⟩ := DataW.trod_struct Try.underlying52 h
  have hl2 : cs.length = 7 := hl.trans (by kernel_rfl)
  have hx2 : xs.length = 7 := hx
  have c3 : Try.prog.cellsOf 3 = 1 := by kernel_rfl
  match cs, hl2 with
  | [c0, c1, c2, c3', c4, c5, c6], _ =>
    obtain ⟨a, e0, wa⟩ := int_cells ((hg 0 _ rfl).trans (some_of hx2 (by decide)))
    obtain ⟨b, e1, wb⟩ := int_cells ((hg 1 _ rfl).trans (some_of hx2 (by decide)))
    obtain ⟨c, e2, wc⟩ := int_cells ((hg 2 _ rfl).trans (some_of hx2 (by decide)))
    obtain ⟨d, e3, wd⟩ := int_cells ((hg 3 _ rfl).trans (some_of hx2 (by decide)))
    obtain ⟨e, e4, we⟩ := int_cells ((hg 4 _ rfl).trans (some_of hx2 (by decide)))
    obtain ⟨f, e5, wf⟩ := int_cells ((hg 5 _ rfl).trans (some_of hx2 (by decide)))
    obtain ⟨g, e6, wg⟩ := int_cells ((hg 6 _ rfl).trans (some_of hx2 (by decide)))
    simp [c3] at e0 e1 e2 e3 e4 e5 e6
    exact ⟨⟨a, b, c, d, e, f, g⟩, by rw [e0, e1, e2, e3, e4, e5, e6], wa, wb, wc, wd, we, wf, wg⟩
theorem open_pieces {r : Reach} {b0 : Nat} {v : Value} {d : DataW H} {p : List MemPlace} (hv : Value.okWide Try.prog w r b0 50 v) (h : DataW.Trod enc Try.prog w base spare held 50 v d p) :
    ∃ (A : Option Addr) (c : Nat) (l : List S52), v = .slice A l.length c ∧ l.length ≤ c ∧ Kd.C k52 w A l.length l ∧ ∀ x ∈ l, WS x := by
  obtain ⟨a2, len2, cap2, rfl⟩ := okWide_slice Try.underlying50 hv
  obtain ⟨fuel, hf⟩ := h
  have c52 : Try.prog.cellsOf 52 = 7 := by kernel_rfl
  rcases open_slice Try.underlying50 hf with ⟨hcs, _⟩ | ⟨a, len, cap, m, n, D, Pl, hcs, hb, hl, hm, hmm, hx, hi⟩
  · simp [Value.cells] at hcs
    obtain ⟨rfl, rfl, rfl⟩ := hcs
    exact ⟨none, 0, [], rfl, Nat.le_refl _, Kd.C_nil k52 w, fun x hx => absurd hx (by simp)⟩
  · simp [Value.cells] at hcs
    obtain ⟨rfl, rfl, rfl⟩ := hcs
    have hlm : len2 ≤ m := by rw [hmm]; split <;> omega
    have H1 : ∀ i : Nat, ∃ s : S52, i < len2 → WS s ∧ ∀ j u, ([.int .i64 s.f0, .int .i64 s.f1, .int .i64 s.f2, .int .i64 s.f3, .int .i64 s.f4, .int .i64 s.f5, .int .i64 s.f6] : List Value)[j]? = some u → w.cell? (a.add (i * 7 + j)) = some u := by
      intro i
      by_cases hlt : i < len2
      · obtain ⟨cs', hc, ht⟩ := hi i (by omega)
        obtain ⟨s, rfl, hs⟩ := piece_cells ht
        rw [c52] at hc
        obtain ⟨_, hcl, hat⟩ := World.cells?_some hc
        refine ⟨s, fun _ => ⟨hs, fun j u hu => ?_⟩⟩
        have hj : j < 7 := (List.getElem?_eq_some_iff.1 hu).1
        have := hat j hj
        rw [← Go.Deep.add_add, this]
        exact hu
      · exact ⟨z52, fun h => absurd h hlt⟩
    obtain ⟨f, hf2⟩ := Classical.axiomOfChoice H1
    have hlen : ((List.range len2).map f).length = len2 := by simp
    have hmax : len2 ≤ 9223372036854775807 := by unfold maxLen at hm; omega
    refine ⟨some a, cap2, (List.range len2).map f, by rw [hlen], by rw [hlen]; exact hl, ?_, ?_⟩
    · rw [hlen]
      refine ⟨hlen, hmax, fun _ => ⟨a, rfl, fun j q hj => ?_⟩⟩
      have hjl : j < len2 := by have := (List.getElem?_eq_some_iff.1 hj).1; omega
      have e : f j = q := by simpa [hjl] using hj
      subst e
      refine ⟨_, ?_, k52_mk w (f j), fun i u hu => (hf2 j hjl).2 i u hu⟩
      rfl
    · intro x hx
      obtain ⟨i, hi, rfl⟩ := List.mem_map.1 hx
      exact (hf2 i (by simpa using hi)).1
theorem open_near {r : Reach} {b0 : Nat} {v : Value} {d : DataW H} {p : List MemPlace} (hv : Value.okWide Try.prog w r b0 54 v) (h : DataW.Trod enc Try.prog w base spare held 54 v d p) :
    ∃ (A : Option Addr) (c : Nat) (l : List Bool), v = .slice A l.length c ∧ l.length ≤ c ∧ Kd.C Kd.bool w A l.length l := by
  obtain ⟨a2, len2, cap2, rfl⟩ := okWide_slice Try.underlying54 hv
  obtain ⟨fuel, hf⟩ := h
  have c4 : Try.prog.cellsOf 4 = 1 := by kernel_rfl
  rcases open_slice1 Try.underlying54 c4 hf with ⟨hcs, _⟩ | ⟨a, len, cap, m, n, V, D, Pl, hcs, hb, hl, hm, hmm, hx, hi⟩
  · simp [Value.cells] at hcs
    obtain ⟨rfl, rfl, rfl⟩ := hcs
    exact ⟨none, 0, [], rfl, Nat.le_refl _, Kd.C_nil Kd.bool w⟩
  · simp [Value.cells] at hcs
    obtain ⟨rfl, rfl, rfl⟩ := hcs
    have hlm : len2 ≤ m := by rw [hmm]; split <;> omega
    have H1 : ∀ i : Nat, ∃ s : Bool, i < len2 → w.cell? (a.add i) = some (.bool s) := by
      intro i
      by_cases hlt : i < len2
      · obtain ⟨hc, ht⟩ := hi i (by omega)
        obtain ⟨s, e, _⟩ := DataW.trod_bool Try.underlying4 ht
        have e2 : V i = .bool s := by simpa using e
        exact ⟨s, fun _ => by rw [hc, e2]⟩
      · exact ⟨false, fun h => absurd h hlt⟩
    obtain ⟨f, hf2⟩ := Classical.axiomOfChoice H1
    have hlen : ((List.range len2).map f).length = len2 := by simp
    have hmax : len2 ≤ 9223372036854775807 := by unfold maxLen at hm; omega
    refine ⟨some a, cap2, (List.range len2).map f, by rw [hlen], by rw [hlen]; exact hl, ?_⟩
    rw [hlen]
    refine Kd.C_of_reads (d := false) ⟨hlen, hmax, fun _ => ⟨a, rfl, fun j hj => ?_⟩⟩
    rw [hf2 j (by omega)]
    simp [List.getD_eq_getElem?_getD, show j < len2 by omega]
end
end Go.Proofs.Ytlmpecahmmgphaa.LayLaw0
