/- What the rows of this seat share: from the listed tables to what the contracts ask; a start that meets the condition; structs by value, opened. No conditions. -/
import Derived.Test.YtceofdchbolidaaDoorRows
import Derived.Test.YtceofdchbolidaaDoorHand1
import Derived.ProofKit
import Derived.LaidMore
import Derived.OpenShut
import Derived.ShutString
import Derived.ChangeOld
import Derived.SizedLaws
import Derived.Stop.Joined
import Derived.Stop.LaidErr
import Derived.Carry
namespace Go.Proofs.YtceofdchbolidaaDoor.Law0
open Go.ChangeShapes Go.WideShapes Go.ChangeAt Go.RowKit Go.Proofs.YtceofdchbolidaaDoorW.PrintWords
set_option linter.unusedVariables false
theorem own : ownKnob Tryd.prog.godebug = none := by kernel_rfl
theorem laidOut : laidOutB Tryd.prog = true := by kernel_rfl
/-- The list of the rows' cell 'laid'. -/
abbrev laid2 : List (String × DataW Unit) := [("unicode.White_Space", Rows.laid_unicode_White_Space), ("strings.asciiSpace", Rows.laid_strings_asciiSpace)]
/-- The door's own heap meets the condition. -/
theorem door_met (os : Os) (args : Array Value) : laidMetH Tryd.prog laid2 ((World.doorLaid Tryd.prog 400 os).forCall (fun _ _ => 0) ⟨#[], args, []⟩).memory :=
  laidMetH_of_parts3 (fuel := 8) (laidMet_of_run' 8 (by kernel_rfl) (by kernel_rfl)) (by kernel_rfl) (by kernel_rfl)
theorem g0 : Tryd.prog.globalNamed "strings.asciiSpace" = some 0 := by kernel_rfl
theorem datum : (Rows.laid_strings_asciiSpace : DataW Unit) = Lib.tabData .u8 Lib.asciiSpaceTab := by kernel_rfl
set_option maxRecDepth 100000 in
/-- What the condition gives the contracts. -/
theorem G_of_laid {W : World} (h : laidMetH Tryd.prog laid2 W) : Hand.G W := by
  rw [MakeChecks.laidMetH_plain _ _ _ (by kernel_rfl)] at h
  have h2 := laidMet.tail h
  rw [datum] at h2
  exact Lib.tabIs_of_head (rest := []) g0 (by kernel_rfl) Tryd.underlying68 Tryd.underlying5 (by kernel_rfl) (by kernel_rfl) h2
section
variable {H : Type} {enc : TypeId × Value → H} {w : World} {base : Nat} {spare : Nat → Bool} {held : Bool}
abbrev W64 (n : Int) : Prop := (Lit.int .i64 n).wf = true
theorem some_of {α : Type} {xs : List α} {n i : Nat} (h : xs.length = n) (hi : i < n) : xs[i]? = some (xs[i]'(by omega)) := List.getElem?_eq_getElem (by omega)
theorem int_cells {fuel : Nat} {cs : List Value} {x : DataW H × List MemPlace} (h : DataW.trod enc Tryd.prog w base spare held fuel 3 cs = some x) : ∃ a : Int, cs = [.int .i64 a] ∧ W64 a := by
  obtain ⟨n, e, _, hw⟩ := DataW.trod_int Tryd.underlying3 h
  exact ⟨n, e, hw⟩
theorem reg_cells {fuel : Nat} {cs : List Value} {x : DataW H × List MemPlace} (h : DataW.trod enc Tryd.prog w base spare held fuel 23 cs = some x) :
    ∃ a b : Int, cs = [.int .i64 a, .int .i64 b] ∧ W64 a ∧ W64 b := by
  obtain ⟨xs, n, _, _, hl, hx, hg⟩ := DataW.trod_struct Tryd.underlying23 h
  have hl2 : cs.length = 2 := hl.trans (by kernel_rfl)
  have hx2 : xs.length = 2 := hx
  match cs, hl2 with
  | [c0, c1], _ =>
    obtain ⟨a, ea, wa⟩ := int_cells ((hg 0 _ rfl).trans (some_of hx2 (by decide)))
    obtain ⟨b, eb, wb⟩ := int_cells ((hg 1 _ rfl).trans (some_of hx2 (by decide)))
    have c3 : Tryd.prog.cellsOf 3 = 1 := by kernel_rfl
    simp [c3] at ea eb
    exact ⟨a, b, by rw [ea, eb], wa, wb⟩
theorem mem_cells {fuel : Nat} {cs : List Value} {x : DataW H × List MemPlace} (h : DataW.trod enc Tryd.prog w base spare held fuel 25 cs = some x) :
    ∃ a b c d e f g : Int, cs = [.int .i64 a, .int .i64 b, .int .i64 c, .int .i64 d, .int .i64 e, .int .i64 f, .int .i64 g] ∧ W64 a ∧ W64 b ∧ W64 c ∧ W64 d ∧ W64 e ∧ W64 f ∧ W64 g := by
  obtain ⟨xs, n, _, _, hl, hx, hg⟩ := DataW.trod_struct Tryd.underlying25 h
  have hl2 : cs.length = 7 := hl.trans (by kernel_rfl)
  have hx2 : xs.length = 5 := hx
  have c3 : Tryd.prog.cellsOf 3 = 1 := by kernel_rfl
  have c23 : Tryd.prog.cellsOf 23 = 2 := by kernel_rfl
  match cs, hl2 with
  | [c0, c1, c2, c3', c4, c5, c6], _ =>
    obtain ⟨a, b, e0, wa, wb⟩ := reg_cells ((hg 0 _ rfl).trans (some_of hx2 (by decide)))
    obtain ⟨c, d, e1, wc, wd⟩ := reg_cells ((hg 1 _ rfl).trans (some_of hx2 (by decide)))
    obtain ⟨e, e2, we⟩ := int_cells ((hg 2 _ rfl).trans (some_of hx2 (by decide)))
    obtain ⟨f, e3, wf⟩ := int_cells ((hg 3 _ rfl).trans (some_of hx2 (by decide)))
    obtain ⟨g, e4, wg⟩ := int_cells ((hg 4 _ rfl).trans (some_of hx2 (by decide)))
    simp [c3, c23] at e0 e1 e2 e3 e4
    exact ⟨a, b, c, d, e, f, g, by rw [e0.1, e0.2, e1.1, e1.2, e2, e3, e4], wa, wb, wc, wd, we, wf, wg⟩
theorem arg_cells {fuel : Nat} {cs : List Value} {x : DataW H × List MemPlace} (h : DataW.trod enc Tryd.prog w base spare held fuel 46 cs = some x) :
    ∃ k r s a b c d e f g n : Int, cs = [.int .i64 k, .int .i64 r, .int .i64 s, .int .i64 a, .int .i64 b, .int .i64 c, .int .i64 d, .int .i64 e, .int .i64 f, .int .i64 g, .int .i64 n] ∧ W64 k ∧ W64 r ∧ W64 s ∧ W64 a ∧ W64 b ∧ W64 c ∧ W64 d ∧ W64 e ∧ W64 f ∧ W64 g ∧ W64 n := by
  obtain ⟨xs, n, _, _, hl, hx, hg⟩ := DataW.trod_struct Tryd.underlying46 h
  have hl2 : cs.length = 11 := hl.trans (by kernel_rfl)
  have hx2 : xs.length = 4 := hx
  have c3 : Tryd.prog.cellsOf 3 = 1 := by kernel_rfl
  have c23 : Tryd.prog.cellsOf 23 = 2 := by kernel_rfl
  have c25 : Tryd.prog.cellsOf 25 = 7 := by kernel_rfl
  match cs, hl2 with
  | [c0, c1, c2, c3', c4, c5, c6, c7, c8, c9, c10], _ =>
    obtain ⟨k, e0, wk⟩ := int_cells ((hg 0 _ rfl).trans (some_of hx2 (by decide)))
    obtain ⟨r, s, e1, wr, ws⟩ := reg_cells ((hg 1 _ rfl).trans (some_of hx2 (by decide)))
    obtain ⟨a, b, c, d, e, f, g, e2, wa, wb, wc, wd, we, wf, wg⟩ := mem_cells ((hg 2 _ rfl).trans (some_of hx2 (by decide)))
    obtain ⟨n, e3, wn⟩ := int_cells ((hg 3 _ rfl).trans (some_of hx2 (by decide)))
    simp [c3, c23, c25] at e0 e1 e2 e3
    exact ⟨k, r, s, a, b, c, d, e, f, g, n, by rw [e0, e1.1, e1.2, e2.1, e2.2.1, e2.2.2.1, e2.2.2.2.1, e2.2.2.2.2.1, e2.2.2.2.2.2.1, e2.2.2.2.2.2.2, e3], wk, wr, ws, wa, wb, wc, wd, we, wf, wg, wn⟩
theorem open_mem {r : Reach} {b0 : Nat} {v : Value} {d : DataW H} {p : List MemPlace} (hv : Value.okWide Tryd.prog w r b0 25 v) (h : DataW.Trod enc Tryd.prog w base spare held 25 v d p) :
    ∃ a b c d e f g : Int, v = .agg #[.int .i64 a, .int .i64 b, .int .i64 c, .int .i64 d, .int .i64 e, .int .i64 f, .int .i64 g] ∧ W64 a ∧ W64 b ∧ W64 c ∧ W64 d ∧ W64 e ∧ W64 f ∧ W64 g := by
  obtain ⟨cs, rfl, hsz⟩ := okWide_struct Tryd.underlying25 hv
  obtain ⟨fuel, hf⟩ := h
  obtain ⟨a, b, c, d, e, f, g, hcs, hw⟩ := mem_cells hf
  exact ⟨a, b, c, d, e, f, g, by have : cs.toList = _ := hcs; rw [← Array.toArray_toList (xs := cs), this], hw⟩
theorem open_arg {r : Reach} {b0 : Nat} {v : Value} {d : DataW H} {p : List MemPlace} (hv : Value.okWide Tryd.prog w r b0 46 v) (h : DataW.Trod enc Tryd.prog w base spare held 46 v d p) :
    ∃ k r s a b c d e f g n : Int, v = .agg #[.int .i64 k, .int .i64 r, .int .i64 s, .int .i64 a, .int .i64 b, .int .i64 c, .int .i64 d, .int .i64 e, .int .i64 f, .int .i64 g, .int .i64 n] ∧ W64 k ∧ W64 r ∧ W64 s ∧ W64 a ∧ W64 b ∧ W64 c ∧ W64 d ∧ W64 e ∧ W64 f ∧ W64 g ∧ W64 n := by
  obtain ⟨cs, rfl, hsz⟩ := okWide_struct Tryd.underlying46 hv
  obtain ⟨fuel, hf⟩ := h
  obtain ⟨k, r, s, a, b, c, d, e, f, g, n, hcs, hw⟩ := arg_cells hf
  exact ⟨k, r, s, a, b, c, d, e, f, g, n, by have : cs.toList = _ := hcs; rw [← Array.toArray_toList (xs := cs), this], hw⟩
theorem open_row {r : Reach} {b0 : Nat} {v : Value} {d : DataW H} {p : List MemPlace} (hv : Value.okWide Tryd.prog w r b0 32 v) (h : DataW.Trod enc Tryd.prog w 0 (fun _ => true) true 32 v d p) :
    ∃ (A : Option Addr) (c : Nat) (l : List Int), v = .slice A l.length c ∧ l.length ≤ c ∧ Kd.C (Kd.int .i64) w A l.length l ∧ ∀ x ∈ l, W64 x := by
  obtain ⟨a2, len2, cap2, rfl⟩ := okWide_slice Tryd.underlying32 hv
  obtain ⟨z2, w2⟩ : ∃ z2 : List Int, (a2 = none ∧ len2 = 0 ∧ cap2 = 0 ∧ z2 = []) ∨ ∃ x, a2 = some x ∧ len2 ≤ cap2 ∧ cap2 ≤ maxLen ∧ z2.length = cap2 ∧ (∀ i, i < z2.length → w.cell? (x.add i) = some (.int .i64 (z2.getD i 0))) ∧ ∀ n ∈ z2, (Lit.int .i64 n).wf = true := by
    obtain ⟨fuel, hf⟩ := h
    rcases open_ints Tryd.underlying32 Tryd.underlying3 (by kernel_rfl) hf with ⟨hcs, _⟩ | ⟨x, l, c, zs, hcs, _, hl, hm, hz, _, hcell, hwz⟩
    · simp [Value.cells] at hcs
      obtain ⟨rfl, rfl, rfl⟩ := hcs
      exact ⟨[], .inl ⟨rfl, rfl, rfl, rfl⟩⟩
    · simp [Value.cells] at hcs
      obtain ⟨rfl, rfl, rfl⟩ := hcs
      exact ⟨zs, .inr ⟨_, rfl, hl, hm, by simpa using hz, hcell, hwz⟩⟩
  obtain ⟨l2, rfl, hr2, hm2, hw2, hc2⟩ := ReadsInt.ofRowC w2
  exact ⟨a2, cap2, l2, rfl, hc2, Kd.C_of_reads (d := (0 : Int)) (h1 := fun _ => rfl) hr2, hw2⟩
end
end Go.Proofs.YtceofdchbolidaaDoor.Law0
