/- A contract of linotypekit.OverBytes: it writes over a row of bytes, its room too, and over nothing else. No conditions. -/
import Derived.Test.YtlmpecahmmgphaaHand1
namespace Go.Proofs.Ytlmpecahmmgphaa.Hand
open Go.RowKit Go.Proofs.YtlmpecahmmgphaaW.PrintWords
set_option linter.unusedVariables false
set_option maxHeartbeats 4000000 in
set_option maxRecDepth 100000 in
theorem OverBytes_any (g n cap : Nat) (cur : List Int) (W : World) (hrow : W.heap[g]? = some (.cells (iv cur).toArray 5 (0, 0))) (hl : cur.length = cap) (hn : n ≤ cap) (hm : cap ≤ 9223372036854775807) (B : Nat) (hB : B ≤ g) :
    Calls Try.prog 20 #[.slice (some ⟨g, 0, none⟩) n cap] W fun e w' => e = .returned (.tuple #[]) ∧ Below B W w' := by
  have hu := Try.underlying22
  have hrow' := Lib.hid hrow
  have hl' := Lib.hid hl
  have hb' := Lib.hid (Below.refl B W)
  clear hrow hl
  have hnc : (n : Int) ≤ (cap : Int) := by omega
  go_enter Try.func20, Try.ntmps20
  go_wp2
  go_loopg [3] cap (fun q s3 wx => ∃ (i : Nat) (cu : List Int), s3 = .int .i64 (i : Int) ∧ i + q = cap ∧ Hid (wx.heap[g]? = some (.cells (iv cu).toArray 5 (0, 0))) ∧ Hid (cu.length = cap) ∧ Hid (Below B W wx))
  case atStart => exact ⟨0, cur, rfl, by omega, hrow', hl', hb'⟩
  case round =>
    obtain ⟨i, cu, rfl, hi, hro, hcl, hbe⟩ := hrel
    cases gk with
    | zero =>
      have hlt : ¬ ((i : Int) < (cap : Int)) := by omega
      go_wp2
      go_end0
      exact ⟨rfl, hbe.out⟩
    | succ k1 =>
      have hlt : (i : Int) < (cap : Int) := by omega
      have h0 : (0 : Int) ≤ (i : Int) := by omega
      have hil : i < cu.length := by have := hcl.out; omega
      have hcell : wr.cell? ⟨g, i, none⟩ = some (.int .u8 (cu[i]'hil)) := by simp [World.cell?, hro.out, iv, hil]
      have hfz : wr.frozen? ⟨g, i, none⟩ = false := by simp [World.frozen?, hro.out]
      go_wp2
      go_roundg k1
      case measure => omega
      case rel => 
        refine ⟨i + 1, cu.set i (bits BinOp.xor IntKind.u8 cu[i] 90), by simp, by omega, ?_, by show _ = _; simpa using hcl.out, Below.setCell hbe.out hB _⟩
        show _ = _
        rw [setCell_eq_setRow wr g i _ 5 (0, 0) _ hro.out, setRow_heap wr g _ _ 5 (0, 0) hro.out]
        simp only [iv, List.setIfInBounds_toArray, List.map_set]
end Go.Proofs.Ytlmpecahmmgphaa.Hand
