/- Contracts of linotypekit.LentBytes and linotypekit.KeptBytes: a list that is lent, with three marks behind it. Condition: at most 100 bytes. -/
import Derived.Test.YtlmpecahmmgphaaProg
import Derived.Test.YtlmpecahmmgphaaWMore
import Derived.Laws.CopyOwn
import Derived.Deep.OwnRows
import Derived.Deep.LoopGhost
import Derived.WalkKit
import Derived.Lib.Hide
namespace Go.Proofs.Ytlmpecahmmgphaa.Hand
open Go.RowKit Go.Proofs.YtlmpecahmmgphaaW.PrintWords
set_option linter.unusedVariables false
theorem infoI : (Try.prog.info? 5).map (fun i => (i.zero, i.size, i.bytes)) = some (some (.int .u8 0), 1, 1) := by kernel_rfl
/-- What lies behind the list: three marks. -/
def marks (n : Nat) (j : Nat) : List Int := (List.range j).map fun k => 160 + ((n + k : Nat) : Int) % 90
/-- The whole row, j marks written. -/
def lentRow (l : List Int) (j : Nat) : List Int := l ++ (marks l.length j ++ List.replicate (3 - j) 0)
theorem lentRow_length (l : List Int) (j : Nat) (h : j ≤ 3) : (lentRow l j).length = l.length + 3 := by simp [lentRow, marks]; omega
theorem lentRow_set (l : List Int) (j : Nat) (h : j < 3) : (lentRow l j).set (l.length + j) (160 + ((l.length + j : Nat) : Int) % 90) = lentRow l (j + 1) := by
  unfold lentRow
  rw [List.set_append_right _ _ (by omega)]
  congr 1
  rw [show l.length + j - l.length = j by omega, List.set_append_right _ _ (by simp [marks])]
  simp only [marks, List.range_succ, List.map_append, List.map_cons, List.map_nil, List.length_map, List.length_range, Nat.sub_self, List.append_assoc]
  congr 1
  rw [show 3 - j = (3 - (j + 1)) + 1 by omega, List.replicate_succ]
  rfl
theorem alloc_new (w : World) (o : Obj) : (w.alloc o).heap[w.heap.size]? = some o := by
  show (w.heap.push o)[w.heap.size]? = some o
  simp
def iv (l : List Int) : List Value := l.map (Value.int .u8)
theorem row_made (n : Nat) : madeCells #[.int .u8 0] n = (iv (List.replicate n 0)).toArray := by
  apply Array.ext
  · simp [madeCells, iv]
  · intro i h1 h2
    simp [madeCells, iv, Nat.mod_one]
theorem row_copied (l : List Int) : splice (iv (List.replicate (l.length + 3) 0)) 0 (iv l) = iv (lentRow l 0) := by
  unfold splice lentRow iv marks
  simp
set_option maxHeartbeats 4000000 in
set_option maxRecDepth 100000 in
theorem LentBytes_any (A : Option Addr) (c : Nat) (l : List Int) (w : World) (hr : Kd.C (Kd.int .u8) w A l.length l) (hc : l.length ≤ c) (h20 : l.length ≤ 100) :
    Calls Try.prog 13 #[.slice A l.length c] w fun e w' => ∃ g, w.heap.size ≤ g ∧ e = .returned (.slice (some ⟨g, 0, none⟩) l.length (l.length + 3)) ∧
      w'.heap[g]? = some (.cells (iv (lentRow l 3)).toArray 5 (0, 0)) ∧ Below w.heap.size w w' := by
  have hR : ReadsInt w .u8 A l.length l := Kd.reads_of_C (enc := Value.int .u8) (d := (0 : Int)) (h1 := fun _ => rfl) hr
  obtain ⟨n, hn⟩ : ∃ n, l.length = n := ⟨_, rfl⟩
  rw [hn] at hc h20 hr ⊢
  have hmk := run_make_row' (P := Try.prog) 22 5 (.int .u8 0) 1 Try.underlying22 infoI rfl .i64 .i64 (n + 3) (by omega) (by omega)
  have ec : ((n + 3 : Nat) : Int) = (n : Int) + 3 := by omega
  rw [ec] at hmk
  have hR' := Lib.hid hR
  have hr' := Lib.hid hr
  clear hR hr
  have hu := Try.underlying22
  go_enter Try.func13, Try.ntmps13
  have hcp : splice (iv (List.replicate (n + 3) 0)) 0 (iv l) = iv (lentRow l 0) := by rw [← hn]; exact row_copied l
  have hcp' := Lib.hid hcp
  have hn' := Lib.hid hn
  have hcn := Lib.hid (show (iv l).length = Nat.min n (n + 3) by simp only [iv, List.length_map, hn]; exact (Nat.min_eq_left (Nat.le_add_right n 3)).symm)
  have hfit' := Lib.hid (show 0 + (iv l).length ≤ (iv (List.replicate (n + 3) 0)).length by simp only [iv, List.length_map, hn, List.length_replicate]; omega)
  clear hcp hn
  simp only [row_made] at hmk
  have hnew := Lib.hid (show (w.alloc (.cells (iv (List.replicate (n + 3) 0)).toArray 5)).heap[w.heap.size]? = some (.cells (iv (List.replicate (n + 3) 0)).toArray 5 (0, 0)) from alloc_new w _)
  go_wp2_with (
    refine wpList_copy_splice (o := ⟨some 11, _, _, _, _, _⟩) rfl (.tmp 9) (.tmp 10) 22 22 rfl 5 hu (by kernel_rfl) (some ⟨w.heap.size, 0, none⟩) A (n + 3) (n + 3) n c rfl rfl w.heap.size 0 (iv (List.replicate (n + 3) 0)) 5 ?hg (iv l) ?hn ?hpos ?hfit ?h1 w.heap.size w ?hb (Nat.le_refl _) ?_;
    (case hg => exact hnew.out);
    (case hn => exact hcn.out);
    (case hpos =>
      intro hp
      obtain ⟨ad, e, hcl⟩ := hR'.out.2.2 (by simpa [iv] using hp)
      refine ⟨rfl, ad, e, fun j v hj => ?_⟩
      have hjl : j < l.length := by have := (List.getElem?_eq_some_iff.1 hj).1; simpa [iv] using this
      have hv : v = .int .u8 (l.getD j 0) := by
        rw [iv, List.getElem?_map, List.getElem?_eq_getElem hjl] at hj
        rw [List.getD_eq_getElem?_getD, List.getElem?_eq_getElem hjl]
        exact (Option.some.inj hj).symm
      rw [hv]
      exact pw_cell_below ((Below.refl w.heap.size w).alloc (Nat.le_refl _) _) (hcl j hjl));
    (case hfit => exact hfit'.out);
    (case h1 => intro v hv; simp only [iv, List.mem_map] at hv; obtain ⟨x, _, rfl⟩ := hv; rfl);
    (case hb => exact (Below.refl w.heap.size w).alloc (Nat.le_refl _) _);
    intro w2 hg2 hb2;
    have hg3 := Lib.hid (hcp'.out ▸ hg2.out);
    have hb3 := Lib.hid hb2;
    clear hg2 hb2)
  go_loopg [4] 3 (fun g s4 wx => ∃ j m : Nat, s4 = .int .i64 (m : Int) ∧ m = n + j ∧ j + g = 3 ∧ Hid (wx.heap[w.heap.size]? = some (.cells (iv (lentRow l j)).toArray 5 (0, 0))) ∧ Hid (Below w.heap.size w wx))
  case atStart => exact ⟨0, n, rfl, rfl, rfl, hg3, hb3⟩
  case round =>
    obtain ⟨j, m, rfl, hm, hj, hrow, hbel⟩ := hrel
    subst hm
    have e3 : ((n + 3 : Nat) : Int) = (n : Int) + 3 := ec
    cases gk with
    | zero =>
      have hlt : ¬ ((n : Int) + (j : Int) < (n : Int) + 3) := by omega
      have c1 : (n : Int) ≤ (n : Int) + 3 := by omega
      go_wp2
      go_ret
      have e3' : j = 3 := by omega
      subst e3'
      exact ⟨w.heap.size, Nat.le_refl _, rfl, hrow.out, hbel.out⟩
    | succ k1 =>
      have hlt : (n : Int) + (j : Int) < (n : Int) + 3 := by omega
      have hll : (iv (lentRow l j)).length = n + 3 := by simp [iv, lentRow_length l j (by omega), hn'.out]
      have hcell : wr.cell? ⟨w.heap.size, n + j, none⟩ = some ((iv (lentRow l j))[n + j]'(by omega)) := by simp [World.cell?, hrow.out, show n + j < (iv (lentRow l j)).length by omega]
      have hfz : wr.frozen? ⟨w.heap.size, n + j, none⟩ = false := by simp [World.frozen?, hrow.out]
      go_wp2
      go_roundg k1
      case measure => omega
      case rel =>
        have ev : (160 + ((n : Int) + (j : Int)) % 90) = 160 + ((l.length + j : Nat) : Int) % 90 := by have := hn'.out; omega
        refine ⟨j + 1, n + j + 1, by simp, by omega, by omega, ?_, ?_⟩
        · show _ = _
          rw [setCell_eq_setRow wr w.heap.size (n + j) _ 5 (0, 0) _ hrow.out, setRow_heap wr w.heap.size _ _ 5 (0, 0) hrow.out, ← lentRow_set l j (by omega), ev]
          simp only [iv, List.setIfInBounds_toArray, List.map_set, hn'.out]
        · exact Below.setCell hbel.out (Nat.le_refl _) _
end Go.Proofs.Ytlmpecahmmgphaa.Hand
