/- Laid by this seat's own program (wip/tools/printx.py) out of the translation: the functions that laws use (All), each with its contract. Condition: the library's table strings.asciiSpace holds what it was laid with. -/
import Derived.Test.YtceofdchbolidaaDoorXAllx0
import Derived.Test.YtceofdchbolidaaDoorXAllx16
namespace Go.Proofs.YtceofdchbolidaaDoor.XAll
open Go.RowKit Go.Proofs.YtceofdchbolidaaDoorW.PrintWords Go.Proofs.YtceofdchbolidaaDoorW.PrintLast Go.Proofs.YtceofdchbolidaaDoorW.PrintMore Go.Proofs.YtceofdchbolidaaDoor.Hand
attribute [local go_sem] max2_int min2_int max_two min_two max_three min_three max_four min_four   -- for this text's walks alone
set_option linter.unusedVariables false
set_option linter.unusedSimpArgs false

-- NOT PRINTED: function 20 (linotypekit_LentInts)

/-! ### linotyperef05_Address: function 22 -/
def linotyperef05_Address.j0 : Nat → List Int → Int → Int → Int → Int → Int → Int → Int → Int → Option (Int × Int)
 | 0, _, _, _, _, _, _, _, _, _ => none
 | k + 1, x1, x9, x326000, x326001, x326002, x326003, x326004, x326005, x326006 => if x326000 = 5 then (if 0 ≤ x326001 then (if x326001 < (x1.length : Int) then (if x326004 > 0 then (if 0 ≤ x326003 then (if x326003 < (x1.length : Int) then (some (wrap64 ((wrap64 (x9 + (rd x1 x326001))) + (wrap64 (x326004 * (rd x1 x326003)))), 0)) else (none)) else (none)) else (some (wrap64 (x9 + (rd x1 x326001)), 0))) else (none)) else (none)) else (if x326004 > 0 then (if 0 ≤ x326003 then (if x326003 < (x1.length : Int) then (some (wrap64 (x9 + (wrap64 (x326004 * (rd x1 x326003)))), 0)) else (none)) else (none)) else (some (x9, 0)))
def linotyperef05_Address.f (k : Nat) (a0_0 : Int) (a0_1 : Int) (a0_2 : Int) (a0_3 : Int) (a0_4 : Int) (a0_5 : Int) (a0_6 : Int) (l1 : List Int) (a2 : Int) : Option (Int × Int) := (linotyperef05_Check.f k a0_0 a0_1 a0_2 a0_3 a0_4 a0_5 a0_6).bind fun t326 => (if t326 = 0 then (if (l1.length : Int) = 16 then (if a0_0 = 8 then (linotyperef05_Address.j0 k l1 (wrap64 (a0_5 + a2)) a0_0 a0_1 a0_2 a0_3 a0_4 a0_5 a0_6) else (linotyperef05_Address.j0 k l1 a0_5 a0_0 a0_1 a0_2 a0_3 a0_4 a0_5 a0_6)) else (some (0, 2))) else (some (0, t326)))
theorem linotyperef05_Address.mono_l : ∀ k, (∀ y0 y1 y2 y3 y4 y5 y6 y7 y8, LeO (linotyperef05_Address.j0 k y0 y1 y2 y3 y4 y5 y6 y7 y8) (linotyperef05_Address.j0 (k + 1) y0 y1 y2 y3 y4 y5 y6 y7 y8))
 | 0 => fun _ _ _ _ _ _ _ _ _ r h => by simp [linotyperef05_Address.j0] at h
 | k + 1 => by
  have ih0 := linotyperef05_Address.mono_l k
  ·intro y0 y1 y2 y3 y4 y5 y6 y7 y8
   unfold linotyperef05_Address.j0
   repeat' first
   | (with_reducible exact ih0 _ _ _ _ _ _ _ _ _)
   | (with_reducible exact linotyperef05_Check.mono _ _ _ _ _ _ _ _)
   | (with_reducible exact LeO.refl _)
   | (with_reducible exact LeO.none _)
   | (with_reducible refine LeO.ite ?_ ?_)
   | (with_reducible refine LeO.bind ?_ (fun _ => ?_))
   | exact ih0 _ _ _ _ _ _ _ _ _
   | exact linotyperef05_Check.mono _ _ _ _ _ _ _ _
   | exact LeO.none _
   | refine LeO.ite ?_ ?_
   | refine LeO.bind ?_ (fun _ => ?_)
theorem linotyperef05_Address.mono : ∀ a0 a1 a2 a3 a4 a5 a6 a7 a8 k, LeO (linotyperef05_Address.f k a0 a1 a2 a3 a4 a5 a6 a7 a8) (linotyperef05_Address.f (k + 1) a0 a1 a2 a3 a4 a5 a6 a7 a8) := by
 intro a0 a1 a2 a3 a4 a5 a6 a7 a8 k
 have ih0 := linotyperef05_Address.mono_l k
 unfold linotyperef05_Address.f
 repeat' first
   | (with_reducible exact ih0 _ _ _ _ _ _ _ _ _)
   | (with_reducible exact linotyperef05_Check.mono _ _ _ _ _ _ _ _)
   | (with_reducible exact LeO.refl _)
   | (with_reducible exact LeO.none _)
   | (with_reducible refine LeO.ite ?_ ?_)
   | (with_reducible refine LeO.bind ?_ (fun _ => ?_))
   | exact ih0 _ _ _ _ _ _ _ _ _
   | exact linotyperef05_Check.mono _ _ _ _ _ _ _ _
   | exact LeO.none _
   | refine LeO.ite ?_ ?_
   | refine LeO.bind ?_ (fun _ => ?_)
set_option maxHeartbeats 8000000 in
set_option maxRecDepth 100000 in
theorem linotyperef05_Address.calls (k : Nat) (a0_0 : Int) (a0_1 : Int) (a0_2 : Int) (a0_3 : Int) (a0_4 : Int) (a0_5 : Int) (a0_6 : Int) (A1 : Option Addr) (c1 : Nat) (l1 : List Int) (a2 : Int) (r1 : Int) (r2 : Int) (w : World) (hr1 : Kd.C (Kd.int .i64) w A1 l1.length l1) (hc1 : l1.length ≤ c1) (h : linotyperef05_Address.f k a0_0 a0_1 a0_2 a0_3 a0_4 a0_5 a0_6 l1 a2 = some (r1, r2)) :
  Calls Tryd.prog 22 #[.agg #[.int .i64 a0_0, .int .i64 a0_1, .int .i64 a0_2, .int .i64 a0_3, .int .i64 a0_4, .int .i64 a0_5, .int .i64 a0_6], .slice A1 l1.length c1, .int .i64 a2] w fun e w' => e = .returned (.tuple #[.int .i64 r1, .int .i64 r2]) ∧ Below w.heap.size w w' := by
 have hu25 := Tryd.underlying25
 have HR1 := Aside0.mk hr1
 have HC1 := Aside0.mk hc1
 clear hr1 hc1
 have HB := Aside0.mk (Below.refl w.heap.size w)
 have H : ((linotyperef05_Check.f k a0_0 a0_1 a0_2 a0_3 a0_4 a0_5 a0_6).bind fun t326 => (if t326 = 0 then (if (l1.length : Int) = 16 then (if a0_0 = 8 then (linotyperef05_Address.j0 k l1 (wrap64 (a0_5 + a2)) a0_0 a0_1 a0_2 a0_3 a0_4 a0_5 a0_6) else (linotyperef05_Address.j0 k l1 a0_5 a0_0 a0_1 a0_2 a0_3 a0_4 a0_5 a0_6)) else (some (0, 2))) else (some (0, t326)))) = some (r1, r2) := h
 clear h
 replace H := Option.bind_eq_some_iff.mp H
 obtain ⟨t326, A40, H⟩ := H
 replace H : (if t326 = 0 then (if (l1.length : Int) = 16 then (if a0_0 = 8 then (linotyperef05_Address.j0 k l1 (wrap64 (a0_5 + a2)) a0_0 a0_1 a0_2 a0_3 a0_4 a0_5 a0_6) else (linotyperef05_Address.j0 k l1 a0_5 a0_0 a0_1 a0_2 a0_3 a0_4 a0_5 a0_6)) else (some (0, 2))) else (some (0, t326))) = some (r1, r2) := H
 have A4 := Aside0.mk A40
 clear A40
 by_cases c5 : t326 = 0
 ·rw [if_pos c5] at H
  have c5b0 : (t326 == 0) = true := beq_iff_eq.mpr c5
  have c5b1 : (t326 != 0) = false := bne_eq_false_iff_eq.mpr c5
  clear c5
  by_cases c6 : (l1.length : Int) = 16
  ·rw [if_pos c6] at H
   have c6b0 : ((l1.length : Int) == 16) = true := beq_iff_eq.mpr c6
   have c6b1 : ((l1.length : Int) != 16) = false := bne_eq_false_iff_eq.mpr c6
   clear c6
   have HC7 := Aside0.mk H
   clear H
   go_enter Tryd.func22, Tryd.ntmps22
   go_upto_if 23 with (first | ((with_reducible refine gate_dst (N := 3) rfl ?_); refine box_event ?hg (N := 3) ?hd (cs := #[.int .i64 a0_0, .int .i64 a0_1, .int .i64 a0_2, .int .i64 a0_3, .int .i64 a0_4, .int .i64 a0_5, .int .i64 a0_6]) (t := 25) ?hr ?_; (case hd => rfl); (case hg => rfl); (case hr => first | (go_simp; done) | (go_simp; rfl)); intro gb325 hg w8 hbox hb; have n0_ := Aside0.mk (below_step (by repeat (first | (with_reducible first | exact HB.out | apply below_alloc | apply pw_below_drewN | apply below_drew1) | exact HB.out)) hb); have n1_ := Aside0.mk (hbox); have n2_ := Aside0.mk ((by rw [hg]; exact (below_size (by repeat (first | (with_reducible first | exact HB.out | apply below_alloc | apply pw_below_drewN | apply below_drew1) | exact HB.out))) : w.heap.size ≤ gb325)); have n3_ := Aside0.mk ((by rw [hg]; exact (below_size (by repeat (first | (with_reducible first | exact HB.out | apply below_alloc | apply pw_below_drewN | apply below_drew1) | exact HB.out))) : w.heap.size ≤ gb325)); clear HB; have HB := n0_; have BK325 := n1_; have GW325 := n2_; have GE325 := n3_; clear n0_ n1_ n2_ n3_; clear hb hbox hg; have hcz9_0 : w8.cell? ⟨gb325, 0, none⟩ = some (.int .i64 a0_0) := (blk_cell BK325.out 0).trans rfl; have hcz9_1 : w8.cell? ⟨gb325, 1, none⟩ = some (.int .i64 a0_1) := (blk_cell BK325.out 1).trans rfl; have hcz9_2 : w8.cell? ⟨gb325, 2, none⟩ = some (.int .i64 a0_2) := (blk_cell BK325.out 2).trans rfl; have hcz9_3 : w8.cell? ⟨gb325, 3, none⟩ = some (.int .i64 a0_3) := (blk_cell BK325.out 3).trans rfl; have hcz9_4 : w8.cell? ⟨gb325, 4, none⟩ = some (.int .i64 a0_4) := (blk_cell BK325.out 4).trans rfl; have hcz9_5 : w8.cell? ⟨gb325, 5, none⟩ = some (.int .i64 a0_5) := (blk_cell BK325.out 5).trans rfl; have hcz9_6 : w8.cell? ⟨gb325, 6, none⟩ = some (.int .i64 a0_6) := (blk_cell BK325.out 6).trans rfl; have hfz9_0 := blk_frozen BK325.out 0; have hfz9_1 := blk_frozen BK325.out 1; have hfz9_2 := blk_frozen BK325.out 2; have hfz9_3 := blk_frozen BK325.out 3; have hfz9_4 := blk_frozen BK325.out 4; have hfz9_5 := blk_frozen BK325.out 5; have hfz9_6 := blk_frozen BK325.out 6) | (go_at_call 16; (with_reducible refine (linotyperef05_Check.calls k a0_0 a0_1 a0_2 a0_3 a0_4 a0_5 a0_6 t326 _ A4.out).mono ?_); rintro e w10 ⟨rfl, hb⟩; have n0_ := Aside0.mk (blk_below (g := gb325) (o := .cells #[.int .i64 a0_0, .int .i64 a0_1, .int .i64 a0_2, .int .i64 a0_3, .int .i64 a0_4, .int .i64 a0_5, .int .i64 a0_6] 25 (0, 0)) (by (with_reducible repeat (first | refine blk_drewN ?_ _ | refine blk_drew ?_ | refine blk_alloc ?_ _)); exact BK325.out) hb); have n1_ := Aside0.mk (below_step (by repeat (first | (with_reducible first | exact HB.out | apply below_alloc | apply pw_below_drewN | apply below_drew1 | refine below_set ?_ GE325.out) | exact HB.out)) hb); clear BK325; clear HB; have BK325 := n0_; have HB := n1_; clear n0_ n1_; (try clear hb); (try clear hb2); (try clear hk); (try clear hi); have hcz11_0 : w10.cell? ⟨gb325, 0, none⟩ = some (.int .i64 a0_0) := (blk_cell BK325.out 0).trans rfl; have hcz11_1 : w10.cell? ⟨gb325, 1, none⟩ = some (.int .i64 a0_1) := (blk_cell BK325.out 1).trans rfl; have hcz11_2 : w10.cell? ⟨gb325, 2, none⟩ = some (.int .i64 a0_2) := (blk_cell BK325.out 2).trans rfl; have hcz11_3 : w10.cell? ⟨gb325, 3, none⟩ = some (.int .i64 a0_3) := (blk_cell BK325.out 3).trans rfl; have hcz11_4 : w10.cell? ⟨gb325, 4, none⟩ = some (.int .i64 a0_4) := (blk_cell BK325.out 4).trans rfl; have hcz11_5 : w10.cell? ⟨gb325, 5, none⟩ = some (.int .i64 a0_5) := (blk_cell BK325.out 5).trans rfl; have hcz11_6 : w10.cell? ⟨gb325, 6, none⟩ = some (.int .i64 a0_6) := (blk_cell BK325.out 6).trans rfl; have hfz11_0 := blk_frozen BK325.out 0; have hfz11_1 := blk_frozen BK325.out 1; have hfz11_2 := blk_frozen BK325.out 2; have hfz11_3 := blk_frozen BK325.out 3; have hfz11_4 := blk_frozen BK325.out 4; have hfz11_5 := blk_frozen BK325.out 5; have hfz11_6 := blk_frozen BK325.out 6))
   repeat (go_quiet (first | ((with_reducible refine gate_dst (N := 3) rfl ?_); refine box_event ?hg (N := 3) ?hd (cs := #[.int .i64 a0_0, .int .i64 a0_1, .int .i64 a0_2, .int .i64 a0_3, .int .i64 a0_4, .int .i64 a0_5, .int .i64 a0_6]) (t := 25) ?hr ?_; (case hd => rfl); (case hg => rfl); (case hr => first | (go_simp; done) | (go_simp; rfl)); intro gb325 hg w8 hbox hb; have n0_ := Aside0.mk (below_step (by repeat (first | (with_reducible first | exact HB.out | apply below_alloc | apply pw_below_drewN | apply below_drew1) | exact HB.out)) hb); have n1_ := Aside0.mk (hbox); have n2_ := Aside0.mk ((by rw [hg]; exact (below_size (by repeat (first | (with_reducible first | exact HB.out | apply below_alloc | apply pw_below_drewN | apply below_drew1) | exact HB.out))) : w.heap.size ≤ gb325)); have n3_ := Aside0.mk ((by rw [hg]; exact (below_size (by repeat (first | (with_reducible first | exact HB.out | apply below_alloc | apply pw_below_drewN | apply below_drew1) | exact HB.out))) : w.heap.size ≤ gb325)); clear HB; have HB := n0_; have BK325 := n1_; have GW325 := n2_; have GE325 := n3_; clear n0_ n1_ n2_ n3_; clear hb hbox hg; have hcz9_0 : w8.cell? ⟨gb325, 0, none⟩ = some (.int .i64 a0_0) := (blk_cell BK325.out 0).trans rfl; have hcz9_1 : w8.cell? ⟨gb325, 1, none⟩ = some (.int .i64 a0_1) := (blk_cell BK325.out 1).trans rfl; have hcz9_2 : w8.cell? ⟨gb325, 2, none⟩ = some (.int .i64 a0_2) := (blk_cell BK325.out 2).trans rfl; have hcz9_3 : w8.cell? ⟨gb325, 3, none⟩ = some (.int .i64 a0_3) := (blk_cell BK325.out 3).trans rfl; have hcz9_4 : w8.cell? ⟨gb325, 4, none⟩ = some (.int .i64 a0_4) := (blk_cell BK325.out 4).trans rfl; have hcz9_5 : w8.cell? ⟨gb325, 5, none⟩ = some (.int .i64 a0_5) := (blk_cell BK325.out 5).trans rfl; have hcz9_6 : w8.cell? ⟨gb325, 6, none⟩ = some (.int .i64 a0_6) := (blk_cell BK325.out 6).trans rfl; have hfz9_0 := blk_frozen BK325.out 0; have hfz9_1 := blk_frozen BK325.out 1; have hfz9_2 := blk_frozen BK325.out 2; have hfz9_3 := blk_frozen BK325.out 3; have hfz9_4 := blk_frozen BK325.out 4; have hfz9_5 := blk_frozen BK325.out 5; have hfz9_6 := blk_frozen BK325.out 6) | (go_at_call 16; (with_reducible refine (linotyperef05_Check.calls k a0_0 a0_1 a0_2 a0_3 a0_4 a0_5 a0_6 t326 _ A4.out).mono ?_); rintro e w10 ⟨rfl, hb⟩; have n0_ := Aside0.mk (blk_below (g := gb325) (o := .cells #[.int .i64 a0_0, .int .i64 a0_1, .int .i64 a0_2, .int .i64 a0_3, .int .i64 a0_4, .int .i64 a0_5, .int .i64 a0_6] 25 (0, 0)) (by (with_reducible repeat (first | refine blk_drewN ?_ _ | refine blk_drew ?_ | refine blk_alloc ?_ _)); exact BK325.out) hb); have n1_ := Aside0.mk (below_step (by repeat (first | (with_reducible first | exact HB.out | apply below_alloc | apply pw_below_drewN | apply below_drew1 | refine below_set ?_ GE325.out) | exact HB.out)) hb); clear BK325; clear HB; have BK325 := n0_; have HB := n1_; clear n0_ n1_; (try clear hb); (try clear hb2); (try clear hk); (try clear hi); have hcz11_0 : w10.cell? ⟨gb325, 0, none⟩ = some (.int .i64 a0_0) := (blk_cell BK325.out 0).trans rfl; have hcz11_1 : w10.cell? ⟨gb325, 1, none⟩ = some (.int .i64 a0_1) := (blk_cell BK325.out 1).trans rfl; have hcz11_2 : w10.cell? ⟨gb325, 2, none⟩ = some (.int .i64 a0_2) := (blk_cell BK325.out 2).trans rfl; have hcz11_3 : w10.cell? ⟨gb325, 3, none⟩ = some (.int .i64 a0_3) := (blk_cell BK325.out 3).trans rfl; have hcz11_4 : w10.cell? ⟨gb325, 4, none⟩ = some (.int .i64 a0_4) := (blk_cell BK325.out 4).trans rfl; have hcz11_5 : w10.cell? ⟨gb325, 5, none⟩ = some (.int .i64 a0_5) := (blk_cell BK325.out 5).trans rfl; have hcz11_6 : w10.cell? ⟨gb325, 6, none⟩ = some (.int .i64 a0_6) := (blk_cell BK325.out 6).trans rfl; have hfz11_0 := blk_frozen BK325.out 0; have hfz11_1 := blk_frozen BK325.out 1; have hfz11_2 := blk_frozen BK325.out 2; have hfz11_3 := blk_frozen BK325.out 3; have hfz11_4 := blk_frozen BK325.out 4; have hfz11_5 := blk_frozen BK325.out 5; have hfz11_6 := blk_frozen BK325.out 6)); go_upto_if 23 with (first | ((with_reducible refine gate_dst (N := 3) rfl ?_); refine box_event ?hg (N := 3) ?hd (cs := #[.int .i64 a0_0, .int .i64 a0_1, .int .i64 a0_2, .int .i64 a0_3, .int .i64 a0_4, .int .i64 a0_5, .int .i64 a0_6]) (t := 25) ?hr ?_; (case hd => rfl); (case hg => rfl); (case hr => first | (go_simp; done) | (go_simp; rfl)); intro gb325 hg w8 hbox hb; have n0_ := Aside0.mk (below_step (by repeat (first | (with_reducible first | exact HB.out | apply below_alloc | apply pw_below_drewN | apply below_drew1) | exact HB.out)) hb); have n1_ := Aside0.mk (hbox); have n2_ := Aside0.mk ((by rw [hg]; exact (below_size (by repeat (first | (with_reducible first | exact HB.out | apply below_alloc | apply pw_below_drewN | apply below_drew1) | exact HB.out))) : w.heap.size ≤ gb325)); have n3_ := Aside0.mk ((by rw [hg]; exact (below_size (by repeat (first | (with_reducible first | exact HB.out | apply below_alloc | apply pw_below_drewN | apply below_drew1) | exact HB.out))) : w.heap.size ≤ gb325)); clear HB; have HB := n0_; have BK325 := n1_; have GW325 := n2_; have GE325 := n3_; clear n0_ n1_ n2_ n3_; clear hb hbox hg; have hcz9_0 : w8.cell? ⟨gb325, 0, none⟩ = some (.int .i64 a0_0) := (blk_cell BK325.out 0).trans rfl; have hcz9_1 : w8.cell? ⟨gb325, 1, none⟩ = some (.int .i64 a0_1) := (blk_cell BK325.out 1).trans rfl; have hcz9_2 : w8.cell? ⟨gb325, 2, none⟩ = some (.int .i64 a0_2) := (blk_cell BK325.out 2).trans rfl; have hcz9_3 : w8.cell? ⟨gb325, 3, none⟩ = some (.int .i64 a0_3) := (blk_cell BK325.out 3).trans rfl; have hcz9_4 : w8.cell? ⟨gb325, 4, none⟩ = some (.int .i64 a0_4) := (blk_cell BK325.out 4).trans rfl; have hcz9_5 : w8.cell? ⟨gb325, 5, none⟩ = some (.int .i64 a0_5) := (blk_cell BK325.out 5).trans rfl; have hcz9_6 : w8.cell? ⟨gb325, 6, none⟩ = some (.int .i64 a0_6) := (blk_cell BK325.out 6).trans rfl; have hfz9_0 := blk_frozen BK325.out 0; have hfz9_1 := blk_frozen BK325.out 1; have hfz9_2 := blk_frozen BK325.out 2; have hfz9_3 := blk_frozen BK325.out 3; have hfz9_4 := blk_frozen BK325.out 4; have hfz9_5 := blk_frozen BK325.out 5; have hfz9_6 := blk_frozen BK325.out 6) | (go_at_call 16; (with_reducible refine (linotyperef05_Check.calls k a0_0 a0_1 a0_2 a0_3 a0_4 a0_5 a0_6 t326 _ A4.out).mono ?_); rintro e w10 ⟨rfl, hb⟩; have n0_ := Aside0.mk (blk_below (g := gb325) (o := .cells #[.int .i64 a0_0, .int .i64 a0_1, .int .i64 a0_2, .int .i64 a0_3, .int .i64 a0_4, .int .i64 a0_5, .int .i64 a0_6] 25 (0, 0)) (by (with_reducible repeat (first | refine blk_drewN ?_ _ | refine blk_drew ?_ | refine blk_alloc ?_ _)); exact BK325.out) hb); have n1_ := Aside0.mk (below_step (by repeat (first | (with_reducible first | exact HB.out | apply below_alloc | apply pw_below_drewN | apply below_drew1 | refine below_set ?_ GE325.out) | exact HB.out)) hb); clear BK325; clear HB; have BK325 := n0_; have HB := n1_; clear n0_ n1_; (try clear hb); (try clear hb2); (try clear hk); (try clear hi); have hcz11_0 : w10.cell? ⟨gb325, 0, none⟩ = some (.int .i64 a0_0) := (blk_cell BK325.out 0).trans rfl; have hcz11_1 : w10.cell? ⟨gb325, 1, none⟩ = some (.int .i64 a0_1) := (blk_cell BK325.out 1).trans rfl; have hcz11_2 : w10.cell? ⟨gb325, 2, none⟩ = some (.int .i64 a0_2) := (blk_cell BK325.out 2).trans rfl; have hcz11_3 : w10.cell? ⟨gb325, 3, none⟩ = some (.int .i64 a0_3) := (blk_cell BK325.out 3).trans rfl; have hcz11_4 : w10.cell? ⟨gb325, 4, none⟩ = some (.int .i64 a0_4) := (blk_cell BK325.out 4).trans rfl; have hcz11_5 : w10.cell? ⟨gb325, 5, none⟩ = some (.int .i64 a0_5) := (blk_cell BK325.out 5).trans rfl; have hcz11_6 : w10.cell? ⟨gb325, 6, none⟩ = some (.int .i64 a0_6) := (blk_cell BK325.out 6).trans rfl; have hfz11_0 := blk_frozen BK325.out 0; have hfz11_1 := blk_frozen BK325.out 1; have hfz11_2 := blk_frozen BK325.out 2; have hfz11_3 := blk_frozen BK325.out 3; have hfz11_4 := blk_frozen BK325.out 4; have hfz11_5 := blk_frozen BK325.out 5; have hfz11_6 := blk_frozen BK325.out 6)))
   (try simp only [Act.put, List.setIfInBounds_toArray, List.set_cons_zero, List.set_cons_succ])
   go_cut [9] (fun v9 wc => ∃ (kq : Nat) (x9_6 : Int), v9 = .int .i64 x9_6 ∧ Aside0 (linotyperef05_Address.j0 kq l1 x9_6 a0_0 a0_1 a0_2 a0_3 a0_4 a0_5 a0_6 = some (r1, r2)) ∧ Aside0 (kq ≤ k) ∧ Aside0 (wc.heap[gb325]? = some (.cells #[.int .i64 a0_0, .int .i64 a0_1, .int .i64 a0_2, .int .i64 a0_3, .int .i64 a0_4, .int .i64 a0_5, .int .i64 a0_6] 25 (0, 0))) ∧ Aside0 (Below w.heap.size w wc))
   case first =>
    have H := HC7.out
    clear HC7
    by_cases c12 : a0_0 = 8
    ·rw [if_pos c12] at H
     have c12b0 : (a0_0 == 8) = true := beq_iff_eq.mpr c12
     have c12b1 : (a0_0 != 8) = false := bne_eq_false_iff_eq.mpr c12
     clear c12
     (first | rw [c12b0] | (simp only [i64_w, i32_w]; rw [c12b0]) | skip)
     have H' := Aside0.mk H
     clear H
     go_wp2
     repeat (go_quiet (fail); try go_wp2)
     go_meet
     case rel => exact ⟨_, (wrap64 (a0_5 + a2)), (by first | rfl | (simp; done) | (simp [*]; done)), H', ⟨by first | omega | exact Nat.le_refl _⟩, ⟨by (with_reducible repeat (first | refine blk_drewN ?_ _ | refine blk_drew ?_ | refine blk_alloc ?_ _)); exact BK325.out⟩, ⟨by repeat (first | (with_reducible first | exact HB.out | apply below_alloc | apply pw_below_drewN | apply below_drew1 | refine below_set ?_ GE325.out) | exact HB.out)⟩⟩
    ·rw [if_neg c12] at H
     have c12b0 : (a0_0 == 8) = false := beq_eq_false_iff_ne.mpr c12
     have c12b1 : (a0_0 != 8) = true := bne_iff_ne.mpr c12
     (first | rw [c12b0] | (simp only [i64_w, i32_w]; rw [c12b0]) | skip)
     have H' := Aside0.mk H
     clear H
     go_wp2
     repeat (go_quiet (fail); try go_wp2)
     go_meet
     case rel => exact ⟨_, (a0_5), (by first | rfl | (simp; done) | (simp [*]; done)), H', ⟨by first | omega | exact Nat.le_refl _⟩, ⟨by (with_reducible repeat (first | refine blk_drewN ?_ _ | refine blk_drew ?_ | refine blk_alloc ?_ _)); exact BK325.out⟩, ⟨by repeat (first | (with_reducible first | exact HB.out | apply below_alloc | apply pw_below_drewN | apply below_drew1 | refine below_set ?_ GE325.out) | exact HB.out)⟩⟩
   case rest =>
    clear HC7
    try clear c1
    try clear c2
    try clear p2
    try clear c5
    try clear c5b0
    try clear c5b1
    try clear c6
    try clear c6b0
    try clear c6b1
    try clear p6
    try clear c12
    try clear c12b0
    try clear c12b1
    try clear hcz11_0
    try clear hcz11_1
    try clear hcz11_2
    try clear hcz11_3
    try clear hcz11_4
    try clear hcz11_5
    try clear hcz11_6
    try clear hcz9_0
    try clear hcz9_1
    try clear hcz9_2
    try clear hcz9_3
    try clear hcz9_4
    try clear hcz9_5
    try clear hcz9_6
    try clear hfz11_0
    try clear hfz11_1
    try clear hfz11_2
    try clear hfz11_3
    try clear hfz11_4
    try clear hfz11_5
    try clear hfz11_6
    try clear hfz9_0
    try clear hfz9_1
    try clear hfz9_2
    try clear hfz9_3
    try clear hfz9_4
    try clear hfz9_5
    try clear hfz9_6
    obtain ⟨kq, x9_6, rfl, HA, HJ6, BK325, HB⟩ := hcut
    cases kq with
    | zero => exact absurd HA.out (by simp [linotyperef05_Address.j0])
    | succ kj6 =>
     have H := HA.out
     clear HA
     simp only [linotyperef05_Address.j0] at H
     by_cases c13 : a0_0 = 5
     ·rw [if_pos c13] at H
      have c13b0 : (a0_0 == 5) = true := beq_iff_eq.mpr c13
      have c13b1 : (a0_0 != 5) = false := bne_eq_false_iff_eq.mpr c13
      clear c13
      by_cases c14 : 0 ≤ a0_1
      ·rw [if_pos c14] at H
       have c14b0 : decide (0 ≤ a0_1) = true := decide_eq_true c14
       clear c14
       by_cases c15 : a0_1 < (l1.length : Int)
       ·rw [if_pos c15] at H
        have c15b0 : decide (a0_1 < (l1.length : Int)) = true := decide_eq_true c15
        clear c15
        by_cases c16 : a0_4 > 0
        ·rw [if_pos c16] at H
         have c16b0 : decide (0 < a0_4) = true := decide_eq_true c16
         clear c16
         by_cases c17 : 0 ≤ a0_3
         ·rw [if_pos c17] at H
          have c17b0 : decide (0 ≤ a0_3) = true := decide_eq_true c17
          clear c17
          by_cases c18 : a0_3 < (l1.length : Int)
          ·rw [if_pos c18] at H
           have c18b0 : decide (a0_3 < (l1.length : Int)) = true := decide_eq_true c18
           clear c18
           simp only [Option.some.injEq, Prod.mk.injEq] at H
           obtain ⟨rfl, rfl⟩ := H
           have hcz19_0 : wc.cell? ⟨gb325, 0, none⟩ = some (.int .i64 a0_0) := (blk_cell BK325.out 0).trans rfl
           have hcz19_1 : wc.cell? ⟨gb325, 1, none⟩ = some (.int .i64 a0_1) := (blk_cell BK325.out 1).trans rfl
           have hcz19_2 : wc.cell? ⟨gb325, 2, none⟩ = some (.int .i64 a0_2) := (blk_cell BK325.out 2).trans rfl
           have hcz19_3 : wc.cell? ⟨gb325, 3, none⟩ = some (.int .i64 a0_3) := (blk_cell BK325.out 3).trans rfl
           have hcz19_4 : wc.cell? ⟨gb325, 4, none⟩ = some (.int .i64 a0_4) := (blk_cell BK325.out 4).trans rfl
           have hcz19_5 : wc.cell? ⟨gb325, 5, none⟩ = some (.int .i64 a0_5) := (blk_cell BK325.out 5).trans rfl
           have hcz19_6 : wc.cell? ⟨gb325, 6, none⟩ = some (.int .i64 a0_6) := (blk_cell BK325.out 6).trans rfl
           have hfz19_0 := blk_frozen BK325.out 0
           have hfz19_1 := blk_frozen BK325.out 1
           have hfz19_2 := blk_frozen BK325.out 2
           have hfz19_3 := blk_frozen BK325.out 3
           have hfz19_4 := blk_frozen BK325.out 4
           have hfz19_5 := blk_frozen BK325.out 5
           have hfz19_6 := blk_frozen BK325.out 6
           have p327 : 0 ≤ (a0_1 : Int) := of_decide_eq_true (by first | (with_reducible assumption) | assumption)
           have q327 : a0_1 < (l1.length : Int) := of_decide_eq_true (by first | (with_reducible assumption) | assumption)
           obtain ⟨ad327, e327, hx327_0⟩ := Kd.at_int HR1.out a0_1 p327 q327
           cases e327
           replace hx327_0 := (HB.out.cell (World.block_lt_of_cell? w _ hx327_0)).trans hx327_0
           replace p327 := eq_true p327
           replace q327 := eq_true q327
           have p328 : 0 ≤ (a0_3 : Int) := of_decide_eq_true (by first | (with_reducible assumption) | assumption)
           have q328 : a0_3 < (l1.length : Int) := of_decide_eq_true (by first | (with_reducible assumption) | assumption)
           obtain ⟨ad328, e328, hx328_0⟩ := Kd.at_int HR1.out a0_3 p328 q328
           obtain rfl : ad327 = ad328 := (by injection e328)
           replace hx328_0 := (HB.out.cell (World.block_lt_of_cell? w _ hx328_0)).trans hx328_0
           replace p328 := eq_true p328
           replace q328 := eq_true q328
           go_wp2
           repeat (go_quiet (fail); try go_wp2)
           go_ret2
           exact ⟨by first | rfl | (simp [errW_none, errW_some] <;> rfl) | (simp [*, errW_none, errW_some] <;> rfl), by repeat (first | (with_reducible first | exact HB.out | apply below_alloc | apply pw_below_drewN | apply below_drew1 | refine below_set ?_ GE325.out) | exact HB.out)⟩
          ·rw [if_neg c18] at H
           exact absurd H (by simp)
         ·rw [if_neg c17] at H
          exact absurd H (by simp)
        ·rw [if_neg c16] at H
         have c16b0 : decide (0 < a0_4) = false := decide_eq_false c16
         clear c16
         simp only [Option.some.injEq, Prod.mk.injEq] at H
         obtain ⟨rfl, rfl⟩ := H
         have hcz20_0 : wc.cell? ⟨gb325, 0, none⟩ = some (.int .i64 a0_0) := (blk_cell BK325.out 0).trans rfl
         have hcz20_1 : wc.cell? ⟨gb325, 1, none⟩ = some (.int .i64 a0_1) := (blk_cell BK325.out 1).trans rfl
         have hcz20_2 : wc.cell? ⟨gb325, 2, none⟩ = some (.int .i64 a0_2) := (blk_cell BK325.out 2).trans rfl
         have hcz20_3 : wc.cell? ⟨gb325, 3, none⟩ = some (.int .i64 a0_3) := (blk_cell BK325.out 3).trans rfl
         have hcz20_4 : wc.cell? ⟨gb325, 4, none⟩ = some (.int .i64 a0_4) := (blk_cell BK325.out 4).trans rfl
         have hcz20_5 : wc.cell? ⟨gb325, 5, none⟩ = some (.int .i64 a0_5) := (blk_cell BK325.out 5).trans rfl
         have hcz20_6 : wc.cell? ⟨gb325, 6, none⟩ = some (.int .i64 a0_6) := (blk_cell BK325.out 6).trans rfl
         have hfz20_0 := blk_frozen BK325.out 0
         have hfz20_1 := blk_frozen BK325.out 1
         have hfz20_2 := blk_frozen BK325.out 2
         have hfz20_3 := blk_frozen BK325.out 3
         have hfz20_4 := blk_frozen BK325.out 4
         have hfz20_5 := blk_frozen BK325.out 5
         have hfz20_6 := blk_frozen BK325.out 6
         have p327 : 0 ≤ (a0_1 : Int) := of_decide_eq_true (by first | (with_reducible assumption) | assumption)
         have q327 : a0_1 < (l1.length : Int) := of_decide_eq_true (by first | (with_reducible assumption) | assumption)
         obtain ⟨ad327, e327, hx327_0⟩ := Kd.at_int HR1.out a0_1 p327 q327
         cases e327
         replace hx327_0 := (HB.out.cell (World.block_lt_of_cell? w _ hx327_0)).trans hx327_0
         replace p327 := eq_true p327
         replace q327 := eq_true q327
         go_wp2
         repeat (go_quiet (fail); try go_wp2)
         go_ret2
         exact ⟨by first | rfl | (simp [errW_none, errW_some] <;> rfl) | (simp [*, errW_none, errW_some] <;> rfl), by repeat (first | (with_reducible first | exact HB.out | apply below_alloc | apply pw_below_drewN | apply below_drew1 | refine below_set ?_ GE325.out) | exact HB.out)⟩
       ·rw [if_neg c15] at H
        exact absurd H (by simp)
      ·rw [if_neg c14] at H
       exact absurd H (by simp)
     ·rw [if_neg c13] at H
      have c13b0 : (a0_0 == 5) = false := beq_eq_false_iff_ne.mpr c13
      have c13b1 : (a0_0 != 5) = true := bne_iff_ne.mpr c13
      by_cases c21 : a0_4 > 0
      ·rw [if_pos c21] at H
       have c21b0 : decide (0 < a0_4) = true := decide_eq_true c21
       clear c21
       by_cases c22 : 0 ≤ a0_3
       ·rw [if_pos c22] at H
        have c22b0 : decide (0 ≤ a0_3) = true := decide_eq_true c22
        clear c22
        by_cases c23 : a0_3 < (l1.length : Int)
        ·rw [if_pos c23] at H
         have c23b0 : decide (a0_3 < (l1.length : Int)) = true := decide_eq_true c23
         clear c23
         simp only [Option.some.injEq, Prod.mk.injEq] at H
         obtain ⟨rfl, rfl⟩ := H
         have hcz24_0 : wc.cell? ⟨gb325, 0, none⟩ = some (.int .i64 a0_0) := (blk_cell BK325.out 0).trans rfl
         have hcz24_1 : wc.cell? ⟨gb325, 1, none⟩ = some (.int .i64 a0_1) := (blk_cell BK325.out 1).trans rfl
         have hcz24_2 : wc.cell? ⟨gb325, 2, none⟩ = some (.int .i64 a0_2) := (blk_cell BK325.out 2).trans rfl
         have hcz24_3 : wc.cell? ⟨gb325, 3, none⟩ = some (.int .i64 a0_3) := (blk_cell BK325.out 3).trans rfl
         have hcz24_4 : wc.cell? ⟨gb325, 4, none⟩ = some (.int .i64 a0_4) := (blk_cell BK325.out 4).trans rfl
         have hcz24_5 : wc.cell? ⟨gb325, 5, none⟩ = some (.int .i64 a0_5) := (blk_cell BK325.out 5).trans rfl
         have hcz24_6 : wc.cell? ⟨gb325, 6, none⟩ = some (.int .i64 a0_6) := (blk_cell BK325.out 6).trans rfl
         have hfz24_0 := blk_frozen BK325.out 0
         have hfz24_1 := blk_frozen BK325.out 1
         have hfz24_2 := blk_frozen BK325.out 2
         have hfz24_3 := blk_frozen BK325.out 3
         have hfz24_4 := blk_frozen BK325.out 4
         have hfz24_5 := blk_frozen BK325.out 5
         have hfz24_6 := blk_frozen BK325.out 6
         have p329 : 0 ≤ (a0_3 : Int) := of_decide_eq_true (by first | (with_reducible assumption) | assumption)
         have q329 : a0_3 < (l1.length : Int) := of_decide_eq_true (by first | (with_reducible assumption) | assumption)
         obtain ⟨ad329, e329, hx329_0⟩ := Kd.at_int HR1.out a0_3 p329 q329
         cases e329
         replace hx329_0 := (HB.out.cell (World.block_lt_of_cell? w _ hx329_0)).trans hx329_0
         replace p329 := eq_true p329
         replace q329 := eq_true q329
         go_wp2
         repeat (go_quiet (fail); try go_wp2)
         go_ret2
         exact ⟨by first | rfl | (simp [errW_none, errW_some] <;> rfl) | (simp [*, errW_none, errW_some] <;> rfl), by repeat (first | (with_reducible first | exact HB.out | apply below_alloc | apply pw_below_drewN | apply below_drew1 | refine below_set ?_ GE325.out) | exact HB.out)⟩
        ·rw [if_neg c23] at H
         exact absurd H (by simp)
       ·rw [if_neg c22] at H
        exact absurd H (by simp)
      ·rw [if_neg c21] at H
       have c21b0 : decide (0 < a0_4) = false := decide_eq_false c21
       clear c21
       simp only [Option.some.injEq, Prod.mk.injEq] at H
       obtain ⟨rfl, rfl⟩ := H
       have hcz25_0 : wc.cell? ⟨gb325, 0, none⟩ = some (.int .i64 a0_0) := (blk_cell BK325.out 0).trans rfl
       have hcz25_1 : wc.cell? ⟨gb325, 1, none⟩ = some (.int .i64 a0_1) := (blk_cell BK325.out 1).trans rfl
       have hcz25_2 : wc.cell? ⟨gb325, 2, none⟩ = some (.int .i64 a0_2) := (blk_cell BK325.out 2).trans rfl
       have hcz25_3 : wc.cell? ⟨gb325, 3, none⟩ = some (.int .i64 a0_3) := (blk_cell BK325.out 3).trans rfl
       have hcz25_4 : wc.cell? ⟨gb325, 4, none⟩ = some (.int .i64 a0_4) := (blk_cell BK325.out 4).trans rfl
       have hcz25_5 : wc.cell? ⟨gb325, 5, none⟩ = some (.int .i64 a0_5) := (blk_cell BK325.out 5).trans rfl
       have hcz25_6 : wc.cell? ⟨gb325, 6, none⟩ = some (.int .i64 a0_6) := (blk_cell BK325.out 6).trans rfl
       have hfz25_0 := blk_frozen BK325.out 0
       have hfz25_1 := blk_frozen BK325.out 1
       have hfz25_2 := blk_frozen BK325.out 2
       have hfz25_3 := blk_frozen BK325.out 3
       have hfz25_4 := blk_frozen BK325.out 4
       have hfz25_5 := blk_frozen BK325.out 5
       have hfz25_6 := blk_frozen BK325.out 6
       go_wp2
       repeat (go_quiet (fail); try go_wp2)
       go_ret2
       exact ⟨by first | rfl | (simp [errW_none, errW_some] <;> rfl) | (simp [*, errW_none, errW_some] <;> rfl), by repeat (first | (with_reducible first | exact HB.out | apply below_alloc | apply pw_below_drewN | apply below_drew1 | refine below_set ?_ GE325.out) | exact HB.out)⟩
  ·rw [if_neg c6] at H
   have c6b0 : ((l1.length : Int) == 16) = false := beq_eq_false_iff_ne.mpr c6
   have c6b1 : ((l1.length : Int) != 16) = true := bne_iff_ne.mpr c6
   simp only [Option.some.injEq, Prod.mk.injEq] at H
   obtain ⟨rfl, rfl⟩ := H
   go_enter Tryd.func22, Tryd.ntmps22
   go_wp2_with (first | ((with_reducible refine gate_dst (N := 3) rfl ?_); refine box_event ?hg (N := 3) ?hd (cs := #[.int .i64 a0_0, .int .i64 a0_1, .int .i64 a0_2, .int .i64 a0_3, .int .i64 a0_4, .int .i64 a0_5, .int .i64 a0_6]) (t := 25) ?hr ?_; (case hd => rfl); (case hg => rfl); (case hr => first | (go_simp; done) | (go_simp; rfl)); intro gb325 hg w26 hbox hb; have n0_ := Aside0.mk (below_step (by repeat (first | (with_reducible first | exact HB.out | apply below_alloc | apply pw_below_drewN | apply below_drew1) | exact HB.out)) hb); have n1_ := Aside0.mk (hbox); have n2_ := Aside0.mk ((by rw [hg]; exact (below_size (by repeat (first | (with_reducible first | exact HB.out | apply below_alloc | apply pw_below_drewN | apply below_drew1) | exact HB.out))) : w.heap.size ≤ gb325)); have n3_ := Aside0.mk ((by rw [hg]; exact (below_size (by repeat (first | (with_reducible first | exact HB.out | apply below_alloc | apply pw_below_drewN | apply below_drew1) | exact HB.out))) : w.heap.size ≤ gb325)); clear HB; have HB := n0_; have BK325 := n1_; have GW325 := n2_; have GE325 := n3_; clear n0_ n1_ n2_ n3_; clear hb hbox hg; have hcz27_0 : w26.cell? ⟨gb325, 0, none⟩ = some (.int .i64 a0_0) := (blk_cell BK325.out 0).trans rfl; have hcz27_1 : w26.cell? ⟨gb325, 1, none⟩ = some (.int .i64 a0_1) := (blk_cell BK325.out 1).trans rfl; have hcz27_2 : w26.cell? ⟨gb325, 2, none⟩ = some (.int .i64 a0_2) := (blk_cell BK325.out 2).trans rfl; have hcz27_3 : w26.cell? ⟨gb325, 3, none⟩ = some (.int .i64 a0_3) := (blk_cell BK325.out 3).trans rfl; have hcz27_4 : w26.cell? ⟨gb325, 4, none⟩ = some (.int .i64 a0_4) := (blk_cell BK325.out 4).trans rfl; have hcz27_5 : w26.cell? ⟨gb325, 5, none⟩ = some (.int .i64 a0_5) := (blk_cell BK325.out 5).trans rfl; have hcz27_6 : w26.cell? ⟨gb325, 6, none⟩ = some (.int .i64 a0_6) := (blk_cell BK325.out 6).trans rfl; have hfz27_0 := blk_frozen BK325.out 0; have hfz27_1 := blk_frozen BK325.out 1; have hfz27_2 := blk_frozen BK325.out 2; have hfz27_3 := blk_frozen BK325.out 3; have hfz27_4 := blk_frozen BK325.out 4; have hfz27_5 := blk_frozen BK325.out 5; have hfz27_6 := blk_frozen BK325.out 6) | (go_at_call 16; (with_reducible refine (linotyperef05_Check.calls k a0_0 a0_1 a0_2 a0_3 a0_4 a0_5 a0_6 t326 _ A4.out).mono ?_); rintro e w28 ⟨rfl, hb⟩; have n0_ := Aside0.mk (blk_below (g := gb325) (o := .cells #[.int .i64 a0_0, .int .i64 a0_1, .int .i64 a0_2, .int .i64 a0_3, .int .i64 a0_4, .int .i64 a0_5, .int .i64 a0_6] 25 (0, 0)) (by (with_reducible repeat (first | refine blk_drewN ?_ _ | refine blk_drew ?_ | refine blk_alloc ?_ _)); exact BK325.out) hb); have n1_ := Aside0.mk (below_step (by repeat (first | (with_reducible first | exact HB.out | apply below_alloc | apply pw_below_drewN | apply below_drew1 | refine below_set ?_ GE325.out) | exact HB.out)) hb); clear BK325; clear HB; have BK325 := n0_; have HB := n1_; clear n0_ n1_; (try clear hb); (try clear hb2); (try clear hk); (try clear hi)))
   repeat (go_quiet (first | ((with_reducible refine gate_dst (N := 3) rfl ?_); refine box_event ?hg (N := 3) ?hd (cs := #[.int .i64 a0_0, .int .i64 a0_1, .int .i64 a0_2, .int .i64 a0_3, .int .i64 a0_4, .int .i64 a0_5, .int .i64 a0_6]) (t := 25) ?hr ?_; (case hd => rfl); (case hg => rfl); (case hr => first | (go_simp; done) | (go_simp; rfl)); intro gb325 hg w26 hbox hb; have n0_ := Aside0.mk (below_step (by repeat (first | (with_reducible first | exact HB.out | apply below_alloc | apply pw_below_drewN | apply below_drew1) | exact HB.out)) hb); have n1_ := Aside0.mk (hbox); have n2_ := Aside0.mk ((by rw [hg]; exact (below_size (by repeat (first | (with_reducible first | exact HB.out | apply below_alloc | apply pw_below_drewN | apply below_drew1) | exact HB.out))) : w.heap.size ≤ gb325)); have n3_ := Aside0.mk ((by rw [hg]; exact (below_size (by repeat (first | (with_reducible first | exact HB.out | apply below_alloc | apply pw_below_drewN | apply below_drew1) | exact HB.out))) : w.heap.size ≤ gb325)); clear HB; have HB := n0_; have BK325 := n1_; have GW325 := n2_; have GE325 := n3_; clear n0_ n1_ n2_ n3_; clear hb hbox hg; have hcz27_0 : w26.cell? ⟨gb325, 0, none⟩ = some (.int .i64 a0_0) := (blk_cell BK325.out 0).trans rfl; have hcz27_1 : w26.cell? ⟨gb325, 1, none⟩ = some (.int .i64 a0_1) := (blk_cell BK325.out 1).trans rfl; have hcz27_2 : w26.cell? ⟨gb325, 2, none⟩ = some (.int .i64 a0_2) := (blk_cell BK325.out 2).trans rfl; have hcz27_3 : w26.cell? ⟨gb325, 3, none⟩ = some (.int .i64 a0_3) := (blk_cell BK325.out 3).trans rfl; have hcz27_4 : w26.cell? ⟨gb325, 4, none⟩ = some (.int .i64 a0_4) := (blk_cell BK325.out 4).trans rfl; have hcz27_5 : w26.cell? ⟨gb325, 5, none⟩ = some (.int .i64 a0_5) := (blk_cell BK325.out 5).trans rfl; have hcz27_6 : w26.cell? ⟨gb325, 6, none⟩ = some (.int .i64 a0_6) := (blk_cell BK325.out 6).trans rfl; have hfz27_0 := blk_frozen BK325.out 0; have hfz27_1 := blk_frozen BK325.out 1; have hfz27_2 := blk_frozen BK325.out 2; have hfz27_3 := blk_frozen BK325.out 3; have hfz27_4 := blk_frozen BK325.out 4; have hfz27_5 := blk_frozen BK325.out 5; have hfz27_6 := blk_frozen BK325.out 6) | (go_at_call 16; (with_reducible refine (linotyperef05_Check.calls k a0_0 a0_1 a0_2 a0_3 a0_4 a0_5 a0_6 t326 _ A4.out).mono ?_); rintro e w28 ⟨rfl, hb⟩; have n0_ := Aside0.mk (blk_below (g := gb325) (o := .cells #[.int .i64 a0_0, .int .i64 a0_1, .int .i64 a0_2, .int .i64 a0_3, .int .i64 a0_4, .int .i64 a0_5, .int .i64 a0_6] 25 (0, 0)) (by (with_reducible repeat (first | refine blk_drewN ?_ _ | refine blk_drew ?_ | refine blk_alloc ?_ _)); exact BK325.out) hb); have n1_ := Aside0.mk (below_step (by repeat (first | (with_reducible first | exact HB.out | apply below_alloc | apply pw_below_drewN | apply below_drew1 | refine below_set ?_ GE325.out) | exact HB.out)) hb); clear BK325; clear HB; have BK325 := n0_; have HB := n1_; clear n0_ n1_; (try clear hb); (try clear hb2); (try clear hk); (try clear hi))); try go_wp2_with (first | ((with_reducible refine gate_dst (N := 3) rfl ?_); refine box_event ?hg (N := 3) ?hd (cs := #[.int .i64 a0_0, .int .i64 a0_1, .int .i64 a0_2, .int .i64 a0_3, .int .i64 a0_4, .int .i64 a0_5, .int .i64 a0_6]) (t := 25) ?hr ?_; (case hd => rfl); (case hg => rfl); (case hr => first | (go_simp; done) | (go_simp; rfl)); intro gb325 hg w26 hbox hb; have n0_ := Aside0.mk (below_step (by repeat (first | (with_reducible first | exact HB.out | apply below_alloc | apply pw_below_drewN | apply below_drew1) | exact HB.out)) hb); have n1_ := Aside0.mk (hbox); have n2_ := Aside0.mk ((by rw [hg]; exact (below_size (by repeat (first | (with_reducible first | exact HB.out | apply below_alloc | apply pw_below_drewN | apply below_drew1) | exact HB.out))) : w.heap.size ≤ gb325)); have n3_ := Aside0.mk ((by rw [hg]; exact (below_size (by repeat (first | (with_reducible first | exact HB.out | apply below_alloc | apply pw_below_drewN | apply below_drew1) | exact HB.out))) : w.heap.size ≤ gb325)); clear HB; have HB := n0_; have BK325 := n1_; have GW325 := n2_; have GE325 := n3_; clear n0_ n1_ n2_ n3_; clear hb hbox hg; have hcz27_0 : w26.cell? ⟨gb325, 0, none⟩ = some (.int .i64 a0_0) := (blk_cell BK325.out 0).trans rfl; have hcz27_1 : w26.cell? ⟨gb325, 1, none⟩ = some (.int .i64 a0_1) := (blk_cell BK325.out 1).trans rfl; have hcz27_2 : w26.cell? ⟨gb325, 2, none⟩ = some (.int .i64 a0_2) := (blk_cell BK325.out 2).trans rfl; have hcz27_3 : w26.cell? ⟨gb325, 3, none⟩ = some (.int .i64 a0_3) := (blk_cell BK325.out 3).trans rfl; have hcz27_4 : w26.cell? ⟨gb325, 4, none⟩ = some (.int .i64 a0_4) := (blk_cell BK325.out 4).trans rfl; have hcz27_5 : w26.cell? ⟨gb325, 5, none⟩ = some (.int .i64 a0_5) := (blk_cell BK325.out 5).trans rfl; have hcz27_6 : w26.cell? ⟨gb325, 6, none⟩ = some (.int .i64 a0_6) := (blk_cell BK325.out 6).trans rfl; have hfz27_0 := blk_frozen BK325.out 0; have hfz27_1 := blk_frozen BK325.out 1; have hfz27_2 := blk_frozen BK325.out 2; have hfz27_3 := blk_frozen BK325.out 3; have hfz27_4 := blk_frozen BK325.out 4; have hfz27_5 := blk_frozen BK325.out 5; have hfz27_6 := blk_frozen BK325.out 6) | (go_at_call 16; (with_reducible refine (linotyperef05_Check.calls k a0_0 a0_1 a0_2 a0_3 a0_4 a0_5 a0_6 t326 _ A4.out).mono ?_); rintro e w28 ⟨rfl, hb⟩; have n0_ := Aside0.mk (blk_below (g := gb325) (o := .cells #[.int .i64 a0_0, .int .i64 a0_1, .int .i64 a0_2, .int .i64 a0_3, .int .i64 a0_4, .int .i64 a0_5, .int .i64 a0_6] 25 (0, 0)) (by (with_reducible repeat (first | refine blk_drewN ?_ _ | refine blk_drew ?_ | refine blk_alloc ?_ _)); exact BK325.out) hb); have n1_ := Aside0.mk (below_step (by repeat (first | (with_reducible first | exact HB.out | apply below_alloc | apply pw_below_drewN | apply below_drew1 | refine below_set ?_ GE325.out) | exact HB.out)) hb); clear BK325; clear HB; have BK325 := n0_; have HB := n1_; clear n0_ n1_; (try clear hb); (try clear hb2); (try clear hk); (try clear hi))))
   go_ret2
   exact ⟨by first | rfl | (simp [errW_none, errW_some] <;> rfl) | (simp [*, errW_none, errW_some] <;> rfl), by repeat (first | (with_reducible first | exact HB.out | apply below_alloc | apply pw_below_drewN | apply below_drew1 | refine below_set ?_ GE325.out) | exact HB.out)⟩
 ·rw [if_neg c5] at H
  have c5b0 : (t326 == 0) = false := beq_eq_false_iff_ne.mpr c5
  have c5b1 : (t326 != 0) = true := bne_iff_ne.mpr c5
  simp only [Option.some.injEq, Prod.mk.injEq] at H
  obtain ⟨rfl, rfl⟩ := H
  go_enter Tryd.func22, Tryd.ntmps22
  go_wp2_with (first | ((with_reducible refine gate_dst (N := 3) rfl ?_); refine box_event ?hg (N := 3) ?hd (cs := #[.int .i64 a0_0, .int .i64 a0_1, .int .i64 a0_2, .int .i64 a0_3, .int .i64 a0_4, .int .i64 a0_5, .int .i64 a0_6]) (t := 25) ?hr ?_; (case hd => rfl); (case hg => rfl); (case hr => first | (go_simp; done) | (go_simp; rfl)); intro gb325 hg w29 hbox hb; have n0_ := Aside0.mk (below_step (by repeat (first | (with_reducible first | exact HB.out | apply below_alloc | apply pw_below_drewN | apply below_drew1) | exact HB.out)) hb); have n1_ := Aside0.mk (hbox); have n2_ := Aside0.mk ((by rw [hg]; exact (below_size (by repeat (first | (with_reducible first | exact HB.out | apply below_alloc | apply pw_below_drewN | apply below_drew1) | exact HB.out))) : w.heap.size ≤ gb325)); have n3_ := Aside0.mk ((by rw [hg]; exact (below_size (by repeat (first | (with_reducible first | exact HB.out | apply below_alloc | apply pw_below_drewN | apply below_drew1) | exact HB.out))) : w.heap.size ≤ gb325)); clear HB; have HB := n0_; have BK325 := n1_; have GW325 := n2_; have GE325 := n3_; clear n0_ n1_ n2_ n3_; clear hb hbox hg; have hcz30_0 : w29.cell? ⟨gb325, 0, none⟩ = some (.int .i64 a0_0) := (blk_cell BK325.out 0).trans rfl; have hcz30_1 : w29.cell? ⟨gb325, 1, none⟩ = some (.int .i64 a0_1) := (blk_cell BK325.out 1).trans rfl; have hcz30_2 : w29.cell? ⟨gb325, 2, none⟩ = some (.int .i64 a0_2) := (blk_cell BK325.out 2).trans rfl; have hcz30_3 : w29.cell? ⟨gb325, 3, none⟩ = some (.int .i64 a0_3) := (blk_cell BK325.out 3).trans rfl; have hcz30_4 : w29.cell? ⟨gb325, 4, none⟩ = some (.int .i64 a0_4) := (blk_cell BK325.out 4).trans rfl; have hcz30_5 : w29.cell? ⟨gb325, 5, none⟩ = some (.int .i64 a0_5) := (blk_cell BK325.out 5).trans rfl; have hcz30_6 : w29.cell? ⟨gb325, 6, none⟩ = some (.int .i64 a0_6) := (blk_cell BK325.out 6).trans rfl; have hfz30_0 := blk_frozen BK325.out 0; have hfz30_1 := blk_frozen BK325.out 1; have hfz30_2 := blk_frozen BK325.out 2; have hfz30_3 := blk_frozen BK325.out 3; have hfz30_4 := blk_frozen BK325.out 4; have hfz30_5 := blk_frozen BK325.out 5; have hfz30_6 := blk_frozen BK325.out 6) | (go_at_call 16; (with_reducible refine (linotyperef05_Check.calls k a0_0 a0_1 a0_2 a0_3 a0_4 a0_5 a0_6 t326 _ A4.out).mono ?_); rintro e w31 ⟨rfl, hb⟩; have n0_ := Aside0.mk (blk_below (g := gb325) (o := .cells #[.int .i64 a0_0, .int .i64 a0_1, .int .i64 a0_2, .int .i64 a0_3, .int .i64 a0_4, .int .i64 a0_5, .int .i64 a0_6] 25 (0, 0)) (by (with_reducible repeat (first | refine blk_drewN ?_ _ | refine blk_drew ?_ | refine blk_alloc ?_ _)); exact BK325.out) hb); have n1_ := Aside0.mk (below_step (by repeat (first | (with_reducible first | exact HB.out | apply below_alloc | apply pw_below_drewN | apply below_drew1 | refine below_set ?_ GE325.out) | exact HB.out)) hb); clear BK325; clear HB; have BK325 := n0_; have HB := n1_; clear n0_ n1_; (try clear hb); (try clear hb2); (try clear hk); (try clear hi)))
  repeat (go_quiet (first | ((with_reducible refine gate_dst (N := 3) rfl ?_); refine box_event ?hg (N := 3) ?hd (cs := #[.int .i64 a0_0, .int .i64 a0_1, .int .i64 a0_2, .int .i64 a0_3, .int .i64 a0_4, .int .i64 a0_5, .int .i64 a0_6]) (t := 25) ?hr ?_; (case hd => rfl); (case hg => rfl); (case hr => first | (go_simp; done) | (go_simp; rfl)); intro gb325 hg w29 hbox hb; have n0_ := Aside0.mk (below_step (by repeat (first | (with_reducible first | exact HB.out | apply below_alloc | apply pw_below_drewN | apply below_drew1) | exact HB.out)) hb); have n1_ := Aside0.mk (hbox); have n2_ := Aside0.mk ((by rw [hg]; exact (below_size (by repeat (first | (with_reducible first | exact HB.out | apply below_alloc | apply pw_below_drewN | apply below_drew1) | exact HB.out))) : w.heap.size ≤ gb325)); have n3_ := Aside0.mk ((by rw [hg]; exact (below_size (by repeat (first | (with_reducible first | exact HB.out | apply below_alloc | apply pw_below_drewN | apply below_drew1) | exact HB.out))) : w.heap.size ≤ gb325)); clear HB; have HB := n0_; have BK325 := n1_; have GW325 := n2_; have GE325 := n3_; clear n0_ n1_ n2_ n3_; clear hb hbox hg; have hcz30_0 : w29.cell? ⟨gb325, 0, none⟩ = some (.int .i64 a0_0) := (blk_cell BK325.out 0).trans rfl; have hcz30_1 : w29.cell? ⟨gb325, 1, none⟩ = some (.int .i64 a0_1) := (blk_cell BK325.out 1).trans rfl; have hcz30_2 : w29.cell? ⟨gb325, 2, none⟩ = some (.int .i64 a0_2) := (blk_cell BK325.out 2).trans rfl; have hcz30_3 : w29.cell? ⟨gb325, 3, none⟩ = some (.int .i64 a0_3) := (blk_cell BK325.out 3).trans rfl; have hcz30_4 : w29.cell? ⟨gb325, 4, none⟩ = some (.int .i64 a0_4) := (blk_cell BK325.out 4).trans rfl; have hcz30_5 : w29.cell? ⟨gb325, 5, none⟩ = some (.int .i64 a0_5) := (blk_cell BK325.out 5).trans rfl; have hcz30_6 : w29.cell? ⟨gb325, 6, none⟩ = some (.int .i64 a0_6) := (blk_cell BK325.out 6).trans rfl; have hfz30_0 := blk_frozen BK325.out 0; have hfz30_1 := blk_frozen BK325.out 1; have hfz30_2 := blk_frozen BK325.out 2; have hfz30_3 := blk_frozen BK325.out 3; have hfz30_4 := blk_frozen BK325.out 4; have hfz30_5 := blk_frozen BK325.out 5; have hfz30_6 := blk_frozen BK325.out 6) | (go_at_call 16; (with_reducible refine (linotyperef05_Check.calls k a0_0 a0_1 a0_2 a0_3 a0_4 a0_5 a0_6 t326 _ A4.out).mono ?_); rintro e w31 ⟨rfl, hb⟩; have n0_ := Aside0.mk (blk_below (g := gb325) (o := .cells #[.int .i64 a0_0, .int .i64 a0_1, .int .i64 a0_2, .int .i64 a0_3, .int .i64 a0_4, .int .i64 a0_5, .int .i64 a0_6] 25 (0, 0)) (by (with_reducible repeat (first | refine blk_drewN ?_ _ | refine blk_drew ?_ | refine blk_alloc ?_ _)); exact BK325.out) hb); have n1_ := Aside0.mk (below_step (by repeat (first | (with_reducible first | exact HB.out | apply below_alloc | apply pw_below_drewN | apply below_drew1 | refine below_set ?_ GE325.out) | exact HB.out)) hb); clear BK325; clear HB; have BK325 := n0_; have HB := n1_; clear n0_ n1_; (try clear hb); (try clear hb2); (try clear hk); (try clear hi))); try go_wp2_with (first | ((with_reducible refine gate_dst (N := 3) rfl ?_); refine box_event ?hg (N := 3) ?hd (cs := #[.int .i64 a0_0, .int .i64 a0_1, .int .i64 a0_2, .int .i64 a0_3, .int .i64 a0_4, .int .i64 a0_5, .int .i64 a0_6]) (t := 25) ?hr ?_; (case hd => rfl); (case hg => rfl); (case hr => first | (go_simp; done) | (go_simp; rfl)); intro gb325 hg w29 hbox hb; have n0_ := Aside0.mk (below_step (by repeat (first | (with_reducible first | exact HB.out | apply below_alloc | apply pw_below_drewN | apply below_drew1) | exact HB.out)) hb); have n1_ := Aside0.mk (hbox); have n2_ := Aside0.mk ((by rw [hg]; exact (below_size (by repeat (first | (with_reducible first | exact HB.out | apply below_alloc | apply pw_below_drewN | apply below_drew1) | exact HB.out))) : w.heap.size ≤ gb325)); have n3_ := Aside0.mk ((by rw [hg]; exact (below_size (by repeat (first | (with_reducible first | exact HB.out | apply below_alloc | apply pw_below_drewN | apply below_drew1) | exact HB.out))) : w.heap.size ≤ gb325)); clear HB; have HB := n0_; have BK325 := n1_; have GW325 := n2_; have GE325 := n3_; clear n0_ n1_ n2_ n3_; clear hb hbox hg; have hcz30_0 : w29.cell? ⟨gb325, 0, none⟩ = some (.int .i64 a0_0) := (blk_cell BK325.out 0).trans rfl; have hcz30_1 : w29.cell? ⟨gb325, 1, none⟩ = some (.int .i64 a0_1) := (blk_cell BK325.out 1).trans rfl; have hcz30_2 : w29.cell? ⟨gb325, 2, none⟩ = some (.int .i64 a0_2) := (blk_cell BK325.out 2).trans rfl; have hcz30_3 : w29.cell? ⟨gb325, 3, none⟩ = some (.int .i64 a0_3) := (blk_cell BK325.out 3).trans rfl; have hcz30_4 : w29.cell? ⟨gb325, 4, none⟩ = some (.int .i64 a0_4) := (blk_cell BK325.out 4).trans rfl; have hcz30_5 : w29.cell? ⟨gb325, 5, none⟩ = some (.int .i64 a0_5) := (blk_cell BK325.out 5).trans rfl; have hcz30_6 : w29.cell? ⟨gb325, 6, none⟩ = some (.int .i64 a0_6) := (blk_cell BK325.out 6).trans rfl; have hfz30_0 := blk_frozen BK325.out 0; have hfz30_1 := blk_frozen BK325.out 1; have hfz30_2 := blk_frozen BK325.out 2; have hfz30_3 := blk_frozen BK325.out 3; have hfz30_4 := blk_frozen BK325.out 4; have hfz30_5 := blk_frozen BK325.out 5; have hfz30_6 := blk_frozen BK325.out 6) | (go_at_call 16; (with_reducible refine (linotyperef05_Check.calls k a0_0 a0_1 a0_2 a0_3 a0_4 a0_5 a0_6 t326 _ A4.out).mono ?_); rintro e w31 ⟨rfl, hb⟩; have n0_ := Aside0.mk (blk_below (g := gb325) (o := .cells #[.int .i64 a0_0, .int .i64 a0_1, .int .i64 a0_2, .int .i64 a0_3, .int .i64 a0_4, .int .i64 a0_5, .int .i64 a0_6] 25 (0, 0)) (by (with_reducible repeat (first | refine blk_drewN ?_ _ | refine blk_drew ?_ | refine blk_alloc ?_ _)); exact BK325.out) hb); have n1_ := Aside0.mk (below_step (by repeat (first | (with_reducible first | exact HB.out | apply below_alloc | apply pw_below_drewN | apply below_drew1 | refine below_set ?_ GE325.out) | exact HB.out)) hb); clear BK325; clear HB; have BK325 := n0_; have HB := n1_; clear n0_ n1_; (try clear hb); (try clear hb2); (try clear hk); (try clear hi))))
  go_ret2
  exact ⟨by first | rfl | (simp [errW_none, errW_some] <;> rfl) | (simp [*, errW_none, errW_some] <;> rfl), by repeat (first | (with_reducible first | exact HB.out | apply below_alloc | apply pw_below_drewN | apply below_drew1 | refine below_set ?_ GE325.out) | exact HB.out)⟩

end Go.Proofs.YtceofdchbolidaaDoor.XAll
