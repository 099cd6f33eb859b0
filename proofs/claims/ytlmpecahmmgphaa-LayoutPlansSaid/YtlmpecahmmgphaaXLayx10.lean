/- Laid by this seat's own program (wip/tools/printx.py) out of the translation: the functions that laws use (Lay), each with its contract. No conditions. -/
import Derived.Test.YtlmpecahmmgphaaXLayx0
import Derived.Test.YtlmpecahmmgphaaXLayx9
namespace Go.Proofs.Ytlmpecahmmgphaa.XLay
open Go.RowKit Go.Proofs.YtlmpecahmmgphaaW.PrintWords Go.Proofs.YtlmpecahmmgphaaW.PrintLast Go.Proofs.YtlmpecahmmgphaaW.PrintMore
attribute [local go_sem] max2_int min2_int max_two min_two max_three min_three max_four min_four   -- for this text's walks alone
set_option linter.unusedVariables false
set_option linter.unusedSimpArgs false

/-! ### linotyperef27_one: function 71 -/
def linotyperef27_one.j0 : Nat → Int → Bool → Bool → Int → Int → Int → Int → Int → Int → Int → Option (Bool)
 | 0, _, _, _, _, _, _, _, _, _, _ => none
 | k + 1, x1, x5, x50, x326000, x326001, x326002, x326003, x326004, x326005, x326006 => if x50 = true then (some false) else (if x326000 = 1 then ((linotyperef27_within.f x326001 0 1048576).bind fun t326 => (some t326)) else (if x326000 = 3 then ((linotyperef27_power.f k x326006).bind fun t327 => (some t327)) else (if x5 = true then ((linotyperef27_within.f x326002 1 15).bind fun t328 => (if t328 = true then ((linotyperef27_within.f x326003 (wrap64 (x326002 + 1)) 15).bind fun t329 => (if t329 = true then ((linotyperef27_within.f x326004 0 x1).bind fun t330 => (if t330 = true then ((linotyperef01_Fits.f x326005 32).bind fun t331 => (some t331)) else (some false))) else (some false))) else (some false))) else (some false))))
def linotyperef27_one.f (k : Nat) (a0_0 : Int) (a0_1 : Int) (a0_2 : Int) (a0_3 : Int) (a0_4 : Int) (a0_5 : Int) (a0_6 : Int) (a1 : Int) : Option (Bool) := if a0_0 = 1 then (if a0_0 = 3 then (if a0_0 = 2 then (linotyperef27_one.j0 k a1 (a0_0 == 2) false a0_0 a0_1 a0_2 a0_3 a0_4 a0_5 a0_6) else (if a0_2 = 0 then (if a0_3 = 0 then (if a0_4 = 0 then (linotyperef27_one.j0 k a1 (a0_0 == 2) (a0_5 != 0) a0_0 a0_1 a0_2 a0_3 a0_4 a0_5 a0_6) else (linotyperef27_one.j0 k a1 (a0_0 == 2) true a0_0 a0_1 a0_2 a0_3 a0_4 a0_5 a0_6)) else (linotyperef27_one.j0 k a1 (a0_0 == 2) true a0_0 a0_1 a0_2 a0_3 a0_4 a0_5 a0_6)) else (linotyperef27_one.j0 k a1 (a0_0 == 2) true a0_0 a0_1 a0_2 a0_3 a0_4 a0_5 a0_6))) else (if a0_6 = 0 then (if a0_0 = 2 then (linotyperef27_one.j0 k a1 (a0_0 == 2) false a0_0 a0_1 a0_2 a0_3 a0_4 a0_5 a0_6) else (if a0_2 = 0 then (if a0_3 = 0 then (if a0_4 = 0 then (linotyperef27_one.j0 k a1 (a0_0 == 2) (a0_5 != 0) a0_0 a0_1 a0_2 a0_3 a0_4 a0_5 a0_6) else (linotyperef27_one.j0 k a1 (a0_0 == 2) true a0_0 a0_1 a0_2 a0_3 a0_4 a0_5 a0_6)) else (linotyperef27_one.j0 k a1 (a0_0 == 2) true a0_0 a0_1 a0_2 a0_3 a0_4 a0_5 a0_6)) else (linotyperef27_one.j0 k a1 (a0_0 == 2) true a0_0 a0_1 a0_2 a0_3 a0_4 a0_5 a0_6))) else (linotyperef27_one.j0 k a1 (a0_0 == 2) true a0_0 a0_1 a0_2 a0_3 a0_4 a0_5 a0_6))) else (if a0_1 = 0 then (if a0_0 = 3 then (if a0_0 = 2 then (linotyperef27_one.j0 k a1 (a0_0 == 2) false a0_0 a0_1 a0_2 a0_3 a0_4 a0_5 a0_6) else (if a0_2 = 0 then (if a0_3 = 0 then (if a0_4 = 0 then (linotyperef27_one.j0 k a1 (a0_0 == 2) (a0_5 != 0) a0_0 a0_1 a0_2 a0_3 a0_4 a0_5 a0_6) else (linotyperef27_one.j0 k a1 (a0_0 == 2) true a0_0 a0_1 a0_2 a0_3 a0_4 a0_5 a0_6)) else (linotyperef27_one.j0 k a1 (a0_0 == 2) true a0_0 a0_1 a0_2 a0_3 a0_4 a0_5 a0_6)) else (linotyperef27_one.j0 k a1 (a0_0 == 2) true a0_0 a0_1 a0_2 a0_3 a0_4 a0_5 a0_6))) else (if a0_6 = 0 then (if a0_0 = 2 then (linotyperef27_one.j0 k a1 (a0_0 == 2) false a0_0 a0_1 a0_2 a0_3 a0_4 a0_5 a0_6) else (if a0_2 = 0 then (if a0_3 = 0 then (if a0_4 = 0 then (linotyperef27_one.j0 k a1 (a0_0 == 2) (a0_5 != 0) a0_0 a0_1 a0_2 a0_3 a0_4 a0_5 a0_6) else (linotyperef27_one.j0 k a1 (a0_0 == 2) true a0_0 a0_1 a0_2 a0_3 a0_4 a0_5 a0_6)) else (linotyperef27_one.j0 k a1 (a0_0 == 2) true a0_0 a0_1 a0_2 a0_3 a0_4 a0_5 a0_6)) else (linotyperef27_one.j0 k a1 (a0_0 == 2) true a0_0 a0_1 a0_2 a0_3 a0_4 a0_5 a0_6))) else (linotyperef27_one.j0 k a1 (a0_0 == 2) true a0_0 a0_1 a0_2 a0_3 a0_4 a0_5 a0_6))) else (linotyperef27_one.j0 k a1 (a0_0 == 2) true a0_0 a0_1 a0_2 a0_3 a0_4 a0_5 a0_6))
theorem linotyperef27_one.mono_l : ∀ k, (∀ y0 y1 y2 y3 y4 y5 y6 y7 y8 y9, LeO (linotyperef27_one.j0 k y0 y1 y2 y3 y4 y5 y6 y7 y8 y9) (linotyperef27_one.j0 (k + 1) y0 y1 y2 y3 y4 y5 y6 y7 y8 y9))
 | 0 => fun _ _ _ _ _ _ _ _ _ _ r h => by simp [linotyperef27_one.j0] at h
 | k + 1 => by
  have ih0 := linotyperef27_one.mono_l k
  ·intro y0 y1 y2 y3 y4 y5 y6 y7 y8 y9
   unfold linotyperef27_one.j0
   repeat' first
   | (with_reducible exact ih0 _ _ _ _ _ _ _ _ _ _)
   | (with_reducible exact linotyperef27_power.mono _ _)
   | (with_reducible exact LeO.refl _)
   | (with_reducible exact LeO.none _)
   | (with_reducible refine LeO.ite ?_ ?_)
   | (with_reducible refine LeO.bind ?_ (fun _ => ?_))
   | exact ih0 _ _ _ _ _ _ _ _ _ _
   | exact linotyperef27_power.mono _ _
   | exact LeO.none _
   | refine LeO.ite ?_ ?_
   | refine LeO.bind ?_ (fun _ => ?_)
theorem linotyperef27_one.mono : ∀ a0 a1 a2 a3 a4 a5 a6 a7 k, LeO (linotyperef27_one.f k a0 a1 a2 a3 a4 a5 a6 a7) (linotyperef27_one.f (k + 1) a0 a1 a2 a3 a4 a5 a6 a7) := by
 intro a0 a1 a2 a3 a4 a5 a6 a7 k
 have ih0 := linotyperef27_one.mono_l k
 unfold linotyperef27_one.f
 repeat' first
   | (with_reducible exact ih0 _ _ _ _ _ _ _ _ _ _)
   | (with_reducible exact linotyperef27_power.mono _ _)
   | (with_reducible exact LeO.refl _)
   | (with_reducible exact LeO.none _)
   | (with_reducible refine LeO.ite ?_ ?_)
   | (with_reducible refine LeO.bind ?_ (fun _ => ?_))
   | exact ih0 _ _ _ _ _ _ _ _ _ _
   | exact linotyperef27_power.mono _ _
   | exact LeO.none _
   | refine LeO.ite ?_ ?_
   | refine LeO.bind ?_ (fun _ => ?_)
set_option maxHeartbeats 8000000 in
set_option maxRecDepth 100000 in
theorem linotyperef27_one.calls (k : Nat) (a0_0 : Int) (a0_1 : Int) (a0_2 : Int) (a0_3 : Int) (a0_4 : Int) (a0_5 : Int) (a0_6 : Int) (a1 : Int) (r : Bool) (w : World) (h : linotyperef27_one.f k a0_0 a0_1 a0_2 a0_3 a0_4 a0_5 a0_6 a1 = some r) :
  Calls Try.prog 71 #[.agg #[.int .i64 a0_0, .int .i64 a0_1, .int .i64 a0_2, .int .i64 a0_3, .int .i64 a0_4, .int .i64 a0_5, .int .i64 a0_6], .int .i64 a1] w fun e w' => e = .returned (.bool r) ∧ Below w.heap.size w w' := by
 have hu52 := Try.underlying52
 have HB := Aside0.mk (Below.refl w.heap.size w)
 have H : (if a0_0 = 1 then (if a0_0 = 3 then (if a0_0 = 2 then (linotyperef27_one.j0 k a1 (a0_0 == 2) false a0_0 a0_1 a0_2 a0_3 a0_4 a0_5 a0_6) else (if a0_2 = 0 then (if a0_3 = 0 then (if a0_4 = 0 then (linotyperef27_one.j0 k a1 (a0_0 == 2) (a0_5 != 0) a0_0 a0_1 a0_2 a0_3 a0_4 a0_5 a0_6) else (linotyperef27_one.j0 k a1 (a0_0 == 2) true a0_0 a0_1 a0_2 a0_3 a0_4 a0_5 a0_6)) else (linotyperef27_one.j0 k a1 (a0_0 == 2) true a0_0 a0_1 a0_2 a0_3 a0_4 a0_5 a0_6)) else (linotyperef27_one.j0 k a1 (a0_0 == 2) true a0_0 a0_1 a0_2 a0_3 a0_4 a0_5 a0_6))) else (if a0_6 = 0 then (if a0_0 = 2 then (linotyperef27_one.j0 k a1 (a0_0 == 2) false a0_0 a0_1 a0_2 a0_3 a0_4 a0_5 a0_6) else (if a0_2 = 0 then (if a0_3 = 0 then (if a0_4 = 0 then (linotyperef27_one.j0 k a1 (a0_0 == 2) (a0_5 != 0) a0_0 a0_1 a0_2 a0_3 a0_4 a0_5 a0_6) else (linotyperef27_one.j0 k a1 (a0_0 == 2) true a0_0 a0_1 a0_2 a0_3 a0_4 a0_5 a0_6)) else (linotyperef27_one.j0 k a1 (a0_0 == 2) true a0_0 a0_1 a0_2 a0_3 a0_4 a0_5 a0_6)) else (linotyperef27_one.j0 k a1 (a0_0 == 2) true a0_0 a0_1 a0_2 a0_3 a0_4 a0_5 a0_6))) else (linotyperef27_one.j0 k a1 (a0_0 == 2) true a0_0 a0_1 a0_2 a0_3 a0_4 a0_5 a0_6))) else (if a0_1 = 0 then (if a0_0 = 3 then (if a0_0 = 2 then (linotyperef27_one.j0 k a1 (a0_0 == 2) false a0_0 a0_1 a0_2 a0_3 a0_4 a0_5 a0_6) else (if a0_2 = 0 then (if a0_3 = 0 then (if a0_4 = 0 then (linotyperef27_one.j0 k a1 (a0_0 == 2) (a0_5 != 0) a0_0 a0_1 a0_2 a0_3 a0_4 a0_5 a0_6) else (linotyperef27_one.j0 k a1 (a0_0 == 2) true a0_0 a0_1 a0_2 a0_3 a0_4 a0_5 a0_6)) else (linotyperef27_one.j0 k a1 (a0_0 == 2) true a0_0 a0_1 a0_2 a0_3 a0_4 a0_5 a0_6)) else (linotyperef27_one.j0 k a1 (a0_0 == 2) true a0_0 a0_1 a0_2 a0_3 a0_4 a0_5 a0_6))) else (if a0_6 = 0 then (if a0_0 = 2 then (linotyperef27_one.j0 k a1 (a0_0 == 2) false a0_0 a0_1 a0_2 a0_3 a0_4 a0_5 a0_6) else (if a0_2 = 0 then (if a0_3 = 0 then (if a0_4 = 0 then (linotyperef27_one.j0 k a1 (a0_0 == 2) (a0_5 != 0) a0_0 a0_1 a0_2 a0_3 a0_4 a0_5 a0_6) else (linotyperef27_one.j0 k a1 (a0_0 == 2) true a0_0 a0_1 a0_2 a0_3 a0_4 a0_5 a0_6)) else (linotyperef27_one.j0 k a1 (a0_0 == 2) true a0_0 a0_1 a0_2 a0_3 a0_4 a0_5 a0_6)) else (linotyperef27_one.j0 k a1 (a0_0 == 2) true a0_0 a0_1 a0_2 a0_3 a0_4 a0_5 a0_6))) else (linotyperef27_one.j0 k a1 (a0_0 == 2) true a0_0 a0_1 a0_2 a0_3 a0_4 a0_5 a0_6))) else (linotyperef27_one.j0 k a1 (a0_0 == 2) true a0_0 a0_1 a0_2 a0_3 a0_4 a0_5 a0_6))) = some r := h
 clear h
 have HC3 := Aside0.mk H
 clear H
 go_enter Try.func71, Try.ntmps71
 go_upto_region 2 with (first | ((with_reducible refine gate_dst (N := 2) rfl ?_); refine box_event ?hg (N := 2) ?hd (cs := #[.int .i64 a0_0, .int .i64 a0_1, .int .i64 a0_2, .int .i64 a0_3, .int .i64 a0_4, .int .i64 a0_5, .int .i64 a0_6]) (t := 52) ?hr ?_; (case hd => rfl); (case hg => rfl); (case hr => first | (go_simp; done) | (go_simp; rfl)); intro gb325 hg w4 hbox hb; have n0_ := Aside0.mk (below_step (by repeat (first | exact HB.out | apply below_alloc | apply pw_below_drewN | apply below_drew1)) hb); have n1_ := Aside0.mk (hbox); have n2_ := Aside0.mk ((by rw [hg]; exact (below_size (by repeat (first | exact HB.out | apply below_alloc | apply pw_below_drewN | apply below_drew1))) : w.heap.size ≤ gb325)); have n3_ := Aside0.mk ((by rw [hg]; exact (below_size (by repeat (first | exact HB.out | apply below_alloc | apply pw_below_drewN | apply below_drew1))) : w.heap.size ≤ gb325)); clear HB; have HB := n0_; have BK325 := n1_; have GW325 := n2_; have GE325 := n3_; clear n0_ n1_ n2_ n3_; clear hb hbox hg; have hcz5_0 : w4.cell? ⟨gb325, 0, none⟩ = some (.int .i64 a0_0) := (blk_cell BK325.out 0).trans rfl; have hcz5_1 : w4.cell? ⟨gb325, 1, none⟩ = some (.int .i64 a0_1) := (blk_cell BK325.out 1).trans rfl; have hcz5_2 : w4.cell? ⟨gb325, 2, none⟩ = some (.int .i64 a0_2) := (blk_cell BK325.out 2).trans rfl; have hcz5_3 : w4.cell? ⟨gb325, 3, none⟩ = some (.int .i64 a0_3) := (blk_cell BK325.out 3).trans rfl; have hcz5_4 : w4.cell? ⟨gb325, 4, none⟩ = some (.int .i64 a0_4) := (blk_cell BK325.out 4).trans rfl; have hcz5_5 : w4.cell? ⟨gb325, 5, none⟩ = some (.int .i64 a0_5) := (blk_cell BK325.out 5).trans rfl; have hcz5_6 : w4.cell? ⟨gb325, 6, none⟩ = some (.int .i64 a0_6) := (blk_cell BK325.out 6).trans rfl; have hfz5_0 := blk_frozen BK325.out 0; have hfz5_1 := blk_frozen BK325.out 1; have hfz5_2 := blk_frozen BK325.out 2; have hfz5_3 := blk_frozen BK325.out 3; have hfz5_4 := blk_frozen BK325.out 4; have hfz5_5 := blk_frozen BK325.out 5; have hfz5_6 := blk_frozen BK325.out 6))
 (try simp only [Act.put, List.setIfInBounds_toArray, List.set_cons_zero, List.set_cons_succ])
 go_cut [50] (fun v50 wc => ∃ (kq : Nat) (x50_2 : Bool), v50 = .bool x50_2 ∧ Aside0 (linotyperef27_one.j0 kq a1 (a0_0 == 2) x50_2 a0_0 a0_1 a0_2 a0_3 a0_4 a0_5 a0_6 = some r) ∧ Aside0 (kq ≤ k) ∧ Aside0 (wc.heap[gb325]? = some (.cells #[.int .i64 a0_0, .int .i64 a0_1, .int .i64 a0_2, .int .i64 a0_3, .int .i64 a0_4, .int .i64 a0_5, .int .i64 a0_6] 52 (0, 0))) ∧ Aside0 (Below w.heap.size w wc))
 case first =>
  have H := HC3.out
  clear HC3
  by_cases c6 : a0_0 = 1
  ·rw [if_pos c6] at H
   have c6b0 : (a0_0 == 1) = true := beq_iff_eq.mpr c6
   have c6b1 : (a0_0 != 1) = false := bne_eq_false_iff_eq.mpr c6
   clear c6
   (first | rw [c6b0] | (simp only [i64_w, i32_w]; rw [c6b0]) | skip)
   by_cases c7 : a0_0 = 3
   ·rw [if_pos c7] at H
    have c7b0 : (a0_0 == 3) = true := beq_iff_eq.mpr c7
    have c7b1 : (a0_0 != 3) = false := bne_eq_false_iff_eq.mpr c7
    clear c7
    by_cases c8 : a0_0 = 2
    ·rw [if_pos c8] at H
     have c8b0 : (a0_0 == 2) = true := beq_iff_eq.mpr c8
     have c8b1 : (a0_0 != 2) = false := bne_eq_false_iff_eq.mpr c8
     clear c8
     have H' := Aside0.mk H
     clear H
     have hcz9_0 : w4.cell? ⟨gb325, 0, none⟩ = some (.int .i64 a0_0) := (blk_cell BK325.out 0).trans rfl
     have hcz9_1 : w4.cell? ⟨gb325, 1, none⟩ = some (.int .i64 a0_1) := (blk_cell BK325.out 1).trans rfl
     have hcz9_2 : w4.cell? ⟨gb325, 2, none⟩ = some (.int .i64 a0_2) := (blk_cell BK325.out 2).trans rfl
     have hcz9_3 : w4.cell? ⟨gb325, 3, none⟩ = some (.int .i64 a0_3) := (blk_cell BK325.out 3).trans rfl
     have hcz9_4 : w4.cell? ⟨gb325, 4, none⟩ = some (.int .i64 a0_4) := (blk_cell BK325.out 4).trans rfl
     have hcz9_5 : w4.cell? ⟨gb325, 5, none⟩ = some (.int .i64 a0_5) := (blk_cell BK325.out 5).trans rfl
     have hcz9_6 : w4.cell? ⟨gb325, 6, none⟩ = some (.int .i64 a0_6) := (blk_cell BK325.out 6).trans rfl
     have hfz9_0 := blk_frozen BK325.out 0
     have hfz9_1 := blk_frozen BK325.out 1
     have hfz9_2 := blk_frozen BK325.out 2
     have hfz9_3 := blk_frozen BK325.out 3
     have hfz9_4 := blk_frozen BK325.out 4
     have hfz9_5 := blk_frozen BK325.out 5
     have hfz9_6 := blk_frozen BK325.out 6
     go_wp2
     go_meet
     case rel => exact ⟨_, (false), (by first | rfl | (simp; done) | (simp [*]; done)), H', ⟨by first | omega | exact Nat.le_refl _⟩, ⟨by (with_reducible repeat (first | refine blk_drewN ?_ _ | refine blk_drew ?_ | refine blk_alloc ?_ _)); exact BK325.out⟩, ⟨by repeat (first | (with_reducible first | exact HB.out | apply below_alloc | apply pw_below_drewN | apply below_drew1 | refine below_set ?_ GE325.out) | exact HB.out)⟩⟩
    ·rw [if_neg c8] at H
     have c8b0 : (a0_0 == 2) = false := beq_eq_false_iff_ne.mpr c8
     have c8b1 : (a0_0 != 2) = true := bne_iff_ne.mpr c8
     by_cases c10 : a0_2 = 0
     ·rw [if_pos c10] at H
      have c10b0 : (a0_2 == 0) = true := beq_iff_eq.mpr c10
      have c10b1 : (a0_2 != 0) = false := bne_eq_false_iff_eq.mpr c10
      clear c10
      by_cases c11 : a0_3 = 0
      ·rw [if_pos c11] at H
       have c11b0 : (a0_3 == 0) = true := beq_iff_eq.mpr c11
       have c11b1 : (a0_3 != 0) = false := bne_eq_false_iff_eq.mpr c11
       clear c11
       by_cases c12 : a0_4 = 0
       ·rw [if_pos c12] at H
        have c12b0 : (a0_4 == 0) = true := beq_iff_eq.mpr c12
        have c12b1 : (a0_4 != 0) = false := bne_eq_false_iff_eq.mpr c12
        clear c12
        have H' := Aside0.mk H
        clear H
        have hcz13_0 : w4.cell? ⟨gb325, 0, none⟩ = some (.int .i64 a0_0) := (blk_cell BK325.out 0).trans rfl
        have hcz13_1 : w4.cell? ⟨gb325, 1, none⟩ = some (.int .i64 a0_1) := (blk_cell BK325.out 1).trans rfl
        have hcz13_2 : w4.cell? ⟨gb325, 2, none⟩ = some (.int .i64 a0_2) := (blk_cell BK325.out 2).trans rfl
        have hcz13_3 : w4.cell? ⟨gb325, 3, none⟩ = some (.int .i64 a0_3) := (blk_cell BK325.out 3).trans rfl
        have hcz13_4 : w4.cell? ⟨gb325, 4, none⟩ = some (.int .i64 a0_4) := (blk_cell BK325.out 4).trans rfl
        have hcz13_5 : w4.cell? ⟨gb325, 5, none⟩ = some (.int .i64 a0_5) := (blk_cell BK325.out 5).trans rfl
        have hcz13_6 : w4.cell? ⟨gb325, 6, none⟩ = some (.int .i64 a0_6) := (blk_cell BK325.out 6).trans rfl
        have hfz13_0 := blk_frozen BK325.out 0
        have hfz13_1 := blk_frozen BK325.out 1
        have hfz13_2 := blk_frozen BK325.out 2
        have hfz13_3 := blk_frozen BK325.out 3
        have hfz13_4 := blk_frozen BK325.out 4
        have hfz13_5 := blk_frozen BK325.out 5
        have hfz13_6 := blk_frozen BK325.out 6
        go_wp2
        go_meet
        case rel => exact ⟨_, ((a0_5 != 0)), (by first | rfl | (simp; done) | (simp [*]; done)), H', ⟨by first | omega | exact Nat.le_refl _⟩, ⟨by (with_reducible repeat (first | refine blk_drewN ?_ _ | refine blk_drew ?_ | refine blk_alloc ?_ _)); exact BK325.out⟩, ⟨by repeat (first | (with_reducible first | exact HB.out | apply below_alloc | apply pw_below_drewN | apply below_drew1 | refine below_set ?_ GE325.out) | exact HB.out)⟩⟩
       ·rw [if_neg c12] at H
        have c12b0 : (a0_4 == 0) = false := beq_eq_false_iff_ne.mpr c12
        have c12b1 : (a0_4 != 0) = true := bne_iff_ne.mpr c12
        have H' := Aside0.mk H
        clear H
        have hcz14_0 : w4.cell? ⟨gb325, 0, none⟩ = some (.int .i64 a0_0) := (blk_cell BK325.out 0).trans rfl
        have hcz14_1 : w4.cell? ⟨gb325, 1, none⟩ = some (.int .i64 a0_1) := (blk_cell BK325.out 1).trans rfl
        have hcz14_2 : w4.cell? ⟨gb325, 2, none⟩ = some (.int .i64 a0_2) := (blk_cell BK325.out 2).trans rfl
        have hcz14_3 : w4.cell? ⟨gb325, 3, none⟩ = some (.int .i64 a0_3) := (blk_cell BK325.out 3).trans rfl
        have hcz14_4 : w4.cell? ⟨gb325, 4, none⟩ = some (.int .i64 a0_4) := (blk_cell BK325.out 4).trans rfl
        have hcz14_5 : w4.cell? ⟨gb325, 5, none⟩ = some (.int .i64 a0_5) := (blk_cell BK325.out 5).trans rfl
        have hcz14_6 : w4.cell? ⟨gb325, 6, none⟩ = some (.int .i64 a0_6) := (blk_cell BK325.out 6).trans rfl
        have hfz14_0 := blk_frozen BK325.out 0
        have hfz14_1 := blk_frozen BK325.out 1
        have hfz14_2 := blk_frozen BK325.out 2
        have hfz14_3 := blk_frozen BK325.out 3
        have hfz14_4 := blk_frozen BK325.out 4
        have hfz14_5 := blk_frozen BK325.out 5
        have hfz14_6 := blk_frozen BK325.out 6
        go_wp2
        go_meet
        case rel => exact ⟨_, (true), (by first | rfl | (simp; done) | (simp [*]; done)), H', ⟨by first | omega | exact Nat.le_refl _⟩, ⟨by (with_reducible repeat (first | refine blk_drewN ?_ _ | refine blk_drew ?_ | refine blk_alloc ?_ _)); exact BK325.out⟩, ⟨by repeat (first | (with_reducible first | exact HB.out | apply below_alloc | apply pw_below_drewN | apply below_drew1 | refine below_set ?_ GE325.out) | exact HB.out)⟩⟩
      ·rw [if_neg c11] at H
       have c11b0 : (a0_3 == 0) = false := beq_eq_false_iff_ne.mpr c11
       have c11b1 : (a0_3 != 0) = true := bne_iff_ne.mpr c11
       have H' := Aside0.mk H
       clear H
       have hcz15_0 : w4.cell? ⟨gb325, 0, none⟩ = some (.int .i64 a0_0) := (blk_cell BK325.out 0).trans rfl
       have hcz15_1 : w4.cell? ⟨gb325, 1, none⟩ = some (.int .i64 a0_1) := (blk_cell BK325.out 1).trans rfl
       have hcz15_2 : w4.cell? ⟨gb325, 2, none⟩ = some (.int .i64 a0_2) := (blk_cell BK325.out 2).trans rfl
       have hcz15_3 : w4.cell? ⟨gb325, 3, none⟩ = some (.int .i64 a0_3) := (blk_cell BK325.out 3).trans rfl
       have hcz15_4 : w4.cell? ⟨gb325, 4, none⟩ = some (.int .i64 a0_4) := (blk_cell BK325.out 4).trans rfl
       have hcz15_5 : w4.cell? ⟨gb325, 5, none⟩ = some (.int .i64 a0_5) := (blk_cell BK325.out 5).trans rfl
       have hcz15_6 : w4.cell? ⟨gb325, 6, none⟩ = some (.int .i64 a0_6) := (blk_cell BK325.out 6).trans rfl
       have hfz15_0 := blk_frozen BK325.out 0
       have hfz15_1 := blk_frozen BK325.out 1
       have hfz15_2 := blk_frozen BK325.out 2
       have hfz15_3 := blk_frozen BK325.out 3
       have hfz15_4 := blk_frozen BK325.out 4
       have hfz15_5 := blk_frozen BK325.out 5
       have hfz15_6 := blk_frozen BK325.out 6
       go_wp2
       go_meet
       case rel => exact ⟨_, (true), (by first | rfl | (simp; done) | (simp [*]; done)), H', ⟨by first | omega | exact Nat.le_refl _⟩, ⟨by (with_reducible repeat (first | refine blk_drewN ?_ _ | refine blk_drew ?_ | refine blk_alloc ?_ _)); exact BK325.out⟩, ⟨by repeat (first | (with_reducible first | exact HB.out | apply below_alloc | apply pw_below_drewN | apply below_drew1 | refine below_set ?_ GE325.out) | exact HB.out)⟩⟩
     ·rw [if_neg c10] at H
      have c10b0 : (a0_2 == 0) = false := beq_eq_false_iff_ne.mpr c10
      have c10b1 : (a0_2 != 0) = true := bne_iff_ne.mpr c10
      have H' := Aside0.mk H
      clear H
      have hcz16_0 : w4.cell? ⟨gb325, 0, none⟩ = some (.int .i64 a0_0) := (blk_cell BK325.out 0).trans rfl
      have hcz16_1 : w4.cell? ⟨gb325, 1, none⟩ = some (.int .i64 a0_1) := (blk_cell BK325.out 1).trans rfl
      have hcz16_2 : w4.cell? ⟨gb325, 2, none⟩ = some (.int .i64 a0_2) := (blk_cell BK325.out 2).trans rfl
      have hcz16_3 : w4.cell? ⟨gb325, 3, none⟩ = some (.int .i64 a0_3) := (blk_cell BK325.out 3).trans rfl
      have hcz16_4 : w4.cell? ⟨gb325, 4, none⟩ = some (.int .i64 a0_4) := (blk_cell BK325.out 4).trans rfl
      have hcz16_5 : w4.cell? ⟨gb325, 5, none⟩ = some (.int .i64 a0_5) := (blk_cell BK325.out 5).trans rfl
      have hcz16_6 : w4.cell? ⟨gb325, 6, none⟩ = some (.int .i64 a0_6) := (blk_cell BK325.out 6).trans rfl
      have hfz16_0 := blk_frozen BK325.out 0
      have hfz16_1 := blk_frozen BK325.out 1
      have hfz16_2 := blk_frozen BK325.out 2
      have hfz16_3 := blk_frozen BK325.out 3
      have hfz16_4 := blk_frozen BK325.out 4
      have hfz16_5 := blk_frozen BK325.out 5
      have hfz16_6 := blk_frozen BK325.out 6
      go_wp2
      go_meet
      case rel => exact ⟨_, (true), (by first | rfl | (simp; done) | (simp [*]; done)), H', ⟨by first | omega | exact Nat.le_refl _⟩, ⟨by (with_reducible repeat (first | refine blk_drewN ?_ _ | refine blk_drew ?_ | refine blk_alloc ?_ _)); exact BK325.out⟩, ⟨by repeat (first | (with_reducible first | exact HB.out | apply below_alloc | apply pw_below_drewN | apply below_drew1 | refine below_set ?_ GE325.out) | exact HB.out)⟩⟩
   ·rw [if_neg c7] at H
    have c7b0 : (a0_0 == 3) = false := beq_eq_false_iff_ne.mpr c7
    have c7b1 : (a0_0 != 3) = true := bne_iff_ne.mpr c7
    by_cases c17 : a0_6 = 0
    ·rw [if_pos c17] at H
     have c17b0 : (a0_6 == 0) = true := beq_iff_eq.mpr c17
     have c17b1 : (a0_6 != 0) = false := bne_eq_false_iff_eq.mpr c17
     clear c17
     by_cases c18 : a0_0 = 2
     ·rw [if_pos c18] at H
      have c18b0 : (a0_0 == 2) = true := beq_iff_eq.mpr c18
      have c18b1 : (a0_0 != 2) = false := bne_eq_false_iff_eq.mpr c18
      clear c18
      have H' := Aside0.mk H
      clear H
      have hcz19_0 : w4.cell? ⟨gb325, 0, none⟩ = some (.int .i64 a0_0) := (blk_cell BK325.out 0).trans rfl
      have hcz19_1 : w4.cell? ⟨gb325, 1, none⟩ = some (.int .i64 a0_1) := (blk_cell BK325.out 1).trans rfl
      have hcz19_2 : w4.cell? ⟨gb325, 2, none⟩ = some (.int .i64 a0_2) := (blk_cell BK325.out 2).trans rfl
      have hcz19_3 : w4.cell? ⟨gb325, 3, none⟩ = some (.int .i64 a0_3) := (blk_cell BK325.out 3).trans rfl
      have hcz19_4 : w4.cell? ⟨gb325, 4, none⟩ = some (.int .i64 a0_4) := (blk_cell BK325.out 4).trans rfl
      have hcz19_5 : w4.cell? ⟨gb325, 5, none⟩ = some (.int .i64 a0_5) := (blk_cell BK325.out 5).trans rfl
      have hcz19_6 : w4.cell? ⟨gb325, 6, none⟩ = some (.int .i64 a0_6) := (blk_cell BK325.out 6).trans rfl
      have hfz19_0 := blk_frozen BK325.out 0
      have hfz19_1 := blk_frozen BK325.out 1
      have hfz19_2 := blk_frozen BK325.out 2
      have hfz19_3 := blk_frozen BK325.out 3
      have hfz19_4 := blk_frozen BK325.out 4
      have hfz19_5 := blk_frozen BK325.out 5
      have hfz19_6 := blk_frozen BK325.out 6
      go_wp2
      go_meet
      case rel => exact ⟨_, (false), (by first | rfl | (simp; done) | (simp [*]; done)), H', ⟨by first | omega | exact Nat.le_refl _⟩, ⟨by (with_reducible repeat (first | refine blk_drewN ?_ _ | refine blk_drew ?_ | refine blk_alloc ?_ _)); exact BK325.out⟩, ⟨by repeat (first | (with_reducible first | exact HB.out | apply below_alloc | apply pw_below_drewN | apply below_drew1 | refine below_set ?_ GE325.out) | exact HB.out)⟩⟩
     ·rw [if_neg c18] at H
      have c18b0 : (a0_0 == 2) = false := beq_eq_false_iff_ne.mpr c18
      have c18b1 : (a0_0 != 2) = true := bne_iff_ne.mpr c18
      by_cases c20 : a0_2 = 0
      ·rw [if_pos c20] at H
       have c20b0 : (a0_2 == 0) = true := beq_iff_eq.mpr c20
       have c20b1 : (a0_2 != 0) = false := bne_eq_false_iff_eq.mpr c20
       clear c20
       by_cases c21 : a0_3 = 0
       ·rw [if_pos c21] at H
        have c21b0 : (a0_3 == 0) = true := beq_iff_eq.mpr c21
        have c21b1 : (a0_3 != 0) = false := bne_eq_false_iff_eq.mpr c21
        clear c21
        by_cases c22 : a0_4 = 0
        ·rw [if_pos c22] at H
         have c22b0 : (a0_4 == 0) = true := beq_iff_eq.mpr c22
         have c22b1 : (a0_4 != 0) = false := bne_eq_false_iff_eq.mpr c22
         clear c22
         have H' := Aside0.mk H
         clear H
         have hcz23_0 : w4.cell? ⟨gb325, 0, none⟩ = some (.int .i64 a0_0) := (blk_cell BK325.out 0).trans rfl
         have hcz23_1 : w4.cell? ⟨gb325, 1, none⟩ = some (.int .i64 a0_1) := (blk_cell BK325.out 1).trans rfl
         have hcz23_2 : w4.cell? ⟨gb325, 2, none⟩ = some (.int .i64 a0_2) := (blk_cell BK325.out 2).trans rfl
         have hcz23_3 : w4.cell? ⟨gb325, 3, none⟩ = some (.int .i64 a0_3) := (blk_cell BK325.out 3).trans rfl
         have hcz23_4 : w4.cell? ⟨gb325, 4, none⟩ = some (.int .i64 a0_4) := (blk_cell BK325.out 4).trans rfl
         have hcz23_5 : w4.cell? ⟨gb325, 5, none⟩ = some (.int .i64 a0_5) := (blk_cell BK325.out 5).trans rfl
         have hcz23_6 : w4.cell? ⟨gb325, 6, none⟩ = some (.int .i64 a0_6) := (blk_cell BK325.out 6).trans rfl
         have hfz23_0 := blk_frozen BK325.out 0
         have hfz23_1 := blk_frozen BK325.out 1
         have hfz23_2 := blk_frozen BK325.out 2
         have hfz23_3 := blk_frozen BK325.out 3
         have hfz23_4 := blk_frozen BK325.out 4
         have hfz23_5 := blk_frozen BK325.out 5
         have hfz23_6 := blk_frozen BK325.out 6
         go_wp2
         go_meet
         case rel => exact ⟨_, ((a0_5 != 0)), (by first | rfl | (simp; done) | (simp [*]; done)), H', ⟨by first | omega | exact Nat.le_refl _⟩, ⟨by (with_reducible repeat (first | refine blk_drewN ?_ _ | refine blk_drew ?_ | refine blk_alloc ?_ _)); exact BK325.out⟩, ⟨by repeat (first | (with_reducible first | exact HB.out | apply below_alloc | apply pw_below_drewN | apply below_drew1 | refine below_set ?_ GE325.out) | exact HB.out)⟩⟩
        ·rw [if_neg c22] at H
         have c22b0 : (a0_4 == 0) = false := beq_eq_false_iff_ne.mpr c22
         have c22b1 : (a0_4 != 0) = true := bne_iff_ne.mpr c22
         have H' := Aside0.mk H
         clear H
         have hcz24_0 : w4.cell? ⟨gb325, 0, none⟩ = some (.int .i64 a0_0) := (blk_cell BK325.out 0).trans rfl
         have hcz24_1 : w4.cell? ⟨gb325, 1, none⟩ = some (.int .i64 a0_1) := (blk_cell BK325.out 1).trans rfl
         have hcz24_2 : w4.cell? ⟨gb325, 2, none⟩ = some (.int .i64 a0_2) := (blk_cell BK325.out 2).trans rfl
         have hcz24_3 : w4.cell? ⟨gb325, 3, none⟩ = some (.int .i64 a0_3) := (blk_cell BK325.out 3).trans rfl
         have hcz24_4 : w4.cell? ⟨gb325, 4, none⟩ = some (.int .i64 a0_4) := (blk_cell BK325.out 4).trans rfl
         have hcz24_5 : w4.cell? ⟨gb325, 5, none⟩ = some (.int .i64 a0_5) := (blk_cell BK325.out 5).trans rfl
         have hcz24_6 : w4.cell? ⟨gb325, 6, none⟩ = some (.int .i64 a0_6) := (blk_cell BK325.out 6).trans rfl
         have hfz24_0 := blk_frozen BK325.out 0
         have hfz24_1 := blk_frozen BK325.out 1
         have hfz24_2 := blk_frozen BK325.out 2
         have hfz24_3 := blk_frozen BK325.out 3
         have hfz24_4 := blk_frozen BK325.out 4
         have hfz24_5 := blk_frozen BK325.out 5
         have hfz24_6 := blk_frozen BK325.out 6
         go_wp2
         go_meet
         case rel => exact ⟨_, (true), (by first | rfl | (simp; done) | (simp [*]; done)), H', ⟨by first | omega | exact Nat.le_refl _⟩, ⟨by (with_reducible repeat (first | refine blk_drewN ?_ _ | refine blk_drew ?_ | refine blk_alloc ?_ _)); exact BK325.out⟩, ⟨by repeat (first | (with_reducible first | exact HB.out | apply below_alloc | apply pw_below_drewN | apply below_drew1 | refine below_set ?_ GE325.out) | exact HB.out)⟩⟩
       ·rw [if_neg c21] at H
        have c21b0 : (a0_3 == 0) = false := beq_eq_false_iff_ne.mpr c21
        have c21b1 : (a0_3 != 0) = true := bne_iff_ne.mpr c21
        have H' := Aside0.mk H
        clear H
        have hcz25_0 : w4.cell? ⟨gb325, 0, none⟩ = some (.int .i64 a0_0) := (blk_cell BK325.out 0).trans rfl
        have hcz25_1 : w4.cell? ⟨gb325, 1, none⟩ = some (.int .i64 a0_1) := (blk_cell BK325.out 1).trans rfl
        have hcz25_2 : w4.cell? ⟨gb325, 2, none⟩ = some (.int .i64 a0_2) := (blk_cell BK325.out 2).trans rfl
        have hcz25_3 : w4.cell? ⟨gb325, 3, none⟩ = some (.int .i64 a0_3) := (blk_cell BK325.out 3).trans rfl
        have hcz25_4 : w4.cell? ⟨gb325, 4, none⟩ = some (.int .i64 a0_4) := (blk_cell BK325.out 4).trans rfl
        have hcz25_5 : w4.cell? ⟨gb325, 5, none⟩ = some (.int .i64 a0_5) := (blk_cell BK325.out 5).trans rfl
        have hcz25_6 : w4.cell? ⟨gb325, 6, none⟩ = some (.int .i64 a0_6) := (blk_cell BK325.out 6).trans rfl
        have hfz25_0 := blk_frozen BK325.out 0
        have hfz25_1 := blk_frozen BK325.out 1
        have hfz25_2 := blk_frozen BK325.out 2
        have hfz25_3 := blk_frozen BK325.out 3
        have hfz25_4 := blk_frozen BK325.out 4
        have hfz25_5 := blk_frozen BK325.out 5
        have hfz25_6 := blk_frozen BK325.out 6
        go_wp2
        go_meet
        case rel => exact ⟨_, (true), (by first | rfl | (simp; done) | (simp [*]; done)), H', ⟨by first | omega | exact Nat.le_refl _⟩, ⟨by (with_reducible repeat (first | refine blk_drewN ?_ _ | refine blk_drew ?_ | refine blk_alloc ?_ _)); exact BK325.out⟩, ⟨by repeat (first | (with_reducible first | exact HB.out | apply below_alloc | apply pw_below_drewN | apply below_drew1 | refine below_set ?_ GE325.out) | exact HB.out)⟩⟩
      ·rw [if_neg c20] at H
       have c20b0 : (a0_2 == 0) = false := beq_eq_false_iff_ne.mpr c20
       have c20b1 : (a0_2 != 0) = true := bne_iff_ne.mpr c20
       have H' := Aside0.mk H
       clear H
       have hcz26_0 : w4.cell? ⟨gb325, 0, none⟩ = some (.int .i64 a0_0) := (blk_cell BK325.out 0).trans rfl
       have hcz26_1 : w4.cell? ⟨gb325, 1, none⟩ = some (.int .i64 a0_1) := (blk_cell BK325.out 1).trans rfl
       have hcz26_2 : w4.cell? ⟨gb325, 2, none⟩ = some (.int .i64 a0_2) := (blk_cell BK325.out 2).trans rfl
       have hcz26_3 : w4.cell? ⟨gb325, 3, none⟩ = some (.int .i64 a0_3) := (blk_cell BK325.out 3).trans rfl
       have hcz26_4 : w4.cell? ⟨gb325, 4, none⟩ = some (.int .i64 a0_4) := (blk_cell BK325.out 4).trans rfl
       have hcz26_5 : w4.cell? ⟨gb325, 5, none⟩ = some (.int .i64 a0_5) := (blk_cell BK325.out 5).trans rfl
       have hcz26_6 : w4.cell? ⟨gb325, 6, none⟩ = some (.int .i64 a0_6) := (blk_cell BK325.out 6).trans rfl
       have hfz26_0 := blk_frozen BK325.out 0
       have hfz26_1 := blk_frozen BK325.out 1
       have hfz26_2 := blk_frozen BK325.out 2
       have hfz26_3 := blk_frozen BK325.out 3
       have hfz26_4 := blk_frozen BK325.out 4
       have hfz26_5 := blk_frozen BK325.out 5
       have hfz26_6 := blk_frozen BK325.out 6
       go_wp2
       go_meet
       case rel => exact ⟨_, (true), (by first | rfl | (simp; done) | (simp [*]; done)), H', ⟨by first | omega | exact Nat.le_refl _⟩, ⟨by (with_reducible repeat (first | refine blk_drewN ?_ _ | refine blk_drew ?_ | refine blk_alloc ?_ _)); exact BK325.out⟩, ⟨by repeat (first | (with_reducible first | exact HB.out | apply below_alloc | apply pw_below_drewN | apply below_drew1 | refine below_set ?_ GE325.out) | exact HB.out)⟩⟩
    ·rw [if_neg c17] at H
     have c17b0 : (a0_6 == 0) = false := beq_eq_false_iff_ne.mpr c17
     have c17b1 : (a0_6 != 0) = true := bne_iff_ne.mpr c17
     have H' := Aside0.mk H
     clear H
     have hcz27_0 : w4.cell? ⟨gb325, 0, none⟩ = some (.int .i64 a0_0) := (blk_cell BK325.out 0).trans rfl
     have hcz27_1 : w4.cell? ⟨gb325, 1, none⟩ = some (.int .i64 a0_1) := (blk_cell BK325.out 1).trans rfl
     have hcz27_2 : w4.cell? ⟨gb325, 2, none⟩ = some (.int .i64 a0_2) := (blk_cell BK325.out 2).trans rfl
     have hcz27_3 : w4.cell? ⟨gb325, 3, none⟩ = some (.int .i64 a0_3) := (blk_cell BK325.out 3).trans rfl
     have hcz27_4 : w4.cell? ⟨gb325, 4, none⟩ = some (.int .i64 a0_4) := (blk_cell BK325.out 4).trans rfl
     have hcz27_5 : w4.cell? ⟨gb325, 5, none⟩ = some (.int .i64 a0_5) := (blk_cell BK325.out 5).trans rfl
     have hcz27_6 : w4.cell? ⟨gb325, 6, none⟩ = some (.int .i64 a0_6) := (blk_cell BK325.out 6).trans rfl
     have hfz27_0 := blk_frozen BK325.out 0
     have hfz27_1 := blk_frozen BK325.out 1
     have hfz27_2 := blk_frozen BK325.out 2
     have hfz27_3 := blk_frozen BK325.out 3
     have hfz27_4 := blk_frozen BK325.out 4
     have hfz27_5 := blk_frozen BK325.out 5
     have hfz27_6 := blk_frozen BK325.out 6
     go_wp2
     go_meet
     case rel => exact ⟨_, (true), (by first | rfl | (simp; done) | (simp [*]; done)), H', ⟨by first | omega | exact Nat.le_refl _⟩, ⟨by (with_reducible repeat (first | refine blk_drewN ?_ _ | refine blk_drew ?_ | refine blk_alloc ?_ _)); exact BK325.out⟩, ⟨by repeat (first | (with_reducible first | exact HB.out | apply below_alloc | apply pw_below_drewN | apply below_drew1 | refine below_set ?_ GE325.out) | exact HB.out)⟩⟩
  ·rw [if_neg c6] at H
   have c6b0 : (a0_0 == 1) = false := beq_eq_false_iff_ne.mpr c6
   have c6b1 : (a0_0 != 1) = true := bne_iff_ne.mpr c6
   (first | rw [c6b0] | (simp only [i64_w, i32_w]; rw [c6b0]) | skip)
   by_cases c28 : a0_1 = 0
   ·rw [if_pos c28] at H
    have c28b0 : (a0_1 == 0) = true := beq_iff_eq.mpr c28
    have c28b1 : (a0_1 != 0) = false := bne_eq_false_iff_eq.mpr c28
    clear c28
    by_cases c29 : a0_0 = 3
    ·rw [if_pos c29] at H
     have c29b0 : (a0_0 == 3) = true := beq_iff_eq.mpr c29
     have c29b1 : (a0_0 != 3) = false := bne_eq_false_iff_eq.mpr c29
     clear c29
     by_cases c30 : a0_0 = 2
     ·rw [if_pos c30] at H
      have c30b0 : (a0_0 == 2) = true := beq_iff_eq.mpr c30
      have c30b1 : (a0_0 != 2) = false := bne_eq_false_iff_eq.mpr c30
      clear c30
      have H' := Aside0.mk H
      clear H
      have hcz31_0 : w4.cell? ⟨gb325, 0, none⟩ = some (.int .i64 a0_0) := (blk_cell BK325.out 0).trans rfl
      have hcz31_1 : w4.cell? ⟨gb325, 1, none⟩ = some (.int .i64 a0_1) := (blk_cell BK325.out 1).trans rfl
      have hcz31_2 : w4.cell? ⟨gb325, 2, none⟩ = some (.int .i64 a0_2) := (blk_cell BK325.out 2).trans rfl
      have hcz31_3 : w4.cell? ⟨gb325, 3, none⟩ = some (.int .i64 a0_3) := (blk_cell BK325.out 3).trans rfl
      have hcz31_4 : w4.cell? ⟨gb325, 4, none⟩ = some (.int .i64 a0_4) := (blk_cell BK325.out 4).trans rfl
      have hcz31_5 : w4.cell? ⟨gb325, 5, none⟩ = some (.int .i64 a0_5) := (blk_cell BK325.out 5).trans rfl
      have hcz31_6 : w4.cell? ⟨gb325, 6, none⟩ = some (.int .i64 a0_6) := (blk_cell BK325.out 6).trans rfl
      have hfz31_0 := blk_frozen BK325.out 0
      have hfz31_1 := blk_frozen BK325.out 1
      have hfz31_2 := blk_frozen BK325.out 2
      have hfz31_3 := blk_frozen BK325.out 3
      have hfz31_4 := blk_frozen BK325.out 4
      have hfz31_5 := blk_frozen BK325.out 5
      have hfz31_6 := blk_frozen BK325.out 6
      go_wp2
      go_meet
      case rel => exact ⟨_, (false), (by first | rfl | (simp; done) | (simp [*]; done)), H', ⟨by first | omega | exact Nat.le_refl _⟩, ⟨by (with_reducible repeat (first | refine blk_drewN ?_ _ | refine blk_drew ?_ | refine blk_alloc ?_ _)); exact BK325.out⟩, ⟨by repeat (first | (with_reducible first | exact HB.out | apply below_alloc | apply pw_below_drewN | apply below_drew1 | refine below_set ?_ GE325.out) | exact HB.out)⟩⟩
     ·rw [if_neg c30] at H
      have c30b0 : (a0_0 == 2) = false := beq_eq_false_iff_ne.mpr c30
      have c30b1 : (a0_0 != 2) = true := bne_iff_ne.mpr c30
      by_cases c32 : a0_2 = 0
      ·rw [if_pos c32] at H
       have c32b0 : (a0_2 == 0) = true := beq_iff_eq.mpr c32
       have c32b1 : (a0_2 != 0) = false := bne_eq_false_iff_eq.mpr c32
       clear c32
       by_cases c33 : a0_3 = 0
       ·rw [if_pos c33] at H
        have c33b0 : (a0_3 == 0) = true := beq_iff_eq.mpr c33
        have c33b1 : (a0_3 != 0) = false := bne_eq_false_iff_eq.mpr c33
        clear c33
        by_cases c34 : a0_4 = 0
        ·rw [if_pos c34] at H
         have c34b0 : (a0_4 == 0) = true := beq_iff_eq.mpr c34
         have c34b1 : (a0_4 != 0) = false := bne_eq_false_iff_eq.mpr c34
         clear c34
         have H' := Aside0.mk H
         clear H
         have hcz35_0 : w4.cell? ⟨gb325, 0, none⟩ = some (.int .i64 a0_0) := (blk_cell BK325.out 0).trans rfl
         have hcz35_1 : w4.cell? ⟨gb325, 1, none⟩ = some (.int .i64 a0_1) := (blk_cell BK325.out 1).trans rfl
         have hcz35_2 : w4.cell? ⟨gb325, 2, none⟩ = some (.int .i64 a0_2) := (blk_cell BK325.out 2).trans rfl
         have hcz35_3 : w4.cell? ⟨gb325, 3, none⟩ = some (.int .i64 a0_3) := (blk_cell BK325.out 3).trans rfl
         have hcz35_4 : w4.cell? ⟨gb325, 4, none⟩ = some (.int .i64 a0_4) := (blk_cell BK325.out 4).trans rfl
         have hcz35_5 : w4.cell? ⟨gb325, 5, none⟩ = some (.int .i64 a0_5) := (blk_cell BK325.out 5).trans rfl
         have hcz35_6 : w4.cell? ⟨gb325, 6, none⟩ = some (.int .i64 a0_6) := (blk_cell BK325.out 6).trans rfl
         have hfz35_0 := blk_frozen BK325.out 0
         have hfz35_1 := blk_frozen BK325.out 1
         have hfz35_2 := blk_frozen BK325.out 2
         have hfz35_3 := blk_frozen BK325.out 3
         have hfz35_4 := blk_frozen BK325.out 4
         have hfz35_5 := blk_frozen BK325.out 5
         have hfz35_6 := blk_frozen BK325.out 6
         go_wp2
         go_meet
         case rel => exact ⟨_, ((a0_5 != 0)), (by first | rfl | (simp; done) | (simp [*]; done)), H', ⟨by first | omega | exact Nat.le_refl _⟩, ⟨by (with_reducible repeat (first | refine blk_drewN ?_ _ | refine blk_drew ?_ | refine blk_alloc ?_ _)); exact BK325.out⟩, ⟨by repeat (first | (with_reducible first | exact HB.out | apply below_alloc | apply pw_below_drewN | apply below_drew1 | refine below_set ?_ GE325.out) | exact HB.out)⟩⟩
        ·rw [if_neg c34] at H
         have c34b0 : (a0_4 == 0) = false := beq_eq_false_iff_ne.mpr c34
         have c34b1 : (a0_4 != 0) = true := bne_iff_ne.mpr c34
         have H' := Aside0.mk H
         clear H
         have hcz36_0 : w4.cell? ⟨gb325, 0, none⟩ = some (.int .i64 a0_0) := (blk_cell BK325.out 0).trans rfl
         have hcz36_1 : w4.cell? ⟨gb325, 1, none⟩ = some (.int .i64 a0_1) := (blk_cell BK325.out 1).trans rfl
         have hcz36_2 : w4.cell? ⟨gb325, 2, none⟩ = some (.int .i64 a0_2) := (blk_cell BK325.out 2).trans rfl
         have hcz36_3 : w4.cell? ⟨gb325, 3, none⟩ = some (.int .i64 a0_3) := (blk_cell BK325.out 3).trans rfl
         have hcz36_4 : w4.cell? ⟨gb325, 4, none⟩ = some (.int .i64 a0_4) := (blk_cell BK325.out 4).trans rfl
         have hcz36_5 : w4.cell? ⟨gb325, 5, none⟩ = some (.int .i64 a0_5) := (blk_cell BK325.out 5).trans rfl
         have hcz36_6 : w4.cell? ⟨gb325, 6, none⟩ = some (.int .i64 a0_6) := (blk_cell BK325.out 6).trans rfl
         have hfz36_0 := blk_frozen BK325.out 0
         have hfz36_1 := blk_frozen BK325.out 1
         have hfz36_2 := blk_frozen BK325.out 2
         have hfz36_3 := blk_frozen BK325.out 3
         have hfz36_4 := blk_frozen BK325.out 4
         have hfz36_5 := blk_frozen BK325.out 5
         have hfz36_6 := blk_frozen BK325.out 6
         go_wp2
         go_meet
         case rel => exact ⟨_, (true), (by first | rfl | (simp; done) | (simp [*]; done)), H', ⟨by first | omega | exact Nat.le_refl _⟩, ⟨by (with_reducible repeat (first | refine blk_drewN ?_ _ | refine blk_drew ?_ | refine blk_alloc ?_ _)); exact BK325.out⟩, ⟨by repeat (first | (with_reducible first | exact HB.out | apply below_alloc | apply pw_below_drewN | apply below_drew1 | refine below_set ?_ GE325.out) | exact HB.out)⟩⟩
       ·rw [if_neg c33] at H
        have c33b0 : (a0_3 == 0) = false := beq_eq_false_iff_ne.mpr c33
        have c33b1 : (a0_3 != 0) = true := bne_iff_ne.mpr c33
        have H' := Aside0.mk H
        clear H
        have hcz37_0 : w4.cell? ⟨gb325, 0, none⟩ = some (.int .i64 a0_0) := (blk_cell BK325.out 0).trans rfl
        have hcz37_1 : w4.cell? ⟨gb325, 1, none⟩ = some (.int .i64 a0_1) := (blk_cell BK325.out 1).trans rfl
        have hcz37_2 : w4.cell? ⟨gb325, 2, none⟩ = some (.int .i64 a0_2) := (blk_cell BK325.out 2).trans rfl
        have hcz37_3 : w4.cell? ⟨gb325, 3, none⟩ = some (.int .i64 a0_3) := (blk_cell BK325.out 3).trans rfl
        have hcz37_4 : w4.cell? ⟨gb325, 4, none⟩ = some (.int .i64 a0_4) := (blk_cell BK325.out 4).trans rfl
        have hcz37_5 : w4.cell? ⟨gb325, 5, none⟩ = some (.int .i64 a0_5) := (blk_cell BK325.out 5).trans rfl
        have hcz37_6 : w4.cell? ⟨gb325, 6, none⟩ = some (.int .i64 a0_6) := (blk_cell BK325.out 6).trans rfl
        have hfz37_0 := blk_frozen BK325.out 0
        have hfz37_1 := blk_frozen BK325.out 1
        have hfz37_2 := blk_frozen BK325.out 2
        have hfz37_3 := blk_frozen BK325.out 3
        have hfz37_4 := blk_frozen BK325.out 4
        have hfz37_5 := blk_frozen BK325.out 5
        have hfz37_6 := blk_frozen BK325.out 6
        go_wp2
        go_meet
        case rel => exact ⟨_, (true), (by first | rfl | (simp; done) | (simp [*]; done)), H', ⟨by first | omega | exact Nat.le_refl _⟩, ⟨by (with_reducible repeat (first | refine blk_drewN ?_ _ | refine blk_drew ?_ | refine blk_alloc ?_ _)); exact BK325.out⟩, ⟨by repeat (first | (with_reducible first | exact HB.out | apply below_alloc | apply pw_below_drewN | apply below_drew1 | refine below_set ?_ GE325.out) | exact HB.out)⟩⟩
      ·rw [if_neg c32] at H
       have c32b0 : (a0_2 == 0) = false := beq_eq_false_iff_ne.mpr c32
       have c32b1 : (a0_2 != 0) = true := bne_iff_ne.mpr c32
       have H' := Aside0.mk H
       clear H
       have hcz38_0 : w4.cell? ⟨gb325, 0, none⟩ = some (.int .i64 a0_0) := (blk_cell BK325.out 0).trans rfl
       have hcz38_1 : w4.cell? ⟨gb325, 1, none⟩ = some (.int .i64 a0_1) := (blk_cell BK325.out 1).trans rfl
       have hcz38_2 : w4.cell? ⟨gb325, 2, none⟩ = some (.int .i64 a0_2) := (blk_cell BK325.out 2).trans rfl
       have hcz38_3 : w4.cell? ⟨gb325, 3, none⟩ = some (.int .i64 a0_3) := (blk_cell BK325.out 3).trans rfl
       have hcz38_4 : w4.cell? ⟨gb325, 4, none⟩ = some (.int .i64 a0_4) := (blk_cell BK325.out 4).trans rfl
       have hcz38_5 : w4.cell? ⟨gb325, 5, none⟩ = some (.int .i64 a0_5) := (blk_cell BK325.out 5).trans rfl
       have hcz38_6 : w4.cell? ⟨gb325, 6, none⟩ = some (.int .i64 a0_6) := (blk_cell BK325.out 6).trans rfl
       have hfz38_0 := blk_frozen BK325.out 0
       have hfz38_1 := blk_frozen BK325.out 1
       have hfz38_2 := blk_frozen BK325.out 2
       have hfz38_3 := blk_frozen BK325.out 3
       have hfz38_4 := blk_frozen BK325.out 4
       have hfz38_5 := blk_frozen BK325.out 5
       have hfz38_6 := blk_frozen BK325.out 6
       go_wp2
       go_meet
       case rel => exact ⟨_, (true), (by first | rfl | (simp; done) | (simp [*]; done)), H', ⟨by first | omega | exact Nat.le_refl _⟩, ⟨by (with_reducible repeat (first | refine blk_drewN ?_ _ | refine blk_drew ?_ | refine blk_alloc ?_ _)); exact BK325.out⟩, ⟨by repeat (first | (with_reducible first | exact HB.out | apply below_alloc | apply pw_below_drewN | apply below_drew1 | refine below_set ?_ GE325.out) | exact HB.out)⟩⟩
    ·rw [if_neg c29] at H
     have c29b0 : (a0_0 == 3) = false := beq_eq_false_iff_ne.mpr c29
     have c29b1 : (a0_0 != 3) = true := bne_iff_ne.mpr c29
     by_cases c39 : a0_6 = 0
     ·rw [if_pos c39] at H
      have c39b0 : (a0_6 == 0) = true := beq_iff_eq.mpr c39
      have c39b1 : (a0_6 != 0) = false := bne_eq_false_iff_eq.mpr c39
      clear c39
      by_cases c40 : a0_0 = 2
      ·rw [if_pos c40] at H
       have c40b0 : (a0_0 == 2) = true := beq_iff_eq.mpr c40
       have c40b1 : (a0_0 != 2) = false := bne_eq_false_iff_eq.mpr c40
       clear c40
       have H' := Aside0.mk H
       clear H
       have hcz41_0 : w4.cell? ⟨gb325, 0, none⟩ = some (.int .i64 a0_0) := (blk_cell BK325.out 0).trans rfl
       have hcz41_1 : w4.cell? ⟨gb325, 1, none⟩ = some (.int .i64 a0_1) := (blk_cell BK325.out 1).trans rfl
       have hcz41_2 : w4.cell? ⟨gb325, 2, none⟩ = some (.int .i64 a0_2) := (blk_cell BK325.out 2).trans rfl
       have hcz41_3 : w4.cell? ⟨gb325, 3, none⟩ = some (.int .i64 a0_3) := (blk_cell BK325.out 3).trans rfl
       have hcz41_4 : w4.cell? ⟨gb325, 4, none⟩ = some (.int .i64 a0_4) := (blk_cell BK325.out 4).trans rfl
       have hcz41_5 : w4.cell? ⟨gb325, 5, none⟩ = some (.int .i64 a0_5) := (blk_cell BK325.out 5).trans rfl
       have hcz41_6 : w4.cell? ⟨gb325, 6, none⟩ = some (.int .i64 a0_6) := (blk_cell BK325.out 6).trans rfl
       have hfz41_0 := blk_frozen BK325.out 0
       have hfz41_1 := blk_frozen BK325.out 1
       have hfz41_2 := blk_frozen BK325.out 2
       have hfz41_3 := blk_frozen BK325.out 3
       have hfz41_4 := blk_frozen BK325.out 4
       have hfz41_5 := blk_frozen BK325.out 5
       have hfz41_6 := blk_frozen BK325.out 6
       go_wp2
       go_meet
       case rel => exact ⟨_, (false), (by first | rfl | (simp; done) | (simp [*]; done)), H', ⟨by first | omega | exact Nat.le_refl _⟩, ⟨by (with_reducible repeat (first | refine blk_drewN ?_ _ | refine blk_drew ?_ | refine blk_alloc ?_ _)); exact BK325.out⟩, ⟨by repeat (first | (with_reducible first | exact HB.out | apply below_alloc | apply pw_below_drewN | apply below_drew1 | refine below_set ?_ GE325.out) | exact HB.out)⟩⟩
      ·rw [if_neg c40] at H
       have c40b0 : (a0_0 == 2) = false := beq_eq_false_iff_ne.mpr c40
       have c40b1 : (a0_0 != 2) = true := bne_iff_ne.mpr c40
       by_cases c42 : a0_2 = 0
       ·rw [if_pos c42] at H
        have c42b0 : (a0_2 == 0) = true := beq_iff_eq.mpr c42
        have c42b1 : (a0_2 != 0) = false := bne_eq_false_iff_eq.mpr c42
        clear c42
        by_cases c43 : a0_3 = 0
        ·rw [if_pos c43] at H
         have c43b0 : (a0_3 == 0) = true := beq_iff_eq.mpr c43
         have c43b1 : (a0_3 != 0) = false := bne_eq_false_iff_eq.mpr c43
         clear c43
         by_cases c44 : a0_4 = 0
         ·rw [if_pos c44] at H
          have c44b0 : (a0_4 == 0) = true := beq_iff_eq.mpr c44
          have c44b1 : (a0_4 != 0) = false := bne_eq_false_iff_eq.mpr c44
          clear c44
          have H' := Aside0.mk H
          clear H
          have hcz45_0 : w4.cell? ⟨gb325, 0, none⟩ = some (.int .i64 a0_0) := (blk_cell BK325.out 0).trans rfl
          have hcz45_1 : w4.cell? ⟨gb325, 1, none⟩ = some (.int .i64 a0_1) := (blk_cell BK325.out 1).trans rfl
          have hcz45_2 : w4.cell? ⟨gb325, 2, none⟩ = some (.int .i64 a0_2) := (blk_cell BK325.out 2).trans rfl
          have hcz45_3 : w4.cell? ⟨gb325, 3, none⟩ = some (.int .i64 a0_3) := (blk_cell BK325.out 3).trans rfl
          have hcz45_4 : w4.cell? ⟨gb325, 4, none⟩ = some (.int .i64 a0_4) := (blk_cell BK325.out 4).trans rfl
          have hcz45_5 : w4.cell? ⟨gb325, 5, none⟩ = some (.int .i64 a0_5) := (blk_cell BK325.out 5).trans rfl
          have hcz45_6 : w4.cell? ⟨gb325, 6, none⟩ = some (.int .i64 a0_6) := (blk_cell BK325.out 6).trans rfl
          have hfz45_0 := blk_frozen BK325.out 0
          have hfz45_1 := blk_frozen BK325.out 1
          have hfz45_2 := blk_frozen BK325.out 2
          have hfz45_3 := blk_frozen BK325.out 3
          have hfz45_4 := blk_frozen BK325.out 4
          have hfz45_5 := blk_frozen BK325.out 5
          have hfz45_6 := blk_frozen BK325.out 6
          go_wp2
          go_meet
          case rel => exact ⟨_, ((a0_5 != 0)), (by first | rfl | (simp; done) | (simp [*]; done)), H', ⟨by first | omega | exact Nat.le_refl _⟩, ⟨by (with_reducible repeat (first | refine blk_drewN ?_ _ | refine blk_drew ?_ | refine blk_alloc ?_ _)); exact BK325.out⟩, ⟨by repeat (first | (with_reducible first | exact HB.out | apply below_alloc | apply pw_below_drewN | apply below_drew1 | refine below_set ?_ GE325.out) | exact HB.out)⟩⟩
         ·rw [if_neg c44] at H
          have c44b0 : (a0_4 == 0) = false := beq_eq_false_iff_ne.mpr c44
          have c44b1 : (a0_4 != 0) = true := bne_iff_ne.mpr c44
          have H' := Aside0.mk H
          clear H
          have hcz46_0 : w4.cell? ⟨gb325, 0, none⟩ = some (.int .i64 a0_0) := (blk_cell BK325.out 0).trans rfl
          have hcz46_1 : w4.cell? ⟨gb325, 1, none⟩ = some (.int .i64 a0_1) := (blk_cell BK325.out 1).trans rfl
          have hcz46_2 : w4.cell? ⟨gb325, 2, none⟩ = some (.int .i64 a0_2) := (blk_cell BK325.out 2).trans rfl
          have hcz46_3 : w4.cell? ⟨gb325, 3, none⟩ = some (.int .i64 a0_3) := (blk_cell BK325.out 3).trans rfl
          have hcz46_4 : w4.cell? ⟨gb325, 4, none⟩ = some (.int .i64 a0_4) := (blk_cell BK325.out 4).trans rfl
          have hcz46_5 : w4.cell? ⟨gb325, 5, none⟩ = some (.int .i64 a0_5) := (blk_cell BK325.out 5).trans rfl
          have hcz46_6 : w4.cell? ⟨gb325, 6, none⟩ = some (.int .i64 a0_6) := (blk_cell BK325.out 6).trans rfl
          have hfz46_0 := blk_frozen BK325.out 0
          have hfz46_1 := blk_frozen BK325.out 1
          have hfz46_2 := blk_frozen BK325.out 2
          have hfz46_3 := blk_frozen BK325.out 3
          have hfz46_4 := blk_frozen BK325.out 4
          have hfz46_5 := blk_frozen BK325.out 5
          have hfz46_6 := blk_frozen BK325.out 6
          go_wp2
          go_meet
          case rel => exact ⟨_, (true), (by first | rfl | (simp; done) | (simp [*]; done)), H', ⟨by first | omega | exact Nat.le_refl _⟩, ⟨by (with_reducible repeat (first | refine blk_drewN ?_ _ | refine blk_drew ?_ | refine blk_alloc ?_ _)); exact BK325.out⟩, ⟨by repeat (first | (with_reducible first | exact HB.out | apply below_alloc | apply pw_below_drewN | apply below_drew1 | refine below_set ?_ GE325.out) | exact HB.out)⟩⟩
        ·rw [if_neg c43] at H
         have c43b0 : (a0_3 == 0) = false := beq_eq_false_iff_ne.mpr c43
         have c43b1 : (a0_3 != 0) = true := bne_iff_ne.mpr c43
         have H' := Aside0.mk H
         clear H
         have hcz47_0 : w4.cell? ⟨gb325, 0, none⟩ = some (.int .i64 a0_0) := (blk_cell BK325.out 0).trans rfl
         have hcz47_1 : w4.cell? ⟨gb325, 1, none⟩ = some (.int .i64 a0_1) := (blk_cell BK325.out 1).trans rfl
         have hcz47_2 : w4.cell? ⟨gb325, 2, none⟩ = some (.int .i64 a0_2) := (blk_cell BK325.out 2).trans rfl
         have hcz47_3 : w4.cell? ⟨gb325, 3, none⟩ = some (.int .i64 a0_3) := (blk_cell BK325.out 3).trans rfl
         have hcz47_4 : w4.cell? ⟨gb325, 4, none⟩ = some (.int .i64 a0_4) := (blk_cell BK325.out 4).trans rfl
         have hcz47_5 : w4.cell? ⟨gb325, 5, none⟩ = some (.int .i64 a0_5) := (blk_cell BK325.out 5).trans rfl
         have hcz47_6 : w4.cell? ⟨gb325, 6, none⟩ = some (.int .i64 a0_6) := (blk_cell BK325.out 6).trans rfl
         have hfz47_0 := blk_frozen BK325.out 0
         have hfz47_1 := blk_frozen BK325.out 1
         have hfz47_2 := blk_frozen BK325.out 2
         have hfz47_3 := blk_frozen BK325.out 3
         have hfz47_4 := blk_frozen BK325.out 4
         have hfz47_5 := blk_frozen BK325.out 5
         have hfz47_6 := blk_frozen BK325.out 6
         go_wp2
         go_meet
         case rel => exact ⟨_, (true), (by first | rfl | (simp; done) | (simp [*]; done)), H', ⟨by first | omega | exact Nat.le_refl _⟩, ⟨by (with_reducible repeat (first | refine blk_drewN ?_ _ | refine blk_drew ?_ | refine blk_alloc ?_ _)); exact BK325.out⟩, ⟨by repeat (first | (with_reducible first | exact HB.out | apply below_alloc | apply pw_below_drewN | apply below_drew1 | refine below_set ?_ GE325.out) | exact HB.out)⟩⟩
       ·rw [if_neg c42] at H
        have c42b0 : (a0_2 == 0) = false := beq_eq_false_iff_ne.mpr c42
        have c42b1 : (a0_2 != 0) = true := bne_iff_ne.mpr c42
        have H' := Aside0.mk H
        clear H
        have hcz48_0 : w4.cell? ⟨gb325, 0, none⟩ = some (.int .i64 a0_0) := (blk_cell BK325.out 0).trans rfl
        have hcz48_1 : w4.cell? ⟨gb325, 1, none⟩ = some (.int .i64 a0_1) := (blk_cell BK325.out 1).trans rfl
        have hcz48_2 : w4.cell? ⟨gb325, 2, none⟩ = some (.int .i64 a0_2) := (blk_cell BK325.out 2).trans rfl
        have hcz48_3 : w4.cell? ⟨gb325, 3, none⟩ = some (.int .i64 a0_3) := (blk_cell BK325.out 3).trans rfl
        have hcz48_4 : w4.cell? ⟨gb325, 4, none⟩ = some (.int .i64 a0_4) := (blk_cell BK325.out 4).trans rfl
        have hcz48_5 : w4.cell? ⟨gb325, 5, none⟩ = some (.int .i64 a0_5) := (blk_cell BK325.out 5).trans rfl
        have hcz48_6 : w4.cell? ⟨gb325, 6, none⟩ = some (.int .i64 a0_6) := (blk_cell BK325.out 6).trans rfl
        have hfz48_0 := blk_frozen BK325.out 0
        have hfz48_1 := blk_frozen BK325.out 1
        have hfz48_2 := blk_frozen BK325.out 2
        have hfz48_3 := blk_frozen BK325.out 3
        have hfz48_4 := blk_frozen BK325.out 4
        have hfz48_5 := blk_frozen BK325.out 5
        have hfz48_6 := blk_frozen BK325.out 6
        go_wp2
        go_meet
        case rel => exact ⟨_, (true), (by first | rfl | (simp; done) | (simp [*]; done)), H', ⟨by first | omega | exact Nat.le_refl _⟩, ⟨by (with_reducible repeat (first | refine blk_drewN ?_ _ | refine blk_drew ?_ | refine blk_alloc ?_ _)); exact BK325.out⟩, ⟨by repeat (first | (with_reducible first | exact HB.out | apply below_alloc | apply pw_below_drewN | apply below_drew1 | refine below_set ?_ GE325.out) | exact HB.out)⟩⟩
     ·rw [if_neg c39] at H
      have c39b0 : (a0_6 == 0) = false := beq_eq_false_iff_ne.mpr c39
      have c39b1 : (a0_6 != 0) = true := bne_iff_ne.mpr c39
      have H' := Aside0.mk H
      clear H
      have hcz49_0 : w4.cell? ⟨gb325, 0, none⟩ = some (.int .i64 a0_0) := (blk_cell BK325.out 0).trans rfl
      have hcz49_1 : w4.cell? ⟨gb325, 1, none⟩ = some (.int .i64 a0_1) := (blk_cell BK325.out 1).trans rfl
      have hcz49_2 : w4.cell? ⟨gb325, 2, none⟩ = some (.int .i64 a0_2) := (blk_cell BK325.out 2).trans rfl
      have hcz49_3 : w4.cell? ⟨gb325, 3, none⟩ = some (.int .i64 a0_3) := (blk_cell BK325.out 3).trans rfl
      have hcz49_4 : w4.cell? ⟨gb325, 4, none⟩ = some (.int .i64 a0_4) := (blk_cell BK325.out 4).trans rfl
      have hcz49_5 : w4.cell? ⟨gb325, 5, none⟩ = some (.int .i64 a0_5) := (blk_cell BK325.out 5).trans rfl
      have hcz49_6 : w4.cell? ⟨gb325, 6, none⟩ = some (.int .i64 a0_6) := (blk_cell BK325.out 6).trans rfl
      have hfz49_0 := blk_frozen BK325.out 0
      have hfz49_1 := blk_frozen BK325.out 1
      have hfz49_2 := blk_frozen BK325.out 2
      have hfz49_3 := blk_frozen BK325.out 3
      have hfz49_4 := blk_frozen BK325.out 4
      have hfz49_5 := blk_frozen BK325.out 5
      have hfz49_6 := blk_frozen BK325.out 6
      go_wp2
      go_meet
      case rel => exact ⟨_, (true), (by first | rfl | (simp; done) | (simp [*]; done)), H', ⟨by first | omega | exact Nat.le_refl _⟩, ⟨by (with_reducible repeat (first | refine blk_drewN ?_ _ | refine blk_drew ?_ | refine blk_alloc ?_ _)); exact BK325.out⟩, ⟨by repeat (first | (with_reducible first | exact HB.out | apply below_alloc | apply pw_below_drewN | apply below_drew1 | refine below_set ?_ GE325.out) | exact HB.out)⟩⟩
   ·rw [if_neg c28] at H
    have c28b0 : (a0_1 == 0) = false := beq_eq_false_iff_ne.mpr c28
    have c28b1 : (a0_1 != 0) = true := bne_iff_ne.mpr c28
    have H' := Aside0.mk H
    clear H
    have hcz50_0 : w4.cell? ⟨gb325, 0, none⟩ = some (.int .i64 a0_0) := (blk_cell BK325.out 0).trans rfl
    have hcz50_1 : w4.cell? ⟨gb325, 1, none⟩ = some (.int .i64 a0_1) := (blk_cell BK325.out 1).trans rfl
    have hcz50_2 : w4.cell? ⟨gb325, 2, none⟩ = some (.int .i64 a0_2) := (blk_cell BK325.out 2).trans rfl
    have hcz50_3 : w4.cell? ⟨gb325, 3, none⟩ = some (.int .i64 a0_3) := (blk_cell BK325.out 3).trans rfl
    have hcz50_4 : w4.cell? ⟨gb325, 4, none⟩ = some (.int .i64 a0_4) := (blk_cell BK325.out 4).trans rfl
    have hcz50_5 : w4.cell? ⟨gb325, 5, none⟩ = some (.int .i64 a0_5) := (blk_cell BK325.out 5).trans rfl
    have hcz50_6 : w4.cell? ⟨gb325, 6, none⟩ = some (.int .i64 a0_6) := (blk_cell BK325.out 6).trans rfl
    have hfz50_0 := blk_frozen BK325.out 0
    have hfz50_1 := blk_frozen BK325.out 1
    have hfz50_2 := blk_frozen BK325.out 2
    have hfz50_3 := blk_frozen BK325.out 3
    have hfz50_4 := blk_frozen BK325.out 4
    have hfz50_5 := blk_frozen BK325.out 5
    have hfz50_6 := blk_frozen BK325.out 6
    go_wp2
    go_meet
    case rel => exact ⟨_, (true), (by first | rfl | (simp; done) | (simp [*]; done)), H', ⟨by first | omega | exact Nat.le_refl _⟩, ⟨by (with_reducible repeat (first | refine blk_drewN ?_ _ | refine blk_drew ?_ | refine blk_alloc ?_ _)); exact BK325.out⟩, ⟨by repeat (first | (with_reducible first | exact HB.out | apply below_alloc | apply pw_below_drewN | apply below_drew1 | refine below_set ?_ GE325.out) | exact HB.out)⟩⟩
 case rest =>
  clear HC3
  try clear c1
  try clear c2
  try clear p2
  try clear c3
  try clear c4
  try clear c6
  try clear c6b0
  try clear c6b1
  try clear c7
  try clear c7b0
  try clear c7b1
  try clear c8
  try clear c8b0
  try clear c8b1
  try clear c10
  try clear c10b0
  try clear c10b1
  try clear c11
  try clear c11b0
  try clear c11b1
  try clear c12
  try clear c12b0
  try clear c12b1
  try clear c17
  try clear c17b0
  try clear c17b1
  try clear c18
  try clear c18b0
  try clear c18b1
  try clear c20
  try clear c20b0
  try clear c20b1
  try clear c21
  try clear c21b0
  try clear c21b1
  try clear c22
  try clear c22b0
  try clear c22b1
  try clear c28
  try clear c28b0
  try clear c28b1
  try clear c29
  try clear c29b0
  try clear c29b1
  try clear c30
  try clear c30b0
  try clear c30b1
  try clear c32
  try clear c32b0
  try clear c32b1
  try clear c33
  try clear c33b0
  try clear c33b1
  try clear c34
  try clear c34b0
  try clear c34b1
  try clear c39
  try clear c39b0
  try clear c39b1
  try clear c40
  try clear c40b0
  try clear c40b1
  try clear c42
  try clear c42b0
  try clear c42b1
  try clear c43
  try clear c43b0
  try clear c43b1
  try clear c44
  try clear c44b0
  try clear c44b1
  try clear hcz13_0
  try clear hcz13_1
  try clear hcz13_2
  try clear hcz13_3
  try clear hcz13_4
  try clear hcz13_5
  try clear hcz13_6
  try clear hcz14_0
  try clear hcz14_1
  try clear hcz14_2
  try clear hcz14_3
  try clear hcz14_4
  try clear hcz14_5
  try clear hcz14_6
  try clear hcz15_0
  try clear hcz15_1
  try clear hcz15_2
  try clear hcz15_3
  try clear hcz15_4
  try clear hcz15_5
  try clear hcz15_6
  try clear hcz16_0
  try clear hcz16_1
  try clear hcz16_2
  try clear hcz16_3
  try clear hcz16_4
  try clear hcz16_5
  try clear hcz16_6
  try clear hcz19_0
  try clear hcz19_1
  try clear hcz19_2
  try clear hcz19_3
  try clear hcz19_4
  try clear hcz19_5
  try clear hcz19_6
  try clear hcz23_0
  try clear hcz23_1
  try clear hcz23_2
  try clear hcz23_3
  try clear hcz23_4
  try clear hcz23_5
  try clear hcz23_6
  try clear hcz24_0
  try clear hcz24_1
  try clear hcz24_2
  try clear hcz24_3
  try clear hcz24_4
  try clear hcz24_5
  try clear hcz24_6
  try clear hcz25_0
  try clear hcz25_1
  try clear hcz25_2
  try clear hcz25_3
  try clear hcz25_4
  try clear hcz25_5
  try clear hcz25_6
  try clear hcz26_0
  try clear hcz26_1
  try clear hcz26_2
  try clear hcz26_3
  try clear hcz26_4
  try clear hcz26_5
  try clear hcz26_6
  try clear hcz27_0
  try clear hcz27_1
  try clear hcz27_2
  try clear hcz27_3
  try clear hcz27_4
  try clear hcz27_5
  try clear hcz27_6
  try clear hcz31_0
  try clear hcz31_1
  try clear hcz31_2
  try clear hcz31_3
  try clear hcz31_4
  try clear hcz31_5
  try clear hcz31_6
  try clear hcz35_0
  try clear hcz35_1
  try clear hcz35_2
  try clear hcz35_3
  try clear hcz35_4
  try clear hcz35_5
  try clear hcz35_6
  try clear hcz36_0
  try clear hcz36_1
  try clear hcz36_2
  try clear hcz36_3
  try clear hcz36_4
  try clear hcz36_5
  try clear hcz36_6
  try clear hcz37_0
  try clear hcz37_1
  try clear hcz37_2
  try clear hcz37_3
  try clear hcz37_4
  try clear hcz37_5
  try clear hcz37_6
  try clear hcz38_0
  try clear hcz38_1
  try clear hcz38_2
  try clear hcz38_3
  try clear hcz38_4
  try clear hcz38_5
  try clear hcz38_6
  try clear hcz41_0
  try clear hcz41_1
  try clear hcz41_2
  try clear hcz41_3
  try clear hcz41_4
  try clear hcz41_5
  try clear hcz41_6
  try clear hcz45_0
  try clear hcz45_1
  try clear hcz45_2
  try clear hcz45_3
  try clear hcz45_4
  try clear hcz45_5
  try clear hcz45_6
  try clear hcz46_0
  try clear hcz46_1
  try clear hcz46_2
  try clear hcz46_3
  try clear hcz46_4
  try clear hcz46_5
  try clear hcz46_6
  try clear hcz47_0
  try clear hcz47_1
  try clear hcz47_2
  try clear hcz47_3
  try clear hcz47_4
  try clear hcz47_5
  try clear hcz47_6
  try clear hcz48_0
  try clear hcz48_1
  try clear hcz48_2
  try clear hcz48_3
  try clear hcz48_4
  try clear hcz48_5
  try clear hcz48_6
  try clear hcz49_0
  try clear hcz49_1
  try clear hcz49_2
  try clear hcz49_3
  try clear hcz49_4
  try clear hcz49_5
  try clear hcz49_6
  try clear hcz50_0
  try clear hcz50_1
  try clear hcz50_2
  try clear hcz50_3
  try clear hcz50_4
  try clear hcz50_5
  try clear hcz50_6
  try clear hcz9_0
  try clear hcz9_1
  try clear hcz9_2
  try clear hcz9_3
  try clear hcz9_4
  try clear hcz9_5
  try clear hcz9_6
  try clear hfz13_0
  try clear hfz13_1
  try clear hfz13_2
  try clear hfz13_3
  try clear hfz13_4
  try clear hfz13_5
  try clear hfz13_6
  try clear hfz14_0
  try clear hfz14_1
  try clear hfz14_2
  try clear hfz14_3
  try clear hfz14_4
  try clear hfz14_5
  try clear hfz14_6
  try clear hfz15_0
  try clear hfz15_1
  try clear hfz15_2
  try clear hfz15_3
  try clear hfz15_4
  try clear hfz15_5
  try clear hfz15_6
  try clear hfz16_0
  try clear hfz16_1
  try clear hfz16_2
  try clear hfz16_3
  try clear hfz16_4
  try clear hfz16_5
  try clear hfz16_6
  try clear hfz19_0
  try clear hfz19_1
  try clear hfz19_2
  try clear hfz19_3
  try clear hfz19_4
  try clear hfz19_5
  try clear hfz19_6
  try clear hfz23_0
  try clear hfz23_1
  try clear hfz23_2
  try clear hfz23_3
  try clear hfz23_4
  try clear hfz23_5
  try clear hfz23_6
  try clear hfz24_0
  try clear hfz24_1
  try clear hfz24_2
  try clear hfz24_3
  try clear hfz24_4
  try clear hfz24_5
  try clear hfz24_6
  try clear hfz25_0
  try clear hfz25_1
  try clear hfz25_2
  try clear hfz25_3
  try clear hfz25_4
  try clear hfz25_5
  try clear hfz25_6
  try clear hfz26_0
  try clear hfz26_1
  try clear hfz26_2
  try clear hfz26_3
  try clear hfz26_4
  try clear hfz26_5
  try clear hfz26_6
  try clear hfz27_0
  try clear hfz27_1
  try clear hfz27_2
  try clear hfz27_3
  try clear hfz27_4
  try clear hfz27_5
  try clear hfz27_6
  try clear hfz31_0
  try clear hfz31_1
  try clear hfz31_2
  try clear hfz31_3
  try clear hfz31_4
  try clear hfz31_5
  try clear hfz31_6
  try clear hfz35_0
  try clear hfz35_1
  try clear hfz35_2
  try clear hfz35_3
  try clear hfz35_4
  try clear hfz35_5
  try clear hfz35_6
  try clear hfz36_0
  try clear hfz36_1
  try clear hfz36_2
  try clear hfz36_3
  try clear hfz36_4
  try clear hfz36_5
  try clear hfz36_6
  try clear hfz37_0
  try clear hfz37_1
  try clear hfz37_2
  try clear hfz37_3
  try clear hfz37_4
  try clear hfz37_5
  try clear hfz37_6
  try clear hfz38_0
  try clear hfz38_1
  try clear hfz38_2
  try clear hfz38_3
  try clear hfz38_4
  try clear hfz38_5
  try clear hfz38_6
  try clear hfz41_0
  try clear hfz41_1
  try clear hfz41_2
  try clear hfz41_3
  try clear hfz41_4
  try clear hfz41_5
  try clear hfz41_6
  try clear hfz45_0
  try clear hfz45_1
  try clear hfz45_2
  try clear hfz45_3
  try clear hfz45_4
  try clear hfz45_5
  try clear hfz45_6
  try clear hfz46_0
  try clear hfz46_1
  try clear hfz46_2
  try clear hfz46_3
  try clear hfz46_4
  try clear hfz46_5
  try clear hfz46_6
  try clear hfz47_0
  try clear hfz47_1
  try clear hfz47_2
  try clear hfz47_3
  try clear hfz47_4
  try clear hfz47_5
  try clear hfz47_6
  try clear hfz48_0
  try clear hfz48_1
  try clear hfz48_2
  try clear hfz48_3
  try clear hfz48_4
  try clear hfz48_5
  try clear hfz48_6
  try clear hfz49_0
  try clear hfz49_1
  try clear hfz49_2
  try clear hfz49_3
  try clear hfz49_4
  try clear hfz49_5
  try clear hfz49_6
  try clear hfz50_0
  try clear hfz50_1
  try clear hfz50_2
  try clear hfz50_3
  try clear hfz50_4
  try clear hfz50_5
  try clear hfz50_6
  try clear hfz9_0
  try clear hfz9_1
  try clear hfz9_2
  try clear hfz9_3
  try clear hfz9_4
  try clear hfz9_5
  try clear hfz9_6
  obtain ⟨kq, x50_2, rfl, HA, HJ2, BK325, HB⟩ := hcut
  cases kq with
  | zero => exact absurd HA.out (by simp [linotyperef27_one.j0])
  | succ kj2 =>
   have H := HA.out
   clear HA
   simp only [linotyperef27_one.j0] at H
   by_cases c51 : x50_2 = true
   ·subst c51
    have H1 : (some false) = some r := by rw [if_pos rfl] at H; exact H
    clear H
    have H := H1
    clear H1
    obtain rfl := Option.some.inj H
    go_wp2
    go_ret
    exact ⟨by first | rfl | (simp [*, errW_none, errW_some] <;> rfl), by repeat (first | (with_reducible first | exact HB.out | apply below_alloc | apply pw_below_drewN | apply below_drew1 | refine below_set ?_ GE325.out) | exact HB.out)⟩
   ·replace c51 := Bool.eq_false_iff.mpr c51
    subst c51
    have H1 : (if a0_0 = 1 then ((linotyperef27_within.f a0_1 0 1048576).bind fun t326 => (some t326)) else (if a0_0 = 3 then ((linotyperef27_power.f kj2 a0_6).bind fun t327 => (some t327)) else (if (a0_0 == 2) = true then ((linotyperef27_within.f a0_2 1 15).bind fun t328 => (if t328 = true then ((linotyperef27_within.f a0_3 (wrap64 (a0_2 + 1)) 15).bind fun t329 => (if t329 = true then ((linotyperef27_within.f a0_4 0 a1).bind fun t330 => (if t330 = true then ((linotyperef01_Fits.f a0_5 32).bind fun t331 => (some t331)) else (some false))) else (some false))) else (some false))) else (some false)))) = some r := by rw [if_neg (show ¬ (false = true) by decide)] at H; exact H
    clear H
    have H := H1
    clear H1
    by_cases c52 : a0_0 = 1
    ·rw [if_pos c52] at H
     have c52b0 : (a0_0 == 1) = true := beq_iff_eq.mpr c52
     have c52b1 : (a0_0 != 1) = false := bne_eq_false_iff_eq.mpr c52
     clear c52
     replace H := Option.bind_eq_some_iff.mp H
     obtain ⟨t326, A530, H⟩ := H
     replace H : (some t326) = some r := H
     have A53 := Aside0.mk A530
     clear A530
     obtain rfl := Option.some.inj H
     have hcz54_0 : wc.cell? ⟨gb325, 0, none⟩ = some (.int .i64 a0_0) := (blk_cell BK325.out 0).trans rfl
     have hcz54_1 : wc.cell? ⟨gb325, 1, none⟩ = some (.int .i64 a0_1) := (blk_cell BK325.out 1).trans rfl
     have hcz54_2 : wc.cell? ⟨gb325, 2, none⟩ = some (.int .i64 a0_2) := (blk_cell BK325.out 2).trans rfl
     have hcz54_3 : wc.cell? ⟨gb325, 3, none⟩ = some (.int .i64 a0_3) := (blk_cell BK325.out 3).trans rfl
     have hcz54_4 : wc.cell? ⟨gb325, 4, none⟩ = some (.int .i64 a0_4) := (blk_cell BK325.out 4).trans rfl
     have hcz54_5 : wc.cell? ⟨gb325, 5, none⟩ = some (.int .i64 a0_5) := (blk_cell BK325.out 5).trans rfl
     have hcz54_6 : wc.cell? ⟨gb325, 6, none⟩ = some (.int .i64 a0_6) := (blk_cell BK325.out 6).trans rfl
     have hfz54_0 := blk_frozen BK325.out 0
     have hfz54_1 := blk_frozen BK325.out 1
     have hfz54_2 := blk_frozen BK325.out 2
     have hfz54_3 := blk_frozen BK325.out 3
     have hfz54_4 := blk_frozen BK325.out 4
     have hfz54_5 := blk_frozen BK325.out 5
     have hfz54_6 := blk_frozen BK325.out 6
     go_wp2_with (first | ((with_reducible refine gate_callee (f := 67) rfl ?_); refine goesL_ (some 57) rfl rfl Try.func67 (by kernel_rfl) rfl #[.int .i64 a0_1, .int .i64 0, .int .i64 1048576] rfl (by (try simp only [List.map_toArray, List.map_cons, List.map_nil]); first | done | rfl) ?_; (with_reducible refine (linotyperef27_within.calls a0_1 0 1048576 t326 _ A53.out).mono ?_); rintro e w' ⟨rfl, ⟨nd, rfl⟩⟩; refine ⟨_, rfl, ?_⟩))
     go_ret
     exact ⟨by first | rfl | (simp [*, errW_none, errW_some] <;> rfl), by repeat (first | (with_reducible first | exact HB.out | apply below_alloc | apply pw_below_drewN | apply below_drew1 | refine below_set ?_ GE325.out) | exact HB.out)⟩
    ·rw [if_neg c52] at H
     have c52b0 : (a0_0 == 1) = false := beq_eq_false_iff_ne.mpr c52
     have c52b1 : (a0_0 != 1) = true := bne_iff_ne.mpr c52
     by_cases c55 : a0_0 = 3
     ·rw [if_pos c55] at H
      have c55b0 : (a0_0 == 3) = true := beq_iff_eq.mpr c55
      have c55b1 : (a0_0 != 3) = false := bne_eq_false_iff_eq.mpr c55
      clear c55
      replace H := Option.bind_eq_some_iff.mp H
      obtain ⟨t327, A560, H⟩ := H
      replace H : (some t327) = some r := H
      have A56 := Aside0.mk A560
      clear A560
      obtain rfl := Option.some.inj H
      have hcz57_0 : wc.cell? ⟨gb325, 0, none⟩ = some (.int .i64 a0_0) := (blk_cell BK325.out 0).trans rfl
      have hcz57_1 : wc.cell? ⟨gb325, 1, none⟩ = some (.int .i64 a0_1) := (blk_cell BK325.out 1).trans rfl
      have hcz57_2 : wc.cell? ⟨gb325, 2, none⟩ = some (.int .i64 a0_2) := (blk_cell BK325.out 2).trans rfl
      have hcz57_3 : wc.cell? ⟨gb325, 3, none⟩ = some (.int .i64 a0_3) := (blk_cell BK325.out 3).trans rfl
      have hcz57_4 : wc.cell? ⟨gb325, 4, none⟩ = some (.int .i64 a0_4) := (blk_cell BK325.out 4).trans rfl
      have hcz57_5 : wc.cell? ⟨gb325, 5, none⟩ = some (.int .i64 a0_5) := (blk_cell BK325.out 5).trans rfl
      have hcz57_6 : wc.cell? ⟨gb325, 6, none⟩ = some (.int .i64 a0_6) := (blk_cell BK325.out 6).trans rfl
      have hfz57_0 := blk_frozen BK325.out 0
      have hfz57_1 := blk_frozen BK325.out 1
      have hfz57_2 := blk_frozen BK325.out 2
      have hfz57_3 := blk_frozen BK325.out 3
      have hfz57_4 := blk_frozen BK325.out 4
      have hfz57_5 := blk_frozen BK325.out 5
      have hfz57_6 := blk_frozen BK325.out 6
      go_wp2_with (first | ((with_reducible refine gate_callee (f := 77) rfl ?_); refine goesL_ (some 62) rfl rfl Try.func77 (by kernel_rfl) rfl #[.int .i64 a0_6] rfl (by (try simp only [List.map_toArray, List.map_cons, List.map_nil]); first | done | rfl) ?_; (with_reducible refine (linotyperef27_power.calls kj2 a0_6 t327 _ A56.out).mono ?_); rintro e w' ⟨rfl, ⟨nd, rfl⟩⟩; refine ⟨_, rfl, ?_⟩))
      go_ret
      exact ⟨by first | rfl | (simp [*, errW_none, errW_some] <;> rfl), by repeat (first | (with_reducible first | exact HB.out | apply below_alloc | apply pw_below_drewN | apply below_drew1 | refine below_set ?_ GE325.out) | exact HB.out)⟩
     ·rw [if_neg c55] at H
      have c55b0 : (a0_0 == 3) = false := beq_eq_false_iff_ne.mpr c55
      have c55b1 : (a0_0 != 3) = true := bne_iff_ne.mpr c55
      by_cases c58 : (a0_0 == 2) = true
      ·rw [if_pos c58] at H
       have c58b0 : (a0_0 == 2) = true := c58
       (try (have c58b1 : decide (a0_0 = 2) = true := by simpa using c58))
       (try (have c58b2 : (a0_0 == 2) = true := by simpa using c58))
       clear c58
       replace H := Option.bind_eq_some_iff.mp H
       obtain ⟨t328, A590, H⟩ := H
       replace H : (if t328 = true then ((linotyperef27_within.f a0_3 (wrap64 (a0_2 + 1)) 15).bind fun t329 => (if t329 = true then ((linotyperef27_within.f a0_4 0 a1).bind fun t330 => (if t330 = true then ((linotyperef01_Fits.f a0_5 32).bind fun t331 => (some t331)) else (some false))) else (some false))) else (some false)) = some r := H
       have A59 := Aside0.mk A590
       clear A590
       by_cases c60 : t328 = true
       ·subst c60
        have H1 : ((linotyperef27_within.f a0_3 (wrap64 (a0_2 + 1)) 15).bind fun t329 => (if t329 = true then ((linotyperef27_within.f a0_4 0 a1).bind fun t330 => (if t330 = true then ((linotyperef01_Fits.f a0_5 32).bind fun t331 => (some t331)) else (some false))) else (some false))) = some r := by rw [if_pos rfl] at H; exact H
        clear H
        have H := H1
        clear H1
        replace H := Option.bind_eq_some_iff.mp H
        obtain ⟨t329, A610, H⟩ := H
        replace H : (if t329 = true then ((linotyperef27_within.f a0_4 0 a1).bind fun t330 => (if t330 = true then ((linotyperef01_Fits.f a0_5 32).bind fun t331 => (some t331)) else (some false))) else (some false)) = some r := H
        have A61 := Aside0.mk A610
        clear A610
        by_cases c62 : t329 = true
        ·subst c62
         have H1 : ((linotyperef27_within.f a0_4 0 a1).bind fun t330 => (if t330 = true then ((linotyperef01_Fits.f a0_5 32).bind fun t331 => (some t331)) else (some false))) = some r := by rw [if_pos rfl] at H; exact H
         clear H
         have H := H1
         clear H1
         replace H := Option.bind_eq_some_iff.mp H
         obtain ⟨t330, A630, H⟩ := H
         replace H : (if t330 = true then ((linotyperef01_Fits.f a0_5 32).bind fun t331 => (some t331)) else (some false)) = some r := H
         have A63 := Aside0.mk A630
         clear A630
         by_cases c64 : t330 = true
         ·subst c64
          have H1 : ((linotyperef01_Fits.f a0_5 32).bind fun t331 => (some t331)) = some r := by rw [if_pos rfl] at H; exact H
          clear H
          have H := H1
          clear H1
          replace H := Option.bind_eq_some_iff.mp H
          obtain ⟨t331, A650, H⟩ := H
          replace H : (some t331) = some r := H
          have A65 := Aside0.mk A650
          clear A650
          obtain rfl := Option.some.inj H
          have hcz66_0 : wc.cell? ⟨gb325, 0, none⟩ = some (.int .i64 a0_0) := (blk_cell BK325.out 0).trans rfl
          have hcz66_1 : wc.cell? ⟨gb325, 1, none⟩ = some (.int .i64 a0_1) := (blk_cell BK325.out 1).trans rfl
          have hcz66_2 : wc.cell? ⟨gb325, 2, none⟩ = some (.int .i64 a0_2) := (blk_cell BK325.out 2).trans rfl
          have hcz66_3 : wc.cell? ⟨gb325, 3, none⟩ = some (.int .i64 a0_3) := (blk_cell BK325.out 3).trans rfl
          have hcz66_4 : wc.cell? ⟨gb325, 4, none⟩ = some (.int .i64 a0_4) := (blk_cell BK325.out 4).trans rfl
          have hcz66_5 : wc.cell? ⟨gb325, 5, none⟩ = some (.int .i64 a0_5) := (blk_cell BK325.out 5).trans rfl
          have hcz66_6 : wc.cell? ⟨gb325, 6, none⟩ = some (.int .i64 a0_6) := (blk_cell BK325.out 6).trans rfl
          have hfz66_0 := blk_frozen BK325.out 0
          have hfz66_1 := blk_frozen BK325.out 1
          have hfz66_2 := blk_frozen BK325.out 2
          have hfz66_3 := blk_frozen BK325.out 3
          have hfz66_4 := blk_frozen BK325.out 4
          have hfz66_5 := blk_frozen BK325.out 5
          have hfz66_6 := blk_frozen BK325.out 6
          go_wp2_with (first | (go_at_call 67; (with_reducible refine (linotyperef27_within.calls a0_2 1 15 true _ A59.out).mono ?_); rintro e w' ⟨rfl, ⟨nd, rfl⟩⟩) | (go_at_call 67; (with_reducible refine (linotyperef27_within.calls a0_3 (wrap64 (a0_2 + 1)) 15 true _ A61.out).mono ?_); rintro e w' ⟨rfl, ⟨nd, rfl⟩⟩) | (go_at_call 67; (with_reducible refine (linotyperef27_within.calls a0_4 0 a1 true _ A63.out).mono ?_); rintro e w' ⟨rfl, ⟨nd, rfl⟩⟩) | (go_at_call 22; (with_reducible refine (linotyperef01_Fits.calls a0_5 32 t331 _ A65.out).mono ?_); rintro e w' ⟨rfl, ⟨nd, rfl⟩⟩))
          go_ret
          exact ⟨by first | rfl | (simp [*, errW_none, errW_some] <;> rfl), by repeat (first | (with_reducible first | exact HB.out | apply below_alloc | apply pw_below_drewN | apply below_drew1 | refine below_set ?_ GE325.out) | exact HB.out)⟩
         ·replace c64 := Bool.eq_false_iff.mpr c64
          subst c64
          have H1 : (some false) = some r := by rw [if_neg (show ¬ (false = true) by decide)] at H; exact H
          clear H
          have H := H1
          clear H1
          obtain rfl := Option.some.inj H
          have hcz67_0 : wc.cell? ⟨gb325, 0, none⟩ = some (.int .i64 a0_0) := (blk_cell BK325.out 0).trans rfl
          have hcz67_1 : wc.cell? ⟨gb325, 1, none⟩ = some (.int .i64 a0_1) := (blk_cell BK325.out 1).trans rfl
          have hcz67_2 : wc.cell? ⟨gb325, 2, none⟩ = some (.int .i64 a0_2) := (blk_cell BK325.out 2).trans rfl
          have hcz67_3 : wc.cell? ⟨gb325, 3, none⟩ = some (.int .i64 a0_3) := (blk_cell BK325.out 3).trans rfl
          have hcz67_4 : wc.cell? ⟨gb325, 4, none⟩ = some (.int .i64 a0_4) := (blk_cell BK325.out 4).trans rfl
          have hcz67_5 : wc.cell? ⟨gb325, 5, none⟩ = some (.int .i64 a0_5) := (blk_cell BK325.out 5).trans rfl
          have hcz67_6 : wc.cell? ⟨gb325, 6, none⟩ = some (.int .i64 a0_6) := (blk_cell BK325.out 6).trans rfl
          have hfz67_0 := blk_frozen BK325.out 0
          have hfz67_1 := blk_frozen BK325.out 1
          have hfz67_2 := blk_frozen BK325.out 2
          have hfz67_3 := blk_frozen BK325.out 3
          have hfz67_4 := blk_frozen BK325.out 4
          have hfz67_5 := blk_frozen BK325.out 5
          have hfz67_6 := blk_frozen BK325.out 6
          go_wp2_with (first | (go_at_call 67; (with_reducible refine (linotyperef27_within.calls a0_2 1 15 true _ A59.out).mono ?_); rintro e w' ⟨rfl, ⟨nd, rfl⟩⟩) | (go_at_call 67; (with_reducible refine (linotyperef27_within.calls a0_3 (wrap64 (a0_2 + 1)) 15 true _ A61.out).mono ?_); rintro e w' ⟨rfl, ⟨nd, rfl⟩⟩) | (go_at_call 67; (with_reducible refine (linotyperef27_within.calls a0_4 0 a1 false _ A63.out).mono ?_); rintro e w' ⟨rfl, ⟨nd, rfl⟩⟩))
          go_ret
          exact ⟨by first | rfl | (simp [*, errW_none, errW_some] <;> rfl), by repeat (first | (with_reducible first | exact HB.out | apply below_alloc | apply pw_below_drewN | apply below_drew1 | refine below_set ?_ GE325.out) | exact HB.out)⟩
        ·replace c62 := Bool.eq_false_iff.mpr c62
         subst c62
         have H1 : (some false) = some r := by rw [if_neg (show ¬ (false = true) by decide)] at H; exact H
         clear H
         have H := H1
         clear H1
         obtain rfl := Option.some.inj H
         have hcz68_0 : wc.cell? ⟨gb325, 0, none⟩ = some (.int .i64 a0_0) := (blk_cell BK325.out 0).trans rfl
         have hcz68_1 : wc.cell? ⟨gb325, 1, none⟩ = some (.int .i64 a0_1) := (blk_cell BK325.out 1).trans rfl
         have hcz68_2 : wc.cell? ⟨gb325, 2, none⟩ = some (.int .i64 a0_2) := (blk_cell BK325.out 2).trans rfl
         have hcz68_3 : wc.cell? ⟨gb325, 3, none⟩ = some (.int .i64 a0_3) := (blk_cell BK325.out 3).trans rfl
         have hcz68_4 : wc.cell? ⟨gb325, 4, none⟩ = some (.int .i64 a0_4) := (blk_cell BK325.out 4).trans rfl
         have hcz68_5 : wc.cell? ⟨gb325, 5, none⟩ = some (.int .i64 a0_5) := (blk_cell BK325.out 5).trans rfl
         have hcz68_6 : wc.cell? ⟨gb325, 6, none⟩ = some (.int .i64 a0_6) := (blk_cell BK325.out 6).trans rfl
         have hfz68_0 := blk_frozen BK325.out 0
         have hfz68_1 := blk_frozen BK325.out 1
         have hfz68_2 := blk_frozen BK325.out 2
         have hfz68_3 := blk_frozen BK325.out 3
         have hfz68_4 := blk_frozen BK325.out 4
         have hfz68_5 := blk_frozen BK325.out 5
         have hfz68_6 := blk_frozen BK325.out 6
         go_wp2_with (first | (go_at_call 67; (with_reducible refine (linotyperef27_within.calls a0_2 1 15 true _ A59.out).mono ?_); rintro e w' ⟨rfl, ⟨nd, rfl⟩⟩) | (go_at_call 67; (with_reducible refine (linotyperef27_within.calls a0_3 (wrap64 (a0_2 + 1)) 15 false _ A61.out).mono ?_); rintro e w' ⟨rfl, ⟨nd, rfl⟩⟩))
         go_ret
         exact ⟨by first | rfl | (simp [*, errW_none, errW_some] <;> rfl), by repeat (first | (with_reducible first | exact HB.out | apply below_alloc | apply pw_below_drewN | apply below_drew1 | refine below_set ?_ GE325.out) | exact HB.out)⟩
       ·replace c60 := Bool.eq_false_iff.mpr c60
        subst c60
        have H1 : (some false) = some r := by rw [if_neg (show ¬ (false = true) by decide)] at H; exact H
        clear H
        have H := H1
        clear H1
        obtain rfl := Option.some.inj H
        have hcz69_0 : wc.cell? ⟨gb325, 0, none⟩ = some (.int .i64 a0_0) := (blk_cell BK325.out 0).trans rfl
        have hcz69_1 : wc.cell? ⟨gb325, 1, none⟩ = some (.int .i64 a0_1) := (blk_cell BK325.out 1).trans rfl
        have hcz69_2 : wc.cell? ⟨gb325, 2, none⟩ = some (.int .i64 a0_2) := (blk_cell BK325.out 2).trans rfl
        have hcz69_3 : wc.cell? ⟨gb325, 3, none⟩ = some (.int .i64 a0_3) := (blk_cell BK325.out 3).trans rfl
        have hcz69_4 : wc.cell? ⟨gb325, 4, none⟩ = some (.int .i64 a0_4) := (blk_cell BK325.out 4).trans rfl
        have hcz69_5 : wc.cell? ⟨gb325, 5, none⟩ = some (.int .i64 a0_5) := (blk_cell BK325.out 5).trans rfl
        have hcz69_6 : wc.cell? ⟨gb325, 6, none⟩ = some (.int .i64 a0_6) := (blk_cell BK325.out 6).trans rfl
        have hfz69_0 := blk_frozen BK325.out 0
        have hfz69_1 := blk_frozen BK325.out 1
        have hfz69_2 := blk_frozen BK325.out 2
        have hfz69_3 := blk_frozen BK325.out 3
        have hfz69_4 := blk_frozen BK325.out 4
        have hfz69_5 := blk_frozen BK325.out 5
        have hfz69_6 := blk_frozen BK325.out 6
        go_wp2_with (first | (go_at_call 67; (with_reducible refine (linotyperef27_within.calls a0_2 1 15 false _ A59.out).mono ?_); rintro e w' ⟨rfl, ⟨nd, rfl⟩⟩))
        go_ret
        exact ⟨by first | rfl | (simp [*, errW_none, errW_some] <;> rfl), by repeat (first | (with_reducible first | exact HB.out | apply below_alloc | apply pw_below_drewN | apply below_drew1 | refine below_set ?_ GE325.out) | exact HB.out)⟩
      ·rw [if_neg c58] at H
       have c58b0 : (a0_0 == 2) = false := by simpa using c58
       (try (have c58b1 : decide (a0_0 = 2) = false := by simpa using c58))
       (try (have c58b2 : (a0_0 == 2) = false := by simpa using c58))
       (try (have c58b3 : ¬ (a0_0 = 2) := by simpa using c58))
       clear c58
       obtain rfl := Option.some.inj H
       have hcz70_0 : wc.cell? ⟨gb325, 0, none⟩ = some (.int .i64 a0_0) := (blk_cell BK325.out 0).trans rfl
       have hcz70_1 : wc.cell? ⟨gb325, 1, none⟩ = some (.int .i64 a0_1) := (blk_cell BK325.out 1).trans rfl
       have hcz70_2 : wc.cell? ⟨gb325, 2, none⟩ = some (.int .i64 a0_2) := (blk_cell BK325.out 2).trans rfl
       have hcz70_3 : wc.cell? ⟨gb325, 3, none⟩ = some (.int .i64 a0_3) := (blk_cell BK325.out 3).trans rfl
       have hcz70_4 : wc.cell? ⟨gb325, 4, none⟩ = some (.int .i64 a0_4) := (blk_cell BK325.out 4).trans rfl
       have hcz70_5 : wc.cell? ⟨gb325, 5, none⟩ = some (.int .i64 a0_5) := (blk_cell BK325.out 5).trans rfl
       have hcz70_6 : wc.cell? ⟨gb325, 6, none⟩ = some (.int .i64 a0_6) := (blk_cell BK325.out 6).trans rfl
       have hfz70_0 := blk_frozen BK325.out 0
       have hfz70_1 := blk_frozen BK325.out 1
       have hfz70_2 := blk_frozen BK325.out 2
       have hfz70_3 := blk_frozen BK325.out 3
       have hfz70_4 := blk_frozen BK325.out 4
       have hfz70_5 := blk_frozen BK325.out 5
       have hfz70_6 := blk_frozen BK325.out 6
       go_wp2
       go_ret
       exact ⟨by first | rfl | (simp [*, errW_none, errW_some] <;> rfl), by repeat (first | (with_reducible first | exact HB.out | apply below_alloc | apply pw_below_drewN | apply below_drew1 | refine below_set ?_ GE325.out) | exact HB.out)⟩

end Go.Proofs.Ytlmpecahmmgphaa.XLay
