/- Laid by this seat's own program (wip/tools/printx.py) out of the translation: the functions that laws use (Lay), each with its contract. No conditions. -/
import Derived.Test.YtlmpecahmmgphaaLayEnd
import Derived.Test.YtlmpecahmmgphaaXLayx0
import Derived.Test.YtlmpecahmmgphaaXLayx4
namespace Go.Proofs.Ytlmpecahmmgphaa.XLay
open Go.RowKit Go.Proofs.YtlmpecahmmgphaaW.PrintWords Go.Proofs.YtlmpecahmmgphaaW.PrintLast Go.Proofs.YtlmpecahmmgphaaW.PrintMore
attribute [local go_sem] max2_int min2_int max_two min_two max_three min_three max_four min_four   -- for this text's walks alone
set_option linter.unusedVariables false
set_option linter.unusedSimpArgs false

/-! ### linotypelaw27_LayoutLeast: function 12 -/
mutual
def linotypelaw27_LayoutLeast.l0 : Nat → List (S52) → Int → List Bool → Bool → Int → Option (Bool)
 | 0, _, _, _, _, _ => none
 | k + 1, x0, x1, x2, x7, x8 => if x8 < (x0.length : Int) then (if 0 ≤ x8 then (if ((rd_T52 x0 x8).f0) = 3 then (some x7) else (if ((rd_T52 x0 x8).f0) = 2 then (if ((rd_T52 x0 x8).f5) = 0 then (linotypelaw27_LayoutLeast.l0 k x0 x1 x2 x7 (wrap64 (x8 + 1))) else (some x7)) else (linotypelaw27_LayoutLeast.l0 k x0 x1 x2 x7 (wrap64 (x8 + 1))))) else (none)) else ((layout_Plan.f x0 x1).bind fun bt306 => (if bt306.2.2.2 = 0 then ((layout_Fits.f x0 x1 x2).bind fun t315 => (linotypelaw27_LayoutLeast.j1 k x0 x2 x7 (!t315) bt306.1 bt306.2.1 bt306.2.2.1)) else (linotypelaw27_LayoutLeast.j1 k x0 x2 x7 true bt306.1 bt306.2.1 bt306.2.2.1)))
def linotypelaw27_LayoutLeast.j1 : Nat → List (S52) → List Bool → Bool → Bool → List Int → List Bool → Int → Option (Bool)
 | 0, _, _, _, _, _, _, _ => none
 | k + 1, x0, x2, x7, x60, x315000, x315001, x315002 => if x60 = true then (some x7) else (linotypelaw27_LayoutLeast.l1 k x0 x2 x7 0 x315000 x315001 x315002)
def linotypelaw27_LayoutLeast.l1 : Nat → List (S52) → List Bool → Bool → Int → List Int → List Bool → Int → Option (Bool)
 | 0, _, _, _, _, _, _, _ => none
 | k + 1, x0, x2, x7, x11, x315000, x315001, x315002 => if x11 < (x0.length : Int) then (if x11 < (x315001.length : Int) then (linotypelaw27_LayoutLeast.j3 k x0 x2 x7 x11 (decide (x11 < (x2.length : Int))) x315000 x315001 x315002) else (linotypelaw27_LayoutLeast.j3 k x0 x2 x7 x11 false x315000 x315001 x315002)) else (linotypelaw27_LayoutLeast.j3 k x0 x2 x7 x11 false x315000 x315001 x315002)
def linotypelaw27_LayoutLeast.j3 : Nat → List (S52) → List Bool → Bool → Int → Bool → List Int → List Bool → Int → Option (Bool)
 | 0, _, _, _, _, _, _, _, _ => none
 | k + 1, x0, x2, x7, x11, x78, x315000, x315001, x315002 => if x78 = true then (if 0 ≤ x11 then (if x11 < (x315001.length : Int) then (if rdOf false x315001 x11 = true then (if x11 < (x0.length : Int) then (if ((rd_T52 x0 x11).f0) = 2 then (if x11 < (x2.length : Int) then (if rdOf false x2 x11 = true then (linotypelaw27_LayoutLeast.l1 k x0 x2 x7 (wrap64 (x11 + 1)) x315000 x315001 x315002) else (some false)) else (none)) else (linotypelaw27_LayoutLeast.l1 k x0 x2 x7 (wrap64 (x11 + 1)) x315000 x315001 x315002)) else (none)) else (linotypelaw27_LayoutLeast.l1 k x0 x2 x7 (wrap64 (x11 + 1)) x315000 x315001 x315002)) else (none)) else (none)) else (if x7 = true then (some ((x315001.length : Int) == (x0.length : Int))) else (some false))
end
def linotypelaw27_LayoutLeast.f (k : Nat) (l0 : List (S52)) (a1 : Int) (l2 : List Bool) : Option (Bool) := (linotypelaw27_awake.f k).bind fun t302 => (if (l0.length : Int) > 200 then (some t302) else (linotypelaw27_LayoutLeast.l0 k l0 a1 l2 t302 0))
theorem linotypelaw27_LayoutLeast.mono_l : ∀ k, (∀ y0 y1 y2 y3 y4, LeO (linotypelaw27_LayoutLeast.l0 k y0 y1 y2 y3 y4) (linotypelaw27_LayoutLeast.l0 (k + 1) y0 y1 y2 y3 y4)) ∧ (∀ y0 y1 y2 y3 y4 y5 y6, LeO (linotypelaw27_LayoutLeast.j1 k y0 y1 y2 y3 y4 y5 y6) (linotypelaw27_LayoutLeast.j1 (k + 1) y0 y1 y2 y3 y4 y5 y6)) ∧ (∀ y0 y1 y2 y3 y4 y5 y6, LeO (linotypelaw27_LayoutLeast.l1 k y0 y1 y2 y3 y4 y5 y6) (linotypelaw27_LayoutLeast.l1 (k + 1) y0 y1 y2 y3 y4 y5 y6)) ∧ (∀ y0 y1 y2 y3 y4 y5 y6 y7, LeO (linotypelaw27_LayoutLeast.j3 k y0 y1 y2 y3 y4 y5 y6 y7) (linotypelaw27_LayoutLeast.j3 (k + 1) y0 y1 y2 y3 y4 y5 y6 y7))
 | 0 => ⟨fun _ _ _ _ _ r h => by simp [linotypelaw27_LayoutLeast.l0] at h, fun _ _ _ _ _ _ _ r h => by simp [linotypelaw27_LayoutLeast.j1] at h, fun _ _ _ _ _ _ _ r h => by simp [linotypelaw27_LayoutLeast.l1] at h, fun _ _ _ _ _ _ _ _ r h => by simp [linotypelaw27_LayoutLeast.j3] at h⟩
 | k + 1 => by
  obtain ⟨ih0, ih1, ih2, ih3⟩ := linotypelaw27_LayoutLeast.mono_l k
  refine ⟨?_, ?_, ?_, ?_⟩
  ·intro y0 y1 y2 y3 y4
   unfold linotypelaw27_LayoutLeast.l0
   repeat' first
   | (with_reducible exact ih0 _ _ _ _ _)
   | (with_reducible exact ih1 _ _ _ _ _ _ _)
   | (with_reducible exact ih2 _ _ _ _ _ _ _)
   | (with_reducible exact ih3 _ _ _ _ _ _ _ _)
   | (with_reducible exact linotypelaw27_awake.mono _)
   | (with_reducible exact LeO.refl _)
   | (with_reducible exact LeO.none _)
   | (with_reducible refine LeO.ite ?_ ?_)
   | (with_reducible refine LeO.bind ?_ (fun _ => ?_))
   | exact ih0 _ _ _ _ _
   | exact ih1 _ _ _ _ _ _ _
   | exact ih2 _ _ _ _ _ _ _
   | exact ih3 _ _ _ _ _ _ _ _
   | exact linotypelaw27_awake.mono _
   | exact LeO.none _
   | refine LeO.ite ?_ ?_
   | refine LeO.bind ?_ (fun _ => ?_)
  ·intro y0 y1 y2 y3 y4 y5 y6
   unfold linotypelaw27_LayoutLeast.j1
   repeat' first
   | (with_reducible exact ih0 _ _ _ _ _)
   | (with_reducible exact ih1 _ _ _ _ _ _ _)
   | (with_reducible exact ih2 _ _ _ _ _ _ _)
   | (with_reducible exact ih3 _ _ _ _ _ _ _ _)
   | (with_reducible exact linotypelaw27_awake.mono _)
   | (with_reducible exact LeO.refl _)
   | (with_reducible exact LeO.none _)
   | (with_reducible refine LeO.ite ?_ ?_)
   | (with_reducible refine LeO.bind ?_ (fun _ => ?_))
   | exact ih0 _ _ _ _ _
   | exact ih1 _ _ _ _ _ _ _
   | exact ih2 _ _ _ _ _ _ _
   | exact ih3 _ _ _ _ _ _ _ _
   | exact linotypelaw27_awake.mono _
   | exact LeO.none _
   | refine LeO.ite ?_ ?_
   | refine LeO.bind ?_ (fun _ => ?_)
  ·intro y0 y1 y2 y3 y4 y5 y6
   unfold linotypelaw27_LayoutLeast.l1
   repeat' first
   | (with_reducible exact ih0 _ _ _ _ _)
   | (with_reducible exact ih1 _ _ _ _ _ _ _)
   | (with_reducible exact ih2 _ _ _ _ _ _ _)
   | (with_reducible exact ih3 _ _ _ _ _ _ _ _)
   | (with_reducible exact linotypelaw27_awake.mono _)
   | (with_reducible exact LeO.refl _)
   | (with_reducible exact LeO.none _)
   | (with_reducible refine LeO.ite ?_ ?_)
   | (with_reducible refine LeO.bind ?_ (fun _ => ?_))
   | exact ih0 _ _ _ _ _
   | exact ih1 _ _ _ _ _ _ _
   | exact ih2 _ _ _ _ _ _ _
   | exact ih3 _ _ _ _ _ _ _ _
   | exact linotypelaw27_awake.mono _
   | exact LeO.none _
   | refine LeO.ite ?_ ?_
   | refine LeO.bind ?_ (fun _ => ?_)
  ·intro y0 y1 y2 y3 y4 y5 y6 y7
   unfold linotypelaw27_LayoutLeast.j3
   repeat' first
   | (with_reducible exact ih0 _ _ _ _ _)
   | (with_reducible exact ih1 _ _ _ _ _ _ _)
   | (with_reducible exact ih2 _ _ _ _ _ _ _)
   | (with_reducible exact ih3 _ _ _ _ _ _ _ _)
   | (with_reducible exact linotypelaw27_awake.mono _)
   | (with_reducible exact LeO.refl _)
   | (with_reducible exact LeO.none _)
   | (with_reducible refine LeO.ite ?_ ?_)
   | (with_reducible refine LeO.bind ?_ (fun _ => ?_))
   | exact ih0 _ _ _ _ _
   | exact ih1 _ _ _ _ _ _ _
   | exact ih2 _ _ _ _ _ _ _
   | exact ih3 _ _ _ _ _ _ _ _
   | exact linotypelaw27_awake.mono _
   | exact LeO.none _
   | refine LeO.ite ?_ ?_
   | refine LeO.bind ?_ (fun _ => ?_)
theorem linotypelaw27_LayoutLeast.mono : ∀ a0 a1 a2 k, LeO (linotypelaw27_LayoutLeast.f k a0 a1 a2) (linotypelaw27_LayoutLeast.f (k + 1) a0 a1 a2) := by
 intro a0 a1 a2 k
 obtain ⟨ih0, ih1, ih2, ih3⟩ := linotypelaw27_LayoutLeast.mono_l k
 unfold linotypelaw27_LayoutLeast.f
 repeat' first
   | (with_reducible exact ih0 _ _ _ _ _)
   | (with_reducible exact ih1 _ _ _ _ _ _ _)
   | (with_reducible exact ih2 _ _ _ _ _ _ _)
   | (with_reducible exact ih3 _ _ _ _ _ _ _ _)
   | (with_reducible exact linotypelaw27_awake.mono _)
   | (with_reducible exact LeO.refl _)
   | (with_reducible exact LeO.none _)
   | (with_reducible refine LeO.ite ?_ ?_)
   | (with_reducible refine LeO.bind ?_ (fun _ => ?_))
   | exact ih0 _ _ _ _ _
   | exact ih1 _ _ _ _ _ _ _
   | exact ih2 _ _ _ _ _ _ _
   | exact ih3 _ _ _ _ _ _ _ _
   | exact linotypelaw27_awake.mono _
   | exact LeO.none _
   | refine LeO.ite ?_ ?_
   | refine LeO.bind ?_ (fun _ => ?_)
set_option maxHeartbeats 8000000 in
set_option maxRecDepth 100000 in
theorem linotypelaw27_LayoutLeast.calls (k : Nat) (A0 : Option Addr) (c0 : Nat) (l0 : List (S52)) (a1 : Int) (A2 : Option Addr) (c2 : Nat) (l2 : List Bool) (r : Bool) (w : World) (hr0 : Kd.C k52 w A0 l0.length l0) (hc0 : l0.length ≤ c0) (hr2 : Kd.C Kd.bool w A2 l2.length l2) (hc2 : l2.length ≤ c2) (h : linotypelaw27_LayoutLeast.f k l0 a1 l2 = some r) :
  Calls Try.prog 12 #[.slice A0 l0.length c0, .int .i64 a1, .slice A2 l2.length c2] w fun e w' => e = .returned (.bool r) ∧ Below w.heap.size w w' := by
 have hu56 := Try.underlying56
 have HR0 := Aside0.mk hr0
 have HC0 := Aside0.mk hc0
 clear hr0 hc0
 have HR2 := Aside0.mk hr2
 have HC2 := Aside0.mk hc2
 clear hr2 hc2
 have HB := Aside0.mk (Below.refl w.heap.size w)
 have H : ((linotypelaw27_awake.f k).bind fun t302 => (if (l0.length : Int) > 200 then (some t302) else (linotypelaw27_LayoutLeast.l0 k l0 a1 l2 t302 0))) = some r := h
 clear h
 replace H := Option.bind_eq_some_iff.mp H
 obtain ⟨t302, A40, H⟩ := H
 replace H : (if (l0.length : Int) > 200 then (some t302) else (linotypelaw27_LayoutLeast.l0 k l0 a1 l2 t302 0)) = some r := H
 have A4 := Aside0.mk A40
 clear A40
 by_cases c5 : (l0.length : Int) > 200
 ·rw [if_pos c5] at H
  have c5b0 : decide (200 < (l0.length : Int)) = true := decide_eq_true c5
  have c5b1 : decide (200 < l0.length) = true := decide_eq_true (by omega)
  clear c5
  obtain rfl := Option.some.inj H
  go_enter Try.func12, Try.ntmps12
  go_wp2_with (first | ((with_reducible refine gate_callee (f := 40) rfl ?_); refine goesL_ (some 12) rfl rfl Try.func40 (by kernel_rfl) rfl #[] rfl (by (try simp only [List.map_toArray, List.map_cons, List.map_nil]); first | done | rfl | (simp only [List.length_drop, List.length_take]; rfl)) ?_; (with_reducible refine (linotypelaw27_awake.calls k  t302 _ A4.out).mono ?_); rintro e w6 ⟨rfl, hb⟩; refine ⟨_, rfl, ?_⟩; have n0_ := Aside0.mk (below_step (by repeat (first | (with_reducible first | exact HB.out | apply below_alloc | apply pw_below_drewN | apply below_drew1) | exact HB.out)) hb); clear HB; have HB := n0_; clear n0_; (try clear hb); (try clear hb2); (try clear hk); (try clear hi)))
  go_ret
  exact ⟨by first | rfl | (simp [errW_none, errW_some] <;> rfl) | (simp [*, errW_none, errW_some] <;> rfl), by repeat (first | (with_reducible first | exact HB.out | apply below_alloc | apply pw_below_drewN | apply below_drew1) | exact HB.out)⟩
 ·rw [if_neg c5] at H
  have c5b0 : decide (200 < (l0.length : Int)) = false := decide_eq_false c5
  have c5b1 : decide (200 < l0.length) = false := decide_eq_false (by omega)
  clear c5
  have H' := Aside0.mk H
  clear H
  go_enter Try.func12, Try.ntmps12
  go_wp2_with (first | ((with_reducible refine gate_callee (f := 40) rfl ?_); refine goesL_ (some 12) rfl rfl Try.func40 (by kernel_rfl) rfl #[] rfl (by (try simp only [List.map_toArray, List.map_cons, List.map_nil]); first | done | rfl | (simp only [List.length_drop, List.length_take]; rfl)) ?_; (with_reducible refine (linotypelaw27_awake.calls k  t302 _ A4.out).mono ?_); rintro e w7 ⟨rfl, hb⟩; refine ⟨_, rfl, ?_⟩; have n0_ := Aside0.mk (below_step (by repeat (first | (with_reducible first | exact HB.out | apply below_alloc | apply pw_below_drewN | apply below_drew1) | exact HB.out)) hb); clear HB; have HB := n0_; clear n0_; (try clear hb); (try clear hb2); (try clear hk); (try clear hi)))
  go_loopg [8] k (fun kq v8 w' => ∃ (x8_1 : Int), v8 = .int .i64 x8_1 ∧ Aside0 (linotypelaw27_LayoutLeast.l0 kq l0 a1 l2 t302 x8_1 = some r) ∧ Aside0 (kq ≤ k) ∧ Aside0 (Below w.heap.size w w'))
  case atStart => exact ⟨(0), (by first | rfl | (simp; done) | (simp [*]; done)), H', ⟨Nat.le_refl _⟩, ⟨by repeat (first | (with_reducible first | exact HB.out | apply below_alloc | apply pw_below_drewN | apply below_drew1) | exact HB.out)⟩⟩
  case round =>
   clear H'
   try clear c1
   try clear c2
   try clear p2
   try clear c4
   try clear c5
   try clear c5b0
   try clear c5b1
   obtain ⟨x8_1, rfl, HA, HK1, HB⟩ := hrel
   cases gk with
   | zero => exact absurd HA.out (by simp [linotypelaw27_LayoutLeast.l0])
   | succ k1 =>
    have H := HA.out
    clear HA
    simp only [linotypelaw27_LayoutLeast.l0] at H
    by_cases c8 : x8_1 < (l0.length : Int)
    ·rw [if_pos c8] at H
     have c8b0 : decide (x8_1 < (l0.length : Int)) = true := decide_eq_true c8
     clear c8
     by_cases c9 : 0 ≤ x8_1
     ·rw [if_pos c9] at H
      have c9b0 : decide (0 ≤ x8_1) = true := decide_eq_true c9
      clear c9
      by_cases c10 : ((rd_T52 l0 x8_1).f0) = 3
      ·rw [if_pos c10] at H
       have c10b0 : (((rd_T52 l0 x8_1).f0) == 3) = true := beq_iff_eq.mpr c10
       have c10b1 : (((rd_T52 l0 x8_1).f0) != 3) = false := bne_eq_false_iff_eq.mpr c10
       clear c10
       obtain rfl := Option.some.inj H
       have p303 : 0 ≤ (x8_1 : Int) := of_decide_eq_true (by first | (with_reducible assumption) | assumption)
       have q303 : x8_1 < (l0.length : Int) := of_decide_eq_true (by first | (with_reducible assumption) | assumption)
       obtain ⟨ad303, e303, hx303_0, hx303_1, hx303_2, hx303_3, hx303_4, hx303_5, hx303_6⟩ := at_T52 HR0.out x8_1 p303 q303
       cases e303
       replace hx303_0 := (HB.out.cell (World.block_lt_of_cell? w _ hx303_0)).trans hx303_0
       replace hx303_1 := (HB.out.cell (World.block_lt_of_cell? w _ hx303_1)).trans hx303_1
       replace hx303_2 := (HB.out.cell (World.block_lt_of_cell? w _ hx303_2)).trans hx303_2
       replace hx303_3 := (HB.out.cell (World.block_lt_of_cell? w _ hx303_3)).trans hx303_3
       replace hx303_4 := (HB.out.cell (World.block_lt_of_cell? w _ hx303_4)).trans hx303_4
       replace hx303_5 := (HB.out.cell (World.block_lt_of_cell? w _ hx303_5)).trans hx303_5
       replace hx303_6 := (HB.out.cell (World.block_lt_of_cell? w _ hx303_6)).trans hx303_6
       replace p303 := eq_true p303
       replace q303 := eq_true q303
       go_wp2
       go_ret
       exact ⟨by first | rfl | (simp [errW_none, errW_some] <;> rfl) | (simp [*, errW_none, errW_some] <;> rfl), by repeat (first | (with_reducible first | exact HB.out | apply below_alloc | apply pw_below_drewN | apply below_drew1) | exact HB.out)⟩
      ·rw [if_neg c10] at H
       have c10b0 : (((rd_T52 l0 x8_1).f0) == 3) = false := beq_eq_false_iff_ne.mpr c10
       have c10b1 : (((rd_T52 l0 x8_1).f0) != 3) = true := bne_iff_ne.mpr c10
       by_cases c11 : ((rd_T52 l0 x8_1).f0) = 2
       ·rw [if_pos c11] at H
        have c11b0 : (((rd_T52 l0 x8_1).f0) == 2) = true := beq_iff_eq.mpr c11
        have c11b1 : (((rd_T52 l0 x8_1).f0) != 2) = false := bne_eq_false_iff_eq.mpr c11
        clear c11
        by_cases c12 : ((rd_T52 l0 x8_1).f5) = 0
        ·rw [if_pos c12] at H
         have c12b0 : (((rd_T52 l0 x8_1).f5) == 0) = true := beq_iff_eq.mpr c12
         have c12b1 : (((rd_T52 l0 x8_1).f5) != 0) = false := bne_eq_false_iff_eq.mpr c12
         clear c12
         have H' := Aside0.mk H
         clear H
         have p303 : 0 ≤ (x8_1 : Int) := of_decide_eq_true (by first | (with_reducible assumption) | assumption)
         have q303 : x8_1 < (l0.length : Int) := of_decide_eq_true (by first | (with_reducible assumption) | assumption)
         obtain ⟨ad303, e303, hx303_0, hx303_1, hx303_2, hx303_3, hx303_4, hx303_5, hx303_6⟩ := at_T52 HR0.out x8_1 p303 q303
         cases e303
         replace hx303_0 := (HB.out.cell (World.block_lt_of_cell? w _ hx303_0)).trans hx303_0
         replace hx303_1 := (HB.out.cell (World.block_lt_of_cell? w _ hx303_1)).trans hx303_1
         replace hx303_2 := (HB.out.cell (World.block_lt_of_cell? w _ hx303_2)).trans hx303_2
         replace hx303_3 := (HB.out.cell (World.block_lt_of_cell? w _ hx303_3)).trans hx303_3
         replace hx303_4 := (HB.out.cell (World.block_lt_of_cell? w _ hx303_4)).trans hx303_4
         replace hx303_5 := (HB.out.cell (World.block_lt_of_cell? w _ hx303_5)).trans hx303_5
         replace hx303_6 := (HB.out.cell (World.block_lt_of_cell? w _ hx303_6)).trans hx303_6
         replace p303 := eq_true p303
         replace q303 := eq_true q303
         have p304 : 0 ≤ (x8_1 : Int) := of_decide_eq_true (by first | (with_reducible assumption) | assumption)
         have q304 : x8_1 < (l0.length : Int) := of_decide_eq_true (by first | (with_reducible assumption) | assumption)
         obtain ⟨ad304, e304, hx304_0, hx304_1, hx304_2, hx304_3, hx304_4, hx304_5, hx304_6⟩ := at_T52 HR0.out x8_1 p304 q304
         obtain rfl : ad303 = ad304 := (by injection e304)
         replace hx304_0 := (HB.out.cell (World.block_lt_of_cell? w _ hx304_0)).trans hx304_0
         replace hx304_1 := (HB.out.cell (World.block_lt_of_cell? w _ hx304_1)).trans hx304_1
         replace hx304_2 := (HB.out.cell (World.block_lt_of_cell? w _ hx304_2)).trans hx304_2
         replace hx304_3 := (HB.out.cell (World.block_lt_of_cell? w _ hx304_3)).trans hx304_3
         replace hx304_4 := (HB.out.cell (World.block_lt_of_cell? w _ hx304_4)).trans hx304_4
         replace hx304_5 := (HB.out.cell (World.block_lt_of_cell? w _ hx304_5)).trans hx304_5
         replace hx304_6 := (HB.out.cell (World.block_lt_of_cell? w _ hx304_6)).trans hx304_6
         replace p304 := eq_true p304
         replace q304 := eq_true q304
         have p305 : 0 ≤ (x8_1 : Int) := of_decide_eq_true (by first | (with_reducible assumption) | assumption)
         have q305 : x8_1 < (l0.length : Int) := of_decide_eq_true (by first | (with_reducible assumption) | assumption)
         obtain ⟨ad305, e305, hx305_0, hx305_1, hx305_2, hx305_3, hx305_4, hx305_5, hx305_6⟩ := at_T52 HR0.out x8_1 p305 q305
         obtain rfl : ad303 = ad305 := (by injection e305)
         replace hx305_0 := (HB.out.cell (World.block_lt_of_cell? w _ hx305_0)).trans hx305_0
         replace hx305_1 := (HB.out.cell (World.block_lt_of_cell? w _ hx305_1)).trans hx305_1
         replace hx305_2 := (HB.out.cell (World.block_lt_of_cell? w _ hx305_2)).trans hx305_2
         replace hx305_3 := (HB.out.cell (World.block_lt_of_cell? w _ hx305_3)).trans hx305_3
         replace hx305_4 := (HB.out.cell (World.block_lt_of_cell? w _ hx305_4)).trans hx305_4
         replace hx305_5 := (HB.out.cell (World.block_lt_of_cell? w _ hx305_5)).trans hx305_5
         replace hx305_6 := (HB.out.cell (World.block_lt_of_cell? w _ hx305_6)).trans hx305_6
         replace p305 := eq_true p305
         replace q305 := eq_true q305
         go_wp2
         go_roundg k1
         case measure => have := HK1.out; omega
         case rel => exact ⟨(wrap64 (x8_1 + 1)), (by first | rfl | (simp; done) | (simp [*]; done)), H', ⟨by have := HK1.out; omega⟩, ⟨by repeat (first | (with_reducible first | exact HB.out | apply below_alloc | apply pw_below_drewN | apply below_drew1) | exact HB.out)⟩⟩
        ·rw [if_neg c12] at H
         have c12b0 : (((rd_T52 l0 x8_1).f5) == 0) = false := beq_eq_false_iff_ne.mpr c12
         have c12b1 : (((rd_T52 l0 x8_1).f5) != 0) = true := bne_iff_ne.mpr c12
         obtain rfl := Option.some.inj H
         have p303 : 0 ≤ (x8_1 : Int) := of_decide_eq_true (by first | (with_reducible assumption) | assumption)
         have q303 : x8_1 < (l0.length : Int) := of_decide_eq_true (by first | (with_reducible assumption) | assumption)
         obtain ⟨ad303, e303, hx303_0, hx303_1, hx303_2, hx303_3, hx303_4, hx303_5, hx303_6⟩ := at_T52 HR0.out x8_1 p303 q303
         cases e303
         replace hx303_0 := (HB.out.cell (World.block_lt_of_cell? w _ hx303_0)).trans hx303_0
         replace hx303_1 := (HB.out.cell (World.block_lt_of_cell? w _ hx303_1)).trans hx303_1
         replace hx303_2 := (HB.out.cell (World.block_lt_of_cell? w _ hx303_2)).trans hx303_2
         replace hx303_3 := (HB.out.cell (World.block_lt_of_cell? w _ hx303_3)).trans hx303_3
         replace hx303_4 := (HB.out.cell (World.block_lt_of_cell? w _ hx303_4)).trans hx303_4
         replace hx303_5 := (HB.out.cell (World.block_lt_of_cell? w _ hx303_5)).trans hx303_5
         replace hx303_6 := (HB.out.cell (World.block_lt_of_cell? w _ hx303_6)).trans hx303_6
         replace p303 := eq_true p303
         replace q303 := eq_true q303
         have p304 : 0 ≤ (x8_1 : Int) := of_decide_eq_true (by first | (with_reducible assumption) | assumption)
         have q304 : x8_1 < (l0.length : Int) := of_decide_eq_true (by first | (with_reducible assumption) | assumption)
         obtain ⟨ad304, e304, hx304_0, hx304_1, hx304_2, hx304_3, hx304_4, hx304_5, hx304_6⟩ := at_T52 HR0.out x8_1 p304 q304
         obtain rfl : ad303 = ad304 := (by injection e304)
         replace hx304_0 := (HB.out.cell (World.block_lt_of_cell? w _ hx304_0)).trans hx304_0
         replace hx304_1 := (HB.out.cell (World.block_lt_of_cell? w _ hx304_1)).trans hx304_1
         replace hx304_2 := (HB.out.cell (World.block_lt_of_cell? w _ hx304_2)).trans hx304_2
         replace hx304_3 := (HB.out.cell (World.block_lt_of_cell? w _ hx304_3)).trans hx304_3
         replace hx304_4 := (HB.out.cell (World.block_lt_of_cell? w _ hx304_4)).trans hx304_4
         replace hx304_5 := (HB.out.cell (World.block_lt_of_cell? w _ hx304_5)).trans hx304_5
         replace hx304_6 := (HB.out.cell (World.block_lt_of_cell? w _ hx304_6)).trans hx304_6
         replace p304 := eq_true p304
         replace q304 := eq_true q304
         have p305 : 0 ≤ (x8_1 : Int) := of_decide_eq_true (by first | (with_reducible assumption) | assumption)
         have q305 : x8_1 < (l0.length : Int) := of_decide_eq_true (by first | (with_reducible assumption) | assumption)
         obtain ⟨ad305, e305, hx305_0, hx305_1, hx305_2, hx305_3, hx305_4, hx305_5, hx305_6⟩ := at_T52 HR0.out x8_1 p305 q305
         obtain rfl : ad303 = ad305 := (by injection e305)
         replace hx305_0 := (HB.out.cell (World.block_lt_of_cell? w _ hx305_0)).trans hx305_0
         replace hx305_1 := (HB.out.cell (World.block_lt_of_cell? w _ hx305_1)).trans hx305_1
         replace hx305_2 := (HB.out.cell (World.block_lt_of_cell? w _ hx305_2)).trans hx305_2
         replace hx305_3 := (HB.out.cell (World.block_lt_of_cell? w _ hx305_3)).trans hx305_3
         replace hx305_4 := (HB.out.cell (World.block_lt_of_cell? w _ hx305_4)).trans hx305_4
         replace hx305_5 := (HB.out.cell (World.block_lt_of_cell? w _ hx305_5)).trans hx305_5
         replace hx305_6 := (HB.out.cell (World.block_lt_of_cell? w _ hx305_6)).trans hx305_6
         replace p305 := eq_true p305
         replace q305 := eq_true q305
         go_wp2
         go_ret
         exact ⟨by first | rfl | (simp [errW_none, errW_some] <;> rfl) | (simp [*, errW_none, errW_some] <;> rfl), by repeat (first | (with_reducible first | exact HB.out | apply below_alloc | apply pw_below_drewN | apply below_drew1) | exact HB.out)⟩
       ·rw [if_neg c11] at H
        have c11b0 : (((rd_T52 l0 x8_1).f0) == 2) = false := beq_eq_false_iff_ne.mpr c11
        have c11b1 : (((rd_T52 l0 x8_1).f0) != 2) = true := bne_iff_ne.mpr c11
        have H' := Aside0.mk H
        clear H
        have p303 : 0 ≤ (x8_1 : Int) := of_decide_eq_true (by first | (with_reducible assumption) | assumption)
        have q303 : x8_1 < (l0.length : Int) := of_decide_eq_true (by first | (with_reducible assumption) | assumption)
        obtain ⟨ad303, e303, hx303_0, hx303_1, hx303_2, hx303_3, hx303_4, hx303_5, hx303_6⟩ := at_T52 HR0.out x8_1 p303 q303
        cases e303
        replace hx303_0 := (HB.out.cell (World.block_lt_of_cell? w _ hx303_0)).trans hx303_0
        replace hx303_1 := (HB.out.cell (World.block_lt_of_cell? w _ hx303_1)).trans hx303_1
        replace hx303_2 := (HB.out.cell (World.block_lt_of_cell? w _ hx303_2)).trans hx303_2
        replace hx303_3 := (HB.out.cell (World.block_lt_of_cell? w _ hx303_3)).trans hx303_3
        replace hx303_4 := (HB.out.cell (World.block_lt_of_cell? w _ hx303_4)).trans hx303_4
        replace hx303_5 := (HB.out.cell (World.block_lt_of_cell? w _ hx303_5)).trans hx303_5
        replace hx303_6 := (HB.out.cell (World.block_lt_of_cell? w _ hx303_6)).trans hx303_6
        replace p303 := eq_true p303
        replace q303 := eq_true q303
        have p304 : 0 ≤ (x8_1 : Int) := of_decide_eq_true (by first | (with_reducible assumption) | assumption)
        have q304 : x8_1 < (l0.length : Int) := of_decide_eq_true (by first | (with_reducible assumption) | assumption)
        obtain ⟨ad304, e304, hx304_0, hx304_1, hx304_2, hx304_3, hx304_4, hx304_5, hx304_6⟩ := at_T52 HR0.out x8_1 p304 q304
        obtain rfl : ad303 = ad304 := (by injection e304)
        replace hx304_0 := (HB.out.cell (World.block_lt_of_cell? w _ hx304_0)).trans hx304_0
        replace hx304_1 := (HB.out.cell (World.block_lt_of_cell? w _ hx304_1)).trans hx304_1
        replace hx304_2 := (HB.out.cell (World.block_lt_of_cell? w _ hx304_2)).trans hx304_2
        replace hx304_3 := (HB.out.cell (World.block_lt_of_cell? w _ hx304_3)).trans hx304_3
        replace hx304_4 := (HB.out.cell (World.block_lt_of_cell? w _ hx304_4)).trans hx304_4
        replace hx304_5 := (HB.out.cell (World.block_lt_of_cell? w _ hx304_5)).trans hx304_5
        replace hx304_6 := (HB.out.cell (World.block_lt_of_cell? w _ hx304_6)).trans hx304_6
        replace p304 := eq_true p304
        replace q304 := eq_true q304
        go_wp2
        go_roundg k1
        case measure => have := HK1.out; omega
        case rel => exact ⟨(wrap64 (x8_1 + 1)), (by first | rfl | (simp; done) | (simp [*]; done)), H', ⟨by have := HK1.out; omega⟩, ⟨by repeat (first | (with_reducible first | exact HB.out | apply below_alloc | apply pw_below_drewN | apply below_drew1) | exact HB.out)⟩⟩
     ·rw [if_neg c9] at H
      exact absurd H (by simp)
    ·rw [if_neg c8] at H
     have c8b0 : decide (x8_1 < (l0.length : Int)) = false := decide_eq_false c8
     clear c8
     replace H := Option.bind_eq_some_iff.mp H
     obtain ⟨⟨t306, t309, t312, t313⟩, A130, H⟩ := H
     replace H : (if t313 = 0 then ((layout_Fits.f l0 a1 l2).bind fun t315 => (linotypelaw27_LayoutLeast.j1 k1 l0 l2 t302 (!t315) t306 t309 t312)) else (linotypelaw27_LayoutLeast.j1 k1 l0 l2 t302 true t306 t309 t312)) = some r := H
     have A13 := Aside0.mk A130
     clear A130
     have HC14 := Aside0.mk H
     clear H
     go_upto_region 10 with (first | ((with_reducible refine gate_callee (f := 41) rfl ?_); refine goesL_ (some 49) rfl rfl Try.func41 (by kernel_rfl) rfl #[.slice A0 l0.length c0, .int .i64 a1] rfl (by (try simp only [List.map_toArray, List.map_cons, List.map_nil]); first | done | rfl | (simp only [List.length_drop, List.length_take]; rfl)) ?_; (with_reducible refine (layout_Plan.calls _ _ l0 a1 t306 t309 t312 t313 _ ?side1 ?side2 A13.out).mono ?_); (case side1 => repeat (first | exact (Kd.C_below HR0.out HB.out) | (with_reducible refine Kd.C_alloc ?_ _) | (with_reducible refine Kd.C_drewN ?_ _) | (with_reducible refine Kd.C_drew ?_))); (case side2 => exact HC0.out); rintro e w15 ⟨v307, v310, rfl, ho0, ho1, hb⟩; refine ⟨_, rfl, ?_⟩; have n0_ := Aside0.mk (Kd.R_lower ho0 (below_size (by repeat (first | (with_reducible first | exact HB.out | apply below_alloc | apply pw_below_drewN | apply below_drew1) | exact HB.out)))); have n1_ := Aside0.mk (Kd.R_lower ho1 (below_size (by repeat (first | (with_reducible first | exact HB.out | apply below_alloc | apply pw_below_drewN | apply below_drew1) | exact HB.out)))); have n2_ := Aside0.mk (below_step (by repeat (first | (with_reducible first | exact HB.out | apply below_alloc | apply pw_below_drewN | apply below_drew1) | exact HB.out)) hb); clear HB; have HO308 := n0_; have HO311 := n1_; have HB := n2_; clear n0_ n1_ n2_; (try clear hb); (try clear hb2); (try clear hk); (try clear hi); (try clear ho0); (try clear ho1)) | ((with_reducible refine gate_dst (N := 9) rfl ?_); (try (refine gate_guard (by rfl) ?_; dsimp only)); refine box_event ?hg (N := 9) ?hd (cs := #[.slice none 0 0, .slice none 0 0, .int .i64 0]) (t := 56) ?hr ?_; (case hd => rfl); (case hg => rfl); (case hr => first | (go_simp; done) | (go_simp; rfl)); intro gb314 hg w16 hbox hb; have n0_ := Aside0.mk (Kd.R_below (by (with_reducible repeat (first | apply Kd.R_alloc | apply Kd.R_drewN | apply Kd.R_drew)); exact HO308.out) hb); have n1_ := Aside0.mk (Kd.R_below (by (with_reducible repeat (first | apply Kd.R_alloc | apply Kd.R_drewN | apply Kd.R_drew)); exact HO311.out) hb); have n2_ := Aside0.mk (below_step (by repeat (first | (with_reducible first | exact HB.out | apply below_alloc | apply pw_below_drewN | apply below_drew1) | exact HB.out)) hb); have n3_ := Aside0.mk (hbox); have n4_ := Aside0.mk ((by rw [hg]; exact (below_size (by repeat (first | (with_reducible first | exact HB.out | apply below_alloc | apply pw_below_drewN | apply below_drew1) | exact HB.out))) : w.heap.size ≤ gb314)); have n5_ := Aside0.mk ((by rw [hg]; exact (below_size (by repeat (first | (with_reducible first | exact HB.out | apply below_alloc | apply pw_below_drewN | apply below_drew1) | exact HB.out))) : w.heap.size ≤ gb314)); clear HO308; clear HO311; clear HB; have HO308 := n0_; have HO311 := n1_; have HB := n2_; have BK314 := n3_; have GW314 := n4_; have GE314 := n5_; clear n0_ n1_ n2_ n3_ n4_ n5_; clear hb hbox hg; obtain ⟨Ao17, co17, eo17⟩ := Kd.R_slice HO308.out; subst eo17; have hcz18_0 : w16.cell? ⟨gb314, 0, none⟩ = some (.slice none 0 0) := (blk_cell BK314.out 0).trans rfl; have hcz18_1 : w16.cell? ⟨gb314, 1, none⟩ = some (.slice none 0 0) := (blk_cell BK314.out 1).trans rfl; have hcz18_2 : w16.cell? ⟨gb314, 2, none⟩ = some (.int .i64 0) := (blk_cell BK314.out 2).trans rfl; have hfz18_0 := blk_frozen BK314.out 0; have hfz18_1 := blk_frozen BK314.out 1; have hfz18_2 := blk_frozen BK314.out 2; obtain ⟨Ao19, co19, eo19⟩ := Kd.R_slice HO311.out; subst eo19))
     (try simp only [Act.put, List.setIfInBounds_toArray, List.set_cons_zero, List.set_cons_succ])
     go_cut [60] (fun v60 wc => ∃ (kq : Nat) (x60_13 : Bool), v60 = .bool x60_13 ∧ Aside0 (linotypelaw27_LayoutLeast.j1 kq l0 l2 t302 x60_13 t306 t309 t312 = some r) ∧ Aside0 (kq ≤ k1) ∧ Aside0 (Kd.R (Kd.int .i64) 3 wc w.heap.size (fun _ => True) (.slice Ao17 t306.length co17) t306) ∧ Aside0 (Kd.R Kd.bool 4 wc w.heap.size (fun _ => True) (.slice Ao19 t309.length co19) t309) ∧ Aside0 (wc.heap[gb314]? = some (.cells #[(.slice Ao17 t306.length co17), (.slice Ao19 t309.length co19), .int .i64 t312] 56 (0, 0))) ∧ Aside0 (Below w.heap.size w wc))
     case first =>
      have H := HC14.out
      clear HC14
      by_cases c20 : t313 = 0
      ·rw [if_pos c20] at H
       have c20b0 : (t313 == 0) = true := beq_iff_eq.mpr c20
       have c20b1 : (t313 != 0) = false := bne_eq_false_iff_eq.mpr c20
       clear c20
       (first | rw [c20b0] | (simp only [i64_w, i32_w]; rw [c20b0]) | skip)
       replace H := Option.bind_eq_some_iff.mp H
       obtain ⟨t315, A210, H⟩ := H
       replace H : (linotypelaw27_LayoutLeast.j1 k1 l0 l2 t302 (!t315) t306 t309 t312) = some r := H
       have A21 := Aside0.mk A210
       clear A210
       have H' := Aside0.mk H
       clear H
       go_wp2_with (first | (go_at_call 54; (with_reducible refine (layout_Fits.calls _ _ l0 a1 _ _ l2 t315 _ ?side1 ?side2 ?side3 ?side4 A21.out).mono ?_); (case side1 => exact Kd.C_below HR0.out (by repeat (first | (with_reducible first | exact HB.out | apply below_alloc | apply pw_below_drewN | apply below_drew1 | refine below_set ?_ GE314.out) | exact HB.out))); (case side2 => exact HC0.out); (case side3 => exact Kd.C_below HR2.out (by repeat (first | (with_reducible first | exact HB.out | apply below_alloc | apply pw_below_drewN | apply below_drew1 | refine below_set ?_ GE314.out) | exact HB.out))); (case side4 => exact HC2.out); rintro e w22 ⟨rfl, hb⟩; have n0_ := Aside0.mk (Kd.R_below (by (with_reducible repeat (first | apply Kd.R_alloc | apply Kd.R_drewN | apply Kd.R_drew)); exact (Kd.R_mono (Kd.R_far (p := ⟨gb314, 2, none⟩) (Kd.R_far (p := ⟨gb314, 1, none⟩) (Kd.R_far (p := ⟨gb314, 0, none⟩) (Kd.R_types HO308.out BK314.out (by decide)) (fun _ hk => hk.2) (.slice Ao17 t306.length co17)) (fun _ hk => hk.2) (.slice Ao19 t309.length co19)) (fun _ hk => hk.2) (.int .i64 t312)) (fun _ h_ => h_.1))) hb); have n1_ := Aside0.mk (Kd.R_below (by (with_reducible repeat (first | apply Kd.R_alloc | apply Kd.R_drewN | apply Kd.R_drew)); exact (Kd.R_mono (Kd.R_far (p := ⟨gb314, 2, none⟩) (Kd.R_far (p := ⟨gb314, 1, none⟩) (Kd.R_far (p := ⟨gb314, 0, none⟩) (Kd.R_types HO311.out BK314.out (by decide)) (fun _ hk => hk.2) (.slice Ao17 t306.length co17)) (fun _ hk => hk.2) (.slice Ao19 t309.length co19)) (fun _ hk => hk.2) (.int .i64 t312)) (fun _ h_ => h_.1))) hb); have n2_ := Aside0.mk (blk_below (g := gb314) (o := .cells #[.slice Ao17 t306.length co17, .slice Ao19 t309.length co19, .int .i64 t312] 56 (0, 0)) (by (with_reducible repeat (first | refine blk_drewN ?_ _ | refine blk_drew ?_ | refine blk_alloc ?_ _)); refine blk_put (cs := #[.slice Ao17 t306.length co17, .slice Ao19 t309.length co19, .int .i64 0]) ?_ 2 _ rfl; (with_reducible repeat (first | refine blk_drewN ?_ _ | refine blk_drew ?_ | refine blk_alloc ?_ _)); refine blk_put (cs := #[.slice Ao17 t306.length co17, .slice none 0 0, .int .i64 0]) ?_ 1 _ rfl; (with_reducible repeat (first | refine blk_drewN ?_ _ | refine blk_drew ?_ | refine blk_alloc ?_ _)); refine blk_put (cs := #[.slice none 0 0, .slice none 0 0, .int .i64 0]) ?_ 0 _ rfl; (with_reducible repeat (first | refine blk_drewN ?_ _ | refine blk_drew ?_ | refine blk_alloc ?_ _)); exact BK314.out) hb); have n3_ := Aside0.mk (below_step (by repeat (first | (with_reducible first | exact HB.out | apply below_alloc | apply pw_below_drewN | apply below_drew1 | refine below_set ?_ GE314.out) | exact HB.out)) hb); clear HO308; clear HO311; clear BK314; clear HB; have HO308 := n0_; have HO311 := n1_; have BK314 := n2_; have HB := n3_; clear n0_ n1_ n2_ n3_; (try clear hb); (try clear hb2); (try clear hk); (try clear hi)))
       go_meet
       case rel => exact ⟨_, (!t315), (by first | rfl | (simp; done) | (simp [*]; done)), H', ⟨by have := HK1.out; first | omega | exact Nat.le_refl _⟩, ⟨by (with_reducible repeat (first | apply Kd.R_alloc | apply Kd.R_drewN | apply Kd.R_drew)); exact HO308.out⟩, ⟨by (with_reducible repeat (first | apply Kd.R_alloc | apply Kd.R_drewN | apply Kd.R_drew)); exact HO311.out⟩, ⟨by (with_reducible repeat (first | refine blk_drewN ?_ _ | refine blk_drew ?_ | refine blk_alloc ?_ _)); exact BK314.out⟩, ⟨by repeat (first | (with_reducible first | exact HB.out | apply below_alloc | apply pw_below_drewN | apply below_drew1 | refine below_set ?_ GE314.out) | exact HB.out)⟩⟩
      ·rw [if_neg c20] at H
       have c20b0 : (t313 == 0) = false := beq_eq_false_iff_ne.mpr c20
       have c20b1 : (t313 != 0) = true := bne_iff_ne.mpr c20
       (first | rw [c20b0] | (simp only [i64_w, i32_w]; rw [c20b0]) | skip)
       have H' := Aside0.mk H
       clear H
       go_wp2
       go_meet
       case rel => exact ⟨_, (true), (by first | rfl | (simp; done) | (simp [*]; done)), H', ⟨by have := HK1.out; first | omega | exact Nat.le_refl _⟩, ⟨by (with_reducible repeat (first | apply Kd.R_alloc | apply Kd.R_drewN | apply Kd.R_drew)); exact Kd.R_mono (Kd.R_far (p := ⟨gb314, 2, none⟩) (Kd.R_far (p := ⟨gb314, 1, none⟩) (Kd.R_far (p := ⟨gb314, 0, none⟩) (Kd.R_types HO308.out BK314.out (by decide)) (fun _ hk => hk.2) (.slice Ao17 t306.length co17)) (fun _ hk => hk.2) (.slice Ao19 t309.length co19)) (fun _ hk => hk.2) (.int .i64 t312)) (fun _ hk => trivial)⟩, ⟨by (with_reducible repeat (first | apply Kd.R_alloc | apply Kd.R_drewN | apply Kd.R_drew)); exact Kd.R_mono (Kd.R_far (p := ⟨gb314, 2, none⟩) (Kd.R_far (p := ⟨gb314, 1, none⟩) (Kd.R_far (p := ⟨gb314, 0, none⟩) (Kd.R_types HO311.out BK314.out (by decide)) (fun _ hk => hk.2) (.slice Ao17 t306.length co17)) (fun _ hk => hk.2) (.slice Ao19 t309.length co19)) (fun _ hk => hk.2) (.int .i64 t312)) (fun _ hk => trivial)⟩, ⟨by (with_reducible repeat (first | refine blk_drewN ?_ _ | refine blk_drew ?_ | refine blk_alloc ?_ _)); refine blk_put (cs := #[.slice Ao17 t306.length co17, .slice Ao19 t309.length co19, .int .i64 0]) ?_ 2 _ rfl; (with_reducible repeat (first | refine blk_drewN ?_ _ | refine blk_drew ?_ | refine blk_alloc ?_ _)); refine blk_put (cs := #[.slice Ao17 t306.length co17, .slice none 0 0, .int .i64 0]) ?_ 1 _ rfl; (with_reducible repeat (first | refine blk_drewN ?_ _ | refine blk_drew ?_ | refine blk_alloc ?_ _)); refine blk_put (cs := #[.slice none 0 0, .slice none 0 0, .int .i64 0]) ?_ 0 _ rfl; (with_reducible repeat (first | refine blk_drewN ?_ _ | refine blk_drew ?_ | refine blk_alloc ?_ _)); exact BK314.out⟩, ⟨by repeat (first | (with_reducible first | exact HB.out | apply below_alloc | apply pw_below_drewN | apply below_drew1 | refine below_set ?_ GE314.out) | exact HB.out)⟩⟩
     case rest =>
      clear HC14
      try clear c1
      try clear c2
      try clear p2
      try clear p3
      try clear q3
      try clear hx3
      try clear c4
      try clear c5
      try clear c5b0
      try clear c5b1
      try clear p6
      try clear c8
      try clear c8b0
      try clear c9
      try clear c9b0
      try clear c10
      try clear c10b0
      try clear c10b1
      try clear c11
      try clear c11b0
      try clear c11b1
      try clear c12
      try clear c12b0
      try clear c12b1
      try clear c20
      try clear c20b0
      try clear c20b1
      try clear hcz18_0
      try clear hcz18_1
      try clear hcz18_2
      try clear hfz18_0
      try clear hfz18_1
      try clear hfz18_2
      try clear hx303_0
      try clear hx303_1
      try clear hx303_2
      try clear hx303_3
      try clear hx303_4
      try clear hx303_5
      try clear hx303_6
      try clear hx304_0
      try clear hx304_1
      try clear hx304_2
      try clear hx304_3
      try clear hx304_4
      try clear hx304_5
      try clear hx304_6
      try clear hx305_0
      try clear hx305_1
      try clear hx305_2
      try clear hx305_3
      try clear hx305_4
      try clear hx305_5
      try clear hx305_6
      try clear p2
      try clear p303
      try clear p304
      try clear p305
      try clear q303
      try clear q304
      try clear q305
      obtain ⟨kq, x60_13, rfl, HA, HJ13, HO_315000, HO_315001, BK314, HB⟩ := hcut
      cases kq with
      | zero => exact absurd HA.out (by simp [linotypelaw27_LayoutLeast.j1])
      | succ kj13 =>
       have H := HA.out
       clear HA
       simp only [linotypelaw27_LayoutLeast.j1] at H
       by_cases c23 : x60_13 = true
       ·subst c23
        have H1 : (some t302) = some r := by rw [if_pos rfl] at H; exact H
        clear H
        have H := H1
        clear H1
        obtain rfl := Option.some.inj H
        go_wp2
        go_ret
        exact ⟨by first | rfl | (simp [errW_none, errW_some] <;> rfl) | (simp [*, errW_none, errW_some] <;> rfl), by repeat (first | (with_reducible first | exact HB.out | apply below_alloc | apply pw_below_drewN | apply below_drew1 | refine below_set ?_ GE314.out) | exact HB.out)⟩
       ·replace c23 := Bool.eq_false_iff.mpr c23
        subst c23
        have H1 : (linotypelaw27_LayoutLeast.l1 kj13 l0 l2 t302 0 t306 t309 t312) = some r := by rw [if_neg (show ¬ (false = true) by decide)] at H; exact H
        clear H
        have H := H1
        clear H1
        have H' := Aside0.mk H
        clear H
        go_wp2
        go_loopg [11] kj13 (fun kq v11 w' => ∃ (x11_3 : Int), v11 = .int .i64 x11_3 ∧ Aside0 (linotypelaw27_LayoutLeast.l1 kq l0 l2 t302 x11_3 t306 t309 t312 = some r) ∧ Aside0 (kq ≤ kj13) ∧ Aside0 (Kd.R (Kd.int .i64) 3 w' w.heap.size (fun _ => True) (.slice Ao17 t306.length co17) t306) ∧ Aside0 (Kd.R Kd.bool 4 w' w.heap.size (fun _ => True) (.slice Ao19 t309.length co19) t309) ∧ Aside0 (w'.heap[gb314]? = some (.cells #[(.slice Ao17 t306.length co17), (.slice Ao19 t309.length co19), .int .i64 t312] 56 (0, 0))) ∧ Aside0 (Below w.heap.size w w'))
        case atStart => exact ⟨(0), (by first | rfl | (simp; done) | (simp [*]; done)), H', ⟨Nat.le_refl _⟩, ⟨by (with_reducible repeat (first | apply Kd.R_alloc | apply Kd.R_drewN | apply Kd.R_drew)); exact HO_315000.out⟩, ⟨by (with_reducible repeat (first | apply Kd.R_alloc | apply Kd.R_drewN | apply Kd.R_drew)); exact HO_315001.out⟩, ⟨by (with_reducible repeat (first | refine blk_drewN ?_ _ | refine blk_drew ?_ | refine blk_alloc ?_ _)); exact BK314.out⟩, ⟨by repeat (first | (with_reducible first | exact HB.out | apply below_alloc | apply pw_below_drewN | apply below_drew1 | refine below_set ?_ GE314.out) | exact HB.out)⟩⟩
        case round =>
         clear H'
         try clear c1
         try clear c2
         try clear p2
         try clear p3
         try clear q3
         try clear hx3
         try clear c4
         try clear c5
         try clear c5b0
         try clear c5b1
         try clear p6
         try clear c8
         try clear c8b0
         try clear c9
         try clear c9b0
         try clear c10
         try clear c10b0
         try clear c10b1
         try clear c11
         try clear c11b0
         try clear c11b1
         try clear c12
         try clear c12b0
         try clear c12b1
         try clear c20
         try clear c20b0
         try clear c20b1
         try clear c23
         try clear hcz18_0
         try clear hcz18_1
         try clear hcz18_2
         try clear hfz18_0
         try clear hfz18_1
         try clear hfz18_2
         try clear hx303_0
         try clear hx303_1
         try clear hx303_2
         try clear hx303_3
         try clear hx303_4
         try clear hx303_5
         try clear hx303_6
         try clear hx304_0
         try clear hx304_1
         try clear hx304_2
         try clear hx304_3
         try clear hx304_4
         try clear hx304_5
         try clear hx304_6
         try clear hx305_0
         try clear hx305_1
         try clear hx305_2
         try clear hx305_3
         try clear hx305_4
         try clear hx305_5
         try clear hx305_6
         try clear p2
         try clear p3
         try clear p303
         try clear p304
         try clear p305
         try clear p6
         try clear q3
         try clear q303
         try clear q304
         try clear q305
         obtain ⟨x11_3, rfl, HA, HK3, HO_315000, HO_315001, BK314, HB⟩ := hrel
         cases gk with
         | zero => exact absurd HA.out (by simp [linotypelaw27_LayoutLeast.l1])
         | succ k3 =>
          have H := HA.out
          clear HA
          simp only [linotypelaw27_LayoutLeast.l1] at H
          have HC24 := Aside0.mk H
          clear H
          go_upto_region 13 with (fail)
          go_cut [78] (fun v78 wc => ∃ (kq : Nat) (x78_23 : Bool), v78 = .bool x78_23 ∧ Aside0 (linotypelaw27_LayoutLeast.j3 kq l0 l2 t302 x11_3 x78_23 t306 t309 t312 = some r) ∧ Aside0 (kq ≤ k3) ∧ Aside0 (Kd.R (Kd.int .i64) 3 wc w.heap.size (fun _ => True) (.slice Ao17 t306.length co17) t306) ∧ Aside0 (Kd.R Kd.bool 4 wc w.heap.size (fun _ => True) (.slice Ao19 t309.length co19) t309) ∧ Aside0 (wc.heap[gb314]? = some (.cells #[(.slice Ao17 t306.length co17), (.slice Ao19 t309.length co19), .int .i64 t312] 56 (0, 0))) ∧ Aside0 (Below w.heap.size w wc))
          case first =>
           have H := HC24.out
           clear HC24
           by_cases c25 : x11_3 < (l0.length : Int)
           ·rw [if_pos c25] at H
            have c25b0 : decide (x11_3 < (l0.length : Int)) = true := decide_eq_true c25
            clear c25
            (first | rw [c25b0] | (simp only [i64_w, i32_w]; rw [c25b0]) | skip)
            by_cases c26 : x11_3 < (t309.length : Int)
            ·rw [if_pos c26] at H
             have c26b0 : decide (x11_3 < (t309.length : Int)) = true := decide_eq_true c26
             clear c26
             have H' := Aside0.mk H
             clear H
             have hcz27_0 : wr.cell? ⟨gb314, 0, none⟩ = some (.slice Ao17 t306.length co17) := (blk_cell BK314.out 0).trans rfl
             have hcz27_1 : wr.cell? ⟨gb314, 1, none⟩ = some (.slice Ao19 t309.length co19) := (blk_cell BK314.out 1).trans rfl
             have hcz27_2 : wr.cell? ⟨gb314, 2, none⟩ = some (.int .i64 t312) := (blk_cell BK314.out 2).trans rfl
             have hfz27_0 := blk_frozen BK314.out 0
             have hfz27_1 := blk_frozen BK314.out 1
             have hfz27_2 := blk_frozen BK314.out 2
             go_wp2
             go_meet
             case rel => exact ⟨_, (decide (x11_3 < (l2.length : Int))), (by first | rfl | (simp; done) | (simp [*]; done)), H', ⟨by have := HK1.out; have := HJ13.out; have := HK3.out; first | omega | exact Nat.le_refl _⟩, ⟨by (with_reducible repeat (first | apply Kd.R_alloc | apply Kd.R_drewN | apply Kd.R_drew)); exact HO_315000.out⟩, ⟨by (with_reducible repeat (first | apply Kd.R_alloc | apply Kd.R_drewN | apply Kd.R_drew)); exact HO_315001.out⟩, ⟨by (with_reducible repeat (first | refine blk_drewN ?_ _ | refine blk_drew ?_ | refine blk_alloc ?_ _)); exact BK314.out⟩, ⟨by repeat (first | (with_reducible first | exact HB.out | apply below_alloc | apply pw_below_drewN | apply below_drew1 | refine below_set ?_ GE314.out) | exact HB.out)⟩⟩
            ·rw [if_neg c26] at H
             have c26b0 : decide (x11_3 < (t309.length : Int)) = false := decide_eq_false c26
             clear c26
             have H' := Aside0.mk H
             clear H
             have hcz28_0 : wr.cell? ⟨gb314, 0, none⟩ = some (.slice Ao17 t306.length co17) := (blk_cell BK314.out 0).trans rfl
             have hcz28_1 : wr.cell? ⟨gb314, 1, none⟩ = some (.slice Ao19 t309.length co19) := (blk_cell BK314.out 1).trans rfl
             have hcz28_2 : wr.cell? ⟨gb314, 2, none⟩ = some (.int .i64 t312) := (blk_cell BK314.out 2).trans rfl
             have hfz28_0 := blk_frozen BK314.out 0
             have hfz28_1 := blk_frozen BK314.out 1
             have hfz28_2 := blk_frozen BK314.out 2
             go_wp2
             go_meet
             case rel => exact ⟨_, (false), (by first | rfl | (simp; done) | (simp [*]; done)), H', ⟨by have := HK1.out; have := HJ13.out; have := HK3.out; first | omega | exact Nat.le_refl _⟩, ⟨by (with_reducible repeat (first | apply Kd.R_alloc | apply Kd.R_drewN | apply Kd.R_drew)); exact HO_315000.out⟩, ⟨by (with_reducible repeat (first | apply Kd.R_alloc | apply Kd.R_drewN | apply Kd.R_drew)); exact HO_315001.out⟩, ⟨by (with_reducible repeat (first | refine blk_drewN ?_ _ | refine blk_drew ?_ | refine blk_alloc ?_ _)); exact BK314.out⟩, ⟨by repeat (first | (with_reducible first | exact HB.out | apply below_alloc | apply pw_below_drewN | apply below_drew1 | refine below_set ?_ GE314.out) | exact HB.out)⟩⟩
           ·rw [if_neg c25] at H
            have c25b0 : decide (x11_3 < (l0.length : Int)) = false := decide_eq_false c25
            clear c25
            (first | rw [c25b0] | (simp only [i64_w, i32_w]; rw [c25b0]) | skip)
            have H' := Aside0.mk H
            clear H
            go_wp2
            go_meet
            case rel => exact ⟨_, (false), (by first | rfl | (simp; done) | (simp [*]; done)), H', ⟨by have := HK1.out; have := HJ13.out; have := HK3.out; first | omega | exact Nat.le_refl _⟩, ⟨by (with_reducible repeat (first | apply Kd.R_alloc | apply Kd.R_drewN | apply Kd.R_drew)); exact HO_315000.out⟩, ⟨by (with_reducible repeat (first | apply Kd.R_alloc | apply Kd.R_drewN | apply Kd.R_drew)); exact HO_315001.out⟩, ⟨by (with_reducible repeat (first | refine blk_drewN ?_ _ | refine blk_drew ?_ | refine blk_alloc ?_ _)); exact BK314.out⟩, ⟨by repeat (first | (with_reducible first | exact HB.out | apply below_alloc | apply pw_below_drewN | apply below_drew1 | refine below_set ?_ GE314.out) | exact HB.out)⟩⟩
          case rest =>
           clear HC24
           try clear c1
           try clear c2
           try clear p2
           try clear p3
           try clear q3
           try clear hx3
           try clear c4
           try clear c5
           try clear c5b0
           try clear c5b1
           try clear p6
           try clear c8
           try clear c8b0
           try clear c9
           try clear c9b0
           try clear c10
           try clear c10b0
           try clear c10b1
           try clear c11
           try clear c11b0
           try clear c11b1
           try clear c12
           try clear c12b0
           try clear c12b1
           try clear c20
           try clear c20b0
           try clear c20b1
           try clear c23
           try clear c25
           try clear c25b0
           try clear c26
           try clear c26b0
           try clear hcz18_0
           try clear hcz18_1
           try clear hcz18_2
           try clear hcz27_0
           try clear hcz27_1
           try clear hcz27_2
           try clear hcz28_0
           try clear hcz28_1
           try clear hcz28_2
           try clear hfz18_0
           try clear hfz18_1
           try clear hfz18_2
           try clear hfz27_0
           try clear hfz27_1
           try clear hfz27_2
           try clear hfz28_0
           try clear hfz28_1
           try clear hfz28_2
           try clear hx303_0
           try clear hx303_1
           try clear hx303_2
           try clear hx303_3
           try clear hx303_4
           try clear hx303_5
           try clear hx303_6
           try clear hx304_0
           try clear hx304_1
           try clear hx304_2
           try clear hx304_3
           try clear hx304_4
           try clear hx304_5
           try clear hx304_6
           try clear hx305_0
           try clear hx305_1
           try clear hx305_2
           try clear hx305_3
           try clear hx305_4
           try clear hx305_5
           try clear hx305_6
           try clear p2
           try clear p3
           try clear p303
           try clear p304
           try clear p305
           try clear p6
           try clear q3
           try clear q303
           try clear q304
           try clear q305
           obtain ⟨kq, x78_23, rfl, HA, HJ23, HO_315000, HO_315001, BK314, HB⟩ := hcut
           cases kq with
           | zero => exact absurd HA.out (by simp [linotypelaw27_LayoutLeast.j3])
           | succ kj23 =>
            have H := HA.out
            clear HA
            simp only [linotypelaw27_LayoutLeast.j3] at H
            by_cases c29 : x78_23 = true
            ·subst c29
             have H1 : (if 0 ≤ x11_3 then (if x11_3 < (t309.length : Int) then (if rdOf false t309 x11_3 = true then (if x11_3 < (l0.length : Int) then (if ((rd_T52 l0 x11_3).f0) = 2 then (if x11_3 < (l2.length : Int) then (if rdOf false l2 x11_3 = true then (linotypelaw27_LayoutLeast.l1 kj23 l0 l2 t302 (wrap64 (x11_3 + 1)) t306 t309 t312) else (some false)) else (none)) else (linotypelaw27_LayoutLeast.l1 kj23 l0 l2 t302 (wrap64 (x11_3 + 1)) t306 t309 t312)) else (none)) else (linotypelaw27_LayoutLeast.l1 kj23 l0 l2 t302 (wrap64 (x11_3 + 1)) t306 t309 t312)) else (none)) else (none)) = some r := by rw [if_pos rfl] at H; exact H
             clear H
             have H := H1
             clear H1
             by_cases c30 : 0 ≤ x11_3
             ·rw [if_pos c30] at H
              have c30b0 : decide (0 ≤ x11_3) = true := decide_eq_true c30
              clear c30
              by_cases c31 : x11_3 < (t309.length : Int)
              ·rw [if_pos c31] at H
               have c31b0 : decide (x11_3 < (t309.length : Int)) = true := decide_eq_true c31
               clear c31
               obtain ⟨bq32, hbq32⟩ : ∃ b_ : Bool, b_ = (rdOf false t309 x11_3) := ⟨_, rfl⟩
               replace H : (if bq32 = true then (if x11_3 < (l0.length : Int) then (if ((rd_T52 l0 x11_3).f0) = 2 then (if x11_3 < (l2.length : Int) then (if rdOf false l2 x11_3 = true then (linotypelaw27_LayoutLeast.l1 kj23 l0 l2 t302 (wrap64 (x11_3 + 1)) t306 t309 t312) else (some false)) else (none)) else (linotypelaw27_LayoutLeast.l1 kj23 l0 l2 t302 (wrap64 (x11_3 + 1)) t306 t309 t312)) else (none)) else (linotypelaw27_LayoutLeast.l1 kj23 l0 l2 t302 (wrap64 (x11_3 + 1)) t306 t309 t312)) = some r := by rw [← hbq32] at H; exact H
               have Nbq32 := Aside0.mk hbq32
               clear hbq32
               by_cases c33 : bq32 = true
               ·subst c33
                have H1 : (if x11_3 < (l0.length : Int) then (if ((rd_T52 l0 x11_3).f0) = 2 then (if x11_3 < (l2.length : Int) then (if rdOf false l2 x11_3 = true then (linotypelaw27_LayoutLeast.l1 kj23 l0 l2 t302 (wrap64 (x11_3 + 1)) t306 t309 t312) else (some false)) else (none)) else (linotypelaw27_LayoutLeast.l1 kj23 l0 l2 t302 (wrap64 (x11_3 + 1)) t306 t309 t312)) else (none)) = some r := by rw [if_pos rfl] at H; exact H
                clear H
                have H := H1
                clear H1
                by_cases c34 : x11_3 < (l0.length : Int)
                ·rw [if_pos c34] at H
                 have c34b0 : decide (x11_3 < (l0.length : Int)) = true := decide_eq_true c34
                 clear c34
                 by_cases c35 : ((rd_T52 l0 x11_3).f0) = 2
                 ·rw [if_pos c35] at H
                  have c35b0 : (((rd_T52 l0 x11_3).f0) == 2) = true := beq_iff_eq.mpr c35
                  have c35b1 : (((rd_T52 l0 x11_3).f0) != 2) = false := bne_eq_false_iff_eq.mpr c35
                  clear c35
                  by_cases c36 : x11_3 < (l2.length : Int)
                  ·rw [if_pos c36] at H
                   have c36b0 : decide (x11_3 < (l2.length : Int)) = true := decide_eq_true c36
                   clear c36
                   obtain ⟨bq37, hbq37⟩ : ∃ b_ : Bool, b_ = (rdOf false l2 x11_3) := ⟨_, rfl⟩
                   replace H : (if bq37 = true then (linotypelaw27_LayoutLeast.l1 kj23 l0 l2 t302 (wrap64 (x11_3 + 1)) t306 t309 t312) else (some false)) = some r := by rw [← hbq37] at H; exact H
                   have Nbq37 := Aside0.mk hbq37
                   clear hbq37
                   by_cases c38 : bq37 = true
                   ·subst c38
                    have H1 : (linotypelaw27_LayoutLeast.l1 kj23 l0 l2 t302 (wrap64 (x11_3 + 1)) t306 t309 t312) = some r := by rw [if_pos rfl] at H; exact H
                    clear H
                    have H := H1
                    clear H1
                    have H' := Aside0.mk H
                    clear H
                    have hcz39_0 : wc.cell? ⟨gb314, 0, none⟩ = some (.slice Ao17 t306.length co17) := (blk_cell BK314.out 0).trans rfl
                    have hcz39_1 : wc.cell? ⟨gb314, 1, none⟩ = some (.slice Ao19 t309.length co19) := (blk_cell BK314.out 1).trans rfl
                    have hcz39_2 : wc.cell? ⟨gb314, 2, none⟩ = some (.int .i64 t312) := (blk_cell BK314.out 2).trans rfl
                    have hfz39_0 := blk_frozen BK314.out 0
                    have hfz39_1 := blk_frozen BK314.out 1
                    have hfz39_2 := blk_frozen BK314.out 2
                    have p316 : 0 ≤ (x11_3 : Int) := of_decide_eq_true (by first | (with_reducible assumption) | assumption)
                    have q316 : x11_3 < (t309.length : Int) := of_decide_eq_true (by first | (with_reducible assumption) | assumption)
                    obtain ⟨ad316, e316, hx316_0⟩ := Kd.at_bool (Kd.R_reads' HO_315001.out).2.2 x11_3 p316 q316
                    (try rw [← Nbq32.out] at hx316_0)
                    (try rw [← Nbq37.out] at hx316_0)
                    cases e316
                    replace p316 := eq_true p316
                    replace q316 := eq_true q316
                    have p317 : 0 ≤ (x11_3 : Int) := of_decide_eq_true (by first | (with_reducible assumption) | assumption)
                    have q317 : x11_3 < (l0.length : Int) := of_decide_eq_true (by first | (with_reducible assumption) | assumption)
                    obtain ⟨ad317, e317, hx317_0, hx317_1, hx317_2, hx317_3, hx317_4, hx317_5, hx317_6⟩ := at_T52 HR0.out x11_3 p317 q317
                    cases e317
                    replace hx317_0 := (HB.out.cell (World.block_lt_of_cell? w _ hx317_0)).trans hx317_0
                    replace hx317_1 := (HB.out.cell (World.block_lt_of_cell? w _ hx317_1)).trans hx317_1
                    replace hx317_2 := (HB.out.cell (World.block_lt_of_cell? w _ hx317_2)).trans hx317_2
                    replace hx317_3 := (HB.out.cell (World.block_lt_of_cell? w _ hx317_3)).trans hx317_3
                    replace hx317_4 := (HB.out.cell (World.block_lt_of_cell? w _ hx317_4)).trans hx317_4
                    replace hx317_5 := (HB.out.cell (World.block_lt_of_cell? w _ hx317_5)).trans hx317_5
                    replace hx317_6 := (HB.out.cell (World.block_lt_of_cell? w _ hx317_6)).trans hx317_6
                    replace p317 := eq_true p317
                    replace q317 := eq_true q317
                    have p318 : 0 ≤ (x11_3 : Int) := of_decide_eq_true (by first | (with_reducible assumption) | assumption)
                    have q318 : x11_3 < (l2.length : Int) := of_decide_eq_true (by first | (with_reducible assumption) | assumption)
                    obtain ⟨ad318, e318, hx318_0⟩ := Kd.at_bool HR2.out x11_3 p318 q318
                    (try rw [← Nbq32.out] at hx318_0)
                    (try rw [← Nbq37.out] at hx318_0)
                    cases e318
                    replace hx318_0 := (HB.out.cell (World.block_lt_of_cell? w _ hx318_0)).trans hx318_0
                    replace p318 := eq_true p318
                    replace q318 := eq_true q318
                    go_wp2
                    go_roundg kj23
                    case measure => have := HK1.out; have := HJ13.out; have := HK3.out; have := HJ23.out; omega
                    case rel => exact ⟨(wrap64 (x11_3 + 1)), (by first | rfl | (simp; done) | (simp [*]; done)), H', ⟨by have := HK1.out; have := HJ13.out; have := HK3.out; have := HJ23.out; omega⟩, ⟨by (with_reducible repeat (first | apply Kd.R_alloc | apply Kd.R_drewN | apply Kd.R_drew)); exact HO_315000.out⟩, ⟨by (with_reducible repeat (first | apply Kd.R_alloc | apply Kd.R_drewN | apply Kd.R_drew)); exact HO_315001.out⟩, ⟨by (with_reducible repeat (first | refine blk_drewN ?_ _ | refine blk_drew ?_ | refine blk_alloc ?_ _)); exact BK314.out⟩, ⟨by repeat (first | (with_reducible first | exact HB.out | apply below_alloc | apply pw_below_drewN | apply below_drew1 | refine below_set ?_ GE314.out) | exact HB.out)⟩⟩
                   ·replace c38 := Bool.eq_false_iff.mpr c38
                    subst c38
                    have H1 : (some false) = some r := by rw [if_neg (show ¬ (false = true) by decide)] at H; exact H
                    clear H
                    have H := H1
                    clear H1
                    obtain rfl := Option.some.inj H
                    have hcz40_0 : wc.cell? ⟨gb314, 0, none⟩ = some (.slice Ao17 t306.length co17) := (blk_cell BK314.out 0).trans rfl
                    have hcz40_1 : wc.cell? ⟨gb314, 1, none⟩ = some (.slice Ao19 t309.length co19) := (blk_cell BK314.out 1).trans rfl
                    have hcz40_2 : wc.cell? ⟨gb314, 2, none⟩ = some (.int .i64 t312) := (blk_cell BK314.out 2).trans rfl
                    have hfz40_0 := blk_frozen BK314.out 0
                    have hfz40_1 := blk_frozen BK314.out 1
                    have hfz40_2 := blk_frozen BK314.out 2
                    have p316 : 0 ≤ (x11_3 : Int) := of_decide_eq_true (by first | (with_reducible assumption) | assumption)
                    have q316 : x11_3 < (t309.length : Int) := of_decide_eq_true (by first | (with_reducible assumption) | assumption)
                    obtain ⟨ad316, e316, hx316_0⟩ := Kd.at_bool (Kd.R_reads' HO_315001.out).2.2 x11_3 p316 q316
                    (try rw [← Nbq32.out] at hx316_0)
                    (try rw [← Nbq37.out] at hx316_0)
                    cases e316
                    replace p316 := eq_true p316
                    replace q316 := eq_true q316
                    have p317 : 0 ≤ (x11_3 : Int) := of_decide_eq_true (by first | (with_reducible assumption) | assumption)
                    have q317 : x11_3 < (l0.length : Int) := of_decide_eq_true (by first | (with_reducible assumption) | assumption)
                    obtain ⟨ad317, e317, hx317_0, hx317_1, hx317_2, hx317_3, hx317_4, hx317_5, hx317_6⟩ := at_T52 HR0.out x11_3 p317 q317
                    cases e317
                    replace hx317_0 := (HB.out.cell (World.block_lt_of_cell? w _ hx317_0)).trans hx317_0
                    replace hx317_1 := (HB.out.cell (World.block_lt_of_cell? w _ hx317_1)).trans hx317_1
                    replace hx317_2 := (HB.out.cell (World.block_lt_of_cell? w _ hx317_2)).trans hx317_2
                    replace hx317_3 := (HB.out.cell (World.block_lt_of_cell? w _ hx317_3)).trans hx317_3
                    replace hx317_4 := (HB.out.cell (World.block_lt_of_cell? w _ hx317_4)).trans hx317_4
                    replace hx317_5 := (HB.out.cell (World.block_lt_of_cell? w _ hx317_5)).trans hx317_5
                    replace hx317_6 := (HB.out.cell (World.block_lt_of_cell? w _ hx317_6)).trans hx317_6
                    replace p317 := eq_true p317
                    replace q317 := eq_true q317
                    have p318 : 0 ≤ (x11_3 : Int) := of_decide_eq_true (by first | (with_reducible assumption) | assumption)
                    have q318 : x11_3 < (l2.length : Int) := of_decide_eq_true (by first | (with_reducible assumption) | assumption)
                    obtain ⟨ad318, e318, hx318_0⟩ := Kd.at_bool HR2.out x11_3 p318 q318
                    (try rw [← Nbq32.out] at hx318_0)
                    (try rw [← Nbq37.out] at hx318_0)
                    cases e318
                    replace hx318_0 := (HB.out.cell (World.block_lt_of_cell? w _ hx318_0)).trans hx318_0
                    replace p318 := eq_true p318
                    replace q318 := eq_true q318
                    go_wp2
                    go_ret
                    exact ⟨by first | rfl | (simp [errW_none, errW_some] <;> rfl) | (simp [*, errW_none, errW_some] <;> rfl), by repeat (first | (with_reducible first | exact HB.out | apply below_alloc | apply pw_below_drewN | apply below_drew1 | refine below_set ?_ GE314.out) | exact HB.out)⟩
                  ·rw [if_neg c36] at H
                   exact absurd H (by simp)
                 ·rw [if_neg c35] at H
                  have c35b0 : (((rd_T52 l0 x11_3).f0) == 2) = false := beq_eq_false_iff_ne.mpr c35
                  have c35b1 : (((rd_T52 l0 x11_3).f0) != 2) = true := bne_iff_ne.mpr c35
                  have H' := Aside0.mk H
                  clear H
                  have hcz41_0 : wc.cell? ⟨gb314, 0, none⟩ = some (.slice Ao17 t306.length co17) := (blk_cell BK314.out 0).trans rfl
                  have hcz41_1 : wc.cell? ⟨gb314, 1, none⟩ = some (.slice Ao19 t309.length co19) := (blk_cell BK314.out 1).trans rfl
                  have hcz41_2 : wc.cell? ⟨gb314, 2, none⟩ = some (.int .i64 t312) := (blk_cell BK314.out 2).trans rfl
                  have hfz41_0 := blk_frozen BK314.out 0
                  have hfz41_1 := blk_frozen BK314.out 1
                  have hfz41_2 := blk_frozen BK314.out 2
                  have p316 : 0 ≤ (x11_3 : Int) := of_decide_eq_true (by first | (with_reducible assumption) | assumption)
                  have q316 : x11_3 < (t309.length : Int) := of_decide_eq_true (by first | (with_reducible assumption) | assumption)
                  obtain ⟨ad316, e316, hx316_0⟩ := Kd.at_bool (Kd.R_reads' HO_315001.out).2.2 x11_3 p316 q316
                  (try rw [← Nbq32.out] at hx316_0)
                  cases e316
                  replace p316 := eq_true p316
                  replace q316 := eq_true q316
                  have p317 : 0 ≤ (x11_3 : Int) := of_decide_eq_true (by first | (with_reducible assumption) | assumption)
                  have q317 : x11_3 < (l0.length : Int) := of_decide_eq_true (by first | (with_reducible assumption) | assumption)
                  obtain ⟨ad317, e317, hx317_0, hx317_1, hx317_2, hx317_3, hx317_4, hx317_5, hx317_6⟩ := at_T52 HR0.out x11_3 p317 q317
                  cases e317
                  replace hx317_0 := (HB.out.cell (World.block_lt_of_cell? w _ hx317_0)).trans hx317_0
                  replace hx317_1 := (HB.out.cell (World.block_lt_of_cell? w _ hx317_1)).trans hx317_1
                  replace hx317_2 := (HB.out.cell (World.block_lt_of_cell? w _ hx317_2)).trans hx317_2
                  replace hx317_3 := (HB.out.cell (World.block_lt_of_cell? w _ hx317_3)).trans hx317_3
                  replace hx317_4 := (HB.out.cell (World.block_lt_of_cell? w _ hx317_4)).trans hx317_4
                  replace hx317_5 := (HB.out.cell (World.block_lt_of_cell? w _ hx317_5)).trans hx317_5
                  replace hx317_6 := (HB.out.cell (World.block_lt_of_cell? w _ hx317_6)).trans hx317_6
                  replace p317 := eq_true p317
                  replace q317 := eq_true q317
                  go_wp2
                  go_roundg kj23
                  case measure => have := HK1.out; have := HJ13.out; have := HK3.out; have := HJ23.out; omega
                  case rel => exact ⟨(wrap64 (x11_3 + 1)), (by first | rfl | (simp; done) | (simp [*]; done)), H', ⟨by have := HK1.out; have := HJ13.out; have := HK3.out; have := HJ23.out; omega⟩, ⟨by (with_reducible repeat (first | apply Kd.R_alloc | apply Kd.R_drewN | apply Kd.R_drew)); exact HO_315000.out⟩, ⟨by (with_reducible repeat (first | apply Kd.R_alloc | apply Kd.R_drewN | apply Kd.R_drew)); exact HO_315001.out⟩, ⟨by (with_reducible repeat (first | refine blk_drewN ?_ _ | refine blk_drew ?_ | refine blk_alloc ?_ _)); exact BK314.out⟩, ⟨by repeat (first | (with_reducible first | exact HB.out | apply below_alloc | apply pw_below_drewN | apply below_drew1 | refine below_set ?_ GE314.out) | exact HB.out)⟩⟩
                ·rw [if_neg c34] at H
                 exact absurd H (by simp)
               ·replace c33 := Bool.eq_false_iff.mpr c33
                subst c33
                have H1 : (linotypelaw27_LayoutLeast.l1 kj23 l0 l2 t302 (wrap64 (x11_3 + 1)) t306 t309 t312) = some r := by rw [if_neg (show ¬ (false = true) by decide)] at H; exact H
                clear H
                have H := H1
                clear H1
                have H' := Aside0.mk H
                clear H
                have hcz42_0 : wc.cell? ⟨gb314, 0, none⟩ = some (.slice Ao17 t306.length co17) := (blk_cell BK314.out 0).trans rfl
                have hcz42_1 : wc.cell? ⟨gb314, 1, none⟩ = some (.slice Ao19 t309.length co19) := (blk_cell BK314.out 1).trans rfl
                have hcz42_2 : wc.cell? ⟨gb314, 2, none⟩ = some (.int .i64 t312) := (blk_cell BK314.out 2).trans rfl
                have hfz42_0 := blk_frozen BK314.out 0
                have hfz42_1 := blk_frozen BK314.out 1
                have hfz42_2 := blk_frozen BK314.out 2
                have p316 : 0 ≤ (x11_3 : Int) := of_decide_eq_true (by first | (with_reducible assumption) | assumption)
                have q316 : x11_3 < (t309.length : Int) := of_decide_eq_true (by first | (with_reducible assumption) | assumption)
                obtain ⟨ad316, e316, hx316_0⟩ := Kd.at_bool (Kd.R_reads' HO_315001.out).2.2 x11_3 p316 q316
                (try rw [← Nbq32.out] at hx316_0)
                cases e316
                replace p316 := eq_true p316
                replace q316 := eq_true q316
                go_wp2
                go_roundg kj23
                case measure => have := HK1.out; have := HJ13.out; have := HK3.out; have := HJ23.out; omega
                case rel => exact ⟨(wrap64 (x11_3 + 1)), (by first | rfl | (simp; done) | (simp [*]; done)), H', ⟨by have := HK1.out; have := HJ13.out; have := HK3.out; have := HJ23.out; omega⟩, ⟨by (with_reducible repeat (first | apply Kd.R_alloc | apply Kd.R_drewN | apply Kd.R_drew)); exact HO_315000.out⟩, ⟨by (with_reducible repeat (first | apply Kd.R_alloc | apply Kd.R_drewN | apply Kd.R_drew)); exact HO_315001.out⟩, ⟨by (with_reducible repeat (first | refine blk_drewN ?_ _ | refine blk_drew ?_ | refine blk_alloc ?_ _)); exact BK314.out⟩, ⟨by repeat (first | (with_reducible first | exact HB.out | apply below_alloc | apply pw_below_drewN | apply below_drew1 | refine below_set ?_ GE314.out) | exact HB.out)⟩⟩
              ·rw [if_neg c31] at H
               exact absurd H (by simp)
             ·rw [if_neg c30] at H
              exact absurd H (by simp)
            ·replace c29 := Bool.eq_false_iff.mpr c29
             subst c29
             have H1 : (if t302 = true then (some ((t309.length : Int) == (l0.length : Int))) else (some false)) = some r := by rw [if_neg (show ¬ (false = true) by decide)] at H; exact H
             clear H
             have H := H1
             clear H1
             by_cases c43 : t302 = true
             ·subst c43
              have H1 : (some ((t309.length : Int) == (l0.length : Int))) = some r := by rw [if_pos rfl] at H; exact H
              clear H
              have H := H1
              clear H1
              obtain rfl := Option.some.inj H
              have hcz44_0 : wc.cell? ⟨gb314, 0, none⟩ = some (.slice Ao17 t306.length co17) := (blk_cell BK314.out 0).trans rfl
              have hcz44_1 : wc.cell? ⟨gb314, 1, none⟩ = some (.slice Ao19 t309.length co19) := (blk_cell BK314.out 1).trans rfl
              have hcz44_2 : wc.cell? ⟨gb314, 2, none⟩ = some (.int .i64 t312) := (blk_cell BK314.out 2).trans rfl
              have hfz44_0 := blk_frozen BK314.out 0
              have hfz44_1 := blk_frozen BK314.out 1
              have hfz44_2 := blk_frozen BK314.out 2
              go_wp2
              go_ret
              exact ⟨by first | rfl | (simp [errW_none, errW_some] <;> rfl) | (simp [*, errW_none, errW_some] <;> rfl), by repeat (first | (with_reducible first | exact HB.out | apply below_alloc | apply pw_below_drewN | apply below_drew1 | refine below_set ?_ GE314.out) | exact HB.out)⟩
             ·replace c43 := Bool.eq_false_iff.mpr c43
              subst c43
              have H1 : (some false) = some r := by rw [if_neg (show ¬ (false = true) by decide)] at H; exact H
              clear H
              have H := H1
              clear H1
              obtain rfl := Option.some.inj H
              go_wp2
              go_ret
              exact ⟨by first | rfl | (simp [errW_none, errW_some] <;> rfl) | (simp [*, errW_none, errW_some] <;> rfl), by repeat (first | (with_reducible first | exact HB.out | apply below_alloc | apply pw_below_drewN | apply below_drew1 | refine below_set ?_ GE314.out) | exact HB.out)⟩

end Go.Proofs.Ytlmpecahmmgphaa.XLay
