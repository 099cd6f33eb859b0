/- Laid by this seat's own program (wip/tools/printx.py) out of the translation: the functions that laws use (Lay), each with its contract. No conditions. -/
import Derived.Test.YtlmpecahmmgphaaXLayx0
import Derived.Test.YtlmpecahmmgphaaXLayx16
namespace Go.Proofs.Ytlmpecahmmgphaa.XLay
open Go.RowKit Go.Proofs.YtlmpecahmmgphaaW.PrintWords Go.Proofs.YtlmpecahmmgphaaW.PrintLast Go.Proofs.YtlmpecahmmgphaaW.PrintMore
attribute [local go_sem] max2_int min2_int max_two min_two max_three min_three max_four min_four   -- for this text's walks alone
set_option linter.unusedVariables false
set_option linter.unusedSimpArgs false

/-! ### linotypekit_OverPlan: function 53 -/
def linotypekit_OverPlan.l0 : Nat → Int → List Int → List Bool → Int → Option (List Int × List Bool)
 | 0, _, _, _, _ => none
 | k + 1, x2, x386000, x386001, x386002 => if x2 < (x386001.length : Int) then (if 0 ≤ x2 then (linotypekit_OverPlan.l0 k (wrap64 (x2 + 1)) x386000 (x386001.set (x2 : Int).toNat (!(rdOf false x386001 x2))) x386002) else (none)) else (some (x386000, x386001))
def linotypekit_OverPlan.f (k : Nat) (l0_0 : List Int) (l0_1 : List Bool) (a0_2 : Int) : Option (List Int × List Bool) := (linotypekit_OverInts.f k l0_0).bind fun t386 => (linotypekit_OverPlan.l0 k 0 t386 l0_1 a0_2)
theorem linotypekit_OverPlan.mono_l : ∀ k, (∀ y0 y1 y2 y3, LeO (linotypekit_OverPlan.l0 k y0 y1 y2 y3) (linotypekit_OverPlan.l0 (k + 1) y0 y1 y2 y3))
 | 0 => fun _ _ _ _ r h => by simp [linotypekit_OverPlan.l0] at h
 | k + 1 => by
  have ih0 := linotypekit_OverPlan.mono_l k
  ·intro y0 y1 y2 y3
   unfold linotypekit_OverPlan.l0
   repeat' first
   | (with_reducible exact ih0 _ _ _ _)
   | (with_reducible exact linotypekit_OverInts.mono _ _)
   | (with_reducible exact LeO.refl _)
   | (with_reducible exact LeO.none _)
   | (with_reducible refine LeO.ite ?_ ?_)
   | (with_reducible refine LeO.bind ?_ (fun _ => ?_))
   | exact ih0 _ _ _ _
   | exact linotypekit_OverInts.mono _ _
   | exact LeO.none _
   | refine LeO.ite ?_ ?_
   | refine LeO.bind ?_ (fun _ => ?_)
theorem linotypekit_OverPlan.mono : ∀ a0 a1 a2 k, LeO (linotypekit_OverPlan.f k a0 a1 a2) (linotypekit_OverPlan.f (k + 1) a0 a1 a2) := by
 intro a0 a1 a2 k
 have ih0 := linotypekit_OverPlan.mono_l k
 unfold linotypekit_OverPlan.f
 repeat' first
   | (with_reducible exact ih0 _ _ _ _)
   | (with_reducible exact linotypekit_OverInts.mono _ _)
   | (with_reducible exact LeO.refl _)
   | (with_reducible exact LeO.none _)
   | (with_reducible refine LeO.ite ?_ ?_)
   | (with_reducible refine LeO.bind ?_ (fun _ => ?_))
   | exact ih0 _ _ _ _
   | exact linotypekit_OverInts.mono _ _
   | exact LeO.none _
   | refine LeO.ite ?_ ?_
   | refine LeO.bind ?_ (fun _ => ?_)
def linotypekit_OverPlan.T5 : Bool × List (List Nat × List Nat) := (true, [([], []), ([0], [0]), ([], []), ([], []), ([3], [3]), ([], []), ([4, 5], [4, 5]), ([6], [6]), ([7], [7]), ([1, 2, 0, 1, 2, 3, 4, 5, 6, 7, 8], [1, 2]), ([9, 8, 0, 1, 2, 3, 4, 5, 6, 7, 8], [8, 9])])
def linotypekit_OverPlan.B5 : List Nat := [0, 1, 0, 0, 8, 0, 56, 120, 248, 511, 1023]
theorem linotypekit_OverPlan.tab5 : rtab .any (opsOf Try.f53 5) = linotypekit_OverPlan.T5 := by kernel_rfl
theorem linotypekit_OverPlan.bits5 : waitsOk linotypekit_OverPlan.T5.2 linotypekit_OverPlan.B5 = true := by kernel_rfl
set_option maxHeartbeats 8000000 in
set_option maxRecDepth 100000 in
theorem linotypekit_OverPlan.calls (k : Nat) (P0_0_ : Nat → Prop) (u9000_ : Value) (l0_0 : List Int) (P0_1_ : Nat → Prop) (u9001_ : Value) (l0_1 : List Bool) (a0_2 : Int) (r1 : List Int) (r2 : List Bool) (w0 w : World) (hB : Below w0.heap.size w0 w) (ho0_0 : Kd.R (Kd.int .i64) 3 w w0.heap.size P0_0_ u9000_ l0_0) (ho0_1 : Kd.R Kd.bool 4 w w0.heap.size P0_1_ u9001_ l0_1) (h : linotypekit_OverPlan.f k l0_0 l0_1 a0_2 = some (r1, r2)) :
  Calls Try.prog 53 #[.agg #[u9000_, u9001_, .int .i64 a0_2]] w fun e w' => e = .returned (.tuple #[]) ∧ Kd.R (Kd.int .i64) 3 w' w0.heap.size (fun k_ => ((P0_0_ k_ ∨ P0_1_ k_) ∨ w.heap.size ≤ k_)) u9000_ r1 ∧ Kd.R Kd.bool 4 w' w0.heap.size (fun k_ => ((P0_0_ k_ ∨ P0_1_ k_) ∨ w.heap.size ≤ k_)) u9001_ r2 ∧ Below w0.heap.size w0 w' ∧ Kept w w' (fun k_ => P0_0_ k_ ∨ P0_1_ k_) := by
 have hu56 := Try.underlying56
 have HO0_0 := Aside0.mk (show Kd.R (Kd.int .i64) 3 w w0.heap.size (fun k_ => ((P0_0_ k_ ∨ P0_1_ k_) ∨ w.heap.size ≤ k_)) u9000_ l0_0 from Kd.R_mono ho0_0 (fun k_ hk => (.inl (.inl hk))))
 have HO0_1 := Aside0.mk (show Kd.R Kd.bool 4 w w0.heap.size (fun k_ => ((P0_0_ k_ ∨ P0_1_ k_) ∨ w.heap.size ≤ k_)) u9001_ l0_1 from Kd.R_mono ho0_1 (fun k_ hk => (.inl (.inr hk))))
 have HK := Aside0.mk (Kept.refl w (fun k_ => P0_0_ k_ ∨ P0_1_ k_))
 have HW0 := Aside0.mk hB.size
 have HB := Aside0.mk hB
 clear hB
 have H : ((linotypekit_OverInts.f k l0_0).bind fun t386 => (linotypekit_OverPlan.l0 k 0 t386 l0_1 a0_2)) = some (r1, r2) := h
 clear h
 replace H := Option.bind_eq_some_iff.mp H
 obtain ⟨t386, A20, H⟩ := H
 replace H : (linotypekit_OverPlan.l0 k 0 t386 l0_1 a0_2) = some (r1, r2) := H
 have A2 := Aside0.mk A20
 clear A20
 have H' := Aside0.mk H
 clear H
 obtain ⟨Ao3, co3, eo3⟩ := Kd.R_slice HO0_0.out
 subst eo3
 obtain ⟨Ao4, co4, eo4⟩ := Kd.R_slice HO0_1.out
 subst eo4
 go_enter Try.func53, Try.ntmps53
 go_wp2_with (first | ((with_reducible refine gate_dst (N := 1) rfl ?_); refine box_event ?hg (N := 1) ?hd (cs := #[.slice Ao3 l0_0.length co3, .slice Ao4 l0_1.length co4, .int .i64 a0_2]) (t := 56) ?hr ?_; (case hd => rfl); (case hg => rfl); (case hr => first | (go_simp; done) | (go_simp; rfl)); intro gb385 hg w5 hbox hb; have n0_ := Aside0.mk (Kd.R_below (by (with_reducible repeat (first | apply Kd.R_alloc | apply Kd.R_drewN | apply Kd.R_drew)); exact HO0_0.out) hb); have n1_ := Aside0.mk (Kd.R_below (by (with_reducible repeat (first | apply Kd.R_alloc | apply Kd.R_drewN | apply Kd.R_drew)); exact HO0_1.out) hb); have n2_ := Aside0.mk (Kept.below (S := (fun k_ => P0_0_ k_ ∨ P0_1_ k_)) (by repeat (first | (with_reducible first | exact HK.out | apply Kept.alloc | apply Kept.drewN | apply Kept.drew) | exact HK.out)) hb); have n3_ := Aside0.mk (below_step (by repeat (first | exact HB.out | apply below_alloc | apply pw_below_drewN | apply below_drew1)) hb); have n4_ := Aside0.mk (hbox); have n5_ := Aside0.mk ((by rw [hg]; exact (by first | exact HK.out.1 | exact (show Kept w _ (fun k_ => P0_0_ k_ ∨ P0_1_ k_) from by repeat (first | (with_reducible first | exact HK.out | apply Kept.alloc | apply Kept.drewN | apply Kept.drew) | exact HK.out)).1) : w.heap.size ≤ gb385)); have n6_ := Aside0.mk ((by rw [hg]; exact (below_size (by repeat (first | exact HB.out | apply below_alloc | apply pw_below_drewN | apply below_drew1))) : w0.heap.size ≤ gb385)); clear HO0_0; clear HO0_1; clear HK; clear HB; have HO0_0 := n0_; have HO0_1 := n1_; have HK := n2_; have HB := n3_; have BK385 := n4_; have GW385 := n5_; have GE385 := n6_; clear n0_ n1_ n2_ n3_ n4_ n5_ n6_; clear hb hbox hg; have hcz6_0 : w5.cell? ⟨gb385, 0, none⟩ = some (.slice Ao3 l0_0.length co3) := (blk_cell BK385.out 0).trans rfl; have hcz6_1 : w5.cell? ⟨gb385, 1, none⟩ = some (.slice Ao4 l0_1.length co4) := (blk_cell BK385.out 1).trans rfl; have hcz6_2 : w5.cell? ⟨gb385, 2, none⟩ = some (.int .i64 a0_2) := (blk_cell BK385.out 2).trans rfl; have hfz6_0 := blk_frozen BK385.out 0; have hfz6_1 := blk_frozen BK385.out 1; have hfz6_2 := blk_frozen BK385.out 2) | ((with_reducible refine gate_callee (f := 72) rfl ?_); refine goesL_ (some 5) rfl rfl Try.func72 (by kernel_rfl) rfl #[.slice Ao3 l0_0.length co3] rfl (by (try simp only [List.map_toArray, List.map_cons, List.map_nil]); first | done | rfl) ?_; (with_reducible refine (linotypekit_OverInts.calls k (fun k_ => some k_ = (.slice Ao3 l0_0.length co3 : Value).ownBlock) (.slice Ao3 l0_0.length co3) l0_0 t386 w0 _ ?side1 ?side2 A2.out).mono ?_); (case side1 => repeat (first | (with_reducible first | exact HB.out | apply below_alloc | apply pw_below_drewN | apply below_drew1 | refine below_set ?_ GE385.out) | exact HB.out)); (case side2 => exact Kd.R_tight rfl HO0_0.out); rintro e w7 ⟨rfl, hy0, hb, hkp⟩; refine ⟨_, rfl, ?_⟩; have n0_ := Aside0.mk (Kd.R_reok rfl hy0 (fun k_ e_ => HO0_0.out.1 k_ e_)); have n1_ := Aside0.mk (Kd.R_mono (ok' := fun k_ => ((P0_0_ k_ ∨ P0_1_ k_) ∨ w.heap.size ≤ k_)) (Kd.R_keptB ((Kd.R_apart' HO0_1.out (Kd.R_typed HO0_0.out) (by decide))) hkp (fun k_ hk_ hs_ => (hk_.2) hs_)) (fun k_ hk_ => hk_.1.1)); have n2_ := Aside0.mk (blk_kept (by (with_reducible repeat (first | refine blk_drewN ?_ _ | refine blk_drew ?_ | refine blk_alloc ?_ _)); exact BK385.out) hkp (fun hs_ => (fun e_ => (Kd.R_ne HO0_0.out BK385.out (by decide)) e_) hs_)); have n3_ := Aside0.mk (Kept.then_ (S := (fun k_ => P0_0_ k_ ∨ P0_1_ k_)) (by repeat (first | (with_reducible first | exact HK.out | apply Kept.alloc | apply Kept.drewN | apply Kept.drew | refine Kept.setCell ?_ (.inr GW385.out) _) | exact HK.out)) hkp (fun k_ hs_ => (fun e_ => (HO0_0.out.1 k_ e_.symm)) hs_)); have n4_ := Aside0.mk (hb); clear HO0_0; clear HO0_1; clear BK385; clear HK; clear HB; have HO0_0 := n0_; have HO0_1 := n1_; have BK385 := n2_; have HK := n3_; have HB := n4_; clear n0_ n1_ n2_ n3_ n4_; (try clear hb); (try clear hkp); (try clear hy0)))
 go_loopg [2] k (fun kq v2 w' => ∃ (x2_1 : Int) (x386001_1 : List Bool), v2 = .int .i64 x2_1 ∧ Aside0 (linotypekit_OverPlan.l0 kq x2_1 t386 x386001_1 a0_2 = some (r1, r2)) ∧ Aside0 (kq ≤ k) ∧ Aside0 (Kd.R (Kd.int .i64) 3 w' w0.heap.size (fun k_ => ((P0_0_ k_ ∨ P0_1_ k_) ∨ w.heap.size ≤ k_)) (.slice Ao3 l0_0.length co3) t386) ∧ Aside0 (Kd.R Kd.bool 4 w' w0.heap.size (fun k_ => ((P0_0_ k_ ∨ P0_1_ k_) ∨ w.heap.size ≤ k_)) (.slice Ao4 l0_1.length co4) x386001_1) ∧ Aside0 (w'.heap[gb385]? = some (.cells #[(.slice Ao3 l0_0.length co3), (.slice Ao4 l0_1.length co4), .int .i64 a0_2] 56 (0, 0))) ∧ Aside0 (Kept w w' (fun k_ => P0_0_ k_ ∨ P0_1_ k_)) ∧ Aside0 (Below w0.heap.size w0 w'))
 case atStart => exact ⟨(0), (l0_1), (by first | rfl | (simp; done) | (simp [*]; done)), H', ⟨Nat.le_refl _⟩, ⟨by (with_reducible repeat (first | apply Kd.R_alloc | apply Kd.R_drewN | apply Kd.R_drew)); exact HO0_0.out⟩, ⟨by (with_reducible repeat (first | apply Kd.R_alloc | apply Kd.R_drewN | apply Kd.R_drew)); exact HO0_1.out⟩, ⟨by (with_reducible repeat (first | refine blk_drewN ?_ _ | refine blk_drew ?_ | refine blk_alloc ?_ _)); exact BK385.out⟩, ⟨by repeat (first | (with_reducible first | exact HK.out | apply Kept.alloc | apply Kept.drewN | apply Kept.drew | refine Kept.setCell ?_ (.inr GW385.out) _) | exact HK.out)⟩, ⟨by repeat (first | (with_reducible first | exact HB.out | apply below_alloc | apply pw_below_drewN | apply below_drew1 | refine below_set ?_ GE385.out) | exact HB.out)⟩⟩
 case round =>
  clear H'
  try clear p2
  try clear c5
  try clear c7
  try clear hcz6_0
  try clear hcz6_1
  try clear hcz6_2
  try clear hfz6_0
  try clear hfz6_1
  try clear hfz6_2
  obtain ⟨x2_1, x386001_1, rfl, HA, HK1, HO_386000, HO_386001, BK385, HK, HB⟩ := hrel
  have hl386000_1 := (Kd.R_reads' HO_386000.out).1
  rw [hl386000_1] at HO_386000
  (try simp only [hl386000_1])
  (try simp only [hl386000_1] at BK385)
  (try simp only [hl386000_1] at HO_386001)
  have hl386001_1 := (Kd.R_reads' HO_386001.out).1
  rw [hl386001_1] at HO_386001
  (try simp only [hl386001_1])
  (try simp only [hl386001_1] at BK385)
  (try simp only [hl386001_1] at HO_386000)
  cases gk with
  | zero => exact absurd HA.out (by simp [linotypekit_OverPlan.l0])
  | succ k1 =>
   have H := HA.out
   clear HA
   simp only [linotypekit_OverPlan.l0] at H
   by_cases c8 : x2_1 < (x386001_1.length : Int)
   ·rw [if_pos c8] at H
    have c8b0 : decide (x2_1 < (x386001_1.length : Int)) = true := decide_eq_true c8
    clear c8
    by_cases c9 : 0 ≤ x2_1
    ·rw [if_pos c9] at H
     have c9b0 : decide (0 ≤ x2_1) = true := decide_eq_true c9
     clear c9
     obtain ⟨y388, hy388⟩ : ∃ y_ : List Bool, y_ = (x386001_1.set (x2_1 : Int).toNat (!(rdOf false x386001_1 x2_1))) := ⟨_, rfl⟩
     replace H : (linotypekit_OverPlan.l0 k1 (wrap64 (x2_1 + 1)) t386 y388 a0_2) = some (r1, r2) := by first | (rw [hy388]; with_reducible exact H) | (have H2_ := (Option.bind_some _ _).symm.trans H; rw [hy388]; with_reducible exact H2_) | (have H2_ := (Option.bind_some _ _).symm.trans H; with_reducible exact H2_) | with_reducible exact H | (rw [hy388]; exact H) | exact H
     have Ny388 := Aside0.mk hy388
     clear hy388
     have H' := Aside0.mk H
     clear H
     have hcz11_0 : wr.cell? ⟨gb385, 0, none⟩ = some (.slice Ao3 t386.length co3) := (blk_cell BK385.out 0).trans rfl
     have hcz11_1 : wr.cell? ⟨gb385, 1, none⟩ = some (.slice Ao4 x386001_1.length co4) := (blk_cell BK385.out 1).trans rfl
     have hcz11_2 : wr.cell? ⟨gb385, 2, none⟩ = some (.int .i64 a0_2) := (blk_cell BK385.out 2).trans rfl
     have hfz11_0 := blk_frozen BK385.out 0
     have hfz11_1 := blk_frozen BK385.out 1
     have hfz11_2 := blk_frozen BK385.out 2
     try go_wp2
     have n0_ := Aside0.mk (Kd.R_drew HO_386000.out)
     have n1_ := Aside0.mk (Kd.R_drew HO_386001.out)
     have n2_ := Aside0.mk (blk_drew BK385.out)
     have n3_ := Aside0.mk (Kept.drew HK.out)
     have n4_ := Aside0.mk (below_drew1 HB.out)
     clear HO_386000
     clear HO_386001
     clear BK385
     clear HK
     clear HB
     have HO_386000 := n0_
     have HO_386001 := n1_
     have BK385 := n2_
     have HK := n3_
     have HB := n4_
     clear n0_ n1_ n2_ n3_ n4_
     have p387 : 0 ≤ (x2_1 : Int) := of_decide_eq_true (by assumption)
     have q387 : x2_1 < (x386001_1.length : Int) := of_decide_eq_true (by assumption)
     obtain ⟨ad387, e387, hx387_0⟩ := Kd.at_bool (Kd.R_reads' HO_386001.out).2.2 x2_1 p387 q387
     cases e387
     replace p387 := eq_true p387
     replace q387 := eq_true q387
     have p10 : 0 ≤ (x2_1 : Int) := of_decide_eq_true (by assumption)
     have q10 : (x2_1 : Int) < ((x386001_1.length : Int) : Int) := of_decide_eq_true (by assumption)
     obtain ⟨go10, co10, eo10, gb10, gl10, cl10, HG10⟩ := Kd.R_form HO_386001.out (by omega)
     (first | cases eo10 | (injection eo10 with ea_ en_ ec_; (first | subst ea_ | (injection ea_ with ea_; subst ea_)); subst ec_; clear en_))
     have GB10 := Aside0.mk gb10
     have GG10 := Aside0.mk HG10
     clear gb10 gl10 HG10
     have HMgo10 := Aside0.mk (show ((P0_0_ go10 ∨ P0_1_ go10) ∨ w.heap.size ≤ go10) from (HO_386001.out.1 _ rfl))
     (first | simp only [add_plain] at hx387_0 | skip)
     obtain ⟨hx10_0, hf10_0⟩ := Kd.R_celln false HO_386001.out (x2_1 : Int) p10 q10
     replace p10 := eq_true p10
     replace q10 := eq_true q10
     have HP13 := Kd.R_putn HO_386001.out (x2_1 : Int) (!(rdOf false x386001_1 x2_1))
     rw [← Ny388.out] at HP13
     have HQ13 := Aside0.mk HP13
     clear HP13
     refine start_ (n := 11) (S := fun w' => w'.cell? ⟨gb385, 0, none⟩ = some (.slice Ao3 t386.length co3) ∧ w'.cell? ⟨gb385, 1, none⟩ = some (.slice (some ⟨go10, 0, none⟩) x386001_1.length co4) ∧ w'.cell? ⟨gb385, 2, none⟩ = some (.int .i64 a0_2) ∧ w'.cell? ⟨go10, (x2_1).toNat, none⟩ = some (.bool (rdOf false x386001_1 x2_1))) (ds := [10]) #[false, false, false, false, false, false, false, false, false, false, false] (by kernel_rfl) rfl rfl ⟨(blk_cell BK385.out 0).trans rfl, (blk_cell BK385.out 1).trans rfl, (blk_cell BK385.out 2).trans rfl, hx387_0⟩ (fun hHeld => ?_); refine with_tabW linotypekit_OverPlan.tab5 linotypekit_OverPlan.bits5 (fun HT_ HW_ => ?_)
     generalize wr.drew = w12 at HO_386000 HO_386001 BK385 HK HB GG10 HQ13 hf10_0 hx10_0 hx387_0 hHeld ⊢
     refine pure_ (i := 0) (N := some 13) (v := ?_) (a' := ?_) #[true, false, false, false, false, false, false, false, false, false, false] rfl rfl (any_of HT_.out (by kernel_rfl)) (fun _ _ _ h => h) (Or.inl ⟨by rfl, ?_⟩) ?_ ?_
     rotate_left
     ·intro w'
      go_simp
      with_reducible rfl
     rotate_left
     ·simp only [Act.put, List.setIfInBounds_toArray, List.set_cons_zero, List.set_cons_succ, i64_w, i32_w]
      rfl
     refine pure_ (i := 2) (N := some 15) (v := ?_) (a' := ?_) #[true, false, true, false, false, false, false, false, false, false, false] rfl rfl (any_of HT_.out (by kernel_rfl)) (fun _ _ _ h => h) (Or.inl ⟨by rfl, ?_⟩) ?_ ?_
     rotate_left
     ·intro w'
      go_simp
      with_reducible rfl
     rotate_left
     ·simp only [Act.put, List.setIfInBounds_toArray, List.set_cons_zero, List.set_cons_succ, i64_w, i32_w]
      rfl
     refine pure_ (i := 3) (N := some 16) (v := ?_) (a' := ?_) #[true, false, true, true, false, false, false, false, false, false, false] rfl rfl (any_of HT_.out (by kernel_rfl)) (fun _ _ _ h => h) (Or.inl ⟨by rfl, ?_⟩) ?_ ?_
     rotate_left
     ·intro w'
      go_simp
      with_reducible rfl
     rotate_left
     ·simp only [Act.put, List.setIfInBounds_toArray, List.set_cons_zero, List.set_cons_succ, i64_w, i32_w]
      rfl
     refine pure_ (i := 5) (N := some 18) (v := ?_) (a' := ?_) #[true, false, true, true, false, true, false, false, false, false, false] rfl rfl (any_of HT_.out (by kernel_rfl)) (fun _ _ _ h => h) (Or.inl ⟨by rfl, ?_⟩) ?_ ?_
     rotate_left
     ·intro w'
      go_simp
      with_reducible rfl
     rotate_left
     ·simp only [Act.put, List.setIfInBounds_toArray, List.set_cons_zero, List.set_cons_succ, i64_w, i32_w]
      rfl
     refine take_ (i := 1) (N := some 14) (v := ?_) (a' := ?_) #[true, true, true, true, false, true, false, false, false, false, false] rfl rfl (take_ofW HT_.out HW_.out (by kernel_rfl)) (fun _ _ _ h => h) (Or.inl ⟨by rfl, ?_⟩) hHeld ?_ ?_
     rotate_left
     ·rintro w' ⟨s0, s1, s2, s3⟩
      go_simp
      with_reducible rfl
     rotate_left
     ·simp only [Act.put, List.setIfInBounds_toArray, List.set_cons_zero, List.set_cons_succ, i64_w, i32_w]
      rfl
     refine take_ (i := 4) (N := some 17) (v := ?_) (a' := ?_) #[true, true, true, true, true, true, false, false, false, false, false] rfl rfl (take_ofW HT_.out HW_.out (by kernel_rfl)) (fun _ _ _ h => h) (Or.inl ⟨by rfl, ?_⟩) hHeld ?_ ?_
     rotate_left
     ·rintro w' ⟨s0, s1, s2, s3⟩
      go_simp
      with_reducible rfl
     rotate_left
     ·simp only [Act.put, List.setIfInBounds_toArray, List.set_cons_zero, List.set_cons_succ, i64_w, i32_w]
      rfl
     refine pure_ (i := 6) (N := some 19) (v := ?_) (a' := ?_) #[true, true, true, true, true, true, true, false, false, false, false] rfl rfl (any_of HT_.out (by kernel_rfl)) (fun _ _ _ h => h) (Or.inl ⟨by rfl, ?_⟩) ?_ ?_
     rotate_left
     ·intro w'
      go_simp
      with_reducible rfl
     rotate_left
     ·simp only [Act.put, List.setIfInBounds_toArray, List.set_cons_zero, List.set_cons_succ, i64_w, i32_w]
      rfl
     refine take_ (i := 7) (N := some 20) (v := ?_) (a' := ?_) #[true, true, true, true, true, true, true, true, false, false, false] rfl rfl (take_ofW HT_.out HW_.out (by kernel_rfl)) (fun _ _ _ h => h) (Or.inl ⟨by rfl, ?_⟩) hHeld ?_ ?_
     rotate_left
     ·rintro w' ⟨s0, s1, s2, s3⟩
      go_simp
      with_reducible rfl
     rotate_left
     ·simp only [Act.put, List.setIfInBounds_toArray, List.set_cons_zero, List.set_cons_succ, i64_w, i32_w]
      rfl
     refine pure_ (i := 8) (N := some 21) (v := ?_) (a' := ?_) #[true, true, true, true, true, true, true, true, true, false, false] rfl rfl (any_of HT_.out (by kernel_rfl)) (fun _ _ _ h => h) (Or.inl ⟨by rfl, ?_⟩) ?_ ?_
     rotate_left
     ·intro w'
      go_simp
      with_reducible rfl
     rotate_left
     ·simp only [Act.put, List.setIfInBounds_toArray, List.set_cons_zero, List.set_cons_succ, i64_w, i32_w]
      rfl
     refine pure_ (i := 9) (N := some 22) (v := ?_) (a' := ?_) #[true, true, true, true, true, true, true, true, true, true, false] rfl rfl (any_of HT_.out (by kernel_rfl)) (fun _ _ _ h => h) (Or.inl ⟨by rfl, ?_⟩) ?_ ?_
     rotate_left
     ·intro w'
      go_simp
      with_reducible rfl
     rotate_left
     ·simp only [Act.put, List.setIfInBounds_toArray, List.set_cons_zero, List.set_cons_succ, i64_w, i32_w]
      rfl
     refine last_ (i := 10) (N := none) #[true, true, true, true, true, true, true, true, true, true, true] rfl rfl (one_of HT_.out (by kernel_rfl)) (by decide) (fun K hK => ?_)
     refine skip_ (w1 := ?_) (by rfl) rfl ?_ ?_
     rotate_left
     ·go_simp
      rfl
     refine hK.out _ _ ?_
     clear hK K
     refine done_ (done_of HT_.out (by kernel_rfl)) ?_
     try go_wp2
     (try simp only [← hl386000_1, ← hl386001_1])
     go_roundg k1
     case measure => have := HK1.out; omega
     case rel => exact ⟨(wrap64 (x2_1 + 1)), (y388), (by first | rfl | (simp; done) | (simp [*]; done)), H', ⟨by have := HK1.out; omega⟩, ⟨by (try simp only [hl386000_1]); (try simp only [hl386001_1]); (with_reducible repeat (first | apply Kd.R_alloc | apply Kd.R_drewN | apply Kd.R_drew)); exact Kd.R_mono (Kd.R_far (p := ⟨go10, (x2_1 : Int).toNat, none⟩) (Kd.R_types HO_386000.out GG10.out (by decide)) (fun _ hk => hk.2) (.bool (!(rdOf false x386001_1 x2_1)))) (fun _ hk => hk.1)⟩, ⟨by (try simp only [hl386000_1]); (try simp only [hl386001_1]); (with_reducible repeat (first | apply Kd.R_alloc | apply Kd.R_drewN | apply Kd.R_drew)); exact HQ13.out⟩, ⟨by (try simp only [hl386000_1]); (try simp only [hl386001_1]); (with_reducible repeat (first | refine blk_drewN ?_ _ | refine blk_drew ?_ | refine blk_alloc ?_ _)); refine blk_far ?_ (by have h_ := Kd.R_ne HO_386001.out BK385.out (by decide); intro e_; exact h_ (by rw [e_]; rfl)) _; (with_reducible repeat (first | refine blk_drewN ?_ _ | refine blk_drew ?_ | refine blk_alloc ?_ _)); exact BK385.out⟩, ⟨by repeat (first | (with_reducible first | exact HK.out | apply Kept.alloc | apply Kept.drewN | apply Kept.drew | refine Kept.setCell ?_ HMgo10.out _ | refine Kept.setCell ?_ (.inr GW385.out) _) | exact HK.out)⟩, ⟨by repeat (first | (with_reducible first | exact HB.out | apply below_alloc | apply pw_below_drewN | apply below_drew1 | refine below_set ?_ GB10.out | refine below_set ?_ GE385.out) | exact HB.out)⟩⟩
    ·rw [if_neg c9] at H
     exact absurd H (by simp)
   ·rw [if_neg c8] at H
    have c8b0 : decide (x2_1 < (x386001_1.length : Int)) = false := decide_eq_false c8
    clear c8
    simp only [Option.some.injEq, Prod.mk.injEq] at H
    obtain ⟨rfl, rfl⟩ := H
    have hcz14_0 : wr.cell? ⟨gb385, 0, none⟩ = some (.slice Ao3 t386.length co3) := (blk_cell BK385.out 0).trans rfl
    have hcz14_1 : wr.cell? ⟨gb385, 1, none⟩ = some (.slice Ao4 x386001_1.length co4) := (blk_cell BK385.out 1).trans rfl
    have hcz14_2 : wr.cell? ⟨gb385, 2, none⟩ = some (.int .i64 a0_2) := (blk_cell BK385.out 2).trans rfl
    have hfz14_0 := blk_frozen BK385.out 0
    have hfz14_1 := blk_frozen BK385.out 1
    have hfz14_2 := blk_frozen BK385.out 2
    go_wp2
    first | go_end0 | ((try simp only [Exit.inBlock, Exit.then]); refine bodyPost_ret (results_none rfl _ _ _) rfl ?_)
    exact ⟨by first | rfl | (simp [*, errW_none, errW_some] <;> rfl), (by first | exact (by (with_reducible repeat (first | apply Kd.R_alloc | apply Kd.R_drewN | apply Kd.R_drew)); exact HO_386000.out) | (simp only [hl386000_1, hl386001_1]; exact (by (with_reducible repeat (first | apply Kd.R_alloc | apply Kd.R_drewN | apply Kd.R_drew)); exact HO_386000.out))), (by first | exact (by (with_reducible repeat (first | apply Kd.R_alloc | apply Kd.R_drewN | apply Kd.R_drew)); exact HO_386001.out) | (simp only [hl386000_1, hl386001_1]; exact (by (with_reducible repeat (first | apply Kd.R_alloc | apply Kd.R_drewN | apply Kd.R_drew)); exact HO_386001.out))), by repeat (first | (with_reducible first | exact HB.out | apply below_alloc | apply pw_below_drewN | apply below_drew1 | refine below_set ?_ GE385.out) | exact HB.out), by repeat (first | (with_reducible first | exact HK.out | apply Kept.alloc | apply Kept.drewN | apply Kept.drew | refine Kept.setCell ?_ (.inr GW385.out) _) | exact HK.out)⟩

end Go.Proofs.Ytlmpecahmmgphaa.XLay
