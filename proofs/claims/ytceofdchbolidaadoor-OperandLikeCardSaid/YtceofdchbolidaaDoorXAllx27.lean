/- Laid by this seat's own program (wip/tools/printx.py) out of the translation: the functions that laws use (All), each with its contract. Condition: the library's table strings.asciiSpace holds what it was laid with. -/
import Derived.Test.YtceofdchbolidaaDoorXAllx0
import Derived.Test.YtceofdchbolidaaDoorXAllx22
import Derived.Test.YtceofdchbolidaaDoorXAllx24
import Derived.Test.YtceofdchbolidaaDoorXAllx25
namespace Go.Proofs.YtceofdchbolidaaDoor.XAll
open Go.RowKit Go.Proofs.YtceofdchbolidaaDoorW.PrintWords Go.Proofs.YtceofdchbolidaaDoorW.PrintLast Go.Proofs.YtceofdchbolidaaDoorW.PrintMore Go.Proofs.YtceofdchbolidaaDoor.Hand
attribute [local go_sem] max2_int min2_int max_two min_two max_three min_three max_four min_four   -- for this text's walks alone
set_option linter.unusedVariables false
set_option linter.unusedSimpArgs false

/-! ### linotypelaw06_OperandLike: function 9 -/
def linotypelaw06_OperandLike.j0 : Nat → Int → Bool → Int → Int → Int → Int → Int → Bool → Option (Bool)
 | 0, _, _, _, _, _, _, _, _ => none
 | k + 1, x0, x5, x7, x8, x9, x10, x11, x40 => if x40 = true then (if x5 = true then (if x9 = x11 then (if x9 = 5 then (if x7 < 64 then (if 0 ≤ (wrap64 (x7 - 1)) then (if x0 < (shl .i64 (-1) (wrap64 (x7 - 1))) then (if x8 = 0 then (some (x10 == 0)) else (some false)) else (if 0 ≤ x7 then (if x0 ≥ (shl .i64 1 x7) then (if x8 = 0 then (some (x10 == 0)) else (some false)) else (some false)) else (none))) else (none)) else (some false)) else (some false)) else (some false)) else (some false)) else (if x7 = 64 then (if x5 = true then (if x8 = x0 then (some (x10 == x0)) else (some false)) else (some false)) else (if 0 ≤ x7 then (if x5 = true then ((linotypelaw06_imm.f k x8 x7 true x8 0).bind fun t404 => (if t404 = true then ((linotypelaw06_imm.f k x10 x7 false x10 0).bind fun t405 => (if t405 = true then ((linotypelaw06_imm.f k x8 x7 false x10 0).bind fun t406 => (if t406 = true then ((linotypelaw06_imm.f k x10 x7 true x8 0).bind fun t407 => (if t407 = true then (if x8 ≥ (wrap64 (Int.tdiv (wrap64 (-(shl .i64 1 x7))) 2)) then (if x8 < (wrap64 (Int.tdiv (shl .i64 1 x7) 2)) then (if x10 ≥ 0 then (if x10 < (shl .i64 1 x7) then (if (shl .i64 1 x7) = 0 then (none) else (if (Int.tmod (wrap64 (x8 - x0)) (shl .i64 1 x7)) = 0 then (some ((Int.tmod (wrap64 (x10 - x0)) (shl .i64 1 x7)) == 0)) else (some false))) else (some false)) else (some false)) else (some false)) else (some false)) else (some false))) else (some false))) else (some false))) else (some false))) else (some false)) else (none)))
def linotypelaw06_OperandLike.f (k : Nat) (a0 : Int) (a1 : Int) : Option (Bool) := (linotypelaw06_awake.f k).bind fun t395 => ((some (([8, 16, 32, 64] : List Int) : List Int)).bind fun y396 => (if 0 ≤ (Int.tmod (wrap64 ((Int.tmod a1 4) + 4)) 4) then (if (Int.tmod (wrap64 ((Int.tmod a1 4) + 4)) 4) < (y396.length : Int) then ((operand_Imm.f k a0 (rd y396 (Int.tmod (wrap64 ((Int.tmod a1 4) + 4)) 4)) true).bind fun bt400 => ((operand_Imm.f k a0 (rd y396 (Int.tmod (wrap64 ((Int.tmod a1 4) + 4)) 4)) false).bind fun bt402 => (if bt400.2 = bt402.2 then (linotypelaw06_OperandLike.j0 k a0 t395 (rd y396 (Int.tmod (wrap64 ((Int.tmod a1 4) + 4)) 4)) bt400.1 bt400.2 bt402.1 bt402.2 (bt400.2 != 0)) else (linotypelaw06_OperandLike.j0 k a0 t395 (rd y396 (Int.tmod (wrap64 ((Int.tmod a1 4) + 4)) 4)) bt400.1 bt400.2 bt402.1 bt402.2 true)))) else (none)) else (none)))
theorem linotypelaw06_OperandLike.mono_l : ∀ k, (∀ y0 y1 y2 y3 y4 y5 y6 y7, LeO (linotypelaw06_OperandLike.j0 k y0 y1 y2 y3 y4 y5 y6 y7) (linotypelaw06_OperandLike.j0 (k + 1) y0 y1 y2 y3 y4 y5 y6 y7))
 | 0 => fun _ _ _ _ _ _ _ _ r h => by simp [linotypelaw06_OperandLike.j0] at h
 | k + 1 => by
  have ih0 := linotypelaw06_OperandLike.mono_l k
  ·intro y0 y1 y2 y3 y4 y5 y6 y7
   unfold linotypelaw06_OperandLike.j0
   repeat' first
   | (with_reducible exact ih0 _ _ _ _ _ _ _ _)
   | (with_reducible exact linotypelaw06_awake.mono _)
   | (with_reducible exact linotypelaw06_imm.mono _ _ _ _ _ _)
   | (with_reducible exact operand_Imm.mono _ _ _ _)
   | (with_reducible exact LeO.refl _)
   | (with_reducible exact LeO.none _)
   | (with_reducible refine LeO.ite ?_ ?_)
   | (with_reducible refine LeO.bind ?_ (fun _ => ?_))
   | exact ih0 _ _ _ _ _ _ _ _
   | exact linotypelaw06_awake.mono _
   | exact linotypelaw06_imm.mono _ _ _ _ _ _
   | exact operand_Imm.mono _ _ _ _
   | exact LeO.none _
   | refine LeO.ite ?_ ?_
   | refine LeO.bind ?_ (fun _ => ?_)
theorem linotypelaw06_OperandLike.mono : ∀ a0 a1 k, LeO (linotypelaw06_OperandLike.f k a0 a1) (linotypelaw06_OperandLike.f (k + 1) a0 a1) := by
 intro a0 a1 k
 have ih0 := linotypelaw06_OperandLike.mono_l k
 unfold linotypelaw06_OperandLike.f
 repeat' first
   | (with_reducible exact ih0 _ _ _ _ _ _ _ _)
   | (with_reducible exact linotypelaw06_awake.mono _)
   | (with_reducible exact linotypelaw06_imm.mono _ _ _ _ _ _)
   | (with_reducible exact operand_Imm.mono _ _ _ _)
   | (with_reducible exact LeO.refl _)
   | (with_reducible exact LeO.none _)
   | (with_reducible refine LeO.ite ?_ ?_)
   | (with_reducible refine LeO.bind ?_ (fun _ => ?_))
   | exact ih0 _ _ _ _ _ _ _ _
   | exact linotypelaw06_awake.mono _
   | exact linotypelaw06_imm.mono _ _ _ _ _ _
   | exact operand_Imm.mono _ _ _ _
   | exact LeO.none _
   | refine LeO.ite ?_ ?_
   | refine LeO.bind ?_ (fun _ => ?_)
set_option maxHeartbeats 8000000 in
set_option maxRecDepth 100000 in
theorem linotypelaw06_OperandLike.calls (k : Nat) (a0 : Int) (a1 : Int) (w : World) (h : linotypelaw06_OperandLike.f k a0 a1 = some true) (hG : G w) :
  Calls Tryd.prog 9 #[.int .i64 a0, .int .i64 a1] w fun e w' => e = .returned (.bool true) ∧ Below w.heap.size w w' := by
 have HG := Lib.hid hG
 clear hG
 have HB := Aside0.mk (Below.refl w.heap.size w)
 have H : ((linotypelaw06_awake.f k).bind fun t395 => ((some (([8, 16, 32, 64] : List Int) : List Int)).bind fun y396 => (if 0 ≤ (Int.tmod (wrap64 ((Int.tmod a1 4) + 4)) 4) then (if (Int.tmod (wrap64 ((Int.tmod a1 4) + 4)) 4) < (y396.length : Int) then ((operand_Imm.f k a0 (rd y396 (Int.tmod (wrap64 ((Int.tmod a1 4) + 4)) 4)) true).bind fun bt400 => ((operand_Imm.f k a0 (rd y396 (Int.tmod (wrap64 ((Int.tmod a1 4) + 4)) 4)) false).bind fun bt402 => (if bt400.2 = bt402.2 then (linotypelaw06_OperandLike.j0 k a0 t395 (rd y396 (Int.tmod (wrap64 ((Int.tmod a1 4) + 4)) 4)) bt400.1 bt400.2 bt402.1 bt402.2 (bt400.2 != 0)) else (linotypelaw06_OperandLike.j0 k a0 t395 (rd y396 (Int.tmod (wrap64 ((Int.tmod a1 4) + 4)) 4)) bt400.1 bt400.2 bt402.1 bt402.2 true)))) else (none)) else (none)))) = some true := h
 clear h
 replace H := Option.bind_eq_some_iff.mp H
 obtain ⟨t395, A30, H⟩ := H
 replace H : ((some (([8, 16, 32, 64] : List Int) : List Int)).bind fun y396 => (if 0 ≤ (Int.tmod (wrap64 ((Int.tmod a1 4) + 4)) 4) then (if (Int.tmod (wrap64 ((Int.tmod a1 4) + 4)) 4) < (y396.length : Int) then ((operand_Imm.f k a0 (rd y396 (Int.tmod (wrap64 ((Int.tmod a1 4) + 4)) 4)) true).bind fun bt400 => ((operand_Imm.f k a0 (rd y396 (Int.tmod (wrap64 ((Int.tmod a1 4) + 4)) 4)) false).bind fun bt402 => (if bt400.2 = bt402.2 then (linotypelaw06_OperandLike.j0 k a0 t395 (rd y396 (Int.tmod (wrap64 ((Int.tmod a1 4) + 4)) 4)) bt400.1 bt400.2 bt402.1 bt402.2 (bt400.2 != 0)) else (linotypelaw06_OperandLike.j0 k a0 t395 (rd y396 (Int.tmod (wrap64 ((Int.tmod a1 4) + 4)) 4)) bt400.1 bt400.2 bt402.1 bt402.2 true)))) else (none)) else (none))) = some true := H
 have A3 := Aside0.mk A30
 clear A30
 obtain ⟨y396, hy396⟩ : ∃ y_ : List Int, y_ = (([8, 16, 32, 64] : List Int)) := ⟨_, rfl⟩
 replace H : (if 0 ≤ (Int.tmod (wrap64 ((Int.tmod a1 4) + 4)) 4) then (if (Int.tmod (wrap64 ((Int.tmod a1 4) + 4)) 4) < (y396.length : Int) then ((operand_Imm.f k a0 (rd y396 (Int.tmod (wrap64 ((Int.tmod a1 4) + 4)) 4)) true).bind fun bt400 => ((operand_Imm.f k a0 (rd y396 (Int.tmod (wrap64 ((Int.tmod a1 4) + 4)) 4)) false).bind fun bt402 => (if bt400.2 = bt402.2 then (linotypelaw06_OperandLike.j0 k a0 t395 (rd y396 (Int.tmod (wrap64 ((Int.tmod a1 4) + 4)) 4)) bt400.1 bt400.2 bt402.1 bt402.2 (bt400.2 != 0)) else (linotypelaw06_OperandLike.j0 k a0 t395 (rd y396 (Int.tmod (wrap64 ((Int.tmod a1 4) + 4)) 4)) bt400.1 bt400.2 bt402.1 bt402.2 true)))) else (none)) else (none)) = some true := by first | (rw [hy396]; with_reducible exact H) | (have H2_ := (Option.bind_some _ _).symm.trans H; rw [hy396]; with_reducible exact H2_) | (have H2_ := (Option.bind_some _ _).symm.trans H; with_reducible exact H2_) | with_reducible exact H | (rw [hy396]; exact H) | exact H
 have Ny396 := Aside0.mk hy396
 clear hy396
 obtain ⟨ji4, hji4⟩ : ∃ j_ : Int, (Int.tmod (wrap64 ((Int.tmod a1 4) + 4)) 4) = j_ := ⟨_, rfl⟩
 replace H : (if 0 ≤ (ji4) then (if (ji4) < (y396.length : Int) then ((operand_Imm.f k a0 (rd y396 (ji4)) true).bind fun bt400 => ((operand_Imm.f k a0 (rd y396 (ji4)) false).bind fun bt402 => (if bt400.2 = bt402.2 then (linotypelaw06_OperandLike.j0 k a0 t395 (rd y396 (ji4)) bt400.1 bt400.2 bt402.1 bt402.2 (bt400.2 != 0)) else (linotypelaw06_OperandLike.j0 k a0 t395 (rd y396 (ji4)) bt400.1 bt400.2 bt402.1 bt402.2 true)))) else (none)) else (none)) = some true := by first | (rw [hji4] at H; exact H) | (simp only [hji4] at H ⊢; exact H)
 (try rw [hji4] at A3)
 by_cases c5 : 0 ≤ (ji4)
 ·rw [if_pos c5] at H
  have c5b0 : decide (0 ≤ (ji4)) = true := decide_eq_true c5
  clear c5
  by_cases c6 : (ji4) < (y396.length : Int)
  ·rw [if_pos c6] at H
   have c6b0 : decide ((ji4) < (y396.length : Int)) = true := decide_eq_true c6
   clear c6
   replace H := Option.bind_eq_some_iff.mp H
   obtain ⟨⟨t400, t401⟩, A70, H⟩ := H
   replace H : ((operand_Imm.f k a0 (rd y396 (ji4)) false).bind fun bt402 => (if t401 = bt402.2 then (linotypelaw06_OperandLike.j0 k a0 t395 (rd y396 (ji4)) t400 t401 bt402.1 bt402.2 (t401 != 0)) else (linotypelaw06_OperandLike.j0 k a0 t395 (rd y396 (ji4)) t400 t401 bt402.1 bt402.2 true))) = some true := H
   have A7 := Aside0.mk A70
   clear A70
   replace H := Option.bind_eq_some_iff.mp H
   obtain ⟨⟨t402, t403⟩, A80, H⟩ := H
   replace H : (if t401 = t403 then (linotypelaw06_OperandLike.j0 k a0 t395 (rd y396 (ji4)) t400 t401 t402 t403 (t401 != 0)) else (linotypelaw06_OperandLike.j0 k a0 t395 (rd y396 (ji4)) t400 t401 t402 t403 true)) = some true := H
   have A8 := Aside0.mk A80
   clear A80
   have HC9 := Aside0.mk H
   clear H
   go_enter Tryd.func9, Tryd.ntmps9
   go_upto_region 6 with (first | ((with_reducible refine gate_callee (f := 29) rfl ?_); refine goesL_ (some 13) rfl rfl Tryd.func29 (by kernel_rfl) rfl #[] rfl (by (try simp only [List.map_toArray, List.map_cons, List.map_nil]); first | done | rfl | (simp only [List.length_drop, List.length_take]; rfl)) ?_; (with_reducible refine (linotypelaw06_awake.calls k  t395 _ A3.out ?gG).mono ?_); (case gG => exact G.below HG.out (by repeat (first | (with_reducible first | exact HB.out | apply below_alloc | apply pw_below_drewN | apply below_drew1) | exact HB.out))); rintro e w10 ⟨rfl, hb⟩; refine ⟨_, rfl, ?_⟩; have n0_ := Aside0.mk (below_step (by repeat (first | (with_reducible first | exact HB.out | apply below_alloc | apply pw_below_drewN | apply below_drew1) | exact HB.out)) hb); clear HB; have HB := n0_; clear n0_; (try clear hb); (try clear hb2); (try clear hk); (try clear hi)) | ((with_reducible refine gate_dst (N := 14) rfl ?_); refine Kd.R_lit (Kd.int .i64) _ 3 ?hg (N := 14) ?hd (xs := ([8, 16, 32, 64] : List Int)) (inner := [.int .i64 8, .int .i64 16, .int .i64 32, .int .i64 64]) (ok := fun _ => True) (okp := fun _ => True) ?hr ?hp (fun _ hk => hk) trivial (Below.refl _ _) (Nat.le_refl _) (by simp) ?_; (case hd => rfl); (case hg => rfl); (case hr => first | (go_simp; done) | (go_simp; rfl)); (case hp => exact (Reps.one (show Kd.M (Kd.int .i64) _ _ _ 8 [.int .i64 8] from rfl) (Reps.one (show Kd.M (Kd.int .i64) _ _ _ 16 [.int .i64 16] from rfl) (Reps.one (show Kd.M (Kd.int .i64) _ _ _ 32 [.int .i64 32] from rfl) (Reps.one (show Kd.M (Kd.int .i64) _ _ _ 64 [.int .i64 64] from rfl) (Reps.none _ _)))))); intro v397 w11 ho12 hb hg_ hnew_; clear hg_ hnew_; (first | rw [← Ny396.out] at ho12 | (simp only [Int.reduceToNat] at ho12; rw [← Ny396.out] at ho12)); have n0_ := Aside0.mk (Kd.R_lower ho12 (below_size (by repeat (first | (with_reducible first | exact HB.out | apply below_alloc | apply pw_below_drewN | apply below_drew1) | exact HB.out)))); have n1_ := Aside0.mk (below_step (by repeat (first | (with_reducible first | exact HB.out | apply below_alloc | apply pw_below_drewN | apply below_drew1) | exact HB.out)) hb); clear HB; have HO398 := n0_; have HB := n1_; clear n0_ n1_; clear hb ho12; obtain ⟨Ao13, co13, eo13⟩ := Kd.R_slice HO398.out; subst eo13; have p399 : 0 ≤ ((ji4) : Int) := of_decide_eq_true (by first | (with_reducible assumption) | assumption); have q399 : (ji4) < (y396.length : Int) := of_decide_eq_true (by first | (with_reducible assumption) | assumption); obtain ⟨ad399, e399, hx399_0⟩ := Kd.at_int (Kd.R_reads' HO398.out).2.2 (ji4) p399 q399; cases e399; replace p399 := eq_true p399; replace q399 := eq_true q399) | ((with_reducible refine gate_callee (f := 27) rfl ?_); refine goesL_ (some 25) rfl rfl Tryd.func27 (by kernel_rfl) rfl #[.int .i64 a0, .int .i64 (rd y396 (ji4)), .bool true] rfl (by (try simp only [List.map_toArray, List.map_cons, List.map_nil]); first | done | (simp only [hji4]; rfl) | rfl | (simp only [List.length_drop, List.length_take]; rfl)) ?_; (with_reducible refine (operand_Imm.calls k a0 (rd y396 (ji4)) true t400 t401 _ A7.out).mono ?_); rintro e w' ⟨rfl, ⟨nd, rfl⟩⟩; refine ⟨_, rfl, ?_⟩) | ((with_reducible refine gate_callee (f := 27) rfl ?_); refine goesL_ (some 31) rfl rfl Tryd.func27 (by kernel_rfl) rfl #[.int .i64 a0, .int .i64 (rd y396 (ji4)), .bool false] rfl (by (try simp only [List.map_toArray, List.map_cons, List.map_nil]); first | done | (simp only [hji4]; rfl) | rfl | (simp only [List.length_drop, List.length_take]; rfl)) ?_; (with_reducible refine (operand_Imm.calls k a0 (rd y396 (ji4)) false t402 t403 _ A8.out).mono ?_); rintro e w' ⟨rfl, ⟨nd, rfl⟩⟩; refine ⟨_, rfl, ?_⟩))
   (try simp only [Act.put, List.setIfInBounds_toArray, List.set_cons_zero, List.set_cons_succ])
   go_cut [40] (fun v40 wc => ∃ (kq : Nat) (x40_8 : Bool), v40 = .bool x40_8 ∧ Aside0 (linotypelaw06_OperandLike.j0 kq a0 t395 (rd y396 (ji4)) t400 t401 t402 t403 x40_8 = some true) ∧ Aside0 (kq ≤ k) ∧ Aside0 (Below w.heap.size w wc))
   case first =>
    have H := HC9.out
    clear HC9
    by_cases c14 : t401 = t403
    ·rw [if_pos c14] at H
     have c14b0 : (t401 == t403) = true := beq_iff_eq.mpr c14
     have c14b1 : (t401 != t403) = false := bne_eq_false_iff_eq.mpr c14
     clear c14
     (first | rw [c14b0] | (simp only [i64_w, i32_w]; rw [c14b0]) | skip)
     have H' := Aside0.mk H
     clear H
     go_wp2
     go_meet
     case rel => exact ⟨_, ((t401 != 0)), (by first | rfl | (simp; done) | (simp [*]; done)), H', ⟨by first | omega | exact Nat.le_refl _⟩, ⟨by repeat (first | (with_reducible first | exact HB.out | apply below_alloc | apply pw_below_drewN | apply below_drew1) | exact HB.out)⟩⟩
    ·rw [if_neg c14] at H
     have c14b0 : (t401 == t403) = false := beq_eq_false_iff_ne.mpr c14
     have c14b1 : (t401 != t403) = true := bne_iff_ne.mpr c14
     (first | rw [c14b0] | (simp only [i64_w, i32_w]; rw [c14b0]) | skip)
     have H' := Aside0.mk H
     clear H
     go_wp2
     go_meet
     case rel => exact ⟨_, (true), (by first | rfl | (simp; done) | (simp [*]; done)), H', ⟨by first | omega | exact Nat.le_refl _⟩, ⟨by repeat (first | (with_reducible first | exact HB.out | apply below_alloc | apply pw_below_drewN | apply below_drew1) | exact HB.out)⟩⟩
   case rest =>
    clear HC9
    try clear c1
    try clear c2
    try clear p2
    try clear p3
    try clear q3
    try clear hx3
    try clear c5
    try clear c5b0
    try clear c6
    try clear c6b0
    try clear p6
    try clear c9
    try clear c14
    try clear c14b0
    try clear c14b1
    try clear hx399_0
    try clear p399
    try clear q399
    obtain ⟨kq, x40_8, rfl, HA, HJ8, HB⟩ := hcut
    cases kq with
    | zero => exact absurd HA.out (by simp [linotypelaw06_OperandLike.j0])
    | succ kj8 =>
     have H := HA.out
     clear HA
     simp only [linotypelaw06_OperandLike.j0] at H
     by_cases c15 : x40_8 = true
     ·subst c15
      have H1 : (if t395 = true then (if t401 = t403 then (if t401 = 5 then (if (rd y396 (ji4)) < 64 then (if 0 ≤ (wrap64 ((rd y396 (ji4)) - 1)) then (if a0 < (shl .i64 (-1) (wrap64 ((rd y396 (ji4)) - 1))) then (if t400 = 0 then (some (t402 == 0)) else (some false)) else (if 0 ≤ (rd y396 (ji4)) then (if a0 ≥ (shl .i64 1 (rd y396 (ji4))) then (if t400 = 0 then (some (t402 == 0)) else (some false)) else (some false)) else (none))) else (none)) else (some false)) else (some false)) else (some false)) else (some false)) = some true := by rw [if_pos rfl] at H; exact H
      clear H
      have H := H1
      clear H1
      by_cases c16 : t395 = true
      ·subst c16
       have H1 : (if t401 = t403 then (if t401 = 5 then (if (rd y396 (ji4)) < 64 then (if 0 ≤ (wrap64 ((rd y396 (ji4)) - 1)) then (if a0 < (shl .i64 (-1) (wrap64 ((rd y396 (ji4)) - 1))) then (if t400 = 0 then (some (t402 == 0)) else (some false)) else (if 0 ≤ (rd y396 (ji4)) then (if a0 ≥ (shl .i64 1 (rd y396 (ji4))) then (if t400 = 0 then (some (t402 == 0)) else (some false)) else (some false)) else (none))) else (none)) else (some false)) else (some false)) else (some false)) = some true := by rw [if_pos rfl] at H; exact H
       clear H
       have H := H1
       clear H1
       by_cases c17 : t401 = t403
       ·rw [if_pos c17] at H
        have c17b0 : (t401 == t403) = true := beq_iff_eq.mpr c17
        have c17b1 : (t401 != t403) = false := bne_eq_false_iff_eq.mpr c17
        clear c17
        by_cases c18 : t401 = 5
        ·rw [if_pos c18] at H
         have c18b0 : (t401 == 5) = true := beq_iff_eq.mpr c18
         have c18b1 : (t401 != 5) = false := bne_eq_false_iff_eq.mpr c18
         clear c18
         by_cases c19 : (rd y396 (ji4)) < 64
         ·rw [if_pos c19] at H
          have c19b0 : decide ((rd y396 (ji4)) < 64) = true := decide_eq_true c19
          clear c19
          obtain ⟨ji20, hji20⟩ : ∃ j_ : Int, (wrap64 ((rd y396 (ji4)) - 1)) = j_ := ⟨_, rfl⟩
          replace H : (if 0 ≤ (ji20) then (if a0 < (shl .i64 (-1) (ji20)) then (if t400 = 0 then (some (t402 == 0)) else (some false)) else (if 0 ≤ (rd y396 (ji4)) then (if a0 ≥ (shl .i64 1 (rd y396 (ji4))) then (if t400 = 0 then (some (t402 == 0)) else (some false)) else (some false)) else (none))) else (none)) = some true := by first | (rw [hji20] at H; exact H) | (simp only [hji20] at H ⊢; exact H)
          have hji20w : (IntKind.i64.wrap ((rd y396 (ji4)) - 1)) = ji20 := (i64_w _).trans hji20
          by_cases c21 : 0 ≤ (ji20)
          ·rw [if_pos c21] at H
           have c21b0 := eq_true c21
           have c21b1 : decide (0 ≤ (ji20)) = true := decide_eq_true c21
           clear c21
           obtain ⟨ji22, hji22⟩ : ∃ j_ : Int, (shl .i64 (-1) (ji20)) = j_ := ⟨_, rfl⟩
           replace H : (if a0 < (ji22) then (if t400 = 0 then (some (t402 == 0)) else (some false)) else (if 0 ≤ (rd y396 (ji4)) then (if a0 ≥ (shl .i64 1 (rd y396 (ji4))) then (if t400 = 0 then (some (t402 == 0)) else (some false)) else (some false)) else (none))) = some true := by first | (rw [hji22] at H; exact H) | (simp only [hji22] at H ⊢; exact H)
           have hji22_ : (IntKind.i64.wrap ((-1) * 2 ^ min (ji20).toNat 64)) = ji22 := hji22
           have hji22z : (ji20) ≤ 64 → (IntKind.i64.wrap ((-1) * 2 ^ (ji20).toNat)) = ji22 := shl_small hji22
           have hji22y : (wrap64 ((-1) * 2 ^ min (ji20).toNat 64)) = ji22 := (i64_w _).symm.trans hji22_
           have hji22x : (ji20) ≤ 64 → (wrap64 ((-1) * 2 ^ (ji20).toNat)) = ji22 := fun h_ => (i64_w _).symm.trans (hji22z h_)
           have hji22n : (IntKind.i64.wrap (-2 ^ min (ji20).toNat 64)) = ji22 := by have h_ := hji22_; rw [Int.neg_mul, Int.one_mul] at h_; exact h_
           have hji22m : (ji20) ≤ 64 → (IntKind.i64.wrap (-2 ^ (ji20).toNat)) = ji22 := fun hle_ => by have h_ := hji22z hle_; rw [Int.neg_mul, Int.one_mul] at h_; exact h_
           have hji22o : (wrap64 (-2 ^ min (ji20).toNat 64)) = ji22 := (i64_w _).symm.trans hji22n
           have hji22p : (ji20) ≤ 64 → (wrap64 (-2 ^ (ji20).toNat)) = ji22 := fun h_ => (i64_w _).symm.trans (hji22m h_)
           by_cases c23 : a0 < (ji22)
           ·rw [if_pos c23] at H
            have c23b0 : decide (a0 < (ji22)) = true := decide_eq_true c23
            clear c23
            by_cases c24 : t400 = 0
            ·rw [if_pos c24] at H
             have c24b0 : (t400 == 0) = true := beq_iff_eq.mpr c24
             have c24b1 : (t400 != 0) = false := bne_eq_false_iff_eq.mpr c24
             clear c24
             have HQ0 := Aside0.mk (Option.some.inj H)
             clear H
             go_wp2
             go_ret
             exact ⟨by first | (exact congrArg (fun b_ => Ending.returned (.bool b_)) HQ0.out) | rfl | (simp [errW_none, errW_some] <;> rfl) | (simp only [← hji4, ← hji20, ← hji22]; first | rfl | (simp [errW_none, errW_some] <;> rfl)) | (simp [*, errW_none, errW_some] <;> rfl), by repeat (first | (with_reducible first | exact HB.out | apply below_alloc | apply pw_below_drewN | apply below_drew1) | exact HB.out)⟩
            ·rw [if_neg c24] at H
             have c24b0 : (t400 == 0) = false := beq_eq_false_iff_ne.mpr c24
             have c24b1 : (t400 != 0) = true := bne_iff_ne.mpr c24
             exact absurd H (by simp)
           ·rw [if_neg c23] at H
            have c23b0 : decide (a0 < (ji22)) = false := decide_eq_false c23
            clear c23
            by_cases c25 : 0 ≤ (rd y396 (ji4))
            ·rw [if_pos c25] at H
             have c25b0 := eq_true c25
             have c25b1 : decide (0 ≤ (rd y396 (ji4))) = true := decide_eq_true c25
             clear c25
             obtain ⟨ji26, hji26⟩ : ∃ j_ : Int, (shl .i64 1 (rd y396 (ji4))) = j_ := ⟨_, rfl⟩
             replace H : (if a0 ≥ (ji26) then (if t400 = 0 then (some (t402 == 0)) else (some false)) else (some false)) = some true := by first | (rw [hji26] at H; exact H) | (simp only [hji26] at H ⊢; exact H)
             have hji26_ : (IntKind.i64.wrap (1 * 2 ^ min (rd y396 (ji4)).toNat 64)) = ji26 := hji26
             have hji26z : (rd y396 (ji4)) ≤ 64 → (IntKind.i64.wrap (1 * 2 ^ (rd y396 (ji4)).toNat)) = ji26 := shl_small hji26
             have hji26u : (IntKind.i64.wrap (2 ^ min (rd y396 (ji4)).toNat 64)) = ji26 := by have h_ := hji26_; rw [Int.one_mul] at h_; exact h_
             have hji26v : (rd y396 (ji4)) ≤ 64 → (IntKind.i64.wrap (2 ^ (rd y396 (ji4)).toNat)) = ji26 := fun hle_ => by have h_ := hji26z hle_; rw [Int.one_mul] at h_; exact h_
             have hji26y : (wrap64 (1 * 2 ^ min (rd y396 (ji4)).toNat 64)) = ji26 := (i64_w _).symm.trans hji26_
             have hji26x : (rd y396 (ji4)) ≤ 64 → (wrap64 (1 * 2 ^ (rd y396 (ji4)).toNat)) = ji26 := fun h_ => (i64_w _).symm.trans (hji26z h_)
             by_cases c27 : a0 ≥ (ji26)
             ·rw [if_pos c27] at H
              have c27b0 : decide ((ji26) ≤ a0) = true := decide_eq_true c27
              clear c27
              by_cases c28 : t400 = 0
              ·rw [if_pos c28] at H
               have c28b0 : (t400 == 0) = true := beq_iff_eq.mpr c28
               have c28b1 : (t400 != 0) = false := bne_eq_false_iff_eq.mpr c28
               clear c28
               have HQ0 := Aside0.mk (Option.some.inj H)
               clear H
               go_wp2
               go_ret
               exact ⟨by first | (exact congrArg (fun b_ => Ending.returned (.bool b_)) HQ0.out) | rfl | (simp [errW_none, errW_some] <;> rfl) | (simp only [← hji4, ← hji20, ← hji22, ← hji26]; first | rfl | (simp [errW_none, errW_some] <;> rfl)) | (simp [*, errW_none, errW_some] <;> rfl), by repeat (first | (with_reducible first | exact HB.out | apply below_alloc | apply pw_below_drewN | apply below_drew1) | exact HB.out)⟩
              ·rw [if_neg c28] at H
               have c28b0 : (t400 == 0) = false := beq_eq_false_iff_ne.mpr c28
               have c28b1 : (t400 != 0) = true := bne_iff_ne.mpr c28
               exact absurd H (by simp)
             ·rw [if_neg c27] at H
              have c27b0 : decide ((ji26) ≤ a0) = false := decide_eq_false c27
              clear c27
              exact absurd H (by simp)
            ·rw [if_neg c25] at H
             exact absurd H (by simp)
          ·rw [if_neg c21] at H
           exact absurd H (by simp)
         ·rw [if_neg c19] at H
          have c19b0 : decide ((rd y396 (ji4)) < 64) = false := decide_eq_false c19
          clear c19
          exact absurd H (by simp)
        ·rw [if_neg c18] at H
         have c18b0 : (t401 == 5) = false := beq_eq_false_iff_ne.mpr c18
         have c18b1 : (t401 != 5) = true := bne_iff_ne.mpr c18
         exact absurd H (by simp)
       ·rw [if_neg c17] at H
        have c17b0 : (t401 == t403) = false := beq_eq_false_iff_ne.mpr c17
        have c17b1 : (t401 != t403) = true := bne_iff_ne.mpr c17
        exact absurd H (by simp)
      ·replace c16 := Bool.eq_false_iff.mpr c16
       subst c16
       have H1 : (some false) = some true := by rw [if_neg (show ¬ (false = true) by decide)] at H; exact H
       clear H
       have H := H1
       clear H1
       exact absurd H (by simp)
     ·replace c15 := Bool.eq_false_iff.mpr c15
      subst c15
      have H1 : (if (rd y396 (ji4)) = 64 then (if t395 = true then (if t400 = a0 then (some (t402 == a0)) else (some false)) else (some false)) else (if 0 ≤ (rd y396 (ji4)) then (if t395 = true then ((linotypelaw06_imm.f kj8 t400 (rd y396 (ji4)) true t400 0).bind fun t404 => (if t404 = true then ((linotypelaw06_imm.f kj8 t402 (rd y396 (ji4)) false t402 0).bind fun t405 => (if t405 = true then ((linotypelaw06_imm.f kj8 t400 (rd y396 (ji4)) false t402 0).bind fun t406 => (if t406 = true then ((linotypelaw06_imm.f kj8 t402 (rd y396 (ji4)) true t400 0).bind fun t407 => (if t407 = true then (if t400 ≥ (wrap64 (Int.tdiv (wrap64 (-(shl .i64 1 (rd y396 (ji4))))) 2)) then (if t400 < (wrap64 (Int.tdiv (shl .i64 1 (rd y396 (ji4))) 2)) then (if t402 ≥ 0 then (if t402 < (shl .i64 1 (rd y396 (ji4))) then (if (shl .i64 1 (rd y396 (ji4))) = 0 then (none) else (if (Int.tmod (wrap64 (t400 - a0)) (shl .i64 1 (rd y396 (ji4)))) = 0 then (some ((Int.tmod (wrap64 (t402 - a0)) (shl .i64 1 (rd y396 (ji4)))) == 0)) else (some false))) else (some false)) else (some false)) else (some false)) else (some false)) else (some false))) else (some false))) else (some false))) else (some false))) else (some false)) else (none))) = some true := by rw [if_neg (show ¬ (false = true) by decide)] at H; exact H
      clear H
      have H := H1
      clear H1
      by_cases c29 : (rd y396 (ji4)) = 64
      ·rw [if_pos c29] at H
       have c29b0 : ((rd y396 (ji4)) == 64) = true := beq_iff_eq.mpr c29
       have c29b1 : ((rd y396 (ji4)) != 64) = false := bne_eq_false_iff_eq.mpr c29
       clear c29
       by_cases c30 : t395 = true
       ·subst c30
        have H1 : (if t400 = a0 then (some (t402 == a0)) else (some false)) = some true := by rw [if_pos rfl] at H; exact H
        clear H
        have H := H1
        clear H1
        by_cases c31 : t400 = a0
        ·rw [if_pos c31] at H
         have c31b0 : (t400 == a0) = true := beq_iff_eq.mpr c31
         have c31b1 : (t400 != a0) = false := bne_eq_false_iff_eq.mpr c31
         clear c31
         have HQ0 := Aside0.mk (Option.some.inj H)
         clear H
         go_wp2
         go_ret
         exact ⟨by first | (exact congrArg (fun b_ => Ending.returned (.bool b_)) HQ0.out) | rfl | (simp [errW_none, errW_some] <;> rfl) | (simp only [← hji4]; first | rfl | (simp [errW_none, errW_some] <;> rfl)) | (simp [*, errW_none, errW_some] <;> rfl), by repeat (first | (with_reducible first | exact HB.out | apply below_alloc | apply pw_below_drewN | apply below_drew1) | exact HB.out)⟩
        ·rw [if_neg c31] at H
         have c31b0 : (t400 == a0) = false := beq_eq_false_iff_ne.mpr c31
         have c31b1 : (t400 != a0) = true := bne_iff_ne.mpr c31
         exact absurd H (by simp)
       ·replace c30 := Bool.eq_false_iff.mpr c30
        subst c30
        have H1 : (some false) = some true := by rw [if_neg (show ¬ (false = true) by decide)] at H; exact H
        clear H
        have H := H1
        clear H1
        exact absurd H (by simp)
      ·rw [if_neg c29] at H
       have c29b0 : ((rd y396 (ji4)) == 64) = false := beq_eq_false_iff_ne.mpr c29
       have c29b1 : ((rd y396 (ji4)) != 64) = true := bne_iff_ne.mpr c29
       by_cases c32 : 0 ≤ (rd y396 (ji4))
       ·rw [if_pos c32] at H
        have c32b0 := eq_true c32
        have c32b1 : decide (0 ≤ (rd y396 (ji4))) = true := decide_eq_true c32
        clear c32
        obtain ⟨ji33, hji33⟩ : ∃ j_ : Int, (shl .i64 1 (rd y396 (ji4))) = j_ := ⟨_, rfl⟩
        replace H : (if t395 = true then ((linotypelaw06_imm.f kj8 t400 (rd y396 (ji4)) true t400 0).bind fun t404 => (if t404 = true then ((linotypelaw06_imm.f kj8 t402 (rd y396 (ji4)) false t402 0).bind fun t405 => (if t405 = true then ((linotypelaw06_imm.f kj8 t400 (rd y396 (ji4)) false t402 0).bind fun t406 => (if t406 = true then ((linotypelaw06_imm.f kj8 t402 (rd y396 (ji4)) true t400 0).bind fun t407 => (if t407 = true then (if t400 ≥ (wrap64 (Int.tdiv (wrap64 (-(ji33))) 2)) then (if t400 < (wrap64 (Int.tdiv (ji33) 2)) then (if t402 ≥ 0 then (if t402 < (ji33) then (if (ji33) = 0 then (none) else (if (Int.tmod (wrap64 (t400 - a0)) (ji33)) = 0 then (some ((Int.tmod (wrap64 (t402 - a0)) (ji33)) == 0)) else (some false))) else (some false)) else (some false)) else (some false)) else (some false)) else (some false))) else (some false))) else (some false))) else (some false))) else (some false)) = some true := by first | (rw [hji33] at H; exact H) | (simp only [hji33] at H ⊢; exact H)
        have hji33_ : (IntKind.i64.wrap (1 * 2 ^ min (rd y396 (ji4)).toNat 64)) = ji33 := hji33
        have hji33z : (rd y396 (ji4)) ≤ 64 → (IntKind.i64.wrap (1 * 2 ^ (rd y396 (ji4)).toNat)) = ji33 := shl_small hji33
        have hji33u : (IntKind.i64.wrap (2 ^ min (rd y396 (ji4)).toNat 64)) = ji33 := by have h_ := hji33_; rw [Int.one_mul] at h_; exact h_
        have hji33v : (rd y396 (ji4)) ≤ 64 → (IntKind.i64.wrap (2 ^ (rd y396 (ji4)).toNat)) = ji33 := fun hle_ => by have h_ := hji33z hle_; rw [Int.one_mul] at h_; exact h_
        have hji33y : (wrap64 (1 * 2 ^ min (rd y396 (ji4)).toNat 64)) = ji33 := (i64_w _).symm.trans hji33_
        have hji33x : (rd y396 (ji4)) ≤ 64 → (wrap64 (1 * 2 ^ (rd y396 (ji4)).toNat)) = ji33 := fun h_ => (i64_w _).symm.trans (hji33z h_)
        by_cases c34 : t395 = true
        ·subst c34
         have H1 : ((linotypelaw06_imm.f kj8 t400 (rd y396 (ji4)) true t400 0).bind fun t404 => (if t404 = true then ((linotypelaw06_imm.f kj8 t402 (rd y396 (ji4)) false t402 0).bind fun t405 => (if t405 = true then ((linotypelaw06_imm.f kj8 t400 (rd y396 (ji4)) false t402 0).bind fun t406 => (if t406 = true then ((linotypelaw06_imm.f kj8 t402 (rd y396 (ji4)) true t400 0).bind fun t407 => (if t407 = true then (if t400 ≥ (wrap64 (Int.tdiv (wrap64 (-(ji33))) 2)) then (if t400 < (wrap64 (Int.tdiv (ji33) 2)) then (if t402 ≥ 0 then (if t402 < (ji33) then (if (ji33) = 0 then (none) else (if (Int.tmod (wrap64 (t400 - a0)) (ji33)) = 0 then (some ((Int.tmod (wrap64 (t402 - a0)) (ji33)) == 0)) else (some false))) else (some false)) else (some false)) else (some false)) else (some false)) else (some false))) else (some false))) else (some false))) else (some false))) = some true := by rw [if_pos rfl] at H; exact H
         clear H
         have H := H1
         clear H1
         replace H := Option.bind_eq_some_iff.mp H
         obtain ⟨t404, A350, H⟩ := H
         replace H : (if t404 = true then ((linotypelaw06_imm.f kj8 t402 (rd y396 (ji4)) false t402 0).bind fun t405 => (if t405 = true then ((linotypelaw06_imm.f kj8 t400 (rd y396 (ji4)) false t402 0).bind fun t406 => (if t406 = true then ((linotypelaw06_imm.f kj8 t402 (rd y396 (ji4)) true t400 0).bind fun t407 => (if t407 = true then (if t400 ≥ (wrap64 (Int.tdiv (wrap64 (-(ji33))) 2)) then (if t400 < (wrap64 (Int.tdiv (ji33) 2)) then (if t402 ≥ 0 then (if t402 < (ji33) then (if (ji33) = 0 then (none) else (if (Int.tmod (wrap64 (t400 - a0)) (ji33)) = 0 then (some ((Int.tmod (wrap64 (t402 - a0)) (ji33)) == 0)) else (some false))) else (some false)) else (some false)) else (some false)) else (some false)) else (some false))) else (some false))) else (some false))) else (some false)) = some true := H
         have A35 := Aside0.mk A350
         clear A350
         by_cases c36 : t404 = true
         ·subst c36
          have H1 : ((linotypelaw06_imm.f kj8 t402 (rd y396 (ji4)) false t402 0).bind fun t405 => (if t405 = true then ((linotypelaw06_imm.f kj8 t400 (rd y396 (ji4)) false t402 0).bind fun t406 => (if t406 = true then ((linotypelaw06_imm.f kj8 t402 (rd y396 (ji4)) true t400 0).bind fun t407 => (if t407 = true then (if t400 ≥ (wrap64 (Int.tdiv (wrap64 (-(ji33))) 2)) then (if t400 < (wrap64 (Int.tdiv (ji33) 2)) then (if t402 ≥ 0 then (if t402 < (ji33) then (if (ji33) = 0 then (none) else (if (Int.tmod (wrap64 (t400 - a0)) (ji33)) = 0 then (some ((Int.tmod (wrap64 (t402 - a0)) (ji33)) == 0)) else (some false))) else (some false)) else (some false)) else (some false)) else (some false)) else (some false))) else (some false))) else (some false))) = some true := by rw [if_pos rfl] at H; exact H
          clear H
          have H := H1
          clear H1
          replace H := Option.bind_eq_some_iff.mp H
          obtain ⟨t405, A370, H⟩ := H
          replace H : (if t405 = true then ((linotypelaw06_imm.f kj8 t400 (rd y396 (ji4)) false t402 0).bind fun t406 => (if t406 = true then ((linotypelaw06_imm.f kj8 t402 (rd y396 (ji4)) true t400 0).bind fun t407 => (if t407 = true then (if t400 ≥ (wrap64 (Int.tdiv (wrap64 (-(ji33))) 2)) then (if t400 < (wrap64 (Int.tdiv (ji33) 2)) then (if t402 ≥ 0 then (if t402 < (ji33) then (if (ji33) = 0 then (none) else (if (Int.tmod (wrap64 (t400 - a0)) (ji33)) = 0 then (some ((Int.tmod (wrap64 (t402 - a0)) (ji33)) == 0)) else (some false))) else (some false)) else (some false)) else (some false)) else (some false)) else (some false))) else (some false))) else (some false)) = some true := H
          have A37 := Aside0.mk A370
          clear A370
          by_cases c38 : t405 = true
          ·subst c38
           have H1 : ((linotypelaw06_imm.f kj8 t400 (rd y396 (ji4)) false t402 0).bind fun t406 => (if t406 = true then ((linotypelaw06_imm.f kj8 t402 (rd y396 (ji4)) true t400 0).bind fun t407 => (if t407 = true then (if t400 ≥ (wrap64 (Int.tdiv (wrap64 (-(ji33))) 2)) then (if t400 < (wrap64 (Int.tdiv (ji33) 2)) then (if t402 ≥ 0 then (if t402 < (ji33) then (if (ji33) = 0 then (none) else (if (Int.tmod (wrap64 (t400 - a0)) (ji33)) = 0 then (some ((Int.tmod (wrap64 (t402 - a0)) (ji33)) == 0)) else (some false))) else (some false)) else (some false)) else (some false)) else (some false)) else (some false))) else (some false))) = some true := by rw [if_pos rfl] at H; exact H
           clear H
           have H := H1
           clear H1
           replace H := Option.bind_eq_some_iff.mp H
           obtain ⟨t406, A390, H⟩ := H
           replace H : (if t406 = true then ((linotypelaw06_imm.f kj8 t402 (rd y396 (ji4)) true t400 0).bind fun t407 => (if t407 = true then (if t400 ≥ (wrap64 (Int.tdiv (wrap64 (-(ji33))) 2)) then (if t400 < (wrap64 (Int.tdiv (ji33) 2)) then (if t402 ≥ 0 then (if t402 < (ji33) then (if (ji33) = 0 then (none) else (if (Int.tmod (wrap64 (t400 - a0)) (ji33)) = 0 then (some ((Int.tmod (wrap64 (t402 - a0)) (ji33)) == 0)) else (some false))) else (some false)) else (some false)) else (some false)) else (some false)) else (some false))) else (some false)) = some true := H
           have A39 := Aside0.mk A390
           clear A390
           by_cases c40 : t406 = true
           ·subst c40
            have H1 : ((linotypelaw06_imm.f kj8 t402 (rd y396 (ji4)) true t400 0).bind fun t407 => (if t407 = true then (if t400 ≥ (wrap64 (Int.tdiv (wrap64 (-(ji33))) 2)) then (if t400 < (wrap64 (Int.tdiv (ji33) 2)) then (if t402 ≥ 0 then (if t402 < (ji33) then (if (ji33) = 0 then (none) else (if (Int.tmod (wrap64 (t400 - a0)) (ji33)) = 0 then (some ((Int.tmod (wrap64 (t402 - a0)) (ji33)) == 0)) else (some false))) else (some false)) else (some false)) else (some false)) else (some false)) else (some false))) = some true := by rw [if_pos rfl] at H; exact H
            clear H
            have H := H1
            clear H1
            replace H := Option.bind_eq_some_iff.mp H
            obtain ⟨t407, A410, H⟩ := H
            replace H : (if t407 = true then (if t400 ≥ (wrap64 (Int.tdiv (wrap64 (-(ji33))) 2)) then (if t400 < (wrap64 (Int.tdiv (ji33) 2)) then (if t402 ≥ 0 then (if t402 < (ji33) then (if (ji33) = 0 then (none) else (if (Int.tmod (wrap64 (t400 - a0)) (ji33)) = 0 then (some ((Int.tmod (wrap64 (t402 - a0)) (ji33)) == 0)) else (some false))) else (some false)) else (some false)) else (some false)) else (some false)) else (some false)) = some true := H
            have A41 := Aside0.mk A410
            clear A410
            by_cases c42 : t407 = true
            ·subst c42
             have H1 : (if t400 ≥ (wrap64 (Int.tdiv (wrap64 (-(ji33))) 2)) then (if t400 < (wrap64 (Int.tdiv (ji33) 2)) then (if t402 ≥ 0 then (if t402 < (ji33) then (if (ji33) = 0 then (none) else (if (Int.tmod (wrap64 (t400 - a0)) (ji33)) = 0 then (some ((Int.tmod (wrap64 (t402 - a0)) (ji33)) == 0)) else (some false))) else (some false)) else (some false)) else (some false)) else (some false)) = some true := by rw [if_pos rfl] at H; exact H
             clear H
             have H := H1
             clear H1
             by_cases c43 : t400 ≥ (wrap64 (Int.tdiv (wrap64 (-(ji33))) 2))
             ·rw [if_pos c43] at H
              have c43b0 : decide ((wrap64 (Int.tdiv (wrap64 (-(ji33))) 2)) ≤ t400) = true := decide_eq_true c43
              clear c43
              by_cases c44 : t400 < (wrap64 (Int.tdiv (ji33) 2))
              ·rw [if_pos c44] at H
               have c44b0 : decide (t400 < (wrap64 (Int.tdiv (ji33) 2))) = true := decide_eq_true c44
               clear c44
               by_cases c45 : t402 ≥ 0
               ·rw [if_pos c45] at H
                have c45b0 : decide (0 ≤ t402) = true := decide_eq_true c45
                clear c45
                by_cases c46 : t402 < (ji33)
                ·rw [if_pos c46] at H
                 have c46b0 : decide (t402 < (ji33)) = true := decide_eq_true c46
                 clear c46
                 by_cases c47 : (ji33) = 0
                 ·rw [if_pos c47] at H
                  exact absurd H (by simp)
                 ·rw [if_neg c47] at H
                  have c47b0 : ((ji33) == 0) = false := beq_eq_false_iff_ne.mpr c47
                  have c47b1 : ((ji33) != 0) = true := bne_iff_ne.mpr c47
                  by_cases c48 : (Int.tmod (wrap64 (t400 - a0)) (ji33)) = 0
                  ·rw [if_pos c48] at H
                   have c48b0 : ((Int.tmod (wrap64 (t400 - a0)) (ji33)) == 0) = true := beq_iff_eq.mpr c48
                   have c48b1 : ((Int.tmod (wrap64 (t400 - a0)) (ji33)) != 0) = false := bne_eq_false_iff_eq.mpr c48
                   clear c48
                   have HQ0 := Aside0.mk (Option.some.inj H)
                   clear H
                   go_wp2_with (first | (go_at_call 30; (with_reducible refine (linotypelaw06_imm.calls kj8 t400 (rd y396 (ji4)) true t400 0 true _ A35.out).mono ?_); rintro e w' ⟨rfl, ⟨nd, rfl⟩⟩) | (go_at_call 30; (with_reducible refine (linotypelaw06_imm.calls kj8 t402 (rd y396 (ji4)) false t402 0 true _ A37.out).mono ?_); rintro e w' ⟨rfl, ⟨nd, rfl⟩⟩) | (go_at_call 30; (with_reducible refine (linotypelaw06_imm.calls kj8 t400 (rd y396 (ji4)) false t402 0 true _ A39.out).mono ?_); rintro e w' ⟨rfl, ⟨nd, rfl⟩⟩) | (go_at_call 30; (with_reducible refine (linotypelaw06_imm.calls kj8 t402 (rd y396 (ji4)) true t400 0 true _ A41.out).mono ?_); rintro e w' ⟨rfl, ⟨nd, rfl⟩⟩))
                   go_ret
                   exact ⟨by first | (exact congrArg (fun b_ => Ending.returned (.bool b_)) HQ0.out) | rfl | (simp [errW_none, errW_some] <;> rfl) | (simp only [← hji4, ← hji33]; first | rfl | (simp [errW_none, errW_some] <;> rfl)) | (simp [*, errW_none, errW_some] <;> rfl), by repeat (first | (with_reducible first | exact HB.out | apply below_alloc | apply pw_below_drewN | apply below_drew1) | exact HB.out)⟩
                  ·rw [if_neg c48] at H
                   have c48b0 : ((Int.tmod (wrap64 (t400 - a0)) (ji33)) == 0) = false := beq_eq_false_iff_ne.mpr c48
                   have c48b1 : ((Int.tmod (wrap64 (t400 - a0)) (ji33)) != 0) = true := bne_iff_ne.mpr c48
                   exact absurd H (by simp)
                ·rw [if_neg c46] at H
                 have c46b0 : decide (t402 < (ji33)) = false := decide_eq_false c46
                 clear c46
                 exact absurd H (by simp)
               ·rw [if_neg c45] at H
                have c45b0 : decide (0 ≤ t402) = false := decide_eq_false c45
                clear c45
                exact absurd H (by simp)
              ·rw [if_neg c44] at H
               have c44b0 : decide (t400 < (wrap64 (Int.tdiv (ji33) 2))) = false := decide_eq_false c44
               clear c44
               exact absurd H (by simp)
             ·rw [if_neg c43] at H
              have c43b0 : decide ((wrap64 (Int.tdiv (wrap64 (-(ji33))) 2)) ≤ t400) = false := decide_eq_false c43
              clear c43
              exact absurd H (by simp)
            ·replace c42 := Bool.eq_false_iff.mpr c42
             subst c42
             have H1 : (some false) = some true := by rw [if_neg (show ¬ (false = true) by decide)] at H; exact H
             clear H
             have H := H1
             clear H1
             exact absurd H (by simp)
           ·replace c40 := Bool.eq_false_iff.mpr c40
            subst c40
            have H1 : (some false) = some true := by rw [if_neg (show ¬ (false = true) by decide)] at H; exact H
            clear H
            have H := H1
            clear H1
            exact absurd H (by simp)
          ·replace c38 := Bool.eq_false_iff.mpr c38
           subst c38
           have H1 : (some false) = some true := by rw [if_neg (show ¬ (false = true) by decide)] at H; exact H
           clear H
           have H := H1
           clear H1
           exact absurd H (by simp)
         ·replace c36 := Bool.eq_false_iff.mpr c36
          subst c36
          have H1 : (some false) = some true := by rw [if_neg (show ¬ (false = true) by decide)] at H; exact H
          clear H
          have H := H1
          clear H1
          exact absurd H (by simp)
        ·replace c34 := Bool.eq_false_iff.mpr c34
         subst c34
         have H1 : (some false) = some true := by rw [if_neg (show ¬ (false = true) by decide)] at H; exact H
         clear H
         have H := H1
         clear H1
         exact absurd H (by simp)
       ·rw [if_neg c32] at H
        exact absurd H (by simp)
  ·rw [if_neg c6] at H
   exact absurd H (by simp)
 ·rw [if_neg c5] at H
  exact absurd H (by simp)

/-- THE ONE PURE STATEMENT of linotypelaw06_OperandLike: yours. -/
def linotypelaw06_OperandLike.Pure : Prop := ∀ (a0 : Int) (a1 : Int), (Lit.int .i64 a0).wf = true → (Lit.int .i64 a1).wf = true → ∃ k, linotypelaw06_OperandLike.f k a0 a1 = some true
theorem linotypelaw06_OperandLike.walk (P : linotypelaw06_OperandLike.Pure) (a0 : Int) (a1 : Int) (w : World) (w0 : (Lit.int .i64 a0).wf = true) (w1 : (Lit.int .i64 a1).wf = true) (hG : G w) :
  Calls Tryd.prog 9 #[.int .i64 a0, .int .i64 a1] w fun e w' => e = .returned (.bool true) ∧ Below w.heap.size w w' := by
 obtain ⟨k, h⟩ := P a0 a1 w0 w1
 refine (linotypelaw06_OperandLike.calls k a0 a1 w h hG).mono ?_
 rintro e w' ⟨rfl, hd⟩
 exact ⟨rfl, hd⟩

end Go.Proofs.YtceofdchbolidaaDoor.XAll
