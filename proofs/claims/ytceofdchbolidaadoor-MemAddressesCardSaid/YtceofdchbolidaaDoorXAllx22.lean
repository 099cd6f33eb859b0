/- Laid by this seat's own program (wip/tools/printx.py) out of the translation: the functions that laws use (All), each with its contract. Condition: the library's table strings.asciiSpace holds what it was laid with. -/
import Derived.Test.YtceofdchbolidaaDoorXAllx0
namespace Go.Proofs.YtceofdchbolidaaDoor.XAll
open Go.RowKit Go.Proofs.YtceofdchbolidaaDoorW.PrintWords Go.Proofs.YtceofdchbolidaaDoorW.PrintLast Go.Proofs.YtceofdchbolidaaDoorW.PrintMore Go.Proofs.YtceofdchbolidaaDoor.Hand
attribute [local go_sem] max2_int min2_int max_two min_two max_three min_three max_four min_four   -- for this text's walks alone
set_option linter.unusedVariables false
set_option linter.unusedSimpArgs false

/-! ### operand_Imm: function 27 -/
mutual
def operand_Imm.j0 : Nat → Int → Int → Bool → Bool → Option (Int × Int)
 | 0, _, _, _, _ => none
 | k + 1, x0, x1, x2, x24 => if x24 = true then (some (0, 2)) else (if 0 ≤ (wrap64 (64 - x1)) then (if (shr .i64 (shl .i64 x0 (wrap64 (64 - x1))) (wrap64 (64 - x1))) = x0 then (operand_Imm.j1 k x2 (shr .i64 (shl .i64 x0 (wrap64 (64 - x1))) (wrap64 (64 - x1))) (wrap64 (shr .u64 (shl .u64 (IntKind.u64.wrap (x0)) (wrap64 (64 - x1))) (wrap64 (64 - x1)))) false) else (operand_Imm.j1 k x2 (shr .i64 (shl .i64 x0 (wrap64 (64 - x1))) (wrap64 (64 - x1))) (wrap64 (shr .u64 (shl .u64 (IntKind.u64.wrap (x0)) (wrap64 (64 - x1))) (wrap64 (64 - x1)))) ((wrap64 (shr .u64 (shl .u64 (IntKind.u64.wrap (x0)) (wrap64 (64 - x1))) (wrap64 (64 - x1)))) != x0))) else (none))
def operand_Imm.j1 : Nat → Bool → Int → Int → Bool → Option (Int × Int)
 | 0, _, _, _, _ => none
 | k + 1, x2, x9, x10, x39 => if x39 = true then (some (0, 5)) else (if x2 = true then (some (x9, 0)) else (some (x10, 0)))
end
def operand_Imm.f (k : Nat) (a0 : Int) (a1 : Int) (a2 : Bool) : Option (Int × Int) := if a1 = 8 then (operand_Imm.j0 k a0 a1 a2 false) else (if a1 = 16 then (operand_Imm.j0 k a0 a1 a2 false) else (if a1 = 32 then (operand_Imm.j0 k a0 a1 a2 false) else (operand_Imm.j0 k a0 a1 a2 (a1 != 64))))
theorem operand_Imm.mono_l : ∀ k, (∀ y0 y1 y2 y3, LeO (operand_Imm.j0 k y0 y1 y2 y3) (operand_Imm.j0 (k + 1) y0 y1 y2 y3)) ∧ (∀ y0 y1 y2 y3, LeO (operand_Imm.j1 k y0 y1 y2 y3) (operand_Imm.j1 (k + 1) y0 y1 y2 y3))
 | 0 => ⟨fun _ _ _ _ r h => by simp [operand_Imm.j0] at h, fun _ _ _ _ r h => by simp [operand_Imm.j1] at h⟩
 | k + 1 => by
  obtain ⟨ih0, ih1⟩ := operand_Imm.mono_l k
  refine ⟨?_, ?_⟩
  ·intro y0 y1 y2 y3
   unfold operand_Imm.j0
   repeat' first
   | (with_reducible exact ih0 _ _ _ _)
   | (with_reducible exact ih1 _ _ _ _)
   | (with_reducible exact LeO.refl _)
   | (with_reducible exact LeO.none _)
   | (with_reducible refine LeO.ite ?_ ?_)
   | (with_reducible refine LeO.bind ?_ (fun _ => ?_))
   | exact ih0 _ _ _ _
   | exact ih1 _ _ _ _
   | exact LeO.none _
   | refine LeO.ite ?_ ?_
   | refine LeO.bind ?_ (fun _ => ?_)
  ·intro y0 y1 y2 y3
   unfold operand_Imm.j1
   repeat' first
   | (with_reducible exact ih0 _ _ _ _)
   | (with_reducible exact ih1 _ _ _ _)
   | (with_reducible exact LeO.refl _)
   | (with_reducible exact LeO.none _)
   | (with_reducible refine LeO.ite ?_ ?_)
   | (with_reducible refine LeO.bind ?_ (fun _ => ?_))
   | exact ih0 _ _ _ _
   | exact ih1 _ _ _ _
   | exact LeO.none _
   | refine LeO.ite ?_ ?_
   | refine LeO.bind ?_ (fun _ => ?_)
theorem operand_Imm.mono : ∀ a0 a1 a2 k, LeO (operand_Imm.f k a0 a1 a2) (operand_Imm.f (k + 1) a0 a1 a2) := by
 intro a0 a1 a2 k
 obtain ⟨ih0, ih1⟩ := operand_Imm.mono_l k
 unfold operand_Imm.f
 repeat' first
   | (with_reducible exact ih0 _ _ _ _)
   | (with_reducible exact ih1 _ _ _ _)
   | (with_reducible exact LeO.refl _)
   | (with_reducible exact LeO.none _)
   | (with_reducible refine LeO.ite ?_ ?_)
   | (with_reducible refine LeO.bind ?_ (fun _ => ?_))
   | exact ih0 _ _ _ _
   | exact ih1 _ _ _ _
   | exact LeO.none _
   | refine LeO.ite ?_ ?_
   | refine LeO.bind ?_ (fun _ => ?_)
set_option maxHeartbeats 8000000 in
set_option maxRecDepth 100000 in
theorem operand_Imm.calls (k : Nat) (a0 : Int) (a1 : Int) (a2 : Bool) (r1 : Int) (r2 : Int) (w : World) (h : operand_Imm.f k a0 a1 a2 = some (r1, r2)) :
  Calls Tryd.prog 27 #[.int .i64 a0, .int .i64 a1, .bool a2] w fun e w' => e = .returned (.tuple #[.int .i64 r1, .int .i64 r2]) ∧ Drawn0 w w' := by
 have H : (if a1 = 8 then (operand_Imm.j0 k a0 a1 a2 false) else (if a1 = 16 then (operand_Imm.j0 k a0 a1 a2 false) else (if a1 = 32 then (operand_Imm.j0 k a0 a1 a2 false) else (operand_Imm.j0 k a0 a1 a2 (a1 != 64))))) = some (r1, r2) := h
 clear h
 have HC4 := Aside0.mk H
 clear H
 go_enter Tryd.func27, Tryd.ntmps27
 go_upto_region 1 with (fail)
 repeat (go_quiet (fail); go_upto_region 1 with (fail))
 go_cut [24] (fun v24 wc => ∃ (kq : Nat) (x24_3 : Bool), v24 = .bool x24_3 ∧ Aside0 (operand_Imm.j0 kq a0 a1 a2 x24_3 = some (r1, r2)) ∧ Aside0 (kq ≤ k) ∧ Drawn0 w wc)
 case first =>
  have H := HC4.out
  clear HC4
  by_cases c5 : a1 = 8
  ·rw [if_pos c5] at H
   have c5b0 : (a1 == 8) = true := beq_iff_eq.mpr c5
   have c5b1 : (a1 != 8) = false := bne_eq_false_iff_eq.mpr c5
   clear c5
   (first | rw [c5b0] | (simp only [i64_w, i32_w]; rw [c5b0]) | skip)
   have H' := Aside0.mk H
   clear H
   go_wp2
   repeat (go_quiet (fail); try go_wp2)
   go_meet
   case rel => exact ⟨_, (false), (by first | rfl | (simp; done) | (simp [*]; done)), H', ⟨by first | omega | exact Nat.le_refl _⟩, by repeat (first | exact Drawn0.refl _ | apply Drawn0.step)⟩
  ·rw [if_neg c5] at H
   have c5b0 : (a1 == 8) = false := beq_eq_false_iff_ne.mpr c5
   have c5b1 : (a1 != 8) = true := bne_iff_ne.mpr c5
   (first | rw [c5b0] | (simp only [i64_w, i32_w]; rw [c5b0]) | skip)
   by_cases c6 : a1 = 16
   ·rw [if_pos c6] at H
    have c6b0 : (a1 == 16) = true := beq_iff_eq.mpr c6
    have c6b1 : (a1 != 16) = false := bne_eq_false_iff_eq.mpr c6
    clear c6
    have H' := Aside0.mk H
    clear H
    go_wp2
    repeat (go_quiet (fail); try go_wp2)
    go_meet
    case rel => exact ⟨_, (false), (by first | rfl | (simp; done) | (simp [*]; done)), H', ⟨by first | omega | exact Nat.le_refl _⟩, by repeat (first | exact Drawn0.refl _ | apply Drawn0.step)⟩
   ·rw [if_neg c6] at H
    have c6b0 : (a1 == 16) = false := beq_eq_false_iff_ne.mpr c6
    have c6b1 : (a1 != 16) = true := bne_iff_ne.mpr c6
    by_cases c7 : a1 = 32
    ·rw [if_pos c7] at H
     have c7b0 : (a1 == 32) = true := beq_iff_eq.mpr c7
     have c7b1 : (a1 != 32) = false := bne_eq_false_iff_eq.mpr c7
     clear c7
     have H' := Aside0.mk H
     clear H
     go_wp2
     repeat (go_quiet (fail); try go_wp2)
     go_meet
     case rel => exact ⟨_, (false), (by first | rfl | (simp; done) | (simp [*]; done)), H', ⟨by first | omega | exact Nat.le_refl _⟩, by repeat (first | exact Drawn0.refl _ | apply Drawn0.step)⟩
    ·rw [if_neg c7] at H
     have c7b0 : (a1 == 32) = false := beq_eq_false_iff_ne.mpr c7
     have c7b1 : (a1 != 32) = true := bne_iff_ne.mpr c7
     have H' := Aside0.mk H
     clear H
     go_wp2
     repeat (go_quiet (fail); try go_wp2)
     go_meet
     case rel => exact ⟨_, ((a1 != 64)), (by first | rfl | (simp; done) | (simp [*]; done)), H', ⟨by first | omega | exact Nat.le_refl _⟩, by repeat (first | exact Drawn0.refl _ | apply Drawn0.step)⟩
 case rest =>
  clear HC4
  try clear c2
  try clear p2
  try clear c5
  try clear c5b0
  try clear c5b1
  try clear c6
  try clear c6b0
  try clear c6b1
  try clear c7
  try clear c7b0
  try clear c7b1
  obtain ⟨kq, x24_3, rfl, HA, HJ3, ⟨mc3, rfl⟩⟩ := hcut
  cases kq with
  | zero => exact absurd HA.out (by simp [operand_Imm.j0])
  | succ kj3 =>
   have H := HA.out
   clear HA
   simp only [operand_Imm.j0] at H
   by_cases c8 : x24_3 = true
   ·subst c8
    have H1 : (some (0, 2)) = some (r1, r2) := by rw [if_pos rfl] at H; exact H
    clear H
    have H := H1
    clear H1
    simp only [Option.some.injEq, Prod.mk.injEq] at H
    obtain ⟨rfl, rfl⟩ := H
    go_wp2
    repeat (go_quiet (fail); try go_wp2)
    go_ret2
    exact ⟨by first | rfl | (simp; done) | (simp [*]; done), by repeat (first | exact Drawn0.refl _ | apply Drawn0.step)⟩
   ·replace c8 := Bool.eq_false_iff.mpr c8
    subst c8
    have H1 : (if 0 ≤ (wrap64 (64 - a1)) then (if (shr .i64 (shl .i64 a0 (wrap64 (64 - a1))) (wrap64 (64 - a1))) = a0 then (operand_Imm.j1 kj3 a2 (shr .i64 (shl .i64 a0 (wrap64 (64 - a1))) (wrap64 (64 - a1))) (wrap64 (shr .u64 (shl .u64 (IntKind.u64.wrap (a0)) (wrap64 (64 - a1))) (wrap64 (64 - a1)))) false) else (operand_Imm.j1 kj3 a2 (shr .i64 (shl .i64 a0 (wrap64 (64 - a1))) (wrap64 (64 - a1))) (wrap64 (shr .u64 (shl .u64 (IntKind.u64.wrap (a0)) (wrap64 (64 - a1))) (wrap64 (64 - a1)))) ((wrap64 (shr .u64 (shl .u64 (IntKind.u64.wrap (a0)) (wrap64 (64 - a1))) (wrap64 (64 - a1)))) != a0))) else (none)) = some (r1, r2) := by rw [if_neg (show ¬ (false = true) by decide)] at H; exact H
    clear H
    have H := H1
    clear H1
    obtain ⟨ji9, hji9⟩ : ∃ j_ : Int, (wrap64 (64 - a1)) = j_ := ⟨_, rfl⟩
    replace H : (if 0 ≤ (ji9) then (if (shr .i64 (shl .i64 a0 (ji9)) (ji9)) = a0 then (operand_Imm.j1 kj3 a2 (shr .i64 (shl .i64 a0 (ji9)) (ji9)) (wrap64 (shr .u64 (shl .u64 (IntKind.u64.wrap (a0)) (ji9)) (ji9))) false) else (operand_Imm.j1 kj3 a2 (shr .i64 (shl .i64 a0 (ji9)) (ji9)) (wrap64 (shr .u64 (shl .u64 (IntKind.u64.wrap (a0)) (ji9)) (ji9))) ((wrap64 (shr .u64 (shl .u64 (IntKind.u64.wrap (a0)) (ji9)) (ji9))) != a0))) else (none)) = some (r1, r2) := by first | (rw [hji9] at H; exact H) | (simp only [hji9] at H ⊢; exact H)
    have hji9w : (IntKind.i64.wrap (64 - a1)) = ji9 := (i64_w _).trans hji9
    by_cases c10 : 0 ≤ (ji9)
    ·rw [if_pos c10] at H
     have c10b0 := eq_true c10
     have c10b1 : decide (0 ≤ (ji9)) = true := decide_eq_true c10
     clear c10
     obtain ⟨ji11, hji11⟩ : ∃ j_ : Int, (shl .i64 a0 (ji9)) = j_ := ⟨_, rfl⟩
     replace H : (if (shr .i64 (ji11) (ji9)) = a0 then (operand_Imm.j1 kj3 a2 (shr .i64 (ji11) (ji9)) (wrap64 (shr .u64 (shl .u64 (IntKind.u64.wrap (a0)) (ji9)) (ji9))) false) else (operand_Imm.j1 kj3 a2 (shr .i64 (ji11) (ji9)) (wrap64 (shr .u64 (shl .u64 (IntKind.u64.wrap (a0)) (ji9)) (ji9))) ((wrap64 (shr .u64 (shl .u64 (IntKind.u64.wrap (a0)) (ji9)) (ji9))) != a0))) = some (r1, r2) := by first | (rw [hji11] at H; exact H) | (simp only [hji11] at H ⊢; exact H)
     have hji11_ : (IntKind.i64.wrap (a0 * 2 ^ min (ji9).toNat 64)) = ji11 := hji11
     have hji11z : (ji9) ≤ 64 → (IntKind.i64.wrap (a0 * 2 ^ (ji9).toNat)) = ji11 := shl_small hji11
     have hji11y : (wrap64 (a0 * 2 ^ min (ji9).toNat 64)) = ji11 := (i64_w _).symm.trans hji11_
     have hji11x : (ji9) ≤ 64 → (wrap64 (a0 * 2 ^ (ji9).toNat)) = ji11 := fun h_ => (i64_w _).symm.trans (hji11z h_)
     have c12b0 := eq_true (of_decide_eq_true (by first | (with_reducible assumption) | assumption) : 0 ≤ (ji9))
     obtain ⟨ji13, hji13⟩ : ∃ j_ : Int, (shr .i64 (ji11) (ji9)) = j_ := ⟨_, rfl⟩
     replace H : (if (ji13) = a0 then (operand_Imm.j1 kj3 a2 ji13 (wrap64 (shr .u64 (shl .u64 (IntKind.u64.wrap (a0)) (ji9)) (ji9))) false) else (operand_Imm.j1 kj3 a2 ji13 (wrap64 (shr .u64 (shl .u64 (IntKind.u64.wrap (a0)) (ji9)) (ji9))) ((wrap64 (shr .u64 (shl .u64 (IntKind.u64.wrap (a0)) (ji9)) (ji9))) != a0))) = some (r1, r2) := by first | (rw [hji13] at H; exact H) | (simp only [hji13] at H ⊢; exact H)
     have hji13_ : ((ji11) / 2 ^ min (ji9).toNat 64) = ji13 := hji13
     have hji13z : (ji9) ≤ 64 → ((ji11) / 2 ^ (ji9).toNat) = ji13 := shr_small hji13
     have c14b0 := eq_true (of_decide_eq_true (by first | (with_reducible assumption) | assumption) : 0 ≤ (ji9))
     obtain ⟨ji15, hji15⟩ : ∃ j_ : Int, (shl .u64 (IntKind.u64.wrap (a0)) (ji9)) = j_ := ⟨_, rfl⟩
     replace H : (if (ji13) = a0 then (operand_Imm.j1 kj3 a2 ji13 (wrap64 (shr .u64 (ji15) (ji9))) false) else (operand_Imm.j1 kj3 a2 ji13 (wrap64 (shr .u64 (ji15) (ji9))) ((wrap64 (shr .u64 (ji15) (ji9))) != a0))) = some (r1, r2) := by first | (rw [hji15] at H; exact H) | (simp only [hji15] at H ⊢; exact H)
     have hji15_ : (IntKind.u64.wrap ((IntKind.u64.wrap (a0)) * 2 ^ min (ji9).toNat 64)) = ji15 := hji15
     have hji15z : (ji9) ≤ 64 → (IntKind.u64.wrap ((IntKind.u64.wrap (a0)) * 2 ^ (ji9).toNat)) = ji15 := shl_small hji15
     have c16b0 := eq_true (of_decide_eq_true (by first | (with_reducible assumption) | assumption) : 0 ≤ (ji9))
     obtain ⟨ji17, hji17⟩ : ∃ j_ : Int, (shr .u64 (ji15) (ji9)) = j_ := ⟨_, rfl⟩
     replace H : (if (ji13) = a0 then (operand_Imm.j1 kj3 a2 ji13 (wrap64 (ji17)) false) else (operand_Imm.j1 kj3 a2 ji13 (wrap64 (ji17)) ((wrap64 (ji17)) != a0))) = some (r1, r2) := by first | (rw [hji17] at H; exact H) | (simp only [hji17] at H ⊢; exact H)
     have hji17_ : ((ji15) / 2 ^ min (ji9).toNat 64) = ji17 := hji17
     have hji17z : (ji9) ≤ 64 → ((ji15) / 2 ^ (ji9).toNat) = ji17 := shr_small hji17
     have HC18 := Aside0.mk H
     clear H
     go_upto_region 5 with (fail)
     repeat (go_quiet (fail); go_upto_region 5 with (fail))
     go_cut [39] (fun v39 wc => ∃ (kq : Nat) (x39_17 : Bool), v39 = .bool x39_17 ∧ Aside0 (operand_Imm.j1 kq a2 ji13 (wrap64 (ji17)) x39_17 = some (r1, r2)) ∧ Aside0 (kq ≤ kj3) ∧ Drawn0 w wc)
     case first =>
      have H := HC18.out
      clear HC18
      by_cases c19 : (ji13) = a0
      ·rw [if_pos c19] at H
       have c19b0 : ((ji13) == a0) = true := beq_iff_eq.mpr c19
       have c19b1 : ((ji13) != a0) = false := bne_eq_false_iff_eq.mpr c19
       clear c19
       (first | rw [c19b0] | (simp only [i64_w, i32_w]; rw [c19b0]) | skip)
       have H' := Aside0.mk H
       clear H
       go_wp2
       repeat (go_quiet (fail); try go_wp2)
       go_meet
       case rel => exact ⟨_, (false), (by first | rfl | (simp; done) | (simp [*]; done)), H', ⟨by have := HJ3.out; first | omega | exact Nat.le_refl _⟩, by repeat (first | exact Drawn0.refl _ | apply Drawn0.step)⟩
      ·rw [if_neg c19] at H
       have c19b0 : ((ji13) == a0) = false := beq_eq_false_iff_ne.mpr c19
       have c19b1 : ((ji13) != a0) = true := bne_iff_ne.mpr c19
       (first | rw [c19b0] | (simp only [i64_w, i32_w]; rw [c19b0]) | skip)
       have H' := Aside0.mk H
       clear H
       go_wp2
       repeat (go_quiet (fail); try go_wp2)
       go_meet
       case rel => exact ⟨_, (((wrap64 (ji17)) != a0)), (by first | rfl | (simp; done) | (simp only [← hji17] <;> (first | rfl | simp)) | (simp [*]; done)), H', ⟨by have := HJ3.out; first | omega | exact Nat.le_refl _⟩, by repeat (first | exact Drawn0.refl _ | apply Drawn0.step)⟩
     case rest =>
      clear HC18
      try clear c1
      try clear c2
      try clear p2
      try clear c3
      try clear c5
      try clear c5b0
      try clear c5b1
      try clear c6
      try clear c6b0
      try clear c6b1
      try clear p6
      try clear c7
      try clear c7b0
      try clear c7b1
      try clear c8
      try clear c10
      try clear c10b0
      try clear c10b1
      try clear c12
      try clear c12b0
      try clear c14
      try clear c14b0
      try clear c16
      try clear c16b0
      try clear c19
      try clear c19b0
      try clear c19b1
      try clear p2
      obtain ⟨kq, x39_17, rfl, HA, HJ17, ⟨mc17, rfl⟩⟩ := hcut
      cases kq with
      | zero => exact absurd HA.out (by simp [operand_Imm.j1])
      | succ kj17 =>
       have H := HA.out
       clear HA
       simp only [operand_Imm.j1] at H
       by_cases c20 : x39_17 = true
       ·subst c20
        have H1 : (some (0, 5)) = some (r1, r2) := by rw [if_pos rfl] at H; exact H
        clear H
        have H := H1
        clear H1
        simp only [Option.some.injEq, Prod.mk.injEq] at H
        obtain ⟨rfl, rfl⟩ := H
        go_wp2
        repeat (go_quiet (fail); try go_wp2)
        go_ret2
        exact ⟨by first | rfl | (simp; done) | (simp only [← hji9, ← hji11, ← hji13, ← hji15, ← hji17] <;> (first | rfl | simp)) | (simp [*]; done), by repeat (first | exact Drawn0.refl _ | apply Drawn0.step)⟩
       ·replace c20 := Bool.eq_false_iff.mpr c20
        subst c20
        have H1 : (if a2 = true then (some (ji13, 0)) else (some ((wrap64 (ji17)), 0))) = some (r1, r2) := by rw [if_neg (show ¬ (false = true) by decide)] at H; exact H
        clear H
        have H := H1
        clear H1
        by_cases c21 : a2 = true
        ·subst c21
         have H1 : (some (ji13, 0)) = some (r1, r2) := by rw [if_pos rfl] at H; exact H
         clear H
         have H := H1
         clear H1
         simp only [Option.some.injEq, Prod.mk.injEq] at H
         obtain ⟨rfl, rfl⟩ := H
         go_wp2
         repeat (go_quiet (fail); try go_wp2)
         go_ret2
         exact ⟨by first | rfl | (simp; done) | (simp only [← hji9, ← hji11, ← hji13, ← hji15, ← hji17] <;> (first | rfl | simp)) | (simp [*]; done), by repeat (first | exact Drawn0.refl _ | apply Drawn0.step)⟩
        ·replace c21 := Bool.eq_false_iff.mpr c21
         subst c21
         have H1 : (some ((wrap64 (ji17)), 0)) = some (r1, r2) := by rw [if_neg (show ¬ (false = true) by decide)] at H; exact H
         clear H
         have H := H1
         clear H1
         simp only [Option.some.injEq, Prod.mk.injEq] at H
         obtain ⟨rfl, rfl⟩ := H
         go_wp2
         repeat (go_quiet (fail); try go_wp2)
         go_ret2
         exact ⟨by first | rfl | (simp; done) | (simp only [← hji9, ← hji11, ← hji13, ← hji15, ← hji17] <;> (first | rfl | simp)) | (simp [*]; done), by repeat (first | exact Drawn0.refl _ | apply Drawn0.step)⟩
    ·rw [if_neg c10] at H
     exact absurd H (by simp)

end Go.Proofs.YtceofdchbolidaaDoor.XAll
