/- The walk of the law FieldFits: what it answers is what the function 'linotypelaw01_FieldFits.f' answers. No conditions. -/
import Derived.Test.YtlmpecahmmgphaaPFieldFitsx0
import Derived.Test.YtlmpecahmmgphaaPFieldFitsx1
import Derived.Test.YtlmpecahmmgphaaPFieldFitsx2
namespace Go.Proofs.Ytlmpecahmmgphaa.PFieldFits
open Go.RowKit Go.Proofs.YtlmpecahmmgphaaW.PrintWords Go.Proofs.YtlmpecahmmgphaaW.PrintLast Go.Proofs.YtlmpecahmmgphaaW.PrintMore
attribute [local go_sem] max2_int min2_int max_two min_two max_three min_three max_four min_four   -- for this text's walks alone
set_option linter.unusedVariables false
set_option linter.unusedSimpArgs false

/-! ### linotypelaw01_FieldFits: function 5 -/
mutual
def linotypelaw01_FieldFits.j0 : Nat → Int → Int → Int → Bool → Bool → Option (Bool)
  | 0, _, _, _, _, _ => none
  | k + 1, x0, x1, x2, x7, x17 => if x17 = true then (if x7 = true then ((field_Fits.f x0 x1).bind fun t138 => (if t138 = true then (some false) else ((field_Wide.f x0 x1).bind fun t139 => (if t139 = true then (some false) else ((field_Sign.f x0 x1).bind fun t140 => (if t140 = 0 then ((field_Low.f x0 x1).bind fun t141 => (some (t141 == 0))) else (some false))))))) else (some false)) else ((field_Sign.f x0 x1).bind fun t142 => ((field_Low.f x0 x1).bind fun t143 => ((field_Fits.f x0 x1).bind fun t144 => (if (t144 != (t142 == x0)) = true then (linotypelaw01_FieldFits.j1 k x0 x1 x2 x7 t142 t143 true) else ((field_Fits.f x0 x1).bind fun t145 => (if t145 = true then ((field_Wide.f x0 x1).bind fun t146 => (if t146 = true then ((field_Fits.f t142 x1).bind fun t147 => (if t147 = true then (if x1 < 64 then (if t143 < 0 then (linotypelaw01_FieldFits.j1 k x0 x1 x2 x7 t142 t143 true) else ((field_Wide.f x0 x1).bind fun t148 => (if t142 = x0 then (linotypelaw01_FieldFits.j1 k x0 x1 x2 x7 t142 t143 (t148 != true)) else (linotypelaw01_FieldFits.j1 k x0 x1 x2 x7 t142 t143 (t148 != (t143 == x0)))))) else ((field_Wide.f x0 x1).bind fun t149 => (if t142 = x0 then (linotypelaw01_FieldFits.j1 k x0 x1 x2 x7 t142 t143 (t149 != true)) else (linotypelaw01_FieldFits.j1 k x0 x1 x2 x7 t142 t143 (t149 != (t143 == x0)))))) else (linotypelaw01_FieldFits.j1 k x0 x1 x2 x7 t142 t143 true))) else (linotypelaw01_FieldFits.j1 k x0 x1 x2 x7 t142 t143 true))) else ((field_Fits.f t142 x1).bind fun t150 => (if t150 = true then (if x1 < 64 then (if t143 < 0 then (linotypelaw01_FieldFits.j1 k x0 x1 x2 x7 t142 t143 true) else ((field_Wide.f x0 x1).bind fun t151 => (if t142 = x0 then (linotypelaw01_FieldFits.j1 k x0 x1 x2 x7 t142 t143 (t151 != true)) else (linotypelaw01_FieldFits.j1 k x0 x1 x2 x7 t142 t143 (t151 != (t143 == x0)))))) else ((field_Wide.f x0 x1).bind fun t152 => (if t142 = x0 then (linotypelaw01_FieldFits.j1 k x0 x1 x2 x7 t142 t143 (t152 != true)) else (linotypelaw01_FieldFits.j1 k x0 x1 x2 x7 t142 t143 (t152 != (t143 == x0)))))) else (linotypelaw01_FieldFits.j1 k x0 x1 x2 x7 t142 t143 true)))))))))
def linotypelaw01_FieldFits.j1 : Nat → Int → Int → Int → Bool → Int → Int → Bool → Option (Bool)
  | 0, _, _, _, _, _, _, _ => none
  | k + 1, x0, x1, x2, x7, x8, x9, x94 => if x94 = true then (some false) else (if x1 < 63 then (if x8 = x9 then ((field_Sign.f x8 x1).bind fun t153 => (if t153 = x8 then ((field_Low.f x9 x1).bind fun t154 => (linotypelaw01_FieldFits.j2 k x0 x1 x2 x7 (t154 != x9))) else (linotypelaw01_FieldFits.j2 k x0 x1 x2 x7 true))) else (if 0 ≤ x1 then (if (wrap64 (x9 - x8)) = (shl .i64 1 x1) then ((field_Sign.f x8 x1).bind fun t155 => (if t155 = x8 then ((field_Low.f x9 x1).bind fun t156 => (linotypelaw01_FieldFits.j2 k x0 x1 x2 x7 (t156 != x9))) else (linotypelaw01_FieldFits.j2 k x0 x1 x2 x7 true))) else (linotypelaw01_FieldFits.j2 k x0 x1 x2 x7 true)) else (none))) else ((field_Sign.f x8 x1).bind fun t157 => (if t157 = x8 then ((field_Low.f x9 x1).bind fun t158 => (linotypelaw01_FieldFits.j2 k x0 x1 x2 x7 (t158 != x9))) else (linotypelaw01_FieldFits.j2 k x0 x1 x2 x7 true))))
def linotypelaw01_FieldFits.j2 : Nat → Int → Int → Int → Bool → Bool → Option (Bool)
  | 0, _, _, _, _, _ => none
  | k + 1, x0, x1, x2, x7, x123 => if x123 = true then (some false) else ((linotypekit_Pick.f x2 64).bind fun t159 => (if x7 = true then ((field_Fits.f x0 x1).bind fun t160 => (if t160 = true then ((field_Fits.f x0 (mn (wrap64 (x1 + t159)) 64)).bind fun t161 => (if t161 = true then ((field_Wide.f x0 x1).bind fun t162 => (if t162 = true then ((field_Wide.f x0 (mn (wrap64 (x1 + t159)) 64)).bind fun t163 => (some t163)) else (some true))) else (some false))) else ((field_Wide.f x0 x1).bind fun t164 => (if t164 = true then ((field_Wide.f x0 (mn (wrap64 (x1 + t159)) 64)).bind fun t165 => (some t165)) else (some true))))) else (some false)))
end
def linotypelaw01_FieldFits.f (k : Nat) (a0 : Int) (a1 : Int) (a2 : Int) : Option (Bool) := (linotypelaw01_awake.f k).bind fun t137 => (if a1 < 1 then (linotypelaw01_FieldFits.j0 k a0 a1 a2 t137 true) else (linotypelaw01_FieldFits.j0 k a0 a1 a2 t137 (decide (a1 > 64))))
theorem linotypelaw01_FieldFits.mono_l : ∀ k, (∀ y0 y1 y2 y3 y4, LeO (linotypelaw01_FieldFits.j0 k y0 y1 y2 y3 y4) (linotypelaw01_FieldFits.j0 (k + 1) y0 y1 y2 y3 y4)) ∧ (∀ y0 y1 y2 y3 y4 y5 y6, LeO (linotypelaw01_FieldFits.j1 k y0 y1 y2 y3 y4 y5 y6) (linotypelaw01_FieldFits.j1 (k + 1) y0 y1 y2 y3 y4 y5 y6)) ∧ (∀ y0 y1 y2 y3 y4, LeO (linotypelaw01_FieldFits.j2 k y0 y1 y2 y3 y4) (linotypelaw01_FieldFits.j2 (k + 1) y0 y1 y2 y3 y4))
  | 0 => ⟨fun _ _ _ _ _ r h => by simp [linotypelaw01_FieldFits.j0] at h, fun _ _ _ _ _ _ _ r h => by simp [linotypelaw01_FieldFits.j1] at h, fun _ _ _ _ _ r h => by simp [linotypelaw01_FieldFits.j2] at h⟩
  | k + 1 => by
    obtain ⟨ih0, ih1, ih2⟩ := linotypelaw01_FieldFits.mono_l k
    refine ⟨?_, ?_, ?_⟩
    · intro y0 y1 y2 y3 y4
      unfold linotypelaw01_FieldFits.j0
      repeat' first
      | (with_reducible exact ih0 _ _ _ _ _)
      | (with_reducible exact ih1 _ _ _ _ _ _ _)
      | (with_reducible exact ih2 _ _ _ _ _)
      | (with_reducible exact linotypelaw01_awake.mono _)
      | (with_reducible exact LeO.refl _)
      | (with_reducible exact LeO.none _)
      | (with_reducible refine LeO.ite ?_ ?_)
      | (with_reducible refine LeO.bind ?_ (fun _ => ?_))
      | exact ih0 _ _ _ _ _
      | exact ih1 _ _ _ _ _ _ _
      | exact ih2 _ _ _ _ _
      | exact linotypelaw01_awake.mono _
      | exact LeO.none _
      | refine LeO.ite ?_ ?_
      | refine LeO.bind ?_ (fun _ => ?_)
    · intro y0 y1 y2 y3 y4 y5 y6
      unfold linotypelaw01_FieldFits.j1
      repeat' first
      | (with_reducible exact ih0 _ _ _ _ _)
      | (with_reducible exact ih1 _ _ _ _ _ _ _)
      | (with_reducible exact ih2 _ _ _ _ _)
      | (with_reducible exact linotypelaw01_awake.mono _)
      | (with_reducible exact LeO.refl _)
      | (with_reducible exact LeO.none _)
      | (with_reducible refine LeO.ite ?_ ?_)
      | (with_reducible refine LeO.bind ?_ (fun _ => ?_))
      | exact ih0 _ _ _ _ _
      | exact ih1 _ _ _ _ _ _ _
      | exact ih2 _ _ _ _ _
      | exact linotypelaw01_awake.mono _
      | exact LeO.none _
      | refine LeO.ite ?_ ?_
      | refine LeO.bind ?_ (fun _ => ?_)
    · intro y0 y1 y2 y3 y4
      unfold linotypelaw01_FieldFits.j2
      repeat' first
      | (with_reducible exact ih0 _ _ _ _ _)
      | (with_reducible exact ih1 _ _ _ _ _ _ _)
      | (with_reducible exact ih2 _ _ _ _ _)
      | (with_reducible exact linotypelaw01_awake.mono _)
      | (with_reducible exact LeO.refl _)
      | (with_reducible exact LeO.none _)
      | (with_reducible refine LeO.ite ?_ ?_)
      | (with_reducible refine LeO.bind ?_ (fun _ => ?_))
      | exact ih0 _ _ _ _ _
      | exact ih1 _ _ _ _ _ _ _
      | exact ih2 _ _ _ _ _
      | exact linotypelaw01_awake.mono _
      | exact LeO.none _
      | refine LeO.ite ?_ ?_
      | refine LeO.bind ?_ (fun _ => ?_)
theorem linotypelaw01_FieldFits.mono : ∀ a0 a1 a2 k, LeO (linotypelaw01_FieldFits.f k a0 a1 a2) (linotypelaw01_FieldFits.f (k + 1) a0 a1 a2) := by
  intro a0 a1 a2 k
  obtain ⟨ih0, ih1, ih2⟩ := linotypelaw01_FieldFits.mono_l k
  unfold linotypelaw01_FieldFits.f
  repeat' first
      | (with_reducible exact ih0 _ _ _ _ _)
      | (with_reducible exact ih1 _ _ _ _ _ _ _)
      | (with_reducible exact ih2 _ _ _ _ _)
      | (with_reducible exact linotypelaw01_awake.mono _)
      | (with_reducible exact LeO.refl _)
      | (with_reducible exact LeO.none _)
      | (with_reducible refine LeO.ite ?_ ?_)
      | (with_reducible refine LeO.bind ?_ (fun _ => ?_))
      | exact ih0 _ _ _ _ _
      | exact ih1 _ _ _ _ _ _ _
      | exact ih2 _ _ _ _ _
      | exact linotypelaw01_awake.mono _
      | exact LeO.none _
      | refine LeO.ite ?_ ?_
      | refine LeO.bind ?_ (fun _ => ?_)
set_option maxHeartbeats 8000000 in
set_option maxRecDepth 100000 in
theorem linotypelaw01_FieldFits.calls (k : Nat) (a0 : Int) (a1 : Int) (a2 : Int) (r : Bool) (w : World) (h : linotypelaw01_FieldFits.f k a0 a1 a2 = some r) :
    Calls Try.prog 5 #[.int .i64 a0, .int .i64 a1, .int .i64 a2] w fun e w' => e = .returned (.bool r) ∧ Below w.heap.size w w' := by
  have HB := Aside0.mk (Below.refl w.heap.size w)
  have H : ((linotypelaw01_awake.f k).bind fun t137 => (if a1 < 1 then (linotypelaw01_FieldFits.j0 k a0 a1 a2 t137 true) else (linotypelaw01_FieldFits.j0 k a0 a1 a2 t137 (decide (a1 > 64))))) = some r := h
  clear h
  replace H := Option.bind_eq_some_iff.mp H
  obtain ⟨t137, A40, H⟩ := H
  replace H : (if a1 < 1 then (linotypelaw01_FieldFits.j0 k a0 a1 a2 t137 true) else (linotypelaw01_FieldFits.j0 k a0 a1 a2 t137 (decide (a1 > 64)))) = some r := H
  have A4 := Aside0.mk A40
  clear A40
  have HC5 := Aside0.mk H
  clear H
  go_enter Try.func5, Try.ntmps5
  go_upto_region 2 with (first | ((with_reducible refine gate_callee (f := 29) rfl ?_); refine goesL_ (some 11) rfl rfl Try.func29 (by kernel_rfl) rfl #[] rfl (by (try simp only [List.map_toArray, List.map_cons, List.map_nil]); first | done | rfl | (simp only [List.length_drop, List.length_take]; rfl)) ?_; (with_reducible refine (linotypelaw01_awake.calls k  t137 _ A4.out).mono ?_); rintro e w6 ⟨rfl, hb⟩; refine ⟨_, rfl, ?_⟩; have n0_ := Aside0.mk (below_step (by repeat (first | (with_reducible first | exact HB.out | apply below_alloc | apply pw_below_drewN | apply below_drew1) | exact HB.out)) hb); clear HB; have HB := n0_; clear n0_; (try clear hb); (try clear hb2); (try clear hk); (try clear hi)))
  (try simp only [Act.put, List.setIfInBounds_toArray, List.set_cons_zero, List.set_cons_succ])
  go_cut [17] (fun v17 wc => ∃ (kq : Nat) (x17_4 : Bool), v17 = .bool x17_4 ∧ Aside0 (linotypelaw01_FieldFits.j0 kq a0 a1 a2 t137 x17_4 = some r) ∧ Aside0 (kq ≤ k) ∧ Aside0 (Below w.heap.size w wc))
  case first => as_aux_lemma =>
    have H := HC5.out
    clear HC5
    by_cases c7 : a1 < 1
    · rw [if_pos c7] at H
      have c7b0 : decide (a1 < 1) = true := decide_eq_true c7
      clear c7
      (first | rw [c7b0] | (simp only [i64_w, i32_w]; rw [c7b0]) | skip)
      have H' := Aside0.mk H
      clear H
      go_wp2
      go_meet
      case rel => exact ⟨_, (true), (by first | rfl | (simp; done) | (simp [*]; done)), H', ⟨by first | omega | exact Nat.le_refl _⟩, ⟨by repeat (first | (with_reducible first | exact HB.out | apply below_alloc | apply pw_below_drewN | apply below_drew1) | exact HB.out)⟩⟩
    · rw [if_neg c7] at H
      have c7b0 : decide (a1 < 1) = false := decide_eq_false c7
      clear c7
      (first | rw [c7b0] | (simp only [i64_w, i32_w]; rw [c7b0]) | skip)
      have H' := Aside0.mk H
      clear H
      go_wp2
      go_meet
      case rel => exact ⟨_, (decide (a1 > 64)), (by first | rfl | (simp; done) | (simp [*]; done)), H', ⟨by first | omega | exact Nat.le_refl _⟩, ⟨by repeat (first | (with_reducible first | exact HB.out | apply below_alloc | apply pw_below_drewN | apply below_drew1) | exact HB.out)⟩⟩
  case rest => as_aux_lemma =>
    clear HC5
    try clear c2
    try clear p2
    try clear c5
    try clear c7
    try clear c7b0
    obtain ⟨kq, x17_4, rfl, HA, HJ4, HB⟩ := hcut
    cases kq with
    | zero => exact absurd HA.out (by simp [linotypelaw01_FieldFits.j0])
    | succ kj4 =>
      have H := HA.out
      clear HA
      simp only [linotypelaw01_FieldFits.j0] at H
      by_cases c8 : x17_4 = true
      · subst c8
        have H1 : (if t137 = true then ((field_Fits.f a0 a1).bind fun t138 => (if t138 = true then (some false) else ((field_Wide.f a0 a1).bind fun t139 => (if t139 = true then (some false) else ((field_Sign.f a0 a1).bind fun t140 => (if t140 = 0 then ((field_Low.f a0 a1).bind fun t141 => (some (t141 == 0))) else (some false))))))) else (some false)) = some r := by rw [if_pos rfl] at H; exact H
        clear H
        have H := H1
        clear H1
        by_cases c9 : t137 = true
        · subst c9
          have H1 : ((field_Fits.f a0 a1).bind fun t138 => (if t138 = true then (some false) else ((field_Wide.f a0 a1).bind fun t139 => (if t139 = true then (some false) else ((field_Sign.f a0 a1).bind fun t140 => (if t140 = 0 then ((field_Low.f a0 a1).bind fun t141 => (some (t141 == 0))) else (some false))))))) = some r := by rw [if_pos rfl] at H; exact H
          clear H
          have H := H1
          clear H1
          replace H := Option.bind_eq_some_iff.mp H
          obtain ⟨t138, A100, H⟩ := H
          replace H : (if t138 = true then (some false) else ((field_Wide.f a0 a1).bind fun t139 => (if t139 = true then (some false) else ((field_Sign.f a0 a1).bind fun t140 => (if t140 = 0 then ((field_Low.f a0 a1).bind fun t141 => (some (t141 == 0))) else (some false)))))) = some r := H
          have A10 := Aside0.mk A100
          clear A100
          by_cases c11 : t138 = true
          · subst c11
            have H1 : (some false) = some r := by rw [if_pos rfl] at H; exact H
            clear H
            have H := H1
            clear H1
            obtain rfl := Option.some.inj H
            go_wp2_with (first | (go_at_call 21; (with_reducible refine (field_Fits.calls a0 a1 true _ A10.out).mono ?_); rintro e w' ⟨rfl, ⟨nd, rfl⟩⟩))
            go_ret
            exact ⟨by first | rfl | (simp [errW_none, errW_some] <;> rfl) | (simp [*, errW_none, errW_some] <;> rfl), by repeat (first | (with_reducible first | exact HB.out | apply below_alloc | apply pw_below_drewN | apply below_drew1) | exact HB.out)⟩
          · replace c11 := Bool.eq_false_iff.mpr c11
            subst c11
            have H1 : ((field_Wide.f a0 a1).bind fun t139 => (if t139 = true then (some false) else ((field_Sign.f a0 a1).bind fun t140 => (if t140 = 0 then ((field_Low.f a0 a1).bind fun t141 => (some (t141 == 0))) else (some false))))) = some r := by rw [if_neg (show ¬ (false = true) by decide)] at H; exact H
            clear H
            have H := H1
            clear H1
            replace H := Option.bind_eq_some_iff.mp H
            obtain ⟨t139, A120, H⟩ := H
            replace H : (if t139 = true then (some false) else ((field_Sign.f a0 a1).bind fun t140 => (if t140 = 0 then ((field_Low.f a0 a1).bind fun t141 => (some (t141 == 0))) else (some false)))) = some r := H
            have A12 := Aside0.mk A120
            clear A120
            by_cases c13 : t139 = true
            · subst c13
              have H1 : (some false) = some r := by rw [if_pos rfl] at H; exact H
              clear H
              have H := H1
              clear H1
              obtain rfl := Option.some.inj H
              go_wp2_with (first | (go_at_call 21; (with_reducible refine (field_Fits.calls a0 a1 false _ A10.out).mono ?_); rintro e w' ⟨rfl, ⟨nd, rfl⟩⟩) | (go_at_call 23; (with_reducible refine (field_Wide.calls a0 a1 true _ A12.out).mono ?_); rintro e w' ⟨rfl, ⟨nd, rfl⟩⟩))
              go_ret
              exact ⟨by first | rfl | (simp [errW_none, errW_some] <;> rfl) | (simp [*, errW_none, errW_some] <;> rfl), by repeat (first | (with_reducible first | exact HB.out | apply below_alloc | apply pw_below_drewN | apply below_drew1) | exact HB.out)⟩
            · replace c13 := Bool.eq_false_iff.mpr c13
              subst c13
              have H1 : ((field_Sign.f a0 a1).bind fun t140 => (if t140 = 0 then ((field_Low.f a0 a1).bind fun t141 => (some (t141 == 0))) else (some false))) = some r := by rw [if_neg (show ¬ (false = true) by decide)] at H; exact H
              clear H
              have H := H1
              clear H1
              replace H := Option.bind_eq_some_iff.mp H
              obtain ⟨t140, A140, H⟩ := H
              replace H : (if t140 = 0 then ((field_Low.f a0 a1).bind fun t141 => (some (t141 == 0))) else (some false)) = some r := H
              have A14 := Aside0.mk A140
              clear A140
              by_cases c15 : t140 = 0
              · rw [if_pos c15] at H
                have c15b0 : (t140 == 0) = true := beq_iff_eq.mpr c15
                have c15b1 : (t140 != 0) = false := bne_eq_false_iff_eq.mpr c15
                clear c15
                replace H := Option.bind_eq_some_iff.mp H
                obtain ⟨t141, A160, H⟩ := H
                replace H : (some (t141 == 0)) = some r := H
                have A16 := Aside0.mk A160
                clear A160
                obtain rfl := Option.some.inj H
                go_wp2_with (first | (go_at_call 21; (with_reducible refine (field_Fits.calls a0 a1 false _ A10.out).mono ?_); rintro e w' ⟨rfl, ⟨nd, rfl⟩⟩) | (go_at_call 23; (with_reducible refine (field_Wide.calls a0 a1 false _ A12.out).mono ?_); rintro e w' ⟨rfl, ⟨nd, rfl⟩⟩) | (go_at_call 25; (with_reducible refine (field_Sign.calls a0 a1 t140 _ A14.out).mono ?_); rintro e w' ⟨rfl, ⟨nd, rfl⟩⟩) | (go_at_call 27; (with_reducible refine (field_Low.calls a0 a1 t141 _ A16.out).mono ?_); rintro e w' ⟨rfl, ⟨nd, rfl⟩⟩))
                go_ret
                exact ⟨by first | rfl | (simp [errW_none, errW_some] <;> rfl) | (simp [*, errW_none, errW_some] <;> rfl), by repeat (first | (with_reducible first | exact HB.out | apply below_alloc | apply pw_below_drewN | apply below_drew1) | exact HB.out)⟩
              · rw [if_neg c15] at H
                have c15b0 : (t140 == 0) = false := beq_eq_false_iff_ne.mpr c15
                have c15b1 : (t140 != 0) = true := bne_iff_ne.mpr c15
                obtain rfl := Option.some.inj H
                go_wp2_with (first | (go_at_call 21; (with_reducible refine (field_Fits.calls a0 a1 false _ A10.out).mono ?_); rintro e w' ⟨rfl, ⟨nd, rfl⟩⟩) | (go_at_call 23; (with_reducible refine (field_Wide.calls a0 a1 false _ A12.out).mono ?_); rintro e w' ⟨rfl, ⟨nd, rfl⟩⟩) | (go_at_call 25; (with_reducible refine (field_Sign.calls a0 a1 t140 _ A14.out).mono ?_); rintro e w' ⟨rfl, ⟨nd, rfl⟩⟩))
                go_ret
                exact ⟨by first | rfl | (simp [errW_none, errW_some] <;> rfl) | (simp [*, errW_none, errW_some] <;> rfl), by repeat (first | (with_reducible first | exact HB.out | apply below_alloc | apply pw_below_drewN | apply below_drew1) | exact HB.out)⟩
        · replace c9 := Bool.eq_false_iff.mpr c9
          subst c9
          have H1 : (some false) = some r := by rw [if_neg (show ¬ (false = true) by decide)] at H; exact H
          clear H
          have H := H1
          clear H1
          obtain rfl := Option.some.inj H
          go_wp2
          go_ret
          exact ⟨by first | rfl | (simp [errW_none, errW_some] <;> rfl) | (simp [*, errW_none, errW_some] <;> rfl), by repeat (first | (with_reducible first | exact HB.out | apply below_alloc | apply pw_below_drewN | apply below_drew1) | exact HB.out)⟩
      · replace c8 := Bool.eq_false_iff.mpr c8
        subst c8
        have H1 : ((field_Sign.f a0 a1).bind fun t142 => ((field_Low.f a0 a1).bind fun t143 => ((field_Fits.f a0 a1).bind fun t144 => (if (t144 != (t142 == a0)) = true then (linotypelaw01_FieldFits.j1 kj4 a0 a1 a2 t137 t142 t143 true) else ((field_Fits.f a0 a1).bind fun t145 => (if t145 = true then ((field_Wide.f a0 a1).bind fun t146 => (if t146 = true then ((field_Fits.f t142 a1).bind fun t147 => (if t147 = true then (if a1 < 64 then (if t143 < 0 then (linotypelaw01_FieldFits.j1 kj4 a0 a1 a2 t137 t142 t143 true) else ((field_Wide.f a0 a1).bind fun t148 => (if t142 = a0 then (linotypelaw01_FieldFits.j1 kj4 a0 a1 a2 t137 t142 t143 (t148 != true)) else (linotypelaw01_FieldFits.j1 kj4 a0 a1 a2 t137 t142 t143 (t148 != (t143 == a0)))))) else ((field_Wide.f a0 a1).bind fun t149 => (if t142 = a0 then (linotypelaw01_FieldFits.j1 kj4 a0 a1 a2 t137 t142 t143 (t149 != true)) else (linotypelaw01_FieldFits.j1 kj4 a0 a1 a2 t137 t142 t143 (t149 != (t143 == a0)))))) else (linotypelaw01_FieldFits.j1 kj4 a0 a1 a2 t137 t142 t143 true))) else (linotypelaw01_FieldFits.j1 kj4 a0 a1 a2 t137 t142 t143 true))) else ((field_Fits.f t142 a1).bind fun t150 => (if t150 = true then (if a1 < 64 then (if t143 < 0 then (linotypelaw01_FieldFits.j1 kj4 a0 a1 a2 t137 t142 t143 true) else ((field_Wide.f a0 a1).bind fun t151 => (if t142 = a0 then (linotypelaw01_FieldFits.j1 kj4 a0 a1 a2 t137 t142 t143 (t151 != true)) else (linotypelaw01_FieldFits.j1 kj4 a0 a1 a2 t137 t142 t143 (t151 != (t143 == a0)))))) else ((field_Wide.f a0 a1).bind fun t152 => (if t142 = a0 then (linotypelaw01_FieldFits.j1 kj4 a0 a1 a2 t137 t142 t143 (t152 != true)) else (linotypelaw01_FieldFits.j1 kj4 a0 a1 a2 t137 t142 t143 (t152 != (t143 == a0)))))) else (linotypelaw01_FieldFits.j1 kj4 a0 a1 a2 t137 t142 t143 true))))))))) = some r := by rw [if_neg (show ¬ (false = true) by decide)] at H; exact H
        clear H
        have H := H1
        clear H1
        replace H := Option.bind_eq_some_iff.mp H
        obtain ⟨t142, A170, H⟩ := H
        replace H : ((field_Low.f a0 a1).bind fun t143 => ((field_Fits.f a0 a1).bind fun t144 => (if (t144 != (t142 == a0)) = true then (linotypelaw01_FieldFits.j1 kj4 a0 a1 a2 t137 t142 t143 true) else ((field_Fits.f a0 a1).bind fun t145 => (if t145 = true then ((field_Wide.f a0 a1).bind fun t146 => (if t146 = true then ((field_Fits.f t142 a1).bind fun t147 => (if t147 = true then (if a1 < 64 then (if t143 < 0 then (linotypelaw01_FieldFits.j1 kj4 a0 a1 a2 t137 t142 t143 true) else ((field_Wide.f a0 a1).bind fun t148 => (if t142 = a0 then (linotypelaw01_FieldFits.j1 kj4 a0 a1 a2 t137 t142 t143 (t148 != true)) else (linotypelaw01_FieldFits.j1 kj4 a0 a1 a2 t137 t142 t143 (t148 != (t143 == a0)))))) else ((field_Wide.f a0 a1).bind fun t149 => (if t142 = a0 then (linotypelaw01_FieldFits.j1 kj4 a0 a1 a2 t137 t142 t143 (t149 != true)) else (linotypelaw01_FieldFits.j1 kj4 a0 a1 a2 t137 t142 t143 (t149 != (t143 == a0)))))) else (linotypelaw01_FieldFits.j1 kj4 a0 a1 a2 t137 t142 t143 true))) else (linotypelaw01_FieldFits.j1 kj4 a0 a1 a2 t137 t142 t143 true))) else ((field_Fits.f t142 a1).bind fun t150 => (if t150 = true then (if a1 < 64 then (if t143 < 0 then (linotypelaw01_FieldFits.j1 kj4 a0 a1 a2 t137 t142 t143 true) else ((field_Wide.f a0 a1).bind fun t151 => (if t142 = a0 then (linotypelaw01_FieldFits.j1 kj4 a0 a1 a2 t137 t142 t143 (t151 != true)) else (linotypelaw01_FieldFits.j1 kj4 a0 a1 a2 t137 t142 t143 (t151 != (t143 == a0)))))) else ((field_Wide.f a0 a1).bind fun t152 => (if t142 = a0 then (linotypelaw01_FieldFits.j1 kj4 a0 a1 a2 t137 t142 t143 (t152 != true)) else (linotypelaw01_FieldFits.j1 kj4 a0 a1 a2 t137 t142 t143 (t152 != (t143 == a0)))))) else (linotypelaw01_FieldFits.j1 kj4 a0 a1 a2 t137 t142 t143 true)))))))) = some r := H
        have A17 := Aside0.mk A170
        clear A170
        replace H := Option.bind_eq_some_iff.mp H
        obtain ⟨t143, A180, H⟩ := H
        replace H : ((field_Fits.f a0 a1).bind fun t144 => (if (t144 != (t142 == a0)) = true then (linotypelaw01_FieldFits.j1 kj4 a0 a1 a2 t137 t142 t143 true) else ((field_Fits.f a0 a1).bind fun t145 => (if t145 = true then ((field_Wide.f a0 a1).bind fun t146 => (if t146 = true then ((field_Fits.f t142 a1).bind fun t147 => (if t147 = true then (if a1 < 64 then (if t143 < 0 then (linotypelaw01_FieldFits.j1 kj4 a0 a1 a2 t137 t142 t143 true) else ((field_Wide.f a0 a1).bind fun t148 => (if t142 = a0 then (linotypelaw01_FieldFits.j1 kj4 a0 a1 a2 t137 t142 t143 (t148 != true)) else (linotypelaw01_FieldFits.j1 kj4 a0 a1 a2 t137 t142 t143 (t148 != (t143 == a0)))))) else ((field_Wide.f a0 a1).bind fun t149 => (if t142 = a0 then (linotypelaw01_FieldFits.j1 kj4 a0 a1 a2 t137 t142 t143 (t149 != true)) else (linotypelaw01_FieldFits.j1 kj4 a0 a1 a2 t137 t142 t143 (t149 != (t143 == a0)))))) else (linotypelaw01_FieldFits.j1 kj4 a0 a1 a2 t137 t142 t143 true))) else (linotypelaw01_FieldFits.j1 kj4 a0 a1 a2 t137 t142 t143 true))) else ((field_Fits.f t142 a1).bind fun t150 => (if t150 = true then (if a1 < 64 then (if t143 < 0 then (linotypelaw01_FieldFits.j1 kj4 a0 a1 a2 t137 t142 t143 true) else ((field_Wide.f a0 a1).bind fun t151 => (if t142 = a0 then (linotypelaw01_FieldFits.j1 kj4 a0 a1 a2 t137 t142 t143 (t151 != true)) else (linotypelaw01_FieldFits.j1 kj4 a0 a1 a2 t137 t142 t143 (t151 != (t143 == a0)))))) else ((field_Wide.f a0 a1).bind fun t152 => (if t142 = a0 then (linotypelaw01_FieldFits.j1 kj4 a0 a1 a2 t137 t142 t143 (t152 != true)) else (linotypelaw01_FieldFits.j1 kj4 a0 a1 a2 t137 t142 t143 (t152 != (t143 == a0)))))) else (linotypelaw01_FieldFits.j1 kj4 a0 a1 a2 t137 t142 t143 true))))))) = some r := H
        have A18 := Aside0.mk A180
        clear A180
        have HC19 := Aside0.mk H
        clear H
        go_upto_region 5 with (first | ((with_reducible refine gate_callee (f := 25) rfl ?_); refine goesL_ (some 45) rfl rfl Try.func25 (by kernel_rfl) rfl #[.int .i64 a0, .int .i64 a1] rfl (by (try simp only [List.map_toArray, List.map_cons, List.map_nil]); first | done | rfl | (simp only [List.length_drop, List.length_take]; rfl)) ?_; (with_reducible refine (field_Sign.calls a0 a1 t142 _ A17.out).mono ?_); rintro e w' ⟨rfl, ⟨nd, rfl⟩⟩; refine ⟨_, rfl, ?_⟩) | ((with_reducible refine gate_callee (f := 27) rfl ?_); refine goesL_ (some 48) rfl rfl Try.func27 (by kernel_rfl) rfl #[.int .i64 a0, .int .i64 a1] rfl (by (try simp only [List.map_toArray, List.map_cons, List.map_nil]); first | done | rfl | (simp only [List.length_drop, List.length_take]; rfl)) ?_; (with_reducible refine (field_Low.calls a0 a1 t143 _ A18.out).mono ?_); rintro e w' ⟨rfl, ⟨nd, rfl⟩⟩; refine ⟨_, rfl, ?_⟩))
        (try simp only [Act.put, List.setIfInBounds_toArray, List.set_cons_zero, List.set_cons_succ])
        go_cut [94] (fun v94 wc => ∃ (kq : Nat) (x94_18 : Bool), v94 = .bool x94_18 ∧ Aside0 (linotypelaw01_FieldFits.j1 kq a0 a1 a2 t137 t142 t143 x94_18 = some r) ∧ Aside0 (kq ≤ kj4) ∧ Aside0 (Below w.heap.size w wc))
        case first => as_aux_lemma =>
          have H := HC19.out
          clear HC19
          replace H := Option.bind_eq_some_iff.mp H
          obtain ⟨t144, A200, H⟩ := H
          replace H : (if (t144 != (t142 == a0)) = true then (linotypelaw01_FieldFits.j1 kj4 a0 a1 a2 t137 t142 t143 true) else ((field_Fits.f a0 a1).bind fun t145 => (if t145 = true then ((field_Wide.f a0 a1).bind fun t146 => (if t146 = true then ((field_Fits.f t142 a1).bind fun t147 => (if t147 = true then (if a1 < 64 then (if t143 < 0 then (linotypelaw01_FieldFits.j1 kj4 a0 a1 a2 t137 t142 t143 true) else ((field_Wide.f a0 a1).bind fun t148 => (if t142 = a0 then (linotypelaw01_FieldFits.j1 kj4 a0 a1 a2 t137 t142 t143 (t148 != true)) else (linotypelaw01_FieldFits.j1 kj4 a0 a1 a2 t137 t142 t143 (t148 != (t143 == a0)))))) else ((field_Wide.f a0 a1).bind fun t149 => (if t142 = a0 then (linotypelaw01_FieldFits.j1 kj4 a0 a1 a2 t137 t142 t143 (t149 != true)) else (linotypelaw01_FieldFits.j1 kj4 a0 a1 a2 t137 t142 t143 (t149 != (t143 == a0)))))) else (linotypelaw01_FieldFits.j1 kj4 a0 a1 a2 t137 t142 t143 true))) else (linotypelaw01_FieldFits.j1 kj4 a0 a1 a2 t137 t142 t143 true))) else ((field_Fits.f t142 a1).bind fun t150 => (if t150 = true then (if a1 < 64 then (if t143 < 0 then (linotypelaw01_FieldFits.j1 kj4 a0 a1 a2 t137 t142 t143 true) else ((field_Wide.f a0 a1).bind fun t151 => (if t142 = a0 then (linotypelaw01_FieldFits.j1 kj4 a0 a1 a2 t137 t142 t143 (t151 != true)) else (linotypelaw01_FieldFits.j1 kj4 a0 a1 a2 t137 t142 t143 (t151 != (t143 == a0)))))) else ((field_Wide.f a0 a1).bind fun t152 => (if t142 = a0 then (linotypelaw01_FieldFits.j1 kj4 a0 a1 a2 t137 t142 t143 (t152 != true)) else (linotypelaw01_FieldFits.j1 kj4 a0 a1 a2 t137 t142 t143 (t152 != (t143 == a0)))))) else (linotypelaw01_FieldFits.j1 kj4 a0 a1 a2 t137 t142 t143 true)))))) = some r := H
          have A20 := Aside0.mk A200
          clear A200
          by_cases c21 : (t144 != (t142 == a0)) = true
          · rw [if_pos c21] at H
            have c21b0 : (t144 != (t142 == a0)) = true := c21
            (try (have c21b1 : decide (t144 = (t142 == a0)) = false := by simpa using c21))
            (try (have c21b2 : (t144 == (t142 == a0)) = false := by simpa using c21))
            (try (have c21b3 : ¬ (t144 = (t142 == a0)) := by simpa using c21))
            clear c21
            (first | rw [c21b0] | (simp only [i64_w, i32_w]; rw [c21b0]) | skip)
            have H' := Aside0.mk H
            clear H
            go_wp2_with (first | ((with_reducible refine gate_callee (f := 21) rfl ?_); refine goesL_ (some 51) rfl rfl Try.func21 (by kernel_rfl) rfl #[.int .i64 a0, .int .i64 a1] rfl (by (try simp only [List.map_toArray, List.map_cons, List.map_nil]); first | done | rfl | (simp only [List.length_drop, List.length_take]; rfl)) ?_; (with_reducible refine (field_Fits.calls a0 a1 t144 _ A20.out).mono ?_); rintro e w' ⟨rfl, ⟨nd, rfl⟩⟩; refine ⟨_, rfl, ?_⟩))
            go_meet
            case rel => exact ⟨_, (true), (by first | rfl | (simp; done) | (simp [*]; done)), H', ⟨by have := HJ4.out; first | omega | exact Nat.le_refl _⟩, ⟨by repeat (first | (with_reducible first | exact HB.out | apply below_alloc | apply pw_below_drewN | apply below_drew1) | exact HB.out)⟩⟩
          · rw [if_neg c21] at H
            have c21b0 : (t144 != (t142 == a0)) = false := by simpa using c21
            (try (have c21b1 : decide (t144 = (t142 == a0)) = true := by simpa using c21))
            (try (have c21b2 : (t144 == (t142 == a0)) = true := by simpa using c21))
            clear c21
            (first | rw [c21b0] | (simp only [i64_w, i32_w]; rw [c21b0]) | skip)
            replace H := Option.bind_eq_some_iff.mp H
            obtain ⟨t145, A220, H⟩ := H
            replace H : (if t145 = true then ((field_Wide.f a0 a1).bind fun t146 => (if t146 = true then ((field_Fits.f t142 a1).bind fun t147 => (if t147 = true then (if a1 < 64 then (if t143 < 0 then (linotypelaw01_FieldFits.j1 kj4 a0 a1 a2 t137 t142 t143 true) else ((field_Wide.f a0 a1).bind fun t148 => (if t142 = a0 then (linotypelaw01_FieldFits.j1 kj4 a0 a1 a2 t137 t142 t143 (t148 != true)) else (linotypelaw01_FieldFits.j1 kj4 a0 a1 a2 t137 t142 t143 (t148 != (t143 == a0)))))) else ((field_Wide.f a0 a1).bind fun t149 => (if t142 = a0 then (linotypelaw01_FieldFits.j1 kj4 a0 a1 a2 t137 t142 t143 (t149 != true)) else (linotypelaw01_FieldFits.j1 kj4 a0 a1 a2 t137 t142 t143 (t149 != (t143 == a0)))))) else (linotypelaw01_FieldFits.j1 kj4 a0 a1 a2 t137 t142 t143 true))) else (linotypelaw01_FieldFits.j1 kj4 a0 a1 a2 t137 t142 t143 true))) else ((field_Fits.f t142 a1).bind fun t150 => (if t150 = true then (if a1 < 64 then (if t143 < 0 then (linotypelaw01_FieldFits.j1 kj4 a0 a1 a2 t137 t142 t143 true) else ((field_Wide.f a0 a1).bind fun t151 => (if t142 = a0 then (linotypelaw01_FieldFits.j1 kj4 a0 a1 a2 t137 t142 t143 (t151 != true)) else (linotypelaw01_FieldFits.j1 kj4 a0 a1 a2 t137 t142 t143 (t151 != (t143 == a0)))))) else ((field_Wide.f a0 a1).bind fun t152 => (if t142 = a0 then (linotypelaw01_FieldFits.j1 kj4 a0 a1 a2 t137 t142 t143 (t152 != true)) else (linotypelaw01_FieldFits.j1 kj4 a0 a1 a2 t137 t142 t143 (t152 != (t143 == a0)))))) else (linotypelaw01_FieldFits.j1 kj4 a0 a1 a2 t137 t142 t143 true)))) = some r := H
            have A22 := Aside0.mk A220
            clear A220
            by_cases c23 : t145 = true
            · subst c23
              have H1 : ((field_Wide.f a0 a1).bind fun t146 => (if t146 = true then ((field_Fits.f t142 a1).bind fun t147 => (if t147 = true then (if a1 < 64 then (if t143 < 0 then (linotypelaw01_FieldFits.j1 kj4 a0 a1 a2 t137 t142 t143 true) else ((field_Wide.f a0 a1).bind fun t148 => (if t142 = a0 then (linotypelaw01_FieldFits.j1 kj4 a0 a1 a2 t137 t142 t143 (t148 != true)) else (linotypelaw01_FieldFits.j1 kj4 a0 a1 a2 t137 t142 t143 (t148 != (t143 == a0)))))) else ((field_Wide.f a0 a1).bind fun t149 => (if t142 = a0 then (linotypelaw01_FieldFits.j1 kj4 a0 a1 a2 t137 t142 t143 (t149 != true)) else (linotypelaw01_FieldFits.j1 kj4 a0 a1 a2 t137 t142 t143 (t149 != (t143 == a0)))))) else (linotypelaw01_FieldFits.j1 kj4 a0 a1 a2 t137 t142 t143 true))) else (linotypelaw01_FieldFits.j1 kj4 a0 a1 a2 t137 t142 t143 true))) = some r := by rw [if_pos rfl] at H; exact H
              clear H
              have H := H1
              clear H1
              replace H := Option.bind_eq_some_iff.mp H
              obtain ⟨t146, A240, H⟩ := H
              replace H : (if t146 = true then ((field_Fits.f t142 a1).bind fun t147 => (if t147 = true then (if a1 < 64 then (if t143 < 0 then (linotypelaw01_FieldFits.j1 kj4 a0 a1 a2 t137 t142 t143 true) else ((field_Wide.f a0 a1).bind fun t148 => (if t142 = a0 then (linotypelaw01_FieldFits.j1 kj4 a0 a1 a2 t137 t142 t143 (t148 != true)) else (linotypelaw01_FieldFits.j1 kj4 a0 a1 a2 t137 t142 t143 (t148 != (t143 == a0)))))) else ((field_Wide.f a0 a1).bind fun t149 => (if t142 = a0 then (linotypelaw01_FieldFits.j1 kj4 a0 a1 a2 t137 t142 t143 (t149 != true)) else (linotypelaw01_FieldFits.j1 kj4 a0 a1 a2 t137 t142 t143 (t149 != (t143 == a0)))))) else (linotypelaw01_FieldFits.j1 kj4 a0 a1 a2 t137 t142 t143 true))) else (linotypelaw01_FieldFits.j1 kj4 a0 a1 a2 t137 t142 t143 true)) = some r := H
              have A24 := Aside0.mk A240
              clear A240
              by_cases c25 : t146 = true
              · subst c25
                have H1 : ((field_Fits.f t142 a1).bind fun t147 => (if t147 = true then (if a1 < 64 then (if t143 < 0 then (linotypelaw01_FieldFits.j1 kj4 a0 a1 a2 t137 t142 t143 true) else ((field_Wide.f a0 a1).bind fun t148 => (if t142 = a0 then (linotypelaw01_FieldFits.j1 kj4 a0 a1 a2 t137 t142 t143 (t148 != true)) else (linotypelaw01_FieldFits.j1 kj4 a0 a1 a2 t137 t142 t143 (t148 != (t143 == a0)))))) else ((field_Wide.f a0 a1).bind fun t149 => (if t142 = a0 then (linotypelaw01_FieldFits.j1 kj4 a0 a1 a2 t137 t142 t143 (t149 != true)) else (linotypelaw01_FieldFits.j1 kj4 a0 a1 a2 t137 t142 t143 (t149 != (t143 == a0)))))) else (linotypelaw01_FieldFits.j1 kj4 a0 a1 a2 t137 t142 t143 true))) = some r := by rw [if_pos rfl] at H; exact H
                clear H
                have H := H1
                clear H1
                replace H := Option.bind_eq_some_iff.mp H
                obtain ⟨t147, A260, H⟩ := H
                replace H : (if t147 = true then (if a1 < 64 then (if t143 < 0 then (linotypelaw01_FieldFits.j1 kj4 a0 a1 a2 t137 t142 t143 true) else ((field_Wide.f a0 a1).bind fun t148 => (if t142 = a0 then (linotypelaw01_FieldFits.j1 kj4 a0 a1 a2 t137 t142 t143 (t148 != true)) else (linotypelaw01_FieldFits.j1 kj4 a0 a1 a2 t137 t142 t143 (t148 != (t143 == a0)))))) else ((field_Wide.f a0 a1).bind fun t149 => (if t142 = a0 then (linotypelaw01_FieldFits.j1 kj4 a0 a1 a2 t137 t142 t143 (t149 != true)) else (linotypelaw01_FieldFits.j1 kj4 a0 a1 a2 t137 t142 t143 (t149 != (t143 == a0)))))) else (linotypelaw01_FieldFits.j1 kj4 a0 a1 a2 t137 t142 t143 true)) = some r := H
                have A26 := Aside0.mk A260
                clear A260
                by_cases c27 : t147 = true
                · subst c27
                  have H1 : (if a1 < 64 then (if t143 < 0 then (linotypelaw01_FieldFits.j1 kj4 a0 a1 a2 t137 t142 t143 true) else ((field_Wide.f a0 a1).bind fun t148 => (if t142 = a0 then (linotypelaw01_FieldFits.j1 kj4 a0 a1 a2 t137 t142 t143 (t148 != true)) else (linotypelaw01_FieldFits.j1 kj4 a0 a1 a2 t137 t142 t143 (t148 != (t143 == a0)))))) else ((field_Wide.f a0 a1).bind fun t149 => (if t142 = a0 then (linotypelaw01_FieldFits.j1 kj4 a0 a1 a2 t137 t142 t143 (t149 != true)) else (linotypelaw01_FieldFits.j1 kj4 a0 a1 a2 t137 t142 t143 (t149 != (t143 == a0)))))) = some r := by rw [if_pos rfl] at H; exact H
                  clear H
                  have H := H1
                  clear H1
                  by_cases c28 : a1 < 64
                  · rw [if_pos c28] at H
                    have c28b0 : decide (a1 < 64) = true := decide_eq_true c28
                    clear c28
                    by_cases c29 : t143 < 0
                    · rw [if_pos c29] at H
                      have c29b0 : decide (t143 < 0) = true := decide_eq_true c29
                      clear c29
                      have H' := Aside0.mk H
                      clear H
                      go_wp2_with (first | ((with_reducible refine gate_callee (f := 21) rfl ?_); refine goesL_ (some 51) rfl rfl Try.func21 (by kernel_rfl) rfl #[.int .i64 a0, .int .i64 a1] rfl (by (try simp only [List.map_toArray, List.map_cons, List.map_nil]); first | done | rfl | (simp only [List.length_drop, List.length_take]; rfl)) ?_; (with_reducible refine (field_Fits.calls a0 a1 t144 _ A20.out).mono ?_); rintro e w' ⟨rfl, ⟨nd, rfl⟩⟩; refine ⟨_, rfl, ?_⟩) | (go_at_call 21; (with_reducible refine (field_Fits.calls a0 a1 true _ A22.out).mono ?_); rintro e w' ⟨rfl, ⟨nd, rfl⟩⟩) | (go_at_call 23; (with_reducible refine (field_Wide.calls a0 a1 true _ A24.out).mono ?_); rintro e w' ⟨rfl, ⟨nd, rfl⟩⟩) | (go_at_call 21; (with_reducible refine (field_Fits.calls t142 a1 true _ A26.out).mono ?_); rintro e w' ⟨rfl, ⟨nd, rfl⟩⟩))
                      go_meet
                      case rel => exact ⟨_, (true), (by first | rfl | (simp; done) | (simp [*]; done)), H', ⟨by have := HJ4.out; first | omega | exact Nat.le_refl _⟩, ⟨by repeat (first | (with_reducible first | exact HB.out | apply below_alloc | apply pw_below_drewN | apply below_drew1) | exact HB.out)⟩⟩
                    · rw [if_neg c29] at H
                      have c29b0 : decide (t143 < 0) = false := decide_eq_false c29
                      clear c29
                      replace H := Option.bind_eq_some_iff.mp H
                      obtain ⟨t148, A300, H⟩ := H
                      replace H : (if t142 = a0 then (linotypelaw01_FieldFits.j1 kj4 a0 a1 a2 t137 t142 t143 (t148 != true)) else (linotypelaw01_FieldFits.j1 kj4 a0 a1 a2 t137 t142 t143 (t148 != (t143 == a0)))) = some r := H
                      have A30 := Aside0.mk A300
                      clear A300
                      by_cases c31 : t142 = a0
                      · rw [if_pos c31] at H
                        have c31b0 : (t142 == a0) = true := beq_iff_eq.mpr c31
                        have c31b1 : (t142 != a0) = false := bne_eq_false_iff_eq.mpr c31
                        clear c31
                        have H' := Aside0.mk H
                        clear H
                        have ht144 : t144 = true := by revert c21b0; rw [c31b0]; cases t144 <;> simp
                        subst ht144
                        cases t148
                        all_goals try (exfalso; have hx_ := A24.out.symm.trans A30.out; simp at hx_; done)
                        all_goals
                          go_wp2_with (first | ((with_reducible refine gate_callee (f := 21) rfl ?_); refine goesL_ (some 51) rfl rfl Try.func21 (by kernel_rfl) rfl #[.int .i64 a0, .int .i64 a1] rfl (by (try simp only [List.map_toArray, List.map_cons, List.map_nil]); first | done | rfl | (simp only [List.length_drop, List.length_take]; rfl)) ?_; (with_reducible refine (field_Fits.calls a0 a1 true _ A20.out).mono ?_); rintro e w' ⟨rfl, ⟨nd, rfl⟩⟩; refine ⟨_, rfl, ?_⟩) | (go_at_call 21; (with_reducible refine (field_Fits.calls a0 a1 true _ A22.out).mono ?_); rintro e w' ⟨rfl, ⟨nd, rfl⟩⟩) | (go_at_call 23; (with_reducible refine (field_Wide.calls a0 a1 true _ A24.out).mono ?_); rintro e w' ⟨rfl, ⟨nd, rfl⟩⟩) | (go_at_call 21; (with_reducible refine (field_Fits.calls t142 a1 true _ A26.out).mono ?_); rintro e w' ⟨rfl, ⟨nd, rfl⟩⟩) | (go_at_call 23; (with_reducible refine (field_Wide.calls a0 a1 _ _ A30.out).mono ?_); rintro e w' ⟨rfl, ⟨nd, rfl⟩⟩))
                          go_meet
                          case rel => exact ⟨_, _, (by first | rfl | (simp; done) | (simp [*]; done)), H', ⟨by have := HJ4.out; first | omega | exact Nat.le_refl _⟩, ⟨by repeat (first | (with_reducible first | exact HB.out | apply below_alloc | apply pw_below_drewN | apply below_drew1) | exact HB.out)⟩⟩
                      · rw [if_neg c31] at H
                        have c31b0 : (t142 == a0) = false := beq_eq_false_iff_ne.mpr c31
                        have c31b1 : (t142 != a0) = true := bne_iff_ne.mpr c31
                        have H' := Aside0.mk H
                        clear H
                        have ht144 : t144 = false := by revert c21b0; rw [c31b0]; cases t144 <;> simp
                        subst ht144
                        obtain ⟨bq, hbq⟩ : ∃ b_ : Bool, (t143 == a0) = b_ := ⟨_, rfl⟩
                        rcases bq with _ | _
                        all_goals cases t148
                        all_goals try (exfalso; have hx_ := A24.out.symm.trans A30.out; simp at hx_; done)
                        all_goals
                          go_wp2_with (first | ((with_reducible refine gate_callee (f := 21) rfl ?_); refine goesL_ (some 51) rfl rfl Try.func21 (by kernel_rfl) rfl #[.int .i64 a0, .int .i64 a1] rfl (by (try simp only [List.map_toArray, List.map_cons, List.map_nil]); first | done | rfl | (simp only [List.length_drop, List.length_take]; rfl)) ?_; (with_reducible refine (field_Fits.calls a0 a1 false _ A20.out).mono ?_); rintro e w' ⟨rfl, ⟨nd, rfl⟩⟩; refine ⟨_, rfl, ?_⟩) | (go_at_call 21; (with_reducible refine (field_Fits.calls a0 a1 true _ A22.out).mono ?_); rintro e w' ⟨rfl, ⟨nd, rfl⟩⟩) | (go_at_call 23; (with_reducible refine (field_Wide.calls a0 a1 true _ A24.out).mono ?_); rintro e w' ⟨rfl, ⟨nd, rfl⟩⟩) | (go_at_call 21; (with_reducible refine (field_Fits.calls t142 a1 true _ A26.out).mono ?_); rintro e w' ⟨rfl, ⟨nd, rfl⟩⟩) | (go_at_call 23; (with_reducible refine (field_Wide.calls a0 a1 _ _ A30.out).mono ?_); rintro e w' ⟨rfl, ⟨nd, rfl⟩⟩))
                          go_meet
                          case rel => exact ⟨_, _, (by first | rfl | (simp; done) | (simp [*]; done)), H', ⟨by have := HJ4.out; first | omega | exact Nat.le_refl _⟩, ⟨by repeat (first | (with_reducible first | exact HB.out | apply below_alloc | apply pw_below_drewN | apply below_drew1) | exact HB.out)⟩⟩
                  · rw [if_neg c28] at H
                    have c28b0 : decide (a1 < 64) = false := decide_eq_false c28
                    clear c28
                    replace H := Option.bind_eq_some_iff.mp H
                    obtain ⟨t149, A320, H⟩ := H
                    replace H : (if t142 = a0 then (linotypelaw01_FieldFits.j1 kj4 a0 a1 a2 t137 t142 t143 (t149 != true)) else (linotypelaw01_FieldFits.j1 kj4 a0 a1 a2 t137 t142 t143 (t149 != (t143 == a0)))) = some r := H
                    have A32 := Aside0.mk A320
                    clear A320
                    by_cases c33 : t142 = a0
                    · rw [if_pos c33] at H
                      have c33b0 : (t142 == a0) = true := beq_iff_eq.mpr c33
                      have c33b1 : (t142 != a0) = false := bne_eq_false_iff_eq.mpr c33
                      clear c33
                      have H' := Aside0.mk H
                      clear H
                      have ht144 : t144 = true := by revert c21b0; rw [c33b0]; cases t144 <;> simp
                      subst ht144
                      cases t149
                      all_goals try (exfalso; have hx_ := A24.out.symm.trans A32.out; simp at hx_; done)
                      all_goals
                        go_wp2_with (first | ((with_reducible refine gate_callee (f := 21) rfl ?_); refine goesL_ (some 51) rfl rfl Try.func21 (by kernel_rfl) rfl #[.int .i64 a0, .int .i64 a1] rfl (by (try simp only [List.map_toArray, List.map_cons, List.map_nil]); first | done | rfl | (simp only [List.length_drop, List.length_take]; rfl)) ?_; (with_reducible refine (field_Fits.calls a0 a1 true _ A20.out).mono ?_); rintro e w' ⟨rfl, ⟨nd, rfl⟩⟩; refine ⟨_, rfl, ?_⟩) | (go_at_call 21; (with_reducible refine (field_Fits.calls a0 a1 true _ A22.out).mono ?_); rintro e w' ⟨rfl, ⟨nd, rfl⟩⟩) | (go_at_call 23; (with_reducible refine (field_Wide.calls a0 a1 true _ A24.out).mono ?_); rintro e w' ⟨rfl, ⟨nd, rfl⟩⟩) | (go_at_call 21; (with_reducible refine (field_Fits.calls t142 a1 true _ A26.out).mono ?_); rintro e w' ⟨rfl, ⟨nd, rfl⟩⟩) | (go_at_call 23; (with_reducible refine (field_Wide.calls a0 a1 _ _ A32.out).mono ?_); rintro e w' ⟨rfl, ⟨nd, rfl⟩⟩))
                        go_meet
                        case rel => exact ⟨_, _, (by first | rfl | (simp; done) | (simp [*]; done)), H', ⟨by have := HJ4.out; first | omega | exact Nat.le_refl _⟩, ⟨by repeat (first | (with_reducible first | exact HB.out | apply below_alloc | apply pw_below_drewN | apply below_drew1) | exact HB.out)⟩⟩
                    · rw [if_neg c33] at H
                      have c33b0 : (t142 == a0) = false := beq_eq_false_iff_ne.mpr c33
                      have c33b1 : (t142 != a0) = true := bne_iff_ne.mpr c33
                      have H' := Aside0.mk H
                      clear H
                      have ht144 : t144 = false := by revert c21b0; rw [c33b0]; cases t144 <;> simp
                      subst ht144
                      obtain ⟨bq, hbq⟩ : ∃ b_ : Bool, (t143 == a0) = b_ := ⟨_, rfl⟩
                      rcases bq with _ | _
                      all_goals cases t149
                      all_goals try (exfalso; have hx_ := A24.out.symm.trans A32.out; simp at hx_; done)
                      all_goals
                        go_wp2_with (first | ((with_reducible refine gate_callee (f := 21) rfl ?_); refine goesL_ (some 51) rfl rfl Try.func21 (by kernel_rfl) rfl #[.int .i64 a0, .int .i64 a1] rfl (by (try simp only [List.map_toArray, List.map_cons, List.map_nil]); first | done | rfl | (simp only [List.length_drop, List.length_take]; rfl)) ?_; (with_reducible refine (field_Fits.calls a0 a1 false _ A20.out).mono ?_); rintro e w' ⟨rfl, ⟨nd, rfl⟩⟩; refine ⟨_, rfl, ?_⟩) | (go_at_call 21; (with_reducible refine (field_Fits.calls a0 a1 true _ A22.out).mono ?_); rintro e w' ⟨rfl, ⟨nd, rfl⟩⟩) | (go_at_call 23; (with_reducible refine (field_Wide.calls a0 a1 true _ A24.out).mono ?_); rintro e w' ⟨rfl, ⟨nd, rfl⟩⟩) | (go_at_call 21; (with_reducible refine (field_Fits.calls t142 a1 true _ A26.out).mono ?_); rintro e w' ⟨rfl, ⟨nd, rfl⟩⟩) | (go_at_call 23; (with_reducible refine (field_Wide.calls a0 a1 _ _ A32.out).mono ?_); rintro e w' ⟨rfl, ⟨nd, rfl⟩⟩))
                        go_meet
                        case rel => exact ⟨_, _, (by first | rfl | (simp; done) | (simp [*]; done)), H', ⟨by have := HJ4.out; first | omega | exact Nat.le_refl _⟩, ⟨by repeat (first | (with_reducible first | exact HB.out | apply below_alloc | apply pw_below_drewN | apply below_drew1) | exact HB.out)⟩⟩
                · replace c27 := Bool.eq_false_iff.mpr c27
                  subst c27
                  have H1 : (linotypelaw01_FieldFits.j1 kj4 a0 a1 a2 t137 t142 t143 true) = some r := by rw [if_neg (show ¬ (false = true) by decide)] at H; exact H
                  clear H
                  have H := H1
                  clear H1
                  have H' := Aside0.mk H
                  clear H
                  go_wp2_with (first | ((with_reducible refine gate_callee (f := 21) rfl ?_); refine goesL_ (some 51) rfl rfl Try.func21 (by kernel_rfl) rfl #[.int .i64 a0, .int .i64 a1] rfl (by (try simp only [List.map_toArray, List.map_cons, List.map_nil]); first | done | rfl | (simp only [List.length_drop, List.length_take]; rfl)) ?_; (with_reducible refine (field_Fits.calls a0 a1 t144 _ A20.out).mono ?_); rintro e w' ⟨rfl, ⟨nd, rfl⟩⟩; refine ⟨_, rfl, ?_⟩) | (go_at_call 21; (with_reducible refine (field_Fits.calls a0 a1 true _ A22.out).mono ?_); rintro e w' ⟨rfl, ⟨nd, rfl⟩⟩) | (go_at_call 23; (with_reducible refine (field_Wide.calls a0 a1 true _ A24.out).mono ?_); rintro e w' ⟨rfl, ⟨nd, rfl⟩⟩) | (go_at_call 21; (with_reducible refine (field_Fits.calls t142 a1 false _ A26.out).mono ?_); rintro e w' ⟨rfl, ⟨nd, rfl⟩⟩))
                  go_meet
                  case rel => exact ⟨_, (true), (by first | rfl | (simp; done) | (simp [*]; done)), H', ⟨by have := HJ4.out; first | omega | exact Nat.le_refl _⟩, ⟨by repeat (first | (with_reducible first | exact HB.out | apply below_alloc | apply pw_below_drewN | apply below_drew1) | exact HB.out)⟩⟩
              · replace c25 := Bool.eq_false_iff.mpr c25
                subst c25
                have H1 : (linotypelaw01_FieldFits.j1 kj4 a0 a1 a2 t137 t142 t143 true) = some r := by rw [if_neg (show ¬ (false = true) by decide)] at H; exact H
                clear H
                have H := H1
                clear H1
                have H' := Aside0.mk H
                clear H
                go_wp2_with (first | ((with_reducible refine gate_callee (f := 21) rfl ?_); refine goesL_ (some 51) rfl rfl Try.func21 (by kernel_rfl) rfl #[.int .i64 a0, .int .i64 a1] rfl (by (try simp only [List.map_toArray, List.map_cons, List.map_nil]); first | done | rfl | (simp only [List.length_drop, List.length_take]; rfl)) ?_; (with_reducible refine (field_Fits.calls a0 a1 t144 _ A20.out).mono ?_); rintro e w' ⟨rfl, ⟨nd, rfl⟩⟩; refine ⟨_, rfl, ?_⟩) | (go_at_call 21; (with_reducible refine (field_Fits.calls a0 a1 true _ A22.out).mono ?_); rintro e w' ⟨rfl, ⟨nd, rfl⟩⟩) | (go_at_call 23; (with_reducible refine (field_Wide.calls a0 a1 false _ A24.out).mono ?_); rintro e w' ⟨rfl, ⟨nd, rfl⟩⟩))
                go_meet
                case rel => exact ⟨_, (true), (by first | rfl | (simp; done) | (simp [*]; done)), H', ⟨by have := HJ4.out; first | omega | exact Nat.le_refl _⟩, ⟨by repeat (first | (with_reducible first | exact HB.out | apply below_alloc | apply pw_below_drewN | apply below_drew1) | exact HB.out)⟩⟩
            · replace c23 := Bool.eq_false_iff.mpr c23
              subst c23
              have H1 : ((field_Fits.f t142 a1).bind fun t150 => (if t150 = true then (if a1 < 64 then (if t143 < 0 then (linotypelaw01_FieldFits.j1 kj4 a0 a1 a2 t137 t142 t143 true) else ((field_Wide.f a0 a1).bind fun t151 => (if t142 = a0 then (linotypelaw01_FieldFits.j1 kj4 a0 a1 a2 t137 t142 t143 (t151 != true)) else (linotypelaw01_FieldFits.j1 kj4 a0 a1 a2 t137 t142 t143 (t151 != (t143 == a0)))))) else ((field_Wide.f a0 a1).bind fun t152 => (if t142 = a0 then (linotypelaw01_FieldFits.j1 kj4 a0 a1 a2 t137 t142 t143 (t152 != true)) else (linotypelaw01_FieldFits.j1 kj4 a0 a1 a2 t137 t142 t143 (t152 != (t143 == a0)))))) else (linotypelaw01_FieldFits.j1 kj4 a0 a1 a2 t137 t142 t143 true))) = some r := by rw [if_neg (show ¬ (false = true) by decide)] at H; exact H
              clear H
              have H := H1
              clear H1
              replace H := Option.bind_eq_some_iff.mp H
              obtain ⟨t150, A340, H⟩ := H
              replace H : (if t150 = true then (if a1 < 64 then (if t143 < 0 then (linotypelaw01_FieldFits.j1 kj4 a0 a1 a2 t137 t142 t143 true) else ((field_Wide.f a0 a1).bind fun t151 => (if t142 = a0 then (linotypelaw01_FieldFits.j1 kj4 a0 a1 a2 t137 t142 t143 (t151 != true)) else (linotypelaw01_FieldFits.j1 kj4 a0 a1 a2 t137 t142 t143 (t151 != (t143 == a0)))))) else ((field_Wide.f a0 a1).bind fun t152 => (if t142 = a0 then (linotypelaw01_FieldFits.j1 kj4 a0 a1 a2 t137 t142 t143 (t152 != true)) else (linotypelaw01_FieldFits.j1 kj4 a0 a1 a2 t137 t142 t143 (t152 != (t143 == a0)))))) else (linotypelaw01_FieldFits.j1 kj4 a0 a1 a2 t137 t142 t143 true)) = some r := H
              have A34 := Aside0.mk A340
              clear A340
              by_cases c35 : t150 = true
              · subst c35
                have H1 : (if a1 < 64 then (if t143 < 0 then (linotypelaw01_FieldFits.j1 kj4 a0 a1 a2 t137 t142 t143 true) else ((field_Wide.f a0 a1).bind fun t151 => (if t142 = a0 then (linotypelaw01_FieldFits.j1 kj4 a0 a1 a2 t137 t142 t143 (t151 != true)) else (linotypelaw01_FieldFits.j1 kj4 a0 a1 a2 t137 t142 t143 (t151 != (t143 == a0)))))) else ((field_Wide.f a0 a1).bind fun t152 => (if t142 = a0 then (linotypelaw01_FieldFits.j1 kj4 a0 a1 a2 t137 t142 t143 (t152 != true)) else (linotypelaw01_FieldFits.j1 kj4 a0 a1 a2 t137 t142 t143 (t152 != (t143 == a0)))))) = some r := by rw [if_pos rfl] at H; exact H
                clear H
                have H := H1
                clear H1
                by_cases c36 : a1 < 64
                · rw [if_pos c36] at H
                  have c36b0 : decide (a1 < 64) = true := decide_eq_true c36
                  clear c36
                  by_cases c37 : t143 < 0
                  · rw [if_pos c37] at H
                    have c37b0 : decide (t143 < 0) = true := decide_eq_true c37
                    clear c37
                    have H' := Aside0.mk H
                    clear H
                    go_wp2_with (first | ((with_reducible refine gate_callee (f := 21) rfl ?_); refine goesL_ (some 51) rfl rfl Try.func21 (by kernel_rfl) rfl #[.int .i64 a0, .int .i64 a1] rfl (by (try simp only [List.map_toArray, List.map_cons, List.map_nil]); first | done | rfl | (simp only [List.length_drop, List.length_take]; rfl)) ?_; (with_reducible refine (field_Fits.calls a0 a1 t144 _ A20.out).mono ?_); rintro e w' ⟨rfl, ⟨nd, rfl⟩⟩; refine ⟨_, rfl, ?_⟩) | (go_at_call 21; (with_reducible refine (field_Fits.calls a0 a1 false _ A22.out).mono ?_); rintro e w' ⟨rfl, ⟨nd, rfl⟩⟩) | (go_at_call 21; (with_reducible refine (field_Fits.calls t142 a1 true _ A34.out).mono ?_); rintro e w' ⟨rfl, ⟨nd, rfl⟩⟩))
                    go_meet
                    case rel => exact ⟨_, (true), (by first | rfl | (simp; done) | (simp [*]; done)), H', ⟨by have := HJ4.out; first | omega | exact Nat.le_refl _⟩, ⟨by repeat (first | (with_reducible first | exact HB.out | apply below_alloc | apply pw_below_drewN | apply below_drew1) | exact HB.out)⟩⟩
                  · rw [if_neg c37] at H
                    have c37b0 : decide (t143 < 0) = false := decide_eq_false c37
                    clear c37
                    replace H := Option.bind_eq_some_iff.mp H
                    obtain ⟨t151, A380, H⟩ := H
                    replace H : (if t142 = a0 then (linotypelaw01_FieldFits.j1 kj4 a0 a1 a2 t137 t142 t143 (t151 != true)) else (linotypelaw01_FieldFits.j1 kj4 a0 a1 a2 t137 t142 t143 (t151 != (t143 == a0)))) = some r := H
                    have A38 := Aside0.mk A380
                    clear A380
                    by_cases c39 : t142 = a0
                    · rw [if_pos c39] at H
                      have c39b0 : (t142 == a0) = true := beq_iff_eq.mpr c39
                      have c39b1 : (t142 != a0) = false := bne_eq_false_iff_eq.mpr c39
                      clear c39
                      have H' := Aside0.mk H
                      clear H
                      have ht144 : t144 = true := by revert c21b0; rw [c39b0]; cases t144 <;> simp
                      subst ht144
                      cases t151
                      all_goals try (exfalso; have hx_ := A24.out.symm.trans A38.out; simp at hx_; done)
                      all_goals
                        go_wp2_with (first | ((with_reducible refine gate_callee (f := 21) rfl ?_); refine goesL_ (some 51) rfl rfl Try.func21 (by kernel_rfl) rfl #[.int .i64 a0, .int .i64 a1] rfl (by (try simp only [List.map_toArray, List.map_cons, List.map_nil]); first | done | rfl | (simp only [List.length_drop, List.length_take]; rfl)) ?_; (with_reducible refine (field_Fits.calls a0 a1 true _ A20.out).mono ?_); rintro e w' ⟨rfl, ⟨nd, rfl⟩⟩; refine ⟨_, rfl, ?_⟩) | (go_at_call 21; (with_reducible refine (field_Fits.calls a0 a1 false _ A22.out).mono ?_); rintro e w' ⟨rfl, ⟨nd, rfl⟩⟩) | (go_at_call 21; (with_reducible refine (field_Fits.calls t142 a1 true _ A34.out).mono ?_); rintro e w' ⟨rfl, ⟨nd, rfl⟩⟩) | (go_at_call 23; (with_reducible refine (field_Wide.calls a0 a1 _ _ A38.out).mono ?_); rintro e w' ⟨rfl, ⟨nd, rfl⟩⟩))
                        go_meet
                        case rel => exact ⟨_, _, (by first | rfl | (simp; done) | (simp [*]; done)), H', ⟨by have := HJ4.out; first | omega | exact Nat.le_refl _⟩, ⟨by repeat (first | (with_reducible first | exact HB.out | apply below_alloc | apply pw_below_drewN | apply below_drew1) | exact HB.out)⟩⟩
                    · rw [if_neg c39] at H
                      have c39b0 : (t142 == a0) = false := beq_eq_false_iff_ne.mpr c39
                      have c39b1 : (t142 != a0) = true := bne_iff_ne.mpr c39
                      have H' := Aside0.mk H
                      clear H
                      have ht144 : t144 = false := by revert c21b0; rw [c39b0]; cases t144 <;> simp
                      subst ht144
                      obtain ⟨bq, hbq⟩ : ∃ b_ : Bool, (t143 == a0) = b_ := ⟨_, rfl⟩
                      rcases bq with _ | _
                      all_goals cases t151
                      all_goals try (exfalso; have hx_ := A24.out.symm.trans A38.out; simp at hx_; done)
                      all_goals
                        go_wp2_with (first | ((with_reducible refine gate_callee (f := 21) rfl ?_); refine goesL_ (some 51) rfl rfl Try.func21 (by kernel_rfl) rfl #[.int .i64 a0, .int .i64 a1] rfl (by (try simp only [List.map_toArray, List.map_cons, List.map_nil]); first | done | rfl | (simp only [List.length_drop, List.length_take]; rfl)) ?_; (with_reducible refine (field_Fits.calls a0 a1 false _ A20.out).mono ?_); rintro e w' ⟨rfl, ⟨nd, rfl⟩⟩; refine ⟨_, rfl, ?_⟩) | (go_at_call 21; (with_reducible refine (field_Fits.calls a0 a1 false _ A22.out).mono ?_); rintro e w' ⟨rfl, ⟨nd, rfl⟩⟩) | (go_at_call 21; (with_reducible refine (field_Fits.calls t142 a1 true _ A34.out).mono ?_); rintro e w' ⟨rfl, ⟨nd, rfl⟩⟩) | (go_at_call 23; (with_reducible refine (field_Wide.calls a0 a1 _ _ A38.out).mono ?_); rintro e w' ⟨rfl, ⟨nd, rfl⟩⟩))
                        go_meet
                        case rel => exact ⟨_, _, (by first | rfl | (simp; done) | (simp [*]; done)), H', ⟨by have := HJ4.out; first | omega | exact Nat.le_refl _⟩, ⟨by repeat (first | (with_reducible first | exact HB.out | apply below_alloc | apply pw_below_drewN | apply below_drew1) | exact HB.out)⟩⟩
                · rw [if_neg c36] at H
                  have c36b0 : decide (a1 < 64) = false := decide_eq_false c36
                  clear c36
                  replace H := Option.bind_eq_some_iff.mp H
                  obtain ⟨t152, A400, H⟩ := H
                  replace H : (if t142 = a0 then (linotypelaw01_FieldFits.j1 kj4 a0 a1 a2 t137 t142 t143 (t152 != true)) else (linotypelaw01_FieldFits.j1 kj4 a0 a1 a2 t137 t142 t143 (t152 != (t143 == a0)))) = some r := H
                  have A40 := Aside0.mk A400
                  clear A400
                  by_cases c41 : t142 = a0
                  · rw [if_pos c41] at H
                    have c41b0 : (t142 == a0) = true := beq_iff_eq.mpr c41
                    have c41b1 : (t142 != a0) = false := bne_eq_false_iff_eq.mpr c41
                    clear c41
                    have H' := Aside0.mk H
                    clear H
                    have ht144 : t144 = true := by revert c21b0; rw [c41b0]; cases t144 <;> simp
                    subst ht144
                    cases t152
                    all_goals try (exfalso; have hx_ := A24.out.symm.trans A40.out; simp at hx_; done)
                    all_goals
                      go_wp2_with (first | ((with_reducible refine gate_callee (f := 21) rfl ?_); refine goesL_ (some 51) rfl rfl Try.func21 (by kernel_rfl) rfl #[.int .i64 a0, .int .i64 a1] rfl (by (try simp only [List.map_toArray, List.map_cons, List.map_nil]); first | done | rfl | (simp only [List.length_drop, List.length_take]; rfl)) ?_; (with_reducible refine (field_Fits.calls a0 a1 true _ A20.out).mono ?_); rintro e w' ⟨rfl, ⟨nd, rfl⟩⟩; refine ⟨_, rfl, ?_⟩) | (go_at_call 21; (with_reducible refine (field_Fits.calls a0 a1 false _ A22.out).mono ?_); rintro e w' ⟨rfl, ⟨nd, rfl⟩⟩) | (go_at_call 21; (with_reducible refine (field_Fits.calls t142 a1 true _ A34.out).mono ?_); rintro e w' ⟨rfl, ⟨nd, rfl⟩⟩) | (go_at_call 23; (with_reducible refine (field_Wide.calls a0 a1 _ _ A40.out).mono ?_); rintro e w' ⟨rfl, ⟨nd, rfl⟩⟩))
                      go_meet
                      case rel => exact ⟨_, _, (by first | rfl | (simp; done) | (simp [*]; done)), H', ⟨by have := HJ4.out; first | omega | exact Nat.le_refl _⟩, ⟨by repeat (first | (with_reducible first | exact HB.out | apply below_alloc | apply pw_below_drewN | apply below_drew1) | exact HB.out)⟩⟩
                  · rw [if_neg c41] at H
                    have c41b0 : (t142 == a0) = false := beq_eq_false_iff_ne.mpr c41
                    have c41b1 : (t142 != a0) = true := bne_iff_ne.mpr c41
                    have H' := Aside0.mk H
                    clear H
                    have ht144 : t144 = false := by revert c21b0; rw [c41b0]; cases t144 <;> simp
                    subst ht144
                    obtain ⟨bq, hbq⟩ : ∃ b_ : Bool, (t143 == a0) = b_ := ⟨_, rfl⟩
                    rcases bq with _ | _
                    all_goals cases t152
                    all_goals try (exfalso; have hx_ := A24.out.symm.trans A40.out; simp at hx_; done)
                    all_goals
                      go_wp2_with (first | ((with_reducible refine gate_callee (f := 21) rfl ?_); refine goesL_ (some 51) rfl rfl Try.func21 (by kernel_rfl) rfl #[.int .i64 a0, .int .i64 a1] rfl (by (try simp only [List.map_toArray, List.map_cons, List.map_nil]); first | done | rfl | (simp only [List.length_drop, List.length_take]; rfl)) ?_; (with_reducible refine (field_Fits.calls a0 a1 false _ A20.out).mono ?_); rintro e w' ⟨rfl, ⟨nd, rfl⟩⟩; refine ⟨_, rfl, ?_⟩) | (go_at_call 21; (with_reducible refine (field_Fits.calls a0 a1 false _ A22.out).mono ?_); rintro e w' ⟨rfl, ⟨nd, rfl⟩⟩) | (go_at_call 21; (with_reducible refine (field_Fits.calls t142 a1 true _ A34.out).mono ?_); rintro e w' ⟨rfl, ⟨nd, rfl⟩⟩) | (go_at_call 23; (with_reducible refine (field_Wide.calls a0 a1 _ _ A40.out).mono ?_); rintro e w' ⟨rfl, ⟨nd, rfl⟩⟩))
                      go_meet
                      case rel => exact ⟨_, _, (by first | rfl | (simp; done) | (simp [*]; done)), H', ⟨by have := HJ4.out; first | omega | exact Nat.le_refl _⟩, ⟨by repeat (first | (with_reducible first | exact HB.out | apply below_alloc | apply pw_below_drewN | apply below_drew1) | exact HB.out)⟩⟩
              · replace c35 := Bool.eq_false_iff.mpr c35
                subst c35
                have H1 : (linotypelaw01_FieldFits.j1 kj4 a0 a1 a2 t137 t142 t143 true) = some r := by rw [if_neg (show ¬ (false = true) by decide)] at H; exact H
                clear H
                have H := H1
                clear H1
                have H' := Aside0.mk H
                clear H
                go_wp2_with (first | ((with_reducible refine gate_callee (f := 21) rfl ?_); refine goesL_ (some 51) rfl rfl Try.func21 (by kernel_rfl) rfl #[.int .i64 a0, .int .i64 a1] rfl (by (try simp only [List.map_toArray, List.map_cons, List.map_nil]); first | done | rfl | (simp only [List.length_drop, List.length_take]; rfl)) ?_; (with_reducible refine (field_Fits.calls a0 a1 t144 _ A20.out).mono ?_); rintro e w' ⟨rfl, ⟨nd, rfl⟩⟩; refine ⟨_, rfl, ?_⟩) | (go_at_call 21; (with_reducible refine (field_Fits.calls a0 a1 false _ A22.out).mono ?_); rintro e w' ⟨rfl, ⟨nd, rfl⟩⟩) | (go_at_call 21; (with_reducible refine (field_Fits.calls t142 a1 false _ A34.out).mono ?_); rintro e w' ⟨rfl, ⟨nd, rfl⟩⟩))
                go_meet
                case rel => exact ⟨_, (true), (by first | rfl | (simp; done) | (simp [*]; done)), H', ⟨by have := HJ4.out; first | omega | exact Nat.le_refl _⟩, ⟨by repeat (first | (with_reducible first | exact HB.out | apply below_alloc | apply pw_below_drewN | apply below_drew1) | exact HB.out)⟩⟩
        case rest => as_aux_lemma =>
          clear HC19
          try clear c1
          try clear c2
          try clear p2
          try clear c3
          try clear c4
          try clear c5
          try clear c7
          try clear c7b0
          try clear c8
          try clear c9
          try clear c11
          try clear c13
          try clear c15
          try clear c15b0
          try clear c15b1
          try clear c21
          try clear c21b0
          try clear c21b1
          try clear c21b2
          try clear c23
          try clear c25
          try clear c27
          try clear c28
          try clear c28b0
          try clear c29
          try clear c29b0
          try clear c31
          try clear c31b0
          try clear c31b1
          try clear c33
          try clear c33b0
          try clear c33b1
          try clear c35
          try clear c36
          try clear c36b0
          try clear c37
          try clear c37b0
          try clear c39
          try clear c39b0
          try clear c39b1
          try clear c41
          try clear c41b0
          try clear c41b1
          try clear p2
          obtain ⟨kq, x94_18, rfl, HA, HJ18, HB⟩ := hcut
          cases kq with
          | zero => exact absurd HA.out (by simp [linotypelaw01_FieldFits.j1])
          | succ kj18 =>
            have H := HA.out
            clear HA
            simp only [linotypelaw01_FieldFits.j1] at H
            by_cases c42 : x94_18 = true
            · subst c42
              have H1 : (some false) = some r := by rw [if_pos rfl] at H; exact H
              clear H
              have H := H1
              clear H1
              obtain rfl := Option.some.inj H
              go_wp2
              go_ret
              exact ⟨by first | rfl | (simp [errW_none, errW_some] <;> rfl) | (simp [*, errW_none, errW_some] <;> rfl), by repeat (first | (with_reducible first | exact HB.out | apply below_alloc | apply pw_below_drewN | apply below_drew1) | exact HB.out)⟩
            · replace c42 := Bool.eq_false_iff.mpr c42
              subst c42
              have H1 : (if a1 < 63 then (if t142 = t143 then ((field_Sign.f t142 a1).bind fun t153 => (if t153 = t142 then ((field_Low.f t143 a1).bind fun t154 => (linotypelaw01_FieldFits.j2 kj18 a0 a1 a2 t137 (t154 != t143))) else (linotypelaw01_FieldFits.j2 kj18 a0 a1 a2 t137 true))) else (if 0 ≤ a1 then (if (wrap64 (t143 - t142)) = (shl .i64 1 a1) then ((field_Sign.f t142 a1).bind fun t155 => (if t155 = t142 then ((field_Low.f t143 a1).bind fun t156 => (linotypelaw01_FieldFits.j2 kj18 a0 a1 a2 t137 (t156 != t143))) else (linotypelaw01_FieldFits.j2 kj18 a0 a1 a2 t137 true))) else (linotypelaw01_FieldFits.j2 kj18 a0 a1 a2 t137 true)) else (none))) else ((field_Sign.f t142 a1).bind fun t157 => (if t157 = t142 then ((field_Low.f t143 a1).bind fun t158 => (linotypelaw01_FieldFits.j2 kj18 a0 a1 a2 t137 (t158 != t143))) else (linotypelaw01_FieldFits.j2 kj18 a0 a1 a2 t137 true)))) = some r := by rw [if_neg (show ¬ (false = true) by decide)] at H; exact H
              clear H
              have H := H1
              clear H1
              have HC43 := Aside0.mk H
              clear H
              go_upto_region 7 with (fail)
              go_cut [123] (fun v123 wc => ∃ (kq : Nat) (x123_42 : Bool), v123 = .bool x123_42 ∧ Aside0 (linotypelaw01_FieldFits.j2 kq a0 a1 a2 t137 x123_42 = some r) ∧ Aside0 (kq ≤ kj18) ∧ Aside0 (Below w.heap.size w wc))
              case first => as_aux_lemma =>
                have H := HC43.out
                clear HC43
                by_cases c44 : a1 < 63
                · rw [if_pos c44] at H
                  have c44b0 : decide (a1 < 63) = true := decide_eq_true c44
                  clear c44
                  (first | rw [c44b0] | (simp only [i64_w, i32_w]; rw [c44b0]) | skip)
                  by_cases c45 : t142 = t143
                  · rw [if_pos c45] at H
                    have c45b0 : (t142 == t143) = true := beq_iff_eq.mpr c45
                    have c45b1 : (t142 != t143) = false := bne_eq_false_iff_eq.mpr c45
                    clear c45
                    replace H := Option.bind_eq_some_iff.mp H
                    obtain ⟨t153, A460, H⟩ := H
                    replace H : (if t153 = t142 then ((field_Low.f t143 a1).bind fun t154 => (linotypelaw01_FieldFits.j2 kj18 a0 a1 a2 t137 (t154 != t143))) else (linotypelaw01_FieldFits.j2 kj18 a0 a1 a2 t137 true)) = some r := H
                    have A46 := Aside0.mk A460
                    clear A460
                    by_cases c47 : t153 = t142
                    · rw [if_pos c47] at H
                      have c47b0 : (t153 == t142) = true := beq_iff_eq.mpr c47
                      have c47b1 : (t153 != t142) = false := bne_eq_false_iff_eq.mpr c47
                      clear c47
                      replace H := Option.bind_eq_some_iff.mp H
                      obtain ⟨t154, A480, H⟩ := H
                      replace H : (linotypelaw01_FieldFits.j2 kj18 a0 a1 a2 t137 (t154 != t143)) = some r := H
                      have A48 := Aside0.mk A480
                      clear A480
                      have H' := Aside0.mk H
                      clear H
                      go_wp2_with (first | (go_at_call 25; (with_reducible refine (field_Sign.calls t142 a1 t153 _ A46.out).mono ?_); rintro e w' ⟨rfl, ⟨nd, rfl⟩⟩) | (go_at_call 27; (with_reducible refine (field_Low.calls t143 a1 t154 _ A48.out).mono ?_); rintro e w' ⟨rfl, ⟨nd, rfl⟩⟩))
                      go_meet
                      case rel => exact ⟨_, ((t154 != t143)), (by first | rfl | (simp; done) | (simp [*]; done)), H', ⟨by have := HJ4.out; have := HJ18.out; first | omega | exact Nat.le_refl _⟩, ⟨by repeat (first | (with_reducible first | exact HB.out | apply below_alloc | apply pw_below_drewN | apply below_drew1) | exact HB.out)⟩⟩
                    · rw [if_neg c47] at H
                      have c47b0 : (t153 == t142) = false := beq_eq_false_iff_ne.mpr c47
                      have c47b1 : (t153 != t142) = true := bne_iff_ne.mpr c47
                      have H' := Aside0.mk H
                      clear H
                      go_wp2_with (first | (go_at_call 25; (with_reducible refine (field_Sign.calls t142 a1 t153 _ A46.out).mono ?_); rintro e w' ⟨rfl, ⟨nd, rfl⟩⟩))
                      go_meet
                      case rel => exact ⟨_, (true), (by first | rfl | (simp; done) | (simp [*]; done)), H', ⟨by have := HJ4.out; have := HJ18.out; first | omega | exact Nat.le_refl _⟩, ⟨by repeat (first | (with_reducible first | exact HB.out | apply below_alloc | apply pw_below_drewN | apply below_drew1) | exact HB.out)⟩⟩
                  · rw [if_neg c45] at H
                    have c45b0 : (t142 == t143) = false := beq_eq_false_iff_ne.mpr c45
                    have c45b1 : (t142 != t143) = true := bne_iff_ne.mpr c45
                    by_cases c49 : 0 ≤ a1
                    · rw [if_pos c49] at H
                      have c49b0 := eq_true c49
                      have c49b1 : decide (0 ≤ a1) = true := decide_eq_true c49
                      clear c49
                      obtain ⟨ji50, hji50⟩ : ∃ j_ : Int, (shl .i64 1 a1) = j_ := ⟨_, rfl⟩
                      replace H : (if (wrap64 (t143 - t142)) = (ji50) then ((field_Sign.f t142 a1).bind fun t155 => (if t155 = t142 then ((field_Low.f t143 a1).bind fun t156 => (linotypelaw01_FieldFits.j2 kj18 a0 a1 a2 t137 (t156 != t143))) else (linotypelaw01_FieldFits.j2 kj18 a0 a1 a2 t137 true))) else (linotypelaw01_FieldFits.j2 kj18 a0 a1 a2 t137 true)) = some r := by first | (rw [hji50] at H; exact H) | (simp only [hji50] at H ⊢; exact H)
                      have hji50_ : (IntKind.i64.wrap (1 * 2 ^ min a1.toNat 64)) = ji50 := hji50
                      have hji50z : a1 ≤ 64 → (IntKind.i64.wrap (1 * 2 ^ a1.toNat)) = ji50 := shl_small hji50
                      have hji50u : (IntKind.i64.wrap (2 ^ min a1.toNat 64)) = ji50 := by have h_ := hji50_; rw [Int.one_mul] at h_; exact h_
                      have hji50v : a1 ≤ 64 → (IntKind.i64.wrap (2 ^ a1.toNat)) = ji50 := fun hle_ => by have h_ := hji50z hle_; rw [Int.one_mul] at h_; exact h_
                      have hji50y : (wrap64 (1 * 2 ^ min a1.toNat 64)) = ji50 := (i64_w _).symm.trans hji50_
                      have hji50x : a1 ≤ 64 → (wrap64 (1 * 2 ^ a1.toNat)) = ji50 := fun h_ => (i64_w _).symm.trans (hji50z h_)
                      by_cases c51 : (wrap64 (t143 - t142)) = (ji50)
                      · rw [if_pos c51] at H
                        have c51b0 : ((wrap64 (t143 - t142)) == (ji50)) = true := beq_iff_eq.mpr c51
                        have c51b1 : ((wrap64 (t143 - t142)) != (ji50)) = false := bne_eq_false_iff_eq.mpr c51
                        clear c51
                        replace H := Option.bind_eq_some_iff.mp H
                        obtain ⟨t155, A520, H⟩ := H
                        replace H : (if t155 = t142 then ((field_Low.f t143 a1).bind fun t156 => (linotypelaw01_FieldFits.j2 kj18 a0 a1 a2 t137 (t156 != t143))) else (linotypelaw01_FieldFits.j2 kj18 a0 a1 a2 t137 true)) = some r := H
                        have A52 := Aside0.mk A520
                        clear A520
                        by_cases c53 : t155 = t142
                        · rw [if_pos c53] at H
                          have c53b0 : (t155 == t142) = true := beq_iff_eq.mpr c53
                          have c53b1 : (t155 != t142) = false := bne_eq_false_iff_eq.mpr c53
                          clear c53
                          replace H := Option.bind_eq_some_iff.mp H
                          obtain ⟨t156, A540, H⟩ := H
                          replace H : (linotypelaw01_FieldFits.j2 kj18 a0 a1 a2 t137 (t156 != t143)) = some r := H
                          have A54 := Aside0.mk A540
                          clear A540
                          have H' := Aside0.mk H
                          clear H
                          go_wp2_with (first | (go_at_call 25; (with_reducible refine (field_Sign.calls t142 a1 t155 _ A52.out).mono ?_); rintro e w' ⟨rfl, ⟨nd, rfl⟩⟩) | (go_at_call 27; (with_reducible refine (field_Low.calls t143 a1 t156 _ A54.out).mono ?_); rintro e w' ⟨rfl, ⟨nd, rfl⟩⟩))
                          go_meet
                          case rel => exact ⟨_, ((t156 != t143)), (by first | rfl | (simp; done) | (simp [*]; done)), H', ⟨by have := HJ4.out; have := HJ18.out; first | omega | exact Nat.le_refl _⟩, ⟨by repeat (first | (with_reducible first | exact HB.out | apply below_alloc | apply pw_below_drewN | apply below_drew1) | exact HB.out)⟩⟩
                        · rw [if_neg c53] at H
                          have c53b0 : (t155 == t142) = false := beq_eq_false_iff_ne.mpr c53
                          have c53b1 : (t155 != t142) = true := bne_iff_ne.mpr c53
                          have H' := Aside0.mk H
                          clear H
                          go_wp2_with (first | (go_at_call 25; (with_reducible refine (field_Sign.calls t142 a1 t155 _ A52.out).mono ?_); rintro e w' ⟨rfl, ⟨nd, rfl⟩⟩))
                          go_meet
                          case rel => exact ⟨_, (true), (by first | rfl | (simp; done) | (simp [*]; done)), H', ⟨by have := HJ4.out; have := HJ18.out; first | omega | exact Nat.le_refl _⟩, ⟨by repeat (first | (with_reducible first | exact HB.out | apply below_alloc | apply pw_below_drewN | apply below_drew1) | exact HB.out)⟩⟩
                      · rw [if_neg c51] at H
                        have c51b0 : ((wrap64 (t143 - t142)) == (ji50)) = false := beq_eq_false_iff_ne.mpr c51
                        have c51b1 : ((wrap64 (t143 - t142)) != (ji50)) = true := bne_iff_ne.mpr c51
                        have H' := Aside0.mk H
                        clear H
                        go_wp2
                        go_meet
                        case rel => exact ⟨_, (true), (by first | rfl | (simp; done) | (simp [*]; done)), H', ⟨by have := HJ4.out; have := HJ18.out; first | omega | exact Nat.le_refl _⟩, ⟨by repeat (first | (with_reducible first | exact HB.out | apply below_alloc | apply pw_below_drewN | apply below_drew1) | exact HB.out)⟩⟩
                    · rw [if_neg c49] at H
                      exact absurd H (by simp)
                · rw [if_neg c44] at H
                  have c44b0 : decide (a1 < 63) = false := decide_eq_false c44
                  clear c44
                  (first | rw [c44b0] | (simp only [i64_w, i32_w]; rw [c44b0]) | skip)
                  replace H := Option.bind_eq_some_iff.mp H
                  obtain ⟨t157, A550, H⟩ := H
                  replace H : (if t157 = t142 then ((field_Low.f t143 a1).bind fun t158 => (linotypelaw01_FieldFits.j2 kj18 a0 a1 a2 t137 (t158 != t143))) else (linotypelaw01_FieldFits.j2 kj18 a0 a1 a2 t137 true)) = some r := H
                  have A55 := Aside0.mk A550
                  clear A550
                  by_cases c56 : t157 = t142
                  · rw [if_pos c56] at H
                    have c56b0 : (t157 == t142) = true := beq_iff_eq.mpr c56
                    have c56b1 : (t157 != t142) = false := bne_eq_false_iff_eq.mpr c56
                    clear c56
                    replace H := Option.bind_eq_some_iff.mp H
                    obtain ⟨t158, A570, H⟩ := H
                    replace H : (linotypelaw01_FieldFits.j2 kj18 a0 a1 a2 t137 (t158 != t143)) = some r := H
                    have A57 := Aside0.mk A570
                    clear A570
                    have H' := Aside0.mk H
                    clear H
                    go_wp2_with (first | (go_at_call 25; (with_reducible refine (field_Sign.calls t142 a1 t157 _ A55.out).mono ?_); rintro e w' ⟨rfl, ⟨nd, rfl⟩⟩) | (go_at_call 27; (with_reducible refine (field_Low.calls t143 a1 t158 _ A57.out).mono ?_); rintro e w' ⟨rfl, ⟨nd, rfl⟩⟩))
                    go_meet
                    case rel => exact ⟨_, ((t158 != t143)), (by first | rfl | (simp; done) | (simp [*]; done)), H', ⟨by have := HJ4.out; have := HJ18.out; first | omega | exact Nat.le_refl _⟩, ⟨by repeat (first | (with_reducible first | exact HB.out | apply below_alloc | apply pw_below_drewN | apply below_drew1) | exact HB.out)⟩⟩
                  · rw [if_neg c56] at H
                    have c56b0 : (t157 == t142) = false := beq_eq_false_iff_ne.mpr c56
                    have c56b1 : (t157 != t142) = true := bne_iff_ne.mpr c56
                    have H' := Aside0.mk H
                    clear H
                    go_wp2_with (first | (go_at_call 25; (with_reducible refine (field_Sign.calls t142 a1 t157 _ A55.out).mono ?_); rintro e w' ⟨rfl, ⟨nd, rfl⟩⟩))
                    go_meet
                    case rel => exact ⟨_, (true), (by first | rfl | (simp; done) | (simp [*]; done)), H', ⟨by have := HJ4.out; have := HJ18.out; first | omega | exact Nat.le_refl _⟩, ⟨by repeat (first | (with_reducible first | exact HB.out | apply below_alloc | apply pw_below_drewN | apply below_drew1) | exact HB.out)⟩⟩
              case rest => as_aux_lemma =>
                clear HC43
                try clear c1
                try clear c2
                try clear p2
                try clear c3
                try clear c4
                try clear c5
                try clear p6
                try clear c7
                try clear c7b0
                try clear c8
                try clear c9
                try clear c11
                try clear c13
                try clear c15
                try clear c15b0
                try clear c15b1
                try clear c21
                try clear c21b0
                try clear c21b1
                try clear c21b2
                try clear c23
                try clear c25
                try clear c27
                try clear c28
                try clear c28b0
                try clear c29
                try clear c29b0
                try clear c31
                try clear c31b0
                try clear c31b1
                try clear c33
                try clear c33b0
                try clear c33b1
                try clear c35
                try clear c36
                try clear c36b0
                try clear c37
                try clear c37b0
                try clear c39
                try clear c39b0
                try clear c39b1
                try clear c41
                try clear c41b0
                try clear c41b1
                try clear c42
                try clear c44
                try clear c44b0
                try clear c45
                try clear c45b0
                try clear c45b1
                try clear c47
                try clear c47b0
                try clear c47b1
                try clear c49
                try clear c49b0
                try clear c49b1
                try clear c51
                try clear c51b0
                try clear c51b1
                try clear c53
                try clear c53b0
                try clear c53b1
                try clear c56
                try clear c56b0
                try clear c56b1
                try clear p2
                obtain ⟨kq, x123_42, rfl, HA, HJ42, HB⟩ := hcut
                cases kq with
                | zero => exact absurd HA.out (by simp [linotypelaw01_FieldFits.j2])
                | succ kj42 =>
                  have H := HA.out
                  clear HA
                  simp only [linotypelaw01_FieldFits.j2] at H
                  by_cases c58 : x123_42 = true
                  · subst c58
                    have H1 : (some false) = some r := by rw [if_pos rfl] at H; exact H
                    clear H
                    have H := H1
                    clear H1
                    obtain rfl := Option.some.inj H
                    go_wp2
                    go_ret
                    exact ⟨by first | rfl | (simp [errW_none, errW_some] <;> rfl) | (simp [*, errW_none, errW_some] <;> rfl), by repeat (first | (with_reducible first | exact HB.out | apply below_alloc | apply pw_below_drewN | apply below_drew1) | exact HB.out)⟩
                  · replace c58 := Bool.eq_false_iff.mpr c58
                    subst c58
                    have H1 : ((linotypekit_Pick.f a2 64).bind fun t159 => (if t137 = true then ((field_Fits.f a0 a1).bind fun t160 => (if t160 = true then ((field_Fits.f a0 (mn (wrap64 (a1 + t159)) 64)).bind fun t161 => (if t161 = true then ((field_Wide.f a0 a1).bind fun t162 => (if t162 = true then ((field_Wide.f a0 (mn (wrap64 (a1 + t159)) 64)).bind fun t163 => (some t163)) else (some true))) else (some false))) else ((field_Wide.f a0 a1).bind fun t164 => (if t164 = true then ((field_Wide.f a0 (mn (wrap64 (a1 + t159)) 64)).bind fun t165 => (some t165)) else (some true))))) else (some false))) = some r := by rw [if_neg (show ¬ (false = true) by decide)] at H; exact H
                    clear H
                    have H := H1
                    clear H1
                    replace H := Option.bind_eq_some_iff.mp H
                    obtain ⟨t159, A590, H⟩ := H
                    replace H : (if t137 = true then ((field_Fits.f a0 a1).bind fun t160 => (if t160 = true then ((field_Fits.f a0 (mn (wrap64 (a1 + t159)) 64)).bind fun t161 => (if t161 = true then ((field_Wide.f a0 a1).bind fun t162 => (if t162 = true then ((field_Wide.f a0 (mn (wrap64 (a1 + t159)) 64)).bind fun t163 => (some t163)) else (some true))) else (some false))) else ((field_Wide.f a0 a1).bind fun t164 => (if t164 = true then ((field_Wide.f a0 (mn (wrap64 (a1 + t159)) 64)).bind fun t165 => (some t165)) else (some true))))) else (some false)) = some r := H
                    have A59 := Aside0.mk A590
                    clear A590
                    obtain ⟨ji60, hji60⟩ : ∃ j_ : Int, (mn (wrap64 (a1 + t159)) 64) = j_ := ⟨_, rfl⟩
                    replace H : (if t137 = true then ((field_Fits.f a0 a1).bind fun t160 => (if t160 = true then ((field_Fits.f a0 (ji60)).bind fun t161 => (if t161 = true then ((field_Wide.f a0 a1).bind fun t162 => (if t162 = true then ((field_Wide.f a0 (ji60)).bind fun t163 => (some t163)) else (some true))) else (some false))) else ((field_Wide.f a0 a1).bind fun t164 => (if t164 = true then ((field_Wide.f a0 (ji60)).bind fun t165 => (some t165)) else (some true))))) else (some false)) = some r := by first | (rw [hji60] at H; exact H) | (simp only [hji60] at H ⊢; exact H)
                    (try rw [hji60] at A59)
                    have hji60_ : (if 64 < (wrap64 (a1 + t159)) then 64 else (wrap64 (a1 + t159))) = ji60 := hji60
                    by_cases c61 : t137 = true
                    · subst c61
                      have H1 : ((field_Fits.f a0 a1).bind fun t160 => (if t160 = true then ((field_Fits.f a0 (ji60)).bind fun t161 => (if t161 = true then ((field_Wide.f a0 a1).bind fun t162 => (if t162 = true then ((field_Wide.f a0 (ji60)).bind fun t163 => (some t163)) else (some true))) else (some false))) else ((field_Wide.f a0 a1).bind fun t164 => (if t164 = true then ((field_Wide.f a0 (ji60)).bind fun t165 => (some t165)) else (some true))))) = some r := by rw [if_pos rfl] at H; exact H
                      clear H
                      have H := H1
                      clear H1
                      replace H := Option.bind_eq_some_iff.mp H
                      obtain ⟨t160, A620, H⟩ := H
                      replace H : (if t160 = true then ((field_Fits.f a0 (ji60)).bind fun t161 => (if t161 = true then ((field_Wide.f a0 a1).bind fun t162 => (if t162 = true then ((field_Wide.f a0 (ji60)).bind fun t163 => (some t163)) else (some true))) else (some false))) else ((field_Wide.f a0 a1).bind fun t164 => (if t164 = true then ((field_Wide.f a0 (ji60)).bind fun t165 => (some t165)) else (some true)))) = some r := H
                      have A62 := Aside0.mk A620
                      clear A620
                      by_cases c63 : t160 = true
                      · subst c63
                        have H1 : ((field_Fits.f a0 (ji60)).bind fun t161 => (if t161 = true then ((field_Wide.f a0 a1).bind fun t162 => (if t162 = true then ((field_Wide.f a0 (ji60)).bind fun t163 => (some t163)) else (some true))) else (some false))) = some r := by rw [if_pos rfl] at H; exact H
                        clear H
                        have H := H1
                        clear H1
                        replace H := Option.bind_eq_some_iff.mp H
                        obtain ⟨t161, A640, H⟩ := H
                        replace H : (if t161 = true then ((field_Wide.f a0 a1).bind fun t162 => (if t162 = true then ((field_Wide.f a0 (ji60)).bind fun t163 => (some t163)) else (some true))) else (some false)) = some r := H
                        have A64 := Aside0.mk A640
                        clear A640
                        by_cases c65 : t161 = true
                        · subst c65
                          have H1 : ((field_Wide.f a0 a1).bind fun t162 => (if t162 = true then ((field_Wide.f a0 (ji60)).bind fun t163 => (some t163)) else (some true))) = some r := by rw [if_pos rfl] at H; exact H
                          clear H
                          have H := H1
                          clear H1
                          replace H := Option.bind_eq_some_iff.mp H
                          obtain ⟨t162, A660, H⟩ := H
                          replace H : (if t162 = true then ((field_Wide.f a0 (ji60)).bind fun t163 => (some t163)) else (some true)) = some r := H
                          have A66 := Aside0.mk A660
                          clear A660
                          by_cases c67 : t162 = true
                          · subst c67
                            have H1 : ((field_Wide.f a0 (ji60)).bind fun t163 => (some t163)) = some r := by rw [if_pos rfl] at H; exact H
                            clear H
                            have H := H1
                            clear H1
                            replace H := Option.bind_eq_some_iff.mp H
                            obtain ⟨t163, A680, H⟩ := H
                            replace H : (some t163) = some r := H
                            have A68 := Aside0.mk A680
                            clear A680
                            obtain rfl := Option.some.inj H
                            go_wp2_with (first | ((with_reducible refine gate_callee (f := 30) rfl ?_); refine goesL_ (some 126) rfl rfl Try.func30 (by kernel_rfl) rfl #[.int .i64 a2, .int .i64 64] rfl (by (try simp only [List.map_toArray, List.map_cons, List.map_nil]); first | done | rfl | (simp only [List.length_drop, List.length_take]; rfl)) ?_; (with_reducible refine (linotypekit_Pick.calls a2 64 t159 _ A59.out).mono ?_); rintro e w' ⟨rfl, ⟨nd, rfl⟩⟩; refine ⟨_, rfl, ?_⟩) | (go_at_call 21; (with_reducible refine (field_Fits.calls a0 a1 true _ A62.out).mono ?_); rintro e w' ⟨rfl, ⟨nd, rfl⟩⟩) | (go_at_call 21; (with_reducible refine (field_Fits.calls a0 ji60 true _ A64.out).mono ?_); rintro e w' ⟨rfl, ⟨nd, rfl⟩⟩) | (go_at_call 23; (with_reducible refine (field_Wide.calls a0 a1 true _ A66.out).mono ?_); rintro e w' ⟨rfl, ⟨nd, rfl⟩⟩) | (go_at_call 23; (with_reducible refine (field_Wide.calls a0 ji60 t163 _ A68.out).mono ?_); rintro e w' ⟨rfl, ⟨nd, rfl⟩⟩))
                            go_ret
                            exact ⟨by first | rfl | (simp [errW_none, errW_some] <;> rfl) | (simp only [← hji60]; first | rfl | (simp [errW_none, errW_some] <;> rfl)) | (simp [*, errW_none, errW_some] <;> rfl), by repeat (first | (with_reducible first | exact HB.out | apply below_alloc | apply pw_below_drewN | apply below_drew1) | exact HB.out)⟩
                          · replace c67 := Bool.eq_false_iff.mpr c67
                            subst c67
                            have H1 : (some true) = some r := by rw [if_neg (show ¬ (false = true) by decide)] at H; exact H
                            clear H
                            have H := H1
                            clear H1
                            obtain rfl := Option.some.inj H
                            go_wp2_with (first | ((with_reducible refine gate_callee (f := 30) rfl ?_); refine goesL_ (some 126) rfl rfl Try.func30 (by kernel_rfl) rfl #[.int .i64 a2, .int .i64 64] rfl (by (try simp only [List.map_toArray, List.map_cons, List.map_nil]); first | done | rfl | (simp only [List.length_drop, List.length_take]; rfl)) ?_; (with_reducible refine (linotypekit_Pick.calls a2 64 t159 _ A59.out).mono ?_); rintro e w' ⟨rfl, ⟨nd, rfl⟩⟩; refine ⟨_, rfl, ?_⟩) | (go_at_call 21; (with_reducible refine (field_Fits.calls a0 a1 true _ A62.out).mono ?_); rintro e w' ⟨rfl, ⟨nd, rfl⟩⟩) | (go_at_call 21; (with_reducible refine (field_Fits.calls a0 ji60 true _ A64.out).mono ?_); rintro e w' ⟨rfl, ⟨nd, rfl⟩⟩) | (go_at_call 23; (with_reducible refine (field_Wide.calls a0 a1 false _ A66.out).mono ?_); rintro e w' ⟨rfl, ⟨nd, rfl⟩⟩))
                            go_ret
                            exact ⟨by first | rfl | (simp [errW_none, errW_some] <;> rfl) | (simp only [← hji60]; first | rfl | (simp [errW_none, errW_some] <;> rfl)) | (simp [*, errW_none, errW_some] <;> rfl), by repeat (first | (with_reducible first | exact HB.out | apply below_alloc | apply pw_below_drewN | apply below_drew1) | exact HB.out)⟩
                        · replace c65 := Bool.eq_false_iff.mpr c65
                          subst c65
                          have H1 : (some false) = some r := by rw [if_neg (show ¬ (false = true) by decide)] at H; exact H
                          clear H
                          have H := H1
                          clear H1
                          obtain rfl := Option.some.inj H
                          go_wp2_with (first | ((with_reducible refine gate_callee (f := 30) rfl ?_); refine goesL_ (some 126) rfl rfl Try.func30 (by kernel_rfl) rfl #[.int .i64 a2, .int .i64 64] rfl (by (try simp only [List.map_toArray, List.map_cons, List.map_nil]); first | done | rfl | (simp only [List.length_drop, List.length_take]; rfl)) ?_; (with_reducible refine (linotypekit_Pick.calls a2 64 t159 _ A59.out).mono ?_); rintro e w' ⟨rfl, ⟨nd, rfl⟩⟩; refine ⟨_, rfl, ?_⟩) | (go_at_call 21; (with_reducible refine (field_Fits.calls a0 a1 true _ A62.out).mono ?_); rintro e w' ⟨rfl, ⟨nd, rfl⟩⟩) | (go_at_call 21; (with_reducible refine (field_Fits.calls a0 ji60 false _ A64.out).mono ?_); rintro e w' ⟨rfl, ⟨nd, rfl⟩⟩))
                          go_ret
                          exact ⟨by first | rfl | (simp [errW_none, errW_some] <;> rfl) | (simp only [← hji60]; first | rfl | (simp [errW_none, errW_some] <;> rfl)) | (simp [*, errW_none, errW_some] <;> rfl), by repeat (first | (with_reducible first | exact HB.out | apply below_alloc | apply pw_below_drewN | apply below_drew1) | exact HB.out)⟩
                      · replace c63 := Bool.eq_false_iff.mpr c63
                        subst c63
                        have H1 : ((field_Wide.f a0 a1).bind fun t164 => (if t164 = true then ((field_Wide.f a0 (ji60)).bind fun t165 => (some t165)) else (some true))) = some r := by rw [if_neg (show ¬ (false = true) by decide)] at H; exact H
                        clear H
                        have H := H1
                        clear H1
                        replace H := Option.bind_eq_some_iff.mp H
                        obtain ⟨t164, A690, H⟩ := H
                        replace H : (if t164 = true then ((field_Wide.f a0 (ji60)).bind fun t165 => (some t165)) else (some true)) = some r := H
                        have A69 := Aside0.mk A690
                        clear A690
                        by_cases c70 : t164 = true
                        · subst c70
                          have H1 : ((field_Wide.f a0 (ji60)).bind fun t165 => (some t165)) = some r := by rw [if_pos rfl] at H; exact H
                          clear H
                          have H := H1
                          clear H1
                          replace H := Option.bind_eq_some_iff.mp H
                          obtain ⟨t165, A710, H⟩ := H
                          replace H : (some t165) = some r := H
                          have A71 := Aside0.mk A710
                          clear A710
                          obtain rfl := Option.some.inj H
                          go_wp2_with (first | ((with_reducible refine gate_callee (f := 30) rfl ?_); refine goesL_ (some 126) rfl rfl Try.func30 (by kernel_rfl) rfl #[.int .i64 a2, .int .i64 64] rfl (by (try simp only [List.map_toArray, List.map_cons, List.map_nil]); first | done | rfl | (simp only [List.length_drop, List.length_take]; rfl)) ?_; (with_reducible refine (linotypekit_Pick.calls a2 64 t159 _ A59.out).mono ?_); rintro e w' ⟨rfl, ⟨nd, rfl⟩⟩; refine ⟨_, rfl, ?_⟩) | (go_at_call 21; (with_reducible refine (field_Fits.calls a0 a1 false _ A62.out).mono ?_); rintro e w' ⟨rfl, ⟨nd, rfl⟩⟩) | (go_at_call 23; (with_reducible refine (field_Wide.calls a0 a1 true _ A69.out).mono ?_); rintro e w' ⟨rfl, ⟨nd, rfl⟩⟩) | (go_at_call 23; (with_reducible refine (field_Wide.calls a0 ji60 t165 _ A71.out).mono ?_); rintro e w' ⟨rfl, ⟨nd, rfl⟩⟩))
                          go_ret
                          exact ⟨by first | rfl | (simp [errW_none, errW_some] <;> rfl) | (simp only [← hji60]; first | rfl | (simp [errW_none, errW_some] <;> rfl)) | (simp [*, errW_none, errW_some] <;> rfl), by repeat (first | (with_reducible first | exact HB.out | apply below_alloc | apply pw_below_drewN | apply below_drew1) | exact HB.out)⟩
                        · replace c70 := Bool.eq_false_iff.mpr c70
                          subst c70
                          have H1 : (some true) = some r := by rw [if_neg (show ¬ (false = true) by decide)] at H; exact H
                          clear H
                          have H := H1
                          clear H1
                          obtain rfl := Option.some.inj H
                          go_wp2_with (first | ((with_reducible refine gate_callee (f := 30) rfl ?_); refine goesL_ (some 126) rfl rfl Try.func30 (by kernel_rfl) rfl #[.int .i64 a2, .int .i64 64] rfl (by (try simp only [List.map_toArray, List.map_cons, List.map_nil]); first | done | rfl | (simp only [List.length_drop, List.length_take]; rfl)) ?_; (with_reducible refine (linotypekit_Pick.calls a2 64 t159 _ A59.out).mono ?_); rintro e w' ⟨rfl, ⟨nd, rfl⟩⟩; refine ⟨_, rfl, ?_⟩) | (go_at_call 21; (with_reducible refine (field_Fits.calls a0 a1 false _ A62.out).mono ?_); rintro e w' ⟨rfl, ⟨nd, rfl⟩⟩) | (go_at_call 23; (with_reducible refine (field_Wide.calls a0 a1 false _ A69.out).mono ?_); rintro e w' ⟨rfl, ⟨nd, rfl⟩⟩))
                          go_ret
                          exact ⟨by first | rfl | (simp [errW_none, errW_some] <;> rfl) | (simp only [← hji60]; first | rfl | (simp [errW_none, errW_some] <;> rfl)) | (simp [*, errW_none, errW_some] <;> rfl), by repeat (first | (with_reducible first | exact HB.out | apply below_alloc | apply pw_below_drewN | apply below_drew1) | exact HB.out)⟩
                    · replace c61 := Bool.eq_false_iff.mpr c61
                      subst c61
                      have H1 : (some false) = some r := by rw [if_neg (show ¬ (false = true) by decide)] at H; exact H
                      clear H
                      have H := H1
                      clear H1
                      obtain rfl := Option.some.inj H
                      go_wp2_with (first | ((with_reducible refine gate_callee (f := 30) rfl ?_); refine goesL_ (some 126) rfl rfl Try.func30 (by kernel_rfl) rfl #[.int .i64 a2, .int .i64 64] rfl (by (try simp only [List.map_toArray, List.map_cons, List.map_nil]); first | done | rfl | (simp only [List.length_drop, List.length_take]; rfl)) ?_; (with_reducible refine (linotypekit_Pick.calls a2 64 t159 _ A59.out).mono ?_); rintro e w' ⟨rfl, ⟨nd, rfl⟩⟩; refine ⟨_, rfl, ?_⟩))
                      go_ret
                      exact ⟨by first | rfl | (simp [errW_none, errW_some] <;> rfl) | (simp only [← hji60]; first | rfl | (simp [errW_none, errW_some] <;> rfl)) | (simp [*, errW_none, errW_some] <;> rfl), by repeat (first | (with_reducible first | exact HB.out | apply below_alloc | apply pw_below_drewN | apply below_drew1) | exact HB.out)⟩

/-- THE ONE PURE STATEMENT of linotypelaw01_FieldFits: yours. -/
def linotypelaw01_FieldFits.Pure : Prop := ∀ (a0 : Int) (a1 : Int) (a2 : Int), (Lit.int .i64 a0).wf = true → (Lit.int .i64 a1).wf = true → (Lit.int .i64 a2).wf = true → ∃ k, linotypelaw01_FieldFits.f k a0 a1 a2 = some true
theorem linotypelaw01_FieldFits.walk (P : linotypelaw01_FieldFits.Pure) (a0 : Int) (a1 : Int) (a2 : Int) (w : World) (w0 : (Lit.int .i64 a0).wf = true) (w1 : (Lit.int .i64 a1).wf = true) (w2 : (Lit.int .i64 a2).wf = true) :
    Calls Try.prog 5 #[.int .i64 a0, .int .i64 a1, .int .i64 a2] w fun e w' => e = .returned (.bool true) ∧ Below w.heap.size w w' := by
  obtain ⟨k, h⟩ := P a0 a1 a2 w0 w1 w2
  refine (linotypelaw01_FieldFits.calls k a0 a1 a2 true w h).mono ?_
  rintro e w' ⟨rfl, hd⟩
  exact ⟨rfl, hd⟩

end Go.Proofs.Ytlmpecahmmgphaa.PFieldFits
