/- Laid by this seat's own program (wip/tools/printx.py) out of the translation: the functions that laws use (Ot), each with its contract. Condition: the library's table strings.asciiSpace holds what it was laid with. -/
import Derived.Test.YtceofdchbolidaaDoorXOtx0
import Derived.Test.YtceofdchbolidaaDoorXOtx2
import Derived.Test.YtceofdchbolidaaDoorXOtx3
import Derived.Test.YtceofdchbolidaaDoorXOtx7
namespace Go.Proofs.YtceofdchbolidaaDoor.XOt
open Go.RowKit Go.Proofs.YtceofdchbolidaaDoorW.PrintWords Go.Proofs.YtceofdchbolidaaDoorW.PrintLast Go.Proofs.YtceofdchbolidaaDoorW.PrintMore Go.Proofs.YtceofdchbolidaaDoor.Hand
attribute [local go_sem] max2_int min2_int max_two min_two max_three min_three max_four min_four   -- for this text's walks alone
set_option linter.unusedVariables false
set_option linter.unusedSimpArgs false

attribute [local go_sem high] eqA46
/-! ### linotypelaw06_awake: function 29 -/
def linotypelaw06_awake.f (k : Nat)  : Option (Bool) := (linotypelaw06_eax.f 7).bind fun bt145 => ((operand_Canon.f k bt145.1 bt145.2.1 bt145.2.2.1 bt145.2.2.2.1 bt145.2.2.2.2.1 bt145.2.2.2.2.2.1 bt145.2.2.2.2.2.2.1 bt145.2.2.2.2.2.2.2.1 bt145.2.2.2.2.2.2.2.2.1 bt145.2.2.2.2.2.2.2.2.2.1 bt145.2.2.2.2.2.2.2.2.2.2).bind fun bt156 => ((linotypelaw06_eax.f 0).bind fun bt169 => (if (bt156.1 == bt169.1 && ((bt156.2.1 == bt169.2.1 && (bt156.2.2.1 == bt169.2.2.1)) && (((bt156.2.2.2.1 == bt169.2.2.2.1 && (bt156.2.2.2.2.1 == bt169.2.2.2.2.1)) && ((bt156.2.2.2.2.2.1 == bt169.2.2.2.2.2.1 && (bt156.2.2.2.2.2.2.1 == bt169.2.2.2.2.2.2.1)) && (bt156.2.2.2.2.2.2.2.1 == bt169.2.2.2.2.2.2.2.1 && (bt156.2.2.2.2.2.2.2.2.1 == bt169.2.2.2.2.2.2.2.2.1 && (bt156.2.2.2.2.2.2.2.2.2.1 == bt169.2.2.2.2.2.2.2.2.2.1))))) && (bt156.2.2.2.2.2.2.2.2.2.2.1 == bt169.2.2.2.2.2.2.2.2.2.2)))) = true then (if bt156.2.2.2.2.2.2.2.2.2.2.2 = 0 then ((linotypelaw06_imm.f k 255 8 true (-1) 0).bind fun t180 => (if t180 = true then ((linotypelaw06_imm.f k (-1) 8 false 255 0).bind fun t181 => (if t181 = true then ((linotypelaw06_imm.f k 256 8 false 0 5).bind fun t182 => (some t182)) else (some false))) else (some false))) else (some false)) else (some false))))
theorem linotypelaw06_awake.mono : ∀ k, LeO (linotypelaw06_awake.f k ) (linotypelaw06_awake.f (k + 1) ) := by
 intro  k
 unfold linotypelaw06_awake.f
 repeat' first
   | (with_reducible exact linotypelaw06_imm.mono _ _ _ _ _ _)
   | (with_reducible exact operand_Canon.mono _ _ _ _ _ _ _ _ _ _ _ _)
   | (with_reducible exact LeO.refl _)
   | (with_reducible exact LeO.none _)
   | (with_reducible refine LeO.ite ?_ ?_)
   | (with_reducible refine LeO.bind ?_ (fun _ => ?_))
   | exact linotypelaw06_imm.mono _ _ _ _ _ _
   | exact operand_Canon.mono _ _ _ _ _ _ _ _ _ _ _ _
   | exact LeO.none _
   | refine LeO.ite ?_ ?_
   | refine LeO.bind ?_ (fun _ => ?_)
def linotypelaw06_awake.T2 : Bool × List (List Nat × List Nat) := (true, [([], []), ([], []), ([0, 1], [0, 1]), ([2, 1], [2]), ([3], [3]), ([4, 3], [3, 4]), ([3, 5], [3, 5]), ([6, 3], [6]), ([7, 7], [7]), ([7, 8], [7, 8]), ([9, 8], [9]), ([10, 10], [10]), ([10, 11], [10, 11]), ([12, 11], [12]), ([13, 13], [13]), ([13, 14], [13, 14]), ([15, 14, 0, 1, 2, 3, 4, 5, 6, 7, 8, 9, 10, 11, 12, 13, 14, 15], [15])])
def linotypelaw06_awake.B2 : List Nat := [0, 0, 3, 7, 15, 31, 63, 127, 255, 511, 1023, 2047, 4095, 8191, 16383, 32767, 65535]
theorem linotypelaw06_awake.tab2 : rtab .any (opsOf Tryd.f29 2) = linotypelaw06_awake.T2 := by kernel_rfl
theorem linotypelaw06_awake.bits2 : waitsOk linotypelaw06_awake.T2.2 linotypelaw06_awake.B2 = true := by kernel_rfl
set_option maxHeartbeats 8000000 in
set_option maxRecDepth 100000 in
theorem linotypelaw06_awake.calls (k : Nat)  (w : World) (h : linotypelaw06_awake.f k  = some true) (hG : G w) :
  Calls Tryd.prog 29 #[] w fun e w' => e = .returned (.bool true) ∧ Below w.heap.size w w' := by
 have HG := Lib.hid hG
 clear hG
 have hu46 := Tryd.underlying46
 have HB := Aside0.mk (Below.refl w.heap.size w)
 have H : ((linotypelaw06_eax.f 7).bind fun bt145 => ((operand_Canon.f k bt145.1 bt145.2.1 bt145.2.2.1 bt145.2.2.2.1 bt145.2.2.2.2.1 bt145.2.2.2.2.2.1 bt145.2.2.2.2.2.2.1 bt145.2.2.2.2.2.2.2.1 bt145.2.2.2.2.2.2.2.2.1 bt145.2.2.2.2.2.2.2.2.2.1 bt145.2.2.2.2.2.2.2.2.2.2).bind fun bt156 => ((linotypelaw06_eax.f 0).bind fun bt169 => (if (bt156.1 == bt169.1 && ((bt156.2.1 == bt169.2.1 && (bt156.2.2.1 == bt169.2.2.1)) && (((bt156.2.2.2.1 == bt169.2.2.2.1 && (bt156.2.2.2.2.1 == bt169.2.2.2.2.1)) && ((bt156.2.2.2.2.2.1 == bt169.2.2.2.2.2.1 && (bt156.2.2.2.2.2.2.1 == bt169.2.2.2.2.2.2.1)) && (bt156.2.2.2.2.2.2.2.1 == bt169.2.2.2.2.2.2.2.1 && (bt156.2.2.2.2.2.2.2.2.1 == bt169.2.2.2.2.2.2.2.2.1 && (bt156.2.2.2.2.2.2.2.2.2.1 == bt169.2.2.2.2.2.2.2.2.2.1))))) && (bt156.2.2.2.2.2.2.2.2.2.2.1 == bt169.2.2.2.2.2.2.2.2.2.2)))) = true then (if bt156.2.2.2.2.2.2.2.2.2.2.2 = 0 then ((linotypelaw06_imm.f k 255 8 true (-1) 0).bind fun t180 => (if t180 = true then ((linotypelaw06_imm.f k (-1) 8 false 255 0).bind fun t181 => (if t181 = true then ((linotypelaw06_imm.f k 256 8 false 0 5).bind fun t182 => (some t182)) else (some false))) else (some false))) else (some false)) else (some false))))) = some true := h
 clear h
 replace H := Option.bind_eq_some_iff.mp H
 obtain ⟨⟨t145, t146, t147, t148, t149, t150, t151, t152, t153, t154, t155⟩, A10, H⟩ := H
 replace H : ((operand_Canon.f k t145 t146 t147 t148 t149 t150 t151 t152 t153 t154 t155).bind fun bt156 => ((linotypelaw06_eax.f 0).bind fun bt169 => (if (bt156.1 == bt169.1 && ((bt156.2.1 == bt169.2.1 && (bt156.2.2.1 == bt169.2.2.1)) && (((bt156.2.2.2.1 == bt169.2.2.2.1 && (bt156.2.2.2.2.1 == bt169.2.2.2.2.1)) && ((bt156.2.2.2.2.2.1 == bt169.2.2.2.2.2.1 && (bt156.2.2.2.2.2.2.1 == bt169.2.2.2.2.2.2.1)) && (bt156.2.2.2.2.2.2.2.1 == bt169.2.2.2.2.2.2.2.1 && (bt156.2.2.2.2.2.2.2.2.1 == bt169.2.2.2.2.2.2.2.2.1 && (bt156.2.2.2.2.2.2.2.2.2.1 == bt169.2.2.2.2.2.2.2.2.2.1))))) && (bt156.2.2.2.2.2.2.2.2.2.2.1 == bt169.2.2.2.2.2.2.2.2.2.2)))) = true then (if bt156.2.2.2.2.2.2.2.2.2.2.2 = 0 then ((linotypelaw06_imm.f k 255 8 true (-1) 0).bind fun t180 => (if t180 = true then ((linotypelaw06_imm.f k (-1) 8 false 255 0).bind fun t181 => (if t181 = true then ((linotypelaw06_imm.f k 256 8 false 0 5).bind fun t182 => (some t182)) else (some false))) else (some false))) else (some false)) else (some false)))) = some true := H
 have A1 := Aside0.mk A10
 clear A10
 replace H := Option.bind_eq_some_iff.mp H
 obtain ⟨⟨t156, t157, t158, t159, t160, t161, t162, t163, t164, t165, t166, t167⟩, A20, H⟩ := H
 replace H : ((linotypelaw06_eax.f 0).bind fun bt169 => (if (t156 == bt169.1 && ((t157 == bt169.2.1 && (t158 == bt169.2.2.1)) && (((t159 == bt169.2.2.2.1 && (t160 == bt169.2.2.2.2.1)) && ((t161 == bt169.2.2.2.2.2.1 && (t162 == bt169.2.2.2.2.2.2.1)) && (t163 == bt169.2.2.2.2.2.2.2.1 && (t164 == bt169.2.2.2.2.2.2.2.2.1 && (t165 == bt169.2.2.2.2.2.2.2.2.2.1))))) && (t166 == bt169.2.2.2.2.2.2.2.2.2.2)))) = true then (if t167 = 0 then ((linotypelaw06_imm.f k 255 8 true (-1) 0).bind fun t180 => (if t180 = true then ((linotypelaw06_imm.f k (-1) 8 false 255 0).bind fun t181 => (if t181 = true then ((linotypelaw06_imm.f k 256 8 false 0 5).bind fun t182 => (some t182)) else (some false))) else (some false))) else (some false)) else (some false))) = some true := H
 have A2 := Aside0.mk A20
 clear A20
 replace H := Option.bind_eq_some_iff.mp H
 obtain ⟨⟨t169, t170, t171, t172, t173, t174, t175, t176, t177, t178, t179⟩, A30, H⟩ := H
 replace H : (if (t156 == t169 && ((t157 == t170 && (t158 == t171)) && (((t159 == t172 && (t160 == t173)) && ((t161 == t174 && (t162 == t175)) && (t163 == t176 && (t164 == t177 && (t165 == t178))))) && (t166 == t179)))) = true then (if t167 = 0 then ((linotypelaw06_imm.f k 255 8 true (-1) 0).bind fun t180 => (if t180 = true then ((linotypelaw06_imm.f k (-1) 8 false 255 0).bind fun t181 => (if t181 = true then ((linotypelaw06_imm.f k 256 8 false 0 5).bind fun t182 => (some t182)) else (some false))) else (some false))) else (some false)) else (some false)) = some true := H
 have A3 := Aside0.mk A30
 clear A30
 by_cases c4 : (t156 == t169 && ((t157 == t170 && (t158 == t171)) && (((t159 == t172 && (t160 == t173)) && ((t161 == t174 && (t162 == t175)) && (t163 == t176 && (t164 == t177 && (t165 == t178))))) && (t166 == t179)))) = true
 ·rw [if_pos c4] at H
  have c4b0 : (t156 == t169 && ((t157 == t170 && (t158 == t171)) && (((t159 == t172 && (t160 == t173)) && ((t161 == t174 && (t162 == t175)) && (t163 == t176 && (t164 == t177 && (t165 == t178))))) && (t166 == t179)))) = true := c4
  (try (have c4b1 : decide (t156 = t169 && ((t157 == t170 && (t158 == t171)) && (((t159 == t172 && (t160 == t173)) && ((t161 == t174 && (t162 == t175)) && (t163 == t176 && (t164 == t177 && (t165 == t178))))) && (t166 == t179)))) = true := by simpa using c4))
  (try (have c4b2 : (t156 == t169 && ((t157 == t170 && (t158 == t171)) && (((t159 == t172 && (t160 == t173)) && ((t161 == t174 && (t162 == t175)) && (t163 == t176 && (t164 == t177 && (t165 == t178))))) && (t166 == t179)))) = true := by simpa using c4))
  clear c4
  by_cases c5 : t167 = 0
  ·rw [if_pos c5] at H
   have c5b0 : (t167 == 0) = true := beq_iff_eq.mpr c5
   have c5b1 : (t167 != 0) = false := bne_eq_false_iff_eq.mpr c5
   clear c5
   replace H := Option.bind_eq_some_iff.mp H
   obtain ⟨t180, A60, H⟩ := H
   replace H : (if t180 = true then ((linotypelaw06_imm.f k (-1) 8 false 255 0).bind fun t181 => (if t181 = true then ((linotypelaw06_imm.f k 256 8 false 0 5).bind fun t182 => (some t182)) else (some false))) else (some false)) = some true := H
   have A6 := Aside0.mk A60
   clear A60
   by_cases c7 : t180 = true
   ·subst c7
    have H1 : ((linotypelaw06_imm.f k (-1) 8 false 255 0).bind fun t181 => (if t181 = true then ((linotypelaw06_imm.f k 256 8 false 0 5).bind fun t182 => (some t182)) else (some false))) = some true := by rw [if_pos rfl] at H; exact H
    clear H
    have H := H1
    clear H1
    replace H := Option.bind_eq_some_iff.mp H
    obtain ⟨t181, A80, H⟩ := H
    replace H : (if t181 = true then ((linotypelaw06_imm.f k 256 8 false 0 5).bind fun t182 => (some t182)) else (some false)) = some true := H
    have A8 := Aside0.mk A80
    clear A80
    by_cases c9 : t181 = true
    ·subst c9
     have H1 : ((linotypelaw06_imm.f k 256 8 false 0 5).bind fun t182 => (some t182)) = some true := by rw [if_pos rfl] at H; exact H
     clear H
     have H := H1
     clear H1
     replace H := Option.bind_eq_some_iff.mp H
     obtain ⟨t182, A100, H⟩ := H
     replace H : (some t182) = some true := H
     have A10 := Aside0.mk A100
     clear A100
     have HQ0 := Aside0.mk (Option.some.inj H)
     clear H
     go_enter Tryd.func29, Tryd.ntmps29
     try go_wp2_with (first | ((with_reducible refine gate_callee (f := 32) rfl ?_); refine goesL_ (some 4) rfl rfl Tryd.func32 (by kernel_rfl) rfl #[.int .i64 7] rfl (by (try simp only [List.map_toArray, List.map_cons, List.map_nil]); first | done | rfl | (simp only [List.length_drop, List.length_take]; rfl)) ?_; (with_reducible refine (linotypelaw06_eax.calls 7 t145 t146 t147 t148 t149 t150 t151 t152 t153 t154 t155 _ A1.out).mono ?_); rintro e w11 ⟨rfl, hb⟩; refine ⟨_, rfl, ?_⟩; have n0_ := Aside0.mk (below_step (by repeat (first | (with_reducible first | exact HB.out | apply below_alloc | apply pw_below_drewN | apply below_drew1) | exact HB.out)) hb); clear HB; have HB := n0_; clear n0_; (try clear hb); (try clear hb2); (try clear hk); (try clear hi)) | ((with_reducible refine gate_callee (f := 34) rfl ?_); refine goesL_ (some 5) rfl rfl Tryd.func34 (by kernel_rfl) rfl #[.agg #[.int .i64 t145, .int .i64 t146, .int .i64 t147, .int .i64 t148, .int .i64 t149, .int .i64 t150, .int .i64 t151, .int .i64 t152, .int .i64 t153, .int .i64 t154, .int .i64 t155]] rfl (by (try simp only [List.map_toArray, List.map_cons, List.map_nil]); first | done | rfl | (simp only [List.length_drop, List.length_take]; rfl)) ?_; (with_reducible refine (operand_Canon.calls k t145 t146 t147 t148 t149 t150 t151 t152 t153 t154 t155 t156 t157 t158 t159 t160 t161 t162 t163 t164 t165 t166 t167 _ A2.out ?gG).mono ?_); (case gG => exact G.below HG.out (by repeat (first | (with_reducible first | exact HB.out | apply below_alloc | apply pw_below_drewN | apply below_drew1) | exact HB.out))); rintro e w12 ⟨rfl, hb⟩; refine ⟨_, rfl, ?_⟩; have n0_ := Aside0.mk (below_step (by repeat (first | (with_reducible first | exact HB.out | apply below_alloc | apply pw_below_drewN | apply below_drew1) | exact HB.out)) hb); clear HB; have HB := n0_; clear n0_; (try clear hb); (try clear hb2); (try clear hk); (try clear hi)) | ((with_reducible refine gate_dst (N := 1) rfl ?_); refine box_event ?hg (N := 1) ?hd (cs := #[.int .i64 0, .int .i64 0, .int .i64 0, .int .i64 0, .int .i64 0, .int .i64 0, .int .i64 0, .int .i64 0, .int .i64 0, .int .i64 0, .int .i64 0]) (t := 46) ?hr ?_; (case hd => rfl); (case hg => rfl); (case hr => first | (go_simp; done) | (go_simp; rfl)); intro gb168 hg w13 hbox hb; have n0_ := Aside0.mk (below_step (by repeat (first | (with_reducible first | exact HB.out | apply below_alloc | apply pw_below_drewN | apply below_drew1) | exact HB.out)) hb); have n1_ := Aside0.mk (hbox); have n2_ := Aside0.mk ((by rw [hg]; exact (below_size (by repeat (first | (with_reducible first | exact HB.out | apply below_alloc | apply pw_below_drewN | apply below_drew1) | exact HB.out))) : w.heap.size ≤ gb168)); have n3_ := Aside0.mk ((by rw [hg]; exact (below_size (by repeat (first | (with_reducible first | exact HB.out | apply below_alloc | apply pw_below_drewN | apply below_drew1) | exact HB.out))) : w.heap.size ≤ gb168)); clear HB; have HB := n0_; have BK168 := n1_; have GW168 := n2_; have GE168 := n3_; clear n0_ n1_ n2_ n3_; clear hb hbox hg; have hcz14_0 : w13.cell? ⟨gb168, 0, none⟩ = some (.int .i64 0) := (blk_cell BK168.out 0).trans rfl; have hcz14_1 : w13.cell? ⟨gb168, 1, none⟩ = some (.int .i64 0) := (blk_cell BK168.out 1).trans rfl; have hcz14_2 : w13.cell? ⟨gb168, 2, none⟩ = some (.int .i64 0) := (blk_cell BK168.out 2).trans rfl; have hcz14_3 : w13.cell? ⟨gb168, 3, none⟩ = some (.int .i64 0) := (blk_cell BK168.out 3).trans rfl; have hcz14_4 : w13.cell? ⟨gb168, 4, none⟩ = some (.int .i64 0) := (blk_cell BK168.out 4).trans rfl; have hcz14_5 : w13.cell? ⟨gb168, 5, none⟩ = some (.int .i64 0) := (blk_cell BK168.out 5).trans rfl; have hcz14_6 : w13.cell? ⟨gb168, 6, none⟩ = some (.int .i64 0) := (blk_cell BK168.out 6).trans rfl; have hcz14_7 : w13.cell? ⟨gb168, 7, none⟩ = some (.int .i64 0) := (blk_cell BK168.out 7).trans rfl; have hcz14_8 : w13.cell? ⟨gb168, 8, none⟩ = some (.int .i64 0) := (blk_cell BK168.out 8).trans rfl; have hcz14_9 : w13.cell? ⟨gb168, 9, none⟩ = some (.int .i64 0) := (blk_cell BK168.out 9).trans rfl; have hcz14_10 : w13.cell? ⟨gb168, 10, none⟩ = some (.int .i64 0) := (blk_cell BK168.out 10).trans rfl; have hfz14_0 := blk_frozen BK168.out 0; have hfz14_1 := blk_frozen BK168.out 1; have hfz14_2 := blk_frozen BK168.out 2; have hfz14_3 := blk_frozen BK168.out 3; have hfz14_4 := blk_frozen BK168.out 4; have hfz14_5 := blk_frozen BK168.out 5; have hfz14_6 := blk_frozen BK168.out 6; have hfz14_7 := blk_frozen BK168.out 7; have hfz14_8 := blk_frozen BK168.out 8; have hfz14_9 := blk_frozen BK168.out 9; have hfz14_10 := blk_frozen BK168.out 10))
     have n0_ : Aside0 ((((((((((((w13.setCell ⟨gb168, 0, none⟩ (.int .i64 t156)).setCell ⟨gb168, 1, none⟩ (.int .i64 t157)).setCell ⟨gb168, 2, none⟩ (.int .i64 t158)).setCell ⟨gb168, 3, none⟩ (.int .i64 t159)).setCell ⟨gb168, 4, none⟩ (.int .i64 t160)).setCell ⟨gb168, 5, none⟩ (.int .i64 t161)).setCell ⟨gb168, 6, none⟩ (.int .i64 t162)).setCell ⟨gb168, 7, none⟩ (.int .i64 t163)).setCell ⟨gb168, 8, none⟩ (.int .i64 t164)).setCell ⟨gb168, 9, none⟩ (.int .i64 t165)).setCell ⟨gb168, 10, none⟩ (.int .i64 t166)).heap[gb168]? = some (.cells #[.int .i64 t156, .int .i64 t157, .int .i64 t158, .int .i64 t159, .int .i64 t160, .int .i64 t161, .int .i64 t162, .int .i64 t163, .int .i64 t164, .int .i64 t165, .int .i64 t166] 46 (0, 0))) := ⟨by (with_reducible repeat (first | refine blk_drewN ?_ _ | refine blk_drew ?_ | refine blk_alloc ?_ _)); refine blk_put (cs := #[.int .i64 t156, .int .i64 t157, .int .i64 t158, .int .i64 t159, .int .i64 t160, .int .i64 t161, .int .i64 t162, .int .i64 t163, .int .i64 t164, .int .i64 t165, .int .i64 0]) ?_ 10 _ rfl; (with_reducible repeat (first | refine blk_drewN ?_ _ | refine blk_drew ?_ | refine blk_alloc ?_ _)); refine blk_put (cs := #[.int .i64 t156, .int .i64 t157, .int .i64 t158, .int .i64 t159, .int .i64 t160, .int .i64 t161, .int .i64 t162, .int .i64 t163, .int .i64 t164, .int .i64 0, .int .i64 0]) ?_ 9 _ rfl; (with_reducible repeat (first | refine blk_drewN ?_ _ | refine blk_drew ?_ | refine blk_alloc ?_ _)); refine blk_put (cs := #[.int .i64 t156, .int .i64 t157, .int .i64 t158, .int .i64 t159, .int .i64 t160, .int .i64 t161, .int .i64 t162, .int .i64 t163, .int .i64 0, .int .i64 0, .int .i64 0]) ?_ 8 _ rfl; (with_reducible repeat (first | refine blk_drewN ?_ _ | refine blk_drew ?_ | refine blk_alloc ?_ _)); refine blk_put (cs := #[.int .i64 t156, .int .i64 t157, .int .i64 t158, .int .i64 t159, .int .i64 t160, .int .i64 t161, .int .i64 t162, .int .i64 0, .int .i64 0, .int .i64 0, .int .i64 0]) ?_ 7 _ rfl; (with_reducible repeat (first | refine blk_drewN ?_ _ | refine blk_drew ?_ | refine blk_alloc ?_ _)); refine blk_put (cs := #[.int .i64 t156, .int .i64 t157, .int .i64 t158, .int .i64 t159, .int .i64 t160, .int .i64 t161, .int .i64 0, .int .i64 0, .int .i64 0, .int .i64 0, .int .i64 0]) ?_ 6 _ rfl; (with_reducible repeat (first | refine blk_drewN ?_ _ | refine blk_drew ?_ | refine blk_alloc ?_ _)); refine blk_put (cs := #[.int .i64 t156, .int .i64 t157, .int .i64 t158, .int .i64 t159, .int .i64 t160, .int .i64 0, .int .i64 0, .int .i64 0, .int .i64 0, .int .i64 0, .int .i64 0]) ?_ 5 _ rfl; (with_reducible repeat (first | refine blk_drewN ?_ _ | refine blk_drew ?_ | refine blk_alloc ?_ _)); refine blk_put (cs := #[.int .i64 t156, .int .i64 t157, .int .i64 t158, .int .i64 t159, .int .i64 0, .int .i64 0, .int .i64 0, .int .i64 0, .int .i64 0, .int .i64 0, .int .i64 0]) ?_ 4 _ rfl; (with_reducible repeat (first | refine blk_drewN ?_ _ | refine blk_drew ?_ | refine blk_alloc ?_ _)); refine blk_put (cs := #[.int .i64 t156, .int .i64 t157, .int .i64 t158, .int .i64 0, .int .i64 0, .int .i64 0, .int .i64 0, .int .i64 0, .int .i64 0, .int .i64 0, .int .i64 0]) ?_ 3 _ rfl; (with_reducible repeat (first | refine blk_drewN ?_ _ | refine blk_drew ?_ | refine blk_alloc ?_ _)); refine blk_put (cs := #[.int .i64 t156, .int .i64 t157, .int .i64 0, .int .i64 0, .int .i64 0, .int .i64 0, .int .i64 0, .int .i64 0, .int .i64 0, .int .i64 0, .int .i64 0]) ?_ 2 _ rfl; (with_reducible repeat (first | refine blk_drewN ?_ _ | refine blk_drew ?_ | refine blk_alloc ?_ _)); refine blk_put (cs := #[.int .i64 t156, .int .i64 0, .int .i64 0, .int .i64 0, .int .i64 0, .int .i64 0, .int .i64 0, .int .i64 0, .int .i64 0, .int .i64 0, .int .i64 0]) ?_ 1 _ rfl; (with_reducible repeat (first | refine blk_drewN ?_ _ | refine blk_drew ?_ | refine blk_alloc ?_ _)); refine blk_put (cs := #[.int .i64 0, .int .i64 0, .int .i64 0, .int .i64 0, .int .i64 0, .int .i64 0, .int .i64 0, .int .i64 0, .int .i64 0, .int .i64 0, .int .i64 0]) ?_ 0 _ rfl; (with_reducible repeat (first | refine blk_drewN ?_ _ | refine blk_drew ?_ | refine blk_alloc ?_ _)); exact BK168.out⟩
     have n1_ : Aside0 (Below w.heap.size w (((((((((((w13.setCell ⟨gb168, 0, none⟩ (.int .i64 t156)).setCell ⟨gb168, 1, none⟩ (.int .i64 t157)).setCell ⟨gb168, 2, none⟩ (.int .i64 t158)).setCell ⟨gb168, 3, none⟩ (.int .i64 t159)).setCell ⟨gb168, 4, none⟩ (.int .i64 t160)).setCell ⟨gb168, 5, none⟩ (.int .i64 t161)).setCell ⟨gb168, 6, none⟩ (.int .i64 t162)).setCell ⟨gb168, 7, none⟩ (.int .i64 t163)).setCell ⟨gb168, 8, none⟩ (.int .i64 t164)).setCell ⟨gb168, 9, none⟩ (.int .i64 t165)).setCell ⟨gb168, 10, none⟩ (.int .i64 t166))) := ⟨by repeat (first | (with_reducible first | exact HB.out | apply below_alloc | apply pw_below_drewN | apply below_drew1 | refine below_set ?_ GE168.out) | exact HB.out)⟩
     (try clear BK168)
     (try clear HB)
     generalize (((((((((((w13.setCell ⟨gb168, 0, none⟩ (.int .i64 t156)).setCell ⟨gb168, 1, none⟩ (.int .i64 t157)).setCell ⟨gb168, 2, none⟩ (.int .i64 t158)).setCell ⟨gb168, 3, none⟩ (.int .i64 t159)).setCell ⟨gb168, 4, none⟩ (.int .i64 t160)).setCell ⟨gb168, 5, none⟩ (.int .i64 t161)).setCell ⟨gb168, 6, none⟩ (.int .i64 t162)).setCell ⟨gb168, 7, none⟩ (.int .i64 t163)).setCell ⟨gb168, 8, none⟩ (.int .i64 t164)).setCell ⟨gb168, 9, none⟩ (.int .i64 t165)).setCell ⟨gb168, 10, none⟩ (.int .i64 t166)) = w15 at n0_ n1_ ⊢
     have BK168 := n0_
     have HB := n1_
     clear n0_ n1_
     have n0_ := Aside0.mk (blk_drew BK168.out)
     have n1_ := Aside0.mk (below_drew1 HB.out)
     clear BK168
     clear HB
     have BK168 := n0_
     have HB := n1_
     clear n0_ n1_
     refine start_ (n := 17) (S := fun w' => w'.cell? ⟨gb168, 0, none⟩ = some (.int .i64 t156) ∧ w'.cell? ⟨gb168, 1, none⟩ = some (.int .i64 t157) ∧ w'.cell? ⟨gb168, 2, none⟩ = some (.int .i64 t158) ∧ w'.cell? ⟨gb168, 3, none⟩ = some (.int .i64 t159) ∧ w'.cell? ⟨gb168, 4, none⟩ = some (.int .i64 t160) ∧ w'.cell? ⟨gb168, 5, none⟩ = some (.int .i64 t161) ∧ w'.cell? ⟨gb168, 6, none⟩ = some (.int .i64 t162) ∧ w'.cell? ⟨gb168, 7, none⟩ = some (.int .i64 t163) ∧ w'.cell? ⟨gb168, 8, none⟩ = some (.int .i64 t164) ∧ w'.cell? ⟨gb168, 9, none⟩ = some (.int .i64 t165) ∧ w'.cell? ⟨gb168, 10, none⟩ = some (.int .i64 t166)) (ds := []) #[false, false, false, false, false, false, false, false, false, false, false, false, false, false, false, false, false] (by kernel_rfl) rfl rfl ⟨(blk_cell BK168.out 0).trans rfl, (blk_cell BK168.out 1).trans rfl, (blk_cell BK168.out 2).trans rfl, (blk_cell BK168.out 3).trans rfl, (blk_cell BK168.out 4).trans rfl, (blk_cell BK168.out 5).trans rfl, (blk_cell BK168.out 6).trans rfl, (blk_cell BK168.out 7).trans rfl, (blk_cell BK168.out 8).trans rfl, (blk_cell BK168.out 9).trans rfl, (blk_cell BK168.out 10).trans rfl⟩ (fun hHeld => ?_); refine with_tabW linotypelaw06_awake.tab2 linotypelaw06_awake.bits2 (fun HT_ HW_ => ?_)
     generalize w15.drew = w16 at BK168 HB hHeld ⊢
     refine take_ (i := 0) (N := some 8) (v := ?_) (a' := ?_) #[true, false, false, false, false, false, false, false, false, false, false, false, false, false, false, false, false] rfl rfl (take_ofW HT_.out HW_.out (by kernel_rfl)) (fun _ _ _ h => h) (Or.inl ⟨by rfl, ?_⟩) hHeld ?_ ?_
     rotate_left
     ·rintro w' ⟨s0, s1, s2, s3, s4, s5, s6, s7, s8, s9, s10⟩
      go_simp
      with_reducible rfl
     rotate_left
     ·simp only [Act.put, List.setIfInBounds_toArray, List.set_cons_zero, List.set_cons_succ, i64_w, i32_w]
      rfl
     refine one_ (i := 1) (N := some 9) #[true, true, false, false, false, false, false, false, false, false, false, false, false, false, false, false, false] rfl rfl (one_of HT_.out (by kernel_rfl)) (by decide) (fun K hK => ?_)
     refine goes_ Tryd.func32 (by kernel_rfl) rfl #[.int .i64 0] (by rfl) rfl rfl (by (try simp only [List.map_toArray, List.map_cons, List.map_nil]); first | done | rfl | (simp only [List.length_drop, List.length_take]; rfl)) ?_
     with_reducible refine (linotypelaw06_eax.calls 0 t169 t170 t171 t172 t173 t174 t175 t176 t177 t178 t179 _ A3.out).mono ?_
     rintro e w17 ⟨rfl, hb⟩
     refine ⟨_, rfl, ?_⟩
     have n0_ := Aside0.mk (blk_below (g := gb168) (by (with_reducible repeat (first | refine blk_drewN ?_ _ | refine blk_drew ?_ | refine blk_alloc ?_ _)); exact BK168.out) hb)
     have n1_ := Aside0.mk (below_step (by repeat (first | (with_reducible first | exact HB.out | apply below_alloc | apply pw_below_drewN | apply below_drew1 | refine below_set ?_ GE168.out) | exact HB.out)) hb)
     clear BK168
     clear HB
     have BK168 := n0_
     have HB := n1_
     clear n0_ n1_
     (try clear hb)
     (try clear hb2)
     (try clear hk)
     (try clear hi)
     refine hK.out _ _ ⟨(blk_cell BK168.out 0).trans rfl, (blk_cell BK168.out 1).trans rfl, (blk_cell BK168.out 2).trans rfl, (blk_cell BK168.out 3).trans rfl, (blk_cell BK168.out 4).trans rfl, (blk_cell BK168.out 5).trans rfl, (blk_cell BK168.out 6).trans rfl, (blk_cell BK168.out 7).trans rfl, (blk_cell BK168.out 8).trans rfl, (blk_cell BK168.out 9).trans rfl, (blk_cell BK168.out 10).trans rfl⟩ (fun hHeld => ?_)
     clear hK K
     refine norm_ (a' := ?_) ?_ ?_
     rotate_left
     ·show Act.put _ (some 9) _ = _
      simp only [Act.put, List.setIfInBounds_toArray, List.set_cons_zero, List.set_cons_succ, i64_w, i32_w]
      rfl
     refine pure_ (i := 2) (N := some 10) (v := ?_) (a' := ?_) #[true, true, true, false, false, false, false, false, false, false, false, false, false, false, false, false, false] rfl rfl (any_of HT_.out (by kernel_rfl)) (fun _ _ _ h => h) (Or.inl ⟨by rfl, ?_⟩) ?_ ?_
     rotate_left
     ·intro w'
      go_simp
      with_reducible rfl
     rotate_left
     ·simp only [Act.put, List.setIfInBounds_toArray, List.set_cons_zero, List.set_cons_succ, i64_w, i32_w]
      rfl
     refine pure_ (i := 3) (N := some 11) (v := ?_) (a' := ?_) #[true, true, true, true, false, false, false, false, false, false, false, false, false, false, false, false, false] rfl rfl (any_of HT_.out (by kernel_rfl)) (fun _ _ _ h => h) (Or.inl ⟨by rfl, ?_⟩) ?_ ?_
     rotate_left
     ·intro w'
      go_simp
      with_reducible rfl
     rotate_left
     ·simp only [Act.put, List.setIfInBounds_toArray, List.set_cons_zero, List.set_cons_succ, i64_w, i32_w]
      rfl
     refine pure_ (i := 4) (N := some 12) (v := ?_) (a' := ?_) #[true, true, true, true, true, false, false, false, false, false, false, false, false, false, false, false, false] rfl rfl (any_of HT_.out (by kernel_rfl)) (fun _ _ _ h => h) (Or.inl ⟨by rfl, ?_⟩) ?_ ?_
     rotate_left
     ·intro w'
      go_simp
      with_reducible rfl
     rotate_left
     ·simp only [Act.put, List.setIfInBounds_toArray, List.set_cons_zero, List.set_cons_succ, i64_w, i32_w]
      rfl
     refine pure_ (i := 5) (N := some 13) (v := ?_) (a' := ?_) #[true, true, true, true, true, true, false, false, false, false, false, false, false, false, false, false, false] rfl rfl (any_of HT_.out (by kernel_rfl)) (fun _ _ _ h => h) (Or.inl ⟨by rfl, ?_⟩) ?_ ?_
     rotate_left
     ·intro w'
      go_simp
      with_reducible rfl
     rotate_left
     ·simp only [Act.put, List.setIfInBounds_toArray, List.set_cons_zero, List.set_cons_succ, i64_w, i32_w]
      rfl
     refine pure_ (i := 6) (N := some 14) (v := ?_) (a' := ?_) #[true, true, true, true, true, true, true, false, false, false, false, false, false, false, false, false, false] rfl rfl (any_of HT_.out (by kernel_rfl)) (fun _ _ _ h => h) (Or.inl ⟨by rfl, ?_⟩) ?_ ?_
     rotate_left
     ·intro w'
      go_simp
      with_reducible rfl
     rotate_left
     ·simp only [Act.put, List.setIfInBounds_toArray, List.set_cons_zero, List.set_cons_succ, i64_w, i32_w]
      rfl
     refine pure_ (i := 7) (N := some 15) (v := ?_) (a' := ?_) #[true, true, true, true, true, true, true, true, false, false, false, false, false, false, false, false, false] rfl rfl (any_of HT_.out (by kernel_rfl)) (fun _ _ _ h => h) (Or.inl ⟨by rfl, ?_⟩) ?_ ?_
     rotate_left
     ·intro w'
      go_simp
      with_reducible rfl
     rotate_left
     ·simp only [Act.put, List.setIfInBounds_toArray, List.set_cons_zero, List.set_cons_succ, i64_w, i32_w]
      rfl
     refine one_ (i := 8) (N := some 16) #[true, true, true, true, true, true, true, true, true, false, false, false, false, false, false, false, false] rfl rfl (one_of HT_.out (by kernel_rfl)) (by decide) (fun K hK => ?_)
     refine goes_ Tryd.func30 (by kernel_rfl) rfl #[.int .i64 255, .int .i64 8, .bool true, .int .i64 (-1), .int .i64 0] (by rfl) rfl rfl (by (try simp only [List.map_toArray, List.map_cons, List.map_nil]); first | done | rfl | (simp only [List.length_drop, List.length_take]; rfl)) ?_
     with_reducible refine (linotypelaw06_imm.calls k 255 8 true (-1) 0 true _ A6.out).mono ?_
     rintro e w' ⟨rfl, ⟨nd, rfl⟩⟩
     refine ⟨_, rfl, ?_⟩
     refine hK.out _ _ ⟨(blk_cell BK168.out 0).trans rfl, (blk_cell BK168.out 1).trans rfl, (blk_cell BK168.out 2).trans rfl, (blk_cell BK168.out 3).trans rfl, (blk_cell BK168.out 4).trans rfl, (blk_cell BK168.out 5).trans rfl, (blk_cell BK168.out 6).trans rfl, (blk_cell BK168.out 7).trans rfl, (blk_cell BK168.out 8).trans rfl, (blk_cell BK168.out 9).trans rfl, (blk_cell BK168.out 10).trans rfl⟩ (fun hHeld => ?_)
     clear hK K
     refine norm_ (a' := ?_) ?_ ?_
     rotate_left
     ·show Act.put _ (some 16) _ = _
      simp only [Act.put, List.setIfInBounds_toArray, List.set_cons_zero, List.set_cons_succ, i64_w, i32_w]
      rfl
     refine pure_ (i := 9) (N := some 17) (v := ?_) (a' := ?_) #[true, true, true, true, true, true, true, true, true, true, false, false, false, false, false, false, false] rfl rfl (any_of HT_.out (by kernel_rfl)) (fun _ _ _ h => h) (Or.inl ⟨by rfl, ?_⟩) ?_ ?_
     rotate_left
     ·intro w'
      go_simp
      with_reducible rfl
     rotate_left
     ·simp only [Act.put, List.setIfInBounds_toArray, List.set_cons_zero, List.set_cons_succ, i64_w, i32_w]
      rfl
     refine pure_ (i := 10) (N := some 18) (v := ?_) (a' := ?_) #[true, true, true, true, true, true, true, true, true, true, true, false, false, false, false, false, false] rfl rfl (any_of HT_.out (by kernel_rfl)) (fun _ _ _ h => h) (Or.inl ⟨by rfl, ?_⟩) ?_ ?_
     rotate_left
     ·intro w'
      go_simp
      with_reducible rfl
     rotate_left
     ·simp only [Act.put, List.setIfInBounds_toArray, List.set_cons_zero, List.set_cons_succ, i64_w, i32_w]
      rfl
     refine one_ (i := 11) (N := some 19) #[true, true, true, true, true, true, true, true, true, true, true, true, false, false, false, false, false] rfl rfl (one_of HT_.out (by kernel_rfl)) (by decide) (fun K hK => ?_)
     refine goes_ Tryd.func30 (by kernel_rfl) rfl #[.int .i64 (-1), .int .i64 8, .bool false, .int .i64 255, .int .i64 0] (by rfl) rfl rfl (by (try simp only [List.map_toArray, List.map_cons, List.map_nil]); first | done | rfl | (simp only [List.length_drop, List.length_take]; rfl)) ?_
     with_reducible refine (linotypelaw06_imm.calls k (-1) 8 false 255 0 true _ A8.out).mono ?_
     rintro e w' ⟨rfl, ⟨nd, rfl⟩⟩
     refine ⟨_, rfl, ?_⟩
     refine hK.out _ _ ⟨(blk_cell BK168.out 0).trans rfl, (blk_cell BK168.out 1).trans rfl, (blk_cell BK168.out 2).trans rfl, (blk_cell BK168.out 3).trans rfl, (blk_cell BK168.out 4).trans rfl, (blk_cell BK168.out 5).trans rfl, (blk_cell BK168.out 6).trans rfl, (blk_cell BK168.out 7).trans rfl, (blk_cell BK168.out 8).trans rfl, (blk_cell BK168.out 9).trans rfl, (blk_cell BK168.out 10).trans rfl⟩ (fun hHeld => ?_)
     clear hK K
     refine norm_ (a' := ?_) ?_ ?_
     rotate_left
     ·show Act.put _ (some 19) _ = _
      simp only [Act.put, List.setIfInBounds_toArray, List.set_cons_zero, List.set_cons_succ, i64_w, i32_w]
      rfl
     refine pure_ (i := 12) (N := some 20) (v := ?_) (a' := ?_) #[true, true, true, true, true, true, true, true, true, true, true, true, true, false, false, false, false] rfl rfl (any_of HT_.out (by kernel_rfl)) (fun _ _ _ h => h) (Or.inl ⟨by rfl, ?_⟩) ?_ ?_
     rotate_left
     ·intro w'
      go_simp
      with_reducible rfl
     rotate_left
     ·simp only [Act.put, List.setIfInBounds_toArray, List.set_cons_zero, List.set_cons_succ, i64_w, i32_w]
      rfl
     refine pure_ (i := 13) (N := some 21) (v := ?_) (a' := ?_) #[true, true, true, true, true, true, true, true, true, true, true, true, true, true, false, false, false] rfl rfl (any_of HT_.out (by kernel_rfl)) (fun _ _ _ h => h) (Or.inl ⟨by rfl, ?_⟩) ?_ ?_
     rotate_left
     ·intro w'
      go_simp
      with_reducible rfl
     rotate_left
     ·simp only [Act.put, List.setIfInBounds_toArray, List.set_cons_zero, List.set_cons_succ, i64_w, i32_w]
      rfl
     refine one_ (i := 14) (N := some 22) #[true, true, true, true, true, true, true, true, true, true, true, true, true, true, true, false, false] rfl rfl (one_of HT_.out (by kernel_rfl)) (by decide) (fun K hK => ?_)
     refine goes_ Tryd.func30 (by kernel_rfl) rfl #[.int .i64 256, .int .i64 8, .bool false, .int .i64 0, .int .i64 5] (by rfl) rfl rfl (by (try simp only [List.map_toArray, List.map_cons, List.map_nil]); first | done | rfl | (simp only [List.length_drop, List.length_take]; rfl)) ?_
     with_reducible refine (linotypelaw06_imm.calls k 256 8 false 0 5 t182 _ A10.out).mono ?_
     rintro e w' ⟨rfl, ⟨nd, rfl⟩⟩
     refine ⟨_, rfl, ?_⟩
     refine hK.out _ _ ⟨(blk_cell BK168.out 0).trans rfl, (blk_cell BK168.out 1).trans rfl, (blk_cell BK168.out 2).trans rfl, (blk_cell BK168.out 3).trans rfl, (blk_cell BK168.out 4).trans rfl, (blk_cell BK168.out 5).trans rfl, (blk_cell BK168.out 6).trans rfl, (blk_cell BK168.out 7).trans rfl, (blk_cell BK168.out 8).trans rfl, (blk_cell BK168.out 9).trans rfl, (blk_cell BK168.out 10).trans rfl⟩ (fun hHeld => ?_)
     clear hK K
     refine norm_ (a' := ?_) ?_ ?_
     rotate_left
     ·show Act.put _ (some 22) _ = _
      simp only [Act.put, List.setIfInBounds_toArray, List.set_cons_zero, List.set_cons_succ, i64_w, i32_w]
      rfl
     refine pure_ (i := 15) (N := some 23) (v := ?_) (a' := ?_) #[true, true, true, true, true, true, true, true, true, true, true, true, true, true, true, true, false] rfl rfl (any_of HT_.out (by kernel_rfl)) (fun _ _ _ h => h) (Or.inl ⟨by rfl, ?_⟩) ?_ ?_
     rotate_left
     ·intro w'
      go_simp
      with_reducible rfl
     rotate_left
     ·simp only [Act.put, List.setIfInBounds_toArray, List.set_cons_zero, List.set_cons_succ, i64_w, i32_w]
      rfl
     refine pure_ (i := 16) (N := some 0) (v := ?_) (a' := ?_) #[true, true, true, true, true, true, true, true, true, true, true, true, true, true, true, true, true] rfl rfl (any_of HT_.out (by kernel_rfl)) (fun _ _ _ h => h) (Or.inl ⟨by rfl, ?_⟩) ?_ ?_
     rotate_left
     ·intro w'
      go_simp
      with_reducible rfl
     rotate_left
     ·simp only [Act.put, List.setIfInBounds_toArray, List.set_cons_zero, List.set_cons_succ, i64_w, i32_w]
      rfl
     refine done_ (done_of HT_.out (by kernel_rfl)) ?_
     try go_wp2
     go_ret
     exact ⟨by first | (exact congrArg (fun b_ => Ending.returned (.bool b_)) HQ0.out) | rfl | (simp [errW_none, errW_some] <;> rfl) | (simp [*, errW_none, errW_some] <;> rfl), by repeat (first | (with_reducible first | exact HB.out | apply below_alloc | apply pw_below_drewN | apply below_drew1 | refine below_set ?_ GE168.out) | exact HB.out)⟩
    ·replace c9 := Bool.eq_false_iff.mpr c9
     subst c9
     have H1 : (some false) = some true := by rw [if_neg (show ¬ (false = true) by decide)] at H; exact H
     clear H
     have H := H1
     clear H1
     exact absurd H (by simp)
   ·replace c7 := Bool.eq_false_iff.mpr c7
    subst c7
    have H1 : (some false) = some true := by rw [if_neg (show ¬ (false = true) by decide)] at H; exact H
    clear H
    have H := H1
    clear H1
    exact absurd H (by simp)
  ·rw [if_neg c5] at H
   have c5b0 : (t167 == 0) = false := beq_eq_false_iff_ne.mpr c5
   have c5b1 : (t167 != 0) = true := bne_iff_ne.mpr c5
   exact absurd H (by simp)
 ·rw [if_neg c4] at H
  have c4b0 : (t156 == t169 && ((t157 == t170 && (t158 == t171)) && (((t159 == t172 && (t160 == t173)) && ((t161 == t174 && (t162 == t175)) && (t163 == t176 && (t164 == t177 && (t165 == t178))))) && (t166 == t179)))) = false := by simpa using c4
  (try (have c4b1 : decide (t156 = t169 && ((t157 == t170 && (t158 == t171)) && (((t159 == t172 && (t160 == t173)) && ((t161 == t174 && (t162 == t175)) && (t163 == t176 && (t164 == t177 && (t165 == t178))))) && (t166 == t179)))) = false := by simpa using c4))
  (try (have c4b2 : (t156 == t169 && ((t157 == t170 && (t158 == t171)) && (((t159 == t172 && (t160 == t173)) && ((t161 == t174 && (t162 == t175)) && (t163 == t176 && (t164 == t177 && (t165 == t178))))) && (t166 == t179)))) = false := by simpa using c4))
  (try (have c4b3 : ¬ (t156 = t169 && ((t157 == t170 && (t158 == t171)) && (((t159 == t172 && (t160 == t173)) && ((t161 == t174 && (t162 == t175)) && (t163 == t176 && (t164 == t177 && (t165 == t178))))) && (t166 == t179)))) := by simpa using c4))
  clear c4
  exact absurd H (by simp)

/-- THE ONE PURE STATEMENT of linotypelaw06_awake: yours. -/
def linotypelaw06_awake.Pure : Prop := ∃ k, linotypelaw06_awake.f k  = some true
theorem linotypelaw06_awake.walk (P : linotypelaw06_awake.Pure)  (w : World)  (hG : G w) :
  Calls Tryd.prog 29 #[] w fun e w' => e = .returned (.bool true) ∧ Below w.heap.size w w' := by
 obtain ⟨k, h⟩ := P  
 refine (linotypelaw06_awake.calls k  w h hG).mono ?_
 rintro e w' ⟨rfl, hd⟩
 exact ⟨rfl, hd⟩
theorem linotypelaw06_awake.true_ (k : Nat) (r : Bool) (h : linotypelaw06_awake.f k = some r) : r = true := by
 have h1 := at_rounds (linotypelaw06_awake.mono) (Nat.le_max_left k 30) h
 have h2 := at_rounds (linotypelaw06_awake.mono) (Nat.le_max_right k 30) (show linotypelaw06_awake.f 30 = some true by decide +kernel)
 exact Option.some.inj (h1.symm.trans h2)
theorem linotypelaw06_awake.callsR (k : Nat) (r : Bool) (w : World) (h : linotypelaw06_awake.f k = some r) (hG : G w) :
  Calls Tryd.prog 29 #[] w fun e w' => e = .returned (.bool r) ∧ Below w.heap.size w w' := by
 obtain rfl := linotypelaw06_awake.true_ k r h
 exact linotypelaw06_awake.calls k w h hG


end Go.Proofs.YtceofdchbolidaaDoor.XOt
