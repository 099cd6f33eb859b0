/- Laid by this seat's own program (wip/tools/printx.py) out of the translation: the functions that laws use (All), each with its contract. Condition: the library's table strings.asciiSpace holds what it was laid with. -/
import Derived.Test.YtceofdchbolidaaDoorXAllx0
import Derived.Test.YtceofdchbolidaaDoorXAllx22
import Derived.Test.YtceofdchbolidaaDoorXAllx23
import Derived.Test.YtceofdchbolidaaDoorXAllx25
namespace Go.Proofs.YtceofdchbolidaaDoor.XAll
open Go.RowKit Go.Proofs.YtceofdchbolidaaDoorW.PrintWords Go.Proofs.YtceofdchbolidaaDoorW.PrintLast Go.Proofs.YtceofdchbolidaaDoorW.PrintMore Go.Proofs.YtceofdchbolidaaDoor.Hand
attribute [local go_sem] max2_int min2_int max_two min_two max_three min_three max_four min_four   -- for this text's walks alone
set_option linter.unusedVariables false
set_option linter.unusedSimpArgs false

/-! ### linotypelaw06_OperandImm: function 8 -/
def linotypelaw06_OperandImm.f (k : Nat) (a0 : Int) (a1 : Int) (a2 : Bool) : Option (Bool) := (operand_Imm.f k a0 a1 a2).bind fun bt390 => ((linotyperef06_Imm.f k a0 a1 a2).bind fun bt392 => (if bt390.1 = bt392.1 then (if bt390.2 = bt392.2 then ((linotypelaw06_awake.f k).bind fun t394 => (some t394)) else (some false)) else (some false)))
theorem linotypelaw06_OperandImm.mono : ∀ a0 a1 a2 k, LeO (linotypelaw06_OperandImm.f k a0 a1 a2) (linotypelaw06_OperandImm.f (k + 1) a0 a1 a2) := by
 intro a0 a1 a2 k
 unfold linotypelaw06_OperandImm.f
 repeat' first
   | (with_reducible exact linotypelaw06_awake.mono _)
   | (with_reducible exact linotyperef06_Imm.mono _ _ _ _)
   | (with_reducible exact operand_Imm.mono _ _ _ _)
   | (with_reducible exact LeO.refl _)
   | (with_reducible exact LeO.none _)
   | (with_reducible refine LeO.ite ?_ ?_)
   | (with_reducible refine LeO.bind ?_ (fun _ => ?_))
   | exact linotypelaw06_awake.mono _
   | exact linotyperef06_Imm.mono _ _ _ _
   | exact operand_Imm.mono _ _ _ _
   | exact LeO.none _
   | refine LeO.ite ?_ ?_
   | refine LeO.bind ?_ (fun _ => ?_)
set_option maxHeartbeats 8000000 in
set_option maxRecDepth 100000 in
theorem linotypelaw06_OperandImm.calls (k : Nat) (a0 : Int) (a1 : Int) (a2 : Bool) (w : World) (h : linotypelaw06_OperandImm.f k a0 a1 a2 = some true) (hG : G w) :
  Calls Tryd.prog 8 #[.int .i64 a0, .int .i64 a1, .bool a2] w fun e w' => e = .returned (.bool true) ∧ Below w.heap.size w w' := by
 have HG := Lib.hid hG
 clear hG
 have HB := Aside0.mk (Below.refl w.heap.size w)
 have H : ((operand_Imm.f k a0 a1 a2).bind fun bt390 => ((linotyperef06_Imm.f k a0 a1 a2).bind fun bt392 => (if bt390.1 = bt392.1 then (if bt390.2 = bt392.2 then ((linotypelaw06_awake.f k).bind fun t394 => (some t394)) else (some false)) else (some false)))) = some true := h
 clear h
 replace H := Option.bind_eq_some_iff.mp H
 obtain ⟨⟨t390, t391⟩, A40, H⟩ := H
 replace H : ((linotyperef06_Imm.f k a0 a1 a2).bind fun bt392 => (if t390 = bt392.1 then (if t391 = bt392.2 then ((linotypelaw06_awake.f k).bind fun t394 => (some t394)) else (some false)) else (some false))) = some true := H
 have A4 := Aside0.mk A40
 clear A40
 replace H := Option.bind_eq_some_iff.mp H
 obtain ⟨⟨t392, t393⟩, A50, H⟩ := H
 replace H : (if t390 = t392 then (if t391 = t393 then ((linotypelaw06_awake.f k).bind fun t394 => (some t394)) else (some false)) else (some false)) = some true := H
 have A5 := Aside0.mk A50
 clear A50
 by_cases c6 : t390 = t392
 ·rw [if_pos c6] at H
  have c6b0 : (t390 == t392) = true := beq_iff_eq.mpr c6
  have c6b1 : (t390 != t392) = false := bne_eq_false_iff_eq.mpr c6
  clear c6
  by_cases c7 : t391 = t393
  ·rw [if_pos c7] at H
   have c7b0 : (t391 == t393) = true := beq_iff_eq.mpr c7
   have c7b1 : (t391 != t393) = false := bne_eq_false_iff_eq.mpr c7
   clear c7
   replace H := Option.bind_eq_some_iff.mp H
   obtain ⟨t394, A80, H⟩ := H
   replace H : (some t394) = some true := H
   have A8 := Aside0.mk A80
   clear A80
   have HQ0 := Aside0.mk (Option.some.inj H)
   clear H
   go_enter Tryd.func8, Tryd.ntmps8
   go_wp2_with (first | ((with_reducible refine gate_callee (f := 27) rfl ?_); refine goesL_ (some 15) rfl rfl Tryd.func27 (by kernel_rfl) rfl #[.int .i64 a0, .int .i64 a1, .bool a2] rfl (by (try simp only [List.map_toArray, List.map_cons, List.map_nil]); first | done | rfl | (simp only [List.length_drop, List.length_take]; rfl)) ?_; (with_reducible refine (operand_Imm.calls k a0 a1 a2 t390 t391 _ A4.out).mono ?_); rintro e w' ⟨rfl, ⟨nd, rfl⟩⟩; refine ⟨_, rfl, ?_⟩) | ((with_reducible refine gate_callee (f := 28) rfl ?_); refine goesL_ (some 22) rfl rfl Tryd.func28 (by kernel_rfl) rfl #[.int .i64 a0, .int .i64 a1, .bool a2] rfl (by (try simp only [List.map_toArray, List.map_cons, List.map_nil]); first | done | rfl | (simp only [List.length_drop, List.length_take]; rfl)) ?_; (with_reducible refine (linotyperef06_Imm.calls k a0 a1 a2 t392 t393 _ A5.out).mono ?_); rintro e w' ⟨rfl, ⟨nd, rfl⟩⟩; refine ⟨_, rfl, ?_⟩) | (go_at_call 29; (with_reducible refine (linotypelaw06_awake.calls k  t394 _ A8.out ?gG).mono ?_); (case gG => exact G.below HG.out (by repeat (first | (with_reducible first | exact HB.out | apply below_alloc | apply pw_below_drewN | apply below_drew1) | exact HB.out))); rintro e w9 ⟨rfl, hb⟩; have n0_ := Aside0.mk (below_step (by repeat (first | (with_reducible first | exact HB.out | apply below_alloc | apply pw_below_drewN | apply below_drew1) | exact HB.out)) hb); clear HB; have HB := n0_; clear n0_; (try clear hb); (try clear hb2); (try clear hk); (try clear hi)))
   go_ret
   exact ⟨by first | (exact congrArg (fun b_ => Ending.returned (.bool b_)) HQ0.out) | rfl | (simp [errW_none, errW_some] <;> rfl) | (simp [*, errW_none, errW_some] <;> rfl), by repeat (first | (with_reducible first | exact HB.out | apply below_alloc | apply pw_below_drewN | apply below_drew1) | exact HB.out)⟩
  ·rw [if_neg c7] at H
   have c7b0 : (t391 == t393) = false := beq_eq_false_iff_ne.mpr c7
   have c7b1 : (t391 != t393) = true := bne_iff_ne.mpr c7
   exact absurd H (by simp)
 ·rw [if_neg c6] at H
  have c6b0 : (t390 == t392) = false := beq_eq_false_iff_ne.mpr c6
  have c6b1 : (t390 != t392) = true := bne_iff_ne.mpr c6
  exact absurd H (by simp)

/-- THE ONE PURE STATEMENT of linotypelaw06_OperandImm: yours. -/
def linotypelaw06_OperandImm.Pure : Prop := ∀ (a0 : Int) (a1 : Int) (a2 : Bool), (Lit.int .i64 a0).wf = true → (Lit.int .i64 a1).wf = true → ∃ k, linotypelaw06_OperandImm.f k a0 a1 a2 = some true
theorem linotypelaw06_OperandImm.walk (P : linotypelaw06_OperandImm.Pure) (a0 : Int) (a1 : Int) (a2 : Bool) (w : World) (w0 : (Lit.int .i64 a0).wf = true) (w1 : (Lit.int .i64 a1).wf = true) (hG : G w) :
  Calls Tryd.prog 8 #[.int .i64 a0, .int .i64 a1, .bool a2] w fun e w' => e = .returned (.bool true) ∧ Below w.heap.size w w' := by
 obtain ⟨k, h⟩ := P a0 a1 a2 w0 w1
 refine (linotypelaw06_OperandImm.calls k a0 a1 a2 w h hG).mono ?_
 rintro e w' ⟨rfl, hd⟩
 exact ⟨rfl, hd⟩

end Go.Proofs.YtceofdchbolidaaDoor.XAll
