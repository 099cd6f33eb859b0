/- The law OperandKnown holds: whatever the arguments, the function answers true, and leaves them as they were. Condition: the listed tables of Go's library hold what the program's text lays (the card ties it). -/
import Derived.Test.YtceofdchbolidaaDoorRows
import Derived.Test.YtceofdchbolidaaDoorCards
import Derived.Test.YtceofdchbolidaaDoorTie
import Derived.Test.YtceofdchbolidaaDoorLaw0
import Derived.Test.YtceofdchbolidaaDoorPureOperandKnown
import Derived.SevenTiedAt
namespace Go.Proofs.YtceofdchbolidaaDoor.operandKnown
open Go.ChangeShapes Go.WideShapes Go.ChangeAt Go.RowKit Go.Proofs.YtceofdchbolidaaDoor.Law0
set_option linter.unusedVariables false
set_option maxRecDepth 100000 in
theorem lifted (os : Os) (started : os.Started) (H : Type) (enc : TypeId × Value → H) :
    ReturnsInHanded {} Tryd.checked os 10 .any (fun w args => (Rows.operandKnownSpec.pre enc Tryd.prog Tryd.f10 [] false w args ∧ laidMetH Tryd.prog laid2 w) ∧ sizedMet enc Tryd.prog Tryd.f10 (OpenSpec.ofChange Rows.operandKnownSpec) false w args)
      (Rows.operandKnownSpec.post enc Tryd.prog Tryd.f10 false true false false) := by
  refine returnsInHanded_of_change_and (C := Tryd.checked) (X := fun w _ => laidMetH Tryd.prog laid2 w) (fun _ _ _ hh h => h.of_heap hh) own started (by kernel_rfl) Tryd.func10
    (ChangeSpec.witness_shaped (enc := enc) (C := Tryd.checked) (os := os) (X := fun w _ => laidMetH Tryd.prog laid2 w) false (World.doorLaid Tryd.prog 400 os) #[] 8 rfl (World.shaped_of_RefB (by kernel_rfl) (by kernel_rfl)) (by kernel_rfl) (by kernel_rfl) (by kernel_rfl) (door_met os _)) ?_
  intro W base args ds gs before hval0 hW hcnd hsz0 hL _
  have hval : ∀ (j : Nat) t v, Tryd.f10.params[j]? = some t → args[j]? = some v → Value.okWide Tryd.prog W .any base t v := hval0
  have hW' := hW
  obtain ⟨p, q, hA0, hV, rfl, hfz, hnd⟩ := hW
  have hA : DataW.TrodAll enc Tryd.prog W 0 (fun _ => true) true Tryd.f10.params.toList args.toList ds p := hA0
  rw [Tryd.params10] at hA hval
  obtain ⟨hargs, rfl, rfl⟩ := trodAll_nil hA
  obtain rfl : args = #[] := by cases args; simp_all
  obtain ⟨rfl, rfl⟩ := trodVars_none hV
  obtain ⟨k, hk⟩ := Pure2.OperandKnown 
  refine (XAll.linotypelaw06_OperandKnown.calls k  W  hk (G_of_laid hL)).mono fun e W' ⟨he, bel⟩ => ?_
  subst he
  exact ⟨_, rfl, _, _, _, [], _, [], hW', trodAll_mk1 (shut_bool Tryd.underlying4 _), trodAll_mk0, rfl, bel.frame _, fun h => by cases h⟩
theorem row_holds : Rows.OperandKnownSaid :=
  OpenClaim.holds_of_wide 10 Tryd.f10 rfl rfl rfl rfl rfl rfl rfl ⟨rfl, rfl, rfl, rfl, rfl⟩ rfl rfl rfl rfl rfl (by kernel_rfl) Tryd.func10 (by kernel_rfl)
    (of_decide_eq_true (by kernel_rfl)) (by unfold Func.isWrapper; first | (rw [if_pos (by decide +kernel)]; kernel_rfl) | (rw [if_neg (by decide +kernel)]; exact ⟨rfl, rfl⟩))
    (fun os started H enc _ => lifted os started H enc)
theorem plain (j : Nat) (t : TypeId) (ht : Tryd.f10.params[j]? = some t) : Tryd.prog.wantsStandIn t = false := by
  rw [Tryd.params10] at ht
  simp at ht
theorem card_holds : Rows.OperandKnownCardSaid :=
  Claim7.holds_tied_plain_at .later [] [.listed, .data] true (true, "dac9886f30385605a665f3873ae2cea5d0d0bf968f6bbb8df99762799e3624cb") false
    row_holds (fun _ h => by cases h) (by kernel_rfl) (fun _ h => by cases h) operandKnown_row_tie rfl ⟨rfl, rfl⟩ (by kernel_rfl) rfl
    (fun f fn hf hfn => by
      obtain rfl : f = 10 := Option.some.inj ((show Tryd.prog.funcNamed "linotype/linotypelaw06.OperandKnown" = some 10 by kernel_rfl).symm.trans hf) |>.symm
      obtain rfl : fn = Tryd.f10 := (Option.some.inj (Tryd.func10.symm.trans hfn)).symm
      exact ⟨by kernel_rfl, plain⟩)
    (by kernel_rfl)
#print axioms card_holds
end Go.Proofs.YtceofdchbolidaaDoor.operandKnown
namespace Go.Proofs.YtceofdchbolidaaDoor
/-- The card, under a short name, for the claim. -/
theorem operandKnown_holds : Rows.OperandKnownCardSaid := operandKnown.card_holds
end Go.Proofs.YtceofdchbolidaaDoor
