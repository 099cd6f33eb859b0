/- The plain law of OperandImm: both functions answer the same number or error, for any number, width and sign. Condition: the numbers have 64 bits. -/
import Derived.Test.YtceofdchbolidaaDoorXAllx26
import Derived.Test.YtceofdchbolidaaDoorPureImm
namespace Go.Proofs.YtceofdchbolidaaDoor.Pure2
set_option linter.unusedVariables false
set_option linter.unusedSimpArgs false
open Go.RowKit Go.Proofs.YtceofdchbolidaaDoor.XAll Go.Proofs.YtceofdchbolidaaDoor.Math Go.Proofs.YtceofdchbolidaaDoorW.PrintWords
theorem awake6 : linotypelaw06_awake.f 30 = some true := by decide +kernel
theorem OperandImm (n b : Int) (s : Bool) (hn : (Lit.int .i64 n).wf = true) (hb : (Lit.int .i64 b).wf = true) : ∃ k, linotypelaw06_OperandImm.f k n b s = some true := by
  refine ⟨30, ?_⟩
  unfold linotypelaw06_OperandImm.f
  rw [show (30 : Nat) = 28 + 2 from rfl, op_imm 28 n b s (wf64 hn), show (28 + 2 : Nat) = 27 + 3 from rfl, ref_imm 27 n b s (wf64 hn), show (27 + 3 : Nat) = 30 from rfl, awake6]
  simp
end Go.Proofs.YtceofdchbolidaaDoor.Pure2
