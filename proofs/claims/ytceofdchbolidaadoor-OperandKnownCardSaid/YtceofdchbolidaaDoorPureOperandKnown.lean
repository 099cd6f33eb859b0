/- The plain law of OperandKnown: a closed fact. -/
import Derived.Test.YtceofdchbolidaaDoorXAllx29
namespace Go.Proofs.YtceofdchbolidaaDoor.Pure2
set_option linter.unusedVariables false
set_option linter.unusedSimpArgs false
open Go.Proofs.YtceofdchbolidaaDoor.XAll
theorem OperandKnown : ∃ k, linotypelaw06_OperandKnown.f k = some true := ⟨30, by decide +kernel⟩
end Go.Proofs.YtceofdchbolidaaDoor.Pure2
