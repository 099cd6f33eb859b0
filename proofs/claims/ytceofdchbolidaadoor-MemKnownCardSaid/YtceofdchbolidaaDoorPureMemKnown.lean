/- The plain law of MemKnown: a closed fact. -/
import Derived.Test.YtceofdchbolidaaDoorXAllx10
namespace Go.Proofs.YtceofdchbolidaaDoor.Pure2
set_option linter.unusedVariables false
set_option linter.unusedSimpArgs false
open Go.Proofs.YtceofdchbolidaaDoor.XAll
theorem MemKnown : ∃ k, linotypelaw05_MemKnown.f k = some true := ⟨30, by decide +kernel⟩
end Go.Proofs.YtceofdchbolidaaDoor.Pure2
