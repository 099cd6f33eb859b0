/- The closed law of layer 27, over numbers and lists. -/
import Derived.Test.YtlmpecahmmgphaaXLayx15
namespace Go.Proofs.Ytlmpecahmmgphaa.PureLk
open Go.Proofs.Ytlmpecahmmgphaa.XLay
theorem LayoutKnown : ∃ k, linotypelaw27_LayoutKnown.f k = some true := ⟨40, by decide +kernel⟩
end Go.Proofs.Ytlmpecahmmgphaa.PureLk
