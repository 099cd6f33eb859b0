/- Laid by this seat's own program (wip/tools/printx.py) out of the translation: the functions that laws use (Tel), each with its contract. No conditions. -/
import Derived.Test.YtlmpecahmmgphaaProg
import Derived.Below
import Derived.Deep.Draws
import Derived.Deep.AppendLies
import Derived.Maps.AppendAt
import Derived.OwnWalk
import Derived.Laws.BytesArg
import Derived.Laws.MakeOwn
import Derived.Laws.OwnMore
import Derived.Deep.OwnRows
import Derived.Tactics
import Derived.Lib.ConvBytes
import Derived.Laws.Slices
import Derived.WalkKit
import Derived.KernelRfl
import Derived.RowKit3
import Derived.Deep.LoopGhost
import Derived.Deep.QuietTactic
import Derived.BigQuiet
import Derived.WideLaws
import Derived.Deep.DeepCutAuto
import Derived.Deep.CutBlock
import Derived.Deep.RegionHeld3
import Derived.Laws.Rows
import Derived.Lib.AppendStr
import Derived.ArgAppend
import Derived.Laws.IdiomCopy
import Derived.OrdersHeld
import Derived.Laws.BitsLemmas
import Derived.RowKit
import Derived.Test.YtlmpecahmmgphaaWWords
import Derived.Test.YtlmpecahmmgphaaWLast
import Derived.Test.YtlmpecahmmgphaaWTab
import Derived.Test.YtlmpecahmmgphaaWFour
import Derived.Test.YtlmpecahmmgphaaWQPut
import Derived.Test.YtlmpecahmmgphaaWApart
import Derived.Test.YtlmpecahmmgphaaWArr
import Derived.Test.YtlmpecahmmgphaaWZeros
import Derived.Test.YtlmpecahmmgphaaWFoot
import Derived.Test.YtlmpecahmmgphaaWKept
import Derived.Test.YtlmpecahmmgphaaWShare
import Derived.Test.YtlmpecahmmgphaaWN
import Derived.Test.YtlmpecahmmgphaaWFootNe
import Derived.Test.YtlmpecahmmgphaaWAt
import Derived.Test.YtlmpecahmmgphaaWEqStruct
import Derived.Test.YtlmpecahmmgphaaWRepsOne
import Derived.Test.YtlmpecahmmgphaaWInv
import Derived.Test.YtlmpecahmmgphaaWInvWords
import Derived.Test.YtlmpecahmmgphaaWGuard
import Derived.Test.YtlmpecahmmgphaaWNEv
import Derived.Test.YtlmpecahmmgphaaWMore
namespace Go.Proofs.Ytlmpecahmmgphaa.XTel
open Go.RowKit Go.Proofs.YtlmpecahmmgphaaW.PrintWords Go.Proofs.YtlmpecahmmgphaaW.PrintLast Go.Proofs.YtlmpecahmmgphaaW.PrintMore
attribute [local go_sem] max2_int min2_int max_two min_two max_three min_three max_four min_four   -- for this text's walks alone
set_option linter.unusedVariables false
set_option linter.unusedSimpArgs false



def errW : Option Int → Value
  | none => .nilIface
  | some c => .iface 0 (.int .i64 c)
theorem errW_none : errW none = .nilIface := rfl
theorem errW_some (c : Int) : errW (some c) = .iface 0 (.int .i64 c) := rfl

theorem info5 : (Try.prog.info? 5).map (fun i => (i.zero, i.size, i.bytes)) = some (some (.int .u8 0), 1, 1) := by kernel_rfl
-- the values' own types

end Go.Proofs.Ytlmpecahmmgphaa.XTel
