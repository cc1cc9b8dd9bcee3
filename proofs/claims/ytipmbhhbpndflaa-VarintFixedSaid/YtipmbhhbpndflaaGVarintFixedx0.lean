/- Written by gprint.py of this session: the kit's printer, with functions that are proved by hand put in. -/
import Derived.Test.YtipmbhhbpndflaaProg
import Derived.Below
import Derived.Deep.Draws
import Derived.Deep.AppendLies
import Derived.Maps.AppendAt
import Derived.OwnWalk
import Derived.Laws.BytesArg
import Derived.Laws.MakeOwn
import Derived.Laws.OwnMore
import Derived.Deep.OwnRows
import Derived.Tactics
import Derived.Lib.ConvBytes
import Derived.Laws.Slices
import Derived.WalkKit
import Derived.KernelRfl
import Derived.RowKit3
import Derived.Deep.LoopGhost
import Derived.Deep.QuietTactic
import Derived.BigQuiet
import Derived.WideLaws
import Derived.Deep.DeepCutAuto
import Derived.Deep.CutBlock
import Derived.Deep.RegionHeld3
import Derived.Laws.Rows
import Derived.Lib.AppendStr
import Derived.ArgAppend
import Derived.Laws.IdiomCopy
import Derived.OrdersHeld
import Derived.Laws.BitsLemmas
import Derived.RowKit
import Derived.Test.YtipmbhhbpndflaaWWords
import Derived.Test.YtipmbhhbpndflaaWLast
import Derived.Test.YtipmbhhbpndflaaWTab
import Derived.Test.YtipmbhhbpndflaaWFour
import Derived.Test.YtipmbhhbpndflaaWQPut
import Derived.Test.YtipmbhhbpndflaaWApart
import Derived.Test.YtipmbhhbpndflaaWArr
import Derived.Test.YtipmbhhbpndflaaWZeros
import Derived.Test.YtipmbhhbpndflaaWFoot
import Derived.Test.YtipmbhhbpndflaaWKept
import Derived.Test.YtipmbhhbpndflaaWShare
import Derived.Test.YtipmbhhbpndflaaWN
import Derived.Test.YtipmbhhbpndflaaWFootNe
import Derived.Test.YtipmbhhbpndflaaWAt
import Derived.Test.YtipmbhhbpndflaaWEqStruct
import Derived.Test.YtipmbhhbpndflaaWRepsOne
import Derived.Test.YtipmbhhbpndflaaWInv
import Derived.Test.YtipmbhhbpndflaaWInvWords
import Derived.Test.YtipmbhhbpndflaaWGuard
import Derived.Test.YtipmbhhbpndflaaWNEv
import Derived.Test.YtipmbhhbpndflaaWMore
import Derived.Test.YtipmbhhbpndflaaBase
namespace Go.Proofs.Ytipmbhhbpndflaa.GVarintFixed
open Go.RowKit Go.Proofs.YtipmbhhbpndflaaW.PrintWords Go.Proofs.YtipmbhhbpndflaaW.PrintLast Go.Proofs.YtipmbhhbpndflaaW.PrintMore
attribute [local go_sem] max2_int min2_int max_two min_two max_three min_three max_four min_four   -- for this text's walks alone
set_option linter.unusedVariables false
set_option linter.unusedSimpArgs false



def errW : Option Int → Value
  | none => .nilIface
  | some c => .iface 0 (.int .i64 c)
theorem errW_none : errW none = .nilIface := rfl
theorem errW_some (c : Int) : errW (some c) = .iface 0 (.int .i64 c) := rfl

theorem info5 : (Try.prog.info? 5).map (fun i => (i.zero, i.size, i.bytes)) = some (some (.int .u8 0), 1, 1) := by kernel_rfl
-- the values' own types

end Go.Proofs.Ytipmbhhbpndflaa.GVarintFixed
