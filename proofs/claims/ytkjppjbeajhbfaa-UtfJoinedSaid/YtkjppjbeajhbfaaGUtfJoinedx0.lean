/- Written by gprint.py of this session: the kit's printer, with functions that are proved by hand put in. -/
import Derived.Test.YtkjppjbeajhbfaaProg
import Derived.Below
import Derived.Deep.Draws
import Derived.Deep.AppendLies
import Derived.Maps.AppendAt
import Derived.OwnWalk
import Derived.Laws.BytesArg
import Derived.Laws.MakeOwn
import Derived.Laws.OwnMore
import Derived.Deep.OwnRows
import Derived.Tactics
import Derived.Lib.ConvBytes
import Derived.Laws.Slices
import Derived.WalkKit
import Derived.KernelRfl
import Derived.RowKit3
import Derived.Deep.LoopGhost
import Derived.Deep.QuietTactic
import Derived.BigQuiet
import Derived.WideLaws
import Derived.Deep.DeepCutAuto
import Derived.Deep.CutBlock
import Derived.Deep.RegionHeld3
import Derived.Laws.Rows
import Derived.Lib.AppendStr
import Derived.ArgAppend
import Derived.Laws.IdiomCopy
import Derived.OrdersHeld
import Derived.Laws.BitsLemmas
import Derived.RowKit
import Derived.Test.YtkjppjbeajhbfaaLst
import Derived.Test.YtkjppjbeajhbfaaRn
import Derived.Test.YtkjppjbeajhbfaaWWords
import Derived.Test.YtkjppjbeajhbfaaWLast
import Derived.Test.YtkjppjbeajhbfaaWTab
import Derived.Test.YtkjppjbeajhbfaaWFour
import Derived.Test.YtkjppjbeajhbfaaWQPut
import Derived.Test.YtkjppjbeajhbfaaWApart
import Derived.Test.YtkjppjbeajhbfaaWArr
import Derived.Test.YtkjppjbeajhbfaaWZeros
import Derived.Test.YtkjppjbeajhbfaaWFoot
import Derived.Test.YtkjppjbeajhbfaaWKept
import Derived.Test.YtkjppjbeajhbfaaWShare
import Derived.Test.YtkjppjbeajhbfaaWN
import Derived.Test.YtkjppjbeajhbfaaWFootNe
import Derived.Test.YtkjppjbeajhbfaaWAt
import Derived.Test.YtkjppjbeajhbfaaWEqStruct
import Derived.Test.YtkjppjbeajhbfaaWRepsOne
import Derived.Test.YtkjppjbeajhbfaaWInv
import Derived.Test.YtkjppjbeajhbfaaWInvWords
import Derived.Test.YtkjppjbeajhbfaaWGuard
import Derived.Test.YtkjppjbeajhbfaaWNEv
import Derived.Test.YtkjppjbeajhbfaaWMore
import Derived.Test.YtkjppjbeajhbfaaBase
namespace Go.Proofs.Ytkjppjbeajhbfaa.GUtfJoined
open Go.Proofs.Ytkjppjbeajhbfaa.Lst Go.Proofs.Ytkjppjbeajhbfaa.Rn
open Go.RowKit Go.Proofs.YtkjppjbeajhbfaaW.PrintWords Go.Proofs.YtkjppjbeajhbfaaW.PrintLast Go.Proofs.YtkjppjbeajhbfaaW.PrintMore
attribute [local go_sem] max2_int min2_int max_two min_two max_three min_three max_four min_four   -- for this text's walks alone
set_option linter.unusedVariables false
set_option linter.unusedSimpArgs false



def errW : Option Int → Value
  | none => .nilIface
  | some c => .iface 0 (.int .i64 c)
theorem errW_none : errW none = .nilIface := rfl
theorem errW_some (c : Int) : errW (some c) = .iface 0 (.int .i64 c) := rfl

theorem info5 : (Try.prog.info? 5).map (fun i => (i.zero, i.size, i.bytes)) = some (some (.int .u8 0), 1, 1) := by kernel_rfl
-- the values' own types

end Go.Proofs.Ytkjppjbeajhbfaa.GUtfJoined
