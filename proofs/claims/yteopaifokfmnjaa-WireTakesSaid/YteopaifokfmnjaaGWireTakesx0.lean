/- Written by gprint.py of this session: the kit's printer, with functions that are proved by hand put in. -/
import Derived.Test.YteopaifokfmnjaaProg
import Derived.Below
import Derived.Deep.Draws
import Derived.Deep.AppendLies
import Derived.Maps.AppendAt
import Derived.OwnWalk
import Derived.Laws.BytesArg
import Derived.Laws.MakeOwn
import Derived.Laws.OwnMore
import Derived.Deep.OwnRows
import Derived.Tactics
import Derived.Lib.ConvBytes
import Derived.Laws.Slices
import Derived.WalkKit
import Derived.KernelRfl
import Derived.RowKit3
import Derived.Deep.LoopGhost
import Derived.Deep.QuietTactic
import Derived.BigQuiet
import Derived.WideLaws
import Derived.Deep.DeepCutAuto
import Derived.Deep.CutBlock
import Derived.Deep.RegionHeld3
import Derived.Laws.Rows
import Derived.Lib.AppendStr
import Derived.ArgAppend
import Derived.Laws.IdiomCopy
import Derived.OrdersHeld
import Derived.Laws.BitsLemmas
import Derived.RowKit
import Derived.Test.YteopaifokfmnjaaPt
import Derived.Test.YteopaifokfmnjaaTk
import Derived.Test.YteopaifokfmnjaaCl
import Derived.Test.YteopaifokfmnjaaWWords
import Derived.Test.YteopaifokfmnjaaWLast
import Derived.Test.YteopaifokfmnjaaWTab
import Derived.Test.YteopaifokfmnjaaWFour
import Derived.Test.YteopaifokfmnjaaWQPut
import Derived.Test.YteopaifokfmnjaaWApart
import Derived.Test.YteopaifokfmnjaaWArr
import Derived.Test.YteopaifokfmnjaaWZeros
import Derived.Test.YteopaifokfmnjaaWFoot
import Derived.Test.YteopaifokfmnjaaWKept
import Derived.Test.YteopaifokfmnjaaWShare
import Derived.Test.YteopaifokfmnjaaWN
import Derived.Test.YteopaifokfmnjaaWFootNe
import Derived.Test.YteopaifokfmnjaaWAt
import Derived.Test.YteopaifokfmnjaaWEqStruct
import Derived.Test.YteopaifokfmnjaaWRepsOne
import Derived.Test.YteopaifokfmnjaaWInv
import Derived.Test.YteopaifokfmnjaaWInvWords
import Derived.Test.YteopaifokfmnjaaWGuard
import Derived.Test.YteopaifokfmnjaaWNEv
import Derived.Test.YteopaifokfmnjaaWMore
import Derived.Test.YteopaifokfmnjaaBase
namespace Go.Proofs.Yteopaifokfmnjaa.GWireTakes
open Go.Proofs.Yteopaifokfmnjaa.Pt Go.Proofs.Yteopaifokfmnjaa.Tk Go.Proofs.Yteopaifokfmnjaa.Cl
open Go.RowKit Go.Proofs.YteopaifokfmnjaaW.PrintWords Go.Proofs.YteopaifokfmnjaaW.PrintLast Go.Proofs.YteopaifokfmnjaaW.PrintMore
attribute [local go_sem] max2_int min2_int max_two min_two max_three min_three max_four min_four   -- for this text's walks alone
set_option linter.unusedVariables false
set_option linter.unusedSimpArgs false



def errW : Option Int → Value
  | none => .nilIface
  | some c => .iface 0 (.int .i64 c)
theorem errW_none : errW none = .nilIface := rfl
theorem errW_some (c : Int) : errW (some c) = .iface 0 (.int .i64 c) := rfl

theorem info5 : (Try.prog.info? 5).map (fun i => (i.zero, i.size, i.bytes)) = some (some (.int .u8 0), 1, 1) := by kernel_rfl
-- the values' own types

end Go.Proofs.Yteopaifokfmnjaa.GWireTakes
