-- Written by a program of this session: a turn of the kit's print over contracts that were proved by hand. Not trusted: Lean checks it.
import Derived.Test.YtdmkofbndeicfaaProg
import Derived.Below
import Derived.Deep.Draws
import Derived.Deep.AppendLies
import Derived.Maps.AppendAt
import Derived.OwnWalk
import Derived.Laws.BytesArg
import Derived.Laws.MakeOwn
import Derived.Laws.OwnMore
import Derived.Deep.OwnRows
import Derived.Tactics
import Derived.Lib.ConvBytes
import Derived.Laws.Slices
import Derived.WalkKit
import Derived.KernelRfl
import Derived.RowKit3
import Derived.Deep.LoopGhost
import Derived.Deep.QuietTactic
import Derived.BigQuiet
import Derived.WideLaws
import Derived.Deep.DeepCutAuto
import Derived.Deep.CutBlock
import Derived.Deep.RegionHeld3
import Derived.Laws.Rows
import Derived.Lib.AppendStr
import Derived.ArgAppend
import Derived.Laws.IdiomCopy
import Derived.OrdersHeld
import Derived.Laws.BitsLemmas
import Derived.RowKit
import Derived.Test.YtdmkofbndeicfaaGivWhite
import Derived.Test.YtdmkofbndeicfaaWWords
import Derived.Test.YtdmkofbndeicfaaWLast
import Derived.Test.YtdmkofbndeicfaaWTab
import Derived.Test.YtdmkofbndeicfaaWFour
import Derived.Test.YtdmkofbndeicfaaWQPut
import Derived.Test.YtdmkofbndeicfaaWApart
import Derived.Test.YtdmkofbndeicfaaWArr
import Derived.Test.YtdmkofbndeicfaaWZeros
import Derived.Test.YtdmkofbndeicfaaWFoot
import Derived.Test.YtdmkofbndeicfaaWKept
import Derived.Test.YtdmkofbndeicfaaWShare
import Derived.Test.YtdmkofbndeicfaaWN
import Derived.Test.YtdmkofbndeicfaaWFootNe
import Derived.Test.YtdmkofbndeicfaaWAt
import Derived.Test.YtdmkofbndeicfaaWEqStruct
import Derived.Test.YtdmkofbndeicfaaWRepsOne
import Derived.Test.YtdmkofbndeicfaaWInv
import Derived.Test.YtdmkofbndeicfaaWInvWords
import Derived.Test.YtdmkofbndeicfaaWGuard
import Derived.Test.YtdmkofbndeicfaaWNEv
import Derived.Test.YtdmkofbndeicfaaWMore
namespace Go.Proofs.Ytdmkofbndeicfaa.QWhiteCollapses
open Go.RowKit Go.Proofs.YtdmkofbndeicfaaW.PrintWords Go.Proofs.YtdmkofbndeicfaaW.PrintLast Go.Proofs.YtdmkofbndeicfaaW.PrintMore
attribute [local go_sem] max2_int min2_int max_two min_two max_three min_three max_four min_four   -- for this text's walks alone
set_option linter.unusedVariables false
set_option linter.unusedSimpArgs false



def errW : Option Int → Value
  | none => .nilIface
  | some c => .iface 0 (.int .i64 c)
theorem errW_none : errW none = .nilIface := rfl
theorem errW_some (c : Int) : errW (some c) = .iface 0 (.int .i64 c) := rfl

theorem info5 : (Try.prog.info? 5).map (fun i => (i.zero, i.size, i.bytes)) = some (some (.int .u8 0), 1, 1) := by kernel_rfl
-- the values' own types

end Go.Proofs.Ytdmkofbndeicfaa.QWhiteCollapses
