-- Written by a program of this session: a turn of the kit's print over contracts that were proved by hand. Not trusted: Lean checks it.
import Derived.Test.YtaejmgdpnnhpmaaDoorProg
import Derived.Below
import Derived.Deep.Draws
import Derived.Deep.AppendLies
import Derived.Maps.AppendAt
import Derived.OwnWalk
import Derived.Laws.BytesArg
import Derived.Laws.MakeOwn
import Derived.Laws.OwnMore
import Derived.Deep.OwnRows
import Derived.Tactics
import Derived.Lib.ConvBytes
import Derived.Laws.Slices
import Derived.WalkKit
import Derived.KernelRfl
import Derived.RowKit3
import Derived.Deep.LoopGhost
import Derived.Deep.QuietTactic
import Derived.BigQuiet
import Derived.WideLaws
import Derived.Deep.DeepCutAuto
import Derived.Deep.CutBlock
import Derived.Deep.RegionHeld3
import Derived.Laws.Rows
import Derived.Lib.AppendStr
import Derived.ArgAppend
import Derived.Laws.IdiomCopy
import Derived.OrdersHeld
import Derived.Laws.BitsLemmas
import Derived.RowKit
import Derived.Test.YtaejmgdpnnhpmaaDoorWWords
import Derived.Test.YtaejmgdpnnhpmaaDoorWLast
import Derived.Test.YtaejmgdpnnhpmaaDoorWTab
import Derived.Test.YtaejmgdpnnhpmaaDoorWFour
import Derived.Test.YtaejmgdpnnhpmaaDoorWQPut
import Derived.Test.YtaejmgdpnnhpmaaDoorWApart
import Derived.Test.YtaejmgdpnnhpmaaDoorWArr
import Derived.Test.YtaejmgdpnnhpmaaDoorWZeros
import Derived.Test.YtaejmgdpnnhpmaaDoorWFoot
import Derived.Test.YtaejmgdpnnhpmaaDoorWKept
import Derived.Test.YtaejmgdpnnhpmaaDoorWShare
import Derived.Test.YtaejmgdpnnhpmaaDoorWN
import Derived.Test.YtaejmgdpnnhpmaaDoorWFootNe
import Derived.Test.YtaejmgdpnnhpmaaDoorWAt
import Derived.Test.YtaejmgdpnnhpmaaDoorWEqStruct
import Derived.Test.YtaejmgdpnnhpmaaDoorWRepsOne
import Derived.Test.YtaejmgdpnnhpmaaDoorWInv
import Derived.Test.YtaejmgdpnnhpmaaDoorWInvWords
import Derived.Test.YtaejmgdpnnhpmaaDoorWGuard
import Derived.Test.YtaejmgdpnnhpmaaDoorWNEv
import Derived.Test.YtaejmgdpnnhpmaaDoorWMore
namespace Go.Proofs.YtaejmgdpnnhpmaaDoor.QWhiteTurns
open Go.RowKit Go.Proofs.YtaejmgdpnnhpmaaDoorW.PrintWords Go.Proofs.YtaejmgdpnnhpmaaDoorW.PrintLast Go.Proofs.YtaejmgdpnnhpmaaDoorW.PrintMore
attribute [local go_sem] max2_int min2_int max_two min_two max_three min_three max_four min_four   -- for this text's walks alone
set_option linter.unusedVariables false
set_option linter.unusedSimpArgs false



def errW : Option Int → Value
  | none => .nilIface
  | some c => .iface 0 (.int .i64 c)
theorem errW_none : errW none = .nilIface := rfl
theorem errW_some (c : Int) : errW (some c) = .iface 0 (.int .i64 c) := rfl

theorem info5 : (Tryd.prog.info? 5).map (fun i => (i.zero, i.size, i.bytes)) = some (some (.int .u8 0), 1, 1) := by kernel_rfl
-- the values' own types

end Go.Proofs.YtaejmgdpnnhpmaaDoor.QWhiteTurns
