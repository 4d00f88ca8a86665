/- Each Go function that the statement reaches, as a Lean function, and the proof that the Go code comes to its answers, written by a program of this session (a turned copy of the print, which takes ^x of an unsigned number, too). No condition beyond those stated. -/
import Derived.Test.YtdolgppbkfnjlaaProg
import Derived.Below
import Derived.Deep.Draws
import Derived.Deep.AppendLies
import Derived.Maps.AppendAt
import Derived.OwnWalk
import Derived.Laws.BytesArg
import Derived.Laws.MakeOwn
import Derived.Laws.OwnMore
import Derived.Deep.OwnRows
import Derived.Tactics
import Derived.Lib.ConvBytes
import Derived.Laws.Slices
import Derived.WalkKit
import Derived.KernelRfl
import Derived.RowKit3
import Derived.Deep.LoopGhost
import Derived.Deep.QuietTactic
import Derived.BigQuiet
import Derived.WideLaws
import Derived.Deep.DeepCutAuto
import Derived.Deep.CutBlock
import Derived.Deep.RegionHeld3
import Derived.Laws.Rows
import Derived.Lib.AppendStr
import Derived.ArgAppend
import Derived.Laws.IdiomCopy
import Derived.OrdersHeld
import Derived.Laws.BitsLemmas
import Derived.RowKit
import Derived.Test.YtdolgppbkfnjlaaWWords
import Derived.Test.YtdolgppbkfnjlaaWLast
import Derived.Test.YtdolgppbkfnjlaaWTab
import Derived.Test.YtdolgppbkfnjlaaWFour
import Derived.Test.YtdolgppbkfnjlaaWQPut
import Derived.Test.YtdolgppbkfnjlaaWApart
import Derived.Test.YtdolgppbkfnjlaaWArr
import Derived.Test.YtdolgppbkfnjlaaWZeros
import Derived.Test.YtdolgppbkfnjlaaWFoot
import Derived.Test.YtdolgppbkfnjlaaWKept
import Derived.Test.YtdolgppbkfnjlaaWShare
import Derived.Test.YtdolgppbkfnjlaaWN
import Derived.Test.YtdolgppbkfnjlaaWFootNe
import Derived.Test.YtdolgppbkfnjlaaWAt
import Derived.Test.YtdolgppbkfnjlaaWEqStruct
import Derived.Test.YtdolgppbkfnjlaaWRepsOne
import Derived.Test.YtdolgppbkfnjlaaWInv
import Derived.Test.YtdolgppbkfnjlaaWInvWords
import Derived.Test.YtdolgppbkfnjlaaWGuard
import Derived.Test.YtdolgppbkfnjlaaWNEv
import Derived.Test.YtdolgppbkfnjlaaWMore
namespace Go.Proofs.Ytdolgppbkfnjlaa.PAll
open Go.RowKit Go.Proofs.YtdolgppbkfnjlaaW.PrintWords Go.Proofs.YtdolgppbkfnjlaaW.PrintLast Go.Proofs.YtdolgppbkfnjlaaW.PrintMore
attribute [local go_sem] max2_int min2_int max_two min_two max_three min_three max_four min_four   -- for this text's walks alone
set_option linter.unusedVariables false
set_option linter.unusedSimpArgs false



def errW : Option Int → Value
  | none => .nilIface
  | some c => .iface 0 (.int .i64 c)
theorem errW_none : errW none = .nilIface := rfl
theorem errW_some (c : Int) : errW (some c) = .iface 0 (.int .i64 c) := rfl

theorem info5 : (Try.prog.info? 5).map (fun i => (i.zero, i.size, i.bytes)) = some (some (.int .u8 0), 1, 1) := by kernel_rfl
-- the values' own types

end Go.Proofs.Ytdolgppbkfnjlaa.PAll
