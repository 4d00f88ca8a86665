/- Each Go function that the statement reaches, as a Lean function, and the proof that the Go code comes to its answers, written by a program of this session (a turned copy of the print, which takes ^x of an unsigned number, too). No condition beyond those stated. -/
import Derived.Test.YtpghpllbliadkaaProg
import Derived.Below
import Derived.Deep.Draws
import Derived.Deep.AppendLies
import Derived.Maps.AppendAt
import Derived.OwnWalk
import Derived.Laws.BytesArg
import Derived.Laws.MakeOwn
import Derived.Laws.OwnMore
import Derived.Deep.OwnRows
import Derived.Tactics
import Derived.Lib.ConvBytes
import Derived.Laws.Slices
import Derived.WalkKit
import Derived.KernelRfl
import Derived.RowKit3
import Derived.Deep.LoopGhost
import Derived.Deep.QuietTactic
import Derived.BigQuiet
import Derived.WideLaws
import Derived.Deep.DeepCutAuto
import Derived.Deep.CutBlock
import Derived.Deep.RegionHeld3
import Derived.Laws.Rows
import Derived.Lib.AppendStr
import Derived.ArgAppend
import Derived.Laws.IdiomCopy
import Derived.OrdersHeld
import Derived.Laws.BitsLemmas
import Derived.RowKit
import Derived.Test.YtpghpllbliadkaaWWords
import Derived.Test.YtpghpllbliadkaaWLast
import Derived.Test.YtpghpllbliadkaaWTab
import Derived.Test.YtpghpllbliadkaaWFour
import Derived.Test.YtpghpllbliadkaaWQPut
import Derived.Test.YtpghpllbliadkaaWApart
import Derived.Test.YtpghpllbliadkaaWArr
import Derived.Test.YtpghpllbliadkaaWZeros
import Derived.Test.YtpghpllbliadkaaWFoot
import Derived.Test.YtpghpllbliadkaaWKept
import Derived.Test.YtpghpllbliadkaaWShare
import Derived.Test.YtpghpllbliadkaaWN
import Derived.Test.YtpghpllbliadkaaWFootNe
import Derived.Test.YtpghpllbliadkaaWAt
import Derived.Test.YtpghpllbliadkaaWEqStruct
import Derived.Test.YtpghpllbliadkaaWRepsOne
import Derived.Test.YtpghpllbliadkaaWInv
import Derived.Test.YtpghpllbliadkaaWInvWords
import Derived.Test.YtpghpllbliadkaaWGuard
import Derived.Test.YtpghpllbliadkaaWNEv
import Derived.Test.YtpghpllbliadkaaWMore
namespace Go.Proofs.Ytpghpllbliadkaa.PAll
open Go.RowKit Go.Proofs.YtpghpllbliadkaaW.PrintWords Go.Proofs.YtpghpllbliadkaaW.PrintLast Go.Proofs.YtpghpllbliadkaaW.PrintMore
attribute [local go_sem] max2_int min2_int max_two min_two max_three min_three max_four min_four   -- for this text's walks alone
set_option linter.unusedVariables false
set_option linter.unusedSimpArgs false



def errW : Option Int → Value
  | none => .nilIface
  | some c => .iface 0 (.int .i64 c)
theorem errW_none : errW none = .nilIface := rfl
theorem errW_some (c : Int) : errW (some c) = .iface 0 (.int .i64 c) := rfl

theorem info5 : (Try.prog.info? 5).map (fun i => (i.zero, i.size, i.bytes)) = some (some (.int .u8 0), 1, 1) := by kernel_rfl
-- the values' own types

end Go.Proofs.Ytpghpllbliadkaa.PAll
