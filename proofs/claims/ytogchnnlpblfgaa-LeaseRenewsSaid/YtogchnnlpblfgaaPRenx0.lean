/- Each Go function that the statement reaches, as a Lean function, and the proof that the Go code comes to its answers, written by a program of this session (a turned copy of the print, which takes ^x of an unsigned number, too). No condition beyond those stated. -/
import Derived.Test.YtogchnnlpblfgaaProg
import Derived.Below
import Derived.Deep.Draws
import Derived.Deep.AppendLies
import Derived.Maps.AppendAt
import Derived.OwnWalk
import Derived.Laws.BytesArg
import Derived.Laws.MakeOwn
import Derived.Laws.OwnMore
import Derived.Deep.OwnRows
import Derived.Tactics
import Derived.Lib.ConvBytes
import Derived.Laws.Slices
import Derived.WalkKit
import Derived.KernelRfl
import Derived.RowKit3
import Derived.Deep.LoopGhost
import Derived.Deep.QuietTactic
import Derived.BigQuiet
import Derived.WideLaws
import Derived.Deep.DeepCutAuto
import Derived.Deep.CutBlock
import Derived.Deep.RegionHeld3
import Derived.Laws.Rows
import Derived.Lib.AppendStr
import Derived.ArgAppend
import Derived.Laws.IdiomCopy
import Derived.OrdersHeld
import Derived.Laws.BitsLemmas
import Derived.RowKit
import Derived.Test.YtogchnnlpblfgaaWWords
import Derived.Test.YtogchnnlpblfgaaWLast
import Derived.Test.YtogchnnlpblfgaaWTab
import Derived.Test.YtogchnnlpblfgaaWFour
import Derived.Test.YtogchnnlpblfgaaWQPut
import Derived.Test.YtogchnnlpblfgaaWApart
import Derived.Test.YtogchnnlpblfgaaWArr
import Derived.Test.YtogchnnlpblfgaaWZeros
import Derived.Test.YtogchnnlpblfgaaWFoot
import Derived.Test.YtogchnnlpblfgaaWKept
import Derived.Test.YtogchnnlpblfgaaWShare
import Derived.Test.YtogchnnlpblfgaaWN
import Derived.Test.YtogchnnlpblfgaaWFootNe
import Derived.Test.YtogchnnlpblfgaaWAt
import Derived.Test.YtogchnnlpblfgaaWEqStruct
import Derived.Test.YtogchnnlpblfgaaWRepsOne
import Derived.Test.YtogchnnlpblfgaaWInv
import Derived.Test.YtogchnnlpblfgaaWInvWords
import Derived.Test.YtogchnnlpblfgaaWGuard
import Derived.Test.YtogchnnlpblfgaaWNEv
import Derived.Test.YtogchnnlpblfgaaWMore
namespace Go.Proofs.Ytogchnnlpblfgaa.PRen
open Go.RowKit Go.Proofs.YtogchnnlpblfgaaW.PrintWords Go.Proofs.YtogchnnlpblfgaaW.PrintLast Go.Proofs.YtogchnnlpblfgaaW.PrintMore
attribute [local go_sem] max2_int min2_int max_two min_two max_three min_three max_four min_four   -- for this text's walks alone
set_option linter.unusedVariables false
set_option linter.unusedSimpArgs false



def errW : Option Int → Value
  | none => .nilIface
  | some c => .iface 0 (.int .i64 c)
theorem errW_none : errW none = .nilIface := rfl
theorem errW_some (c : Int) : errW (some c) = .iface 0 (.int .i64 c) := rfl

-- the values' own types

end Go.Proofs.Ytogchnnlpblfgaa.PRen
