/-
  No cell of these rows narrows 'for every input' (looked for: loops, veiled, ifaces, maps, wideKeys, modest, calm, conditions, laid).
  DERIVED. THE GIVEN ROWS OF THIS SEAT. 4 by the template 'for every input the law returns true; each argument reads behind the call as it read before'; 0 by the template 'total and deterministic' (their statements: YtdolgppbkfnjlaaTotals.lean).
  GIVEN WITH THE SEED: the statements are not yours to turn. If you find one false, say at which input.
  Laid BY PROGRAM, IN A SANDBOX (cutbox-rows.mjs): the forced cells as the released guide's own fill.sh prints them over the translation bc9048dd6b2f7fa6… (all of the seat's roots in one cut). By AI agents, Wed Nov 11 2026. No macro, syntax, notation, axiom, sorry.
-/
import Derived.Test.YtdolgppbkfnjlaaChecked
import GoSem.Claim
import GoSem.ClaimJoined
import GoSem.ClaimMapViews
import Derived.JoinedTies
import Derived.KernelRfl
namespace Go.Proofs.Ytdolgppbkfnjlaa
/- THE CELL 'sum', in the pinned program and in every row, IS THE sha256 OF THE DUMP (.gsa) THAT YtdolgppbkfnjlaaProg.lean LOADS. Nothing in Lean hashes anything: it is a label: what it is worth is what the hold of that sum in a sandbox is worth. -/
noncomputable def Try.pinned : Pinned := { name := "ytdolgppbkfnjlaa", sum := "bc9048dd6b2f7fa6c282c9d2fb9e9d99050b29113380e7cb9234924974ff81bc", checked := Try.checked }
namespace Rows
def none {H : Type} : Left H := { results := [], args := [] }

/-- 'workflowlaw05.DrawNumbers': WHATEVER THE INPUT: true; the input reads as it did. -/
def drawNumbersSpec : ChangeSpec := { name := "drawNumbers", fn := fun _ => fun
  | [d1, d2, d3] => { results := [.lit (.bool true)], args := [d1, d2, d3] }
  | _ => none }
def drawNumbersRow : OpenClaim := { program := "ytdolgppbkfnjlaa", sum := "bc9048dd6b2f7fa6c282c9d2fb9e9d99050b29113380e7cb9234924974ff81bc", func := "workflow/workflowlaw05.DrawNumbers", spec := "drawNumbers", apart := false }
def DrawNumbersSaid : Prop := drawNumbersRow.holds Try.pinned (OpenSpec.ofChange drawNumbersSpec)

/-- ITS FALSE NEIGHBOUR: 'it returns false'. Refute it at one input. -/
def drawNumbersWrong : ChangeSpec := { name := "drawNumbers", fn := fun _ => fun
  | [d1, d2, d3] => { results := [.lit (.bool false)], args := [d1, d2, d3] }
  | _ => none }
def DrawNumbersWrongFalsely : Prop := drawNumbersRow.holds Try.pinned (OpenSpec.ofChange drawNumbersWrong)

/-- 'workflowlaw05.DrawJitters': WHATEVER THE INPUT: true; the input reads as it did. -/
def drawJittersSpec : ChangeSpec := { name := "drawJitters", fn := fun _ => fun
  | [d1, d2, d3] => { results := [.lit (.bool true)], args := [d1, d2, d3] }
  | _ => none }
def drawJittersRow : OpenClaim := { program := "ytdolgppbkfnjlaa", sum := "bc9048dd6b2f7fa6c282c9d2fb9e9d99050b29113380e7cb9234924974ff81bc", func := "workflow/workflowlaw05.DrawJitters", spec := "drawJitters", apart := false }
def DrawJittersSaid : Prop := drawJittersRow.holds Try.pinned (OpenSpec.ofChange drawJittersSpec)

/-- ITS FALSE NEIGHBOUR: 'it returns false'. Refute it at one input. -/
def drawJittersWrong : ChangeSpec := { name := "drawJitters", fn := fun _ => fun
  | [d1, d2, d3] => { results := [.lit (.bool false)], args := [d1, d2, d3] }
  | _ => none }
def DrawJittersWrongFalsely : Prop := drawJittersRow.holds Try.pinned (OpenSpec.ofChange drawJittersWrong)

/-- 'workflowlaw05.DrawBounds': WHATEVER THE INPUT: true; the input reads as it did. -/
def drawBoundsSpec : ChangeSpec := { name := "drawBounds", fn := fun _ => fun
  | [d1, d2, d3] => { results := [.lit (.bool true)], args := [d1, d2, d3] }
  | _ => none }
def drawBoundsRow : OpenClaim := { program := "ytdolgppbkfnjlaa", sum := "bc9048dd6b2f7fa6c282c9d2fb9e9d99050b29113380e7cb9234924974ff81bc", func := "workflow/workflowlaw05.DrawBounds", spec := "drawBounds", apart := false }
def DrawBoundsSaid : Prop := drawBoundsRow.holds Try.pinned (OpenSpec.ofChange drawBoundsSpec)

/-- ITS FALSE NEIGHBOUR: 'it returns false'. Refute it at one input. -/
def drawBoundsWrong : ChangeSpec := { name := "drawBounds", fn := fun _ => fun
  | [d1, d2, d3] => { results := [.lit (.bool false)], args := [d1, d2, d3] }
  | _ => none }
def DrawBoundsWrongFalsely : Prop := drawBoundsRow.holds Try.pinned (OpenSpec.ofChange drawBoundsWrong)

/-- 'workflowlaw05.DrawSeeds': WHATEVER THE INPUT: true; the input reads as it did. -/
def drawSeedsSpec : ChangeSpec := { name := "drawSeeds", fn := fun _ => fun
  | [d1, d2] => { results := [.lit (.bool true)], args := [d1, d2] }
  | _ => none }
def drawSeedsRow : OpenClaim := { program := "ytdolgppbkfnjlaa", sum := "bc9048dd6b2f7fa6c282c9d2fb9e9d99050b29113380e7cb9234924974ff81bc", func := "workflow/workflowlaw05.DrawSeeds", spec := "drawSeeds", apart := false }
def DrawSeedsSaid : Prop := drawSeedsRow.holds Try.pinned (OpenSpec.ofChange drawSeedsSpec)

/-- ITS FALSE NEIGHBOUR: 'it returns false'. Refute it at one input. -/
def drawSeedsWrong : ChangeSpec := { name := "drawSeeds", fn := fun _ => fun
  | [d1, d2] => { results := [.lit (.bool false)], args := [d1, d2] }
  | _ => none }
def DrawSeedsWrongFalsely : Prop := drawSeedsRow.holds Try.pinned (OpenSpec.ofChange drawSeedsWrong)

/- THE SECOND FORM. 'bulk': how many values and letters a reading holds, each counted each time it is reached (what is shared counts as often as it is met; a slice's spare places count too). A statement '..UptoSaid' is the law's where the arguments, and the package variables that the reading takes, are together of bulk at most 1048576: NARROWER than '..Said'. Prove '..Said' where nothing that the law and all that it calls make is longer than what came in: it says more and counts as full. Else prove '..UptoSaid'. A law counts once. -/
mutual
def uptoBulk {H : Type} : DataW H → Nat
  | .lit (.string bytes) => bytes.length + 1
  | .lit _ => 1
  | .nil => 1
  | .ptr d => uptoBulk d + 1
  | .slice elems spare => uptoBulkAll elems + uptoBulkAll spare + 1
  | .agg parts => uptoBulkAll parts + 1
  | .iface _ d => uptoBulk d + 1
  | .map entries => uptoBulkEntries entries + 1
  | .held _ => 1
def uptoBulkAll {H : Type} : List (DataW H) → Nat
  | [] => 0
  | d :: r => uptoBulk d + uptoBulkAll r
def uptoBulkEntries {H : Type} : List (Lit × DataW H) → Nat
  | [] => 0
  | x :: r => uptoBulkEntry x + uptoBulkEntries r
def uptoBulkEntry {H : Type} : Lit × DataW H → Nat
  | (.string bytes, d) => bytes.length + uptoBulk d + 1
  | (_, d) => uptoBulk d + 1
 end
def uptoSmall : (H : Type) → List (DataW H) → Bool := fun _ ds => decide (uptoBulkAll ds ≤ 1048576)
def OpenSpec.upto (s : _root_.Go.ChangeSpec) : _root_.Go.OpenSpec := { _root_.Go.OpenSpec.ofChange s with cond := some uptoSmall }

/-- 'workflowlaw05.DrawNumbers', WHERE WHAT IT READS IS OF BULK AT MOST 1048576: true; the input reads as it did. -/
def drawNumbersUptoRow : OpenClaim := { program := "ytdolgppbkfnjlaa", sum := "bc9048dd6b2f7fa6c282c9d2fb9e9d99050b29113380e7cb9234924974ff81bc", func := "workflow/workflowlaw05.DrawNumbers", spec := "drawNumbers", apart := false, narrowed := true }
def DrawNumbersUptoSaid : Prop := drawNumbersUptoRow.holds Try.pinned (OpenSpec.upto drawNumbersSpec)

/-- 'workflowlaw05.DrawJitters', WHERE WHAT IT READS IS OF BULK AT MOST 1048576: true; the input reads as it did. -/
def drawJittersUptoRow : OpenClaim := { program := "ytdolgppbkfnjlaa", sum := "bc9048dd6b2f7fa6c282c9d2fb9e9d99050b29113380e7cb9234924974ff81bc", func := "workflow/workflowlaw05.DrawJitters", spec := "drawJitters", apart := false, narrowed := true }
def DrawJittersUptoSaid : Prop := drawJittersUptoRow.holds Try.pinned (OpenSpec.upto drawJittersSpec)

/-- 'workflowlaw05.DrawBounds', WHERE WHAT IT READS IS OF BULK AT MOST 1048576: true; the input reads as it did. -/
def drawBoundsUptoRow : OpenClaim := { program := "ytdolgppbkfnjlaa", sum := "bc9048dd6b2f7fa6c282c9d2fb9e9d99050b29113380e7cb9234924974ff81bc", func := "workflow/workflowlaw05.DrawBounds", spec := "drawBounds", apart := false, narrowed := true }
def DrawBoundsUptoSaid : Prop := drawBoundsUptoRow.holds Try.pinned (OpenSpec.upto drawBoundsSpec)

/-- 'workflowlaw05.DrawSeeds', WHERE WHAT IT READS IS OF BULK AT MOST 1048576: true; the input reads as it did. -/
def drawSeedsUptoRow : OpenClaim := { program := "ytdolgppbkfnjlaa", sum := "bc9048dd6b2f7fa6c282c9d2fb9e9d99050b29113380e7cb9234924974ff81bc", func := "workflow/workflowlaw05.DrawSeeds", spec := "drawSeeds", apart := false, narrowed := true }
def DrawSeedsUptoSaid : Prop := drawSeedsUptoRow.holds Try.pinned (OpenSpec.upto drawSeedsSpec)

end Rows
end Go.Proofs.Ytdolgppbkfnjlaa
