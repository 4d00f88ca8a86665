/-
  No cell of these rows narrows 'for every input' (looked for: loops, veiled, ifaces, maps, wideKeys, modest, calm, conditions, laid).
  DERIVED. THE GIVEN ROWS OF THIS SEAT. 4 by the template 'for every input the law returns true; each argument reads behind the call as it read before'; 0 by the template 'total and deterministic' (their statements: YtogchnnlpblfgaaTotals.lean).
  GIVEN WITH THE SEED: the statements are not yours to turn. If you find one false, say at which input.
  Laid BY PROGRAM, IN A SANDBOX (cutbox-rows.mjs): the forced cells as the released guide's own fill.sh prints them over the translation f159abb133d310f2… (all of the seat's roots in one cut). By AI agents, Wed Nov 11 2026. No macro, syntax, notation, axiom, sorry.
-/
import Derived.Test.YtogchnnlpblfgaaChecked
import GoSem.Claim
import GoSem.ClaimJoined
import GoSem.ClaimMapViews
import Derived.JoinedTies
import Derived.KernelRfl
namespace Go.Proofs.Ytogchnnlpblfgaa
/- THE CELL 'sum', in the pinned program and in every row, IS THE sha256 OF THE DUMP (.gsa) THAT YtogchnnlpblfgaaProg.lean LOADS. Nothing in Lean hashes anything: it is a label: what it is worth is what the hold of that sum in a sandbox is worth. -/
noncomputable def Try.pinned : Pinned := { name := "ytogchnnlpblfgaa", sum := "f159abb133d310f22a03c8166e3428382ba4f50d90168e3e8f8deeac6d94b01b", checked := Try.checked }
namespace Rows
def none {H : Type} : Left H := { results := [], args := [] }

/-- 'workflowlaw38.LeaseTakes': WHATEVER THE INPUT: true; the input reads as it did. -/
def leaseTakesSpec : ChangeSpec := { name := "leaseTakes", fn := fun _ => fun
  | [d1, d2, d3] => { results := [.lit (.bool true)], args := [d1, d2, d3] }
  | _ => none }
def leaseTakesRow : OpenClaim := { program := "ytogchnnlpblfgaa", sum := "f159abb133d310f22a03c8166e3428382ba4f50d90168e3e8f8deeac6d94b01b", func := "workflow/workflowlaw38.LeaseTakes", spec := "leaseTakes", apart := false }
def LeaseTakesSaid : Prop := leaseTakesRow.holds Try.pinned (OpenSpec.ofChange leaseTakesSpec)

/-- ITS FALSE NEIGHBOUR: 'it returns false'. Refute it at one input. -/
def leaseTakesWrong : ChangeSpec := { name := "leaseTakes", fn := fun _ => fun
  | [d1, d2, d3] => { results := [.lit (.bool false)], args := [d1, d2, d3] }
  | _ => none }
def LeaseTakesWrongFalsely : Prop := leaseTakesRow.holds Try.pinned (OpenSpec.ofChange leaseTakesWrong)

/-- 'workflowlaw38.LeaseGuards': WHATEVER THE INPUT: true; the input reads as it did. -/
def leaseGuardsSpec : ChangeSpec := { name := "leaseGuards", fn := fun _ => fun
  | [d1, d2] => { results := [.lit (.bool true)], args := [d1, d2] }
  | _ => none }
def leaseGuardsRow : OpenClaim := { program := "ytogchnnlpblfgaa", sum := "f159abb133d310f22a03c8166e3428382ba4f50d90168e3e8f8deeac6d94b01b", func := "workflow/workflowlaw38.LeaseGuards", spec := "leaseGuards", apart := false }
def LeaseGuardsSaid : Prop := leaseGuardsRow.holds Try.pinned (OpenSpec.ofChange leaseGuardsSpec)

/-- ITS FALSE NEIGHBOUR: 'it returns false'. Refute it at one input. -/
def leaseGuardsWrong : ChangeSpec := { name := "leaseGuards", fn := fun _ => fun
  | [d1, d2] => { results := [.lit (.bool false)], args := [d1, d2] }
  | _ => none }
def LeaseGuardsWrongFalsely : Prop := leaseGuardsRow.holds Try.pinned (OpenSpec.ofChange leaseGuardsWrong)

/-- 'workflowlaw38.LeaseExcludes': WHATEVER THE INPUT: true; the input reads as it did. -/
def leaseExcludesSpec : ChangeSpec := { name := "leaseExcludes", fn := fun _ => fun
  | [d] => { results := [.lit (.bool true)], args := [d] }
  | _ => none }
def leaseExcludesRow : OpenClaim := { program := "ytogchnnlpblfgaa", sum := "f159abb133d310f22a03c8166e3428382ba4f50d90168e3e8f8deeac6d94b01b", func := "workflow/workflowlaw38.LeaseExcludes", spec := "leaseExcludes", apart := false }
def LeaseExcludesSaid : Prop := leaseExcludesRow.holds Try.pinned (OpenSpec.ofChange leaseExcludesSpec)

/-- ITS FALSE NEIGHBOUR: 'it returns false'. Refute it at one input. -/
def leaseExcludesWrong : ChangeSpec := { name := "leaseExcludes", fn := fun _ => fun
  | [d] => { results := [.lit (.bool false)], args := [d] }
  | _ => none }
def LeaseExcludesWrongFalsely : Prop := leaseExcludesRow.holds Try.pinned (OpenSpec.ofChange leaseExcludesWrong)

/-- 'workflowlaw38.LeaseRenews': WHATEVER THE INPUT: true; the input reads as it did. -/
def leaseRenewsSpec : ChangeSpec := { name := "leaseRenews", fn := fun _ => fun
  | [d1, d2, d3] => { results := [.lit (.bool true)], args := [d1, d2, d3] }
  | _ => none }
def leaseRenewsRow : OpenClaim := { program := "ytogchnnlpblfgaa", sum := "f159abb133d310f22a03c8166e3428382ba4f50d90168e3e8f8deeac6d94b01b", func := "workflow/workflowlaw38.LeaseRenews", spec := "leaseRenews", apart := false }
def LeaseRenewsSaid : Prop := leaseRenewsRow.holds Try.pinned (OpenSpec.ofChange leaseRenewsSpec)

/-- ITS FALSE NEIGHBOUR: 'it returns false'. Refute it at one input. -/
def leaseRenewsWrong : ChangeSpec := { name := "leaseRenews", fn := fun _ => fun
  | [d1, d2, d3] => { results := [.lit (.bool false)], args := [d1, d2, d3] }
  | _ => none }
def LeaseRenewsWrongFalsely : Prop := leaseRenewsRow.holds Try.pinned (OpenSpec.ofChange leaseRenewsWrong)

/- THE SECOND FORM. 'bulk': how many values and letters a reading holds, each counted each time it is reached (what is shared counts as often as it is met; a slice's spare places count too). A statement '..UptoSaid' is the law's where the arguments, and the package variables that the reading takes, are together of bulk at most 1048576: NARROWER than '..Said'. Prove '..Said' where nothing that the law and all that it calls make is longer than what came in: it says more and counts as full. Else prove '..UptoSaid'. A law counts once. -/
mutual
def uptoBulk {H : Type} : DataW H → Nat
  | .lit (.string bytes) => bytes.length + 1
  | .lit _ => 1
  | .nil => 1
  | .ptr d => uptoBulk d + 1
  | .slice elems spare => uptoBulkAll elems + uptoBulkAll spare + 1
  | .agg parts => uptoBulkAll parts + 1
  | .iface _ d => uptoBulk d + 1
  | .map entries => uptoBulkEntries entries + 1
  | .held _ => 1
def uptoBulkAll {H : Type} : List (DataW H) → Nat
  | [] => 0
  | d :: r => uptoBulk d + uptoBulkAll r
def uptoBulkEntries {H : Type} : List (Lit × DataW H) → Nat
  | [] => 0
  | x :: r => uptoBulkEntry x + uptoBulkEntries r
def uptoBulkEntry {H : Type} : Lit × DataW H → Nat
  | (.string bytes, d) => bytes.length + uptoBulk d + 1
  | (_, d) => uptoBulk d + 1
 end
def uptoSmall : (H : Type) → List (DataW H) → Bool := fun _ ds => decide (uptoBulkAll ds ≤ 1048576)
def OpenSpec.upto (s : _root_.Go.ChangeSpec) : _root_.Go.OpenSpec := { _root_.Go.OpenSpec.ofChange s with cond := some uptoSmall }

/-- 'workflowlaw38.LeaseTakes', WHERE WHAT IT READS IS OF BULK AT MOST 1048576: true; the input reads as it did. -/
def leaseTakesUptoRow : OpenClaim := { program := "ytogchnnlpblfgaa", sum := "f159abb133d310f22a03c8166e3428382ba4f50d90168e3e8f8deeac6d94b01b", func := "workflow/workflowlaw38.LeaseTakes", spec := "leaseTakes", apart := false, narrowed := true }
def LeaseTakesUptoSaid : Prop := leaseTakesUptoRow.holds Try.pinned (OpenSpec.upto leaseTakesSpec)

/-- 'workflowlaw38.LeaseGuards', WHERE WHAT IT READS IS OF BULK AT MOST 1048576: true; the input reads as it did. -/
def leaseGuardsUptoRow : OpenClaim := { program := "ytogchnnlpblfgaa", sum := "f159abb133d310f22a03c8166e3428382ba4f50d90168e3e8f8deeac6d94b01b", func := "workflow/workflowlaw38.LeaseGuards", spec := "leaseGuards", apart := false, narrowed := true }
def LeaseGuardsUptoSaid : Prop := leaseGuardsUptoRow.holds Try.pinned (OpenSpec.upto leaseGuardsSpec)

/-- 'workflowlaw38.LeaseExcludes', WHERE WHAT IT READS IS OF BULK AT MOST 1048576: true; the input reads as it did. -/
def leaseExcludesUptoRow : OpenClaim := { program := "ytogchnnlpblfgaa", sum := "f159abb133d310f22a03c8166e3428382ba4f50d90168e3e8f8deeac6d94b01b", func := "workflow/workflowlaw38.LeaseExcludes", spec := "leaseExcludes", apart := false, narrowed := true }
def LeaseExcludesUptoSaid : Prop := leaseExcludesUptoRow.holds Try.pinned (OpenSpec.upto leaseExcludesSpec)

/-- 'workflowlaw38.LeaseRenews', WHERE WHAT IT READS IS OF BULK AT MOST 1048576: true; the input reads as it did. -/
def leaseRenewsUptoRow : OpenClaim := { program := "ytogchnnlpblfgaa", sum := "f159abb133d310f22a03c8166e3428382ba4f50d90168e3e8f8deeac6d94b01b", func := "workflow/workflowlaw38.LeaseRenews", spec := "leaseRenews", apart := false, narrowed := true }
def LeaseRenewsUptoSaid : Prop := leaseRenewsUptoRow.holds Try.pinned (OpenSpec.upto leaseRenewsSpec)

end Rows
end Go.Proofs.Ytogchnnlpblfgaa
