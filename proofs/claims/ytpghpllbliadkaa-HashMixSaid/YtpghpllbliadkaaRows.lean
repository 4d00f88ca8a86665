/-
  No cell of these rows narrows 'for every input' (looked for: loops, veiled, ifaces, maps, wideKeys, modest, calm, conditions, laid).
  DERIVED. THE GIVEN ROWS OF THIS SEAT. 6 by the template 'for every input the law returns true; each argument reads behind the call as it read before'; 0 by the template 'total and deterministic' (their statements: YtpghpllbliadkaaTotals.lean).
  GIVEN WITH THE SEED: the statements are not yours to turn. If you find one false, say at which input.
  Laid BY PROGRAM, IN A SANDBOX (cutbox-rows.mjs): the forced cells as the released guide's own fill.sh prints them over the translation 66de5b6aeec97f25… (all of the seat's roots in one cut). By AI agents, Wed Nov 11 2026. No macro, syntax, notation, axiom, sorry.
-/
import Derived.Test.YtpghpllbliadkaaChecked
import GoSem.Claim
import GoSem.ClaimJoined
import GoSem.ClaimMapViews
import Derived.JoinedTies
import Derived.KernelRfl
namespace Go.Proofs.Ytpghpllbliadkaa
/- THE CELL 'sum', in the pinned program and in every row, IS THE sha256 OF THE DUMP (.gsa) THAT YtpghpllbliadkaaProg.lean LOADS. Nothing in Lean hashes anything: it is a label: what it is worth is what the hold of that sum in a sandbox is worth. -/
noncomputable def Try.pinned : Pinned := { name := "ytpghpllbliadkaa", sum := "66de5b6aeec97f2516fe1479a7b76e3bac5468905c97367466b3a71a06ae398c", checked := Try.checked }
namespace Rows
def none {H : Type} : Left H := { results := [], args := [] }

/-- 'workflowlaw04.HashFnv': WHATEVER THE INPUT: true; the input reads as it did. -/
def hashFnvSpec : ChangeSpec := { name := "hashFnv", fn := fun _ => fun
  | [d] => { results := [.lit (.bool true)], args := [d] }
  | _ => none }
def hashFnvRow : OpenClaim := { program := "ytpghpllbliadkaa", sum := "66de5b6aeec97f2516fe1479a7b76e3bac5468905c97367466b3a71a06ae398c", func := "workflow/workflowlaw04.HashFnv", spec := "hashFnv", apart := false }
def HashFnvSaid : Prop := hashFnvRow.holds Try.pinned (OpenSpec.ofChange hashFnvSpec)

/-- ITS FALSE NEIGHBOUR: 'it returns false'. Refute it at one input. -/
def hashFnvWrong : ChangeSpec := { name := "hashFnv", fn := fun _ => fun
  | [d] => { results := [.lit (.bool false)], args := [d] }
  | _ => none }
def HashFnvWrongFalsely : Prop := hashFnvRow.holds Try.pinned (OpenSpec.ofChange hashFnvWrong)

/-- 'workflowlaw04.HashCrc': WHATEVER THE INPUT: true; the input reads as it did. -/
def hashCrcSpec : ChangeSpec := { name := "hashCrc", fn := fun _ => fun
  | [d] => { results := [.lit (.bool true)], args := [d] }
  | _ => none }
def hashCrcRow : OpenClaim := { program := "ytpghpllbliadkaa", sum := "66de5b6aeec97f2516fe1479a7b76e3bac5468905c97367466b3a71a06ae398c", func := "workflow/workflowlaw04.HashCrc", spec := "hashCrc", apart := false }
def HashCrcSaid : Prop := hashCrcRow.holds Try.pinned (OpenSpec.ofChange hashCrcSpec)

/-- ITS FALSE NEIGHBOUR: 'it returns false'. Refute it at one input. -/
def hashCrcWrong : ChangeSpec := { name := "hashCrc", fn := fun _ => fun
  | [d] => { results := [.lit (.bool false)], args := [d] }
  | _ => none }
def HashCrcWrongFalsely : Prop := hashCrcRow.holds Try.pinned (OpenSpec.ofChange hashCrcWrong)

/-- 'workflowlaw04.HashBucket': WHATEVER THE INPUT: true; the input reads as it did. -/
def hashBucketSpec : ChangeSpec := { name := "hashBucket", fn := fun _ => fun
  | [d1, d2] => { results := [.lit (.bool true)], args := [d1, d2] }
  | _ => none }
def hashBucketRow : OpenClaim := { program := "ytpghpllbliadkaa", sum := "66de5b6aeec97f2516fe1479a7b76e3bac5468905c97367466b3a71a06ae398c", func := "workflow/workflowlaw04.HashBucket", spec := "hashBucket", apart := false }
def HashBucketSaid : Prop := hashBucketRow.holds Try.pinned (OpenSpec.ofChange hashBucketSpec)

/-- ITS FALSE NEIGHBOUR: 'it returns false'. Refute it at one input. -/
def hashBucketWrong : ChangeSpec := { name := "hashBucket", fn := fun _ => fun
  | [d1, d2] => { results := [.lit (.bool false)], args := [d1, d2] }
  | _ => none }
def HashBucketWrongFalsely : Prop := hashBucketRow.holds Try.pinned (OpenSpec.ofChange hashBucketWrong)

/-- 'workflowlaw04.HashByte': WHATEVER THE INPUT: true; the input reads as it did. -/
def hashByteSpec : ChangeSpec := { name := "hashByte", fn := fun _ => fun
  | [d1, d2, d3] => { results := [.lit (.bool true)], args := [d1, d2, d3] }
  | _ => none }
def hashByteRow : OpenClaim := { program := "ytpghpllbliadkaa", sum := "66de5b6aeec97f2516fe1479a7b76e3bac5468905c97367466b3a71a06ae398c", func := "workflow/workflowlaw04.HashByte", spec := "hashByte", apart := false }
def HashByteSaid : Prop := hashByteRow.holds Try.pinned (OpenSpec.ofChange hashByteSpec)

/-- ITS FALSE NEIGHBOUR: 'it returns false'. Refute it at one input. -/
def hashByteWrong : ChangeSpec := { name := "hashByte", fn := fun _ => fun
  | [d1, d2, d3] => { results := [.lit (.bool false)], args := [d1, d2, d3] }
  | _ => none }
def HashByteWrongFalsely : Prop := hashByteRow.holds Try.pinned (OpenSpec.ofChange hashByteWrong)

/-- 'workflowlaw04.HashExtends': WHATEVER THE INPUT: true; the input reads as it did. -/
def hashExtendsSpec : ChangeSpec := { name := "hashExtends", fn := fun _ => fun
  | [d1, d2, d3] => { results := [.lit (.bool true)], args := [d1, d2, d3] }
  | _ => none }
def hashExtendsRow : OpenClaim := { program := "ytpghpllbliadkaa", sum := "66de5b6aeec97f2516fe1479a7b76e3bac5468905c97367466b3a71a06ae398c", func := "workflow/workflowlaw04.HashExtends", spec := "hashExtends", apart := false }
def HashExtendsSaid : Prop := hashExtendsRow.holds Try.pinned (OpenSpec.ofChange hashExtendsSpec)

/-- ITS FALSE NEIGHBOUR: 'it returns false'. Refute it at one input. -/
def hashExtendsWrong : ChangeSpec := { name := "hashExtends", fn := fun _ => fun
  | [d1, d2, d3] => { results := [.lit (.bool false)], args := [d1, d2, d3] }
  | _ => none }
def HashExtendsWrongFalsely : Prop := hashExtendsRow.holds Try.pinned (OpenSpec.ofChange hashExtendsWrong)

/-- 'workflowlaw04.HashMix': WHATEVER THE INPUT: true; the input reads as it did. -/
def hashMixSpec : ChangeSpec := { name := "hashMix", fn := fun _ => fun
  | [d1, d2] => { results := [.lit (.bool true)], args := [d1, d2] }
  | _ => none }
def hashMixRow : OpenClaim := { program := "ytpghpllbliadkaa", sum := "66de5b6aeec97f2516fe1479a7b76e3bac5468905c97367466b3a71a06ae398c", func := "workflow/workflowlaw04.HashMix", spec := "hashMix", apart := false }
def HashMixSaid : Prop := hashMixRow.holds Try.pinned (OpenSpec.ofChange hashMixSpec)

/-- ITS FALSE NEIGHBOUR: 'it returns false'. Refute it at one input. -/
def hashMixWrong : ChangeSpec := { name := "hashMix", fn := fun _ => fun
  | [d1, d2] => { results := [.lit (.bool false)], args := [d1, d2] }
  | _ => none }
def HashMixWrongFalsely : Prop := hashMixRow.holds Try.pinned (OpenSpec.ofChange hashMixWrong)

/- THE SECOND FORM. 'bulk': how many values and letters a reading holds, each counted each time it is reached (what is shared counts as often as it is met; a slice's spare places count too). A statement '..UptoSaid' is the law's where the arguments, and the package variables that the reading takes, are together of bulk at most 1048576: NARROWER than '..Said'. Prove '..Said' where nothing that the law and all that it calls make is longer than what came in: it says more and counts as full. Else prove '..UptoSaid'. A law counts once. -/
mutual
def uptoBulk {H : Type} : DataW H → Nat
  | .lit (.string bytes) => bytes.length + 1
  | .lit _ => 1
  | .nil => 1
  | .ptr d => uptoBulk d + 1
  | .slice elems spare => uptoBulkAll elems + uptoBulkAll spare + 1
  | .agg parts => uptoBulkAll parts + 1
  | .iface _ d => uptoBulk d + 1
  | .map entries => uptoBulkEntries entries + 1
  | .held _ => 1
def uptoBulkAll {H : Type} : List (DataW H) → Nat
  | [] => 0
  | d :: r => uptoBulk d + uptoBulkAll r
def uptoBulkEntries {H : Type} : List (Lit × DataW H) → Nat
  | [] => 0
  | x :: r => uptoBulkEntry x + uptoBulkEntries r
def uptoBulkEntry {H : Type} : Lit × DataW H → Nat
  | (.string bytes, d) => bytes.length + uptoBulk d + 1
  | (_, d) => uptoBulk d + 1
 end
def uptoSmall : (H : Type) → List (DataW H) → Bool := fun _ ds => decide (uptoBulkAll ds ≤ 1048576)
def OpenSpec.upto (s : _root_.Go.ChangeSpec) : _root_.Go.OpenSpec := { _root_.Go.OpenSpec.ofChange s with cond := some uptoSmall }

/-- 'workflowlaw04.HashFnv', WHERE WHAT IT READS IS OF BULK AT MOST 1048576: true; the input reads as it did. -/
def hashFnvUptoRow : OpenClaim := { program := "ytpghpllbliadkaa", sum := "66de5b6aeec97f2516fe1479a7b76e3bac5468905c97367466b3a71a06ae398c", func := "workflow/workflowlaw04.HashFnv", spec := "hashFnv", apart := false, narrowed := true }
def HashFnvUptoSaid : Prop := hashFnvUptoRow.holds Try.pinned (OpenSpec.upto hashFnvSpec)

/-- 'workflowlaw04.HashCrc', WHERE WHAT IT READS IS OF BULK AT MOST 1048576: true; the input reads as it did. -/
def hashCrcUptoRow : OpenClaim := { program := "ytpghpllbliadkaa", sum := "66de5b6aeec97f2516fe1479a7b76e3bac5468905c97367466b3a71a06ae398c", func := "workflow/workflowlaw04.HashCrc", spec := "hashCrc", apart := false, narrowed := true }
def HashCrcUptoSaid : Prop := hashCrcUptoRow.holds Try.pinned (OpenSpec.upto hashCrcSpec)

/-- 'workflowlaw04.HashBucket', WHERE WHAT IT READS IS OF BULK AT MOST 1048576: true; the input reads as it did. -/
def hashBucketUptoRow : OpenClaim := { program := "ytpghpllbliadkaa", sum := "66de5b6aeec97f2516fe1479a7b76e3bac5468905c97367466b3a71a06ae398c", func := "workflow/workflowlaw04.HashBucket", spec := "hashBucket", apart := false, narrowed := true }
def HashBucketUptoSaid : Prop := hashBucketUptoRow.holds Try.pinned (OpenSpec.upto hashBucketSpec)

/-- 'workflowlaw04.HashByte', WHERE WHAT IT READS IS OF BULK AT MOST 1048576: true; the input reads as it did. -/
def hashByteUptoRow : OpenClaim := { program := "ytpghpllbliadkaa", sum := "66de5b6aeec97f2516fe1479a7b76e3bac5468905c97367466b3a71a06ae398c", func := "workflow/workflowlaw04.HashByte", spec := "hashByte", apart := false, narrowed := true }
def HashByteUptoSaid : Prop := hashByteUptoRow.holds Try.pinned (OpenSpec.upto hashByteSpec)

/-- 'workflowlaw04.HashExtends', WHERE WHAT IT READS IS OF BULK AT MOST 1048576: true; the input reads as it did. -/
def hashExtendsUptoRow : OpenClaim := { program := "ytpghpllbliadkaa", sum := "66de5b6aeec97f2516fe1479a7b76e3bac5468905c97367466b3a71a06ae398c", func := "workflow/workflowlaw04.HashExtends", spec := "hashExtends", apart := false, narrowed := true }
def HashExtendsUptoSaid : Prop := hashExtendsUptoRow.holds Try.pinned (OpenSpec.upto hashExtendsSpec)

/-- 'workflowlaw04.HashMix', WHERE WHAT IT READS IS OF BULK AT MOST 1048576: true; the input reads as it did. -/
def hashMixUptoRow : OpenClaim := { program := "ytpghpllbliadkaa", sum := "66de5b6aeec97f2516fe1479a7b76e3bac5468905c97367466b3a71a06ae398c", func := "workflow/workflowlaw04.HashMix", spec := "hashMix", apart := false, narrowed := true }
def HashMixUptoSaid : Prop := hashMixUptoRow.holds Try.pinned (OpenSpec.upto hashMixSpec)

end Rows
end Go.Proofs.Ytpghpllbliadkaa
