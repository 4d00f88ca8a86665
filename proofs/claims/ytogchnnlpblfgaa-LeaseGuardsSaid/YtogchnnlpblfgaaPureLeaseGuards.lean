/- Guard and its reference answer alike for all numbers, and the chapter's examples hold. For every input of the statement. -/
import Derived.Test.YtogchnnlpblfgaaPLeaseGuardsx2
namespace Go.Proofs.Ytogchnnlpblfgaa.Pure
open Go.RowKit Go.Proofs.Ytogchnnlpblfgaa.PLeaseGuards Go.Proofs.YtogchnnlpblfgaaW.PrintWords Go.Proofs.YtogchnnlpblfgaaW.PrintLast
theorem works_10 : workflowlaw38_works.f 10 = some true := by decide +kernel
theorem LeaseGuards : workflowlaw38_LeaseGuards.Pure := by
  intro a b _ _
  refine ⟨10, ?_⟩
  unfold workflowlaw38_LeaseGuards.f lease_Guard.f workflowref38_Guard.f
  by_cases h : b < a
  · rw [if_pos h]
    simp only [Option.bind_some]
    rw [if_pos trivial, if_pos trivial, works_10]
    rfl
  · rw [if_neg h]
    simp only [Option.bind_some]
    rw [if_pos trivial, if_pos trivial, works_10]
    rfl
end Go.Proofs.Ytogchnnlpblfgaa.Pure
