/- Fnv and its reference tell the same number for every string, and the chapter's examples hold. For every input of the statement. -/
import Derived.Test.YtpghpllbliadkaaPAllx1
import Derived.Test.YtpghpllbliadkaaFacts
namespace Go.Proofs.Ytpghpllbliadkaa.Pure
open Go.RowKit Go.Proofs.Ytpghpllbliadkaa.PAll Go.Proofs.YtpghpllbliadkaaW.PrintWords Go.Proofs.YtpghpllbliadkaaW.PrintLast
open Go.Proofs.Ytpghpllbliadkaa.Math
theorem HashFnv : workflowlaw04_HashFnv.Pure := by
  intro s hs
  refine ⟨s.size + 201, ?_⟩
  have hw := works_at (s.size + 201) (by omega)
  unfold workflowlaw04_HashFnv.f
  by_cases h : (s.size : Int) > 2000
  · rw [if_pos h, hw]
    rfl
  · rw [if_neg h, fnv_f s hs _ (by omega)]
    simp only [Option.bind_some]
    rw [ref_fnv_f s hs _ (by omega)]
    simp only [Option.bind_some]
    rw [if_pos trivial, hw]
    rfl
end Go.Proofs.Ytpghpllbliadkaa.Pure
