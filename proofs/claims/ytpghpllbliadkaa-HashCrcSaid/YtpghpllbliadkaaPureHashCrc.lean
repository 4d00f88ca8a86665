/- Crc and its reference tell the same number for any bytes, and the chapter's examples hold. For every input of the statement. -/
import Derived.Test.YtpghpllbliadkaaPAllx1
import Derived.Test.YtpghpllbliadkaaFacts
namespace Go.Proofs.Ytpghpllbliadkaa.Pure
open Go.RowKit Go.Proofs.Ytpghpllbliadkaa.PAll Go.Proofs.YtpghpllbliadkaaW.PrintWords Go.Proofs.YtpghpllbliadkaaW.PrintLast
open Go.Proofs.Ytpghpllbliadkaa.Math
theorem HashCrc : workflowlaw04_HashCrc.Pure := by
  intro xs _ hl hb
  have hx := bytes_of xs hb
  refine ⟨10 * xs.length + 201, ?_⟩
  have hw := works_at (10 * xs.length + 201) (by omega)
  unfold workflowlaw04_HashCrc.f
  by_cases h : (xs.length : Int) > 1000
  · rw [if_pos h, hw]
    rfl
  · rw [if_neg h, crc_f xs hx (by omega) _ (by omega)]
    simp only [Option.bind_some]
    rw [ref_crc_f xs hx (by omega) _ (by omega)]
    simp only [Option.bind_some]
    rw [if_pos trivial, hw]
    rfl
end Go.Proofs.Ytpghpllbliadkaa.Pure
