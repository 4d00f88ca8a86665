/- Bucket and its reference tell the same bucket, which lies below n where n is at least 1. For every input of the statement. -/
import Derived.Test.YtpghpllbliadkaaPAllx2
import Derived.Test.YtpghpllbliadkaaFacts
namespace Go.Proofs.Ytpghpllbliadkaa.Pure
open Go.RowKit Go.Proofs.Ytpghpllbliadkaa.PAll Go.Proofs.YtpghpllbliadkaaW.PrintWords Go.Proofs.YtpghpllbliadkaaW.PrintLast
open Go.Proofs.Ytpghpllbliadkaa.Math
theorem HashBucket : workflowlaw04_HashBucket.Pure := by
  intro s n hs _
  refine ⟨s.size + 201, ?_⟩
  have hw := works_at (s.size + 201) (by omega)
  unfold workflowlaw04_HashBucket.f
  by_cases h : (s.size : Int) > 1000
  · rw [if_pos h, hw]
    rfl
  · rw [if_neg h]
    unfold hash_Bucket.f workflowref04_Bucket.f
    by_cases hn : n < 1
    · rw [if_pos hn, if_pos hn]
      simp only [Option.bind_some]
      rw [if_pos trivial, if_pos (by omega), if_pos hn, hw]
      rfl
    · rw [if_neg hn, if_neg hn, fnv_f s hs _ (by omega)]
      simp only [Option.bind_some]
      rw [if_neg (by omega), ref_fnv_f s hs _ (by omega)]
      simp only [Option.bind_some]
      rw [if_neg (by omega)]
      simp only [Option.bind_some]
      have h1 : Int.tmod ((fnv s : Nat) : Int) n = ((fnv s : Nat) : Int) % n := Int.tmod_eq_emod_of_nonneg (by omega)
      have h2 := Int.emod_nonneg ((fnv s : Nat) : Int) (show n ≠ 0 by omega)
      have h3 := Int.emod_lt_of_pos ((fnv s : Nat) : Int) (show 0 < n by omega)
      rw [if_pos trivial, h1, if_pos (by omega), if_neg hn, if_pos h3, hw]
      rfl
end Go.Proofs.Ytpghpllbliadkaa.Pure
