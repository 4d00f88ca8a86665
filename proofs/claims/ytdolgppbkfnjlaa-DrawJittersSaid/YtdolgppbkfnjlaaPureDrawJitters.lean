/- Jitter and its reference tell the same number, for all arguments. No condition. -/
import Derived.Test.YtdolgppbkfnjlaaPAllx2
import Derived.Test.YtdolgppbkfnjlaaFacts
namespace Go.Proofs.Ytdolgppbkfnjlaa.PureJitters
open Go.RowKit Go.Proofs.Ytdolgppbkfnjlaa.PAll Go.Proofs.YtdolgppbkfnjlaaW.PrintWords Go.Proofs.YtdolgppbkfnjlaaW.PrintLast
theorem jitters_any (k : Nat) (a b base p j : Int) (h1 : draw_Jitter.f k a b base p = some j) (h2 : workflowref05_Jitter.f k a b base p = some j) (hw : workflowlaw05_works.f k = some true) :
    workflowlaw05_DrawJitters.f k a b base p = some true := by
  unfold workflowlaw05_DrawJitters.f
  rw [h1, h2]
  simp only [Option.bind_some]
  rw [if_pos trivial, hw]
  rfl
theorem jitters_true (a b base p : Int) : workflowlaw05_DrawJitters.f 100 a b base p = some true := by
  by_cases h : inner base p
  · exact jitters_any 100 a b base p _ (jitter_in 100 (Nat.le_refl _) a b base p h) (ref_jitter_in 100 (Nat.le_refl _) a b base p h) (works_at 100 (Nat.le_refl _))
  · exact jitters_any 100 a b base p _ (jitter_out 100 a b base p h) (ref_jitter_out 100 a b base p h) (works_at 100 (Nat.le_refl _))
theorem DrawJitters (a b base p : Int) (w : World) :
    Calls Try.prog 4 #[.agg #[.int .i64 a, .int .i64 b], .int .i64 base, .int .i64 p] w fun e w' => e = .returned (.bool true) ∧ Below w.heap.size w w' :=
  workflowlaw05_DrawJitters.calls 100 a b base p true w (jitters_true a b base p)
end Go.Proofs.Ytdolgppbkfnjlaa.PureJitters
