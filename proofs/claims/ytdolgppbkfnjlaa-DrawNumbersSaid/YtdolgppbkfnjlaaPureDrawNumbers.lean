/- Draw and Below and their references tell the same numbers. For every input of the statement. -/
import Derived.Test.YtdolgppbkfnjlaaPAllx2
import Derived.Test.YtdolgppbkfnjlaaFacts
namespace Go.Proofs.Ytdolgppbkfnjlaa.Pure
open Go.RowKit Go.Proofs.Ytdolgppbkfnjlaa.PAll Go.Proofs.YtdolgppbkfnjlaaW.PrintWords Go.Proofs.YtdolgppbkfnjlaaW.PrintLast
theorem numbers_any (k : Nat) (a b n d e : Int) (h1 : draw_Draw.f k a b = some d) (h2 : workflowref05_Draw.f k a b = some d) (h3 : draw_Below.f k a b n = some e) (h4 : workflowref05_Below.f k a b n = some e) (hw : workflowlaw05_works.f k = some true) :
    workflowlaw05_DrawNumbers.f k a b n = some true := by
  unfold workflowlaw05_DrawNumbers.f
  rw [h1, h2]
  simp only [Option.bind_some]
  rw [if_pos trivial, h3, h4]
  simp only [Option.bind_some]
  rw [if_pos trivial, hw]
  rfl
theorem DrawNumbers : workflowlaw05_DrawNumbers.Pure := by
  intro a b n _ _ _
  exact ⟨100, numbers_any 100 a b n (drawn a b) (below a b n) (draw_k 100 (Nat.le_refl _) a b) (ref_draw_k 100 (Nat.le_refl _) a b) (below_k 100 (Nat.le_refl _) a b n) (ref_below_k 100 (Nat.le_refl _) a b n) (works_at 100 (Nat.le_refl _))⟩
end Go.Proofs.Ytdolgppbkfnjlaa.Pure
