/- Below lies below n, and Jitter stays within its percentage. No condition. -/
import Derived.Test.YtdolgppbkfnjlaaPAllx3
import Derived.Test.YtdolgppbkfnjlaaFacts
namespace Go.Proofs.Ytdolgppbkfnjlaa.PureBounds
open Go.RowKit Go.Proofs.Ytdolgppbkfnjlaa.PAll Go.Proofs.YtdolgppbkfnjlaaW.PrintWords Go.Proofs.YtdolgppbkfnjlaaW.PrintLast
open Go.Proofs.Ytdolgppbkfnjlaa.Math
theorem bounds_j0 (a b base p : Int) : workflowlaw05_DrawBounds.j0 102 false a b base p = some true := by
  have hw := works_at 100 (Nat.le_refl _)
  by_cases h : inner base p
  · obtain ⟨h0, h1, h2, h3⟩ := id h
    obtain ⟨f0, f1⟩ := factor_range a b p h2 h3
    obtain ⟨l0, l1⟩ := product_le base (100 - p) h0 h1 (by omega) (by omega)
    obtain ⟨u0, u1⟩ := product_le base (100 + p) h0 h1 (by omega) (by omega)
    have m0 := mono base (100 - p) (factor a b p) h0 f0
    have m1 := mono base (factor a b p) (100 + p) h0 f1
    have hj := jitter_in 101 (by omega) a b base p h
    generalize base * factor a b p / 100 = j at *
    simp only [workflowlaw05_DrawBounds.j0]
    rw [if_neg (by decide), hj]
    simp only [Option.bind_some]
    rw [if_neg (by omega), if_neg (by omega), if_neg (by omega), decide_eq_false (by omega)]
    simp only [workflowlaw05_DrawBounds.j1]
    rw [if_neg (by decide), wrap_id (100 - p) (by omega) (by omega), wrap_id (100 + p) (by omega) (by omega), wrap_id (base * (100 - p)) (by omega) (by omega), wrap_id (base * (100 + p)) (by omega) (by omega),
      Int.tdiv_eq_ediv_of_nonneg l0, Int.tdiv_eq_ediv_of_nonneg u0, wrap_id (base * (100 - p) / 100) (by omega) (by omega), wrap_id (base * (100 + p) / 100) (by omega) (by omega), if_pos m0, if_pos m1, hw]
    rfl
  · have hj := jitter_out 101 a b base p h
    have e : workflowlaw05_DrawBounds.j1 101 base p base true = some true := by
      simp only [workflowlaw05_DrawBounds.j1]
      rw [if_pos trivial, if_pos trivial, hw]
      rfl
    unfold inner at h
    simp only [workflowlaw05_DrawBounds.j0]
    rw [if_neg (by decide), hj]
    simp only [Option.bind_some]
    by_cases h0 : base < 0
    · rw [if_pos h0]
      exact e
    · rw [if_neg h0]
      by_cases h1 : base > 1099511627776
      · rw [if_pos h1]
        exact e
      · rw [if_neg h1]
        by_cases h2 : p < 0
        · rw [if_pos h2]
          exact e
        · rw [if_neg h2, decide_eq_true (by omega)]
          exact e
theorem bounds_any (k : Nat) (a b n base p x : Int) (h1 : draw_Below.f k a b n = some x) (hx : 1 ≤ n → 0 ≤ x ∧ x < n) (h0 : n < 1 → x = 0) (hj : workflowlaw05_DrawBounds.j0 k false a b base p = some true) :
    workflowlaw05_DrawBounds.f k a b n base p = some true := by
  unfold workflowlaw05_DrawBounds.f
  rw [h1]
  simp only [Option.bind_some]
  by_cases h : n ≥ 1
  · obtain ⟨h2, h3⟩ := hx h
    rw [if_pos h, if_neg (by omega), if_neg (by omega), if_neg (by omega)]
    exact hj
  · rw [if_neg h, if_pos (by omega), h0 (by omega)]
    exact hj
theorem bounds_true (a b n base p : Int) : workflowlaw05_DrawBounds.f 102 a b n base p = some true :=
  bounds_any 102 a b n base p (below a b n) (below_k 102 (by omega) a b n) (fun h => below_range a b n h) (fun h => by unfold below; rw [if_pos h]) (bounds_j0 a b base p)
theorem DrawBounds (a b n base p : Int) (w : World) :
    Calls Try.prog 5 #[.agg #[.int .i64 a, .int .i64 b], .int .i64 n, .agg #[.int .i64 base, .int .i64 p]] w fun e w' => e = .returned (.bool true) ∧ Below w.heap.size w w' :=
  workflowlaw05_DrawBounds.calls 102 a b n base p true w (bounds_true a b n base p)
end Go.Proofs.Ytdolgppbkfnjlaa.PureBounds
