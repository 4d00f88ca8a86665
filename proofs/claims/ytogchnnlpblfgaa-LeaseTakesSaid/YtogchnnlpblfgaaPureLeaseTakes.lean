/- Take and its reference grant the same lease or tell the same error, for all leases, holders and times. No condition. -/
import Derived.Test.YtogchnnlpblfgaaPAllx4
namespace Go.Proofs.Ytogchnnlpblfgaa.Pure
open Go.RowKit Go.Proofs.Ytogchnnlpblfgaa.PAll Go.Proofs.YtogchnnlpblfgaaW.PrintWords Go.Proofs.YtogchnnlpblfgaaW.PrintLast
theorem takes_works : workflowlaw38_works.f 10 = some true := by decide +kernel
theorem takes_free (s : ByteArray) (a b n : Int) : workflowref38_Free.f s a b n = lease_free.f s a b n := rfl
theorem takes_period (a b : Int) : workflowref38_timed.f a b = lease_period.f a b := by
  unfold workflowref38_timed.f lease_period.f
  rfl
theorem takes_j1 (k : Nat) (x : ByteArray) (a b : Int) (c : Bool) (s : ByteArray) (t u : Int) : workflowref38_Take.j1 (k + 1) x a b c s t u = lease_Take.j1 (k + 1) x a b c s t u := by
  simp only [workflowref38_Take.j1, lease_Take.j1]
theorem takes_j0 (k : Nat) (x : ByteArray) (a b : Int) (c : Bool) (s : ByteArray) (t u : Int) : workflowref38_Take.j0 (k + 2) x a b c s t u = lease_Take.j0 (k + 2) x a b c s t u := by
  simp only [workflowref38_Take.j0, lease_Take.j0, takes_j1, takes_free]
theorem takes_same (k : Nat) (s : ByteArray) (t u : Int) (x : ByteArray) (a b : Int) : workflowref38_Take.f (k + 2) s t u x a b = lease_Take.f (k + 2) s t u x a b := by
  unfold workflowref38_Take.f lease_Take.f
  simp only [takes_j0, takes_period]
theorem takes_some (s : ByteArray) (t u : Int) (x : ByteArray) (a b : Int) : ∃ r, lease_Take.f 10 s t u x a b = some r := by
  have j1 : ∀ (k : Nat) (c : Bool), ∃ r, lease_Take.j1 (k + 1) x a b c s t u = some r := by
    intro k c
    simp only [lease_Take.j1]
    split
    · exact ⟨_, rfl⟩
    · split <;> exact ⟨_, rfl⟩
  have j0 : ∀ (k : Nat) (c : Bool), ∃ r, lease_Take.j0 (k + 2) x a b c s t u = some r := by
    intro k c
    simp only [lease_Take.j0]
    split
    · exact ⟨_, rfl⟩
    · unfold lease_free.f
      split
      · simp only [Option.bind_some, if_true]
        exact j1 k _
      · simp only [Option.bind_some]
        split
        · exact j1 k _
        · exact j1 k _
  unfold lease_Take.f
  split
  · exact j0 8 _
  · have : ∃ c, lease_period.f a b = some c := by
      unfold lease_period.f
      split
      · split
        · split <;> exact ⟨_, rfl⟩
        · exact ⟨_, rfl⟩
      · exact ⟨_, rfl⟩
    obtain ⟨c, hc⟩ := this
    rw [hc]
    exact j0 8 _
theorem takes_true (s : ByteArray) (t u : Int) (x : ByteArray) (a b : Int) : workflowlaw38_LeaseTakes.f 10 s t u x a b = some true := by
  unfold workflowlaw38_LeaseTakes.f workflowlaw38_of.f
  simp only [Option.bind_some]
  obtain ⟨⟨r1, r2, r3, r4⟩, hr⟩ := takes_some s t u x a b
  rw [takes_same 8, hr]
  simp only [Option.bind_some]
  rw [if_pos trivial, if_pos (by simp), takes_works]
  rfl
theorem LeaseTakes (s : ByteArray) (t u : Int) (x : ByteArray) (a b : Int) (w : World) :
    Calls Try.prog 3 #[.agg #[.string s, .int .i64 t, .int .i64 u], .string x, .agg #[.int .i64 a, .int .i64 b]] w fun e w' => e = .returned (.bool true) ∧ Below w.heap.size w w' :=
  workflowlaw38_LeaseTakes.calls 10 s t u x a b true w (takes_true s t u x a b)
end Go.Proofs.Ytogchnnlpblfgaa.Pure
