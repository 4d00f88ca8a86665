/- Renew, Check and Release and their references tell the same, for all leases, tokens and times. No condition. -/
import Derived.Test.YtogchnnlpblfgaaPRenx4
namespace Go.Proofs.Ytogchnnlpblfgaa.PureRenews
open Go.RowKit Go.Proofs.Ytogchnnlpblfgaa.PRen Go.Proofs.YtogchnnlpblfgaaW.PrintWords Go.Proofs.YtogchnnlpblfgaaW.PrintLast Go.Proofs.YtogchnnlpblfgaaW.PrintMore
theorem works10 : workflowlaw38_works.f 10 = some true := by decide +kernel
theorem free_same (s : ByteArray) (a b n : Int) : workflowref38_Free.f s a b n = lease_free.f s a b n := rfl
theorem free_some (s : ByteArray) (a b n : Int) : ∃ c, lease_free.f s a b n = some c := by
  unfold lease_free.f
  split <;> exact ⟨_, rfl⟩
theorem period_same (a b : Int) : workflowref38_timed.f a b = lease_period.f a b := by
  unfold workflowref38_timed.f lease_period.f
  rfl
theorem period_some (a b : Int) : ∃ c, lease_period.f a b = some c := by
  unfold lease_period.f
  split
  · split
    · split <;> exact ⟨_, rfl⟩
    · exact ⟨_, rfl⟩
  · exact ⟨_, rfl⟩
theorem check_same (s : ByteArray) (a b x n : Int) : workflowref38_Check.f s a b x n = lease_Check.f s a b x n := rfl
theorem check_some (s : ByteArray) (a b x n : Int) : ∃ c, lease_Check.f s a b x n = some c := by
  obtain ⟨c, hc⟩ := free_some s a b n
  unfold lease_Check.f
  rw [hc]
  simp only [Option.bind_some]
  split
  · exact ⟨_, rfl⟩
  · split <;> exact ⟨_, rfl⟩
theorem release_same (s : ByteArray) (a b x : Int) : workflowref38_Release.f s a b x = lease_Release.f s a b x := rfl
theorem release_some (s : ByteArray) (a b x : Int) : ∃ c, lease_Release.f s a b x = some c := by
  unfold lease_Release.f
  split
  · exact ⟨_, rfl⟩
  · split <;> exact ⟨_, rfl⟩
theorem renew_same (k : Nat) (s : ByteArray) (a b x n d : Int) : workflowref38_Renew.f (k + 1) s a b x n d = lease_Renew.f s a b x n d := by
  unfold workflowref38_Renew.f lease_Renew.f
  rw [period_same]
  obtain ⟨c, hc⟩ := period_some n d
  rw [hc]
  simp only [Option.bind_some]
  by_cases h : c = true
  · rw [if_pos h, if_pos h, free_same]
    unfold lease_Check.f
    obtain ⟨f, hf⟩ := free_some s a b n
    rw [hf]
    simp only [Option.bind_some]
    by_cases g : f = true
    · rw [if_pos g, if_pos g]
      simp only [workflowref38_Renew.j0, Option.bind_some]
      rw [if_pos trivial, if_neg (by decide)]
    · rw [if_neg g, if_neg g]
      by_cases e : a = x
      · rw [if_pos e]
        simp only [workflowref38_Renew.j0, Option.bind_some]
        rw [if_neg (by simp [e]), if_pos trivial]
        unfold mx
        by_cases o : wrap64 (n + d) > b
        · rw [if_pos o]
          congr
          split <;> omega
        · rw [if_neg o]
          congr
          split <;> omega
      · rw [if_neg e]
        simp only [workflowref38_Renew.j0, Option.bind_some]
        rw [if_pos (by simp [e]), if_neg (by decide)]
  · rw [if_neg h, if_neg h]
theorem renew_some (s : ByteArray) (a b x n d : Int) : ∃ c, lease_Renew.f s a b x n d = some c := by
  unfold lease_Renew.f
  obtain ⟨c, hc⟩ := period_some n d
  obtain ⟨e, he⟩ := check_some s a b x n
  rw [hc]
  simp only [Option.bind_some]
  split
  · rw [he]
    simp only [Option.bind_some]
    split <;> exact ⟨_, rfl⟩
  · exact ⟨_, rfl⟩
theorem renews_true (s : ByteArray) (t u x a b : Int) : workflowlaw38_LeaseRenews.f 10 s t u x a b = some true := by
  obtain ⟨⟨r1, r2, r3, r4⟩, hr⟩ := renew_some s t u x a b
  obtain ⟨⟨l1, l2, l3, l4⟩, hl⟩ := release_some s t u x
  obtain ⟨c, hc⟩ := check_some s t u x a
  unfold workflowlaw38_LeaseRenews.f workflowlaw38_of.f
  simp only [Option.bind_some]
  rw [renew_same 9, hr]
  simp only [Option.bind_some]
  rw [release_same, hl]
  simp only [Option.bind_some]
  rw [if_pos trivial, if_pos (by simp), if_pos trivial, if_pos (by simp), check_same, hc]
  simp only [Option.bind_some]
  rw [if_pos trivial, works10]
  rfl
theorem LeaseRenews (s : ByteArray) (t u x a b : Int) (w : World) :
    Calls Try.prog 6 #[.agg #[.string s, .int .i64 t, .int .i64 u], .int .i64 x, .agg #[.int .i64 a, .int .i64 b]] w fun e w' => e = .returned (.bool true) ∧ Below w.heap.size w w' :=
  workflowlaw38_LeaseRenews.truly 10 s t u x a b w (renews_true s t u x a b)
end Go.Proofs.Ytogchnnlpblfgaa.PureRenews
