/- The law of the leases that exclude each other, over lists and numbers: tokens of grants increase, nobody else gets a lease that is held, no older token is accepted behind a newer one. For every list whose waits and durations are bytes. -/
import Derived.Test.YtogchnnlpblfgaaPExcx3
namespace Go.Proofs.Ytogchnnlpblfgaa.PureExc
open Go.RowKit Go.Proofs.Ytogchnnlpblfgaa.PExc Go.Proofs.YtogchnnlpblfgaaW.PrintWords Go.Proofs.YtogchnnlpblfgaaW.PrintLast Go.Proofs.YtogchnnlpblfgaaW.PrintMore
theorem works10 : workflowlaw38_works.f 10 = some true := by decide +kernel
theorem works_at (k : Nat) (h : 10 ≤ k) : workflowlaw38_works.f k = some true := at_rounds (g := workflowlaw38_works.f) workflowlaw38_works.mono h works10
theorem wrap_id (x : Int) (h0 : -9223372036854775808 ≤ x) (h : x < 9223372036854775808) : wrap64 x = x := by unfold wrap64; omega

/-- What Take comes to, where the holder is none of nobody, the time is small, the duration a byte. -/
theorem take_cases (k : Nat) (hk : 2 ≤ k) (h : ByteArray) (tok unt : Int) (p : ByteArray) (now ttl : Int) (hp : p.toList ≠ []) (n0 : 0 ≤ now) (n1 : now ≤ 1000000) (t0 : 0 ≤ ttl) (t1 : ttl ≤ 255) (k0 : 0 ≤ tok) (k1 : tok ≤ 1000000) :
    (lease_Take.f k h tok unt p now ttl = some ((⟨#[]⟩ : ByteArray), 0, 0, 2) ∧ ttl = 0) ∨
    (lease_Take.f k h tok unt p now ttl = some ((⟨#[]⟩ : ByteArray), 0, 0, 23) ∧ h.toList ≠ [] ∧ h.toList ≠ p.toList ∧ now < unt) ∨
    (lease_Take.f k h tok unt p now ttl = some (p, tok + 1, now + ttl, 0) ∧ 1 ≤ ttl ∧ (h.toList = [] ∨ h.toList = p.toList ∨ unt ≤ now)) := by
  obtain ⟨k, rfl⟩ : ∃ m, k = m + 2 := ⟨k - 2, by omega⟩
  unfold lease_Take.f lease_period.f
  rw [if_neg hp, if_pos n0, if_pos (by omega)]
  by_cases ht : 1 ≤ ttl
  · rw [if_pos ht, decide_eq_true (show ttl ≤ 1099511627776 by omega)]
    simp only [Option.bind_some, lease_Take.j0]
    rw [if_neg (by decide)]
    unfold lease_free.f
    have e1 : wrap64 (tok + 1) = tok + 1 := wrap_id _ (by omega) (by omega)
    have e2 : wrap64 (now + ttl) = now + ttl := wrap_id _ (by omega) (by omega)
    by_cases hh : h.toList = []
    · rw [if_pos hh]
      simp only [Option.bind_some, lease_Take.j1]
      rw [if_pos trivial, if_neg (by decide), if_neg (by omega), e1, e2]
      exact Or.inr (Or.inr ⟨rfl, ht, Or.inl hh⟩)
    · rw [if_neg hh]
      simp only [Option.bind_some, lease_Take.j1]
      by_cases hu : now ≥ unt
      · rw [decide_eq_true hu, if_pos rfl, if_neg (by decide), if_neg (by omega), e1, e2]
        exact Or.inr (Or.inr ⟨rfl, ht, Or.inr (Or.inr hu)⟩)
      · rw [decide_eq_false hu, if_neg (by decide)]
        by_cases he : h.toList = p.toList
        · have hb : (h.toList != p.toList) = false := by simp [he]
          rw [hb, if_neg (by decide), if_neg (by omega), e1, e2]
          exact Or.inr (Or.inr ⟨rfl, ht, Or.inr (Or.inl he)⟩)
        · have hb : (h.toList != p.toList) = true := by simp [he]
          rw [hb, if_pos rfl]
          exact Or.inr (Or.inl ⟨rfl, hh, he, by omega⟩)
  · rw [if_neg ht]
    simp only [Option.bind_some, lease_Take.j0]
    rw [if_pos (by decide)]
    exact Or.inl ⟨rfl, by omega⟩

/-- The inner loop: no older token is accepted. -/
theorem inner (K : Nat) (now seen : Int) (old : List Int) (xs : List S40) (n i : Int) (p : ByteArray) (tok unt : Int) (hp : p.toList ≠ []) (hu : now < unt) (hold : ∀ t ∈ old, t < tok) (hs : seen ≤ tok) (hlen : old.length ≤ 1000)
    (go : ∀ k, K ≤ k → workflowlaw38_LeaseExcludes.l0 k now tok (old ++ [tok]) xs n (wrap64 (i + 1)) p tok unt = some true) (d : Nat) : ∀ (k j : Nat), j + d = old.length → K + d < k →
    workflowlaw38_LeaseExcludes.l1 k now seen old xs n i old (old.length : Int) (j : Int) p tok unt = some true := by
  induction d with
  | zero =>
    intro k j hj hk
    obtain ⟨k, rfl⟩ : ∃ m, k = m + 1 := ⟨k - 1, by omega⟩
    simp only [workflowlaw38_LeaseExcludes.l1]
    rw [if_neg (by omega)]
    unfold lease_Guard.f
    rw [if_neg (by omega)]
    simp only [Option.bind_some]
    rw [if_pos trivial, if_neg (by omega), if_pos (by omega)]
    exact go k (by omega)
  | succ d ih =>
    intro k j hj hk
    obtain ⟨k, rfl⟩ : ∃ m, k = m + 1 := ⟨k - 1, by omega⟩
    have hjl : j < old.length := by omega
    have hr : rd old (j : Int) < tok := by
      unfold rd
      rw [Int.toNat_natCast, List.getD_eq_getElem?_getD, List.getElem?_eq_getElem hjl]
      exact hold _ (List.getElem_mem hjl)
    simp only [workflowlaw38_LeaseExcludes.l1]
    rw [if_pos (by omega), if_pos (by omega), if_pos (by omega)]
    unfold lease_Check.f lease_free.f
    rw [if_neg hp]
    simp only [Option.bind_some]
    rw [decide_eq_false (show ¬ now ≥ unt by omega), if_neg (by decide), if_neg (by omega)]
    simp only [Option.bind_some]
    rw [if_neg (by decide)]
    unfold lease_Guard.f
    rw [if_pos hr]
    simp only [Option.bind_some]
    rw [if_neg (by decide), wrap_id _ (by omega) (by omega)]
    exact ih k (j + 1) (by omega) (by omega)

def Small (xs : List S40) : Prop := ∀ x ∈ xs, (0 ≤ x.f1 ∧ x.f1 ≤ 255) ∧ (0 ≤ x.f2 ∧ x.f2 ≤ 255)
theorem rd_small (xs : List S40) (h : Small xs) (i : Nat) (hi : i < xs.length) : (0 ≤ (rd_T40 xs i).f1 ∧ (rd_T40 xs i).f1 ≤ 255) ∧ (0 ≤ (rd_T40 xs i).f2 ∧ (rd_T40 xs i).f2 ≤ 255) := by
  unfold rd_T40
  rw [Int.toNat_natCast, List.getD_eq_getElem?_getD, List.getElem?_eq_getElem hi]
  exact h _ (List.getElem_mem hi)
/-- The outer loop, from round i on. -/
theorem outer (xs : List S40) (hx : Small xs) (hl : xs.length ≤ 100) (d : Nat) : ∀ (i : Nat) (now seen : Int) (old : List Int) (h : ByteArray) (tok unt : Int), i + d = xs.length →
    0 ≤ now → now ≤ 255 * i → 0 ≤ tok → tok ≤ i → seen ≤ tok → (∀ t ∈ old, t ≤ tok) → old.length ≤ i →
    ∃ K, ∀ k, K ≤ k → workflowlaw38_LeaseExcludes.l0 k now seen old xs (xs.length : Int) (i : Int) h tok unt = some true := by
  induction d with
  | zero =>
    intro i now seen old h tok unt hi _ _ _ _ _ _ _
    refine ⟨11, fun k hk => ?_⟩
    obtain ⟨k, rfl⟩ : ∃ m, k = m + 1 := ⟨k - 1, by omega⟩
    simp only [workflowlaw38_LeaseExcludes.l0]
    rw [if_neg (by omega), works_at k (by omega)]
    rfl
  | succ d ih =>
    intro i now seen old h tok unt hi n0 n1 k0 k1 hs ho hol
    have hil : i < xs.length := by omega
    obtain ⟨⟨f10, f11⟩, f20, f21⟩ := rd_small xs hx i hil
    generalize hE : rd_T40 xs (i : Int) = E at *
    have e1 : wrap64 E.f1 = E.f1 := wrap_id _ (by omega) (by omega)
    have e2 : wrap64 E.f2 = E.f2 := wrap_id _ (by omega) (by omega)
    have e3 : wrap64 (now + E.f1) = now + E.f1 := wrap_id _ (by omega) (by omega)
    have e4 : wrap64 ((i : Int) + 1) = ((i + 1 : Nat) : Int) := by rw [wrap_id _ (by omega) (by omega)]; omega
    replace e1 := Aside0.mk e1
    replace e2 := Aside0.mk e2
    replace e3 := Aside0.mk e3
    replace e4 := Aside0.mk e4
    by_cases hn : E.f0.toList = []
    · -- a release
      by_cases hh : h.toList = []
      · obtain ⟨K, hK⟩ := ih (i + 1) (now + E.f1) seen old h tok unt (by omega) (by omega) (by omega) k0 (by omega) hs ho (by omega)
        refine ⟨K + 1, fun k hk => ?_⟩
        obtain ⟨k, rfl⟩ : ∃ m, k = m + 1 := ⟨k - 1, by omega⟩
        simp only [workflowlaw38_LeaseExcludes.l0]
        rw [if_pos (by omega), if_pos (by omega), if_pos (by omega), hE, if_pos hn]
        unfold lease_Release.f
        rw [if_pos hh]
        simp only [Option.bind_some]
        rw [if_neg (by decide), e1.out, e3.out, e4.out]
        exact hK k (by omega)
      · obtain ⟨K, hK⟩ := ih (i + 1) (now + E.f1) seen old (⟨#[]⟩ : ByteArray) tok 0 (by omega) (by omega) (by omega) k0 (by omega) hs ho (by omega)
        refine ⟨K + 1, fun k hk => ?_⟩
        obtain ⟨k, rfl⟩ : ∃ m, k = m + 1 := ⟨k - 1, by omega⟩
        simp only [workflowlaw38_LeaseExcludes.l0]
        rw [if_pos (by omega), if_pos (by omega), if_pos (by omega), hE, if_pos hn]
        unfold lease_Release.f
        rw [if_neg hh, if_pos rfl]
        simp only [Option.bind_some]
        rw [if_pos trivial, e1.out, e3.out, e4.out]
        exact hK k (by omega)
    · -- a take
      rcases take_cases 2 (by omega) h tok unt E.f0 (now + E.f1) E.f2 hn (by omega) (by omega) f20 f21 k0 (by omega) with ⟨hz2, ht⟩ | ⟨hz2, hh, hne, hlt⟩ | ⟨hz2, ht, hfree⟩
      · obtain ⟨K, hK⟩ := ih (i + 1) (now + E.f1) seen old h tok unt (by omega) (by omega) (by omega) k0 (by omega) hs ho (by omega)
        refine ⟨K + 3, fun k hk => ?_⟩
        obtain ⟨k, rfl⟩ : ∃ m, k = m + 1 := ⟨k - 1, by omega⟩
        have hT := at_rounds (g := fun k => lease_Take.f k h tok unt E.f0 (now + E.f1) E.f2) (fun k => lease_Take.mono _ _ _ _ _ _ k) (show 2 ≤ k by omega) hz2
        simp only [workflowlaw38_LeaseExcludes.l0]
        rw [if_pos (by omega), if_pos (by omega), if_pos (by omega), hE, if_neg hn, e1.out, e2.out, e3.out, hT]
        simp only [Option.bind_some]
        rw [if_neg (by decide), if_neg (by omega), e4.out]
        exact hK k (by omega)
      · obtain ⟨K, hK⟩ := ih (i + 1) (now + E.f1) seen old h tok unt (by omega) (by omega) (by omega) k0 (by omega) hs ho (by omega)
        refine ⟨K + 3, fun k hk => ?_⟩
        obtain ⟨k, rfl⟩ : ∃ m, k = m + 1 := ⟨k - 1, by omega⟩
        have hT := at_rounds (g := fun k => lease_Take.f k h tok unt E.f0 (now + E.f1) E.f2) (fun k => lease_Take.mono _ _ _ _ _ _ k) (show 2 ≤ k by omega) hz2
        simp only [workflowlaw38_LeaseExcludes.l0]
        rw [if_pos (by omega), if_pos (by omega), if_pos (by omega), hE, if_neg hn, e1.out, e2.out, e3.out, hT]
        simp only [Option.bind_some]
        rw [if_neg (by decide)]
        by_cases h2 : E.f2 > 0
        · rw [if_pos h2, if_neg hne, if_neg hh, if_neg (by omega), e4.out]
          exact hK k (by omega)
        · rw [if_neg h2, e4.out]
          exact hK k (by omega)
      · have ho2 : ∀ t ∈ old ++ [tok + 1], t ≤ tok + 1 := by
          intro t htm
          rcases List.mem_append.1 htm with h1 | h1
          · have := ho t h1
            omega
          · simp at h1
            omega
        obtain ⟨K, hK⟩ := ih (i + 1) (now + E.f1) (tok + 1) (old ++ [tok + 1]) E.f0 (tok + 1) (now + E.f1 + E.f2) (by omega) (by omega) (by omega) (by omega) (by omega) (by omega) ho2 (by simp; omega)
        refine ⟨K + old.length + 5, fun k hk => ?_⟩
        obtain ⟨k, rfl⟩ : ∃ m, k = m + 2 := ⟨k - 2, by omega⟩
        have hT := at_rounds (g := fun k => lease_Take.f k h tok unt E.f0 (now + E.f1) E.f2) (fun k => lease_Take.mono _ _ _ _ _ _ k) (show 2 ≤ k + 1 by omega) hz2
        have hI := inner K (now + E.f1) seen old xs (xs.length : Int) (i : Int) E.f0 (tok + 1) (now + E.f1 + E.f2) hn (by omega) (fun t h1 => by have := ho t h1; omega) (by omega) (by omega) (by rw [e4.out]; exact hK) old.length k 0 (by omega) (by omega)
        have hJ : workflowlaw38_LeaseExcludes.j1 (k + 1) (now + E.f1) seen old xs (xs.length : Int) (i : Int) false E.f0 (tok + 1) (now + E.f1 + E.f2) = some true := by
          simp only [workflowlaw38_LeaseExcludes.j1]
          rw [if_neg (by decide)]
          exact hI
        simp only [workflowlaw38_LeaseExcludes.l0]
        rw [if_pos (by omega), if_pos (by omega), if_pos (by omega), hE, if_neg hn, e1.out, e2.out, e3.out, hT]
        simp only [Option.bind_some]
        rw [if_pos trivial, if_neg (by omega)]
        by_cases h1 : h.toList = []
        · rw [if_pos h1]
          exact hJ
        · rw [if_neg h1]
          by_cases h2 : h.toList = E.f0.toList
          · rw [if_pos h2]
            exact hJ
          · rw [if_neg h2, decide_eq_false (by rcases hfree with h3 | h3 | h3 <;> first | exact absurd h3 h1 | exact absurd h3 h2 | omega)]
            exact hJ
theorem excludes (xs : List S40) (hx : Small xs) : ∃ k, workflowlaw38_LeaseExcludes.f k xs = some true := by
  by_cases hl : (xs.length : Int) > 100
  · refine ⟨10, ?_⟩
    unfold workflowlaw38_LeaseExcludes.f
    rw [if_pos hl, works10]
    rfl
  · obtain ⟨K, hK⟩ := outer xs hx (by omega) xs.length 0 0 0 [] (⟨#[]⟩ : ByteArray) 0 0 (by omega) (by omega) (by omega) (by omega) (by omega) (by omega) (by simp) (by simp)
    refine ⟨K, ?_⟩
    unfold workflowlaw38_LeaseExcludes.f
    rw [if_neg hl]
    exact hK K (Nat.le_refl _)
end Go.Proofs.Ytogchnnlpblfgaa.PureExc
