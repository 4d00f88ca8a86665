/- Bytes that differ in exactly one place have different checksums. For every input of the statement. -/
import Derived.Test.YtpghpllbliadkaaPAllx2
import Derived.Test.YtpghpllbliadkaaFacts
namespace Go.Proofs.Ytpghpllbliadkaa.Pure
open Go.RowKit Go.Proofs.Ytpghpllbliadkaa.PAll Go.Proofs.YtpghpllbliadkaaW.PrintWords Go.Proofs.YtpghpllbliadkaaW.PrintLast
open Go.Proofs.Ytpghpllbliadkaa.Math
theorem nats_set (xs : List Int) (i : Nat) (x : Int) : nats (xs.set i x) = (nats xs).set i x.toNat := by
  unfold nats
  rw [List.map_set]
theorem set_split (l : List Nat) (i x : Nat) (h : i < l.length) : l.set i x = l.take i ++ x :: l.drop (i + 1) := by
  rw [List.set_eq_take_append_cons_drop, if_pos h]
theorem self_split (l : List Nat) (i : Nat) (h : i < l.length) : l = l.take i ++ l[i] :: l.drop (i + 1) := by
  rw [← List.drop_eq_getElem_cons h, List.take_append_drop]
theorem crc_one (xs : List Int) (hx : Bytes xs) (i : Nat) (h : i < xs.length) (x : Int) (h0 : 0 ≤ x) (h1 : x < 256) (e : crc xs = crc (xs.set i x)) : rd xs i = x := by
  obtain ⟨c, hc, hr, hd⟩ := rd_get xs hx i h
  have hl : i < (nats xs).length := by simpa [nats] using h
  have e1 := xor_inj_right _ _ _ e
  have hci : (nats xs)[i] = c := by
    rw [List.drop_eq_getElem_cons hl] at hd
    exact (List.cons.inj hd).1
  have hm := nats_lt xs hx
  rw [nats_set, set_split _ _ _ hl] at e1
  have e2 : cfold 4294967295 ((nats xs).take i ++ c :: (nats xs).drop (i + 1)) = cfold 4294967295 ((nats xs).take i ++ x.toNat :: (nats xs).drop (i + 1)) := by
    rw [← e1, ← hci]
    exact congrArg (cfold 4294967295) (self_split (nats xs) i hl).symm
  have := cfold_one _ _ c x.toNat 4294967295 (by decide) (fun y hy => hm y (List.mem_of_mem_take hy)) (fun y hy => hm y (List.mem_of_mem_drop hy)) hc (by omega) e2
  omega
theorem bytes_set (xs : List Int) (hx : Bytes xs) (i : Nat) (x : Int) (h0 : 0 ≤ x) (h1 : x < 256) : Bytes (xs.set i x) := by
  intro y hy
  rcases List.mem_or_eq_of_mem_set hy with h | rfl
  · exact hx y h
  · exact ⟨h0, h1⟩
theorem HashByte : workflowlaw04_HashByte.Pure := by
  intro xs a x _ hl hb _ hxw
  have hx := bytes_of xs hb
  have hx2 : 0 ≤ x ∧ x < 256 := by
    simp [Lit.wf, IntKind.min, IntKind.max, IntKind.signed, IntKind.bits] at hxw
    omega
  refine ⟨(10 * xs.length + 201) + 1, ?_⟩
  have hw := works_at (10 * xs.length + 201) (by omega)
  unfold workflowlaw04_HashByte.f
  have out : workflowlaw04_HashByte.j0 ((10 * xs.length + 201) + 1) xs a x true = some true := by
    simp only [workflowlaw04_HashByte.j0]
    rw [if_pos trivial, hw]
    rfl
  by_cases h : (xs.length : Int) > 500
  · rw [if_pos h]
    exact out
  · rw [if_neg h]
    by_cases ha : a < 0
    · rw [if_pos ha]
      exact out
    · rw [if_neg ha]
      by_cases ha2 : a ≥ (xs.length : Int)
      · rw [decide_eq_true ha2]
        exact out
      · rw [decide_eq_false ha2]
        obtain ⟨i, rfl⟩ := Int.eq_ofNat_of_zero_le (show 0 ≤ a by omega)
        have hi : i < xs.length := by omega
        simp only [workflowlaw04_HashByte.j0]
        rw [if_neg (by decide)]
        simp only [Option.bind_some, List.nil_append, List.length_nil]
        rw [if_pos (by omega), if_pos (by omega), if_pos (by omega), crc_f xs hx (by omega) _ (by omega)]
        simp only [Option.bind_some]
        rw [crc_f (xs.set (i : Int).toNat x) (bytes_set xs hx _ x hx2.1 hx2.2) (by rw [List.length_set]; omega) _ (by rw [List.length_set]; omega)]
        simp only [Option.bind_some]
        rw [if_pos (by omega), Int.toNat_natCast]
        have key : (((crc xs : Nat) : Int) == ((crc (xs.set i x) : Nat) : Int)) = (rd xs i == x) := by
          by_cases e : rd xs i = x
          · have : xs.set i x = xs := by
              apply List.ext_getElem?
              intro j
              by_cases hj : j = i
              · subst hj
                rw [List.getElem?_set_self hi, List.getElem?_eq_getElem hi]
                unfold rd at e
                rw [Int.toNat_natCast, List.getD_eq_getElem?_getD, List.getElem?_eq_getElem hi] at e
                exact congrArg some e.symm
              · rw [List.getElem?_set_ne (Ne.symm hj)]
            rw [this, beq_self_eq_true, e, beq_self_eq_true]
          · rw [beq_eq_false_iff_ne.2 e]
            refine beq_eq_false_iff_ne.2 fun e2 => e (crc_one xs hx i hi x hx2.1 hx2.2 (by omega))
        rw [key, if_pos (by simp), hw]
        rfl
end Go.Proofs.Ytpghpllbliadkaa.Pure
