/- The hash of a string with one more byte follows from the hash of the string; strings that differ only in the last byte have different hashes. For every input of the statement. -/
import Derived.Test.YtpghpllbliadkaaPAllx3
import Derived.Test.YtpghpllbliadkaaFacts
namespace Go.Proofs.Ytpghpllbliadkaa.Pure
open Go.RowKit Go.Proofs.Ytpghpllbliadkaa.PAll Go.Proofs.YtpghpllbliadkaaW.PrintWords Go.Proofs.YtpghpllbliadkaaW.PrintLast
open Go.Proofs.Ytpghpllbliadkaa.Math
theorem one_size (x : Int) : (strOfNums [x]).size = 1 := strOfNums_size [x]
theorem codes_one (s : ByteArray) (x : Int) (h0 : 0 ≤ x) (h1 : x < 256) : codes (s ++ strOfNums [x]) = codes s ++ [x.toNat] := by
  unfold codes
  rw [ByteArray.data_append, Array.toList_append, List.map_append, strOfNums_data]
  have : (UInt8.ofNat x.toNat).toNat = x.toNat := by
    rw [UInt8.toNat_ofNat']
    omega
  simp only [List.map_cons, List.map_nil, this]
theorem fnv_one (s : ByteArray) (x : Int) (h0 : 0 ≤ x) (h1 : x < 256) : fnv (s ++ strOfNums [x]) = fstep (fnv s) x.toNat := by
  unfold fnv
  rw [codes_one s x h0 h1, ffold_snoc]
theorem byte_of (x : Int) (h : (Lit.int .u8 x).wf = true) : 0 ≤ x ∧ x < 256 := by
  simp [Lit.wf, IntKind.min, IntKind.max, IntKind.signed, IntKind.bits] at h
  omega
theorem HashExtends : workflowlaw04_HashExtends.Pure := by
  intro s x y hs hxw hyw
  obtain ⟨x0, x1⟩ := byte_of x hxw
  obtain ⟨y0, y1⟩ := byte_of y hyw
  refine ⟨s.size + 202, ?_⟩
  have hw := works_at (s.size + 202) (by omega)
  unfold workflowlaw04_HashExtends.f
  by_cases h : (s.size : Int) > 1000
  · rw [if_pos h, hw]
    rfl
  · rw [if_neg h]
    simp only [Option.bind_some]
    have hx := one_size x
    have hy := one_size y
    have sx : (s ++ strOfNums [x]).size = s.size + 1 := by rw [ByteArray.size_append, hx]
    have sy : (s ++ strOfNums [y]).size = s.size + 1 := by rw [ByteArray.size_append, hy]
    rw [if_pos (by omega), fnv_f (s ++ strOfNums [x]) (by omega) _ (by omega)]
    simp only [Option.bind_some]
    rw [if_pos (by omega), fnv_f (s ++ strOfNums [y]) (by omega) _ (by omega)]
    simp only [Option.bind_some]
    rw [fnv_f s hs _ (by omega)]
    simp only [Option.bind_some]
    rw [fnv_one s x x0 x1, fnv_one s y y0 y1]
    have hf := fnv_lt s
    have hstep : ((Go.bits .xor .u32 (((fnv s : Nat) : Int) % 4294967296) (x % 4294967296)) * 16777619) % 4294967296 = ((fstep (fnv s) x.toNat : Nat) : Int) := by
      obtain ⟨c, rfl⟩ := Int.eq_ofNat_of_zero_le x0
      rw [Int.toNat_natCast, show (c : Int) % 4294967296 = c from by omega, show ((fnv s : Nat) : Int) % 4294967296 = ((fnv s : Nat) : Int) from by omega, u32_xor_nat (fnv s) c hf (by omega)]
      unfold fstep
      omega
    rw [hstep, if_pos rfl]
    have key : (((fstep (fnv s) x.toNat : Nat) : Int) == ((fstep (fnv s) y.toNat : Nat) : Int)) = (x == y) := by
      by_cases e : x = y
      · rw [e, beq_self_eq_true, beq_self_eq_true]
      · rw [beq_eq_false_iff_ne.2 e]
        refine beq_eq_false_iff_ne.2 fun e2 => e ?_
        have := fstep_inj (fnv s) x.toNat y.toNat hf (by omega) (by omega) (Int.ofNat.inj e2)
        omega
    rw [key, if_pos (by simp), hw]
    rfl
end Go.Proofs.Ytpghpllbliadkaa.Pure
