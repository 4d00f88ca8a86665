/- Mix and its reference combine any two integers to the same number, which lies from 0 to 2^31 - 1. For every input of the statement. -/
import Derived.Test.YtpghpllbliadkaaPAllx4
import Derived.Test.YtpghpllbliadkaaFacts
import Derived.Laws.BitsLemmas
namespace Go.Proofs.Ytpghpllbliadkaa.Pure
open Go.RowKit Go.Proofs.Ytpghpllbliadkaa.PAll Go.Proofs.YtpghpllbliadkaaW.PrintWords Go.Proofs.YtpghpllbliadkaaW.PrintLast Go.Proofs.YtpghpllbliadkaaW.PrintMore
open Go.Proofs.Ytpghpllbliadkaa.Math
/-- The eight bytes of a number, the most significant one first. -/
def bytes8 (x : Int) : List Int := [x / 72057594037927936 % 256, x / 281474976710656 % 256, x / 1099511627776 % 256, x / 4294967296 % 256, x / 16777216 % 256, x / 65536 % 256, x / 256 % 256, x % 256]
theorem bytes8_ok (x : Int) : Bytes (bytes8 x) := by
  intro y hy
  simp only [bytes8, List.mem_cons, List.not_mem_nil, or_false] at hy
  rcases hy with rfl | rfl | rfl | rfl | rfl | rfl | rfl | rfl <;> omega
theorem shr_at (x : Int) (n : Nat) (hn : n ≤ 64) : shr .i64 x n = x / 2 ^ n := by
  unfold shr
  rw [Int.toNat_natCast, show IntKind.i64.bits = 64 from rfl, Nat.min_eq_left hn]
theorem put_round (k : Nat) (l : List Int) (x : Int) (n : Nat) (hn : n ≤ 64) (hl : l.length < 140737488355328) :
    hash_put.l0 (k + 1) l x (n : Int) = hash_put.l0 k (l ++ [x / 2 ^ n % 256]) x ((n : Int) - 8) := by
  simp only [hash_put.l0]
  rw [if_pos (by omega), if_pos (by omega), if_pos hl, shr_at x n hn, show wrap64 ((n : Int) - 8) = (n : Int) - 8 from by unfold wrap64; omega]
theorem put_f (k : Nat) (l : List Int) (x : Int) (hl : l.length < 1000) : hash_put.f (k + 9) l x = some (l ++ bytes8 x) := by
  unfold hash_put.f
  rw [show (56 : Int) = ((56 : Nat) : Int) from rfl, put_round (k + 8) l x 56 (by omega) (by omega),
    show ((56 : Nat) : Int) - 8 = ((48 : Nat) : Int) from rfl, put_round (k + 7) _ x 48 (by omega) (by simp; omega),
    show ((48 : Nat) : Int) - 8 = ((40 : Nat) : Int) from rfl, put_round (k + 6) _ x 40 (by omega) (by simp; omega),
    show ((40 : Nat) : Int) - 8 = ((32 : Nat) : Int) from rfl, put_round (k + 5) _ x 32 (by omega) (by simp; omega),
    show ((32 : Nat) : Int) - 8 = ((24 : Nat) : Int) from rfl, put_round (k + 4) _ x 24 (by omega) (by simp; omega),
    show ((24 : Nat) : Int) - 8 = ((16 : Nat) : Int) from rfl, put_round (k + 3) _ x 16 (by omega) (by simp; omega),
    show ((16 : Nat) : Int) - 8 = ((8 : Nat) : Int) from rfl, put_round (k + 2) _ x 8 (by omega) (by simp; omega),
    show ((8 : Nat) : Int) - 8 = ((0 : Nat) : Int) from rfl, put_round (k + 1) _ x 0 (by omega) (by simp; omega)]
  simp only [hash_put.l0]
  rw [if_neg (by omega)]
  simp [bytes8]
theorem eight_round (k : Nat) (u : Int) (h0 : 0 ≤ u) (h1 : u < 18446744073709551616) (l : List Int) (n : Nat) (hn : n < l.length) (hl : l.length = 8) :
    workflowref04_eight.l0 (k + 1) u l (n : Int) = workflowref04_eight.l0 k (u / 256) (l.set n (u % 256)) ((n : Int) - 1) := by
  simp only [workflowref04_eight.l0]
  have e1 : Int.tdiv u 256 = u / 256 := Int.tdiv_eq_ediv_of_nonneg h0
  have e2 : Int.tmod u 256 = u % 256 := Int.tmod_eq_emod_of_nonneg h0
  rw [if_pos (by omega), if_pos (by omega), if_pos (by omega), e1, e2, IntKind.wrap_u64, Int.toNat_natCast, show (u / 256) % 18446744073709551616 = u / 256 from by omega,
    show u % 256 % 256 = u % 256 from by omega, show wrap64 ((n : Int) - 1) = (n : Int) - 1 from by unfold wrap64; omega]
theorem eight_f (k : Nat) (x : Int) : workflowref04_eight.f (k + 9) x = some (strOfNums (bytes8 x)) := by
  unfold workflowref04_eight.f
  rw [if_pos (by decide), IntKind.wrap_u64]
  have h0 : 0 ≤ x % 18446744073709551616 := by omega
  have h1 : x % 18446744073709551616 < 18446744073709551616 := by omega
  generalize hu : x % 18446744073709551616 = u at *
  rw [show (7 : Int) = ((7 : Nat) : Int) from rfl, eight_round (k + 8) u h0 h1 _ 7 (by simp) (by simp),
    show ((7 : Nat) : Int) - 1 = ((6 : Nat) : Int) from rfl, eight_round (k + 7) _ (by omega) (by omega) _ 6 (by simp) (by simp),
    show ((6 : Nat) : Int) - 1 = ((5 : Nat) : Int) from rfl, eight_round (k + 6) _ (by omega) (by omega) _ 5 (by simp) (by simp),
    show ((5 : Nat) : Int) - 1 = ((4 : Nat) : Int) from rfl, eight_round (k + 5) _ (by omega) (by omega) _ 4 (by simp) (by simp),
    show ((4 : Nat) : Int) - 1 = ((3 : Nat) : Int) from rfl, eight_round (k + 4) _ (by omega) (by omega) _ 3 (by simp) (by simp),
    show ((3 : Nat) : Int) - 1 = ((2 : Nat) : Int) from rfl, eight_round (k + 3) _ (by omega) (by omega) _ 2 (by simp) (by simp),
    show ((2 : Nat) : Int) - 1 = ((1 : Nat) : Int) from rfl, eight_round (k + 2) _ (by omega) (by omega) _ 1 (by simp) (by simp),
    show ((1 : Nat) : Int) - 1 = ((0 : Nat) : Int) from rfl, eight_round (k + 1) _ (by omega) (by omega) _ 0 (by simp) (by simp)]
  simp only [workflowref04_eight.l0]
  rw [if_neg (by omega)]
  congr 2
  simp only [List.replicate, List.set_cons_succ, List.set_cons_zero, bytes8, List.cons.injEq, and_true]
  subst hu
  refine ⟨?_, ?_, ?_, ?_, ?_, ?_, ?_, ?_⟩ <;> omega
theorem put_k (k : Nat) (hk : 9 ≤ k) (l : List Int) (x : Int) (hl : l.length < 1000) : hash_put.f k l x = some (l ++ bytes8 x) := by
  obtain ⟨m, rfl⟩ : ∃ m, k = m + 9 := ⟨k - 9, by omega⟩
  exact put_f m l x hl
theorem eight_k (k : Nat) (hk : 9 ≤ k) (x : Int) : workflowref04_eight.f k x = some (strOfNums (bytes8 x)) := by
  obtain ⟨m, rfl⟩ : ∃ m, k = m + 9 := ⟨k - 9, by omega⟩
  exact eight_f m x
theorem mask31 (t : Int) (h0 : 0 ≤ t) (h1 : t < 4294967296) : Go.bits .and .i64 t 2147483647 = t % 2147483648 := by
  have := bits_mask .i64 63 (by decide) (fun n a b => by rw [IntKind.wrap_i64]; omega) 31 (by decide) t h0 (by omega)
  simpa using this
def mixed (a b : Int) : Int := (fnv (strOfNums (bytes8 a ++ bytes8 b)) : Int) % 2147483648
theorem size16 (a b : Int) : (strOfNums (bytes8 a ++ bytes8 b)).size = 16 := by rw [strOfNums_size]; rfl
theorem size8 (a : Int) : (strOfNums (bytes8 a)).size = 8 := by rw [strOfNums_size]; rfl
theorem joined (a b : Int) : strOfNums (bytes8 a) ++ strOfNums (bytes8 b) = strOfNums (bytes8 a ++ bytes8 b) := by
  apply ByteArray.ext
  rw [ByteArray.data_append]
  simp [strOfNums]
theorem mix_k (k : Nat) (hk : 200 ≤ k) (a b : Int) : hash_Mix.f k a b = some (mixed a b) := by
  unfold hash_Mix.f
  rw [put_k k (by omega) [] a (by simp)]
  simp only [Option.bind_some, List.nil_append]
  rw [put_k k (by omega) (bytes8 a) b (by simp [bytes8])]
  simp only [Option.bind_some]
  have hs := size16 a b
  rw [fnv_f (strOfNums (bytes8 a ++ bytes8 b)) (by omega) k (by omega)]
  simp only [Option.bind_some]
  have := fnv_lt (strOfNums (bytes8 a ++ bytes8 b))
  rw [mask31 _ (by omega) (by omega)]
  rfl
theorem ref_mix_k (k : Nat) (hk : 200 ≤ k) (a b : Int) : workflowref04_Mix.f k a b = some (mixed a b) := by
  unfold workflowref04_Mix.f
  rw [eight_k k (by omega) a]
  simp only [Option.bind_some]
  rw [eight_k k (by omega) b]
  simp only [Option.bind_some]
  have hs := size16 a b
  have ha := size8 a
  have hb := size8 b
  rw [if_pos (by omega), joined, ref_fnv_f (strOfNums (bytes8 a ++ bytes8 b)) (by omega) k (by omega)]
  simp only [Option.bind_some]
  rw [Int.tmod_eq_emod_of_nonneg (by omega)]
  rfl
theorem mixed_range (a b : Int) : 0 ≤ mixed a b ∧ mixed a b < 2147483648 := by
  unfold mixed
  omega
theorem mix_any (k : Nat) (a b m : Int) (h1 : hash_Mix.f k a b = some m) (h2 : workflowref04_Mix.f k a b = some m) (h3 : m ≥ 0) (h4 : m < 2147483648) (hw : workflowlaw04_works.f k = some true) : workflowlaw04_HashMix.f k a b = some true := by
  unfold workflowlaw04_HashMix.f
  rw [h1, h2]
  simp only [Option.bind_some]
  rw [if_pos trivial, if_pos h3, if_pos h4, hw]
  rfl
theorem mix_law (k : Nat) (hk : 200 ≤ k) (a b : Int) : workflowlaw04_HashMix.f k a b = some true :=
  mix_any k a b (mixed a b) (mix_k k hk a b) (ref_mix_k k hk a b) (mixed_range a b).1 (mixed_range a b).2 (works_at k hk)
theorem HashMix : workflowlaw04_HashMix.Pure := by
  intro a b _ _
  exact ⟨200, mix_law 200 (Nat.le_refl _) a b⟩
end Go.Proofs.Ytpghpllbliadkaa.Pure
