/- What the printed functions of the draw chapter compute: Fnv and its reference, the bytes of a number, Draw, Below, Jitter and their references. Each for any input of the sizes that the statements let in. -/
import Derived.Test.YtdolgppbkfnjlaaPAllx2
import Derived.Test.YtdolgppbkfnjlaaMath
import Derived.Laws.BitsAllLaws
import Derived.Laws.BitsLemmas
namespace Go.Proofs.Ytdolgppbkfnjlaa.PAll
open Go.RowKit Go.Proofs.YtdolgppbkfnjlaaW.PrintWords Go.Proofs.YtdolgppbkfnjlaaW.PrintLast Go.Proofs.YtdolgppbkfnjlaaW.PrintMore
open Go.Proofs.Ytdolgppbkfnjlaa.Math

theorem wrap_id (x : Int) (h0 : -9223372036854775808 ≤ x) (h : x < 9223372036854775808) : wrap64 x = x := by unfold wrap64; omega
theorem uwrap_id (x : Int) (h0 : 0 ≤ x) (h : x < 18446744073709551616) : IntKind.u64.wrap x = x := by
  rw [IntKind.wrap_u64]
  omega

/-! ### Fnv -/
def codes (s : ByteArray) : List Nat := s.data.toList.map UInt8.toNat
theorem data_length (s : ByteArray) : s.data.toList.length = s.size := Array.length_toList
theorem codes_length (s : ByteArray) : (codes s).length = s.size := by
  unfold codes
  rw [List.length_map, data_length]
theorem codes_get (s : ByteArray) (i : Nat) (h : i < s.size) : (codes s)[i]? = some (bt s i).toNat := by
  have h' : i < s.data.toList.length := by rw [data_length]; exact h
  unfold codes bt
  rw [List.getElem?_map, List.getElem?_eq_getElem h']
  simp only [Int.toNat_natCast, dif_pos h, Option.map_some]
  rfl
theorem codes_drop (s : ByteArray) (i : Nat) (h : i < s.size) : (codes s).drop i = (bt s i).toNat :: (codes s).drop (i + 1) := by
  have hl : i < (codes s).length := by rw [codes_length]; exact h
  rw [List.drop_eq_getElem_cons hl]
  have := codes_get s i h
  rw [List.getElem?_eq_getElem hl] at this
  rw [Option.some.inj this]
theorem fnv_step (s : ByteArray) (i : Int) (h : Nat) (hh : h < 4294967296) :
    ((Go.bits .xor .u32 (h : Int) ((bt s i) % 4294967296)) * 16777619) % 4294967296 = ((fstep h (bt s i).toNat : Nat) : Int) := by
  obtain ⟨h0, h1⟩ := bt_range s i
  obtain ⟨c, hc⟩ := Int.eq_ofNat_of_zero_le h0
  rw [hc, Int.toNat_natCast, show (c : Int) % 4294967296 = c from by omega, u32_xor_nat h c hh (by omega)]
  unfold fstep
  omega
theorem fnv_l0 (s : ByteArray) (hs : s.size ≤ 140737488351232) (d : Nat) : ∀ (k i h : Nat), i + d = s.size → d < k → h < 4294967296 →
    hash_Fnv.l0 k s h (s.size : Int) (i : Int) = some ((ffold h ((codes s).drop i) : Nat) : Int) := by
  induction d with
  | zero =>
    intro k i h hi hk hh
    obtain ⟨k, rfl⟩ : ∃ m, k = m + 1 := ⟨k - 1, by omega⟩
    rw [List.drop_eq_nil_of_le (by rw [codes_length]; omega)]
    simp only [hash_Fnv.l0]
    rw [if_neg (by omega), wrap_id _ (by omega) (by omega)]
    rfl
  | succ d ih =>
    intro k i h hi hk hh
    obtain ⟨k, rfl⟩ : ∃ m, k = m + 1 := ⟨k - 1, by omega⟩
    have hlt : i < s.size := by omega
    rw [codes_drop s i hlt, ffold_cons]
    simp only [hash_Fnv.l0]
    rw [if_pos (by omega), if_pos (by omega), if_pos (by omega), fnv_step s i h hh, wrap_id _ (by omega) (by omega)]
    exact ih k (i + 1) (fstep h (bt s i).toNat) (by omega) (by omega) (fstep_lt _ _)
def fnvL (l : List Nat) : Nat := ffold 2166136261 l
theorem fnvL_lt (l : List Nat) : fnvL l < 4294967296 := ffold_lt _ _ (by decide)
theorem fnv_f (s : ByteArray) (hs : s.size ≤ 140737488351232) (k : Nat) (hk : s.size < k) : hash_Fnv.f k s = some ((fnvL (codes s) : Nat) : Int) := by
  have := fnv_l0 s hs s.size k 0 2166136261 (by omega) hk (by decide)
  rw [List.drop_zero] at this
  exact this

/-! ### the reference's Fnv -/
theorem times_l0 (n : Nat) : ∀ (k a b o : Nat), n < k → a < 4294967296 → b < 2 ^ n → b < 4294967296 → o < 4294967296 →
    workflowref05_times.l0 k a b o = some (((o + a * b) % 4294967296 : Nat) : Int) := by
  induction n with
  | zero =>
    intro k a b o hk ha hb _ ho
    obtain ⟨k, rfl⟩ : ∃ m, k = m + 1 := ⟨k - 1, by omega⟩
    have hb0 : b = 0 := by simpa using hb
    subst hb0
    simp only [workflowref05_times.l0]
    rw [if_neg (by omega), Nat.mul_zero, Nat.add_zero, Nat.mod_eq_of_lt ho]
  | succ n ih =>
    intro k a b o hk ha hb hb2 ho
    obtain ⟨k, rfl⟩ : ∃ m, k = m + 1 := ⟨k - 1, by omega⟩
    simp only [workflowref05_times.l0]
    by_cases h0 : b = 0
    · subst h0
      rw [if_neg (by omega), Nat.mul_zero, Nat.add_zero, Nat.mod_eq_of_lt ho]
    · have hb3 : b / 2 < 2 ^ n := by
        rw [Nat.pow_succ] at hb
        omega
      have eb : Int.tdiv (b : Int) 2 = ((b / 2 : Nat) : Int) := by rw [Int.tdiv_eq_ediv_of_nonneg (by omega)]; omega
      have em : Int.tmod (b : Int) 2 = ((b % 2 : Nat) : Int) := by rw [Int.tmod_eq_emod_of_nonneg (by omega)]; omega
      have ea : Int.tmod (IntKind.u64.wrap ((a : Int) * 2)) 4294967296 = ((2 * a % 4294967296 : Nat) : Int) := by
        rw [uwrap_id _ (by omega) (by omega), Int.tmod_eq_emod_of_nonneg (by omega)]
        omega
      have eo : Int.tmod (IntKind.u64.wrap ((o : Int) + a)) 4294967296 = (((o + a) % 4294967296 : Nat) : Int) := by
        rw [uwrap_id _ (by omega) (by omega), Int.tmod_eq_emod_of_nonneg (by omega)]
        omega
      rw [if_pos (by omega), em, ea, eo, eb, uwrap_id _ (by omega) (by omega)]
      by_cases h1 : b % 2 = 1
      · rw [if_pos (by omega), ih k (2 * a % 4294967296) (b / 2) ((o + a) % 4294967296) (by omega) (by omega) hb3 (by omega) (by omega), double_step]
        have : o + a + 2 * a * (b / 2) = o + a * b := by
          have e : b = 2 * (b / 2) + 1 := by omega
          have e2 : a * b = a * (2 * (b / 2) + 1) := congrArg (a * ·) e
          rw [e2, Nat.mul_add, Nat.mul_one, ← Nat.mul_assoc, Nat.mul_comm a 2]
          omega
        rw [this]
      · rw [if_neg (by omega), ih k (2 * a % 4294967296) (b / 2) o (by omega) (by omega) hb3 (by omega) ho, double_even]
        have : o + 2 * a * (b / 2) = o + a * b := by
          have e : b = 2 * (b / 2) := by omega
          have e2 : a * b = a * (2 * (b / 2)) := congrArg (a * ·) e
          rw [e2, ← Nat.mul_assoc, Nat.mul_comm a 2]
        rw [this]
theorem times_f (k a : Nat) (hk : 30 ≤ k) (ha : a < 4294967296) : workflowref05_times.f k a 16777619 = some ((a * 16777619 % 4294967296 : Nat) : Int) := by
  have := times_l0 25 k a 16777619 0 (by omega) ha (by decide) (by decide) (by decide)
  rw [Nat.zero_add] at this
  exact this
/-- The bytes of a slice. -/
def nats (xs : List Int) : List Nat := xs.map Int.toNat
def Bytes (xs : List Int) : Prop := ∀ x ∈ xs, 0 ≤ x ∧ x < 256
theorem rd_get (xs : List Int) (h : Bytes xs) (i : Nat) (hi : i < xs.length) : ∃ c : Nat, c < 256 ∧ rd xs i = c ∧ (nats xs).drop i = c :: (nats xs).drop (i + 1) := by
  have hb := h xs[i] (List.getElem_mem hi)
  have hr : rd xs i = xs[i] := by
    unfold rd
    rw [Int.toNat_natCast, List.getD_eq_getElem?_getD, List.getElem?_eq_getElem hi]
    rfl
  refine ⟨xs[i].toNat, by omega, by rw [hr]; omega, ?_⟩
  have hl : i < (nats xs).length := by simpa [nats] using hi
  rw [List.drop_eq_getElem_cons hl]
  simp [nats]
theorem ref_byte (h c : Nat) (hh : h < 4294967296) (hc : c < 256) :
    IntKind.u64.wrap ((IntKind.u64.wrap ((IntKind.u64.wrap (Int.tdiv (h : Int) 256)) * 256)) + (IntKind.u64.wrap (Go.bits .xor .u8 ((h : Int) % 256) (c : Int)))) = ((h ^^^ c : Nat) : Int) := by
  have e1 : Int.tdiv (h : Int) 256 = ((h / 256 : Nat) : Int) := by rw [Int.tdiv_eq_ediv_of_nonneg (by omega)]; omega
  have e2 : Go.bits .xor .u8 ((h : Int) % 256) (c : Int) = (((h % 256) ^^^ c : Nat) : Int) := by
    have := u8_xor_nat (h % 256) c (by omega) hc
    rw [show ((h % 256 : Nat) : Int) = (h : Int) % 256 from by omega] at this
    exact this
  have hx : (h % 256) ^^^ c < 2 ^ 8 := Nat.xor_lt_two_pow (by omega) (by omega)
  have hx' : (h % 256) ^^^ c < 256 := hx
  rw [e1, e2, uwrap_id ((h / 256 : Nat) : Int) (by omega) (by omega), uwrap_id (((h / 256 : Nat) : Int) * 256) (by omega) (by omega), uwrap_id (((h % 256) ^^^ c : Nat) : Int) (by omega) (by omega), uwrap_id _ (by omega) (by omega), ← xor_byte h c hc]
  omega
theorem ref_fnv_l0 (xs : List Int) (hx : Bytes xs) (hl : xs.length ≤ 140737488351232) (d : Nat) : ∀ (k i h : Nat), i + d = xs.length → d + 30 < k → h < 4294967296 →
    workflowref05_Fnv.l0 k xs h (i : Int) = some ((ffold h ((nats xs).drop i) : Nat) : Int) := by
  induction d with
  | zero =>
    intro k i h hi hk hh
    obtain ⟨k, rfl⟩ : ∃ m, k = m + 1 := ⟨k - 1, by omega⟩
    rw [List.drop_eq_nil_of_le (by simp [nats]; omega)]
    simp only [workflowref05_Fnv.l0]
    rw [if_neg (by omega), wrap_id _ (by omega) (by omega)]
    rfl
  | succ d ih =>
    intro k i h hi hk hh
    obtain ⟨k, rfl⟩ : ∃ m, k = m + 1 := ⟨k - 1, by omega⟩
    obtain ⟨c, hc, hr, hd⟩ := rd_get xs hx i (by omega)
    have hxl : h ^^^ c < 2 ^ 32 := Nat.xor_lt_two_pow (by omega) (by omega)
    rw [hd, ffold_cons]
    simp only [workflowref05_Fnv.l0]
    rw [if_pos (by omega), if_pos (by omega), hr, ref_byte h c hh hc, times_f k (h ^^^ c) (by omega) (by omega)]
    simp only [Option.bind_some]
    rw [wrap_id _ (by omega) (by omega)]
    exact ih k (i + 1) (fstep h c) (by omega) (by omega) (fstep_lt h c)
theorem ref_fnv_f (xs : List Int) (hx : Bytes xs) (hl : xs.length ≤ 140737488351232) (k : Nat) (hk : xs.length + 30 < k) : workflowref05_Fnv.f k xs = some ((fnvL (nats xs) : Nat) : Int) := by
  have := ref_fnv_l0 xs hx hl xs.length k 0 2166136261 (by omega) hk (by decide)
  rw [List.drop_zero] at this
  exact this

/-! ### the eight bytes of a number -/
def bytes8 (x : Int) : List Int := [x / 72057594037927936 % 256, x / 281474976710656 % 256, x / 1099511627776 % 256, x / 4294967296 % 256, x / 16777216 % 256, x / 65536 % 256, x / 256 % 256, x % 256]
theorem bytes8_ok (x : Int) : Bytes (bytes8 x) := by
  intro y hy
  simp only [bytes8, List.mem_cons, List.not_mem_nil, or_false] at hy
  rcases hy with rfl | rfl | rfl | rfl | rfl | rfl | rfl | rfl <;> omega
theorem shr_at (x : Int) (n : Nat) (hn : n ≤ 64) : shr .i64 x n = x / 2 ^ n := by
  unfold shr
  rw [Int.toNat_natCast, show IntKind.i64.bits = 64 from rfl, Nat.min_eq_left hn]
theorem put_round (k : Nat) (l : List Int) (x : Int) (n : Nat) (hn : n ≤ 64) (hl : l.length < 140737488355328) :
    hash_put.l0 (k + 1) l x (n : Int) = hash_put.l0 k (l ++ [x / 2 ^ n % 256]) x ((n : Int) - 8) := by
  simp only [hash_put.l0]
  rw [if_pos (by omega), if_pos (by omega), if_pos hl, shr_at x n hn, show wrap64 ((n : Int) - 8) = (n : Int) - 8 from by unfold wrap64; omega]
theorem put_f (k : Nat) (l : List Int) (x : Int) (hl : l.length < 1000) : hash_put.f (k + 9) l x = some (l ++ bytes8 x) := by
  unfold hash_put.f
  rw [show (56 : Int) = ((56 : Nat) : Int) from rfl, put_round (k + 8) l x 56 (by omega) (by omega),
    show ((56 : Nat) : Int) - 8 = ((48 : Nat) : Int) from rfl, put_round (k + 7) _ x 48 (by omega) (by simp; omega),
    show ((48 : Nat) : Int) - 8 = ((40 : Nat) : Int) from rfl, put_round (k + 6) _ x 40 (by omega) (by simp; omega),
    show ((40 : Nat) : Int) - 8 = ((32 : Nat) : Int) from rfl, put_round (k + 5) _ x 32 (by omega) (by simp; omega),
    show ((32 : Nat) : Int) - 8 = ((24 : Nat) : Int) from rfl, put_round (k + 4) _ x 24 (by omega) (by simp; omega),
    show ((24 : Nat) : Int) - 8 = ((16 : Nat) : Int) from rfl, put_round (k + 3) _ x 16 (by omega) (by simp; omega),
    show ((16 : Nat) : Int) - 8 = ((8 : Nat) : Int) from rfl, put_round (k + 2) _ x 8 (by omega) (by simp; omega),
    show ((8 : Nat) : Int) - 8 = ((0 : Nat) : Int) from rfl, put_round (k + 1) _ x 0 (by omega) (by simp; omega)]
  simp only [hash_put.l0]
  rw [if_neg (by omega)]
  simp [bytes8]
theorem eight_round (k : Nat) (u : Int) (h0 : 0 ≤ u) (h1 : u < 18446744073709551616) (l : List Int) (n : Nat) (hn : n < l.length) (hl : l.length = 8) :
    workflowref05_eight.l0 (k + 1) l u (n : Int) = workflowref05_eight.l0 k (l.set n (u % 256)) (u / 256) ((n : Int) - 1) := by
  simp only [workflowref05_eight.l0]
  have e1 : Int.tdiv u 256 = u / 256 := Int.tdiv_eq_ediv_of_nonneg h0
  have e2 : Int.tmod u 256 = u % 256 := Int.tmod_eq_emod_of_nonneg h0
  rw [if_pos (by omega), if_pos (by omega), if_pos (by omega), e1, e2, IntKind.wrap_u64, Int.toNat_natCast, show (u / 256) % 18446744073709551616 = u / 256 from by omega,
    show u % 256 % 256 = u % 256 from by omega, show wrap64 ((n : Int) - 1) = (n : Int) - 1 from by unfold wrap64; omega]
theorem eight_f (k : Nat) (x : Int) : workflowref05_eight.f (k + 9) x = some (bytes8 x) := by
  unfold workflowref05_eight.f
  rw [if_pos (by decide), IntKind.wrap_u64]
  have h0 : 0 ≤ x % 18446744073709551616 := by omega
  have h1 : x % 18446744073709551616 < 18446744073709551616 := by omega
  generalize hu : x % 18446744073709551616 = u at *
  rw [show (7 : Int) = ((7 : Nat) : Int) from rfl, eight_round (k + 8) u h0 h1 _ 7 (by simp) (by simp),
    show ((7 : Nat) : Int) - 1 = ((6 : Nat) : Int) from rfl, eight_round (k + 7) _ (by omega) (by omega) _ 6 (by simp) (by simp),
    show ((6 : Nat) : Int) - 1 = ((5 : Nat) : Int) from rfl, eight_round (k + 6) _ (by omega) (by omega) _ 5 (by simp) (by simp),
    show ((5 : Nat) : Int) - 1 = ((4 : Nat) : Int) from rfl, eight_round (k + 5) _ (by omega) (by omega) _ 4 (by simp) (by simp),
    show ((4 : Nat) : Int) - 1 = ((3 : Nat) : Int) from rfl, eight_round (k + 4) _ (by omega) (by omega) _ 3 (by simp) (by simp),
    show ((3 : Nat) : Int) - 1 = ((2 : Nat) : Int) from rfl, eight_round (k + 3) _ (by omega) (by omega) _ 2 (by simp) (by simp),
    show ((2 : Nat) : Int) - 1 = ((1 : Nat) : Int) from rfl, eight_round (k + 2) _ (by omega) (by omega) _ 1 (by simp) (by simp),
    show ((1 : Nat) : Int) - 1 = ((0 : Nat) : Int) from rfl, eight_round (k + 1) _ (by omega) (by omega) _ 0 (by simp) (by simp)]
  simp only [workflowref05_eight.l0]
  rw [if_neg (by omega)]
  congr 1
  simp only [List.replicate, List.set_cons_succ, List.set_cons_zero, bytes8, List.cons.injEq, and_true]
  subst hu
  refine ⟨?_, ?_, ?_, ?_, ?_, ?_, ?_, ?_⟩ <;> omega
theorem put_k (k : Nat) (hk : 9 ≤ k) (l : List Int) (x : Int) (hl : l.length < 1000) : hash_put.f k l x = some (l ++ bytes8 x) := by
  obtain ⟨m, rfl⟩ : ∃ m, k = m + 9 := ⟨k - 9, by omega⟩
  exact put_f m l x hl
theorem eight_k (k : Nat) (hk : 9 ≤ k) (x : Int) : workflowref05_eight.f k x = some (bytes8 x) := by
  obtain ⟨m, rfl⟩ : ∃ m, k = m + 9 := ⟨k - 9, by omega⟩
  exact eight_f m x
theorem mask31 (t : Int) (h0 : 0 ≤ t) (h1 : t < 4294967296) : Go.bits .and .i64 t 2147483647 = t % 2147483648 := by
  have := bits_mask .i64 63 (by decide) (fun n a b => by rw [IntKind.wrap_i64]; omega) 31 (by decide) t h0 (by omega)
  simpa using this
theorem codes_strOfNums (l : List Int) (h : Bytes l) : codes (strOfNums l) = nats l := by
  unfold codes nats
  rw [strOfNums_data, List.map_map]
  apply List.map_congr_left
  intro x hx
  have := h x hx
  show (UInt8.ofNat x.toNat).toNat = x.toNat
  rw [UInt8.toNat_ofNat']
  omega

/-! ### Draw, Below -/
def sixteen (a b : Int) : List Int := bytes8 a ++ bytes8 b
theorem sixteen_ok (a b : Int) : Bytes (sixteen a b) := by
  intro y hy
  rcases List.mem_append.1 hy with h | h
  · exact bytes8_ok a y h
  · exact bytes8_ok b y h
theorem sixteen_len (a b : Int) : (sixteen a b).length = 16 := rfl
def drawn (a b : Int) : Int := (fnvL (nats (sixteen a b)) : Int) % 2147483648
theorem drawn_range (a b : Int) : 0 ≤ drawn a b ∧ drawn a b < 2147483648 := by
  unfold drawn
  omega
theorem mix_k (k : Nat) (hk : 100 ≤ k) (a b : Int) : hash_Mix.f k a b = some (drawn a b) := by
  unfold hash_Mix.f
  rw [put_k k (by omega) [] a (by simp)]
  simp only [Option.bind_some, List.nil_append]
  rw [put_k k (by omega) (bytes8 a) b (by simp [bytes8])]
  simp only [Option.bind_some]
  have hs : (strOfNums (bytes8 a ++ bytes8 b)).size = 16 := by rw [strOfNums_size]; rfl
  rw [fnv_f (strOfNums (bytes8 a ++ bytes8 b)) (by omega) k (by omega)]
  simp only [Option.bind_some]
  rw [codes_strOfNums (bytes8 a ++ bytes8 b) (sixteen_ok a b)]
  have := fnvL_lt (nats (bytes8 a ++ bytes8 b))
  rw [mask31 _ (by omega) (by omega)]
  rfl
theorem draw_k (k : Nat) (hk : 100 ≤ k) (a b : Int) : draw_Draw.f k a b = some (drawn a b) := by
  unfold draw_Draw.f
  rw [mix_k k hk]
  rfl
theorem ref_draw_k (k : Nat) (hk : 100 ≤ k) (a b : Int) : workflowref05_Draw.f k a b = some (drawn a b) := by
  unfold workflowref05_Draw.f
  rw [eight_k k (by omega) a]
  simp only [Option.bind_some]
  rw [eight_k k (by omega) b]
  simp only [Option.bind_some]
  have ha : (bytes8 a).length = 8 := rfl
  have hb : (bytes8 b).length = 8 := rfl
  have hl : (bytes8 a ++ bytes8 b).length = 16 := rfl
  rw [if_pos (by omega), ref_fnv_f (bytes8 a ++ bytes8 b) (sixteen_ok a b) (by omega) k (by omega)]
  simp only [Option.bind_some]
  rw [Int.tmod_eq_emod_of_nonneg (by omega)]
  rfl
def below (a b n : Int) : Int := if n < 1 then 0 else drawn a b % n
theorem below_k (k : Nat) (hk : 100 ≤ k) (a b n : Int) : draw_Below.f k a b n = some (below a b n) := by
  unfold draw_Below.f below
  by_cases h : n < 1
  · rw [if_pos h, if_pos h]
  · rw [if_neg h, if_neg h, draw_k k hk]
    simp only [Option.bind_some]
    rw [if_neg (by omega), Int.tmod_eq_emod_of_nonneg (drawn_range a b).1]
theorem ref_below_k (k : Nat) (hk : 100 ≤ k) (a b n : Int) : workflowref05_Below.f k a b n = some (below a b n) := by
  unfold workflowref05_Below.f below
  by_cases h : n < 1
  · rw [if_pos h, if_pos h]
  · rw [if_neg h, if_neg h, ref_draw_k k hk]
    simp only [Option.bind_some]
    rw [if_neg (by omega), Int.tmod_eq_emod_of_nonneg (drawn_range a b).1]
theorem below_range (a b n : Int) (h : 1 ≤ n) : 0 ≤ below a b n ∧ below a b n < n := by
  unfold below
  rw [if_neg (by omega)]
  exact ⟨Int.emod_nonneg _ (by omega), Int.emod_lt_of_pos _ (by omega)⟩

/-! ### Jitter -/
def inner (base p : Int) : Prop := 0 ≤ base ∧ base ≤ 1099511627776 ∧ 0 ≤ p ∧ p ≤ 100
def factor (a b p : Int) : Int := 100 - p + below a b (2 * p + 1)
theorem factor_range (a b p : Int) (h0 : 0 ≤ p) (h1 : p ≤ 100) : 100 - p ≤ factor a b p ∧ factor a b p ≤ 100 + p := by
  have := below_range a b (2 * p + 1) (by omega)
  unfold factor
  omega
theorem jitter_in (k : Nat) (hk : 100 ≤ k) (a b base p : Int) (h : inner base p) : draw_Jitter.f k a b base p = some (base * factor a b p / 100) := by
  obtain ⟨h0, h1, h2, h3⟩ := h
  obtain ⟨f0, f1⟩ := factor_range a b p h2 h3
  obtain ⟨g0, g1⟩ := product_le base (factor a b p) h0 h1 (by omega) (by omega)
  have g2 := below_range a b (2 * p + 1) (by omega)
  unfold draw_Jitter.f
  rw [if_neg (by omega), if_neg (by omega), if_neg (by omega), if_neg (by omega), wrap_id (2 * p) (by omega) (by omega), wrap_id (2 * p + 1) (by omega) (by omega), below_k k hk]
  simp only [Option.bind_some]
  rw [wrap_id (100 - p) (by omega) (by omega), wrap_id (100 - p + below a b (2 * p + 1)) (by omega) (by omega)]
  have e : 100 - p + below a b (2 * p + 1) = factor a b p := rfl
  rw [e, wrap_id (base * factor a b p) (by omega) (by omega), Int.tdiv_eq_ediv_of_nonneg g0, wrap_id _ (by omega) (by omega)]
theorem ref_jitter_in (k : Nat) (hk : 100 ≤ k) (a b base p : Int) (h : inner base p) : workflowref05_Jitter.f k a b base p = some (base * factor a b p / 100) := by
  obtain ⟨h0, h1, h2, h3⟩ := h
  obtain ⟨f0, f1⟩ := factor_range a b p h2 h3
  obtain ⟨g0, g1⟩ := product_le base (factor a b p) h0 h1 (by omega) (by omega)
  obtain ⟨q0, q1⟩ := product_le (base / 100) (factor a b p) (by omega) (by omega) (by omega) (by omega)
  obtain ⟨r0, r1⟩ := product_le (base % 100) (factor a b p) (by omega) (by omega) (by omega) (by omega)
  have g2 := below_range a b (2 * p + 1) (by omega)
  unfold workflowref05_Jitter.f
  rw [if_neg (by omega), if_neg (by omega), if_neg (by omega), if_neg (by omega), wrap_id (2 * p) (by omega) (by omega), wrap_id (2 * p + 1) (by omega) (by omega), ref_below_k k hk]
  simp only [Option.bind_some]
  rw [wrap_id (100 - p) (by omega) (by omega), wrap_id (100 - p + below a b (2 * p + 1)) (by omega) (by omega)]
  have e : 100 - p + below a b (2 * p + 1) = factor a b p := rfl
  have e1 : Int.tdiv base 100 = base / 100 := Int.tdiv_eq_ediv_of_nonneg h0
  have e2 : Int.tmod base 100 = base % 100 := Int.tmod_eq_emod_of_nonneg h0
  rw [e, e1, e2, wrap_id (base / 100) (by omega) (by omega), wrap_id (base / 100 * factor a b p) (by omega) (by omega), wrap_id (base % 100 * factor a b p) (by omega) (by omega),
    Int.tdiv_eq_ediv_of_nonneg r0, wrap_id (base % 100 * factor a b p / 100) (by omega) (by omega), wrap_id _ (by omega) (by omega), ← jitter_eq]
theorem jitter_out (k : Nat) (a b base p : Int) (h : ¬ inner base p) : draw_Jitter.f k a b base p = some base := by
  unfold draw_Jitter.f
  unfold inner at h
  by_cases h0 : base < 0
  · rw [if_pos h0]
  · rw [if_neg h0]
    by_cases h1 : base > 1099511627776
    · rw [if_pos h1]
    · rw [if_neg h1]
      by_cases h2 : p < 0
      · rw [if_pos h2]
      · rw [if_neg h2, if_pos (by omega)]
theorem ref_jitter_out (k : Nat) (a b base p : Int) (h : ¬ inner base p) : workflowref05_Jitter.f k a b base p = some base := by
  unfold workflowref05_Jitter.f
  unfold inner at h
  by_cases h0 : base < 0
  · rw [if_pos h0]
  · rw [if_neg h0]
    by_cases h1 : base > 1099511627776
    · rw [if_pos h1]
    · rw [if_neg h1]
      by_cases h2 : p < 0
      · rw [if_pos h2]
      · rw [if_neg h2, if_pos (by omega)]
end Go.Proofs.Ytdolgppbkfnjlaa.PAll
