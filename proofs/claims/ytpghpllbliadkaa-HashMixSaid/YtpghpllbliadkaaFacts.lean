/- What the printed functions of the hash chapter compute, as folds over natural numbers: Fnv, its reference, Crc, its reference. Each for any input of the sizes that the statement lets in. -/
import Derived.Test.YtpghpllbliadkaaPAllx1
import Derived.Test.YtpghpllbliadkaaMath
import Derived.Laws.BitsAllLaws
namespace Go.Proofs.Ytpghpllbliadkaa.PAll
open Go.RowKit Go.Proofs.YtpghpllbliadkaaW.PrintWords Go.Proofs.YtpghpllbliadkaaW.PrintLast Go.Proofs.YtpghpllbliadkaaW.PrintMore
open Go.Proofs.Ytpghpllbliadkaa.Math

theorem wrap_id (x : Int) (h0 : 0 ≤ x) (h : x < 9223372036854775808) : wrap64 x = x := by unfold wrap64; omega

theorem works_at (k : Nat) (h : 200 ≤ k) : workflowlaw04_works.f k = some true := at_rounds (g := workflowlaw04_works.f) workflowlaw04_works.mono h works_200

/-! ### Fnv -/
def codes (s : ByteArray) : List Nat := s.data.toList.map UInt8.toNat
theorem data_length (s : ByteArray) : s.data.toList.length = s.size := Array.length_toList
theorem codes_length (s : ByteArray) : (codes s).length = s.size := by
  unfold codes
  rw [List.length_map, data_length]
theorem codes_lt (s : ByteArray) : ∀ x ∈ codes s, x < 256 := by
  intro x hx
  obtain ⟨c, _, rfl⟩ := List.mem_map.1 hx
  exact c.toNat_lt
theorem codes_get (s : ByteArray) (i : Nat) (h : i < s.size) : (codes s)[i]? = some (bt s i).toNat := by
  have h' : i < s.data.toList.length := by rw [data_length]; exact h
  unfold codes bt
  rw [List.getElem?_map, List.getElem?_eq_getElem h']
  simp only [Int.toNat_natCast, dif_pos h, Option.map_some]
  rfl
theorem codes_drop (s : ByteArray) (i : Nat) (h : i < s.size) : (codes s).drop i = (bt s i).toNat :: (codes s).drop (i + 1) := by
  have hl : i < (codes s).length := by rw [codes_length]; exact h
  rw [List.drop_eq_getElem_cons hl]
  have := codes_get s i h
  rw [List.getElem?_eq_getElem hl] at this
  rw [Option.some.inj this]

theorem fnv_step (s : ByteArray) (i : Int) (h : Nat) (hh : h < 4294967296) :
    ((Go.bits .xor .u32 (h : Int) ((bt s i) % 4294967296)) * 16777619) % 4294967296 = ((fstep h (bt s i).toNat : Nat) : Int) := by
  obtain ⟨h0, h1⟩ := bt_range s i
  obtain ⟨c, hc⟩ := Int.eq_ofNat_of_zero_le h0
  rw [hc, Int.toNat_natCast, show (c : Int) % 4294967296 = c from by omega, u32_xor_nat h c hh (by omega)]
  unfold fstep
  omega

theorem fnv_l0 (s : ByteArray) (hs : s.size ≤ 140737488351232) (d : Nat) : ∀ (k i h : Nat), i + d = s.size → d < k → h < 4294967296 →
    hash_Fnv.l0 k s h (s.size : Int) (i : Int) = some ((ffold h ((codes s).drop i) : Nat) : Int) := by
  induction d with
  | zero =>
    intro k i h hi hk hh
    obtain ⟨k, rfl⟩ : ∃ m, k = m + 1 := ⟨k - 1, by omega⟩
    rw [List.drop_eq_nil_of_le (by rw [codes_length]; omega)]
    simp only [hash_Fnv.l0]
    rw [if_neg (by omega), wrap_id _ (by omega) (by omega)]
    rfl
  | succ d ih =>
    intro k i h hi hk hh
    obtain ⟨k, rfl⟩ : ∃ m, k = m + 1 := ⟨k - 1, by omega⟩
    have hlt : i < s.size := by omega
    rw [codes_drop s i hlt, ffold_cons]
    simp only [hash_Fnv.l0]
    rw [if_pos (by omega), if_pos (by omega), if_pos (by omega), fnv_step s i h hh, wrap_id _ (by omega) (by omega)]
    exact ih k (i + 1) (fstep h (bt s i).toNat) (by omega) (by omega) (fstep_lt _ _)

def fnv (s : ByteArray) : Nat := ffold 2166136261 (codes s)
theorem fnv_lt (s : ByteArray) : fnv s < 4294967296 := ffold_lt _ _ (by decide)
theorem fnv_f (s : ByteArray) (hs : s.size ≤ 140737488351232) (k : Nat) (hk : s.size < k) : hash_Fnv.f k s = some ((fnv s : Nat) : Int) := by
  have := fnv_l0 s hs s.size k 0 2166136261 (by omega) hk (by decide)
  rw [List.drop_zero] at this
  exact this

theorem ref_fnv_l0 (s : ByteArray) (hs : s.size ≤ 140737488351232) (d : Nat) : ∀ (k i h : Nat), i + d = s.size → d < k → h < 4294967296 →
    workflowref04_Fnv.l0 k s h (i : Int) = some ((ffold h ((codes s).drop i) : Nat) : Int) := by
  induction d with
  | zero =>
    intro k i h hi hk hh
    obtain ⟨k, rfl⟩ : ∃ m, k = m + 1 := ⟨k - 1, by omega⟩
    rw [List.drop_eq_nil_of_le (by rw [codes_length]; omega)]
    simp only [workflowref04_Fnv.l0]
    rw [if_neg (by omega), wrap_id _ (by omega) (by omega)]
    rfl
  | succ d ih =>
    intro k i h hi hk hh
    obtain ⟨k, rfl⟩ : ∃ m, k = m + 1 := ⟨k - 1, by omega⟩
    have hlt : i < s.size := by omega
    rw [codes_drop s i hlt, ffold_cons]
    simp only [workflowref04_Fnv.l0]
    rw [if_pos (by omega), if_pos (by omega), fnv_step s i h hh, wrap_id _ (by omega) (by omega)]
    exact ih k (i + 1) (fstep h (bt s i).toNat) (by omega) (by omega) (fstep_lt _ _)
theorem ref_fnv_f (s : ByteArray) (hs : s.size ≤ 140737488351232) (k : Nat) (hk : s.size < k) : workflowref04_Fnv.f k s = some ((fnv s : Nat) : Int) := by
  have := ref_fnv_l0 s hs s.size k 0 2166136261 (by omega) hk (by decide)
  rw [List.drop_zero] at this
  exact this

/-! ### Crc -/
theorem bit_step (c : Nat) (hc : c < 4294967296) :
    Go.bits .xor .u32 ((c : Int) / 2) ((3988292384 * (Go.bits .and .u32 (c : Int) 1)) % 4294967296) = ((cbit c : Nat) : Int) := by
  have h1 : Go.bits .and .u32 (c : Int) 1 = ((c % 2 : Nat) : Int) := by
    have := u32_and_nat c 1 hc (by decide)
    rw [Nat.and_one_is_mod] at this
    exact this
  rw [h1, show (3988292384 * ((c % 2 : Nat) : Int)) % 4294967296 = ((3988292384 * (c % 2) : Nat) : Int) from by omega, show (c : Int) / 2 = ((c / 2 : Nat) : Int) from by omega,
    u32_xor_nat (c / 2) (3988292384 * (c % 2)) (by omega) (by omega)]
  rfl
theorem crc_l1 (xs : List Int) (n i : Int) (t : Nat) : ∀ (k j c : Nat), j + t = 8 → c < 4294967296 →
    hash_Crc.l1 (k + t + 1) c xs n i (j : Int) = hash_Crc.l0 k ((cbits t c : Nat) : Int) xs n (wrap64 (i + 1)) := by
  induction t with
  | zero =>
    intro k j c hj hc
    simp only [hash_Crc.l1, cbits]
    rw [if_neg (by omega)]
  | succ t ih =>
    intro k j c hj hc
    rw [show k + (t + 1) + 1 = (k + t + 1) + 1 from by omega]
    simp only [hash_Crc.l1, cbits]
    rw [if_pos (by omega), bit_step c hc, wrap_id _ (by omega) (by omega)]
    exact ih k (j + 1) (cbit c) (by omega) (cbit_lt c hc)
theorem ref_crc_l1 (xs : List Int) (n i : Int) (t : Nat) : ∀ (k j c : Nat), j + t = 8 → c < 4294967296 →
    workflowref04_Crc.l1 (k + t + 1) c (j : Int) xs n i = workflowref04_Crc.l0 k ((cbits t c : Nat) : Int) xs n (wrap64 (i + 1)) := by
  induction t with
  | zero =>
    intro k j c hj hc
    simp only [workflowref04_Crc.l1, cbits]
    rw [if_neg (by omega)]
  | succ t ih =>
    intro k j c hj hc
    rw [show k + (t + 1) + 1 = (k + t + 1) + 1 from by omega]
    simp only [workflowref04_Crc.l1, cbits]
    have e : (Int.tdiv (c : Int) 2) % 4294967296 = ((c / 2 : Nat) : Int) := by
      rw [Int.tdiv_eq_ediv_of_nonneg (by omega)]
      omega
    rw [if_pos (by omega), e, wrap_id _ (by omega) (by omega), Int.tmod_eq_emod_of_nonneg (by omega)]
    by_cases hb : (c : Int) % 2 = 1
    · rw [if_pos hb]
      have := u32_xor_nat (c / 2) 3988292384 (by omega) (by decide)
      rw [show Go.bits .xor .u32 ((c / 2 : Nat) : Int) 3988292384 = ((cbit c : Nat) : Int) from by
        unfold cbit
        rw [show c % 2 = 1 from by omega, Nat.mul_one]
        exact this]
      exact ih k (j + 1) (cbit c) (by omega) (cbit_lt c hc)
    · rw [if_neg hb]
      have : cbit c = c / 2 := by
        unfold cbit
        rw [show c % 2 = 0 from by omega, Nat.mul_zero, Nat.xor_zero]
      rw [← this]
      exact ih k (j + 1) (cbit c) (by omega) (cbit_lt c hc)

/-- The bytes of a slice. -/
def nats (xs : List Int) : List Nat := xs.map Int.toNat
def Bytes (xs : List Int) : Prop := ∀ x ∈ xs, 0 ≤ x ∧ x < 256
theorem bytes_of (xs : List Int) (h : ∀ x ∈ xs, (Lit.int .u8 x).wf = true) : Bytes xs := by
  intro x hx
  have := h x hx
  simp [Lit.wf, IntKind.min, IntKind.max, IntKind.signed, IntKind.bits] at this
  omega
theorem nats_lt (xs : List Int) (h : Bytes xs) : ∀ x ∈ nats xs, x < 256 := by
  intro x hx
  obtain ⟨c, hc, rfl⟩ := List.mem_map.1 hx
  have := h c hc
  omega
theorem rd_get (xs : List Int) (h : Bytes xs) (i : Nat) (hi : i < xs.length) : ∃ c : Nat, c < 256 ∧ rd xs i = c ∧ (nats xs).drop i = c :: (nats xs).drop (i + 1) := by
  have hb := h xs[i] (List.getElem_mem hi)
  have hr : rd xs i = xs[i] := by
    unfold rd
    rw [Int.toNat_natCast, List.getD_eq_getElem?_getD, List.getElem?_eq_getElem hi]
    rfl
  refine ⟨xs[i].toNat, by omega, by rw [hr]; omega, ?_⟩
  have hl : i < (nats xs).length := by simpa [nats] using hi
  rw [List.drop_eq_getElem_cons hl]
  simp [nats]
theorem byte_step (c x : Nat) (hc : c < 4294967296) (hx : x < 256) : Go.bits .xor .u32 (c : Int) ((x : Int) % 4294967296) = ((c ^^^ x : Nat) : Int) := by
  rw [show (x : Int) % 4294967296 = x from by omega, u32_xor_nat c x hc (by omega)]
theorem last_step (c : Nat) (hc : c < 4294967296) : Go.bits .xor .u32 4294967295 (c : Int) = ((4294967295 ^^^ c : Nat) : Int) := u32_xor_nat 4294967295 c (by decide) hc
theorem last_lt (c : Nat) (hc : c < 4294967296) : 4294967295 ^^^ c < 4294967296 := by
  have : 4294967295 ^^^ c < 2 ^ 32 := Nat.xor_lt_two_pow (by decide) (by omega)
  omega

theorem crc_l0 (xs : List Int) (h : Bytes xs) (hl : xs.length ≤ 140737488351232) (d : Nat) : ∀ (k i c : Nat), i + d = xs.length → c < 4294967296 →
    hash_Crc.l0 (k + 10 * d + 1) c xs (xs.length : Int) (i : Int) = some ((4294967295 ^^^ cfold c ((nats xs).drop i) : Nat) : Int) := by
  induction d with
  | zero =>
    intro k i c hi hc
    rw [List.drop_eq_nil_of_le (by simp [nats]; omega)]
    simp only [hash_Crc.l0]
    have := last_lt c hc
    rw [if_neg (by omega), last_step c hc, wrap_id _ (by omega) (by omega)]
    rfl
  | succ d ih =>
    intro k i c hi hc
    obtain ⟨x, hx, hr, hd⟩ := rd_get xs h i (by omega)
    rw [hd, cfold_cons, show k + 10 * (d + 1) + 1 = ((k + 10 * d + 1) + 8 + 1) + 1 from by omega]
    simp only [hash_Crc.l0]
    rw [if_pos (by omega), if_pos (by omega), if_pos (by omega), hr, byte_step c x hc hx]
    have := crc_l1 xs (xs.length : Int) (i : Int) 8 (k + 10 * d + 1) 0 (c ^^^ x) (by omega) (xor_lt c x hc hx)
    rw [wrap_id _ (by omega) (by omega)] at this
    exact this.trans (ih k (i + 1) (cstep c x) (by omega) (cstep_lt c x hc hx))
theorem ref_crc_l0 (xs : List Int) (h : Bytes xs) (hl : xs.length ≤ 140737488351232) (d : Nat) : ∀ (k i c : Nat), i + d = xs.length → c < 4294967296 →
    workflowref04_Crc.l0 (k + 10 * d + 1) c xs (xs.length : Int) (i : Int) = some ((4294967295 ^^^ cfold c ((nats xs).drop i) : Nat) : Int) := by
  induction d with
  | zero =>
    intro k i c hi hc
    rw [List.drop_eq_nil_of_le (by simp [nats]; omega)]
    simp only [workflowref04_Crc.l0]
    have := last_lt c hc
    rw [if_neg (by omega), last_step c hc, wrap_id _ (by omega) (by omega)]
    rfl
  | succ d ih =>
    intro k i c hi hc
    obtain ⟨x, hx, hr, hd⟩ := rd_get xs h i (by omega)
    rw [hd, cfold_cons, show k + 10 * (d + 1) + 1 = ((k + 10 * d + 1) + 8 + 1) + 1 from by omega]
    simp only [workflowref04_Crc.l0]
    rw [if_pos (by omega), if_pos (by omega), if_pos (by omega), hr, byte_step c x hc hx]
    have := ref_crc_l1 xs (xs.length : Int) (i : Int) 8 (k + 10 * d + 1) 0 (c ^^^ x) (by omega) (xor_lt c x hc hx)
    rw [wrap_id _ (by omega) (by omega)] at this
    exact this.trans (ih k (i + 1) (cstep c x) (by omega) (cstep_lt c x hc hx))
def crc (xs : List Int) : Nat := 4294967295 ^^^ cfold 4294967295 (nats xs)
theorem crc_f (xs : List Int) (h : Bytes xs) (hl : xs.length ≤ 140737488351232) (k : Nat) (hk : 10 * xs.length < k) : hash_Crc.f k xs = some ((crc xs : Nat) : Int) := by
  obtain ⟨k, rfl⟩ : ∃ m, k = m + 10 * xs.length + 1 := ⟨k - (10 * xs.length + 1), by omega⟩
  have := crc_l0 xs h hl xs.length k 0 4294967295 (by omega) (by decide)
  rw [List.drop_zero] at this
  exact this
theorem ref_crc_f (xs : List Int) (h : Bytes xs) (hl : xs.length ≤ 140737488351232) (k : Nat) (hk : 10 * xs.length < k) : workflowref04_Crc.f k xs = some ((crc xs : Nat) : Int) := by
  obtain ⟨k, rfl⟩ : ∃ m, k = m + 10 * xs.length + 1 := ⟨k - (10 * xs.length + 1), by omega⟩
  have := ref_crc_l0 xs h hl xs.length k 0 4294967295 (by omega) (by decide)
  rw [List.drop_zero] at this
  exact this
end Go.Proofs.Ytpghpllbliadkaa.PAll
