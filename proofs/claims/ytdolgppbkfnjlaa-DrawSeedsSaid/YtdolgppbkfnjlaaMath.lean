/- Plain facts on FNV-1a over natural numbers, on a product by doubling, and on rounding down. No condition beyond those stated. -/
namespace Go.Proofs.Ytdolgppbkfnjlaa.Math
/-- One byte of FNV-1a. -/
def fstep (h c : Nat) : Nat := ((h ^^^ c) * 16777619) % 4294967296
def ffold (h : Nat) (l : List Nat) : Nat := l.foldl fstep h
theorem fstep_lt (h c : Nat) : fstep h c < 4294967296 := by
  unfold fstep
  omega
theorem ffold_cons (h c : Nat) (l : List Nat) : ffold h (c :: l) = ffold (fstep h c) l := by simp only [ffold, List.foldl_cons]
theorem ffold_lt (l : List Nat) : ∀ h, h < 4294967296 → ffold h l < 4294967296 := by
  induction l with
  | nil => intro h hh; simpa only [ffold, List.foldl_nil] using hh
  | cons c l ih => intro h _; rw [ffold_cons]; exact ih (fstep h c) (fstep_lt h c)
theorem double_step (M o a q : Nat) : ((o + a) % M + 2 * a % M * q) % M = (o + a + 2 * a * q) % M := by
  rw [Nat.add_mod, Nat.mod_mod, Nat.mod_mul_mod, ← Nat.add_mod]
theorem double_even (M o a q : Nat) : (o + 2 * a % M * q) % M = (o + 2 * a * q) % M := by
  rw [Nat.add_mod, Nat.mod_mul_mod, ← Nat.add_mod]
theorem xor_byte (h c : Nat) (hc : c < 256) : h / 256 * 256 + ((h % 256) ^^^ c) = h ^^^ c := by
  have h1 : (h ^^^ c) % 2 ^ 8 = (h % 2 ^ 8) ^^^ (c % 2 ^ 8) := Nat.xor_mod_two_pow
  have h2 : (h ^^^ c) / 2 ^ 8 = (h / 2 ^ 8) ^^^ (c / 2 ^ 8) := Nat.xor_div_two_pow
  have e1 : c % 2 ^ 8 = c := Nat.mod_eq_of_lt (by omega)
  have e2 : c / 2 ^ 8 = 0 := by omega
  rw [e1] at h1
  rw [e2, Nat.xor_zero] at h2
  have h3 := Nat.div_add_mod (h ^^^ c) (2 ^ 8)
  rw [h1, h2] at h3
  have e3 : (2 : Nat) ^ 8 = 256 := rfl
  rw [e3] at h3
  omega
theorem jitter_eq (base f : Int) : base * f / 100 = base / 100 * f + base % 100 * f / 100 := by
  have h : base * f = 100 * (base / 100 * f) + base % 100 * f := by
    have e : base = 100 * (base / 100) + base % 100 := (Int.mul_ediv_add_emod base 100).symm
    have e2 : base * f = (100 * (base / 100) + base % 100) * f := congrArg (· * f) e
    rw [e2, Int.add_mul, Int.mul_assoc]
  rw [h, Int.add_comm, Int.add_mul_ediv_left _ _ (by decide), Int.add_comm]
theorem product_le (base f : Int) (h0 : 0 ≤ base) (h1 : base ≤ 1099511627776) (f0 : 0 ≤ f) (f1 : f ≤ 200) : 0 ≤ base * f ∧ base * f ≤ 219902325555200 := by
  refine ⟨Int.mul_nonneg h0 f0, ?_⟩
  have := Int.mul_le_mul h1 f1 f0 (by decide)
  exact this
theorem mono (base f g : Int) (h0 : 0 ≤ base) (h : f ≤ g) : base * f / 100 ≤ base * g / 100 :=
  Int.ediv_le_ediv (by decide) (Int.mul_le_mul_of_nonneg_left h h0)
end Go.Proofs.Ytdolgppbkfnjlaa.Math
