/- Plain facts on FNV-1a and CRC-32 over natural numbers: their steps stay below 2^32, and each step is one-to-one. No condition beyond those stated. -/
namespace Go.Proofs.Ytpghpllbliadkaa.Math

/-- One byte of FNV-1a. -/
def fstep (h c : Nat) : Nat := ((h ^^^ c) * 16777619) % 4294967296
def ffold (h : Nat) (l : List Nat) : Nat := l.foldl fstep h
theorem fstep_lt (h c : Nat) : fstep h c < 4294967296 := by
  unfold fstep
  omega
theorem ffold_cons (h c : Nat) (l : List Nat) : ffold h (c :: l) = ffold (fstep h c) l := by simp only [ffold, List.foldl_cons]
theorem ffold_lt (l : List Nat) : ∀ h, h < 4294967296 → ffold h l < 4294967296 := by
  induction l with
  | nil => intro h hh; simpa only [ffold, List.foldl_nil] using hh
  | cons c l ih => intro h _; rw [ffold_cons]; exact ih (fstep h c) (fstep_lt h c)
theorem ffold_snoc (h c : Nat) (l : List Nat) : ffold h (l ++ [c]) = fstep (ffold h l) c := by
  unfold ffold
  rw [List.foldl_append, List.foldl_cons, List.foldl_nil]

theorem xor_inj_right (a b c : Nat) (h : a ^^^ b = a ^^^ c) : b = c := by
  have := congrArg (a ^^^ ·) h
  simpa [← Nat.xor_assoc] using this
theorem xor_inj_left (a b c : Nat) (h : b ^^^ a = c ^^^ a) : b = c := by
  rw [Nat.xor_comm b, Nat.xor_comm c] at h
  exact xor_inj_right a b c h

/-- 16777619 is odd: its inverse modulo 2^32 is 899433627. -/
theorem mul_inj (a b : Nat) (ha : a < 4294967296) (hb : b < 4294967296) (h : a * 16777619 % 4294967296 = b * 16777619 % 4294967296) : a = b := by
  have key : ∀ x : Nat, x < 4294967296 → (x * 16777619 % 4294967296) * 899433627 % 4294967296 = x := by
    intro x hx
    rw [Nat.mod_mul_mod, Nat.mul_assoc, show 16777619 * 899433627 = 1 + 4294967296 * 3513497 from by decide +kernel, Nat.mul_add, Nat.mul_one, Nat.mul_left_comm, Nat.add_mul_mod_self_left]
    exact Nat.mod_eq_of_lt hx
  rw [← key a ha, ← key b hb, h]
theorem fstep_inj (h a b : Nat) (hh : h < 4294967296) (ha : a < 256) (hb : b < 256) (e : fstep h a = fstep h b) : a = b := by
  have h1 : h ^^^ a < 2 ^ 32 := Nat.xor_lt_two_pow (by omega) (by omega)
  have h2 : h ^^^ b < 2 ^ 32 := Nat.xor_lt_two_pow (by omega) (by omega)
  exact xor_inj_right h a b (mul_inj (h ^^^ a) (h ^^^ b) (by omega) (by omega) e)

/-- One bit of CRC-32. -/
def cbit (c : Nat) : Nat := (c / 2) ^^^ (3988292384 * (c % 2))
theorem cbit_lt (c : Nat) (h : c < 4294967296) : cbit c < 4294967296 := by
  have : cbit c < 2 ^ 32 := Nat.xor_lt_two_pow (by omega) (by omega)
  omega
theorem cbit_inj (a b : Nat) (ha : a < 4294967296) (hb : b < 4294967296) (h : cbit a = cbit b) : a = b := by
  unfold cbit at h
  rcases Nat.mod_two_eq_zero_or_one a with h1 | h1 <;> rcases Nat.mod_two_eq_zero_or_one b with h2 | h2 <;> rw [h1, h2] at h
  · simp at h; omega
  · exfalso
    have h3 : (a / 2) ^^^ (b / 2) = 3988292384 := by
      have := congrArg (b / 2 ^^^ ·) h
      simp [← Nat.xor_assoc] at this
      rw [Nat.xor_comm, this]
    have h4 : (a / 2) ^^^ (b / 2) < 2 ^ 31 := Nat.xor_lt_two_pow (by omega) (by omega)
    omega
  · exfalso
    have h3 : (a / 2) ^^^ (b / 2) = 3988292384 := by
      have := congrArg (a / 2 ^^^ ·) h
      simp [← Nat.xor_assoc] at this
      exact this.symm
    have h4 : (a / 2) ^^^ (b / 2) < 2 ^ 31 := Nat.xor_lt_two_pow (by omega) (by omega)
    omega
  · have := xor_inj_left _ _ _ h
    omega
def cbits : Nat → Nat → Nat
  | 0, c => c
  | t + 1, c => cbits t (cbit c)
theorem cbits_lt (t : Nat) : ∀ c, c < 4294967296 → cbits t c < 4294967296 := by
  induction t with
  | zero => intro c h; simpa only [cbits] using h
  | succ t ih => intro c h; simp only [cbits]; exact ih (cbit c) (cbit_lt c h)
theorem cbits_inj (t : Nat) : ∀ a b, a < 4294967296 → b < 4294967296 → cbits t a = cbits t b → a = b := by
  induction t with
  | zero => intro a b _ _ h; simpa only [cbits] using h
  | succ t ih => intro a b ha hb h; simp only [cbits] at h; exact cbit_inj a b ha hb (ih (cbit a) (cbit b) (cbit_lt a ha) (cbit_lt b hb) h)
def cstep (c x : Nat) : Nat := cbits 8 (c ^^^ x)
theorem xor_lt (c x : Nat) (hc : c < 4294967296) (hx : x < 256) : c ^^^ x < 4294967296 := by
  have : c ^^^ x < 2 ^ 32 := Nat.xor_lt_two_pow (by omega) (by omega)
  omega
theorem cstep_lt (c x : Nat) (hc : c < 4294967296) (hx : x < 256) : cstep c x < 4294967296 := cbits_lt 8 _ (xor_lt c x hc hx)
def cfold (c : Nat) (l : List Nat) : Nat := l.foldl cstep c
theorem cfold_cons (c x : Nat) (l : List Nat) : cfold c (x :: l) = cfold (cstep c x) l := by simp only [cfold, List.foldl_cons]
theorem cfold_append (c : Nat) (l m : List Nat) : cfold c (l ++ m) = cfold (cfold c l) m := by
  unfold cfold
  rw [List.foldl_append]
theorem cfold_lt (l : List Nat) : ∀ c, c < 4294967296 → (∀ x ∈ l, x < 256) → cfold c l < 4294967296 := by
  induction l with
  | nil => intro c hc _; simpa only [cfold, List.foldl_nil] using hc
  | cons x l ih => intro c hc h; rw [cfold_cons]; exact ih (cstep c x) (cstep_lt c x hc (h x (by simp))) (fun y hy => h y (by simp [hy]))
theorem cfold_inj (l : List Nat) : ∀ a b, a < 4294967296 → b < 4294967296 → (∀ x ∈ l, x < 256) → cfold a l = cfold b l → a = b := by
  induction l with
  | nil => intro a b _ _ _ h; simpa only [cfold, List.foldl_nil] using h
  | cons x l ih =>
    intro a b ha hb h e
    have hx := h x (by simp)
    rw [cfold_cons, cfold_cons] at e
    have := ih (cstep a x) (cstep b x) (cstep_lt a x ha hx) (cstep_lt b x hb hx) (fun y hy => h y (by simp [hy])) e
    exact xor_inj_left x a b (cbits_inj 8 (a ^^^ x) (b ^^^ x) (xor_lt a x ha hx) (xor_lt b x hb hx) this)
theorem cfold_one (l m : List Nat) (a b c : Nat) (hc : c < 4294967296) (hl : ∀ x ∈ l, x < 256) (hm : ∀ x ∈ m, x < 256) (ha : a < 256) (hb : b < 256)
    (e : cfold c (l ++ a :: m) = cfold c (l ++ b :: m)) : a = b := by
  rw [cfold_append, cfold_append, cfold_cons, cfold_cons] at e
  have h0 := cfold_lt l c hc hl
  have h1 := cfold_inj m (cstep (cfold c l) a) (cstep (cfold c l) b) (cstep_lt _ a h0 ha) (cstep_lt _ b h0 hb) hm e
  exact xor_inj_right (cfold c l) a b (cbits_inj 8 (cfold c l ^^^ a) (cfold c l ^^^ b) (xor_lt _ a h0 ha) (xor_lt _ b h0 hb) h1)
end Go.Proofs.Ytpghpllbliadkaa.Math
