/- Seed and its reference tell the hash of the two names joined by a slash; names of more than 200 bytes are not asked. For every input of the statement. -/
import Derived.Test.YtdolgppbkfnjlaaPAllx2
import Derived.Test.YtdolgppbkfnjlaaFacts
import Derived.Lib.ConvBytes
namespace Go.Proofs.Ytdolgppbkfnjlaa.PureSeeds
open Go.RowKit Go.Proofs.Ytdolgppbkfnjlaa.PAll Go.Proofs.YtdolgppbkfnjlaaW.PrintWords Go.Proofs.YtdolgppbkfnjlaaW.PrintLast
set_option linter.unusedVariables false
set_option linter.unusedSimpArgs false
/-- The bytes of a string, as whole numbers. -/
def ints (S : ByteArray) : List Int := S.data.toList.map fun b => (b.toNat : Int)
theorem ints_length (S : ByteArray) : (ints S).length = S.size := by
  unfold ints
  rw [List.length_map, PAll.data_length]
theorem ints_ok (S : ByteArray) : Bytes (ints S) := by
  intro x hx
  obtain ⟨b, _, rfl⟩ := List.mem_map.1 hx
  have := b.toNat_lt
  omega
theorem ints_nats (S : ByteArray) : nats (ints S) = codes S := by
  unfold nats ints codes
  rw [List.map_map]
  apply List.map_congr_left
  intro b _
  rfl
theorem bytes_cell (w : World) (S : ByteArray) (j : Nat) (p : Int) (h : (ints S)[j]? = some p) : (Lib.bytesWorld w 5 S).cell? ⟨w.heap.size, j, none⟩ = some (.int .u8 p) := by
  have hj : j < S.size := by
    have := (List.getElem?_eq_some_iff.1 h).1
    rwa [ints_length] at this
  rw [Lib.bytesWorld_cell w 5 S j hj]
  unfold ints at h
  have hj' : j < S.data.toList.length := by rw [PAll.data_length]; exact hj
  rw [List.getElem?_map, List.getElem?_eq_getElem hj'] at h
  simp only [Option.map_some, Option.some.injEq] at h
  rw [← h, List.getD_eq_getElem?_getD, List.getElem?_eq_getElem hj']
  rfl
theorem fnv_bytes (w : World) (S : ByteArray) (hS : S.size ≤ 140737488351232) :
    Calls Try.prog 18 #[.slice (some ⟨w.heap.size, 0, none⟩) S.size (grownCap w S.size 0 5)] (Lib.bytesWorld w 5 S) fun e w' => e = .returned (.int .i64 ((fnvL (codes S) : Nat) : Int)) ∧ Drawn0 (Lib.bytesWorld w 5 S) w' := by
  have hl := ints_length S
  have hf := ref_fnv_f (ints S) (ints_ok S) (by omega) (S.size + 31) (by omega)
  rw [ints_nats] at hf
  have := workflowref05_Fnv.calls (S.size + 31) (some ⟨w.heap.size, 0, none⟩) (grownCap w S.size 0 5) (ints S) _ (Lib.bytesWorld w 5 S)
    ⟨rfl, by omega, fun _ => ⟨_, rfl, fun j p hp => ⟨[.int .u8 p], rfl, rfl, fun i u hu => by
      have hi : i = 0 := by
        cases i with
        | zero => rfl
        | succ i => simp at hu
      subst hi
      simp only [List.getElem?_cons_zero, Option.some.injEq] at hu
      subst hu
      have hs : (Kd.int IntKind.u8).sz = 1 := rfl
      rw [hs, Nat.mul_one, Nat.add_zero, add_plain]
      exact bytes_cell w S j p hp⟩⟩⟩ (by rw [hl]; exact grownCap_ge w S.size 0 5) hf
  rw [hl] at this
  exact this
theorem fnv_bytes2 (w : World) (S : ByteArray) (n : Nat) (hn : S.size = n) (hS : S.size ≤ 140737488351232) :
    Calls Try.prog 18 #[.slice (some ⟨w.heap.size, 0, none⟩) n (grownCap w n 0 5)] (Lib.bytesWorld w 5 S) fun e w' => e = .returned (.int .i64 ((fnvL (codes S) : Nat) : Int)) ∧ Drawn0 (Lib.bytesWorld w 5 S) w' := by
  subst hn
  exact fnv_bytes w S hS
theorem bytesWorld_below (w : World) (S : ByteArray) : Below w.heap.size w (Lib.bytesWorld w 5 S) :=
  ⟨rfl, rfl, rfl, by rw [Lib.bytesWorld_size]; omega, fun i hi => Lib.bytesWorld_at_old w 5 S i hi⟩
set_option maxHeartbeats 8000000 in
set_option maxRecDepth 100000 in
theorem ref_seed (s t : ByteArray) (hs : s.size ≤ 140737488351) (ht : t.size ≤ 140737488351) (w : World) :
    Calls Try.prog 15 #[.string s, .string t] w fun e w' => e = .returned (.int .i64 ((fnvL (codes ((s ++ (⟨#[47]⟩ : ByteArray)) ++ t)) : Nat) : Int)) ∧ Below w.heap.size w w' := by
  have z1 : (⟨#[47]⟩ : ByteArray).size = 1 := rfl
  have z2 : (s ++ (⟨#[47]⟩ : ByteArray)).size = s.size + 1 := by rw [ByteArray.size_append, z1]
  have z3 : ((s ++ (⟨#[47]⟩ : ByteArray)) ++ t).size = s.size + 1 + t.size := by rw [ByteArray.size_append, z2]
  have c3 : s.size + 1 ≤ 9223372036854775807 := by omega
  have c4 : (s ++ (⟨#[47]⟩ : ByteArray)).size + t.size ≤ 9223372036854775807 := by omega
  have cS : ((s ++ (⟨#[47]⟩ : ByteArray)) ++ t).size ≤ 140737488351232 := by omega
  have CS := Aside0.mk cS
  have Z3 := Aside0.mk z3
  clear z1 z2 z3 cS hs ht
  have c3b0 := eq_true c3
  have c3b1 : decide (s.size + 1 ≤ 9223372036854775807) = true := decide_eq_true c3
  have c3b2 : (9223372036854775807 < s.size + 1) = False := eq_false (Nat.not_lt.2 c3)
  have c4b0 := eq_true c4
  have c4b1 : decide ((s ++ (⟨#[47]⟩ : ByteArray)).size + t.size ≤ 9223372036854775807) = true := decide_eq_true c4
  have c4b2 : (9223372036854775807 < (s ++ (⟨#[47]⟩ : ByteArray)).size + t.size) = False := eq_false (Nat.not_lt.2 c4)
  have kc := fun (w : World) (S : ByteArray) => Lib.run_convert_string_bytes (P := Try.prog) w 9 32 5 S Try.underlying9 Try.underlying32 Try.underlying5
  go_enter Try.func15, Try.ntmps15
  go_wp2_with (first | (go_at_call 18; (with_reducible refine (fnv_bytes2 _ _ _ Z3.out CS.out).mono ?_); rintro e w1 ⟨rfl, ⟨nd, rfl⟩⟩))
  go_ret
  exact ⟨rfl, pw_below_drewN (bytesWorld_below w _) nd⟩

theorem seed_k (s t : ByteArray) (hs : s.size ≤ 140737488351) (ht : t.size ≤ 140737488351) : draw_Seed.f (s.size + t.size + 2) s t = some ((fnvL (codes ((s ++ (⟨#[47]⟩ : ByteArray)) ++ t)) : Nat) : Int) := by
  have z1 : (⟨#[47]⟩ : ByteArray).size = 1 := rfl
  have z2 : (s ++ (⟨#[47]⟩ : ByteArray)).size = s.size + 1 := by rw [ByteArray.size_append, z1]
  have z3 : ((s ++ (⟨#[47]⟩ : ByteArray)) ++ t).size = s.size + 1 + t.size := by rw [ByteArray.size_append, z2]
  unfold draw_Seed.f
  rw [if_pos (by omega), if_pos (by omega), fnv_f _ (by omega) _ (by omega)]
  rfl
theorem seed_calls2 (s t : ByteArray) (hs : s.size ≤ 140737488351) (ht : t.size ≤ 140737488351) (w : World) :
    Calls Try.prog 14 #[.string s, .string t] w fun e w' => e = .returned (.int .i64 ((fnvL (codes ((s ++ (⟨#[47]⟩ : ByteArray)) ++ t)) : Nat) : Int)) ∧ Drawn0 w w' :=
  draw_Seed.calls _ s t _ w (seed_k s t hs ht)
theorem works_calls (w : World) : Calls Try.prog 11 #[] w fun e w' => e = .returned (.bool true) ∧ Below w.heap.size w w' := workflowlaw05_works.walks w
set_option maxHeartbeats 8000000 in
set_option maxRecDepth 100000 in
theorem seeds_long (s t : ByteArray) (w : World) (h : 200 < s.size) :
    Calls Try.prog 6 #[.string s, .string t] w fun e w' => e = .returned (.bool true) ∧ Below w.heap.size w w' := by
  have h1 : decide (200 < (s.size : Int)) = true := decide_eq_true (by omega)
  have h2 : decide (200 < s.size) = true := decide_eq_true h
  clear h
  go_enter Try.func6, Try.ntmps6
  go_wp2_with (first | (go_at_call 11; (with_reducible refine (works_calls _).mono ?_); rintro e w1 ⟨rfl, hb⟩))
  go_ret
  exact ⟨rfl, hb⟩
set_option maxHeartbeats 8000000 in
set_option maxRecDepth 100000 in
theorem seeds_long2 (s t : ByteArray) (w : World) (h0 : ¬ 200 < s.size) (h : 200 < t.size) :
    Calls Try.prog 6 #[.string s, .string t] w fun e w' => e = .returned (.bool true) ∧ Below w.heap.size w w' := by
  have h1 : decide (200 < (t.size : Int)) = true := decide_eq_true (by omega)
  have h2 : decide (200 < t.size) = true := decide_eq_true h
  have h3 : decide (200 < (s.size : Int)) = false := decide_eq_false (by omega)
  have h4 : decide (200 < s.size) = false := decide_eq_false h0
  clear h h0
  go_enter Try.func6, Try.ntmps6
  go_wp2_with (first | (go_at_call 11; (with_reducible refine (works_calls _).mono ?_); rintro e w1 ⟨rfl, hb⟩))
  go_ret
  exact ⟨rfl, hb⟩
set_option maxHeartbeats 8000000 in
set_option maxRecDepth 100000 in
theorem seeds_short (s t : ByteArray) (w : World) (h0 : ¬ 200 < s.size) (h : ¬ 200 < t.size) :
    Calls Try.prog 6 #[.string s, .string t] w fun e w' => e = .returned (.bool true) ∧ Below w.heap.size w w' := by
  have h1 : decide (200 < (t.size : Int)) = false := decide_eq_false (by omega)
  have h2 : decide (200 < t.size) = false := decide_eq_false h
  have h3 : decide (200 < (s.size : Int)) = false := decide_eq_false (by omega)
  have h4 : decide (200 < s.size) = false := decide_eq_false h0
  have C1 := fun w => seed_calls2 s t (by omega) (by omega) w
  have C2 := fun w => ref_seed s t (by omega) (by omega) w
  generalize ((fnvL (codes ((s ++ (⟨#[47]⟩ : ByteArray)) ++ t)) : Nat) : Int) = v at C1 C2
  have D1 := Aside0.mk C1
  have D2 := Aside0.mk C2
  clear h h0 C1 C2
  go_enter Try.func6, Try.ntmps6
  go_wp2_with (first
    | (go_at_call 14; (with_reducible refine (D1.out _).mono ?_); rintro e w1 ⟨rfl, ⟨nd, rfl⟩⟩)
    | (go_at_call 15; (with_reducible refine (D2.out _).mono ?_); rintro e w2 ⟨rfl, hb2⟩)
    | (go_at_call 11; (with_reducible refine (works_calls _).mono ?_); rintro e w3 ⟨rfl, hb3⟩))
  go_ret
  have A := pw_below_drewN (Below.refl w.heap.size w) nd
  have B := below_then A A.size hb2
  exact ⟨rfl, below_then B B.size hb3⟩
theorem DrawSeeds (s t : ByteArray) (w : World) : Calls Try.prog 6 #[.string s, .string t] w fun e w' => e = .returned (.bool true) ∧ Below w.heap.size w w' := by
  by_cases h0 : 200 < s.size
  · exact seeds_long s t w h0
  · by_cases h1 : 200 < t.size
    · exact seeds_long2 s t w h0 h1
    · exact seeds_short s t w h0 h1
end Go.Proofs.Ytdolgppbkfnjlaa.PureSeeds
