/- Each Go function that the statement reaches, as a Lean function, and the proof that the Go code comes to its answers, written by a program of this session (a turned copy of the print, which takes ^x of an unsigned number, too). No condition beyond those stated. -/
import Derived.Test.YtpghpllbliadkaaPAlla
import Derived.Lib.SlBytesConst
namespace Go.Proofs.Ytpghpllbliadkaa.PAll
open Go.RowKit Go.Proofs.YtpghpllbliadkaaW.PrintWords Go.Proofs.YtpghpllbliadkaaW.PrintLast Go.Proofs.YtpghpllbliadkaaW.PrintMore
attribute [local go_sem] max2_int min2_int max_two min_two max_three min_three max_four min_four   -- for this text's walks alone
set_option linter.unusedVariables false
set_option linter.unusedSimpArgs false

/-! ### workflowlaw04_works: function 9 -/
def workflowlaw04_works.f (k : Nat)  : Option (Bool) := (hash_Fnv.f k (⟨#[]⟩ : ByteArray)).bind fun t103 => (if t103 = 2166136261 then ((hash_Fnv.f k (⟨#[97]⟩ : ByteArray)).bind fun t104 => (if t104 = 3826002220 then ((hash_Crc.f k ([] : List Int)).bind fun t105 => (if t105 = 0 then ((hash_Crc.f k (([49, 50, 51, 52, 53, 54, 55, 56, 57] : List Int))).bind fun t109 => (if t109 = 3421780262 then ((hash_Bucket.f k (⟨#[97]⟩ : ByteArray) 0).bind fun t110 => (some (t110 == 0))) else (some false))) else (some false))) else (some false))) else (some false))
theorem workflowlaw04_works.mono : ∀ k, LeO (workflowlaw04_works.f k ) (workflowlaw04_works.f (k + 1) ) := by
  intro  k
  unfold workflowlaw04_works.f
  repeat' first
      | (with_reducible exact hash_Bucket.mono _ _ _)
      | (with_reducible exact hash_Crc.mono _ _)
      | (with_reducible exact hash_Fnv.mono _ _)
      | (with_reducible exact LeO.refl _)
      | (with_reducible exact LeO.none _)
      | (with_reducible refine LeO.ite ?_ ?_)
      | (with_reducible refine LeO.bind ?_ (fun _ => ?_))
      | exact hash_Bucket.mono _ _ _
      | exact hash_Crc.mono _ _
      | exact hash_Fnv.mono _ _
      | exact LeO.none _
      | refine LeO.ite ?_ ?_
      | refine LeO.bind ?_ (fun _ => ?_)
theorem works_fnv0 : hash_Fnv.f 20 (⟨#[]⟩ : ByteArray) = some 2166136261 := by decide +kernel
theorem works_fnv1 : hash_Fnv.f 20 (⟨#[97]⟩ : ByteArray) = some 3826002220 := by decide +kernel
theorem works_crc0 : hash_Crc.f 200 ([] : List Int) = some 0 := by decide +kernel
theorem works_crc1 : hash_Crc.f 200 ([49, 50, 51, 52, 53, 54, 55, 56, 57] : List Int) = some 3421780262 := by decide +kernel
theorem works_bucket : hash_Bucket.f 20 (⟨#[97]⟩ : ByteArray) 0 = some 0 := by decide +kernel
theorem works_200 : workflowlaw04_works.f 200 = some true := by decide +kernel

theorem fnv0_calls (w : World) : Calls Try.prog 10 #[.string (⟨#[]⟩ : ByteArray)] w fun e w' => e = .returned (.int .i64 2166136261) ∧ Drawn0 w w' :=
  hash_Fnv.calls 20 _ _ w works_fnv0
theorem fnv1_calls (w : World) : Calls Try.prog 10 #[.string (⟨#[97]⟩ : ByteArray)] w fun e w' => e = .returned (.int .i64 3826002220) ∧ Drawn0 w w' :=
  hash_Fnv.calls 20 _ _ w works_fnv1
theorem bucket_calls (w : World) : Calls Try.prog 14 #[.string (⟨#[97]⟩ : ByteArray), .int .i64 0] w fun e w' => e = .returned (.int .i64 0) ∧ Drawn0 w w' :=
  hash_Bucket.calls 20 _ _ _ w works_bucket
theorem crc0_calls (w : World) : Calls Try.prog 12 #[.slice none 0 0] w fun e w' => e = .returned (.int .i64 0) ∧ Drawn0 w w' :=
  hash_Crc.calls 200 none 0 [] _ w (Kd.C_nil _ _) (Nat.le_refl _) works_crc0
theorem crc1_calls0 (W : World) : Calls Try.prog 12 #[.slice (some ⟨W.heap.size, 0, none⟩) 9 9] (W.alloc (.cells #[.int .u8 49, .int .u8 50, .int .u8 51, .int .u8 52, .int .u8 53, .int .u8 54, .int .u8 55, .int .u8 56, .int .u8 57] 5 (9, 10)))
    fun e w' => e = .returned (.int .i64 3421780262) ∧ Drawn0 (W.alloc (.cells #[.int .u8 49, .int .u8 50, .int .u8 51, .int .u8 52, .int .u8 53, .int .u8 54, .int .u8 55, .int .u8 56, .int .u8 57] 5 (9, 10))) w' := by
  refine hash_Crc.calls 200 (some ⟨W.heap.size, 0, none⟩) 9 [49, 50, 51, 52, 53, 54, 55, 56, 57] _ _ ⟨rfl, by decide, fun _ => ⟨_, rfl, ?_⟩⟩ (Nat.le_refl _) works_crc1
  intro j p hp
  refine ⟨[.int .u8 p], rfl, rfl, ?_⟩
  intro i u hu
  have hi : i = 0 := by
    cases i with
    | zero => rfl
    | succ i => simp at hu
  subst hi
  simp only [List.getElem?_cons_zero, Option.some.injEq] at hu
  subst hu
  have hs : (Kd.int IntKind.u8).sz = 1 := rfl
  rw [hs, Nat.mul_one, Nat.add_zero, add_plain, World.cell?_alloc_mark]
  match j, hp with
  | 0, hp => simp at hp; subst hp; rfl
  | 1, hp => simp at hp; subst hp; rfl
  | 2, hp => simp at hp; subst hp; rfl
  | 3, hp => simp at hp; subst hp; rfl
  | 4, hp => simp at hp; subst hp; rfl
  | 5, hp => simp at hp; subst hp; rfl
  | 6, hp => simp at hp; subst hp; rfl
  | 7, hp => simp at hp; subst hp; rfl
  | 8, hp => simp at hp; subst hp; rfl
  | j + 9, hp => simp at hp

theorem crc1_calls (w : World) (m : Nat) : Calls Try.prog 12 #[.slice (some ⟨w.heap.size, 0, none⟩) 9 9] ((w.drewN m).alloc (.cells #[.int .u8 49, .int .u8 50, .int .u8 51, .int .u8 52, .int .u8 53, .int .u8 54, .int .u8 55, .int .u8 56, .int .u8 57] 5 (9, 10)))
    fun e w' => e = .returned (.int .i64 3421780262) ∧ Drawn0 ((w.drewN m).alloc (.cells #[.int .u8 49, .int .u8 50, .int .u8 51, .int .u8 52, .int .u8 53, .int .u8 54, .int .u8 55, .int .u8 56, .int .u8 57] 5 (9, 10))) w' := crc1_calls0 (w.drewN m)

set_option maxHeartbeats 8000000 in
set_option maxRecDepth 100000 in
theorem workflowlaw04_works.walks (w : World) :
    Calls Try.prog 9 #[] w fun e w' => e = .returned (.bool true) ∧ Below w.heap.size w w' := by
  have kc : ∀ (w : World) (m : Nat) (C : Array Value) (n c : Nat), (convert 25 25 (.slice (some ⟨w.heap.size, 0, none⟩) n c)).run Try.prog ((w.drewN m).alloc (.cells C 5)) = .ok (.slice (some ⟨w.heap.size, 0, none⟩) n c) ((w.drewN m).alloc (.cells C 5 (C.size, C.size + 1))) :=
    fun w m C n c => Lib.run_convert_bytes_const (P := Try.prog) (w.drewN m) 25 5 C n c Try.underlying25 Try.underlying5
  go_enter Try.func9, Try.ntmps9
  go_wp2_with (first
    | (go_at_call 10; (with_reducible refine (fnv0_calls _).mono ?_); rintro e w' ⟨rfl, ⟨nd, rfl⟩⟩)
    | (go_at_call 10; (with_reducible refine (fnv1_calls _).mono ?_); rintro e w' ⟨rfl, ⟨nd, rfl⟩⟩)
    | (go_at_call 12; (with_reducible refine (crc0_calls _).mono ?_); rintro e w' ⟨rfl, ⟨nd, rfl⟩⟩)
    | (go_at_call 12; refine (crc1_calls w _).mono ?_; rintro e w' ⟨rfl, ⟨nd, rfl⟩⟩)
    | (go_at_call 14; (with_reducible refine (bucket_calls _).mono ?_); rintro e w' ⟨rfl, ⟨nd, rfl⟩⟩))
  go_ret
  refine ⟨rfl, ?_⟩
  repeat (first | exact Below.refl _ _ | apply below_alloc | apply pw_below_drewN | apply below_drew)
theorem workflowlaw04_works.calls (k : Nat) (r : Bool) (w : World) (h : workflowlaw04_works.f k = some r) :
    Calls Try.prog 9 #[] w fun e w' => e = .returned (.bool r) ∧ Below w.heap.size w w' := by
  have hr : r = true := by
    have h1 := at_rounds (g := workflowlaw04_works.f) workflowlaw04_works.mono (show k ≤ k + 200 by omega) h
    have h2 := at_rounds (g := workflowlaw04_works.f) workflowlaw04_works.mono (show 200 ≤ k + 200 by omega) works_200
    rw [h1] at h2
    exact Option.some.inj h2
  subst hr
  exact workflowlaw04_works.walks w
end Go.Proofs.Ytpghpllbliadkaa.PAll
