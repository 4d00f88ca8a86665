/- Each Go function that the statement reaches, as a Lean function, and the proof that the Go code comes to its answers, written by a program of this session (a turned copy of the print, which takes ^x of an unsigned number, too). No condition beyond those stated. -/
import Derived.Test.YtdolgppbkfnjlaaPAllx0
import Derived.Test.YtdolgppbkfnjlaaPAllx1
import Derived.Lib.SlBytesConst
namespace Go.Proofs.Ytdolgppbkfnjlaa.PAll
open Go.RowKit Go.Proofs.YtdolgppbkfnjlaaW.PrintWords Go.Proofs.YtdolgppbkfnjlaaW.PrintLast Go.Proofs.YtdolgppbkfnjlaaW.PrintMore
attribute [local go_sem] max2_int min2_int max_two min_two max_three min_three max_four min_four   -- for this text's walks alone
set_option linter.unusedVariables false
set_option linter.unusedSimpArgs false

/-! ### workflowlaw05_works: function 11 -/
def workflowlaw05_works.f (k : Nat)  : Option (Bool) := (draw_Below.f k 3 4 1).bind fun t132 => (if t132 = 0 then ((draw_Jitter.f k 1 2 50 0).bind fun t133 => (if t133 = 50 then ((draw_Jitter.f k 1 2 (-5) 10).bind fun t134 => (if t134 = (-5) then ((draw_Seed.f k (⟨#[]⟩ : ByteArray) (⟨#[]⟩ : ByteArray)).bind fun t135 => ((workflowref05_Fnv.f k (([47] : List Int))).bind fun t139 => (if t135 = t139 then ((draw_Draw.f k 1 2).bind fun t140 => ((workflowref05_Draw.f k 1 2).bind fun t141 => (some (t140 == t141)))) else (some false)))) else (some false))) else (some false))) else (some false))
theorem workflowlaw05_works.mono : ∀ k, LeO (workflowlaw05_works.f k ) (workflowlaw05_works.f (k + 1) ) := by
  intro  k
  unfold workflowlaw05_works.f
  repeat' first
      | (with_reducible exact draw_Below.mono _ _ _ _)
      | (with_reducible exact draw_Draw.mono _ _ _)
      | (with_reducible exact draw_Jitter.mono _ _ _ _ _)
      | (with_reducible exact draw_Seed.mono _ _ _)
      | (with_reducible exact workflowref05_Draw.mono _ _ _)
      | (with_reducible exact workflowref05_Fnv.mono _ _)
      | (with_reducible exact LeO.refl _)
      | (with_reducible exact LeO.none _)
      | (with_reducible refine LeO.ite ?_ ?_)
      | (with_reducible refine LeO.bind ?_ (fun _ => ?_))
      | exact draw_Below.mono _ _ _ _
      | exact draw_Draw.mono _ _ _
      | exact draw_Jitter.mono _ _ _ _ _
      | exact draw_Seed.mono _ _ _
      | exact workflowref05_Draw.mono _ _ _
      | exact workflowref05_Fnv.mono _ _
      | exact LeO.none _
      | refine LeO.ite ?_ ?_
      | refine LeO.bind ?_ (fun _ => ?_)
theorem w_below : draw_Below.f 100 3 4 1 = some 0 := by decide +kernel
theorem w_jit1 : draw_Jitter.f 100 1 2 50 0 = some 50 := by decide +kernel
theorem w_jit2 : draw_Jitter.f 100 1 2 (-5) 10 = some (-5) := by decide +kernel
theorem w_seed : draw_Seed.f 100 (⟨#[]⟩ : ByteArray) (⟨#[]⟩ : ByteArray) = some 705468254 := by decide +kernel
theorem w_fnv : workflowref05_Fnv.f 100 ([47] : List Int) = some 705468254 := by decide +kernel
theorem w_draw : draw_Draw.f 100 1 2 = some 1176524012 := by decide +kernel
theorem w_rdraw : workflowref05_Draw.f 100 1 2 = some 1176524012 := by decide +kernel
theorem one_calls0 (W : World) : Calls Try.prog 18 #[.slice (some ⟨W.heap.size, 0, none⟩) 1 1] (W.alloc (.cells #[.int .u8 47] 5 (1, 2)))
    fun e w' => e = .returned (.int .i64 705468254) ∧ Drawn0 (W.alloc (.cells #[.int .u8 47] 5 (1, 2))) w' := by
  refine workflowref05_Fnv.calls 100 (some ⟨W.heap.size, 0, none⟩) 1 [47] _ _ ⟨rfl, by decide, fun _ => ⟨_, rfl, ?_⟩⟩ (Nat.le_refl _) w_fnv
  intro j p hp
  refine ⟨[.int .u8 p], rfl, rfl, ?_⟩
  intro i u hu
  have hi : i = 0 := by
    cases i with
    | zero => rfl
    | succ i => simp at hu
  subst hi
  simp only [List.getElem?_cons_zero, Option.some.injEq] at hu
  subst hu
  have hs : (Kd.int IntKind.u8).sz = 1 := rfl
  rw [hs, Nat.mul_one, Nat.add_zero, add_plain, World.cell?_alloc_mark]
  match j, hp with
  | 0, hp => simp at hp; subst hp; rfl
  | j + 1, hp => simp at hp
theorem one_calls (w : World) (m : Nat) : Calls Try.prog 18 #[.slice (some ⟨w.heap.size, 0, none⟩) 1 1] ((w.drewN m).alloc (.cells #[.int .u8 47] 5 (1, 2)))
    fun e w' => e = .returned (.int .i64 705468254) ∧ Drawn0 ((w.drewN m).alloc (.cells #[.int .u8 47] 5 (1, 2))) w' := one_calls0 (w.drewN m)
theorem below1_calls (w : World) : Calls Try.prog 9 #[.int .i64 3, .int .i64 4, .int .i64 1] w fun e w' => e = .returned (.int .i64 0) ∧ Below w.heap.size w w' := draw_Below.calls 100 _ _ _ _ w w_below
theorem jit1_calls (w : World) : Calls Try.prog 12 #[.int .i64 1, .int .i64 2, .int .i64 50, .int .i64 0] w fun e w' => e = .returned (.int .i64 50) ∧ Below w.heap.size w w' := draw_Jitter.calls 100 _ _ _ _ _ w w_jit1
theorem jit2_calls (w : World) : Calls Try.prog 12 #[.int .i64 1, .int .i64 2, .int .i64 (-5), .int .i64 10] w fun e w' => e = .returned (.int .i64 (-5)) ∧ Below w.heap.size w w' := draw_Jitter.calls 100 _ _ _ _ _ w w_jit2
theorem seed_calls (w : World) : Calls Try.prog 14 #[.string (⟨#[]⟩ : ByteArray), .string (⟨#[]⟩ : ByteArray)] w fun e w' => e = .returned (.int .i64 705468254) ∧ Drawn0 w w' := draw_Seed.calls 100 _ _ _ w w_seed
theorem draw12_calls (w : World) : Calls Try.prog 7 #[.int .i64 1, .int .i64 2] w fun e w' => e = .returned (.int .i64 1176524012) ∧ Below w.heap.size w w' := draw_Draw.calls 100 _ _ _ w w_draw
theorem rdraw12_calls (w : World) : Calls Try.prog 8 #[.int .i64 1, .int .i64 2] w fun e w' => e = .returned (.int .i64 1176524012) ∧ Below w.heap.size w w' := workflowref05_Draw.calls 100 _ _ _ w w_rdraw
set_option maxHeartbeats 8000000 in
set_option maxRecDepth 100000 in
theorem workflowlaw05_works.walks (w : World) :
    Calls Try.prog 11 #[] w fun e w' => e = .returned (.bool true) ∧ Below w.heap.size w w' := by
  have kc : ∀ (w : World) (m : Nat) (C : Array Value) (n c : Nat), (convert 32 32 (.slice (some ⟨w.heap.size, 0, none⟩) n c)).run Try.prog ((w.drewN m).alloc (.cells C 5)) = .ok (.slice (some ⟨w.heap.size, 0, none⟩) n c) ((w.drewN m).alloc (.cells C 5 (C.size, C.size + 1))) :=
    fun w m C n c => Lib.run_convert_bytes_const (P := Try.prog) (w.drewN m) 32 5 C n c Try.underlying32 Try.underlying5
  go_enter Try.func11, Try.ntmps11
  go_wp2_with (first
    | (go_at_call 9; (with_reducible refine (below1_calls _).mono ?_); rintro e w1 ⟨rfl, hb1⟩)
    | (go_at_call 12; (with_reducible refine (jit1_calls _).mono ?_); rintro e w2 ⟨rfl, hb2⟩)
    | (go_at_call 12; (with_reducible refine (jit2_calls _).mono ?_); rintro e w3 ⟨rfl, hb3⟩)
    | (go_at_call 14; (with_reducible refine (seed_calls _).mono ?_); rintro e w4 ⟨rfl, ⟨nd4, rfl⟩⟩)
    | (go_at_call 18; refine (one_calls w3 _).mono ?_; rintro e w5 ⟨rfl, ⟨nd5, rfl⟩⟩)
    | (go_at_call 7; (with_reducible refine (draw12_calls _).mono ?_); rintro e w6 ⟨rfl, hb6⟩)
    | (go_at_call 8; (with_reducible refine (rdraw12_calls _).mono ?_); rintro e w7 ⟨rfl, hb7⟩))
  go_ret
  refine ⟨rfl, ?_⟩
  have A := below_then hb1 hb1.size hb2
  have B := below_then A A.size hb3
  have C := pw_below_drewN (below_alloc (pw_below_drewN B nd4) (.cells #[.int .u8 47] 5 (1, 2))) nd5
  have D := below_then C C.size hb6
  exact below_then D D.size hb7
theorem works_100 : workflowlaw05_works.f 100 = some true := by decide +kernel
theorem works_at (k : Nat) (h : 100 ≤ k) : workflowlaw05_works.f k = some true := at_rounds (g := workflowlaw05_works.f) workflowlaw05_works.mono h works_100
theorem workflowlaw05_works.calls (k : Nat) (r : Bool) (w : World) (h : workflowlaw05_works.f k = some r) :
    Calls Try.prog 11 #[] w fun e w' => e = .returned (.bool r) ∧ Below w.heap.size w w' := by
  have hr : r = true := by
    have h1 := at_rounds (g := workflowlaw05_works.f) workflowlaw05_works.mono (show k ≤ k + 100 by omega) h
    rw [works_at (k + 100) (by omega)] at h1
    exact (Option.some.inj h1).symm
  subst hr
  exact workflowlaw05_works.walks w
end Go.Proofs.Ytdolgppbkfnjlaa.PAll
