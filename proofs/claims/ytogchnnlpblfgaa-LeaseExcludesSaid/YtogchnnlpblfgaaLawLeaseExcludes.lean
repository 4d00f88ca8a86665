/- The row of the law LeaseExcludes: for every list of steps that the statement lets in the call returns true, and the list reads as it did. No condition of its own. -/
import Derived.Test.YtogchnnlpblfgaaRows
import Derived.Test.YtogchnnlpblfgaaPureLeaseExcludes
import Derived.WalkKit
import Derived.ProofKit
import Derived.OpenShut
import Derived.ShutString
import Derived.ChangeOld
import Derived.Below
import Derived.SizedLaws
import Derived.Deep.Slices
import Derived.Deep.Strs
import Derived.Lib.SmallJoins
namespace Go.Proofs.Ytogchnnlpblfgaa.leaseExcludes
open Go.ChangeShapes Go.WideShapes Go.ChangeAt Go.RowKit Go.Deep
open Go.Proofs.Ytogchnnlpblfgaa.PExc Go.Proofs.YtogchnnlpblfgaaW.PrintWords
set_option linter.unusedVariables false
theorem own : ownKnob Try.prog.godebug = none := by kernel_rfl
theorem laidOut : laidOutB Try.prog = true := by kernel_rfl
theorem cells_get {w : World} {base : Nat} {a : Addr} {n : Nat} {cs : List Value} (h : w.cells? base a n = some cs) : cs.length = n ∧ ∀ i u, cs[i]? = some u → w.cell? (a.add i) = some u := by
  obtain ⟨_, hl, hc⟩ := World.cells?_some h
  refine ⟨hl, fun i u hu => ?_⟩
  have hi : i < n := by
    have := (List.getElem?_eq_some_iff.1 hu).1
    omega
  rw [hc i hi, hu]
theorem wf_u8 {x : Int} (h : (Lit.int .u8 x).wf = true) : 0 ≤ x ∧ x ≤ 255 := by
  simp [Lit.wf, IntKind.min, IntKind.max, IntKind.signed, IntKind.bits] at h
  omega
section
variable {H : Type} {enc : TypeId × Value → H} {w : World} {base : Nat} {spare : Nat → Bool} {held : Bool}
theorem elem_open {n : Nat} {cs : List Value} {x : DataW H × List MemPlace} (h : DataW.trod enc Try.prog w base spare held n 40 cs = some x) :
    ∃ z : S40, cs = [.string z.f0, .int .u8 z.f1, .int .u8 z.f2] ∧ (0 ≤ z.f1 ∧ z.f1 ≤ 255) ∧ (0 ≤ z.f2 ∧ z.f2 ≤ 255) := by
  obtain ⟨y0, y1, y2, m, _, hl, h0, h1, h2⟩ := trod_struct3 Try.underlying40 h
  have hc : Try.prog.cellsOf 40 = 3 := by kernel_rfl
  have c9 : Try.prog.cellsOf 9 = 1 := by kernel_rfl
  have c5 : Try.prog.cellsOf 5 = 1 := by kernel_rfl
  rw [hc] at hl
  match cs, hl with
  | [a, b, c], _ =>
    simp only [c9, c5] at h0 h1 h2
    obtain ⟨s, e0, _, _⟩ := DataW.trod_string Try.underlying9 h0
    obtain ⟨u, e1, _, wu⟩ := DataW.trod_int Try.underlying5 h1
    obtain ⟨v, e2, _, wv⟩ := DataW.trod_int Try.underlying5 h2
    simp at e0 e1 e2
    subst e0 e1 e2
    exact ⟨⟨s, u, v⟩, rfl, wf_u8 wu, wf_u8 wv⟩
theorem list_open {A : Option Addr} {len cap : Nat} {d : DataW H} {ps : List MemPlace} (h : DataW.Trod enc Try.prog w 0 (fun _ => true) true 37 (.slice A len cap) d ps) :
    ∃ zs : List S40, zs.length = len ∧ len ≤ cap ∧ Kd.C k40 w A zs.length zs ∧ PureExc.Small zs := by
  obtain ⟨fuel, hf⟩ := h
  rcases open_slice Try.underlying37 hf with ⟨hcs, _⟩ | ⟨a, l, c, m, n, D, Pl, hcs, _, hl, hm, rfl, _, hel⟩
  · simp [Value.cells] at hcs
    obtain ⟨rfl, rfl, rfl⟩ := hcs
    exact ⟨[], rfl, Nat.le_refl _, Kd.C_nil _ _, by intro x hx; simp at hx⟩
  · simp [Value.cells] at hcs
    obtain ⟨rfl, rfl, rfl⟩ := hcs
    have hc : Try.prog.cellsOf 40 = 3 := by kernel_rfl
    rw [hc] at hel
    have each : ∀ i, i < len → ∃ z : S40, ((0 ≤ z.f1 ∧ z.f1 ≤ 255) ∧ (0 ≤ z.f2 ∧ z.f2 ≤ 255)) ∧ ∀ j u, [Value.string z.f0, .int .u8 z.f1, .int .u8 z.f2][j]? = some u → w.cell? (a.add (i * 3 + j)) = some u := by
      intro i hi
      obtain ⟨cs', h1, h2⟩ := hel i (Nat.lt_of_lt_of_le hi hl)
      obtain ⟨z, rfl, hz1, hz2⟩ := elem_open h2
      obtain ⟨_, hg⟩ := cells_get h1
      refine ⟨z, ⟨hz1, hz2⟩, fun j u hu => ?_⟩
      have := hg j u hu
      rwa [Deep.add_add] at this
    have : Inhabited S40 := ⟨z40⟩
    obtain ⟨f, hf2⟩ := choose_lt each
    refine ⟨(List.range len).map f, by simp, hl, ?_, ?_⟩
    · refine ⟨rfl, ?_, fun _ => ⟨a, rfl, fun j p hp => ?_⟩⟩
      · simp only [List.length_map, List.length_range]
        unfold maxLen at hm
        omega
      · have hj : j < len := by
          have := (List.getElem?_eq_some_iff.1 hp).1
          simpa using this
        simp only [List.getElem?_map, List.getElem?_range hj, Option.map_some, Option.some.injEq] at hp
        subst hp
        exact ⟨[.string (f j).f0, .int .u8 (f j).f1, .int .u8 (f j).f2], rfl, k40_mk w (f j), (hf2 j hj).2⟩
    · intro x hx
      obtain ⟨j, hj, rfl⟩ := List.mem_map.1 hx
      exact (hf2 j (by simpa using hj)).1
end
set_option maxRecDepth 100000 in
theorem lifted (os : Os) (started : os.Started) (H : Type) (enc : TypeId × Value → H) :
    ReturnsInHanded {} Try.checked os 5 .any (Rows.leaseExcludesSpec.pre6 enc Try.prog Try.f5 Rows.leaseExcludesRow.domain false) (Rows.leaseExcludesSpec.post enc Try.prog Try.f5 false true false false) := by
  refine returnsInHanded_of_change_sized (C := Try.checked) own started (by kernel_rfl) Try.func5
    (ChangeSpec.witness6 (enc := enc) (C := Try.checked) false ⟨#[], #[.slice none 0 0], []⟩ 8 (by kernel_rfl) (by kernel_rfl) (by kernel_rfl) (by kernel_rfl)) ?_
  intro W base args ds gs before hval0 hW hcnd hsz0 _
  have hval : ∀ (j : Nat) t v, Try.f5.params[j]? = some t → args[j]? = some v → Value.okWide Try.prog W .any base t v := hval0
  have hW' := hW
  obtain ⟨p, q, hA0, hV, rfl, hfz, hnd⟩ := hW
  have hA : DataW.TrodAll enc Try.prog W 0 (fun _ => true) true Try.f5.params.toList args.toList ds p := hA0
  rw [Try.params5] at hA hval
  obtain ⟨v0, vs0, d0, ds0, p0, q0, hargs, rfl, rfl, h0, r0⟩ := trodAll_cons hA
  obtain ⟨rfl, rfl, rfl⟩ := trodAll_nil r0
  obtain rfl : args = #[v0] := by cases args; simp_all
  obtain ⟨rfl, rfl⟩ := trodVars_none hV
  obtain ⟨a0, len0, cap0, rfl⟩ := okWide_slice Try.underlying37 (hval 0 37 v0 rfl rfl)
  have k0 := h0
  have lt0 : ∀ x ∈ p0, x.block < W.heap.size := by
    obtain ⟨m, hm⟩ := k0
    exact DataW.trod_lt m _ _ _ hm
  obtain ⟨zs, hz, hcap, hC, hS⟩ := list_open h0
  obtain ⟨k, hk⟩ := PureExc.excludes zs hS
  clear hA0 hval0 hsz0
  subst hz
  refine (PExc.workflowlaw38_LeaseExcludes.calls k a0 cap0 zs true W hC hcap hk).mono fun e W' ⟨he, bel⟩ => ?_
  subst he
  exact ⟨_, rfl, _, _, _, [], _, [], hW', trodAll_mk1 (shut_bool Try.underlying4 _), (trodAll_cons_mk (Below.trod laidOut (by kernel_rfl) (of_decide_eq_true (by kernel_rfl)) k0 bel lt0) trodAll_mk0), rfl, bel.frame _, fun h => by cases h⟩
theorem over : Rows.leaseExcludesRow.holds Try.pinned (OpenSpec.ofChange Rows.leaseExcludesSpec) :=
  OpenClaim.holds_of_wide 5 Try.f5 rfl rfl rfl rfl rfl rfl rfl ⟨rfl, rfl, rfl, rfl, rfl⟩ rfl rfl rfl rfl rfl (by kernel_rfl) Try.func5 (by kernel_rfl)
    (of_decide_eq_true (by kernel_rfl)) (by unfold Func.isWrapper; first | (rw [if_pos (by decide +kernel)]; kernel_rfl) | (rw [if_neg (by decide +kernel)]; exact ⟨rfl, rfl⟩))
    (fun os started H enc _ => lifted os started H enc)
end Go.Proofs.Ytogchnnlpblfgaa.leaseExcludes
namespace Go.Proofs.Ytogchnnlpblfgaa
/-- The row, under a short name, for the claim. -/
theorem leaseExcludes_holds : Rows.LeaseExcludesSaid := leaseExcludes.over
end Go.Proofs.Ytogchnnlpblfgaa
#print axioms Go.Proofs.Ytogchnnlpblfgaa.leaseExcludes_holds
