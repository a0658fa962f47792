/- FuseRest: WHATEVER THE INPUT, the law returns true and leaves its arguments as they were: no condition. The frame is the guide's template with structs of integers opened; the walk is proved in YtgmepohfkpncmaaFuseI. -/
import Derived.Test.YtgmepohfkpncmaaFuseI
import Derived.Test.YtgmepohfkpncmaaAgg
import Derived.WalkKit
import Derived.ProofKit
import Derived.OpenShut
import Derived.Below
import Derived.ShutString
namespace Go.Proofs.Ytgmepohfkpncmaa.fuseRest
open Go.ChangeShapes Go.WideShapes Go.ChangeAt Go.RowKit
set_option linter.unusedVariables false

theorem own : ownKnob Try.prog.godebug = none := by kernel_rfl

/-! ### THE WALK -/
theorem walk (a0_0 : Int) (a0_1 : Int) (a0_2 : Int) (a1 : Int) (a2_0 : Int) (a2_1 : Int) (a2_2 : Int) (a3 : Int) (wa0_0 : (Lit.int .i32 a0_0).wf = true) (wa0_1 : (Lit.int .i32 a0_1).wf = true) (wa0_2 : (Lit.int .i32 a0_2).wf = true) (wa1 : (Lit.int .i32 a1).wf = true) (wa2_0 : (Lit.int .i32 a2_0).wf = true) (wa2_1 : (Lit.int .i32 a2_1).wf = true) (wa2_2 : (Lit.int .i32 a2_2).wf = true) (wa3 : (Lit.int .i32 a3).wf = true) (w : World) :
    Calls Try.prog 4 #[.agg #[.int .i32 a0_0, .int .i32 a0_1, .int .i32 a0_2], .int .i32 a1, .agg #[.int .i32 a2_0, .int .i32 a2_1, .int .i32 a2_2], .int .i32 a3] w fun e w' => e = .returned (.bool true) ∧ Below w.heap.size w w' := by
  exact fuseRest_walk a0_0 a0_1 a0_2 a1 a2_0 a2_1 a2_2 a3 w wa0_0 wa0_1 wa0_2 wa1 wa2_0 wa2_1 wa2_2 wa3

/-! ### THE ROW's STEP -/
set_option maxRecDepth 100000 in
theorem lifted (os : Os) (started : os.Started) (H : Type) (enc : TypeId × Value → H) :
    ReturnsInHanded {} Try.checked os 4 .any (Rows.fuseRestSpec.pre6 enc Try.prog Try.f4 Rows.fuseRestRow.domain false) (Rows.fuseRestSpec.post enc Try.prog Try.f4 false true false false) := by
  refine returnsInHanded_of_change (C := Try.checked) own started (by kernel_rfl) Try.func4
    (ChangeSpec.witness6 (enc := enc) (C := Try.checked) false ⟨#[], #[.agg #[.int .i32 0, .int .i32 0, .int .i32 0], .int .i32 0, .agg #[.int .i32 0, .int .i32 0, .int .i32 0], .int .i32 0], []⟩ 8 (by kernel_rfl) (by kernel_rfl) (by kernel_rfl) (by kernel_rfl)) ?_
  intro W base args ds gs before hval0 hW hcnd _
  have hval : ∀ (j : Nat) t v, Try.f4.params[j]? = some t → args[j]? = some v → Value.okWide Try.prog W .any base t v := hval0
  have hW' := hW
  obtain ⟨p, q, hA0, hV, rfl, hfz, hnd⟩ := hW
  have hA : DataW.TrodAll enc Try.prog W 0 (fun _ => true) true Try.f4.params.toList args.toList ds p := hA0
  rw [Try.params4] at hA hval
  obtain ⟨v0, vs0, d0, ds0, p0, q0, hargs, rfl, rfl, h0, r0⟩ := trodAll_cons hA
  obtain ⟨v1, vs1, d1, ds1, p1, q1, rfl, rfl, rfl, h1, r1⟩ := trodAll_cons r0
  obtain ⟨v2, vs2, d2, ds2, p2, q2, rfl, rfl, rfl, h2, r2⟩ := trodAll_cons r1
  obtain ⟨v3, vs3, d3, ds3, p3, q3, rfl, rfl, rfl, h3, r3⟩ := trodAll_cons r2
  obtain ⟨rfl, rfl, rfl⟩ := trodAll_nil r3
  obtain rfl : args = #[v0, v1, v2, v3] := by cases args; simp_all
  obtain ⟨rfl, rfl⟩ := trodVars_none hV
  obtain ⟨a0_0, a0_1, a0_2, rfl, rfl, rfl, wa0_0, wa0_1, wa0_2⟩ := open_ints3 Try.underlying25 (by kernel_rfl) (by kernel_rfl) Try.underlying21 Try.underlying21 Try.underlying21 (hval 0 25 v0 rfl rfl) h0
  obtain ⟨a1, rfl, rfl, rfl, wa1⟩ := open_int Try.underlying21 (hval 1 21 v1 rfl rfl) h1
  obtain ⟨a2_0, a2_1, a2_2, rfl, rfl, rfl, wa2_0, wa2_1, wa2_2⟩ := open_ints3 Try.underlying25 (by kernel_rfl) (by kernel_rfl) Try.underlying21 Try.underlying21 Try.underlying21 (hval 2 25 v2 rfl rfl) h2
  obtain ⟨a3, rfl, rfl, rfl, wa3⟩ := open_int Try.underlying21 (hval 3 21 v3 rfl rfl) h3
  clear hA0 hval0
  simp only [List.append_nil] at hW'
  refine (walk a0_0 a0_1 a0_2 a1 a2_0 a2_1 a2_2 a3 wa0_0 wa0_1 wa0_2 wa1 wa2_0 wa2_1 wa2_2 wa3 W).mono fun e W' ⟨he, hg⟩ => ?_
  subst he
  exact ⟨_, rfl, _, _, _, [], _, [], hW', (trodAll_cons_mk (shut_bool Try.underlying4 _) trodAll_mk0), (trodAll_cons_mk (shut_ints3 Try.underlying25 (by kernel_rfl) (by kernel_rfl) Try.underlying21 Try.underlying21 Try.underlying21 wa0_0 wa0_1 wa0_2) (trodAll_cons_mk (shut_int Try.underlying21 wa1) (trodAll_cons_mk (shut_ints3 Try.underlying25 (by kernel_rfl) (by kernel_rfl) Try.underlying21 Try.underlying21 Try.underlying21 wa2_0 wa2_1 wa2_2) (trodAll_cons_mk (shut_int Try.underlying21 wa3) trodAll_mk0)))), rfl, hg.frame _, fun h => by cases h⟩

theorem over : Rows.fuseRestRow.holds Try.pinned (OpenSpec.ofChange Rows.fuseRestSpec) :=
  OpenClaim.holds_of_wide 4 Try.f4 rfl rfl rfl rfl rfl rfl rfl ⟨rfl, rfl, rfl, rfl, rfl⟩ rfl rfl rfl rfl rfl (by kernel_rfl) Try.func4 (by kernel_rfl)
    (of_decide_eq_true (by kernel_rfl)) (by unfold Func.isWrapper; first | (rw [if_pos (by decide +kernel)]; kernel_rfl) | (rw [if_neg (by decide +kernel)]; exact ⟨rfl, rfl⟩))
    (fun os started H enc _ => lifted os started H enc)

/-- ████ THE STATEMENT ████ -/
theorem proved : Rows.FuseRestSaid :=
  over
end Go.Proofs.Ytgmepohfkpncmaa.fuseRest
