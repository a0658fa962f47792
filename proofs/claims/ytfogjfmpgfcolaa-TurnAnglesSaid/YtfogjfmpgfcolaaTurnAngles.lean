/- TurnAngles: WHATEVER THE INPUT, the law returns true and leaves its arguments as they were: no condition. The frame is the guide's template with structs of integers opened; the walk is proved in YtfogjfmpgfcolaaTurnQ. -/
import Derived.Test.YtfogjfmpgfcolaaTurnQ
import Derived.Test.YtfogjfmpgfcolaaAgg
import Derived.WalkKit
import Derived.ProofKit
import Derived.OpenShut
import Derived.Below
import Derived.ShutString
namespace Go.Proofs.Ytfogjfmpgfcolaa.turnAngles
open Go.ChangeShapes Go.WideShapes Go.ChangeAt Go.RowKit
set_option linter.unusedVariables false

theorem own : ownKnob Try.prog.godebug = none := by kernel_rfl

/-! ### THE WALK -/
theorem walk (a0 : Int) (a1 : Int) (a2 : Int) (a3_0 : Int) (a3_1 : Int) (a3_2 : Int) (a3_3 : Int) (wa0 : (Lit.int .i32 a0).wf = true) (wa1 : (Lit.int .i32 a1).wf = true) (wa2 : (Lit.int .i32 a2).wf = true) (wa3_0 : (Lit.int .i32 a3_0).wf = true) (wa3_1 : (Lit.int .i32 a3_1).wf = true) (wa3_2 : (Lit.int .i32 a3_2).wf = true) (wa3_3 : (Lit.int .i32 a3_3).wf = true) (w : World) :
    Calls Try.prog 6 #[.int .i32 a0, .int .i32 a1, .int .i32 a2, .agg #[.int .i32 a3_0, .int .i32 a3_1, .int .i32 a3_2, .int .i32 a3_3]] w fun e w' => e = .returned (.bool true) ∧ Below w.heap.size w w' := by
  exact turnAngles_walk a0 a1 a2 a3_0 a3_1 a3_2 a3_3 w wa0 wa1 wa2 wa3_0 wa3_1 wa3_2 wa3_3

/-! ### THE ROW's STEP -/
set_option maxRecDepth 100000 in
theorem lifted (os : Os) (started : os.Started) (H : Type) (enc : TypeId × Value → H) :
    ReturnsInHanded {} Try.checked os 6 .any (Rows.turnAnglesSpec.pre6 enc Try.prog Try.f6 Rows.turnAnglesRow.domain false) (Rows.turnAnglesSpec.post enc Try.prog Try.f6 false true false false) := by
  refine returnsInHanded_of_change (C := Try.checked) own started (by kernel_rfl) Try.func6
    (ChangeSpec.witness6 (enc := enc) (C := Try.checked) false ⟨#[], #[.int .i32 0, .int .i32 0, .int .i32 0, .agg #[.int .i32 0, .int .i32 0, .int .i32 0, .int .i32 0]], []⟩ 8 (by kernel_rfl) (by kernel_rfl) (by kernel_rfl) (by kernel_rfl)) ?_
  intro W base args ds gs before hval0 hW hcnd _
  have hval : ∀ (j : Nat) t v, Try.f6.params[j]? = some t → args[j]? = some v → Value.okWide Try.prog W .any base t v := hval0
  have hW' := hW
  obtain ⟨p, q, hA0, hV, rfl, hfz, hnd⟩ := hW
  have hA : DataW.TrodAll enc Try.prog W 0 (fun _ => true) true Try.f6.params.toList args.toList ds p := hA0
  rw [Try.params6] at hA hval
  obtain ⟨v0, vs0, d0, ds0, p0, q0, hargs, rfl, rfl, h0, r0⟩ := trodAll_cons hA
  obtain ⟨v1, vs1, d1, ds1, p1, q1, rfl, rfl, rfl, h1, r1⟩ := trodAll_cons r0
  obtain ⟨v2, vs2, d2, ds2, p2, q2, rfl, rfl, rfl, h2, r2⟩ := trodAll_cons r1
  obtain ⟨v3, vs3, d3, ds3, p3, q3, rfl, rfl, rfl, h3, r3⟩ := trodAll_cons r2
  obtain ⟨rfl, rfl, rfl⟩ := trodAll_nil r3
  obtain rfl : args = #[v0, v1, v2, v3] := by cases args; simp_all
  obtain ⟨rfl, rfl⟩ := trodVars_none hV
  obtain ⟨a0, rfl, rfl, rfl, wa0⟩ := open_int Try.underlying21 (hval 0 21 v0 rfl rfl) h0
  obtain ⟨a1, rfl, rfl, rfl, wa1⟩ := open_int Try.underlying21 (hval 1 21 v1 rfl rfl) h1
  obtain ⟨a2, rfl, rfl, rfl, wa2⟩ := open_int Try.underlying21 (hval 2 21 v2 rfl rfl) h2
  obtain ⟨a3_0, a3_1, a3_2, a3_3, rfl, rfl, rfl, wa3_0, wa3_1, wa3_2, wa3_3⟩ := open_ints4 Try.underlying23 (by kernel_rfl) (by kernel_rfl) Try.underlying21 Try.underlying21 Try.underlying21 Try.underlying21 (hval 3 23 v3 rfl rfl) h3
  clear hA0 hval0
  simp only [List.append_nil] at hW'
  refine (walk a0 a1 a2 a3_0 a3_1 a3_2 a3_3 wa0 wa1 wa2 wa3_0 wa3_1 wa3_2 wa3_3 W).mono fun e W' ⟨he, hg⟩ => ?_
  subst he
  exact ⟨_, rfl, _, _, _, [], _, [], hW', (trodAll_cons_mk (shut_bool Try.underlying4 _) trodAll_mk0), (trodAll_cons_mk (shut_int Try.underlying21 wa0) (trodAll_cons_mk (shut_int Try.underlying21 wa1) (trodAll_cons_mk (shut_int Try.underlying21 wa2) (trodAll_cons_mk (shut_ints4 Try.underlying23 (by kernel_rfl) (by kernel_rfl) Try.underlying21 Try.underlying21 Try.underlying21 Try.underlying21 wa3_0 wa3_1 wa3_2 wa3_3) trodAll_mk0)))), rfl, hg.frame _, fun h => by cases h⟩

theorem over : Rows.turnAnglesRow.holds Try.pinned (OpenSpec.ofChange Rows.turnAnglesSpec) :=
  OpenClaim.holds_of_wide 6 Try.f6 rfl rfl rfl rfl rfl rfl rfl ⟨rfl, rfl, rfl, rfl, rfl⟩ rfl rfl rfl rfl rfl (by kernel_rfl) Try.func6 (by kernel_rfl)
    (of_decide_eq_true (by kernel_rfl)) (by unfold Func.isWrapper; first | (rw [if_pos (by decide +kernel)]; kernel_rfl) | (rw [if_neg (by decide +kernel)]; exact ⟨rfl, rfl⟩))
    (fun os started H enc _ => lifted os started H enc)

/-- ████ THE STATEMENT ████ -/
theorem proved : Rows.TurnAnglesSaid :=
  over
end Go.Proofs.Ytfogjfmpgfcolaa.turnAngles
