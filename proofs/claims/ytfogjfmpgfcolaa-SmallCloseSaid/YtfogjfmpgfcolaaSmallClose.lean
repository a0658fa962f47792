/- SmallClose: WHATEVER THE INPUT, the law returns true and leaves its arguments as they were: no condition. The frame is the guide's template with structs of integers opened; the walk is proved in YtfogjfmpgfcolaaSmallJ. -/
import Derived.Test.YtfogjfmpgfcolaaSmallJ
import Derived.Test.YtfogjfmpgfcolaaAgg
import Derived.WalkKit
import Derived.ProofKit
import Derived.OpenShut
import Derived.Below
import Derived.ShutString
namespace Go.Proofs.Ytfogjfmpgfcolaa.smallClose
open Go.ChangeShapes Go.WideShapes Go.ChangeAt Go.RowKit
set_option linter.unusedVariables false

theorem own : ownKnob Try.prog.godebug = none := by kernel_rfl

/-! ### THE WALK -/
theorem walk (a0_0 : Int) (a0_1 : Int) (a0_2 : Int) (a0_3 : Int) (wa0_0 : (Lit.int .i32 a0_0).wf = true) (wa0_1 : (Lit.int .i32 a0_1).wf = true) (wa0_2 : (Lit.int .i32 a0_2).wf = true) (wa0_3 : (Lit.int .i32 a0_3).wf = true) (w : World) :
    Calls Try.prog 9 #[.agg #[.int .i32 a0_0, .int .i32 a0_1, .int .i32 a0_2, .int .i32 a0_3]] w fun e w' => e = .returned (.bool true) ∧ Below w.heap.size w w' := by
  exact smallClose_walk a0_0 a0_1 a0_2 a0_3 w wa0_0 wa0_1 wa0_2 wa0_3

/-! ### THE ROW's STEP -/
set_option maxRecDepth 100000 in
theorem lifted (os : Os) (started : os.Started) (H : Type) (enc : TypeId × Value → H) :
    ReturnsInHanded {} Try.checked os 9 .any (Rows.smallCloseSpec.pre6 enc Try.prog Try.f9 Rows.smallCloseRow.domain false) (Rows.smallCloseSpec.post enc Try.prog Try.f9 false true false false) := by
  refine returnsInHanded_of_change (C := Try.checked) own started (by kernel_rfl) Try.func9
    (ChangeSpec.witness6 (enc := enc) (C := Try.checked) false ⟨#[], #[.agg #[.int .i32 0, .int .i32 0, .int .i32 0, .int .i32 0]], []⟩ 8 (by kernel_rfl) (by kernel_rfl) (by kernel_rfl) (by kernel_rfl)) ?_
  intro W base args ds gs before hval0 hW hcnd _
  have hval : ∀ (j : Nat) t v, Try.f9.params[j]? = some t → args[j]? = some v → Value.okWide Try.prog W .any base t v := hval0
  have hW' := hW
  obtain ⟨p, q, hA0, hV, rfl, hfz, hnd⟩ := hW
  have hA : DataW.TrodAll enc Try.prog W 0 (fun _ => true) true Try.f9.params.toList args.toList ds p := hA0
  rw [Try.params9] at hA hval
  obtain ⟨v0, vs0, d0, ds0, p0, q0, hargs, rfl, rfl, h0, r0⟩ := trodAll_cons hA
  obtain ⟨rfl, rfl, rfl⟩ := trodAll_nil r0
  obtain rfl : args = #[v0] := by cases args; simp_all
  obtain ⟨rfl, rfl⟩ := trodVars_none hV
  obtain ⟨a0_0, a0_1, a0_2, a0_3, rfl, rfl, rfl, wa0_0, wa0_1, wa0_2, wa0_3⟩ := open_ints4 Try.underlying23 (by kernel_rfl) (by kernel_rfl) Try.underlying21 Try.underlying21 Try.underlying21 Try.underlying21 (hval 0 23 v0 rfl rfl) h0
  clear hA0 hval0
  simp only [List.append_nil] at hW'
  refine (walk a0_0 a0_1 a0_2 a0_3 wa0_0 wa0_1 wa0_2 wa0_3 W).mono fun e W' ⟨he, hg⟩ => ?_
  subst he
  exact ⟨_, rfl, _, _, _, [], _, [], hW', (trodAll_cons_mk (shut_bool Try.underlying4 _) trodAll_mk0), (trodAll_cons_mk (shut_ints4 Try.underlying23 (by kernel_rfl) (by kernel_rfl) Try.underlying21 Try.underlying21 Try.underlying21 Try.underlying21 wa0_0 wa0_1 wa0_2 wa0_3) trodAll_mk0), rfl, hg.frame _, fun h => by cases h⟩

theorem over : Rows.smallCloseRow.holds Try.pinned (OpenSpec.ofChange Rows.smallCloseSpec) :=
  OpenClaim.holds_of_wide 9 Try.f9 rfl rfl rfl rfl rfl rfl rfl ⟨rfl, rfl, rfl, rfl, rfl⟩ rfl rfl rfl rfl rfl (by kernel_rfl) Try.func9 (by kernel_rfl)
    (of_decide_eq_true (by kernel_rfl)) (by unfold Func.isWrapper; first | (rw [if_pos (by decide +kernel)]; kernel_rfl) | (rw [if_neg (by decide +kernel)]; exact ⟨rfl, rfl⟩))
    (fun os started H enc _ => lifted os started H enc)

/-- ████ THE STATEMENT ████ -/
theorem proved : Rows.SmallCloseSaid :=
  over
end Go.Proofs.Ytfogjfmpgfcolaa.smallClose
