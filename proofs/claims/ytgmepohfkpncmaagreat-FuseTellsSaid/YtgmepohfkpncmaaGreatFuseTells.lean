/- FuseTells: WHATEVER THE INPUT, the law returns true and leaves its arguments as they were: no condition. The frame is the guide's template with structs of integers opened; the walk is proved in YtgmepohfkpncmaaGreatFuseP. -/
import Derived.Test.YtgmepohfkpncmaaGreatFuseP
import Derived.Test.YtgmepohfkpncmaaGreatFuseA
import Derived.WalkKit
import Derived.ProofKit
import Derived.OpenShut
import Derived.Below
import Derived.ShutString
namespace Go.Proofs.YtgmepohfkpncmaaGreat.fuseTells
open Go.ChangeShapes Go.WideShapes Go.ChangeAt Go.RowKit
set_option linter.unusedVariables false

theorem own : ownKnob Tryz.prog.godebug = none := by kernel_rfl

/-! ### THE WALK -/
theorem walk (a0_0 : Int) (a0_1 : Int) (a0_2 : Int) (a0_3 : Int) (a0_4 : Int) (a0_5 : Int) (a0_6 : Int) (a0_7 : Int) (a0_8 : Int) (a1_0 : Int) (a1_1 : Int) (a1_2 : Int) (a1_3 : Int) (a1_4 : Int) (a1_5 : Int) (a1_6 : Int) (wa0_0 : (Lit.int .i32 a0_0).wf = true) (wa0_1 : (Lit.int .i32 a0_1).wf = true) (wa0_2 : (Lit.int .i32 a0_2).wf = true) (wa0_3 : (Lit.int .i32 a0_3).wf = true) (wa0_4 : (Lit.int .i32 a0_4).wf = true) (wa0_5 : (Lit.int .i32 a0_5).wf = true) (wa0_6 : (Lit.int .i32 a0_6).wf = true) (wa0_7 : (Lit.int .i64 a0_7).wf = true) (wa0_8 : (Lit.int .i64 a0_8).wf = true) (wa1_0 : (Lit.int .i32 a1_0).wf = true) (wa1_1 : (Lit.int .i32 a1_1).wf = true) (wa1_2 : (Lit.int .i32 a1_2).wf = true) (wa1_3 : (Lit.int .i32 a1_3).wf = true) (wa1_4 : (Lit.int .i32 a1_4).wf = true) (wa1_5 : (Lit.int .i32 a1_5).wf = true) (wa1_6 : (Lit.int .i32 a1_6).wf = true) (w : World) :
    Calls Tryz.prog 3 #[.agg #[.int .i32 a0_0, .int .i32 a0_1, .int .i32 a0_2, .int .i32 a0_3, .int .i32 a0_4, .int .i32 a0_5, .int .i32 a0_6, .int .i64 a0_7, .int .i64 a0_8], .agg #[.int .i32 a1_0, .int .i32 a1_1, .int .i32 a1_2, .int .i32 a1_3, .int .i32 a1_4, .int .i32 a1_5, .int .i32 a1_6]] w fun e w' => e = .returned (.bool true) ∧ Below w.heap.size w w' := by
  exact fuseTells_walk a0_0 a0_1 a0_2 a0_3 a0_4 a0_5 a0_6 a0_7 a0_8 a1_0 a1_1 a1_2 a1_3 a1_4 a1_5 a1_6 w wa0_0 wa0_1 wa0_2 wa0_3 wa0_4 wa0_5 wa0_6 wa0_7 wa0_8 wa1_0 wa1_1 wa1_2 wa1_3 wa1_4 wa1_5 wa1_6

/-! ### THE ROW's STEP -/
set_option maxRecDepth 100000 in
theorem lifted (os : Os) (started : os.Started) (H : Type) (enc : TypeId × Value → H) :
    ReturnsInHanded {} Tryz.checked os 3 .any (Rows.fuseTellsSpec.pre6 enc Tryz.prog Tryz.f3 Rows.fuseTellsRow.domain false) (Rows.fuseTellsSpec.post enc Tryz.prog Tryz.f3 false true false false) := by
  refine returnsInHanded_of_change (C := Tryz.checked) own started (by kernel_rfl) Tryz.func3
    (ChangeSpec.witness6 (enc := enc) (C := Tryz.checked) false ⟨#[], #[.agg #[.int .i32 0, .int .i32 0, .int .i32 0, .int .i32 0, .int .i32 0, .int .i32 0, .int .i32 0, .int .i64 0, .int .i64 0], .agg #[.int .i32 0, .int .i32 0, .int .i32 0, .int .i32 0, .int .i32 0, .int .i32 0, .int .i32 0]], []⟩ 8 (by kernel_rfl) (by kernel_rfl) (by kernel_rfl) (by kernel_rfl)) ?_
  intro W base args ds gs before hval0 hW hcnd _
  have hval : ∀ (j : Nat) t v, Tryz.f3.params[j]? = some t → args[j]? = some v → Value.okWide Tryz.prog W .any base t v := hval0
  have hW' := hW
  obtain ⟨p, q, hA0, hV, rfl, hfz, hnd⟩ := hW
  have hA : DataW.TrodAll enc Tryz.prog W 0 (fun _ => true) true Tryz.f3.params.toList args.toList ds p := hA0
  rw [Tryz.params3] at hA hval
  obtain ⟨v0, vs0, d0, ds0, p0, q0, hargs, rfl, rfl, h0, r0⟩ := trodAll_cons hA
  obtain ⟨v1, vs1, d1, ds1, p1, q1, rfl, rfl, rfl, h1, r1⟩ := trodAll_cons r0
  obtain ⟨rfl, rfl, rfl⟩ := trodAll_nil r1
  obtain rfl : args = #[v0, v1] := by cases args; simp_all
  obtain ⟨rfl, rfl⟩ := trodVars_none hV
  obtain ⟨a0_0, a0_1, a0_2, a0_3, a0_4, a0_5, a0_6, a0_7, a0_8, rfl, rfl, rfl, wa0_0, wa0_1, wa0_2, wa0_3, wa0_4, wa0_5, wa0_6, wa0_7, wa0_8⟩ := open_state (hval 0 27 v0 rfl rfl) h0
  obtain ⟨a1_0, a1_1, a1_2, a1_3, a1_4, a1_5, a1_6, rfl, rfl, rfl, wa1_0, wa1_1, wa1_2, wa1_3, wa1_4, wa1_5, wa1_6⟩ := open_sample (hval 1 29 v1 rfl rfl) h1
  clear hA0 hval0
  simp only [List.append_nil] at hW'
  refine (walk a0_0 a0_1 a0_2 a0_3 a0_4 a0_5 a0_6 a0_7 a0_8 a1_0 a1_1 a1_2 a1_3 a1_4 a1_5 a1_6 wa0_0 wa0_1 wa0_2 wa0_3 wa0_4 wa0_5 wa0_6 wa0_7 wa0_8 wa1_0 wa1_1 wa1_2 wa1_3 wa1_4 wa1_5 wa1_6 W).mono fun e W' ⟨he, hg⟩ => ?_
  subst he
  exact ⟨_, rfl, _, _, _, [], _, [], hW', (trodAll_cons_mk (shut_bool Tryz.underlying4 _) trodAll_mk0), (trodAll_cons_mk (state_mk wa0_0 wa0_1 wa0_2 wa0_3 wa0_4 wa0_5 wa0_6 wa0_7 wa0_8) (trodAll_cons_mk (sample_mk wa1_0 wa1_1 wa1_2 wa1_3 wa1_4 wa1_5 wa1_6) trodAll_mk0)), rfl, hg.frame _, fun h => by cases h⟩

theorem over : Rows.fuseTellsRow.holds Tryz.pinned (OpenSpec.ofChange Rows.fuseTellsSpec) :=
  OpenClaim.holds_of_wide 3 Tryz.f3 rfl rfl rfl rfl rfl rfl rfl ⟨rfl, rfl, rfl, rfl, rfl⟩ rfl rfl rfl rfl rfl (by kernel_rfl) Tryz.func3 (by kernel_rfl)
    (of_decide_eq_true (by kernel_rfl)) (by unfold Func.isWrapper; first | (rw [if_pos (by decide +kernel)]; kernel_rfl) | (rw [if_neg (by decide +kernel)]; exact ⟨rfl, rfl⟩))
    (fun os started H enc _ => lifted os started H enc)

/-- ████ THE STATEMENT ████ -/
theorem proved : Rows.FuseTellsSaid :=
  over
end Go.Proofs.YtgmepohfkpncmaaGreat.fuseTells
