/- Chapter 13: the walk of TurnSteps. -/
import Derived.Test.YtfogjfmpgfcolaaTurnS
namespace Go.Proofs.Ytfogjfmpgfcolaa
open Go.RowKit
set_option linter.unusedVariables false
set_option linter.unusedSimpArgs false

set_option maxHeartbeats 8000000 in
theorem turnSteps_walk (q0 q1 q2 q3 r0 r1 r2 dt : Int) (w : World) (vq0 : (Lit.int .i32 q0).wf = true) (vq1 : (Lit.int .i32 q1).wf = true) (vq2 : (Lit.int .i32 q2).wf = true) (vq3 : (Lit.int .i32 q3).wf = true) (vr0 : (Lit.int .i32 r0).wf = true) (vr1 : (Lit.int .i32 r1).wf = true) (vr2 : (Lit.int .i32 r2).wf = true) (vdt : (Lit.int .i32 dt).wf = true) :
    Calls Try.prog 11 #[.agg #[.int .i32 q0, .int .i32 q1, .int .i32 q2, .int .i32 q3], .agg #[.int .i32 r0, .int .i32 r1, .int .i32 r2], .int .i32 dt] w fun e w' => e = .returned (.bool true) ∧ Below w.heap.size w w' := by
  have iq0 : I32 q0 := bounds_i32 vq0
  have iq1 : I32 q1 := bounds_i32 vq1
  have iq2 : I32 q2 := bounds_i32 vq2
  have iq3 : I32 q3 := bounds_i32 vq3
  have ir0 : I32 r0 := bounds_i32 vr0
  have ir1 : I32 r1 := bounds_i32 vr1
  have ir2 : I32 r2 := bounds_i32 vr2
  have idt : I32 dt := bounds_i32 vdt
  clear vq0 vq1 vq2 vq3 vr0 vr1 vr2 vdt
  have h1 := fun w => t_Step q0 q1 q2 q3 r0 r1 r2 dt w iq0 iq1 iq2 iq3 ir0 ir1 ir2 idt
  have h2 := fun w => r13_Step q0 q1 q2 q3 r0 r1 r2 dt w iq0 iq1 iq2 iq3 ir0 ir1 ir2 idt
  have HK := hid fun w => law13_knows w
  clear iq0 iq1 iq2 iq3 ir0 ir1 ir2 idt
  unfold Steps at h1 h2
  generalize stO (stL q0 q1 q2 q3 r0 r1 r2 dt) (stP 0 q0 q1 q2 q3 r0 r1 r2 dt) 1073741824 = x0 at *
  generalize stO (stL q0 q1 q2 q3 r0 r1 r2 dt) (stP 1 q0 q1 q2 q3 r0 r1 r2 dt) 0 = x1 at *
  generalize stO (stL q0 q1 q2 q3 r0 r1 r2 dt) (stP 2 q0 q1 q2 q3 r0 r1 r2 dt) 0 = x2 at *
  generalize stO (stL q0 q1 q2 q3 r0 r1 r2 dt) (stP 3 q0 q1 q2 q3 r0 r1 r2 dt) 0 = x3 at *
  generalize stN q0 q1 q2 q3 r0 r1 r2 dt + (if 0 < farP (stL q0 q1 q2 q3 r0 r1 r2 dt) then 0 else 1) = N at *
  have H1 := hid h1
  have H2 := hid h2
  clear h1 h2
  go_enter Try.func11, Try.ntmps11
  have hp0 : Blk (w.alloc (.cells #[.int .i32 q0, .int .i32 q1, .int .i32 q2, .int .i32 q3] 23)) w.heap.size 23 #[.int .i32 q0, .int .i32 q1, .int .i32 q2, .int .i32 q3] := Blk.new w _ _
  have hb : Below w.heap.size w (w.alloc (.cells #[.int .i32 q0, .int .i32 q1, .int .i32 q2, .int .i32 q3] 23)) := (Below.refl _ w).alloc (Nat.le_refl _) _
  replace hp0 := hp0.alloc (.cells #[.int .i32 r0, .int .i32 r1, .int .i32 r2] 25)
  have hp1 : Blk ((w.alloc (.cells #[.int .i32 q0, .int .i32 q1, .int .i32 q2, .int .i32 q3] 23)).alloc (.cells #[.int .i32 r0, .int .i32 r1, .int .i32 r2] 25)) (w.heap.size + 1) 25 #[.int .i32 r0, .int .i32 r1, .int .i32 r2] := by have := Blk.new (w.alloc (.cells #[.int .i32 q0, .int .i32 q1, .int .i32 q2, .int .i32 q3] 23)) 25 #[.int .i32 r0, .int .i32 r1, .int .i32 r2]; simpa using this
  replace hb := hb.alloc hb.size (.cells #[.int .i32 r0, .int .i32 r1, .int .i32 r2] 25)
  go_wp2_with fail
  generalize (w.alloc (.cells #[.int .i32 q0, .int .i32 q1, .int .i32 q2, .int .i32 q3] 23)).alloc (.cells #[.int .i32 r0, .int .i32 r1, .int .i32 r2] 25) = W0 at *
  refine (H1.out _).mono ?_
  rintro e w1 ⟨rfl, b1⟩
  replace hp0 := hp0.below b1 hp0.lt
  replace hp1 := hp1.below b1 hp1.lt
  replace hb := below_on hb b1
  clear b1
  have o1hp0 := hp0.lt
  have o1hp1 := hp1.lt
  replace hp0 := hp0.alloc (.cells #[.int .i32 x0, .int .i32 x1, .int .i32 x2, .int .i32 x3] 23)
  replace hp1 := hp1.alloc (.cells #[.int .i32 x0, .int .i32 x1, .int .i32 x2, .int .i32 x3] 23)
  have ob1 := hb.size
  have hn1 : Blk (w1.alloc (.cells #[.int .i32 x0, .int .i32 x1, .int .i32 x2, .int .i32 x3] 23)) w1.heap.size 23 #[.int .i32 x0, .int .i32 x1, .int .i32 x2, .int .i32 x3] := Blk.new w1 _ _
  replace hb := hb.alloc hb.size (.cells #[.int .i32 x0, .int .i32 x1, .int .i32 x2, .int .i32 x3] 23)
  have f0 : (w1.alloc (.cells #[.int .i32 x0, .int .i32 x1, .int .i32 x2, .int .i32 x3] 23)).cell? ⟨w.heap.size, 0, none⟩ = some (.int .i32 q0) := hp0.cell 0
  have f1 : (w1.alloc (.cells #[.int .i32 x0, .int .i32 x1, .int .i32 x2, .int .i32 x3] 23)).cell? ⟨w.heap.size, 1, none⟩ = some (.int .i32 q1) := hp0.cell 1
  have f2 : (w1.alloc (.cells #[.int .i32 x0, .int .i32 x1, .int .i32 x2, .int .i32 x3] 23)).cell? ⟨w.heap.size, 2, none⟩ = some (.int .i32 q2) := hp0.cell 2
  have f3 : (w1.alloc (.cells #[.int .i32 x0, .int .i32 x1, .int .i32 x2, .int .i32 x3] 23)).cell? ⟨w.heap.size, 3, none⟩ = some (.int .i32 q3) := hp0.cell 3
  have f4 : (w1.alloc (.cells #[.int .i32 x0, .int .i32 x1, .int .i32 x2, .int .i32 x3] 23)).cell? ⟨w.heap.size + 1, 0, none⟩ = some (.int .i32 r0) := hp1.cell 0
  have f5 : (w1.alloc (.cells #[.int .i32 x0, .int .i32 x1, .int .i32 x2, .int .i32 x3] 23)).cell? ⟨w.heap.size + 1, 1, none⟩ = some (.int .i32 r1) := hp1.cell 1
  have f6 : (w1.alloc (.cells #[.int .i32 x0, .int .i32 x1, .int .i32 x2, .int .i32 x3] 23)).cell? ⟨w.heap.size + 1, 2, none⟩ = some (.int .i32 r2) := hp1.cell 2
  have f7 : (w1.alloc (.cells #[.int .i32 x0, .int .i32 x1, .int .i32 x2, .int .i32 x3] 23)).cell? ⟨w1.heap.size, 0, none⟩ = some (.int .i32 x0) := hn1.cell 0
  have f8 : (w1.alloc (.cells #[.int .i32 x0, .int .i32 x1, .int .i32 x2, .int .i32 x3] 23)).cell? ⟨w1.heap.size, 1, none⟩ = some (.int .i32 x1) := hn1.cell 1
  have f9 : (w1.alloc (.cells #[.int .i32 x0, .int .i32 x1, .int .i32 x2, .int .i32 x3] 23)).cell? ⟨w1.heap.size, 2, none⟩ = some (.int .i32 x2) := hn1.cell 2
  have f10 : (w1.alloc (.cells #[.int .i32 x0, .int .i32 x1, .int .i32 x2, .int .i32 x3] 23)).cell? ⟨w1.heap.size, 3, none⟩ = some (.int .i32 x3) := hn1.cell 3
  go_wp2_with fail
  clear f0 f1 f2 f3 f4 f5 f6 f7 f8 f9 f10
  generalize w1.alloc (.cells #[.int .i32 x0, .int .i32 x1, .int .i32 x2, .int .i32 x3] 23) = W1 at *
  refine (H2.out _).mono ?_
  rintro e w2 ⟨rfl, b2⟩
  replace hp0 := hp0.below b2 hp0.lt
  replace hp1 := hp1.below b2 hp1.lt
  replace hn1 := hn1.below b2 hn1.lt
  replace hb := below_on hb b2
  clear b2
  have o2hp0 := hp0.lt
  have o2hp1 := hp1.lt
  have o2hn1 := hn1.lt
  replace hp0 := hp0.alloc (.cells #[.int .i32 x0, .int .i32 x1, .int .i32 x2, .int .i32 x3] 23)
  replace hp1 := hp1.alloc (.cells #[.int .i32 x0, .int .i32 x1, .int .i32 x2, .int .i32 x3] 23)
  replace hn1 := hn1.alloc (.cells #[.int .i32 x0, .int .i32 x1, .int .i32 x2, .int .i32 x3] 23)
  have ob2 := hb.size
  have hn2 : Blk (w2.alloc (.cells #[.int .i32 x0, .int .i32 x1, .int .i32 x2, .int .i32 x3] 23)) w2.heap.size 23 #[.int .i32 x0, .int .i32 x1, .int .i32 x2, .int .i32 x3] := Blk.new w2 _ _
  replace hb := hb.alloc hb.size (.cells #[.int .i32 x0, .int .i32 x1, .int .i32 x2, .int .i32 x3] 23)
  have f0 : (w2.alloc (.cells #[.int .i32 x0, .int .i32 x1, .int .i32 x2, .int .i32 x3] 23)).cell? ⟨w.heap.size, 0, none⟩ = some (.int .i32 q0) := hp0.cell 0
  have f1 : (w2.alloc (.cells #[.int .i32 x0, .int .i32 x1, .int .i32 x2, .int .i32 x3] 23)).cell? ⟨w.heap.size, 1, none⟩ = some (.int .i32 q1) := hp0.cell 1
  have f2 : (w2.alloc (.cells #[.int .i32 x0, .int .i32 x1, .int .i32 x2, .int .i32 x3] 23)).cell? ⟨w.heap.size, 2, none⟩ = some (.int .i32 q2) := hp0.cell 2
  have f3 : (w2.alloc (.cells #[.int .i32 x0, .int .i32 x1, .int .i32 x2, .int .i32 x3] 23)).cell? ⟨w.heap.size, 3, none⟩ = some (.int .i32 q3) := hp0.cell 3
  have f4 : (w2.alloc (.cells #[.int .i32 x0, .int .i32 x1, .int .i32 x2, .int .i32 x3] 23)).cell? ⟨w.heap.size + 1, 0, none⟩ = some (.int .i32 r0) := hp1.cell 0
  have f5 : (w2.alloc (.cells #[.int .i32 x0, .int .i32 x1, .int .i32 x2, .int .i32 x3] 23)).cell? ⟨w.heap.size + 1, 1, none⟩ = some (.int .i32 r1) := hp1.cell 1
  have f6 : (w2.alloc (.cells #[.int .i32 x0, .int .i32 x1, .int .i32 x2, .int .i32 x3] 23)).cell? ⟨w.heap.size + 1, 2, none⟩ = some (.int .i32 r2) := hp1.cell 2
  have f7 : (w2.alloc (.cells #[.int .i32 x0, .int .i32 x1, .int .i32 x2, .int .i32 x3] 23)).cell? ⟨w1.heap.size, 0, none⟩ = some (.int .i32 x0) := hn1.cell 0
  have f8 : (w2.alloc (.cells #[.int .i32 x0, .int .i32 x1, .int .i32 x2, .int .i32 x3] 23)).cell? ⟨w1.heap.size, 1, none⟩ = some (.int .i32 x1) := hn1.cell 1
  have f9 : (w2.alloc (.cells #[.int .i32 x0, .int .i32 x1, .int .i32 x2, .int .i32 x3] 23)).cell? ⟨w1.heap.size, 2, none⟩ = some (.int .i32 x2) := hn1.cell 2
  have f10 : (w2.alloc (.cells #[.int .i32 x0, .int .i32 x1, .int .i32 x2, .int .i32 x3] 23)).cell? ⟨w1.heap.size, 3, none⟩ = some (.int .i32 x3) := hn1.cell 3
  have f11 : (w2.alloc (.cells #[.int .i32 x0, .int .i32 x1, .int .i32 x2, .int .i32 x3] 23)).cell? ⟨w2.heap.size, 0, none⟩ = some (.int .i32 x0) := hn2.cell 0
  have f12 : (w2.alloc (.cells #[.int .i32 x0, .int .i32 x1, .int .i32 x2, .int .i32 x3] 23)).cell? ⟨w2.heap.size, 1, none⟩ = some (.int .i32 x1) := hn2.cell 1
  have f13 : (w2.alloc (.cells #[.int .i32 x0, .int .i32 x1, .int .i32 x2, .int .i32 x3] 23)).cell? ⟨w2.heap.size, 2, none⟩ = some (.int .i32 x2) := hn2.cell 2
  have f14 : (w2.alloc (.cells #[.int .i32 x0, .int .i32 x1, .int .i32 x2, .int .i32 x3] 23)).cell? ⟨w2.heap.size, 3, none⟩ = some (.int .i32 x3) := hn2.cell 3
  go_wp2_with fail
  clear f0 f1 f2 f3 f4 f5 f6 f7 f8 f9 f10 f11 f12 f13 f14
  generalize w2.alloc (.cells #[.int .i32 x0, .int .i32 x1, .int .i32 x2, .int .i32 x3] 23) = W2 at *
  refine (HK.out _).mono ?_
  rintro e w3 ⟨rfl, b3⟩
  replace hp0 := hp0.below b3 hp0.lt
  replace hp1 := hp1.below b3 hp1.lt
  replace hn1 := hn1.below b3 hn1.lt
  replace hn2 := hn2.below b3 hn2.lt
  replace hb := below_on hb b3
  clear b3
  go_wp2
  go_ret
  exact ⟨rfl, hb⟩
end Go.Proofs.Ytfogjfmpgfcolaa
