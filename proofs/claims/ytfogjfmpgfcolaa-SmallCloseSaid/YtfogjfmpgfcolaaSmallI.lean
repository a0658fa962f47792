/- Chapter 12: what must come; the walks of the laws. -/
import Derived.Test.YtfogjfmpgfcolaaSmallH
import Derived.Test.YtfogjfmpgfcolaaQuatH
import Derived.Test.YtfogjfmpgfcolaaUnitF
import Derived.Laws.StructEq
namespace Go.Proofs.Ytfogjfmpgfcolaa
open Go.RowKit
set_option linter.unusedVariables false
set_option linter.unusedSimpArgs false
attribute [local go_sem] Oper.semAt_some

theorem below12 {w0 w w' : World} (h : Below w0.heap.size w0 w) (k : Below w.heap.size w w') : Below w0.heap.size w0 w' := h.trans (k.mono h.size)
def Ends (v : Value) (w : World) (e : Ending) (w' : World) : Prop := e = .returned v ∧ Below w.heap.size w w'
/-- What is unpacked: of the program and of the document the same; it is nearly a unit. -/
theorem unp_facts (u : Int) (hu : 0 ≤ u ∧ u ≤ 4294967295) : ∃ (V0 V1 V2 V3 : Int) (B : Bool),
    (∀ w, Calls Try.prog 30 #[.int .u32 u] w (Ends (.tuple #[.agg #[.int .i32 V0, .int .i32 V1, .int .i32 V2, .int .i32 V3], .bool B]) w)) ∧
    (∀ w, Calls Try.prog 31 #[.int .u32 u] w (Ends (.tuple #[.agg #[.int .i32 V0, .int .i32 V1, .int .i32 V2, .int .i32 V3], .bool B]) w)) ∧
    (B = false → V0 = 0 ∧ V1 = 0 ∧ V2 = 0 ∧ V3 = 0) ∧
    (B = true → I32 V0 ∧ I32 V1 ∧ I32 V2 ∧ I32 V3 ∧ sqP [V0, V1, V2, V3] ≤ 1152921504606846976 ∧ 1152921502459363328 ≤ sqP [V0, V1, V2, V3]) := by
  have hs := split_wid u hu
  obtain ⟨b, hb⟩ : ∃ b : Nat, (b : Int) = u / 1073741824 := ⟨(u / 1073741824).toNat, by omega⟩
  rw [← hb] at hs
  have hb4 : b < 4 := by omega
  generalize hp1 : u / 1048576 % 1024 = p1 at *
  generalize hp2 : u / 1024 % 1024 = p2 at *
  generalize hp3 : u % 1024 = p3 at *
  have h1 : 0 ≤ p1 ∧ p1 ≤ 1023 := by omega
  have h2 : 0 ≤ p2 ∧ p2 ≤ 1023 := by omega
  have h3 : 0 ≤ p3 ∧ p3 ≤ 1023 := by omega
  have H1 := fun w => s_Unpack u p1 p2 p3 b w hu hb4 h1 h2 h3 hs
  have H2 := fun w => r12_Unpack u p1 p2 p3 b w hu hb4 h1 h2 h3 hs
  cases hB : unB p1 p2 p3
  · have e : unV b p1 p2 p3 = #[.int .i32 0, .int .i32 0, .int .i32 0, .int .i32 0] := by unfold unV; rw [hB]; rfl
    rw [e, hB] at H1 H2
    exact ⟨0, 0, 0, 0, false, H1, H2, fun _ => ⟨rfl, rfl, rfl, rfl⟩, fun h => by cases h⟩
  · have e : unV b p1 p2 p3 = #[.int .i32 (unI b p1 p2 p3 0), .int .i32 (unI b p1 p2 p3 1), .int .i32 (unI b p1 p2 p3 2), .int .i32 (unI b p1 p2 p3 3)] := by unfold unV; rw [if_pos hB, unC_unI b p1 p2 p3 hb4]
    rw [e, hB] at H1 H2
    refine ⟨_, _, _, _, true, H1, H2, fun h => (by cases h), fun _ => ?_⟩
    have hl : 0 ≤ leftP p1 p2 p3 (upK 3) := by
      unfold unB at hB
      simp at hB
      exact hB.2
    have hbd := leftP_bd p1 p2 p3 (upK 3) h1 h2 h3 (by simp [upK])
    have hl3 := leftP_3 p1 p2 p3
    obtain ⟨s0, s1, s2⟩ := root_sq _ hl
    obtain ⟨t0, t1, t2⟩ := rootP_spec _ hl
    have hr : rootP (leftP p1 p2 p3 (upK 3)) ≤ 1073741824 := by
      have h5 := root_mono (n := leftP p1 p2 p3 (upK 3)) (m := 1152921504606846976) hl hbd.2
      have h6 : rootP 1152921504606846976 = 1073741824 := root_eq (by omega) (by omega) (by omega)
      omega
    have q1 := part_bd p1 h1
    have q2 := part_bd p2 h2
    have q3 := part_bd p3 h3
    have hi : ∀ i, I32 (unI b p1 p2 p3 i) := fun i => by
      unfold unI
      split
      · unfold I32; omega
      · have := part_bd (pk p1 p2 p3 (cntO b i)) (pk_bd p1 p2 p3 _ h1 h2 h3)
        unfold I32; omega
    have hS : unI b p1 p2 p3 0 * unI b p1 p2 p3 0 + unI b p1 p2 p3 1 * unI b p1 p2 p3 1 + unI b p1 p2 p3 2 * unI b p1 p2 p3 2 + unI b p1 p2 p3 3 * unI b p1 p2 p3 3 = rootP (leftP p1 p2 p3 (upK 3)) * rootP (leftP p1 p2 p3 (upK 3)) + partP p1 * partP p1 + partP p2 * partP p2 + partP p3 * partP p3 := by
      obtain rfl | rfl | rfl | rfl : b = 0 ∨ b = 1 ∨ b = 2 ∨ b = 3 := by omega
      all_goals (simp [unI, cntO, pk]; try omega)
    have h4 := sqP_4 (unI b p1 p2 p3 0) (unI b p1 p2 p3 1) (unI b p1 p2 p3 2) (unI b p1 p2 p3 3)
    rw [hS] at h4
    generalize rootP (leftP p1 p2 p3 (upK 3)) = r at *
    generalize leftP p1 p2 p3 (upK 3) = L at *
    generalize r * r = rr at *
    have h5 := h4.2.2.2 (by omega)
    exact ⟨hi 0, hi 1, hi 2, hi 3, by omega, by omega⟩
theorem unp_example (w : World) : Calls Try.prog 30 #[.int .u32 537395712] w fun e w' => e = .returned (.tuple #[.agg #[.int .i32 1073741824, .int .i32 0, .int .i32 0, .int .i32 0], .bool true]) ∧ Below w.heap.size w w' := by
  have h := s_Unpack 537395712 512 512 512 0 w (by omega) (by omega) (by omega) (by omega) (by omega) (by rw [split_wid _ (by omega)]; decide +kernel)
  have hp : partP 512 = 0 := by decide +kernel
  have hl : leftP 512 512 512 (upK 3) = 1152921504606846976 := by rw [leftP_3, hp]; rfl
  have hB : unB 512 512 512 = true := by unfold unB; rw [hl]; decide +kernel
  have e : unV 0 512 512 512 = #[.int .i32 1073741824, .int .i32 0, .int .i32 0, .int .i32 0] := by
    unfold unV
    rw [if_pos hB, unC_unI 0 512 512 512 (by omega)]
    have r : rootP 1152921504606846976 = 1073741824 := root_eq (by omega) (by omega) (by omega)
    have u0 : unI 0 512 512 512 0 = 1073741824 := by unfold unI; rw [if_pos rfl, hl, r]
    have u1 : unI 0 512 512 512 1 = 0 := by unfold unI; rw [if_neg (by omega), show pk 512 512 512 (cntO 0 1) = 512 from rfl, hp]
    have u2 : unI 0 512 512 512 2 = 0 := by unfold unI; rw [if_neg (by omega), show pk 512 512 512 (cntO 0 2) = 512 from rfl, hp]
    have u3 : unI 0 512 512 512 3 = 0 := by unfold unI; rw [if_neg (by omega), show pk 512 512 512 (cntO 0 3) = 512 from rfl, hp]
    rw [u0, u1, u2, u3]
  rw [e, hB] at h
  exact h
theorem pack_example (w : World) : Calls Try.prog 27 #[.agg #[.int .i32 1073741824, .int .i32 0, .int .i32 0, .int .i32 0]] w fun e w' => e = .returned (.tuple #[.int .u32 537395712, .bool true]) ∧ Below w.heap.size w w' := by
  have z : I32 0 := by unfold I32; omega
  have h := s_Pack 1073741824 0 0 0 w (by unfold I32; omega) z z z (by decide +kernel)
  have e1 : joinV widL (packL 1073741824 0 0 0 (farI 1073741824 0 0 0) (upK 3)) = 537395712 := by decide +kernel
  have e2 : joinB widL (packL 1073741824 0 0 0 (farI 1073741824 0 0 0) (upK 3)) = true := by decide +kernel
  rw [e1, e2] at h
  exact h
theorem law12_knows (w : World) :
    Calls Try.prog 29 #[] w fun e w' => e = .returned (.bool true) ∧ Below w.heap.size w w' := by
  have H1 := hid pack_example
  have H2 := hid unp_example
  go_enter Try.func29, Try.ntmps29
  go_wp2_with fail
  refine (H1.out _).mono ?_
  rintro e w1 ⟨rfl, b1⟩
  go_wp2_with fail
  refine (H2.out _).mono ?_
  rintro e w2 ⟨rfl, b2⟩
  replace b2 := below12 b1 b2
  have hA := Blk.new w2 23 #[.int .i32 1073741824, .int .i32 0, .int .i32 0, .int .i32 0]
  replace b2 := b2.alloc b2.size (.cells #[.int .i32 1073741824, .int .i32 0, .int .i32 0, .int .i32 0] 23)
  have c0 : (w2.alloc (.cells #[.int .i32 1073741824, .int .i32 0, .int .i32 0, .int .i32 0] 23)).cell? ⟨w2.heap.size, 0, none⟩ = some (.int .i32 1073741824) := hA.cell 0
  have c1 : (w2.alloc (.cells #[.int .i32 1073741824, .int .i32 0, .int .i32 0, .int .i32 0] 23)).cell? ⟨w2.heap.size, 1, none⟩ = some (.int .i32 0) := hA.cell 1
  have c2 : (w2.alloc (.cells #[.int .i32 1073741824, .int .i32 0, .int .i32 0, .int .i32 0] 23)).cell? ⟨w2.heap.size, 2, none⟩ = some (.int .i32 0) := hA.cell 2
  have c3 : (w2.alloc (.cells #[.int .i32 1073741824, .int .i32 0, .int .i32 0, .int .i32 0] 23)).cell? ⟨w2.heap.size, 3, none⟩ = some (.int .i32 0) := hA.cell 3
  go_wp2
  go_ret
  exact ⟨rfl, b2⟩

theorem pack_facts (q0 q1 q2 q3 : Int) (iq0 : I32 q0) (iq1 : I32 q1) (iq2 : I32 q2) (iq3 : I32 q3) : ∃ (P : Int),
    (∀ w, Calls Try.prog 27 #[.agg #[.int .i32 q0, .int .i32 q1, .int .i32 q2, .int .i32 q3]] w (Ends (.tuple #[.int .u32 P, .bool (isP (sqP [q0, q1, q2, q3]))]) w)) ∧
    (∀ w, Calls Try.prog 28 #[.agg #[.int .i32 q0, .int .i32 q1, .int .i32 q2, .int .i32 q3]] w (Ends (.tuple #[.int .u32 P, .bool (isP (sqP [q0, q1, q2, q3]))]) w)) := by
  cases hu : isP (sqP [q0, q1, q2, q3])
  · exact ⟨0, fun w => s_PackN q0 q1 q2 q3 w iq0 iq1 iq2 iq3 hu, fun w => r12_PackN q0 q1 q2 q3 w iq0 iq1 iq2 iq3 hu⟩
  · obtain ⟨b, p1, p2, p3, u, c⟩ := close_law q0 q1 q2 q3 iq0 iq1 iq2 iq3 hu
    have h1 := fun w => s_Pack q0 q1 q2 q3 w iq0 iq1 iq2 iq3 hu
    rw [c.2.2.2.2.2.2.2.1] at h1
    exact ⟨_, h1, fun w => r12_Pack q0 q1 q2 q3 w iq0 iq1 iq2 iq3 hu⟩
theorem smallPacks_walk (q0 q1 q2 q3 : Int) (w : World) (v0 : (Lit.int .i32 q0).wf = true) (v1 : (Lit.int .i32 q1).wf = true) (v2 : (Lit.int .i32 q2).wf = true) (v3 : (Lit.int .i32 q3).wf = true) :
    Calls Try.prog 7 #[.agg #[.int .i32 q0, .int .i32 q1, .int .i32 q2, .int .i32 q3]] w fun e w' => e = .returned (.bool true) ∧ Below w.heap.size w w' := by
  obtain ⟨P, h1, h2⟩ := pack_facts q0 q1 q2 q3 (bounds_i32 v0) (bounds_i32 v1) (bounds_i32 v2) (bounds_i32 v3)
  clear v0 v1 v2 v3
  generalize isP (sqP [q0, q1, q2, q3]) = B at *
  have H1 := hid h1
  have H2 := hid h2
  have HK := hid law12_knows
  clear h1 h2
  go_enter Try.func7, Try.ntmps7
  have hq := Blk.new w 23 #[.int .i32 q0, .int .i32 q1, .int .i32 q2, .int .i32 q3]
  have hb := (Below.refl w.heap.size w).alloc (Nat.le_refl _) (.cells #[.int .i32 q0, .int .i32 q1, .int .i32 q2, .int .i32 q3] 23)
  have f0 : (w.alloc (.cells #[.int .i32 q0, .int .i32 q1, .int .i32 q2, .int .i32 q3] 23)).cell? ⟨w.heap.size, 0, none⟩ = some (.int .i32 q0) := hq.cell 0
  have f1 : (w.alloc (.cells #[.int .i32 q0, .int .i32 q1, .int .i32 q2, .int .i32 q3] 23)).cell? ⟨w.heap.size, 1, none⟩ = some (.int .i32 q1) := hq.cell 1
  have f2 : (w.alloc (.cells #[.int .i32 q0, .int .i32 q1, .int .i32 q2, .int .i32 q3] 23)).cell? ⟨w.heap.size, 2, none⟩ = some (.int .i32 q2) := hq.cell 2
  have f3 : (w.alloc (.cells #[.int .i32 q0, .int .i32 q1, .int .i32 q2, .int .i32 q3] 23)).cell? ⟨w.heap.size, 3, none⟩ = some (.int .i32 q3) := hq.cell 3
  go_wp2_with fail
  clear f0 f1 f2 f3
  generalize w.alloc (.cells #[.int .i32 q0, .int .i32 q1, .int .i32 q2, .int .i32 q3] 23) = W0 at *
  refine (H1.out _).mono ?_
  rintro e w1 ⟨rfl, b1⟩
  replace hq := hq.below b1 hq.lt
  replace hb := below12 hb b1
  have f0 : (w1).cell? ⟨w.heap.size, 0, none⟩ = some (.int .i32 q0) := hq.cell 0
  have f1 : (w1).cell? ⟨w.heap.size, 1, none⟩ = some (.int .i32 q1) := hq.cell 1
  have f2 : (w1).cell? ⟨w.heap.size, 2, none⟩ = some (.int .i32 q2) := hq.cell 2
  have f3 : (w1).cell? ⟨w.heap.size, 3, none⟩ = some (.int .i32 q3) := hq.cell 3
  go_wp2_with fail
  refine (H2.out _).mono ?_
  rintro e w2 ⟨rfl, b2⟩
  replace hb := below12 hb b2
  have pp : (P == P) = true := by simp
  have bb : (B == B) = true := by simp
  go_wp2_with fail
  refine (HK.out _).mono ?_
  rintro e w3 ⟨rfl, b3⟩
  go_wp2
  go_ret
  exact ⟨rfl, below12 hb b3⟩

theorem smallUnpacks_walk (u : Int) (w : World) (v0 : (Lit.int .u32 u).wf = true) :
    Calls Try.prog 8 #[.int .u32 u] w fun e w' => e = .returned (.bool true) ∧ Below w.heap.size w w' := by
  have hu : 0 ≤ u ∧ u ≤ 4294967295 := bounds_u32 v0
  obtain ⟨V0, V1, V2, V3, B, h1, h2, -, -⟩ := unp_facts u hu
  clear v0
  have H1 := hid h1
  have H2 := hid h2
  have HK := hid law12_knows
  clear h1 h2 hu
  go_enter Try.func8, Try.ntmps8
  go_wp2_with fail
  refine (H1.out _).mono ?_
  rintro e w1 ⟨rfl, hb⟩
  have hq := Blk.new w1 23 #[.int .i32 V0, .int .i32 V1, .int .i32 V2, .int .i32 V3]
  have hlt := hb.size
  replace hb := hb.alloc hb.size (.cells #[.int .i32 V0, .int .i32 V1, .int .i32 V2, .int .i32 V3] 23)
  go_wp2_with fail
  generalize w1.alloc (.cells #[.int .i32 V0, .int .i32 V1, .int .i32 V2, .int .i32 V3] 23) = W1 at *
  generalize w1.heap.size = g1 at *
  refine (H2.out _).mono ?_
  rintro e w2 ⟨rfl, b2⟩
  have hq2 := Blk.new w2 23 #[.int .i32 V0, .int .i32 V1, .int .i32 V2, .int .i32 V3]
  replace hq := (hq.below b2 hq.lt).alloc (.cells #[.int .i32 V0, .int .i32 V1, .int .i32 V2, .int .i32 V3] 23)
  replace hb := below12 hb b2
  replace hb := hb.alloc hb.size (.cells #[.int .i32 V0, .int .i32 V1, .int .i32 V2, .int .i32 V3] 23)
  have bb : (B == B) = true := by simp
  have f0 : (w2.alloc (.cells #[.int .i32 V0, .int .i32 V1, .int .i32 V2, .int .i32 V3] 23)).cell? ⟨g1, 0, none⟩ = some (.int .i32 V0) := hq.cell 0
  have f1 : (w2.alloc (.cells #[.int .i32 V0, .int .i32 V1, .int .i32 V2, .int .i32 V3] 23)).cell? ⟨g1, 1, none⟩ = some (.int .i32 V1) := hq.cell 1
  have f2 : (w2.alloc (.cells #[.int .i32 V0, .int .i32 V1, .int .i32 V2, .int .i32 V3] 23)).cell? ⟨g1, 2, none⟩ = some (.int .i32 V2) := hq.cell 2
  have f3 : (w2.alloc (.cells #[.int .i32 V0, .int .i32 V1, .int .i32 V2, .int .i32 V3] 23)).cell? ⟨g1, 3, none⟩ = some (.int .i32 V3) := hq.cell 3
  have k0 : (w2.alloc (.cells #[.int .i32 V0, .int .i32 V1, .int .i32 V2, .int .i32 V3] 23)).cell? ⟨w2.heap.size, 0, none⟩ = some (.int .i32 V0) := hq2.cell 0
  have k1 : (w2.alloc (.cells #[.int .i32 V0, .int .i32 V1, .int .i32 V2, .int .i32 V3] 23)).cell? ⟨w2.heap.size, 1, none⟩ = some (.int .i32 V1) := hq2.cell 1
  have k2 : (w2.alloc (.cells #[.int .i32 V0, .int .i32 V1, .int .i32 V2, .int .i32 V3] 23)).cell? ⟨w2.heap.size, 2, none⟩ = some (.int .i32 V2) := hq2.cell 2
  have k3 : (w2.alloc (.cells #[.int .i32 V0, .int .i32 V1, .int .i32 V2, .int .i32 V3] 23)).cell? ⟨w2.heap.size, 3, none⟩ = some (.int .i32 V3) := hq2.cell 3
  go_wp2_with fail
  refine (HK.out _).mono ?_
  rintro e w3 ⟨rfl, b3⟩
  go_wp2
  go_ret
  exact ⟨rfl, below12 hb b3⟩
theorem smallNorm_walk (u : Int) (w : World) (v0 : (Lit.int .u32 u).wf = true) :
    Calls Try.prog 10 #[.int .u32 u] w fun e w' => e = .returned (.bool true) ∧ Below w.heap.size w w' := by
  have hu : 0 ≤ u ∧ u ≤ 4294967295 := bounds_u32 v0
  obtain ⟨V0, V1, V2, V3, B, h1, -, h3, h4⟩ := unp_facts u hu
  clear v0
  have H1 := hid h1
  have HK := hid law12_knows
  clear h1 hu
  cases B
  · obtain ⟨rfl, rfl, rfl, rfl⟩ := h3 rfl
    clear h3 h4
    go_enter Try.func10, Try.ntmps10
    go_wp2_with fail
    refine (H1.out _).mono ?_
    rintro e w1 ⟨rfl, hb⟩
    have hq := Blk.new w1 23 #[.int .i32 0, .int .i32 0, .int .i32 0, .int .i32 0]
    replace hb := hb.alloc hb.size (.cells #[.int .i32 0, .int .i32 0, .int .i32 0, .int .i32 0] 23)
    have f0 : (w1.alloc (.cells #[.int .i32 0, .int .i32 0, .int .i32 0, .int .i32 0] 23)).cell? ⟨w1.heap.size, 0, none⟩ = some (.int .i32 0) := hq.cell 0
    have f1 : (w1.alloc (.cells #[.int .i32 0, .int .i32 0, .int .i32 0, .int .i32 0] 23)).cell? ⟨w1.heap.size, 1, none⟩ = some (.int .i32 0) := hq.cell 1
    have f2 : (w1.alloc (.cells #[.int .i32 0, .int .i32 0, .int .i32 0, .int .i32 0] 23)).cell? ⟨w1.heap.size, 2, none⟩ = some (.int .i32 0) := hq.cell 2
    have f3 : (w1.alloc (.cells #[.int .i32 0, .int .i32 0, .int .i32 0, .int .i32 0] 23)).cell? ⟨w1.heap.size, 3, none⟩ = some (.int .i32 0) := hq.cell 3
    go_wp2_with fail
    refine (HK.out _).mono ?_
    rintro e w3 ⟨rfl, b3⟩
    go_wp2
    go_ret
    exact ⟨rfl, below12 hb b3⟩
  · obtain ⟨i0, i1, i2, i3, n1, n2⟩ := h4 rfl
    clear h3 h4
    have HN := hid fun w => r10_Norm V0 V1 V2 V3 w i0 i1 i2 i3
    have hi : isP (sqP [V0, V1, V2, V3]) = true := by unfold isP offP; simp; split <;> omega
    obtain ⟨P, h5, -⟩ := pack_facts V0 V1 V2 V3 i0 i1 i2 i3
    rw [hi] at h5
    have H5 := hid h5
    clear h5 hi i0 i1 i2 i3
    have n3 : 0 ≤ sqP [V0, V1, V2, V3] := by omega
    generalize sqP [V0, V1, V2, V3] = S at *
    have d1 : decide (S ≤ 1152921504606846976) = true := by simpa using n1
    have d2 : decide (1152921502459363328 ≤ S) = true := by simpa using n2
    go_enter Try.func10, Try.ntmps10
    go_wp2_with fail
    refine (H1.out _).mono ?_
    rintro e w1 ⟨rfl, hb⟩
    have hq := Blk.new w1 23 #[.int .i32 V0, .int .i32 V1, .int .i32 V2, .int .i32 V3]
    replace hb := hb.alloc hb.size (.cells #[.int .i32 V0, .int .i32 V1, .int .i32 V2, .int .i32 V3] 23)
    have f0 : (w1.alloc (.cells #[.int .i32 V0, .int .i32 V1, .int .i32 V2, .int .i32 V3] 23)).cell? ⟨w1.heap.size, 0, none⟩ = some (.int .i32 V0) := hq.cell 0
    have f1 : (w1.alloc (.cells #[.int .i32 V0, .int .i32 V1, .int .i32 V2, .int .i32 V3] 23)).cell? ⟨w1.heap.size, 1, none⟩ = some (.int .i32 V1) := hq.cell 1
    have f2 : (w1.alloc (.cells #[.int .i32 V0, .int .i32 V1, .int .i32 V2, .int .i32 V3] 23)).cell? ⟨w1.heap.size, 2, none⟩ = some (.int .i32 V2) := hq.cell 2
    have f3 : (w1.alloc (.cells #[.int .i32 V0, .int .i32 V1, .int .i32 V2, .int .i32 V3] 23)).cell? ⟨w1.heap.size, 3, none⟩ = some (.int .i32 V3) := hq.cell 3
    go_wp2_with fail
    clear f0 f1 f2 f3
    generalize w1.alloc (.cells #[.int .i32 V0, .int .i32 V1, .int .i32 V2, .int .i32 V3] 23) = W1 at *
    generalize w1.heap.size = g1 at *
    refine (HN.out _).mono ?_
    rintro e w2 ⟨rfl, b2⟩
    replace hq := hq.below b2 hq.lt
    replace hb := below12 hb b2
    have f0 : (w2).cell? ⟨g1, 0, none⟩ = some (.int .i32 V0) := hq.cell 0
    have f1 : (w2).cell? ⟨g1, 1, none⟩ = some (.int .i32 V1) := hq.cell 1
    have f2 : (w2).cell? ⟨g1, 2, none⟩ = some (.int .i32 V2) := hq.cell 2
    have f3 : (w2).cell? ⟨g1, 3, none⟩ = some (.int .i32 V3) := hq.cell 3
    go_wp2_with fail
    refine (H5.out _).mono ?_
    rintro e w3 ⟨rfl, b3⟩
    replace hb := below12 hb b3
    go_wp2_with fail
    refine (HK.out _).mono ?_
    rintro e w4 ⟨rfl, b4⟩
    go_wp2
    go_ret
    exact ⟨rfl, below12 hb b4⟩
end Go.Proofs.Ytfogjfmpgfcolaa
