/- Chapter 12: the walk of SmallClose. -/
import Derived.Test.YtfogjfmpgfcolaaSmallI
namespace Go.Proofs.Ytfogjfmpgfcolaa
open Go.RowKit
set_option linter.unusedVariables false
set_option linter.unusedSimpArgs false
attribute [local go_sem] Oper.semAt_some

def wiB (a b c : Int) : Bool := decide (a - b ≤ c) && decide (-c ≤ a - b)
theorem l12_within (a b c : Int) (w : World) (ia : I32 a) (ib : I32 b) (hc : 0 ≤ c ∧ c ≤ 4194304) :
    Calls Try.prog 33 #[.int .i32 a, .int .i32 b, .int .i64 c] w fun e w' => e = .returned (.bool (wiB a b c)) ∧ w = w' := by
  unfold I32 at ia ib
  have HW : Hid (wiB a b c = (decide (a - b ≤ c) && decide (-c ≤ a - b))) := rfl
  by_cases g : a - b ≤ c
  · by_cases g2 : -c ≤ a - b
    · have HB : Hid (wiB a b c = true) := hid (by unfold wiB; simp; omega)
      go_enter Try.func33, Try.ntmps33
      go_wp2
      go_ret
      exact ⟨by rw [HB.out]; rfl, rfl⟩
    · have HB : Hid (wiB a b c = false) := hid (by unfold wiB; simp; omega)
      go_enter Try.func33, Try.ntmps33
      go_wp2
      go_ret
      exact ⟨by rw [HB.out]; rfl, rfl⟩
  · have HB : Hid (wiB a b c = false) := hid (by unfold wiB; simp; omega)
    go_enter Try.func33, Try.ntmps33
    go_wp2
    go_ret
    exact ⟨by rw [HB.out]; rfl, rfl⟩
set_option maxRecDepth 20000 in
set_option maxHeartbeats 8000000 in
theorem smallClose_walk (q0 q1 q2 q3 : Int) (w : World) (v0 : (Lit.int .i32 q0).wf = true) (v1 : (Lit.int .i32 q1).wf = true) (v2 : (Lit.int .i32 q2).wf = true) (v3 : (Lit.int .i32 q3).wf = true) :
    Calls Try.prog 9 #[.agg #[.int .i32 q0, .int .i32 q1, .int .i32 q2, .int .i32 q3]] w fun e w' => e = .returned (.bool true) ∧ Below w.heap.size w w' := by
  have iq0 := bounds_i32 v0
  have iq1 := bounds_i32 v1
  have iq2 := bounds_i32 v2
  have iq3 := bounds_i32 v3
  clear v0 v1 v2 v3
  have HI := hid fun w => r11_Is q0 q1 q2 q3 w iq0 iq1 iq2 iq3
  have HK := hid law12_knows
  cases hu : isP (sqP [q0, q1, q2, q3])
  · have H1 := hid fun w => s_PackN q0 q1 q2 q3 w iq0 iq1 iq2 iq3 hu
    rw [hu] at HI
    clear hu iq0 iq1 iq2 iq3
    go_enter Try.func9, Try.ntmps9
    have hq := Blk.new w 23 #[.int .i32 q0, .int .i32 q1, .int .i32 q2, .int .i32 q3]
    have hb := (Below.refl w.heap.size w).alloc (Nat.le_refl _) (.cells #[.int .i32 q0, .int .i32 q1, .int .i32 q2, .int .i32 q3] 23)
    have f0 : (w.alloc (.cells #[.int .i32 q0, .int .i32 q1, .int .i32 q2, .int .i32 q3] 23)).cell? ⟨w.heap.size, 0, none⟩ = some (.int .i32 q0) := hq.cell 0
    have f1 : (w.alloc (.cells #[.int .i32 q0, .int .i32 q1, .int .i32 q2, .int .i32 q3] 23)).cell? ⟨w.heap.size, 1, none⟩ = some (.int .i32 q1) := hq.cell 1
    have f2 : (w.alloc (.cells #[.int .i32 q0, .int .i32 q1, .int .i32 q2, .int .i32 q3] 23)).cell? ⟨w.heap.size, 2, none⟩ = some (.int .i32 q2) := hq.cell 2
    have f3 : (w.alloc (.cells #[.int .i32 q0, .int .i32 q1, .int .i32 q2, .int .i32 q3] 23)).cell? ⟨w.heap.size, 3, none⟩ = some (.int .i32 q3) := hq.cell 3
    go_wp2_with fail
    clear f0 f1 f2 f3
    generalize w.alloc (.cells #[.int .i32 q0, .int .i32 q1, .int .i32 q2, .int .i32 q3] 23) = W0 at *
    refine (H1.out _).mono ?_
    rintro e w1 ⟨rfl, b1⟩
    replace hq := hq.below b1 hq.lt
    replace hb := below12 hb b1
    have f0 : (w1).cell? ⟨w.heap.size, 0, none⟩ = some (.int .i32 q0) := hq.cell 0
    have f1 : (w1).cell? ⟨w.heap.size, 1, none⟩ = some (.int .i32 q1) := hq.cell 1
    have f2 : (w1).cell? ⟨w.heap.size, 2, none⟩ = some (.int .i32 q2) := hq.cell 2
    have f3 : (w1).cell? ⟨w.heap.size, 3, none⟩ = some (.int .i32 q3) := hq.cell 3
    go_wp2_with fail
    clear f0 f1 f2 f3
    refine (HI.out _).mono ?_
    rintro e w2 ⟨rfl, b2⟩
    replace hq := hq.below b2 hq.lt
    replace hb := below12 hb b2
    have f0 : (w2).cell? ⟨w.heap.size, 0, none⟩ = some (.int .i32 q0) := hq.cell 0
    have f1 : (w2).cell? ⟨w.heap.size, 1, none⟩ = some (.int .i32 q1) := hq.cell 1
    have f2 : (w2).cell? ⟨w.heap.size, 2, none⟩ = some (.int .i32 q2) := hq.cell 2
    have f3 : (w2).cell? ⟨w.heap.size, 3, none⟩ = some (.int .i32 q3) := hq.cell 3
    go_wp2_with fail
    clear f0 f1 f2 f3
    refine (HI.out _).mono ?_
    rintro e w3 ⟨rfl, b3⟩
    replace hb := below12 hb b3
    go_wp2_with fail
    refine (HK.out _).mono ?_
    rintro e w4 ⟨rfl, b4⟩
    go_wp2
    go_ret
    exact ⟨rfl, below12 hb b4⟩
  · obtain ⟨b, p1, p2, p3, u, hb4, hfb, h1, h2, h3, hu3, hj1, hj2, hu0, hsp, hub, hB, hcl, hbig⟩ := close_law q0 q1 q2 q3 iq0 iq1 iq2 iq3 hu
    have H1 := hid fun w => s_Pack q0 q1 q2 q3 w iq0 iq1 iq2 iq3 hu
    rw [hj1, hj2] at H1
    rw [hu] at HI
    have H2 := hid fun w => s_Unpack u p1 p2 p3 b w hu3 hb4 h1 h2 h3 hsp
    have e : unV b p1 p2 p3 = #[.int .i32 (unI b p1 p2 p3 0), .int .i32 (unI b p1 p2 p3 1), .int .i32 (unI b p1 p2 p3 2), .int .i32 (unI b p1 p2 p3 3)] := by unfold unV; rw [if_pos hB, unC_unI b p1 p2 p3 hb4]
    rw [e, hB] at H2
    have hlA : ∀ j, j < 4 → #[Value.int .i32 q0, .int .i32 q1, .int .i32 q2, .int .i32 q3][j]? = some (.int .i32 (lAt q0 q1 q2 q3 j)) := fun j hj => (lAt_in q0 q1 q2 q3 iq0 iq1 iq2 iq3 j hj).1
    have hlU : ∀ j, j < 4 → #[Value.int .i32 (unI b p1 p2 p3 0), .int .i32 (unI b p1 p2 p3 1), .int .i32 (unI b p1 p2 p3 2), .int .i32 (unI b p1 p2 p3 3)][j]? = some (.int .i32 (unI b p1 p2 p3 j)) := fun j hj => by
      obtain rfl | rfl | rfl | rfl : j = 0 ∨ j = 1 ∨ j = 2 ∨ j = 3 := by omega
      all_goals rfl
    generalize hU : (fun i => unI b p1 p2 p3 i) = U at *
    have hU' : ∀ i, unI b p1 p2 p3 i = U i := fun i => by rw [← hU]
    simp only [hU'] at H2 hlU hcl
    generalize hV0 : U 0 = V0 at *
    generalize hV1 : U 1 = V1 at *
    generalize hV2 : U 2 = V2 at *
    generalize hV3 : U 3 = V3 at *
    generalize hL : (fun i => lAt q0 q1 q2 q3 i) = L at *
    have hL' : ∀ i, lAt q0 q1 q2 q3 i = L i := fun i => by rw [← hL]
    simp only [hL'] at hlA hcl hbig
    have HL := hid hlA
    have HU := hid hlU
    have HC := hid hcl
    have HG := hid hbig
    have hbd := hid (show L b < 0 ∨ ¬ L b < 0 by omega)
    obtain ⟨lb, hlb⟩ : ∃ x, L b = x := ⟨_, rfl⟩
    have hbc := hlA b hb4
    rw [hlb] at hbc hbd
    have HLB := hid hlb
    clear hU hU' hV0 hV1 hV2 hV3 hL hL' hlA hlU hcl hbig hlb e hsp hB h1 h2 h3 hj1 hj2 hfb iq0 iq1 iq2 iq3 hu
    have ut : u.tdiv 1073741824 = (b : Int) := by rw [Int.tdiv_eq_ediv_of_nonneg hu3.1]; exact hub
    have ub : IntKind.i64.wrap (b : Int) = (b : Int) := IntWalk.i64_in _ (by omega)
    have u32b : IntKind.u32.wrap (b : Int) = (b : Int) := by simp [IntKind.wrap_u32]; omega
    have hbA := hbc
    go_enter Try.func9, Try.ntmps9
    have hq := Blk.new w 23 #[.int .i32 q0, .int .i32 q1, .int .i32 q2, .int .i32 q3]
    have hb := (Below.refl w.heap.size w).alloc (Nat.le_refl _) (.cells #[.int .i32 q0, .int .i32 q1, .int .i32 q2, .int .i32 q3] 23)
    have f0 : (w.alloc (.cells #[.int .i32 q0, .int .i32 q1, .int .i32 q2, .int .i32 q3] 23)).cell? ⟨w.heap.size, 0, none⟩ = some (.int .i32 q0) := hq.cell 0
    have f1 : (w.alloc (.cells #[.int .i32 q0, .int .i32 q1, .int .i32 q2, .int .i32 q3] 23)).cell? ⟨w.heap.size, 1, none⟩ = some (.int .i32 q1) := hq.cell 1
    have f2 : (w.alloc (.cells #[.int .i32 q0, .int .i32 q1, .int .i32 q2, .int .i32 q3] 23)).cell? ⟨w.heap.size, 2, none⟩ = some (.int .i32 q2) := hq.cell 2
    have f3 : (w.alloc (.cells #[.int .i32 q0, .int .i32 q1, .int .i32 q2, .int .i32 q3] 23)).cell? ⟨w.heap.size, 3, none⟩ = some (.int .i32 q3) := hq.cell 3
    go_wp2_with fail
    clear f0 f1 f2 f3
    generalize w.alloc (.cells #[.int .i32 q0, .int .i32 q1, .int .i32 q2, .int .i32 q3] 23) = W0 at *
    refine (H1.out _).mono ?_
    rintro e w1 ⟨rfl, b1⟩
    replace hq := hq.below b1 hq.lt
    replace hb := below12 hb b1
    have f0 : (w1).cell? ⟨w.heap.size, 0, none⟩ = some (.int .i32 q0) := hq.cell 0
    have f1 : (w1).cell? ⟨w.heap.size, 1, none⟩ = some (.int .i32 q1) := hq.cell 1
    have f2 : (w1).cell? ⟨w.heap.size, 2, none⟩ = some (.int .i32 q2) := hq.cell 2
    have f3 : (w1).cell? ⟨w.heap.size, 3, none⟩ = some (.int .i32 q3) := hq.cell 3
    go_wp2_with fail
    clear f0 f1 f2 f3
    refine (HI.out _).mono ?_
    rintro e w2 ⟨rfl, b2⟩
    replace hq := hq.below b2 hq.lt
    replace hb := below12 hb b2
    go_wp2_with fail
    refine (HK.out _).mono ?_
    rintro e w3 ⟨rfl, b3⟩
    replace hq := hq.below b3 hq.lt
    replace hb := below12 hb b3
    go_wp2_with fail
    refine (H2.out _).mono ?_
    rintro e w4 ⟨rfl, b4⟩
    have hq4 := hq.below b4 hq.lt
    replace hq := hq4.alloc (.cells #[.int .i32 V0, .int .i32 V1, .int .i32 V2, .int .i32 V3] 23)
    replace hb := below12 hb b4
    have hv := Blk.new w4 23 #[.int .i32 V0, .int .i32 V1, .int .i32 V2, .int .i32 V3]
    have hs4 := hq4.lt
    have hb5 := hb.alloc hb.size (.cells #[.int .i32 V0, .int .i32 V1, .int .i32 V2, .int .i32 V3] 23)
    go_upto_region 7 with fail
    have hs5 : (w4.alloc (.cells #[.int .i32 V0, .int .i32 V1, .int .i32 V2, .int .i32 V3] 23)).heap.size = w4.heap.size + 1 := by simp
    generalize w4.alloc (.cells #[.int .i32 V0, .int .i32 V1, .int .i32 V2, .int .i32 V3] 23) = W5 at *
    generalize w4.heap.size = g5 at *
    have hw0 := hb.size
    clear hb hq4
    have hq6 := hq.alloc (.cells #[.int .i32 q0, .int .i32 q1, .int .i32 q2, .int .i32 q3] 50)
    have hv6 := hv.alloc (.cells #[.int .i32 q0, .int .i32 q1, .int .i32 q2, .int .i32 q3] 50)
    have ha6 := Blk.new W5 50 #[.int .i32 q0, .int .i32 q1, .int .i32 q2, .int .i32 q3]
    have ha7 := ha6.alloc (.cells #[.int .i32 V0, .int .i32 V1, .int .i32 V2, .int .i32 V3] 50)
    have hu7 := Blk.new (W5.alloc (.cells #[.int .i32 q0, .int .i32 q1, .int .i32 q2, .int .i32 q3] 50)) 50 #[.int .i32 V0, .int .i32 V1, .int .i32 V2, .int .i32 V3]
    simp only [World.size_alloc] at hu7
    have hb7 := (hb5.alloc hb5.size (.cells #[.int .i32 q0, .int .i32 q1, .int .i32 q2, .int .i32 q3] 50)).alloc (by simp; omega) (.cells #[.int .i32 V0, .int .i32 V1, .int .i32 V2, .int .i32 V3] 50)
    have f0 : (W5).cell? ⟨w.heap.size, 0, none⟩ = some (.int .i32 q0) := hq.cell 0
    have f1 : (W5).cell? ⟨w.heap.size, 1, none⟩ = some (.int .i32 q1) := hq.cell 1
    have f2 : (W5).cell? ⟨w.heap.size, 2, none⟩ = some (.int .i32 q2) := hq.cell 2
    have f3 : (W5).cell? ⟨w.heap.size, 3, none⟩ = some (.int .i32 q3) := hq.cell 3
    have k0 : (W5.alloc (.cells #[.int .i32 q0, .int .i32 q1, .int .i32 q2, .int .i32 q3] 50)).cell? ⟨g5, 0, none⟩ = some (.int .i32 V0) := hv6.cell 0
    have k1 : (W5.alloc (.cells #[.int .i32 q0, .int .i32 q1, .int .i32 q2, .int .i32 q3] 50)).cell? ⟨g5, 1, none⟩ = some (.int .i32 V1) := hv6.cell 1
    have k2 : (W5.alloc (.cells #[.int .i32 q0, .int .i32 q1, .int .i32 q2, .int .i32 q3] 50)).cell? ⟨g5, 2, none⟩ = some (.int .i32 V2) := hv6.cell 2
    have k3 : (W5.alloc (.cells #[.int .i32 q0, .int .i32 q1, .int .i32 q2, .int .i32 q3] 50)).cell? ⟨g5, 3, none⟩ = some (.int .i32 V3) := hv6.cell 3
    go_wp2_with fail
    clear f0 f1 f2 f3 k0 k1 k2 k3 hq6 hv6 ha6 hq hv hb5
    generalize (W5.alloc (.cells #[.int .i32 q0, .int .i32 q1, .int .i32 q2, .int .i32 q3] 50)).alloc (.cells #[.int .i32 V0, .int .i32 V1, .int .i32 V2, .int .i32 V3] 50) = W7 at *
    rw [hs5] at ha7 hu7
    clear hs5
    have dL : W7.cell? ⟨g5 + 1, b, none⟩ = some (.int .i32 lb) := (ha7.cell b).trans hbc
    have i1 : (0 : Int) ≤ (b : Int) := by omega
    have i2 : (b : Int) < 4 := by omega
    go_loop [10] (fun vi => ∃ j : Nat, j ≤ 4 ∧ vi = .int .i64 j) (fun vi => 4 - (intOf vi).toNat)
    case atStart => exact ⟨0, by omega, rfl⟩
    case round =>
      obtain ⟨j, hj, rfl⟩ := hrel
      by_cases hlt : j < 4
      · have cj : W7.cell? ⟨g5 + 1, j, none⟩ = some (.int .i32 (L j)) := (ha7.cell j).trans (HL.out j hlt)
        have cu : W7.cell? ⟨g5 + 1 + 1, j, none⟩ = some (.int .i32 (U j)) := (hu7.cell j).trans (HU.out j hlt)
        have hg := HG.out j hlt
        obtain ⟨c1, c2⟩ := HC.out j hlt
        rw [HLB.out] at c1 c2
        have k1 : (0 : Int) ≤ (j : Int) := by omega
        have k2 : (j : Int) < 4 := by omega
        have ej : IntKind.i64.wrap ((j : Int) + 1) = ((j + 1 : Nat) : Int) := (IntWalk.i64_in _ (by omega)).trans (by omega)
        have mj : 4 - (j + 1) < 4 - j := by omega
        obtain ⟨y, hy⟩ : ∃ y, L j = y := ⟨_, rfl⟩
        obtain ⟨z, hz⟩ : ∃ z, U j = z := ⟨_, rfl⟩
        rw [hy] at cj hg c1 c2
        have HY := hid hy
        rw [hz] at cu c1 c2
        clear hy hz
        have un : IntKind.i32.wrap (-y) = -y := IntWalk.i32_in _ (by omega)
        have iz : I32 z := by unfold sgnX at c1; unfold I32; split at c1 <;> omega
        rcases hbd.out with hn | hn
        · have dl : decide (lb < 0) = true := by simp; omega
          have sx : sgnX lb y = -y := if_pos (by omega)
          rw [sx] at c1 c2
          have HW1 := hid fun w => l12_within (-y) z 1048576 w (by unfold I32; omega) iz (by omega)
          have HW2 := hid fun w => l12_within (-y) z 4194304 w (by unfold I32; omega) iz (by omega)
          have t2 : wiB (-y) z 4194304 = true := by unfold wiB; simp; omega
          rw [t2] at HW2
          by_cases ht : wiB (-y) z 1048576 = true
          · rw [ht] at HW1
            clear ht t2 c1 c2 sx hn
            go_wp2_with fail
            refine (HW1.out _).mono ?_
            rintro e w' ⟨rfl, rfl⟩
            go_wp2_with fail
            go_round
            case rel => exact ⟨j + 1, by omega, rfl⟩
            case measure => simpa [intOf] using mj
          · have hjb : j = b := by
              apply Classical.byContradiction
              intro hne
              have := c2 hne
              exact ht (by unfold wiB; simp; omega)
            obtain rfl : y = lb := by rw [← HY.out, ← HLB.out, hjb]
            subst hjb
            have ht' : wiB (-y) z 1048576 = false := by simpa using ht
            rw [ht'] at HW1
            clear ht ht' t2 c1 c2 sx hn
            have dn : decide ((j : Int) = (j : Int)) = true := by simp
            go_wp2_with fail
            refine (HW1.out _).mono ?_
            rintro e w' ⟨rfl, rfl⟩
            go_wp2_with fail
            refine (HW2.out _).mono ?_
            rintro e w' ⟨rfl, rfl⟩
            go_wp2_with fail
            go_round
            case rel => exact ⟨j + 1, by omega, rfl⟩
            case measure => simpa [intOf] using mj
        · have dl : decide (lb < 0) = false := by simp; omega
          have sx : sgnX lb y = y := if_neg (by omega)
          rw [sx] at c1 c2
          have HW1 := hid fun w => l12_within (y) z 1048576 w (by unfold I32; omega) iz (by omega)
          have HW2 := hid fun w => l12_within (y) z 4194304 w (by unfold I32; omega) iz (by omega)
          have t2 : wiB (y) z 4194304 = true := by unfold wiB; simp; omega
          rw [t2] at HW2
          by_cases ht : wiB (y) z 1048576 = true
          · rw [ht] at HW1
            clear ht t2 c1 c2 sx hn
            go_wp2_with fail
            refine (HW1.out _).mono ?_
            rintro e w' ⟨rfl, rfl⟩
            go_wp2_with fail
            go_round
            case rel => exact ⟨j + 1, by omega, rfl⟩
            case measure => simpa [intOf] using mj
          · have hjb : j = b := by
              apply Classical.byContradiction
              intro hne
              have := c2 hne
              exact ht (by unfold wiB; simp; omega)
            obtain rfl : y = lb := by rw [← HY.out, ← HLB.out, hjb]
            subst hjb
            have ht' : wiB (y) z 1048576 = false := by simpa using ht
            rw [ht'] at HW1
            clear ht ht' t2 c1 c2 sx hn
            have dn : decide ((j : Int) = (j : Int)) = true := by simp
            go_wp2_with fail
            refine (HW1.out _).mono ?_
            rintro e w' ⟨rfl, rfl⟩
            go_wp2_with fail
            refine (HW2.out _).mono ?_
            rintro e w' ⟨rfl, rfl⟩
            go_wp2_with fail
            go_round
            case rel => exact ⟨j + 1, by omega, rfl⟩
            case measure => simpa [intOf] using mj
      · obtain rfl : j = 4 := by omega
        go_wp2
        go_ret
        exact ⟨rfl, hb7⟩
end Go.Proofs.Ytfogjfmpgfcolaa
