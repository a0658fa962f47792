/- Chapter 08: the walk of BitsBack. -/
import Derived.Test.YtbhfidneijogfaaBitsO
namespace Go.Proofs.Ytbhfidneijogfaa
open Go.RowKit
set_option linter.unusedVariables false
set_option linter.unusedSimpArgs false

set_option maxHeartbeats 4000000 in
theorem bitsBack_walk (a0 : Int) (A : Option Addr) (n c : Nat) (ws : List Int) (a2 a3 a4 : Int) (w : World) (w0 : (Lit.int .u32 a0).wf = true) (h : In .i64 w A n c ws) (w2 : (Lit.int .i64 a2).wf = true) (w3 : (Lit.int .i64 a3).wf = true) (w4 : (Lit.int .u32 a4).wf = true) :
    Calls Try.prog 8 #[.int .u32 a0, .slice A n c, .int .i64 a2, .int .i64 a3, .int .u32 a4] w fun e w' => e = .returned (.bool true) ∧ Below w.heap.size w w' := by
  obtain ⟨hr, hm, hc, hw⟩ := h
  have i0 := bounds_u32 w0
  have i4 := bounds_u32 w4
  have hx : ∀ x ∈ ws, -9223372036854775808 ≤ x ∧ x ≤ 9223372036854775807 := fun x hx => bounds_i64 (hw x hx)
  have HK := hid fun w => law08_knows w
  clear w0 hw w2 w3 w4
  by_cases g : 40 < n
  · have d1 : decide ((40 : Int) < n) = true := by simp; omega
    go_enter Try.func8, Try.ntmps8
    go_wp2_with fail
    refine (HK.out _).mono ?_
    rintro e w1 ⟨rfl, b1⟩
    go_wp2
    go_ret
    exact ⟨rfl, b1⟩
  have d1 : decide ((40 : Int) < n) = false := by simp; omega
  have hlen := splitP_len a0 ws
  have hl1 := hr.1
  have hpb := splitP_bd a0 ws i0
  have H1 := hid fun w h => b_Split A n c ws a0 w i0 h hx (by omega)
  have H2 := hid fun w (L : Option Addr) cl h h' => b_Join A n c ws L (splitP a0 ws).length cl (splitP a0 ws) w h hx (by omega) h' hpb (by omega)
  have h3 := fun w => b_Put a0 a2 a3 a4 w i0 i4
  obtain ⟨k1, k2, k3⟩ := back_law a0 ws i0
  rw [k1] at H2
  clear k1 hx hpb
  have hV : (okF 32 ws = true ∧ joinV ws (splitP a0 ws) = a0 ∧ (splitP a0 ws).length = n) ∨ (okF 32 ws = false ∧ (splitP a0 ws).length = 0) := by
    cases hB : okF 32 ws
    · exact .inr ⟨rfl, k3 hB⟩
    · exact .inl ⟨rfl, (k2 hB).1, by rw [(k2 hB).2]; exact hl1⟩
  clear k2 k3
  generalize splitP a0 ws = xs at *
  generalize okF 32 ws = B at *
  generalize joinV ws xs = V at *
  have hI := hid i0
  have hI4 := hid i4
  -- behind the word's parts: Put and what follows, at whatever world
  cases hP : putB a2 a3 a4
  · have hz : putV a0 a2 a3 a4 = 0 := by unfold putV; rw [hP]; rfl
    rw [hP, hz] at h3
    have H3 := hid h3
    clear h3 hz hP
    rcases hV with ⟨rfl, rfl, hxl⟩ | ⟨rfl, hxl⟩
    · subst hxl
      go_enter Try.func8, Try.ntmps8
      go_wp2_with fail
      refine (HK.out _).mono ?_
      rintro e w1 ⟨rfl, b1⟩
      go_wp2_with fail
      refine (H1.out _ ((hr.below b1).more b1.size)).mono ?_
      rintro e w2 ⟨A1, c1, rfl, x1, b2⟩
      replace b1 := b1.trans (b2.mono b1.size)
      go_wp2_with fail
      refine (H2.out _ A1 c1 ((hr.below b1).more b1.size) x1).mono ?_
      rintro e w3 ⟨rfl, b3⟩
      replace b1 := b1.trans (b3.mono b1.size)
      go_wp2_with fail
      refine (H3.out _).mono ?_
      rintro e w4 ⟨rfl, b4⟩
      replace b1 := b1.trans (b4.mono b1.size)
      go_wp2
      go_ret
      exact ⟨rfl, b1⟩
    · obtain rfl : xs = [] := List.eq_nil_of_length_eq_zero hxl
      clear hxl
      go_enter Try.func8, Try.ntmps8
      go_wp2_with fail
      refine (HK.out _).mono ?_
      rintro e w1 ⟨rfl, b1⟩
      go_wp2_with fail
      refine (H1.out _ ((hr.below b1).more b1.size)).mono ?_
      rintro e w2 ⟨A1, c1, rfl, x1, b2⟩
      replace b1 := b1.trans (b2.mono b1.size)
      go_wp2_with fail
      refine (H2.out _ A1 c1 ((hr.below b1).more b1.size) x1).mono ?_
      rintro e w3 ⟨rfl, b3⟩
      replace b1 := b1.trans (b3.mono b1.size)
      go_wp2_with fail
      refine (H3.out _).mono ?_
      rintro e w4 ⟨rfl, b4⟩
      replace b1 := b1.trans (b4.mono b1.size)
      go_wp2
      go_ret
      exact ⟨rfl, b1⟩
  · have hpl : placeB a2 a3 = true := by unfold putB at hP; simp only [Bool.and_eq_true] at hP; exact hP.1
    obtain ⟨P, Q, rfl, rfl, q1, q2⟩ := place_yes a2 a3 hpl
    have hv : 0 ≤ a4 ∧ a4 < 2 ^ Q := by
      unfold putB at hP
      simp only [Bool.and_eq_true, decide_eq_true_eq, Int.toNat_natCast] at hP
      exact ⟨i4.1, hP.2⟩
    have hy0 : putV a0 P Q a4 = 2 ^ (P + Q) * (a0 / 2 ^ (P + Q)) + a4 * 2 ^ P + a0 % 2 ^ P := by unfold putV; rw [if_pos hP]; simp
    obtain ⟨hin, hbit⟩ := put_bits a0 a4 P Q i0 hv q1 q2
    have hy := putV_bd a0 P Q a4 i0 i4
    rw [← hy0] at hin hbit
    rw [hP] at h3
    obtain ⟨s1, s2, s3, s4⟩ := sign_back a4 Q q1 (by omega)
    have h4 := fun w => b_Signed a4 Q w i4
    have h5 := fun w => b_Fits (signP a4 Q) Q w ⟨s3, s4⟩
    have h6 := fun w => b_Signed (signP a4 Q % 4294967296) Q w (by have := Int.emod_nonneg (signP a4 Q) (show (4294967296 : Int) ≠ 0 by omega); have := Int.emod_lt_of_pos (signP a4 Q) (show (0 : Int) < 4294967296 by omega); omega)
    have h7 := fun w => b_Get (putV a0 P Q a4) P Q w hy
    rw [s1] at h5
    rw [s2] at h6
    rw [hin] at h7
    have us : IntKind.u32.wrap (signP a4 Q) = signP a4 Q % 4294967296 := IntKind.wrap_u32 _
    have ua : IntKind.i64.wrap ((P : Int) + (Q : Int)) = (P : Int) + (Q : Int) := IntWalk.i64_in _ (by omega)
    generalize signP a4 Q = S at *
    generalize putV a0 P Q a4 = y at *
    clear hy0 hin s1 s2 s3 s4 hP hpl hv
    have H3 := hid h3
    have HS1 := hid h4
    have HF := hid h5
    have HS2 := hid h6
    have HG := hid h7
    clear h3 h4 h5 h6 h7 i0 i4
    rcases hV with ⟨rfl, rfl, hxl⟩ | ⟨rfl, hxl⟩
    · subst hxl
      go_enter Try.func8, Try.ntmps8
      go_wp2_with fail
      refine (HK.out _).mono ?_
      rintro e w1 ⟨rfl, b1⟩
      go_wp2_with fail
      refine (H1.out _ ((hr.below b1).more b1.size)).mono ?_
      rintro e w2 ⟨A1, c1, rfl, x1, b2⟩
      replace b1 := b1.trans (b2.mono b1.size)
      go_wp2_with fail
      refine (H2.out _ A1 c1 ((hr.below b1).more b1.size) x1).mono ?_
      rintro e w3 ⟨rfl, b3⟩
      replace b1 := b1.trans (b3.mono b1.size)
      go_wp2_with fail
      refine (H3.out _).mono ?_
      rintro e w4 ⟨rfl, b4⟩
      replace b1 := b1.trans (b4.mono b1.size)
      clear x1 b2 b3 b4 H1 H2 H3 HK
      go_wp2
      go_loopw [17] (fun i wr => ∃ j : Nat, j ≤ 32 ∧ i = .int .i64 j ∧ Below w.heap.size w wr) (fun i _ => 32 - (intOf i).toNat)
      case atStart => exact ⟨0, by omega, rfl, b1⟩
      case round =>
        obtain ⟨j, hj, rfl, hb⟩ := hrel
        by_cases hlt : j < 32
        · have ej : IntKind.i64.wrap ((j : Int) + 1) = ((j + 1 : Nat) : Int) := (IntWalk.i64_in _ (by omega)).trans (by omega)
          have mj : 32 - (j + 1) < 32 - j := by omega
          have L1 := hid fun w => b_Get y j 1 w hy
          have L2 := hid fun w => b_Get V j 1 w hI.out
          by_cases q1 : j < P
          · have dq : decide (j < P) = true := by simpa using q1
            have e := hbit j hlt (.inl q1)
            rw [e] at L1
            generalize getP V j 1 = z at *
            clear e
            go_wp2_with fail
            refine (L1.out _).mono ?_
            rintro e w5 ⟨rfl, b5⟩
            replace hb := hb.trans (b5.mono hb.size)
            go_wp2_with fail
            refine (L2.out _).mono ?_
            rintro e w6 ⟨rfl, b6⟩
            replace hb := hb.trans (b6.mono hb.size)
            go_wp2
            go_round
            case rel => exact ⟨j + 1, by omega, rfl, hb⟩
            case measure => simpa [intOf] using mj
          · have dq : decide (j < P) = false := by simpa using q1
            by_cases q2 : P + Q ≤ j
            · have dr : decide ((P : Int) + (Q : Int) ≤ (j : Int)) = true := by simp; omega
              have e := hbit j hlt (.inr q2)
              rw [e] at L1
              generalize getP V j 1 = z at *
              clear e
              go_wp2_with fail
              refine (L1.out _).mono ?_
              rintro e w5 ⟨rfl, b5⟩
              replace hb := hb.trans (b5.mono hb.size)
              go_wp2_with fail
              refine (L2.out _).mono ?_
              rintro e w6 ⟨rfl, b6⟩
              replace hb := hb.trans (b6.mono hb.size)
              go_wp2
              go_round
              case rel => exact ⟨j + 1, by omega, rfl, hb⟩
              case measure => simpa [intOf] using mj
            · have dr : decide ((P : Int) + (Q : Int) ≤ (j : Int)) = false := by simp; omega
              clear L1 L2
              go_wp2
              go_round
              case rel => exact ⟨j + 1, by omega, rfl, hb⟩
              case measure => simpa [intOf] using mj
        · obtain rfl : j = 32 := by omega
          go_wp2_with fail
          refine (HS1.out _).mono ?_
          rintro e w' ⟨rfl, rfl⟩
          go_wp2_with fail
          refine (HG.out _).mono ?_
          rintro e w5 ⟨rfl, b5⟩
          replace hb := hb.trans (b5.mono hb.size)
          go_wp2_with fail
          refine (HF.out _).mono ?_
          rintro e w' ⟨rfl, rfl⟩
          go_wp2_with fail
          refine (HS2.out _).mono ?_
          rintro e w' ⟨rfl, rfl⟩
          go_wp2
          go_ret
          exact ⟨rfl, hb⟩
    · obtain rfl : xs = [] := List.eq_nil_of_length_eq_zero hxl
      clear hxl
      go_enter Try.func8, Try.ntmps8
      go_wp2_with fail
      refine (HK.out _).mono ?_
      rintro e w1 ⟨rfl, b1⟩
      go_wp2_with fail
      refine (H1.out _ ((hr.below b1).more b1.size)).mono ?_
      rintro e w2 ⟨A1, c1, rfl, x1, b2⟩
      replace b1 := b1.trans (b2.mono b1.size)
      go_wp2_with fail
      refine (H2.out _ A1 c1 ((hr.below b1).more b1.size) x1).mono ?_
      rintro e w3 ⟨rfl, b3⟩
      replace b1 := b1.trans (b3.mono b1.size)
      go_wp2_with fail
      refine (H3.out _).mono ?_
      rintro e w4 ⟨rfl, b4⟩
      replace b1 := b1.trans (b4.mono b1.size)
      clear x1 b2 b3 b4 H1 H2 H3 HK
      go_wp2
      go_loopw [17] (fun i wr => ∃ j : Nat, j ≤ 32 ∧ i = .int .i64 j ∧ Below w.heap.size w wr) (fun i _ => 32 - (intOf i).toNat)
      case atStart => exact ⟨0, by omega, rfl, b1⟩
      case round =>
        obtain ⟨j, hj, rfl, hb⟩ := hrel
        by_cases hlt : j < 32
        · have ej : IntKind.i64.wrap ((j : Int) + 1) = ((j + 1 : Nat) : Int) := (IntWalk.i64_in _ (by omega)).trans (by omega)
          have mj : 32 - (j + 1) < 32 - j := by omega
          have L1 := hid fun w => b_Get y j 1 w hy
          have L2 := hid fun w => b_Get a0 j 1 w hI.out
          by_cases q1 : j < P
          · have dq : decide (j < P) = true := by simpa using q1
            have e := hbit j hlt (.inl q1)
            rw [e] at L1
            generalize getP a0 j 1 = z at *
            clear e
            go_wp2_with fail
            refine (L1.out _).mono ?_
            rintro e w5 ⟨rfl, b5⟩
            replace hb := hb.trans (b5.mono hb.size)
            go_wp2_with fail
            refine (L2.out _).mono ?_
            rintro e w6 ⟨rfl, b6⟩
            replace hb := hb.trans (b6.mono hb.size)
            go_wp2
            go_round
            case rel => exact ⟨j + 1, by omega, rfl, hb⟩
            case measure => simpa [intOf] using mj
          · have dq : decide (j < P) = false := by simpa using q1
            by_cases q2 : P + Q ≤ j
            · have dr : decide ((P : Int) + (Q : Int) ≤ (j : Int)) = true := by simp; omega
              have e := hbit j hlt (.inr q2)
              rw [e] at L1
              generalize getP a0 j 1 = z at *
              clear e
              go_wp2_with fail
              refine (L1.out _).mono ?_
              rintro e w5 ⟨rfl, b5⟩
              replace hb := hb.trans (b5.mono hb.size)
              go_wp2_with fail
              refine (L2.out _).mono ?_
              rintro e w6 ⟨rfl, b6⟩
              replace hb := hb.trans (b6.mono hb.size)
              go_wp2
              go_round
              case rel => exact ⟨j + 1, by omega, rfl, hb⟩
              case measure => simpa [intOf] using mj
            · have dr : decide ((P : Int) + (Q : Int) ≤ (j : Int)) = false := by simp; omega
              clear L1 L2
              go_wp2
              go_round
              case rel => exact ⟨j + 1, by omega, rfl, hb⟩
              case measure => simpa [intOf] using mj
        · obtain rfl : j = 32 := by omega
          go_wp2_with fail
          refine (HS1.out _).mono ?_
          rintro e w' ⟨rfl, rfl⟩
          go_wp2_with fail
          refine (HG.out _).mono ?_
          rintro e w5 ⟨rfl, b5⟩
          replace hb := hb.trans (b5.mono hb.size)
          go_wp2_with fail
          refine (HF.out _).mono ?_
          rintro e w' ⟨rfl, rfl⟩
          go_wp2_with fail
          refine (HS2.out _).mono ?_
          rintro e w' ⟨rfl, rfl⟩
          go_wp2
          go_ret
          exact ⟨rfl, hb⟩
end Go.Proofs.Ytbhfidneijogfaa
