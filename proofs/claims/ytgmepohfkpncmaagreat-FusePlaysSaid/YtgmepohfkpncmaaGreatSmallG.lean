/- Chapter 12: the document's Pack. -/
import Derived.Test.YtgmepohfkpncmaaGreatSmallD
import Derived.Test.YtgmepohfkpncmaaGreatBitsM
namespace Go.Proofs.YtgmepohfkpncmaaGreat
open Go.RowKit
set_option linter.unusedVariables false
set_option linter.unusedSimpArgs false
attribute [local go_sem] Oper.semAt_some
theorem r12_far (x : Int) (w : World) (ix : I32 x) :
    Calls Tryz.prog 73 #[.int .i32 x] w fun e w' => e = .returned (.int .i64 (absP x)) ∧ w = w' := by
  have u0 : IntKind.i64.wrap x = x := IntWalk.i64_in _ (by unfold I32 at *; omega)
  have u1 : IntKind.i64.wrap (-x) = -x := IntWalk.i64_in _ (by unfold I32 at *; omega)
  have u2 : wrap64 (-x) = -x := IntWalk.wrap64_in _ (by unfold I32 at *; omega)
  have hm : max x (-x) = absP x := by unfold absP; split <;> omega
  have hm2 : (if x < -x then -x else x) = absP x := by unfold absP; split <;> split <;> omega
  go_enter Tryz.func73, Tryz.ntmps73
  go_wp2
  go_ret
  exact ⟨rfl, rfl⟩
theorem fAt_succ (q0 q1 q2 q3 : Int) (j : Nat) (h : j < 4) : fAt q0 q1 q2 q3 (j + 1) = fStep (fAt q0 q1 q2 q3 j) j (lAt q0 q1 q2 q3 j) := by
  match j, h with
  | 0, _ => rfl
  | 1, _ => rfl
  | 2, _ => rfl
  | 3, _ => rfl
theorem fAt_lt (q0 q1 q2 q3 : Int) : ∀ (j : Nat), j ≤ 4 → (fAt q0 q1 q2 q3 j).1 < 4
  | 0, _ => by show (0 : Nat) < 4; omega
  | j + 1, h => by rw [fAt_succ q0 q1 q2 q3 j (by omega)]; exact fStep_lt _ _ _ (fAt_lt q0 q1 q2 q3 j (by omega)) (by omega)
theorem fAt_far (q0 q1 q2 q3 : Int) : ∀ (j : Nat), 1 ≤ j → j ≤ 4 → (fAt q0 q1 q2 q3 j).2 = absP (lAt q0 q1 q2 q3 (fAt q0 q1 q2 q3 j).1)
  | 0, h, _ => by omega
  | 1, _, _ => by
    show (fStep (0, -1) 0 q0).2 = absP (lAt q0 q1 q2 q3 (fStep (0, -1) 0 q0).1)
    have h : (-1 : Int) < absP q0 := by unfold absP; split <;> omega
    unfold fStep
    simp only [if_pos h]
    rfl
  | j + 2, _, h => by
    have ih := fAt_far q0 q1 q2 q3 (j + 1) (by omega) (by omega)
    rw [fAt_succ q0 q1 q2 q3 (j + 1) (by omega)]
    unfold fStep
    split
    · rfl
    · exact ih
theorem fAt_next (q0 q1 q2 q3 : Int) (j : Nat) (h1 : 1 ≤ j) (h : j < 4) : (fAt q0 q1 q2 q3 (j + 1)).1 = if absP (lAt q0 q1 q2 q3 (fAt q0 q1 q2 q3 j).1) < absP (lAt q0 q1 q2 q3 j) then j else (fAt q0 q1 q2 q3 j).1 := by
  rw [fAt_succ q0 q1 q2 q3 j h, ← fAt_far q0 q1 q2 q3 j h1 (by omega)]
  unfold fStep
  split <;> rfl
theorem lAt_in (q0 q1 q2 q3 : Int) (iq0 : I32 q0) (iq1 : I32 q1) (iq2 : I32 q2) (iq3 : I32 q3) (j : Nat) (h : j < 4) : #[Value.int .i32 q0, Value.int .i32 q1, Value.int .i32 q2, Value.int .i32 q3][j]? = some (.int .i32 (lAt q0 q1 q2 q3 j)) ∧ I32 (lAt q0 q1 q2 q3 j) := by
  obtain rfl | rfl | rfl | rfl : j = 0 ∨ j = 1 ∨ j = 2 ∨ j = 3 := by omega
  · exact ⟨rfl, iq0⟩
  · exact ⟨rfl, iq1⟩
  · exact ⟨rfl, iq2⟩
  · exact ⟨rfl, iq3⟩
theorem packL_next (q0 q1 q2 q3 : Int) (b i : Nat) (hb : b < 4) (hi : i < 4) (hne : i ≠ b) : packL q0 q1 q2 q3 b (upK (cntO b (i + 1))) = packL q0 q1 q2 q3 b (upK (cntO b i)) ++ [numP (sgnX (lAt q0 q1 q2 q3 b) (lAt q0 q1 q2 q3 i))] := by
  obtain rfl | rfl | rfl | rfl : b = 0 ∨ b = 1 ∨ b = 2 ∨ b = 3 := by omega
  all_goals obtain rfl | rfl | rfl | rfl : i = 0 ∨ i = 1 ∨ i = 2 ∨ i = 3 := by omega
  all_goals first | (exact absurd rfl hne) | rfl
theorem packL_same (q0 q1 q2 q3 : Int) (b : Nat) : packL q0 q1 q2 q3 b (upK (cntO b (b + 1))) = packL q0 q1 q2 q3 b (upK (cntO b b)) := by
  unfold cntO
  rw [if_neg (by omega), if_pos (by omega), Nat.add_sub_cancel]
theorem fAt_one (q0 q1 q2 q3 : Int) : (fAt q0 q1 q2 q3 1).1 = 0 := by
  show (fStep (0, -1) 0 q0).1 = 0
  unfold fStep
  split <;> rfl
set_option maxRecDepth 20000 in
set_option maxHeartbeats 8000000 in
theorem r12_Pack (q0 q1 q2 q3 : Int) (w : World) (iq0 : I32 q0) (iq1 : I32 q1) (iq2 : I32 q2) (iq3 : I32 q3) (hu : isP (sqP [q0, q1, q2, q3]) = true) :
    Calls Tryz.prog 36 #[.agg #[.int .i32 q0, .int .i32 q1, .int .i32 q2, .int .i32 q3]] w fun e w' => e = .returned (.tuple #[.int .u32 (joinV widL (packL q0 q1 q2 q3 (farI q0 q1 q2 q3) (upK 3))), .bool true]) ∧ Below w.heap.size w w' := by
  have HU := hid fun w => r11_Is q0 q1 q2 q3 w iq0 iq1 iq2 iq3
  rw [hu] at HU
  have hb4 := far_lt q0 q1 q2 q3
  have hpk := packL_in q0 q1 q2 q3 (farI q0 q1 q2 q3) (upK 3) hb4
  have HJ := hid fun (w : World) X c gw (hw : Row .i64 w w.heap.size (some ⟨gw, 0, none⟩) 4 widL) (hl : Row .u32 w w.heap.size X 4 (packL q0 q1 q2 q3 (farI q0 q1 q2 q3) (upK 3))) =>
    r8_Join (some ⟨gw, 0, none⟩) 4 4 widL X 4 c (packL q0 q1 q2 q3 (farI q0 q1 q2 q3) (upK 3)) w hw (by decide) (by omega) hl hpk (by omega)
  have HL := hid (lAt_in q0 q1 q2 q3 iq0 iq1 iq2 iq3)
  obtain ⟨i0, hi0, hz0, hz1, hz2⟩ := info_parts infoU32
  have hFA : Hid ((fAt q0 q1 q2 q3 4).1 = farI q0 q1 q2 q3) := rfl
  clear hpk
  go_enter Tryz.func36, Tryz.ntmps36
  have hq := Blk.new w 23 #[.int .i32 q0, .int .i32 q1, .int .i32 q2, .int .i32 q3]
  have hB := (Below.refl w.heap.size w).alloc (Nat.le_refl _) (.cells #[.int .i32 q0, .int .i32 q1, .int .i32 q2, .int .i32 q3] 23)
  have f0 : (w.alloc (.cells #[.int .i32 q0, .int .i32 q1, .int .i32 q2, .int .i32 q3] 23)).cell? ⟨w.heap.size, 0, none⟩ = some (.int .i32 q0) := hq.cell 0
  have f1 : (w.alloc (.cells #[.int .i32 q0, .int .i32 q1, .int .i32 q2, .int .i32 q3] 23)).cell? ⟨w.heap.size, 1, none⟩ = some (.int .i32 q1) := hq.cell 1
  have f2 : (w.alloc (.cells #[.int .i32 q0, .int .i32 q1, .int .i32 q2, .int .i32 q3] 23)).cell? ⟨w.heap.size, 2, none⟩ = some (.int .i32 q2) := hq.cell 2
  have f3 : (w.alloc (.cells #[.int .i32 q0, .int .i32 q1, .int .i32 q2, .int .i32 q3] 23)).cell? ⟨w.heap.size, 3, none⟩ = some (.int .i32 q3) := hq.cell 3
  go_wp2_with fail
  have hsz := hB.size
  clear f0 f1 f2 f3
  generalize w.alloc (.cells #[.int .i32 q0, .int .i32 q1, .int .i32 q2, .int .i32 q3] 23) = W0 at *
  refine (HU.out _).mono ?_
  rintro e w1 ⟨rfl, b1⟩
  replace hq := hq.below b1 hq.lt
  replace hB := hB.trans (b1.mono hsz)
  clear b1 hsz
  have f0 : w1.cell? ⟨w.heap.size, 0, none⟩ = some (.int .i32 q0) := hq.cell 0
  have f1 : w1.cell? ⟨w.heap.size, 1, none⟩ = some (.int .i32 q1) := hq.cell 1
  have f2 : w1.cell? ⟨w.heap.size, 2, none⟩ = some (.int .i32 q2) := hq.cell 2
  have f3 : w1.cell? ⟨w.heap.size, 3, none⟩ = some (.int .i32 q3) := hq.cell 3
  go_wp2_with fail
  clear f0 f1 f2 f3
  have hL := Blk.new w1 21 #[.int .i32 q0, .int .i32 q1, .int .i32 q2, .int .i32 q3]
  replace hB := hB.alloc hB.size (.cells #[.int .i32 q0, .int .i32 q1, .int .i32 q2, .int .i32 q3] 21)
  have hgl : w1.heap.size < (w1.alloc (.cells #[.int .i32 q0, .int .i32 q1, .int .i32 q2, .int .i32 q3] 21)).heap.size := by simp
  have hgw := (show w.heap.size ≤ w1.heap.size from by have := hq.lt; omega)
  generalize w1.alloc (.cells #[.int .i32 q0, .int .i32 q1, .int .i32 q2, .int .i32 q3] 21) = W1 at *
  generalize w1.heap.size = gl at *
  clear hq
  go_loopw [5, 6] (fun vb vi wr => ∃ j : Nat, 1 ≤ j ∧ j ≤ 4 ∧ vi = .int .i64 j ∧ vb = .int .i64 ((fAt q0 q1 q2 q3 j).1 : Nat) ∧ Blk wr gl 21 #[.int .i32 q0, .int .i32 q1, .int .i32 q2, .int .i32 q3] ∧ Below w.heap.size w wr) (fun _ vi _ => 4 - (intOf vi).toNat)
  case atStart => exact ⟨1, by omega, by omega, rfl, by rw [fAt_one]; rfl, hL, hB⟩
  case round =>
    obtain ⟨j, hj1, hj, rfl, rfl, hLr, hBr⟩ := hrel
    by_cases hlt : j < 4
    · have hbl := fAt_lt q0 q1 q2 q3 j hj
      have hnx := fAt_next q0 q1 q2 q3 j hj1 hlt
      obtain ⟨y1, y2⟩ := HL.out j hlt
      obtain ⟨z1, z2⟩ := HL.out _ hbl
      have HF1 := hid fun w => r12_far _ w y2
      have HF2 := hid fun w => r12_far _ w z2
      have cy := (hLr.cell j).trans y1
      have cz := (hLr.cell _).trans z1
      clear y1 y2 z1 z2
      generalize (fAt q0 q1 q2 q3 j).1 = B at *
      generalize lAt q0 q1 q2 q3 j = y at *
      generalize lAt q0 q1 q2 q3 B = z at *
      have k1 : (0 : Int) ≤ (j : Int) := by omega
      have k2 : (j : Int) < 4 := by omega
      have k3 : (0 : Int) ≤ (B : Int) := by omega
      have k4 : (B : Int) < 4 := by omega
      have ej : IntKind.i64.wrap ((j : Int) + 1) = ((j + 1 : Nat) : Int) := (IntWalk.i64_in _ (by omega)).trans (by omega)
      have mj : 4 - (j + 1) < 4 - j := by omega
      by_cases g : absP z < absP y
      · have dg : decide (absP z < absP y) = true := by simpa using g
        rw [if_pos g] at hnx
        have HN := hid hnx
        clear hnx g
        go_wp2_with fail
        refine wp_region_noPanic ?_
        refine wp_region_held_drew (S := (fun w' : World => w'.cell? ⟨gl, j, none⟩ = some (.int .i32 y) ∧ w'.cell? ⟨gl, B, none⟩ = some (.int .i32 z))) (by kernel_rfl) ⟨cy, cz⟩ (fun hH => ?_)
        refine (show wpAnyH _ _ _ _ _ 11 _ _ _ from ?_)
        try (simp only [Act.put, List.setIfInBounds_toArray, List.set_cons_zero, List.set_cons_succ])
        replace hLr := hLr.drew
        replace hBr := hBr.drew
        clear cy cz
        generalize wr.drew = V at *
        refine tk 0 hH ?_
        refine tk 1 hH ?_
        refine tk 2 hH ?_
        refine tk 3 hH ?_
        refine tk 5 hH ?_
        refine tk 6 hH ?_
        refine tk 7 hH ?_
        refine tk 8 hH ?_
        refine rd1 4 (fun K hK => ?_)
        go_simp
        refine (HF1.out _).mono ?_
        rintro e w' ⟨rfl, rfl⟩
        go_wp2_with fail
        refine hK.out _ _ hH (fun hH => ?_)
        clear hK K
        try (simp only [Act.put, List.setIfInBounds_toArray, List.set_cons_zero, List.set_cons_succ])
        refine rd1 9 (fun K hK => ?_)
        go_simp
        refine (HF2.out _).mono ?_
        rintro e w' ⟨rfl, rfl⟩
        go_wp2_with fail
        refine hK.out _ _ hH (fun hH => ?_)
        clear hK K
        try (simp only [Act.put, List.setIfInBounds_toArray, List.set_cons_zero, List.set_cons_succ])
        refine tk 10 hH ?_
        refine wpAnyH_done (by kernel_rfl) ?_ _
        refine NoPanic.normal ?_
        go_wp2_with fail
        go_round
        case rel => exact ⟨j + 1, by omega, by omega, rfl, by rw [HN.out] <;> rfl, hLr, hBr⟩
        case measure => simpa [intOf] using mj
      · have dg : decide (absP z < absP y) = false := by simpa using g
        rw [if_neg g] at hnx
        have HN := hid hnx
        clear hnx g
        go_wp2_with fail
        refine wp_region_noPanic ?_
        refine wp_region_held_drew (S := (fun w' : World => w'.cell? ⟨gl, j, none⟩ = some (.int .i32 y) ∧ w'.cell? ⟨gl, B, none⟩ = some (.int .i32 z))) (by kernel_rfl) ⟨cy, cz⟩ (fun hH => ?_)
        refine (show wpAnyH _ _ _ _ _ 11 _ _ _ from ?_)
        try (simp only [Act.put, List.setIfInBounds_toArray, List.set_cons_zero, List.set_cons_succ])
        replace hLr := hLr.drew
        replace hBr := hBr.drew
        clear cy cz
        generalize wr.drew = V at *
        refine tk 0 hH ?_
        refine tk 1 hH ?_
        refine tk 2 hH ?_
        refine tk 3 hH ?_
        refine tk 5 hH ?_
        refine tk 6 hH ?_
        refine tk 7 hH ?_
        refine tk 8 hH ?_
        refine rd1 4 (fun K hK => ?_)
        go_simp
        refine (HF1.out _).mono ?_
        rintro e w' ⟨rfl, rfl⟩
        go_wp2_with fail
        refine hK.out _ _ hH (fun hH => ?_)
        clear hK K
        try (simp only [Act.put, List.setIfInBounds_toArray, List.set_cons_zero, List.set_cons_succ])
        refine rd1 9 (fun K hK => ?_)
        go_simp
        refine (HF2.out _).mono ?_
        rintro e w' ⟨rfl, rfl⟩
        go_wp2_with fail
        refine hK.out _ _ hH (fun hH => ?_)
        clear hK K
        try (simp only [Act.put, List.setIfInBounds_toArray, List.set_cons_zero, List.set_cons_succ])
        refine tk 10 hH ?_
        refine wpAnyH_done (by kernel_rfl) ?_ _
        refine NoPanic.normal ?_
        go_wp2_with fail
        go_round
        case rel => exact ⟨j + 1, by omega, by omega, rfl, by rw [HN.out] <;> rfl, hLr, hBr⟩
        case measure => simpa [intOf] using mj
    · obtain rfl : j = 4 := by omega
      rw [hFA.out, show ((4 : Nat) : Int) = 4 from rfl]
      generalize hbe : farI q0 q1 q2 q3 = b at *
      have HBE := hid hbe
      clear hbe
      have ub : IntKind.u32.wrap (b : Int) = (b : Int) := by simp [IntKind.wrap_u32]; omega
      go_wp2_with fail
      have hrs := hBr.size
      have hrl := hLr.lt
      have e3 := Blk.new wr 38 #[.int .u32 b]
      have hO : Own .u32 (wr.alloc (.cells #[.int .u32 b] 38)) w.heap.size 38 (some ⟨wr.heap.size, 0, none⟩) 1 1 [(b : Int)] := own_one e3 hrs
      replace hLr := hLr.alloc (.cells #[.int .u32 b] 38)
      replace hBr := hBr.alloc hrs (.cells #[.int .u32 b] 38)
      generalize wr.alloc (.cells #[.int .u32 b] 38) = W2 at *
      generalize wr.heap.size = gw at *
      clear e3 hrl
      go_loopw [7, 8] (fun vo vi wr => ∃ (j : Nat) (A1 : Option Addr) (c1 : Nat), j ≤ 4 ∧ vi = .int .i64 j ∧ vo = .slice A1 (cntO b j + 1) c1 ∧ Own .u32 wr w.heap.size 38 A1 (cntO b j + 1) c1 (packL q0 q1 q2 q3 b (upK (cntO b j))) ∧ Blk wr gl 21 #[.int .i32 q0, .int .i32 q1, .int .i32 q2, .int .i32 q3] ∧ Below w.heap.size w wr) (fun _ vi _ => 4 - (intOf vi).toNat)
      case atStart => exact ⟨0, _, _, by omega, rfl, rfl, hO, hLr, hBr⟩
      case round =>
        obtain ⟨j, A1, c1, hj, rfl, rfl, ho, hLw, hBw⟩ := hrel
        by_cases hlt : j < 4
        · obtain ⟨y1, y2⟩ := HL.out j hlt
          obtain ⟨z1, z2⟩ := HL.out b hb4
          have cy : wr.cell? ⟨gl, j, none⟩ = some (.int .i32 (lAt q0 q1 q2 q3 j)) := (hLw.cell j).trans y1
          have cz : wr.cell? ⟨gl, b, none⟩ = some (.int .i32 (lAt q0 q1 q2 q3 b)) := (hLw.cell _).trans z1
          clear y1 z1
          have ej : IntKind.i64.wrap ((j : Int) + 1) = ((j + 1 : Nat) : Int) := (IntWalk.i64_in _ (by omega)).trans (by omega)
          have mj : 4 - (j + 1) < 4 - j := by omega
          have k1 : (0 : Int) ≤ (j : Int) := by omega
          have k2 : (j : Int) < 4 := by omega
          have k3 : (0 : Int) ≤ (b : Int) := by omega
          have k4 : (b : Int) < 4 := by omega
          have hcj : cntO b j ≤ 4 := by unfold cntO; split <;> omega
          by_cases hjb : j = b
          · subst hjb
            have dn : decide ((j : Int) = (j : Int)) = true := by simp
            have HC : Hid (cntO j (j + 1) = cntO j j) := hid (by unfold cntO; rw [if_neg (by omega), if_pos (by omega), Nat.add_sub_cancel])
            have HPL : Hid (packL q0 q1 q2 q3 j (upK (cntO j (j + 1))) = packL q0 q1 q2 q3 j (upK (cntO j j))) := hid (packL_same q0 q1 q2 q3 j)
            generalize packL q0 q1 q2 q3 j (upK (cntO j j)) = ls at *
            generalize lAt q0 q1 q2 q3 j = y at *
            have sb : -2147483648 ≤ sgnX y y ∧ sgnX y y ≤ 2147483648 := by unfold sgnX; unfold I32 at y2; split <;> omega
            have u511 : IntKind.i64.wrap (511 * sgnX y y) = 511 * sgnX y y := IntWalk.i64_in _ (by omega)
            have HO := hid fun w => fxr_Over (511 * sgnX y y) 759250125 w (by unfold I64; omega) (by unfold I64; omega)
            have uy : IntKind.i64.wrap y = y := IntWalk.i64_in _ (by unfold I32 at y2; omega)
            have uny : IntKind.i64.wrap (-y) = -y := IntWalk.i64_in _ (by unfold I32 at y2; omega)
            have unw : wrap64 (-y) = -y := IntWalk.wrap64_in _ (by unfold I32 at y2; omega)
            by_cases hy : y < 0
            · have sx : sgnX y y = -y := if_pos hy
              rw [sx] at u511 HO
              clear sx sb
              have dy : decide (y < 0) = true := by simpa using hy
              go_wp2_with fail
              refine (HO.out _).mono ?_
              rintro e w' ⟨rfl, rfl⟩
              go_wp2_with fail
              go_round
              case rel => exact ⟨j + 1, A1, c1, by omega, rfl, by rw [HC.out], by rw [HPL.out, HC.out]; exact ho, hLw, hBw⟩
              case measure => simpa [intOf] using mj
            · have sx : sgnX y y = y := if_neg hy
              rw [sx] at u511 HO
              clear sx sb
              have dy : decide (y < 0) = false := by simpa using hy
              go_wp2_with fail
              refine (HO.out _).mono ?_
              rintro e w' ⟨rfl, rfl⟩
              go_wp2_with fail
              go_round
              case rel => exact ⟨j + 1, A1, c1, by omega, rfl, by rw [HC.out], by rw [HPL.out, HC.out]; exact ho, hLw, hBw⟩
              case measure => simpa [intOf] using mj
          · have hpn := packL_next q0 q1 q2 q3 b j hb4 hlt hjb
            have HC : Hid (cntO b (j + 1) + 1 = cntO b j + 1 + 1) := hid (by unfold cntO; split <;> split <;> omega)
            generalize packL q0 q1 q2 q3 b (upK (cntO b j)) = ls at *
            generalize lAt q0 q1 q2 q3 j = y at *
            generalize lAt q0 q1 q2 q3 b = z at *
            have HPL := hid hpn
            clear hpn
            generalize cntO b j = m at *
            have sb : -2147483648 ≤ sgnX z y ∧ sgnX z y ≤ 2147483648 := by unfold sgnX; unfold I32 at y2; split <;> omega
            have u511 : IntKind.i64.wrap (511 * sgnX z y) = 511 * sgnX z y := IntWalk.i64_in _ (by omega)
            have HO := hid fun w => fxr_Over (511 * sgnX z y) 759250125 w (by unfold I64; omega) (by unfold I64; omega)
            have HNP : Hid (numP (sgnX z y) = 512 + max (-511) (min (overP (511 * sgnX z y) 759250125) 511)) := rfl
            have uy : IntKind.i64.wrap y = y := IntWalk.i64_in _ (by unfold I32 at y2; omega)
            have uny : IntKind.i64.wrap (-y) = -y := IntWalk.i64_in _ (by unfold I32 at y2; omega)
            have unw : wrap64 (-y) = -y := IntWalk.wrap64_in _ (by unfold I32 at y2; omega)
            have djb : decide ((j : Int) = (b : Int)) = false := by simp; omega
            by_cases hz : z < 0
            · have sx : sgnX z y = -y := if_pos hz
              rw [sx] at u511 HO HNP HPL
              clear sx sb
              have dz : decide (z < 0) = true := by simpa using hz
              generalize hv : overP (511 * -y) 759250125 = v at *
              clear hv
              have hum : -511 ≤ max (-511) (min v 511) ∧ max (-511) (min v 511) ≤ 511 := by omega
              have uw1 : IntKind.i64.wrap (512 + max (-511) (min v 511)) = 512 + max (-511) (min v 511) := IntWalk.i64_in _ (by omega)
              have uw2 : IntKind.u32.wrap (512 + max (-511) (min v 511)) = 512 + max (-511) (min v 511) := by simp [IntKind.wrap_u32]; omega
              have hs2 := hBw.size
              go_wp2_with fail
              refine (HO.out _).mono ?_
              rintro e w' ⟨rfl, rfl⟩
              go_wp2_with (at_builtin; refine wpList_app rfl (.tmp 66) (.tmp 72) _ rfl w.heap.size 38 i0 0 4 Tryz.underlying97 hi0 hz0 hz1 hz2 A1 (m + 1) c1 ls rfl (ho.alloc _) (wr.heap.size + 1) (some ⟨wr.heap.size, 0, none⟩) 1 1 [512 + max (-511) (min v 511)] rfl (Row.blk (Blk.new _ _ _) rfl (by omega)) (by unfold maxLen; omega) (by omega) (by simp; omega) ?_; intro A2 c2 w3 ho3 hg3; have be3 := own_below_alloc hBw ho _ hg3 hs2; have hL3 := ho.keeps hLw _ hg3 (by decide))
              go_round
              case rel => exact ⟨j + 1, A2, c2, by omega, rfl, by rw [HC.out], by rw [HPL.out, HNP.out, HC.out]; exact ho3, hL3, be3⟩
              case measure => simpa [intOf] using mj
            · have sx : sgnX z y = y := if_neg hz
              rw [sx] at u511 HO HNP HPL
              clear sx sb
              have dz : decide (z < 0) = false := by simpa using hz
              generalize hv : overP (511 * y) 759250125 = v at *
              clear hv
              have hum : -511 ≤ max (-511) (min v 511) ∧ max (-511) (min v 511) ≤ 511 := by omega
              have uw1 : IntKind.i64.wrap (512 + max (-511) (min v 511)) = 512 + max (-511) (min v 511) := IntWalk.i64_in _ (by omega)
              have uw2 : IntKind.u32.wrap (512 + max (-511) (min v 511)) = 512 + max (-511) (min v 511) := by simp [IntKind.wrap_u32]; omega
              have hs2 := hBw.size
              go_wp2_with fail
              refine (HO.out _).mono ?_
              rintro e w' ⟨rfl, rfl⟩
              go_wp2_with (at_builtin; refine wpList_app rfl (.tmp 66) (.tmp 72) _ rfl w.heap.size 38 i0 0 4 Tryz.underlying97 hi0 hz0 hz1 hz2 A1 (m + 1) c1 ls rfl (ho.alloc _) (wr.heap.size + 1) (some ⟨wr.heap.size, 0, none⟩) 1 1 [512 + max (-511) (min v 511)] rfl (Row.blk (Blk.new _ _ _) rfl (by omega)) (by unfold maxLen; omega) (by omega) (by simp; omega) ?_; intro A2 c2 w3 ho3 hg3; have be3 := own_below_alloc hBw ho _ hg3 hs2; have hL3 := ho.keeps hLw _ hg3 (by decide))
              go_round
              case rel => exact ⟨j + 1, A2, c2, by omega, rfl, by rw [HC.out], by rw [HPL.out, HNP.out, HC.out]; exact ho3, hL3, be3⟩
              case measure => simpa [intOf] using mj
        · obtain rfl : j = 4 := by omega
          rw [show ((4 : Nat) : Int) = 4 from rfl]
          have hc3 : cntO b 4 = 3 := by unfold cntO; rw [if_neg (by omega)]
          rw [hc3] at ho ⊢
          go_wp2_with fail
          have gw2 := Blk.new wr 3 #[.int .i64 2, .int .i64 10, .int .i64 10, .int .i64 10]
          have ho2 := ho.alloc (.cells #[.int .i64 2, .int .i64 10, .int .i64 10, .int .i64 10] 3)
          have hBw2 := hBw.alloc hBw.size (.cells #[.int .i64 2, .int .i64 10, .int .i64 10, .int .i64 10] 3)
          have hlt3 : wr.heap.size < (wr.alloc (.cells #[.int .i64 2, .int .i64 10, .int .i64 10, .int .i64 10] 3)).heap.size := by simp
          generalize wr.alloc (.cells #[.int .i64 2, .int .i64 10, .int .i64 10, .int .i64 10] 3) = V at *
          generalize wr.heap.size = gwn at *
          refine (HJ.out V A1 c1 gwn (Row.blk (xs := widL) gw2 rfl hlt3) ho2.row).mono ?_
          rintro e V2 ⟨rfl, b2⟩
          go_wp2_with fail
          go_ret2
          exact ⟨by rw [HBE.out]; rfl, hBw2.trans (b2.mono hBw2.size)⟩
end Go.Proofs.YtgmepohfkpncmaaGreat
