/- Chapter 12: a unit, packed and unpacked: the plain law. -/
import Derived.Test.YtfogjfmpgfcolaaSmallD
import Derived.Test.YtfogjfmpgfcolaaSmallF
import Derived.Test.YtfogjfmpgfcolaaSmallG
import Derived.Test.YtfogjfmpgfcolaaUnitF
namespace Go.Proofs.Ytfogjfmpgfcolaa
open Go.RowKit
set_option linter.unusedVariables false
set_option linter.unusedSimpArgs false

theorem sq_plus (y e : Int) : (y + e) * (y + e) = y * y + 2 * (y * e) + e * e := by grind
theorem small_core (m y1 y2 y3 e1 e2 e3 L : Int) (hm2 : 0 ≤ m ∧ m ≤ 2147483648)
    (hy1 : -m ≤ y1 ∧ y1 ≤ m) (hy2 : -m ≤ y2 ∧ y2 ≤ m) (hy3 : -m ≤ y3 ∧ y3 ≤ m)
    (he1 : -742907 ≤ e1 ∧ e1 ≤ 742907) (he2 : -742907 ≤ e2 ∧ e2 ≤ 742907) (he3 : -742907 ≤ e3 ∧ e3 ≤ 742907)
    (hN : -1099511627776 ≤ m * m + y1 * y1 + y2 * y2 + y3 * y3 - 1152921504606846976 ∧ m * m + y1 * y1 + y2 * y2 + y3 * y3 - 1152921504606846976 ≤ 1099511627776)
    (hL : L = 1152921504606846976 - (y1 + e1) * (y1 + e1) - (y2 + e2) * (y2 + e2) - (y3 + e3) * (y3 + e3)) :
    0 ≤ L ∧ -4194304 ≤ rootP L - m ∧ rootP L - m ≤ 4194304 := by
  have hq : ∀ y, -m ≤ y ∧ y ≤ m → y * y ≤ m * m := fun y h => by
    rcases Int.le_total 0 y with g | g
    · exact sq_le g h.2
    · have e : y * y = (-y) * (-y) := by rw [Int.neg_mul_neg]
      rw [e]; exact sq_le (by omega) (by omega)
  have q1 := hq y1 hy1
  have q2 := hq y2 hy2
  have q3 := hq y3 hy3
  have hm : 268435456 ≤ m := by
    rcases Int.lt_or_le m 268435456 with h | h
    · have := sq_le hm2.1 (show m ≤ 268435455 by omega)
      omega
    · exact h
  have hmm : 268435456 * m ≤ m * m := Int.mul_le_mul_of_nonneg_right hm hm2.1
  have p1 := prod_bd y1 e1 m 742907 hy1 he1
  have p2 := prod_bd y2 e2 m 742907 hy2 he2
  have p3 := prod_bd y3 e3 m 742907 hy3 he3
  have r1 := prod_bd e1 e1 742907 742907 he1 he1
  have r2 := prod_bd e2 e2 742907 742907 he2 he2
  have r3 := prod_bd e3 e3 742907 742907 he3 he3
  have n1 := sq_nn e1
  have n2 := sq_nn e2
  have n3 := sq_nn e3
  rw [sq_plus, sq_plus, sq_plus] at hL
  generalize y1 * y1 = a1 at *
  generalize y2 * y2 = a2 at *
  generalize y3 * y3 = a3 at *
  generalize y1 * e1 = b1 at *
  generalize y2 * e2 = b2 at *
  generalize y3 * e3 = b3 at *
  generalize e1 * e1 = c1 at *
  generalize e2 * e2 = c2 at *
  generalize e3 * e3 = c3 at *
  have hL0 : 0 ≤ L := by omega
  obtain ⟨s0, s1, s2⟩ := rootP_spec L hL0
  refine ⟨hL0, ?_, ?_⟩
  · apply Int.not_lt.mp; intro h
    have h5 := sq_le (a := rootP L + 1) (b := m - 4194304) (by omega) (by omega)
    have e5 : (m - 4194304) * (m - 4194304) = m * m - 8388608 * m + 17592186044416 := by grind
    generalize rootP L = r at *
    generalize (r + 1) * (r + 1) = z at *
    generalize m * m = M at *
    omega
  · apply Int.not_lt.mp; intro h
    have h5 := sq_le (a := m + 4194304) (b := rootP L) (by omega) (by omega)
    have e5 : (m + 4194304) * (m + 4194304) = m * m + 8388608 * m + 17592186044416 := by grind
    generalize rootP L = r at *
    generalize r * r = z at *
    generalize m * m = M at *
    omega
theorem num_near (x : Int) (h : -759250488 ≤ x ∧ x ≤ 759250488) : -742907 ≤ partP (numP x) - x ∧ partP (numP x) - x ≤ 742907 := by
  have h1 := over_near (511 * x) 759250125 (by omega) (by omega)
  have e : numP x = 512 + overP (511 * x) 759250125 := by unfold numP; omega
  rw [e]
  unfold partP
  generalize overP (511 * x) 759250125 = n at *
  have h2 := over_near ((512 + n - 512) * 759250125) 511 (by omega) (by omega)
  omega
theorem fAt_max (q0 q1 q2 q3 : Int) : ∀ (j : Nat), j ≤ 4 → ∀ i, i < j → absP (lAt q0 q1 q2 q3 i) ≤ (fAt q0 q1 q2 q3 j).2
  | 0, _, i, hi => by omega
  | j + 1, h, i, hi => by
    rw [fAt_succ q0 q1 q2 q3 j (by omega)]
    unfold fStep
    rcases Nat.lt_or_ge i j with g | g
    · have ih := fAt_max q0 q1 q2 q3 j (by omega) i g
      split
      · simp only; omega
      · exact ih
    · obtain rfl : i = j := by omega
      split
      · exact Int.le_refl _
      · omega
theorem far_max (q0 q1 q2 q3 : Int) (i : Nat) (h : i < 4) : absP (lAt q0 q1 q2 q3 i) ≤ absP (lAt q0 q1 q2 q3 (farI q0 q1 q2 q3)) := by
  have h1 := fAt_max q0 q1 q2 q3 4 (by omega) i h
  rwa [fAt_far q0 q1 q2 q3 4 (by omega) (by omega)] at h1
theorem split_wid (u : Int) (hu : 0 ≤ u ∧ u ≤ 4294967295) : splitP u widL = [u / 1073741824, u / 1048576 % 1024, u / 1024 % 1024, u % 1024] := by
  have h : okF 32 widL = true := by decide +kernel
  unfold splitP
  rw [if_pos h]
  simp [splitF, widL, getP, placeB]
  omega
theorem join_wid (b n1 n2 n3 : Int) (hb : 0 ≤ b ∧ b < 4) (h1 : 0 ≤ n1 ∧ n1 ≤ 1023) (h2 : 0 ≤ n2 ∧ n2 ≤ 1023) (h3 : 0 ≤ n3 ∧ n3 ≤ 1023) :
    joinB widL [b, n1, n2, n3] = true ∧ joinV widL [b, n1, n2, n3] = 1073741824 * b + 1048576 * n1 + 1024 * n2 + n3 := by
  have h : okF 32 widL = true := by decide +kernel
  have k0 : putB 30 2 b = true := by unfold putB; simp [placeB]; omega
  have k1 : putB 20 10 n1 = true := by unfold putB; simp [placeB]; omega
  have k2 : putB 10 10 n2 = true := by unfold putB; simp [placeB]; omega
  have k3 : putB 0 10 n3 = true := by unfold putB; simp [placeB]; omega
  have v0 : putV 0 30 2 b = 1073741824 * b := by unfold putV; rw [if_pos k0]; simp; omega
  have v1 : putV (1073741824 * b) 20 10 n1 = 1073741824 * b + 1048576 * n1 := by unfold putV; rw [if_pos k1]; simp; omega
  have v2 : putV (1073741824 * b + 1048576 * n1) 10 10 n2 = 1073741824 * b + 1048576 * n1 + 1024 * n2 := by unfold putV; rw [if_pos k2]; simp; omega
  have v3 : putV (1073741824 * b + 1048576 * n1 + 1024 * n2) 0 10 n3 = 1073741824 * b + 1048576 * n1 + 1024 * n2 + n3 := by unfold putV; rw [if_pos k3]; simp; omega
  have hj : joinF 0 32 widL [b, n1, n2, n3] = (1073741824 * b + 1048576 * n1 + 1024 * n2 + n3, true) := by
    simp only [widL, joinF, show (32 : Int) - 2 = 30 from rfl, show (30 : Int) - 10 = 20 from rfl, show (20 : Int) - 10 = 10 from rfl, show (10 : Int) - 10 = 0 from rfl, k0, k1, k2, k3, if_true, v0, v1, v2, v3]
  have hB : joinB widL [b, n1, n2, n3] = true := by unfold joinB; rw [h, hj]; rfl
  exact ⟨hB, by unfold joinV; rw [if_pos hB, hj]⟩
/-- The parts of the unpacked quaternion. -/
def unI (b : Nat) (p1 p2 p3 : Int) (i : Nat) : Int := if i = b then rootP (leftP p1 p2 p3 (upK 3)) else partP (pk p1 p2 p3 (cntO b i))
theorem unC_unI (b : Nat) (p1 p2 p3 : Int) (hb : b < 4) : unC b p1 p2 p3 = #[.int .i32 (unI b p1 p2 p3 0), .int .i32 (unI b p1 p2 p3 1), .int .i32 (unI b p1 p2 p3 2), .int .i32 (unI b p1 p2 p3 3)] := by
  obtain rfl | rfl | rfl | rfl : b = 0 ∨ b = 1 ∨ b = 2 ∨ b = 3 := by omega
  all_goals rfl
theorem leftP_3 (p1 p2 p3 : Int) : leftP p1 p2 p3 (upK 3) = 1152921504606846976 - partP p1 * partP p1 - partP p2 * partP p2 - partP p3 * partP p3 := rfl
theorem sgnX_sq (l x : Int) : sgnX l x * sgnX l x = x * x := by unfold sgnX; split; exact Int.neg_mul_neg x x; rfl
theorem sgnX_self (x : Int) : sgnX x x = absP x := rfl
theorem sgnX_bd (l x m : Int) (h : absP x ≤ m) : -m ≤ sgnX l x ∧ sgnX l x ≤ m := by unfold sgnX; unfold absP at h; split <;> split at h <;> omega
theorem close_law (q0 q1 q2 q3 : Int) (iq0 : I32 q0) (iq1 : I32 q1) (iq2 : I32 q2) (iq3 : I32 q3) (hu : isP (sqP [q0, q1, q2, q3]) = true) :
    ∃ (b : Nat) (p1 p2 p3 u : Int), b < 4 ∧ farI q0 q1 q2 q3 = b ∧ (0 ≤ p1 ∧ p1 ≤ 1023) ∧ (0 ≤ p2 ∧ p2 ≤ 1023) ∧ (0 ≤ p3 ∧ p3 ≤ 1023) ∧ (0 ≤ u ∧ u ≤ 4294967295) ∧
      joinV widL (packL q0 q1 q2 q3 (farI q0 q1 q2 q3) (upK 3)) = u ∧ joinB widL (packL q0 q1 q2 q3 (farI q0 q1 q2 q3) (upK 3)) = true ∧ u ≠ 0 ∧
      splitP u widL = [(b : Int), p1, p2, p3] ∧ u / 1073741824 = b ∧ unB p1 p2 p3 = true ∧
      (∀ i, i < 4 → (-4194304 ≤ sgnX (lAt q0 q1 q2 q3 b) (lAt q0 q1 q2 q3 i) - unI b p1 p2 p3 i ∧ sgnX (lAt q0 q1 q2 q3 b) (lAt q0 q1 q2 q3 i) - unI b p1 p2 p3 i ≤ 4194304) ∧ (i ≠ b → -1048576 ≤ sgnX (lAt q0 q1 q2 q3 b) (lAt q0 q1 q2 q3 i) - unI b p1 p2 p3 i ∧ sgnX (lAt q0 q1 q2 q3 b) (lAt q0 q1 q2 q3 i) - unI b p1 p2 p3 i ≤ 1048576)) ∧
      (∀ i, i < 4 → -1073742336 ≤ lAt q0 q1 q2 q3 i ∧ lAt q0 q1 q2 q3 i ≤ 1073742336) := by
  have hb := far_lt q0 q1 q2 q3
  have hmx := far_max q0 q1 q2 q3
  have h4 := sqP_4 q0 q1 q2 q3
  have hN : -1099511627776 ≤ q0 * q0 + q1 * q1 + q2 * q2 + q3 * q3 - 1152921504606846976 ∧ q0 * q0 + q1 * q1 + q2 * q2 + q3 * q3 - 1152921504606846976 ≤ 1099511627776 := by
    unfold isP offP at hu
    simp only [decide_eq_true_eq] at hu
    split at hu
    · have := h4.2.2.1 (by omega); omega
    · have := h4.2.2.1 (by omega); omega
  clear h4 hu
  have hI := lAt_in q0 q1 q2 q3 iq0 iq1 iq2 iq3
  generalize hbb : farI q0 q1 q2 q3 = b at *
  have hS : q0 * q0 + q1 * q1 + q2 * q2 + q3 * q3 = absP (lAt q0 q1 q2 q3 b) * absP (lAt q0 q1 q2 q3 b) + sgnX (lAt q0 q1 q2 q3 b) (lAt q0 q1 q2 q3 (oth b 0)) * sgnX (lAt q0 q1 q2 q3 b) (lAt q0 q1 q2 q3 (oth b 0))
      + sgnX (lAt q0 q1 q2 q3 b) (lAt q0 q1 q2 q3 (oth b 1)) * sgnX (lAt q0 q1 q2 q3 b) (lAt q0 q1 q2 q3 (oth b 1)) + sgnX (lAt q0 q1 q2 q3 b) (lAt q0 q1 q2 q3 (oth b 2)) * sgnX (lAt q0 q1 q2 q3 b) (lAt q0 q1 q2 q3 (oth b 2)) := by
    rw [← sgnX_self, sgnX_sq, sgnX_sq, sgnX_sq, sgnX_sq]
    obtain rfl | rfl | rfl | rfl : b = 0 ∨ b = 1 ∨ b = 2 ∨ b = 3 := by omega
    all_goals (simp [lAt, oth]; try omega)
  rw [hS] at hN
  have ho : ∀ k, k < 3 → oth b k < 4 ∧ oth b k ≠ b := fun k hk => by unfold oth; split <;> omega
  have hm0 : 0 ≤ absP (lAt q0 q1 q2 q3 b) ∧ absP (lAt q0 q1 q2 q3 b) ≤ 2147483648 := by have := (hI b hb).2; unfold I32 at this; unfold absP; split <;> omega
  have y1 := sgnX_bd (lAt q0 q1 q2 q3 b) _ _ (hmx _ (ho 0 (by omega)).1)
  have y2 := sgnX_bd (lAt q0 q1 q2 q3 b) _ _ (hmx _ (ho 1 (by omega)).1)
  have y3 := sgnX_bd (lAt q0 q1 q2 q3 b) _ _ (hmx _ (ho 2 (by omega)).1)
  have hpl : packL q0 q1 q2 q3 b (upK 3) = [(b : Int), numP (sgnX (lAt q0 q1 q2 q3 b) (lAt q0 q1 q2 q3 (oth b 0))), numP (sgnX (lAt q0 q1 q2 q3 b) (lAt q0 q1 q2 q3 (oth b 1))), numP (sgnX (lAt q0 q1 q2 q3 b) (lAt q0 q1 q2 q3 (oth b 2)))] := rfl
  have hI2 : ∀ i, i < 4 → i ≠ b → sgnX (lAt q0 q1 q2 q3 b) (lAt q0 q1 q2 q3 i) = sgnX (lAt q0 q1 q2 q3 b) (lAt q0 q1 q2 q3 (oth b (cntO b i))) ∧ cntO b i < 3 := fun i hi hne => by
    have : oth b (cntO b i) = i := by unfold oth cntO; split <;> split <;> omega
    rw [this]
    exact ⟨rfl, by unfold cntO; split <;> omega⟩
  have hbig : ∀ i, i < 4 → -1073742336 ≤ lAt q0 q1 q2 q3 i ∧ lAt q0 q1 q2 q3 i ≤ 1073742336 := fun i hi => by
    have h1 := hmx i hi
    have n1 := sq_nn (sgnX (lAt q0 q1 q2 q3 b) (lAt q0 q1 q2 q3 (oth b 0)))
    have n2 := sq_nn (sgnX (lAt q0 q1 q2 q3 b) (lAt q0 q1 q2 q3 (oth b 1)))
    have n3 := sq_nn (sgnX (lAt q0 q1 q2 q3 b) (lAt q0 q1 q2 q3 (oth b 2)))
    have h2 : absP (lAt q0 q1 q2 q3 b) ≤ 1073742336 := by
      apply Int.not_lt.mp; intro h
      have := sq_le (a := 1073742337) (b := absP (lAt q0 q1 q2 q3 b)) (by omega) (by omega)
      generalize absP (lAt q0 q1 q2 q3 b) * absP (lAt q0 q1 q2 q3 b) = z at *
      omega
    generalize absP (lAt q0 q1 q2 q3 b) = m at *
    unfold absP at h1
    split at h1 <;> omega
  have hsb : lAt q0 q1 q2 q3 b = lAt q0 q1 q2 q3 b := rfl
  rw [← sgnX_self] at hm0 hN y1 y2 y3
  generalize hy1 : sgnX (lAt q0 q1 q2 q3 b) (lAt q0 q1 q2 q3 (oth b 0)) = x1 at *
  generalize hy2 : sgnX (lAt q0 q1 q2 q3 b) (lAt q0 q1 q2 q3 (oth b 1)) = x2 at *
  generalize hy3 : sgnX (lAt q0 q1 q2 q3 b) (lAt q0 q1 q2 q3 (oth b 2)) = x3 at *
  generalize hmb : sgnX (lAt q0 q1 q2 q3 b) (lAt q0 q1 q2 q3 b) = m at *
  have hx : ∀ x, -m ≤ x ∧ x ≤ m → m * m + x * x ≤ 1152922604118474752 → -759250488 ≤ x ∧ x ≤ 759250488 := fun x h h2 => by
    have e : x * x ≤ m * m := by
      rcases Int.le_total 0 x with g | g
      · exact sq_le g h.2
      · have e : x * x = (-x) * (-x) := by rw [Int.neg_mul_neg]
        rw [e]; exact sq_le (by omega) (by omega)
    have : x * x ≤ 759250488 * 759250488 := by omega
    exact sq_le_abs x 759250488 (by omega) this
  have n1 := sq_nn x1
  have n2 := sq_nn x2
  have n3 := sq_nn x3
  have z1 := num_near x1 (hx x1 y1 (by omega))
  have z2 := num_near x2 (hx x2 y2 (by omega))
  have z3 := num_near x3 (hx x3 y3 (by omega))
  have b1 := num_bd x1
  have b2 := num_bd x2
  have b3 := num_bd x3
  obtain ⟨j1, j2⟩ := join_wid b (numP x1) (numP x2) (numP x3) (by omega) (by omega) (by omega) (by omega)
  have hc := small_core m x1 x2 x3 (partP (numP x1) - x1) (partP (numP x2) - x2) (partP (numP x3) - x3) (leftP (numP x1) (numP x2) (numP x3) (upK 3)) hm0 y1 y2 y3 z1 z2 z3 hN
    (by rw [leftP_3, show x1 + (partP (numP x1) - x1) = partP (numP x1) by omega, show x2 + (partP (numP x2) - x2) = partP (numP x2) by omega, show x3 + (partP (numP x3) - x3) = partP (numP x3) by omega])
  refine ⟨b, numP x1, numP x2, numP x3, 1073741824 * b + 1048576 * numP x1 + 1024 * numP x2 + numP x3, hb, rfl, by omega, by omega, by omega, by omega, by rw [hpl]; exact j2, by rw [hpl]; exact j1, by omega, ?_, by omega, ?_, ?_, hbig⟩
  · rw [split_wid _ (by omega)]
    have : ∀ a b c d a' b' c' d' : Int, a = a' → b = b' → c = c' → d = d' → [a, b, c, d] = [a', b', c', d'] := by rintro _ _ _ _ _ _ _ _ rfl rfl rfl rfl; rfl
    exact this _ _ _ _ _ _ _ _ (by omega) (by omega) (by omega) (by omega)
  · unfold unB
    simp
    omega
  · intro i hi
    by_cases g : i = b
    · subst g
      rw [hmb]
      unfold unI
      rw [if_pos rfl]
      exact ⟨by omega, fun h => absurd rfl h⟩
    · obtain ⟨s1, s2⟩ := hI2 i hi g
      rw [s1]
      unfold unI
      rw [if_neg g]
      obtain h | h | h : cntO b i = 0 ∨ cntO b i = 1 ∨ cntO b i = 2 := by omega
      · rw [h, hy1, show pk (numP x1) (numP x2) (numP x3) 0 = numP x1 from rfl]; exact ⟨by omega, fun _ => by omega⟩
      · rw [h, hy2, show pk (numP x1) (numP x2) (numP x3) 1 = numP x2 from rfl]; exact ⟨by omega, fun _ => by omega⟩
      · rw [h, hy3, show pk (numP x1) (numP x2) (numP x3) 2 = numP x3 from rfl]; exact ⟨by omega, fun _ => by omega⟩
end Go.Proofs.Ytfogjfmpgfcolaa
