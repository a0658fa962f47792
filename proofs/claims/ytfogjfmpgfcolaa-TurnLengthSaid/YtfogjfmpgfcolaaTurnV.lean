/- Chapter 13: a vector that is turned by a unit is as long as it was. -/
import Derived.Test.YtfogjfmpgfcolaaTurnD
import Derived.Test.YtfogjfmpgfcolaaQuatLaw
import Derived.Test.YtfogjfmpgfcolaaRootD
namespace Go.Proofs.Ytfogjfmpgfcolaa
set_option linter.unusedVariables false
set_option linter.unusedSimpArgs false

theorem cs3 (a0 a1 a2 b0 b1 b2 : Int) : (a0*b0 + a1*b1 + a2*b2) * (a0*b0 + a1*b1 + a2*b2) ≤ (a0*a0 + a1*a1 + a2*a2) * (b0*b0 + b1*b1 + b2*b2) := by
  have h0 := sq_nn (a0*b1 - a1*b0)
  have h1 := sq_nn (a1*b2 - a2*b1)
  have h2 := sq_nn (a2*b0 - a0*b2)
  have e : (a0*a0 + a1*a1 + a2*a2) * (b0*b0 + b1*b1 + b2*b2) = (a0*b0 + a1*b1 + a2*b2) * (a0*b0 + a1*b1 + a2*b2) + (a0*b1 - a1*b0) * (a0*b1 - a1*b0) + (a1*b2 - a2*b1) * (a1*b2 - a2*b1) + (a2*b0 - a0*b2) * (a2*b0 - a0*b2) := by grind
  omega
theorem turned_sq (S w x y z a b c : Int) :
    (S*a + 2*w*(y*c - z*b) + 2*(y*(x*b - y*a) - z*(z*a - x*c))) * (S*a + 2*w*(y*c - z*b) + 2*(y*(x*b - y*a) - z*(z*a - x*c))) +
    (S*b + 2*w*(z*a - x*c) + 2*(z*(y*c - z*b) - x*(x*b - y*a))) * (S*b + 2*w*(z*a - x*c) + 2*(z*(y*c - z*b) - x*(x*b - y*a))) +
    (S*c + 2*w*(x*b - y*a) + 2*(x*(z*a - x*c) - y*(y*c - z*b))) * (S*c + 2*w*(x*b - y*a) + 2*(x*(z*a - x*c) - y*(y*c - z*b)))
    = S*S*(a*a + b*b + c*c) + 4*(w*w + x*x + y*y + z*z - S)*((y*c - z*b)*(y*c - z*b) + (z*a - x*c)*(z*a - x*c) + (x*b - y*a)*(x*b - y*a)) := by grind
theorem cross_sq (x y z a b c : Int) : (y*c - z*b)*(y*c - z*b) + (z*a - x*c)*(z*a - x*c) + (x*b - y*a)*(x*b - y*a) ≤ (x*x + y*y + z*z) * (a*a + b*b + c*c) := by
  have h := sq_nn (x*a + y*b + z*c)
  have e : (x*x + y*y + z*z) * (a*a + b*b + c*c) = (y*c - z*b)*(y*c - z*b) + (z*a - x*c)*(z*a - x*c) + (x*b - y*a)*(x*b - y*a) + (x*a + y*b + z*c) * (x*a + y*b + z*c) := by grind
  omega
/-- The plain numbers: lengths that differ by little. -/
theorem len_up (S Vv An En AE Rn Dn V : Int) (hS : S = 1152921504606846976) (hV : 0 ≤ V ∧ V ≤ 33554430) (hVv : 0 ≤ Vv ∧ Vv < (V + 1) * (V + 1))
    (hR : S * S * Rn = An + 2 * AE + En) (hA : An = S * S * Vv + Dn) (hD : 16777216 * Dn ≤ S * S * Vv) (hEn : 0 ≤ En ∧ En ≤ 196 * (S * S)) (hcs : AE * AE ≤ An * En) (hAn : 0 ≤ An) : Rn ≤ (V + 16) * (V + 16) := by
  have hSS : 0 < S * S := by rw [hS]; decide
  -- An ≤ (S (V+2))^2
  have h1 : An ≤ S * S * ((V + 2) * (V + 2)) := by
    have e1 : 16777216 * Vv + Vv ≤ 16777216 * ((V + 2) * (V + 2)) := by
      have e2 : (V + 2) * (V + 2) = (V + 1) * (V + 1) + 2 * V + 3 := by grind
      have e3 : (V + 1) * (V + 1) ≤ 33554431 * (V + 1) := Int.mul_le_mul_of_nonneg_right (by omega) (by omega)
      omega
    have e4 := Int.mul_le_mul_of_nonneg_left e1 (Int.le_of_lt hSS)
    have e5 : S * S * (16777216 * Vv + Vv) = 16777216 * (S * S * Vv) + S * S * Vv := by grind
    have e6 : S * S * (16777216 * ((V + 2) * (V + 2))) = 16777216 * (S * S * ((V + 2) * (V + 2))) := by grind
    rw [e5, e6] at e4
    omega
  have h2 : AE * AE ≤ (14 * (S * S) * (V + 2)) * (14 * (S * S) * (V + 2)) := by
    have e1 : An * En ≤ (S * S * ((V + 2) * (V + 2))) * (196 * (S * S)) := Int.mul_le_mul h1 hEn.2 hEn.1 (Int.mul_nonneg (Int.le_of_lt hSS) (sq_nn _))
    have e2 : (S * S * ((V + 2) * (V + 2))) * (196 * (S * S)) = (14 * (S * S) * (V + 2)) * (14 * (S * S) * (V + 2)) := by grind
    omega
  have h3 := (sq_le_abs AE (14 * (S * S) * (V + 2)) (Int.mul_nonneg (by omega) (by omega)) h2).2
  have h4 : S * S * Rn ≤ S * S * ((V + 16) * (V + 16)) := by
    have e : S * S * ((V + 16) * (V + 16)) = S * S * ((V + 2) * (V + 2)) + 2 * (14 * (S * S) * (V + 2)) + 196 * (S * S) := by grind
    omega
  exact Int.le_of_mul_le_mul_left h4 hSS
theorem len_down (S Vv An En RE Rn Dn V R : Int) (hS : S = 1152921504606846976) (hV : 0 ≤ V ∧ V ≤ 33554430) (hR0 : 0 ≤ R) (hVv : V * V ≤ Vv ∧ 0 ≤ Vv) (hRn : 0 ≤ Rn ∧ Rn ≤ (R + 1) * (R + 1))
    (hA : An = S * S * Vv + Dn) (hD : -(S * S * Vv) ≤ 16777216 * Dn) (hEn : 0 ≤ En ∧ En ≤ 196 * (S * S)) (hAr : An = S * S * Rn - 2 * S * RE + En) (hcs : RE * RE ≤ Rn * En) : V ≤ R + 16 := by
  have hSS : 0 < S * S := by rw [hS]; decide
  have hS0 : 0 < S := by omega
  have h2 : RE * RE ≤ (14 * S * (R + 1)) * (14 * S * (R + 1)) := by
    have e1 : Rn * En ≤ ((R + 1) * (R + 1)) * (196 * (S * S)) := Int.mul_le_mul hRn.2 hEn.2 hEn.1 (sq_nn _)
    have e2 : ((R + 1) * (R + 1)) * (196 * (S * S)) = (14 * S * (R + 1)) * (14 * S * (R + 1)) := by grind
    omega
  have h3 := (sq_le_abs RE (14 * S * (R + 1)) (Int.mul_nonneg (by omega) (by omega)) h2).1
  have h4 : An ≤ S * S * ((R + 15) * (R + 15)) := by
    have e1 : S * S * Rn ≤ S * S * ((R + 1) * (R + 1)) := Int.mul_le_mul_of_nonneg_left hRn.2 (Int.le_of_lt hSS)
    have e2 : 2 * S * (-(14 * S * (R + 1))) ≤ 2 * S * RE := Int.mul_le_mul_of_nonneg_left h3 (by omega)
    have e3 : 2 * S * (-(14 * S * (R + 1))) = -(28 * (S * S) * (R + 1)) := by grind
    have e4 : S * S * ((R + 15) * (R + 15)) = S * S * ((R + 1) * (R + 1)) + 28 * (S * S) * (R + 1) + 196 * (S * S) := by grind
    omega
  apply Int.not_lt.mp
  intro g
  -- V ≥ R + 17: (R+15)^2 ≤ (V-2)^2
  have h5 : (R + 15) * (R + 15) ≤ (V - 2) * (V - 2) := Int.mul_le_mul (by omega) (by omega) (by omega) (by omega)
  have h6 : 16777216 * Vv - Vv ≤ 16777216 * ((V - 2) * (V - 2)) := by
    have e1 : S * S * (16777216 * Vv - Vv) ≤ S * S * (16777216 * ((R + 15) * (R + 15))) := by
      have e2 : S * S * (16777216 * Vv - Vv) = 16777216 * (S * S * Vv) - S * S * Vv := by grind
      have e3 : S * S * (16777216 * ((R + 15) * (R + 15))) = 16777216 * (S * S * ((R + 15) * (R + 15))) := by grind
      rw [e2, e3]
      omega
    have e4 := Int.le_of_mul_le_mul_left e1 hSS
    omega
  have h7 : (V - 2) * (V - 2) = V * V - 4 * V + 4 := by grind
  have h8 : V * V ≤ 33554430 * V := Int.mul_le_mul_of_nonneg_right hV.2 hV.1
  omega

theorem near_abs (x N : Int) (h : x * x ≤ N) (hN : N ≤ 1152921513196781568) : -1073741828 ≤ x ∧ x ≤ 1073741828 :=
  sq_le_abs x 1073741828 (by omega) (by have e : (1073741828 : Int) * 1073741828 = 1152921513196781584 := by decide
                                        omega)
/-- One part of what is turned: t twice across, nearly; r nearly A. -/
theorem part_t (x y vj vk t : Int) (ix : I32 x) (iy : I32 y) (ij : I32 vj) (ik : I32 vk) (ht : t = 2 * (tmP x vk - tmP y vj)) : -2147483648 ≤ 1073741824 * t - 2 * (x * vk - y * vj) ∧ 1073741824 * t - 2 * (x * vk - y * vj) ≤ 2147483648 := by
  have h1 := tm_near x vk ix ik
  have h2 := tm_near y vj iy ij
  rw [ht]
  omega
theorem part_r (w v x y ti tj tk r : Int) (iw : I32 w) (ix : I32 x) (iy : I32 y) (ii : I32 ti) (ij : I32 tj) (ik : I32 tk) (hr : r = v + tmP w ti + (tmP x tk - tmP y tj)) :
    -1610612736 ≤ 1073741824 * r - (1073741824 * v + w * ti + x * tk - y * tj) ∧ 1073741824 * r - (1073741824 * v + w * ti + x * tk - y * tj) ≤ 1610612736 := by
  have h1 := tm_near w ti iw ii
  have h2 := tm_near x tk ix ik
  have h3 := tm_near y tj iy ij
  rw [hr]
  omega
theorem part_E (w x y v ci cj ck ti tj tk r : Int) (hw : -1073741828 ≤ w ∧ w ≤ 1073741828) (hx : -1073741828 ≤ x ∧ x ≤ 1073741828) (hy : -1073741828 ≤ y ∧ y ≤ 1073741828)
    (di : -2147483648 ≤ 1073741824 * ti - 2 * ci ∧ 1073741824 * ti - 2 * ci ≤ 2147483648) (dj : -2147483648 ≤ 1073741824 * tj - 2 * cj ∧ 1073741824 * tj - 2 * cj ≤ 2147483648) (dk : -2147483648 ≤ 1073741824 * tk - 2 * ck ∧ 1073741824 * tk - 2 * ck ≤ 2147483648)
    (hr : -1610612736 ≤ 1073741824 * r - (1073741824 * v + w * ti + x * tk - y * tj) ∧ 1073741824 * r - (1073741824 * v + w * ti + x * tk - y * tj) ≤ 1610612736) :
    -8762203435012037018 ≤ 1152921504606846976 * r - (1152921504606846976 * v + 2 * w * ci + 2 * (x * ck - y * cj)) ∧ 1152921504606846976 * r - (1152921504606846976 * v + 2 * w * ci + 2 * (x * ck - y * cj)) ≤ 8762203435012037018 := by
  have p1 := prod_bd w (1073741824 * ti - 2 * ci) 1073741828 2147483648 hw di
  have p2 := prod_bd x (1073741824 * tk - 2 * ck) 1073741828 2147483648 hx dk
  have p3 := prod_bd y (1073741824 * tj - 2 * cj) 1073741828 2147483648 hy dj
  have e : 1152921504606846976 * r - (1152921504606846976 * v + 2 * w * ci + 2 * (x * ck - y * cj)) = 1073741824 * (1073741824 * r - (1073741824 * v + w * ti + x * tk - y * tj)) + w * (1073741824 * ti - 2 * ci) + x * (1073741824 * tk - 2 * ck) - y * (1073741824 * tj - 2 * cj) := by grind
  rw [e]
  generalize w * (1073741824 * ti - 2 * ci) = P1 at *
  generalize x * (1073741824 * tk - 2 * ck) = P2 at *
  generalize y * (1073741824 * tj - 2 * cj) = P3 at *
  generalize 1073741824 * r - (1073741824 * v + w * ti + x * tk - y * tj) = P4 at *
  omega
theorem cross_bd (x y vj vk : Int) (hx : -1073741828 ≤ x ∧ x ≤ 1073741828) (hy : -1073741828 ≤ y ∧ y ≤ 1073741828) (hj : -16777216 ≤ vj ∧ vj ≤ 16777216) (hk : -16777216 ≤ vk ∧ vk ≤ 16777216) : -36028797287858176 ≤ x * vk - y * vj ∧ x * vk - y * vj ≤ 36028797287858176 := by
  have p1 := prod_bd x vk 1073741828 16777216 hx hk
  have p2 := prod_bd y vj 1073741828 16777216 hy hj
  omega
theorem r_bd (w x y v ti tj tk r : Int) (hw : -1073741828 ≤ w ∧ w ≤ 1073741828) (hx : -1073741828 ≤ x ∧ x ≤ 1073741828) (hy : -1073741828 ≤ y ∧ y ≤ 1073741828) (hv : -16777216 ≤ v ∧ v ≤ 16777216)
    (hi : -67108868 ≤ ti ∧ ti ≤ 67108868) (hj : -67108868 ≤ tj ∧ tj ≤ 67108868) (hk : -67108868 ≤ tk ∧ tk ≤ 67108868)
    (hr : -1610612736 ≤ 1073741824 * r - (1073741824 * v + w * ti + x * tk - y * tj) ∧ 1073741824 * r - (1073741824 * v + w * ti + x * tk - y * tj) ≤ 1610612736) : -300000000 ≤ r ∧ r ≤ 300000000 := by
  have p1 := prod_bd w ti 1073741828 67108868 hw hi
  have p2 := prod_bd x tk 1073741828 67108868 hx hk
  have p3 := prod_bd y tj 1073741828 67108868 hy hj
  omega
theorem length_law (w x y z a b c : Int) (iw : I32 w) (ix : I32 x) (iy : I32 y) (iz : I32 z)
    (h1 : 1152921496016912384 ≤ w * w + x * x + y * y + z * z) (h2 : w * w + x * x + y * y + z * z ≤ 1152921513196781568)
    (ha : -16777216 ≤ a ∧ a ≤ 16777216) (hb : -16777216 ≤ b ∧ b ≤ 16777216) (hc : -16777216 ≤ c ∧ c ≤ 16777216) :
    (I32 (rtT0 x y z a b c) ∧ I32 (rtT1 x y z a b c) ∧ I32 (rtT2 x y z a b c)) ∧
    (∀ t0 t1 t2, t0 = rtT0 x y z a b c → t1 = rtT1 x y z a b c → t2 = rtT2 x y z a b c →
      (I32 (rtR0 w x y z a b c t0 t1 t2) ∧ I32 (rtR1 w x y z a b c t0 t1 t2) ∧ I32 (rtR2 w x y z a b c t0 t1 t2)) ∧
      rootP (sqP [rtR0 w x y z a b c t0 t1 t2, rtR1 w x y z a b c t0 t1 t2, rtR2 w x y z a b c t0 t1 t2]) ≤ rootP (sqP [a, b, c]) + 16 ∧
      rootP (sqP [a, b, c]) ≤ rootP (sqP [rtR0 w x y z a b c t0 t1 t2, rtR1 w x y z a b c t0 t1 t2, rtR2 w x y z a b c t0 t1 t2]) + 16) := by
  have sw := sq_nn w
  have sx := sq_nn x
  have sy := sq_nn y
  have sz := sq_nn z
  have bw := near_abs w _ (by omega : w * w ≤ w * w + x * x + y * y + z * z) h2
  have bx := near_abs x _ (by omega : x * x ≤ w * w + x * x + y * y + z * z) h2
  have by_ := near_abs y _ (by omega : y * y ≤ w * w + x * x + y * y + z * z) h2
  have bz := near_abs z _ (by omega : z * z ≤ w * w + x * x + y * y + z * z) h2
  have ia : I32 a := by unfold I32; omega
  have ib : I32 b := by unfold I32; omega
  have ic : I32 c := by unfold I32; omega
  have d0 := part_t y z b c (rtT0 x y z a b c) iy iz ib ic rfl
  have d1 := part_t z x c a (rtT1 x y z a b c) iz ix ic ia rfl
  have d2 := part_t x y a b (rtT2 x y z a b c) ix iy ia ib rfl
  have k0 := cross_bd y z b c by_ bz hb hc
  have k1 := cross_bd z x c a bz bx hc ha
  have k2 := cross_bd x y a b bx by_ ha hb
  have t0b : -67108868 ≤ rtT0 x y z a b c ∧ rtT0 x y z a b c ≤ 67108868 := by omega
  have t1b : -67108868 ≤ rtT1 x y z a b c ∧ rtT1 x y z a b c ≤ 67108868 := by omega
  have t2b : -67108868 ≤ rtT2 x y z a b c ∧ rtT2 x y z a b c ≤ 67108868 := by omega
  refine ⟨⟨by unfold I32; omega, by unfold I32; omega, by unfold I32; omega⟩, ?_⟩
  intro t0 t1 t2 e0 e1 e2
  rw [← e0] at d0 t0b
  rw [← e1] at d1 t1b
  rw [← e2] at d2 t2b
  clear e0 e1 e2
  have i0 : I32 t0 := by unfold I32; omega
  have i1 : I32 t1 := by unfold I32; omega
  have i2 : I32 t2 := by unfold I32; omega
  have r0 := part_r w a y z t0 t1 t2 (rtR0 w x y z a b c t0 t1 t2) iw iy iz i0 i1 i2 rfl
  have r1 := part_r w b z x t1 t2 t0 (rtR1 w x y z a b c t0 t1 t2) iw iz ix i1 i2 i0 rfl
  have r2 := part_r w c x y t2 t0 t1 (rtR2 w x y z a b c t0 t1 t2) iw ix iy i2 i0 i1 rfl
  have rb0 := r_bd w y z a t0 t1 t2 _ bw by_ bz ha t0b t1b t2b r0
  have rb1 := r_bd w z x b t1 t2 t0 _ bw bz bx hb t1b t2b t0b r1
  have rb2 := r_bd w x y c t2 t0 t1 _ bw bx by_ hc t2b t0b t1b r2
  have E0 := part_E w y z a (y*c - z*b) (z*a - x*c) (x*b - y*a) t0 t1 t2 _ bw by_ bz d0 d1 d2 r0
  have E1 := part_E w z x b (z*a - x*c) (x*b - y*a) (y*c - z*b) t1 t2 t0 _ bw bz bx d1 d2 d0 r1
  have E2 := part_E w x y c (x*b - y*a) (y*c - z*b) (z*a - x*c) t2 t0 t1 _ bw bx by_ d2 d0 d1 r2
  generalize rtR0 w x y z a b c t0 t1 t2 = R0 at *
  generalize rtR1 w x y z a b c t0 t1 t2 = R1 at *
  generalize rtR2 w x y z a b c t0 t1 t2 = R2 at *
  clear d0 d1 d2 r0 r1 r2 k0 k1 k2 t0b t1b t2b i0 i1 i2
  refine ⟨⟨by unfold I32; omega, by unfold I32; omega, by unfold I32; omega⟩, ?_⟩
  obtain ⟨S, hS⟩ : ∃ S : Int, S = 1152921504606846976 := ⟨_, rfl⟩
  rw [← hS] at E0 E1 E2
  have TS := turned_sq S w x y z a b c
  have CS := cross_sq x y z a b c
  obtain ⟨A0, hA0⟩ : ∃ A, A = S*a + 2*w*(y*c - z*b) + 2*(y*(x*b - y*a) - z*(z*a - x*c)) := ⟨_, rfl⟩
  obtain ⟨A1, hA1⟩ : ∃ A, A = S*b + 2*w*(z*a - x*c) + 2*(z*(y*c - z*b) - x*(x*b - y*a)) := ⟨_, rfl⟩
  obtain ⟨A2, hA2⟩ : ∃ A, A = S*c + 2*w*(x*b - y*a) + 2*(x*(z*a - x*c) - y*(y*c - z*b)) := ⟨_, rfl⟩
  rw [← hA0] at E0 TS
  rw [← hA1] at E1 TS
  rw [← hA2] at E2 TS
  have C0 : 0 ≤ (y*c - z*b)*(y*c - z*b) + (z*a - x*c)*(z*a - x*c) + (x*b - y*a)*(x*b - y*a) := by
    have g0 := sq_nn (y*c - z*b)
    have g1 := sq_nn (z*a - x*c)
    have g2 := sq_nn (x*b - y*a)
    omega
  clear hA0 hA1 hA2
  generalize (y*c - z*b)*(y*c - z*b) + (z*a - x*c)*(z*a - x*c) + (x*b - y*a)*(x*b - y*a) = Cn at *
  obtain ⟨e0, he0⟩ : ∃ e, e = S * R0 - A0 := ⟨_, rfl⟩
  obtain ⟨e1, he1⟩ : ∃ e, e = S * R1 - A1 := ⟨_, rfl⟩
  obtain ⟨e2, he2⟩ : ∃ e, e = S * R2 - A2 := ⟨_, rfl⟩
  rw [← he0] at E0
  rw [← he1] at E1
  rw [← he2] at E2
  have q0 := prod_bd e0 e0 8762203435012037018 8762203435012037018 E0 E0
  have q1 := prod_bd e1 e1 8762203435012037018 8762203435012037018 E1 E1
  have q2 := prod_bd e2 e2 8762203435012037018 8762203435012037018 E2 E2
  have n0 := sq_nn e0
  have n1 := sq_nn e1
  have n2 := sq_nn e2
  have hEn : 0 ≤ e0*e0 + e1*e1 + e2*e2 ∧ e0*e0 + e1*e1 + e2*e2 ≤ 196 * (S * S) := by rw [hS]; omega
  -- the squares' sums
  have sa := prod_bd a a 16777216 16777216 ha ha
  have sb := prod_bd b b 16777216 16777216 hb hb
  have sc := prod_bd c c 16777216 16777216 hc hc
  have na := sq_nn a
  have nb := sq_nn b
  have nc := sq_nn c
  have sr0 := prod_bd R0 R0 300000000 300000000 rb0 rb0
  have sr1 := prod_bd R1 R1 300000000 300000000 rb1 rb1
  have sr2 := prod_bd R2 R2 300000000 300000000 rb2 rb2
  have nr0 := sq_nn R0
  have nr1 := sq_nn R1
  have nr2 := sq_nn R2
  have qv : sqP [a, b, c] = a*a + b*b + c*c := by simp only [sqP, sqs]; omega
  have qr : sqP [R0, R1, R2] = R0*R0 + R1*R1 + R2*R2 := by simp only [sqP, sqs]; omega
  rw [qv, qr]
  obtain ⟨v1, v2, v3⟩ := rootP_spec (a*a + b*b + c*c) (by omega)
  obtain ⟨s1, s2, s3⟩ := rootP_spec (R0*R0 + R1*R1 + R2*R2) (by omega)
  have vb : rootP (a*a + b*b + c*c) ≤ 33554430 := by
    have hm := root_mono (n := a*a + b*b + c*c) (m := 33554430 * 33554430) (by omega) (by omega)
    rw [root_eq (n := 33554430 * 33554430) (r := 33554430) (by omega) (by omega) (by omega)] at hm
    exact hm
  -- how far the norm is off
  have hD : 4 * (w * w + x * x + y * y + z * z - S) * Cn ≤ 34359738368 * Cn ∧ -(34359738368 * Cn) ≤ 4 * (w * w + x * x + y * y + z * z - S) * Cn := by
    constructor
    · exact Int.mul_le_mul_of_nonneg_right (by omega) C0
    · have := Int.mul_le_mul_of_nonneg_right (show -34359738368 ≤ 4 * (w * w + x * x + y * y + z * z - S) by omega) C0
      omega
  have hCn : Cn ≤ 1152921513196781568 * (a*a + b*b + c*c) := Int.le_trans CS (Int.mul_le_mul_of_nonneg_right (by omega) (by omega))
  have hD2 : 16777216 * (34359738368 * Cn) ≤ S * S * (a*a + b*b + c*c) := by
    rw [hS]
    generalize a*a + b*b + c*c = Vv at *
    omega
  generalize 4 * (w * w + x * x + y * y + z * z - S) * Cn = Dn at *
  have hAn : A0*A0 + A1*A1 + A2*A2 = S * S * (a*a + b*b + c*c) + Dn := TS
  have csA := cs3 A0 A1 A2 e0 e1 e2
  have csR := cs3 R0 R1 R2 e0 e1 e2
  have nA : 0 ≤ A0*A0 + A1*A1 + A2*A2 := by
    have g0 := sq_nn A0
    have g1 := sq_nn A1
    have g2 := sq_nn A2
    omega
  have hR1 : S * S * (R0*R0 + R1*R1 + R2*R2) = (A0*A0 + A1*A1 + A2*A2) + 2 * (A0*e0 + A1*e1 + A2*e2) + (e0*e0 + e1*e1 + e2*e2) := by
    have g0 : S * R0 = A0 + e0 := by omega
    have g1 : S * R1 = A1 + e1 := by omega
    have g2 : S * R2 = A2 + e2 := by omega
    have g : S * S * (R0*R0 + R1*R1 + R2*R2) = (S * R0) * (S * R0) + (S * R1) * (S * R1) + (S * R2) * (S * R2) := by grind
    rw [g, g0, g1, g2]
    grind
  have hR2 : A0*A0 + A1*A1 + A2*A2 = S * S * (R0*R0 + R1*R1 + R2*R2) - 2 * S * (R0*e0 + R1*e1 + R2*e2) + (e0*e0 + e1*e1 + e2*e2) := by
    have g0 : A0 = S * R0 - e0 := by omega
    have g1 : A1 = S * R1 - e1 := by omega
    have g2 : A2 = S * R2 - e2 := by omega
    rw [g0, g1, g2]
    grind
  have nRn : 0 ≤ R0*R0 + R1*R1 + R2*R2 := by omega
  have nVv : 0 ≤ a*a + b*b + c*c := by omega
  generalize A0*A0 + A1*A1 + A2*A2 = An at *
  generalize A0*e0 + A1*e1 + A2*e2 = AE at *
  generalize R0*e0 + R1*e1 + R2*e2 = RE at *
  generalize e0*e0 + e1*e1 + e2*e2 = En at *
  generalize R0*R0 + R1*R1 + R2*R2 = Rn at *
  generalize a*a + b*b + c*c = Vv at *
  constructor
  · have hu := len_up S Vv An En AE Rn Dn (rootP Vv) hS ⟨v1, vb⟩ ⟨by omega, v3⟩ hR1 hAn (by omega) hEn csA nA
    apply Int.not_lt.mp
    intro g
    have := Int.mul_le_mul (a := rootP Vv + 17) (b := rootP Vv + 17) (c := rootP Rn) (d := rootP Rn) (by omega) (by omega) (by omega) (by omega)
    have e : (rootP Vv + 17) * (rootP Vv + 17) = (rootP Vv + 16) * (rootP Vv + 16) + 2 * rootP Vv + 33 := by grind
    omega
  · exact len_down S Vv An En RE Rn Dn (rootP Vv) (rootP Rn) hS ⟨v1, vb⟩ s1 ⟨v2, by omega⟩ ⟨by omega, Int.le_of_lt s3⟩ hAn (by omega) hEn hR2 csR
end Go.Proofs.Ytfogjfmpgfcolaa
