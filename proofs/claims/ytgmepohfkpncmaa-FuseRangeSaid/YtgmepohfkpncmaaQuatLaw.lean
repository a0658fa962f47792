/- Chapter 10: the plain laws of the product: one changes nothing, turned round, and the norm of a product. No program is in sight here. -/
import Derived.Test.YtgmepohfkpncmaaQuatF
namespace Go.Proofs.Ytgmepohfkpncmaa
open Go.RowKit

theorem tm_eq (a b : Int) (ha : I32 a) (hb : I32 b) : tmP a b = if a * b < 0 then -((2 * (-(a * b)) + 1073741824) / 2147483648) else (2 * (a * b) + 1073741824) / 2147483648 := by
  have hm := mul_bd a b ha hb
  unfold tmP roundP fracP
  have e : (2 : Int) ^ (max (0:Int) (min 30 62)).toNat = 1073741824 := by decide +kernel
  rw [e]
  generalize a * b = n at *
  unfold overP absP
  split
  · omega
  · split <;> (split <;> omega)
theorem tm_near (a b : Int) (ha : I32 a) (hb : I32 b) : -536870912 ≤ 1073741824 * tmP a b - a * b ∧ 1073741824 * tmP a b - a * b ≤ 536870912 := by
  rw [tm_eq a b ha hb]
  generalize a * b = n at *
  split <;> omega
theorem tm_comm (a b : Int) : tmP a b = tmP b a := by unfold tmP; rw [Int.mul_comm]
theorem tm_negl (a b : Int) (ha : I32 a) (hb : I32 b) (hn : I32 (-a)) : tmP (-a) b = -tmP a b := by
  rw [tm_eq a b ha hb, tm_eq (-a) b hn hb, Int.neg_mul]
  generalize a * b = n at *
  split <;> (split <;> omega)
theorem tm_negr (a b : Int) (ha : I32 a) (hb : I32 b) (hn : I32 (-b)) : tmP a (-b) = -tmP a b := by
  rw [tm_comm, tm_negl b a hb ha hn, tm_comm]
theorem tm_one (a : Int) (ha : I32 a) : tmP a 1073741824 = a := by
  rw [tm_eq a _ ha (by unfold I32; omega)]
  unfold I32 at ha
  split <;> omega
theorem tm_zero (a : Int) (ha : I32 a) : tmP a 0 = 0 := by
  rw [tm_eq a _ ha (by unfold I32; omega)]
  simp
theorem tm_onel (a : Int) (ha : I32 a) : tmP 1073741824 a = a := by rw [tm_comm, tm_one a ha]
theorem tm_zerol (a : Int) (ha : I32 a) : tmP 0 a = 0 := by rw [tm_comm, tm_zero a ha]

theorem cutC_nn (x : Int) : 0 ≤ cutC x := by unfold cutC; split <;> omega
theorem cutC_zero (x : Int) (h : I32 x) : cutC x = 0 := by
  unfold cutC clampP; unfold I32 at h
  rw [if_neg]; simp; omega
theorem cutC_in (x : Int) (h : cutC x = 0) : I32 x ∧ clampP x = x := by
  unfold cutC at h
  have h' : clampP x = x := by
    by_cases g : clampP x = x
    · exact g
    · exfalso
      rw [if_pos (by simpa using g)] at h; omega
  refine ⟨?_, h'⟩
  unfold clampP at h'; unfold I32; omega
theorem clampP_in (x : Int) (h : I32 x) : clampP x = x := by unfold clampP; unfold I32 at h; omega
theorem clampP_32 (x : Int) : I32 (clampP x) := by unfold clampP I32; omega

theorem mul_one_facts (a0 a1 a2 a3 : Int) (h0 : I32 a0) (h1 : I32 a1) (h2 : I32 a2) (h3 : I32 a3) :
    mulW a0 a1 a2 a3 1073741824 0 0 0 = a0 ∧ mulX a0 a1 a2 a3 1073741824 0 0 0 = a1 ∧ mulY a0 a1 a2 a3 1073741824 0 0 0 = a2 ∧ mulZ a0 a1 a2 a3 1073741824 0 0 0 = a3 ∧
    mulW 1073741824 0 0 0 a0 a1 a2 a3 = a0 ∧ mulX 1073741824 0 0 0 a0 a1 a2 a3 = a1 ∧ mulY 1073741824 0 0 0 a0 a1 a2 a3 = a2 ∧ mulZ 1073741824 0 0 0 a0 a1 a2 a3 = a3 := by
  unfold mulW mulX mulY mulZ
  simp only [tm_one _ h0, tm_one _ h1, tm_one _ h2, tm_one _ h3, tm_zero _ h0, tm_zero _ h1, tm_zero _ h2, tm_zero _ h3, tm_onel _ h0, tm_onel _ h1, tm_onel _ h2, tm_onel _ h3, tm_zerol _ h0, tm_zerol _ h1, tm_zerol _ h2, tm_zerol _ h3]
  refine ⟨?_, ?_, ?_, ?_, ?_, ?_, ?_, ?_⟩ <;> omega

/-- Turned round, a product is the product of both turned round, in the other order. -/
theorem mul_conj (a0 a1 a2 a3 b0 b1 b2 b3 : Int) (h0 : I32 a0) (h1 : I32 a1) (h2 : I32 a2) (h3 : I32 a3) (k0 : I32 b0) (k1 : I32 b1) (k2 : I32 b2) (k3 : I32 b3)
    (n1 : I32 (-a1)) (n2 : I32 (-a2)) (n3 : I32 (-a3)) (m1 : I32 (-b1)) (m2 : I32 (-b2)) (m3 : I32 (-b3)) :
    mulW b0 (-b1) (-b2) (-b3) a0 (-a1) (-a2) (-a3) = mulW a0 a1 a2 a3 b0 b1 b2 b3 ∧ mulX b0 (-b1) (-b2) (-b3) a0 (-a1) (-a2) (-a3) = -mulX a0 a1 a2 a3 b0 b1 b2 b3 ∧
    mulY b0 (-b1) (-b2) (-b3) a0 (-a1) (-a2) (-a3) = -mulY a0 a1 a2 a3 b0 b1 b2 b3 ∧ mulZ b0 (-b1) (-b2) (-b3) a0 (-a1) (-a2) (-a3) = -mulZ a0 a1 a2 a3 b0 b1 b2 b3 := by
  unfold mulW mulX mulY mulZ
  simp only [tm_negr _ _ m1 h1 n1, tm_negr _ _ m1 h2 n2, tm_negr _ _ m1 h3 n3, tm_negr _ _ m2 h1 n1, tm_negr _ _ m2 h2 n2, tm_negr _ _ m2 h3 n3, tm_negr _ _ m3 h1 n1, tm_negr _ _ m3 h2 n2, tm_negr _ _ m3 h3 n3,
    tm_negr _ _ k0 h1 n1, tm_negr _ _ k0 h2 n2, tm_negr _ _ k0 h3 n3,
    tm_negl _ _ k1 h0 m1, tm_negl _ _ k1 h1 m1, tm_negl _ _ k1 h2 m1, tm_negl _ _ k1 h3 m1, tm_negl _ _ k2 h0 m2, tm_negl _ _ k2 h1 m2, tm_negl _ _ k2 h2 m2, tm_negl _ _ k2 h3 m2, tm_negl _ _ k3 h0 m3, tm_negl _ _ k3 h1 m3, tm_negl _ _ k3 h2 m3, tm_negl _ _ k3 h3 m3]
  simp only [tm_comm b0, tm_comm b1, tm_comm b2, tm_comm b3]
  refine ⟨?_, ?_, ?_, ?_⟩ <;> omega

/-! ### The norm of a product -/
theorem prod_bd (x y X Y : Int) (hx : -X ≤ x ∧ x ≤ X) (hy : -Y ≤ y ∧ y ≤ Y) : -(X * Y) ≤ x * y ∧ x * y ≤ X * Y := by
  have h : (x * y).natAbs ≤ X.natAbs * Y.natAbs := by rw [Int.natAbs_mul]; exact Nat.mul_le_mul (by omega) (by omega)
  have e : X * Y = ((X.natAbs * Y.natAbs : Nat) : Int) := by
    rw [Int.natCast_mul, Int.natAbs_of_nonneg (by omega), Int.natAbs_of_nonneg (by omega)]
  rw [e]
  omega
theorem sq_le_abs (x C : Int) (hC : 0 ≤ C) (h : x * x ≤ C * C) : -C ≤ x ∧ x ≤ C := by
  have e : (C + 1) * (C + 1) = C * C + C + C + 1 := by grind
  constructor
  · apply Int.not_lt.mp; intro g
    have := Int.mul_le_mul (a := C + 1) (b := C + 1) (c := -x) (d := -x) (by omega) (by omega) (by omega) (by omega)
    rw [Int.neg_mul_neg] at this
    omega
  · apply Int.not_lt.mp; intro g
    have := Int.mul_le_mul (a := C + 1) (b := C + 1) (c := x) (d := x) (by omega) (by omega) (by omega) (by omega)
    omega
theorem sq_nn (x : Int) : 0 ≤ x * x := by
  rcases Int.le_total 0 x with h | h
  · exact Int.mul_nonneg h h
  · exact Int.mul_nonneg_of_nonpos_of_nonpos h h
theorem four_sq (a0 a1 a2 a3 b0 b1 b2 b3 : Int) :
    (a0*b0 - a1*b1 - a2*b2 - a3*b3) * (a0*b0 - a1*b1 - a2*b2 - a3*b3) + (a0*b1 + a1*b0 + a2*b3 - a3*b2) * (a0*b1 + a1*b0 + a2*b3 - a3*b2) + (a0*b2 + a2*b0 + a3*b1 - a1*b3) * (a0*b2 + a2*b0 + a3*b1 - a1*b3) + (a0*b3 + a3*b0 + a1*b2 - a2*b1) * (a0*b3 + a3*b0 + a1*b2 - a2*b1)
    = (a0*a0 + a1*a1 + a2*a2 + a3*a3) * (b0*b0 + b1*b1 + b2*b2 + b3*b3) := by grind
theorem norm_step (x0 x1 x2 x3 m0 m1 m2 m3 P : Int) (hx : x0 * x0 + x1 * x1 + x2 * x2 + x3 * x3 = P)
    (hP1 : 1329225460484924342264618696048640000 ≤ P) (hP2 : P ≤ 1329230531087325255182224682861461504)
    (d0 : -2147483648 ≤ 1073741824 * m0 - x0 ∧ 1073741824 * m0 - x0 ≤ 2147483648) (d1 : -2147483648 ≤ 1073741824 * m1 - x1 ∧ 1073741824 * m1 - x1 ≤ 2147483648) (d2 : -2147483648 ≤ 1073741824 * m2 - x2 ∧ 1073741824 * m2 - x2 ≤ 2147483648) (d3 : -2147483648 ≤ 1073741824 * m3 - x3 ∧ 1073741824 * m3 - x3 ≤ 2147483648) :
    (I32 m0 ∧ I32 m1 ∧ I32 m2 ∧ I32 m3) ∧ 1152917106560335872 ≤ m0 * m0 + m1 * m1 + m2 * m2 + m3 * m3 ∧ m0 * m0 + m1 * m1 + m2 * m2 + m3 * m3 ≤ 1152925902653358080 := by
  have s0 := sq_nn x0
  have s1 := sq_nn x1
  have s2 := sq_nn x2
  have s3 := sq_nn x3
  have ek : (1152922604118474752 : Int) * 1152922604118474752 = 1329230531087325255182224682861461504 := by decide +kernel
  have q0 := sq_le_abs x0 1152922604118474752 (by omega) (by rw [ek]; omega)
  have q1 := sq_le_abs x1 1152922604118474752 (by omega) (by rw [ek]; omega)
  have q2 := sq_le_abs x2 1152922604118474752 (by omega) (by rw [ek]; omega)
  have q3 := sq_le_abs x3 1152922604118474752 (by omega) (by rw [ek]; omega)
  refine ⟨by unfold I32; omega, ?_⟩
  obtain ⟨e0, he0⟩ : ∃ e, e = 1073741824 * m0 - x0 := ⟨_, rfl⟩
  obtain ⟨e1, he1⟩ : ∃ e, e = 1073741824 * m1 - x1 := ⟨_, rfl⟩
  obtain ⟨e2, he2⟩ : ∃ e, e = 1073741824 * m2 - x2 := ⟨_, rfl⟩
  obtain ⟨e3, he3⟩ : ∃ e, e = 1073741824 * m3 - x3 := ⟨_, rfl⟩
  have p0 := prod_bd x0 e0 1152922604118474752 2147483648 q0 (by omega)
  have p1 := prod_bd x1 e1 1152922604118474752 2147483648 q1 (by omega)
  have p2 := prod_bd x2 e2 1152922604118474752 2147483648 q2 (by omega)
  have p3 := prod_bd x3 e3 1152922604118474752 2147483648 q3 (by omega)
  have r0 := prod_bd e0 e0 2147483648 2147483648 (by omega) (by omega)
  have r1 := prod_bd e1 e1 2147483648 2147483648 (by omega) (by omega)
  have r2 := prod_bd e2 e2 2147483648 2147483648 (by omega) (by omega)
  have r3 := prod_bd e3 e3 2147483648 2147483648 (by omega) (by omega)
  have E : 1152921504606846976 * (m0 * m0 + m1 * m1 + m2 * m2 + m3 * m3) = P + 2 * (x0 * e0 + x1 * e1 + x2 * e2 + x3 * e3) + (e0 * e0 + e1 * e1 + e2 * e2 + e3 * e3) := by
    rw [← hx, he0, he1, he2, he3]; grind
  generalize m0 * m0 + m1 * m1 + m2 * m2 + m3 * m3 = N at *
  omega

/-- The product of two quaternions whose norms are nearly one is not cut, and its norm is nearly one. -/
theorem norm_law (a0 a1 a2 a3 b0 b1 b2 b3 : Int) (h0 : I32 a0) (h1 : I32 a1) (h2 : I32 a2) (h3 : I32 a3) (k0 : I32 b0) (k1 : I32 b1) (k2 : I32 b2) (k3 : I32 b3)
    (ha : 1152920405095219200 ≤ a0 * a0 + a1 * a1 + a2 * a2 + a3 * a3 ∧ a0 * a0 + a1 * a1 + a2 * a2 + a3 * a3 ≤ 1152922604118474752)
    (hb : 1152920405095219200 ≤ b0 * b0 + b1 * b1 + b2 * b2 + b3 * b3 ∧ b0 * b0 + b1 * b1 + b2 * b2 + b3 * b3 ≤ 1152922604118474752) :
    (I32 (mulW a0 a1 a2 a3 b0 b1 b2 b3) ∧ I32 (mulX a0 a1 a2 a3 b0 b1 b2 b3) ∧ I32 (mulY a0 a1 a2 a3 b0 b1 b2 b3) ∧ I32 (mulZ a0 a1 a2 a3 b0 b1 b2 b3)) ∧
    1152917106560335872 ≤ mulW a0 a1 a2 a3 b0 b1 b2 b3 * mulW a0 a1 a2 a3 b0 b1 b2 b3 + mulX a0 a1 a2 a3 b0 b1 b2 b3 * mulX a0 a1 a2 a3 b0 b1 b2 b3 + mulY a0 a1 a2 a3 b0 b1 b2 b3 * mulY a0 a1 a2 a3 b0 b1 b2 b3 + mulZ a0 a1 a2 a3 b0 b1 b2 b3 * mulZ a0 a1 a2 a3 b0 b1 b2 b3 ∧
    mulW a0 a1 a2 a3 b0 b1 b2 b3 * mulW a0 a1 a2 a3 b0 b1 b2 b3 + mulX a0 a1 a2 a3 b0 b1 b2 b3 * mulX a0 a1 a2 a3 b0 b1 b2 b3 + mulY a0 a1 a2 a3 b0 b1 b2 b3 * mulY a0 a1 a2 a3 b0 b1 b2 b3 + mulZ a0 a1 a2 a3 b0 b1 b2 b3 * mulZ a0 a1 a2 a3 b0 b1 b2 b3 ≤ 1152925902653358080 := by
  have F := four_sq a0 a1 a2 a3 b0 b1 b2 b3
  have P1 : 1329225460484924342264618696048640000 ≤ (a0*a0 + a1*a1 + a2*a2 + a3*a3) * (b0*b0 + b1*b1 + b2*b2 + b3*b3) :=
    Int.le_trans (by decide +kernel) (Int.mul_le_mul ha.1 hb.1 (by omega) (by omega))
  have P2 : (a0*a0 + a1*a1 + a2*a2 + a3*a3) * (b0*b0 + b1*b1 + b2*b2 + b3*b3) ≤ 1329230531087325255182224682861461504 :=
    Int.le_trans (Int.mul_le_mul ha.2 hb.2 (by omega) (by omega)) (by decide +kernel)
  generalize (a0*a0 + a1*a1 + a2*a2 + a3*a3) * (b0*b0 + b1*b1 + b2*b2 + b3*b3) = P at *
  refine norm_step _ _ _ _ _ _ _ _ P F P1 P2 ?_ ?_ ?_ ?_
  · have t0 := tm_near a0 b0 h0 k0
    have t1 := tm_near a1 b1 h1 k1
    have t2 := tm_near a2 b2 h2 k2
    have t3 := tm_near a3 b3 h3 k3
    unfold mulW; omega
  · have t0 := tm_near a0 b1 h0 k1
    have t1 := tm_near a1 b0 h1 k0
    have t2 := tm_near a2 b3 h2 k3
    have t3 := tm_near a3 b2 h3 k2
    unfold mulX; omega
  · have t0 := tm_near a0 b2 h0 k2
    have t1 := tm_near a2 b0 h2 k0
    have t2 := tm_near a3 b1 h3 k1
    have t3 := tm_near a1 b3 h1 k3
    unfold mulY; omega
  · have t0 := tm_near a0 b3 h0 k3
    have t1 := tm_near a3 b0 h3 k0
    have t2 := tm_near a1 b2 h1 k2
    have t3 := tm_near a2 b1 h2 k1
    unfold mulZ; omega
end Go.Proofs.Ytgmepohfkpncmaa
