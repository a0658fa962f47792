/- Chapter 11: the plain law of the norm; what must come. -/
import Derived.Test.YtgmepohfkpncmaaUnitE
namespace Go.Proofs.Ytgmepohfkpncmaa
open Go.RowKit
set_option linter.unusedVariables false
set_option linter.unusedSimpArgs false

theorem unit_norm (g0 g1 g2 g3 u0 u1 u2 u3 L S : Int) (hS : g0 * g0 + g1 * g1 + g2 * g2 + g3 * g3 = S) (h1 : L * L ≤ S) (h2 : S ≤ L * L + 2 * L + 1) (hL : 1073741824 ≤ L)
    (b0 : -L ≤ g0 ∧ g0 ≤ L) (b1 : -L ≤ g1 ∧ g1 ≤ L) (b2 : -L ≤ g2 ∧ g2 ≤ L) (b3 : -L ≤ g3 ∧ g3 ≤ L)
    (c0 : -L ≤ 2 * (L * u0 - g0 * 1073741824) ∧ 2 * (L * u0 - g0 * 1073741824) ≤ L) (c1 : -L ≤ 2 * (L * u1 - g1 * 1073741824) ∧ 2 * (L * u1 - g1 * 1073741824) ≤ L) (c2 : -L ≤ 2 * (L * u2 - g2 * 1073741824) ∧ 2 * (L * u2 - g2 * 1073741824) ≤ L) (c3 : -L ≤ 2 * (L * u3 - g3 * 1073741824) ∧ 2 * (L * u3 - g3 * 1073741824) ≤ L) :
    1152921496016912384 ≤ u0 * u0 + u1 * u1 + u2 * u2 + u3 * u3 ∧ u0 * u0 + u1 * u1 + u2 * u2 + u3 * u3 ≤ 1152921513196781568 := by
  obtain ⟨r0, e0⟩ : ∃ r, r = 2 * (L * u0 - g0 * 1073741824) := ⟨_, rfl⟩
  obtain ⟨r1, e1⟩ : ∃ r, r = 2 * (L * u1 - g1 * 1073741824) := ⟨_, rfl⟩
  obtain ⟨r2, e2⟩ : ∃ r, r = 2 * (L * u2 - g2 * 1073741824) := ⟨_, rfl⟩
  obtain ⟨r3, e3⟩ : ∃ r, r = 2 * (L * u3 - g3 * 1073741824) := ⟨_, rfl⟩
  rw [← e0] at c0
  rw [← e1] at c1
  rw [← e2] at c2
  rw [← e3] at c3
  have p0 := prod_bd g0 r0 L L b0 c0
  have p1 := prod_bd g1 r1 L L b1 c1
  have p2 := prod_bd g2 r2 L L b2 c2
  have p3 := prod_bd g3 r3 L L b3 c3
  have q0 := prod_bd r0 r0 L L c0 c0
  have q1 := prod_bd r1 r1 L L c1 c1
  have q2 := prod_bd r2 r2 L L c2 c2
  have q3 := prod_bd r3 r3 L L c3 c3
  have s0 := sq_nn r0
  have s1 := sq_nn r1
  have s2 := sq_nn r2
  have s3 := sq_nn r3
  have hQ : 1073741824 * L ≤ L * L := Int.mul_le_mul_of_nonneg_right hL (by omega)
  have E : 4 * (L * L * (u0 * u0 + u1 * u1 + u2 * u2 + u3 * u3)) = 4611686018427387904 * S + 4294967296 * (g0 * r0 + g1 * r1 + g2 * r2 + g3 * r3) + (r0 * r0 + r1 * r1 + r2 * r2 + r3 * r3) := by
    rw [← hS, e0, e1, e2, e3]; grind
  generalize u0 * u0 + u1 * u1 + u2 * u2 + u3 * u3 = N at *
  clear e0 e1 e2 e3 hS
  generalize hQQ : L * L = Q at *
  generalize hX : Q * N = X at *
  have hQ0 : 0 < Q := by omega
  constructor
  · have h : Q * 1152921496016912384 ≤ Q * N := by rw [hX]; omega
    exact Int.le_of_mul_le_mul_left h hQ0
  · have h : Q * N ≤ Q * 1152921513196781568 := by rw [hX]; omega
    exact Int.le_of_mul_le_mul_left h hQ0

theorem sqP_4 (a b c d : Int) : 0 ≤ sqP [a, b, c, d] ∧ sqP [a, b, c, d] ≤ 18446744073709551615 ∧ (sqP [a, b, c, d] < 18446744073709551615 → sqP [a, b, c, d] = a * a + b * b + c * c + d * d) ∧ (a * a + b * b + c * c + d * d ≤ 18446744073709551615 → sqP [a, b, c, d] = a * a + b * b + c * c + d * d) := by
  have h0 := sq_nn a
  have h1 := sq_nn b
  have h2 := sq_nn c
  have h3 := sq_nn d
  simp only [sqP, sqs]
  omega
theorem len_facts (xs : List Int) (hs : sqs (upL xs) ≤ 18446744073709551616) : lenP xs * lenP xs ≤ sqs (upL xs) ∧ sqs (upL xs) ≤ lenP xs * lenP xs + 2 * lenP xs + 1 := by
  have h := root_sq (sqP (upL xs)) (sqP_bd _).1
  have : sqP (upL xs) ≤ sqs (upL xs) ∧ sqs (upL xs) ≤ sqP (upL xs) + 1 := by unfold sqP; omega
  unfold lenP
  generalize rootP (sqP (upL xs)) = L at *
  omega
theorem unit_law (a0 a1 a2 a3 : Int) (ia0 : I32 a0) (ia1 : I32 a1) (ia2 : I32 a2) (ia3 : I32 a3) (hz : 0 < farP [a0, a1, a2, a3]) :
    1152921496016912384 ≤ sqP [makeP [a0, a1, a2, a3] a0, makeP [a0, a1, a2, a3] a1, makeP [a0, a1, a2, a3] a2, makeP [a0, a1, a2, a3] a3] ∧ sqP [makeP [a0, a1, a2, a3] a0, makeP [a0, a1, a2, a3] a1, makeP [a0, a1, a2, a3] a2, makeP [a0, a1, a2, a3] a3] ≤ 1152921513196781568 := by
  obtain ⟨n30, hG, hL1, hL2, hL3⟩ := up_facts [a0, a1, a2, a3] (by unfold I32 at *; simp; omega) hz
  have hm : ∀ x, makeP [a0, a1, a2, a3] x = oneP [a0, a1, a2, a3] x := fun x => by unfold makeP; rw [if_neg (by omega)]
  simp only [hm]
  have hu : upL [a0, a1, a2, a3] = [a0 * 2 ^ upN [a0, a1, a2, a3], a1 * 2 ^ upN [a0, a1, a2, a3], a2 * 2 ^ upN [a0, a1, a2, a3], a3 * 2 ^ upN [a0, a1, a2, a3]] := rfl
  simp only [List.mem_cons, List.not_mem_nil, or_false, forall_eq_or_imp, forall_eq] at hG hL3
  obtain ⟨G0, G1, G2, G3⟩ := hG
  obtain ⟨M0, M1, M2, M3⟩ := hL3
  have k0 := sq32 _ G0
  have k1 := sq32 _ G1
  have k2 := sq32 _ G2
  have k3 := sq32 _ G3
  have hf := len_facts [a0, a1, a2, a3] (by rw [hu]; simp only [sqs]; omega)
  rw [hu] at hf
  simp only [sqs] at hf
  have o : ∀ x, I32 (x * 2 ^ upN [a0, a1, a2, a3]) → -(lenP [a0, a1, a2, a3]) ≤ 2 * (lenP [a0, a1, a2, a3] * oneP [a0, a1, a2, a3] x - x * 2 ^ upN [a0, a1, a2, a3] * 1073741824) ∧ 2 * (lenP [a0, a1, a2, a3] * oneP [a0, a1, a2, a3] x - x * 2 ^ upN [a0, a1, a2, a3] * 1073741824) ≤ lenP [a0, a1, a2, a3] :=
    fun x hx => over_near _ _ (by unfold I32 at hx; omega) (by omega)
  have h := unit_norm _ _ _ _ _ _ _ _ _ _ rfl (by omega) (by omega) hL1 M0 M1 M2 M3 (o a0 G0) (o a1 G1) (o a2 G2) (o a3 G3)
  have := sqP_4 (oneP [a0, a1, a2, a3] a0) (oneP [a0, a1, a2, a3] a1) (oneP [a0, a1, a2, a3] a2) (oneP [a0, a1, a2, a3] a3)
  omega

theorem root_is (n x : Int) (h0 : 0 ≤ n) (hx : 0 ≤ x) (h1 : x * x ≤ n) (h2 : ¬ (x + 1) * (x + 1) ≤ n) : rootP n = x := by
  have a := (sq_iff n x h0 hx).1 h1
  have b := mt (sq_iff n (x + 1) h0 (by omega)).2 h2
  omega
end Go.Proofs.Ytgmepohfkpncmaa
