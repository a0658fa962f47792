/- Chapters 09 and 11: parts that have grown, their length, and what each becomes: the plain laws. -/
import Derived.Test.YtgmepohfkpncmaaGreatUnit
import Derived.Test.YtgmepohfkpncmaaGreatQuatLaw
namespace Go.Proofs.YtgmepohfkpncmaaGreat
open Go.RowKit
set_option linter.unusedVariables false

def upN (xs : List Int) : Nat := shN (farP xs)
/-- The parts, grown. -/
def upL (xs : List Int) : List Int := xs.map (· * 2 ^ upN xs)
/-- How long they are then. -/
def lenP (xs : List Int) : Int := rootP (sqP (upL xs))
/-- What a part becomes. -/
def oneP (xs : List Int) (x : Int) : Int := overP (x * 2 ^ upN xs * 1073741824) (lenP xs)

theorem sqs_mem : ∀ (xs : List Int) (x : Int), x ∈ xs → x * x ≤ sqs xs
  | y :: r, x, h => by
    simp only [sqs]
    have h0 := sqs_nonneg r
    have h1 := sq_nonneg y
    rcases List.mem_cons.1 h with rfl | h
    · omega
    · have := sqs_mem r x h
      omega
theorem mul_pow_bd (x m : Int) (n : Nat) (h : -m ≤ x ∧ x ≤ m) : -(m * 2 ^ n) ≤ x * 2 ^ n ∧ x * 2 ^ n ≤ m * 2 ^ n := by
  have hp : (0 : Int) ≤ 2 ^ n := Int.le_of_lt (Int.pow_pos (by omega))
  rw [← Int.neg_mul]
  exact ⟨Int.mul_le_mul_of_nonneg_right h.1 hp, Int.mul_le_mul_of_nonneg_right h.2 hp⟩
theorem up_facts (xs : List Int) (hx : ∀ x ∈ xs, -2147483648 ≤ x ∧ x ≤ 2147483647) (h0 : 0 < farP xs) :
    upN xs ≤ 30 ∧ (∀ x ∈ xs, I32 (x * 2 ^ upN xs)) ∧ 1073741824 ≤ lenP xs ∧ lenP xs ≤ 4294967295 ∧ (∀ x ∈ xs, -(lenP xs) ≤ x * 2 ^ upN xs ∧ x * 2 ^ upN xs ≤ lenP xs) := by
  obtain ⟨f0, f1, f2, f3⟩ := farP_facts xs hx
  obtain ⟨s1, s2, s3⟩ := shN_facts _ h0
  have hb := shN_bd _ ⟨h0, f1⟩ (shN (farP xs)) (Nat.le_refl _)
  have hI : ∀ x ∈ xs, I32 (x * 2 ^ upN xs) := by
    intro x hx'
    by_cases g : shN (farP xs) = 0
    · have := hx x hx'
      unfold upN I32
      rw [g]; simpa using this
    · have := mul_pow_bd x (farP xs) (shN (farP xs)) (f2 x hx')
      have h' := hb.2.2 (by omega)
      unfold upN I32
      omega
  have hg : ∀ x ∈ xs, ∀ z : Int, 0 ≤ z → (z = x * 2 ^ upN xs ∨ z = -(x * 2 ^ upN xs)) → z ≤ lenP xs := by
    intro x hx' z hz hzz
    have hm : x * 2 ^ upN xs ∈ upL xs := List.mem_map.2 ⟨x, hx', rfl⟩
    have h1 := sqs_mem _ _ hm
    have hi := hI x hx'
    have e : z * z = x * 2 ^ upN xs * (x * 2 ^ upN xs) := by
      rcases hzz with h | h
      · rw [h]
      · rw [h, Int.neg_mul_neg]
    have hb2 := prod_bd z z 2147483648 2147483648 (by unfold I32 at hi; omega) (by unfold I32 at hi; omega)
    have hq : z * z ≤ sqP (upL xs) := by unfold sqP; omega
    exact (sq_iff _ z (sqP_bd _).1 hz).1 hq
  have hL2 : lenP xs ≤ 4294967295 := (root_bd _ (sqP_bd _).1 (sqP_bd _).2).2
  refine ⟨s1, hI, ?_, hL2, ?_⟩
  · rcases f3 with f3 | ⟨x, hx', f3⟩
    · omega
    · have e : farP xs * 2 ^ shN (farP xs) = x * 2 ^ upN xs ∨ farP xs * 2 ^ shN (farP xs) = -(x * 2 ^ upN xs) := by
        unfold upN
        rcases f3 with h | h
        · left; conv => lhs; lhs; rw [h]
        · right; conv => lhs; lhs; rw [h]
          rw [Int.neg_mul]
      have := hg x hx' _ (by omega) e
      omega
  · intro x hx'
    rcases Int.lt_or_le (x * 2 ^ upN xs) 0 with g | g
    · have := hg x hx' (-(x * 2 ^ upN xs)) (by omega) (.inr rfl); omega
    · have := hg x hx' (x * 2 ^ upN xs) g (.inl rfl); omega

/-- By a number above 0: the nearest one. -/
theorem over_pos (n d : Int) (hn : -4611686018427387904 ≤ n ∧ n ≤ 4611686018427387904) (hd : 0 < d) :
    overP n d = (if n < 0 then -((2 * (-n) + d) / (2 * d)) else (2 * n + d) / (2 * d)) := by
  unfold overP absP
  have h1 : ¬ d = 0 := by omega
  have h2 : ¬ d < 0 := by omega
  simp only [h1, h2, if_false]
  split
  · rfl
  · have h3 : (2 * n + d) / (2 * d) ≤ 2 * n + d := Int.ediv_le_self _ (by omega)
    have h4 : (2 * n + d) / (2 * d) < 9223372036854775807 := by
      rw [Int.ediv_lt_iff_lt_mul (by omega)]
      omega
    omega
theorem over_near (n d : Int) (hn : -4611686018427387904 ≤ n ∧ n ≤ 4611686018427387904) (hd : 0 < d) : -d ≤ 2 * (d * overP n d - n) ∧ 2 * (d * overP n d - n) ≤ d := by
  rw [over_pos n d hn hd]
  split
  · have h1 := Int.mul_ediv_add_emod (2 * (-n) + d) (2 * d)
    have h2 := Int.emod_nonneg (2 * (-n) + d) (show 2 * d ≠ 0 by omega)
    have h3 := Int.emod_lt_of_pos (2 * (-n) + d) (show 0 < 2 * d by omega)
    generalize (2 * (-n) + d) / (2 * d) = q at *
    generalize (2 * (-n) + d) % (2 * d) = r at *
    have e : 2 * d * q = 2 * (d * q) := by rw [Int.mul_assoc]
    rw [Int.mul_neg]
    generalize d * q = P at *
    omega
  · have h1 := Int.mul_ediv_add_emod (2 * n + d) (2 * d)
    have h2 := Int.emod_nonneg (2 * n + d) (show 2 * d ≠ 0 by omega)
    have h3 := Int.emod_lt_of_pos (2 * n + d) (show 0 < 2 * d by omega)
    generalize (2 * n + d) / (2 * d) = q at *
    generalize (2 * n + d) % (2 * d) = r at *
    have e : 2 * d * q = 2 * (d * q) := by rw [Int.mul_assoc]
    generalize d * q = P at *
    omega
theorem over_one (g L : Int) (hL : 0 < L ∧ L ≤ 4294967295) (hg : -L ≤ g ∧ g ≤ L) (hi : I32 g) : -1073741824 ≤ overP (g * 1073741824) L ∧ overP (g * 1073741824) L ≤ 1073741824 := by
  have hn : -4611686018427387904 ≤ g * 1073741824 ∧ g * 1073741824 ≤ 4611686018427387904 := by unfold I32 at hi; omega
  obtain ⟨h1, h2⟩ := over_near _ L hn hL.1
  generalize overP (g * 1073741824) L = u at *
  constructor
  · apply Int.not_lt.mp; intro h
    have h3 : L * u ≤ L * (-1073741825) := Int.mul_le_mul_of_nonneg_left (by omega) (by omega)
    omega
  · apply Int.not_lt.mp; intro h
    have h3 : L * 1073741825 ≤ L * u := Int.mul_le_mul_of_nonneg_left (by omega) (by omega)
    omega
theorem oneP_bd (xs : List Int) (hx : ∀ x ∈ xs, -2147483648 ≤ x ∧ x ≤ 2147483647) (h0 : 0 < farP xs) (x : Int) (h : x ∈ xs) : -1073741824 ≤ oneP xs x ∧ oneP xs x ≤ 1073741824 := by
  obtain ⟨u1, u2, u3, u4, u5⟩ := up_facts xs hx h0
  exact over_one _ _ ⟨by omega, u4⟩ (u5 x h) (u2 x h)
end Go.Proofs.YtgmepohfkpncmaaGreat
