/- Chapter 13: the plain law of TurnCircle. -/
import Derived.Test.YtfogjfmpgfcolaaTurnL
namespace Go.Proofs.Ytfogjfmpgfcolaa
namespace Circ
set_option linter.unusedVariables false
set_option linter.unusedSimpArgs false
/-! ### Unit vectors of whole angles: 2^31 is half a turn, nearly -/
def uH : Int := 1606938044258990276401725892962218152364427655438115320269457
def uU : Int := 1606938044258990274682198291720107052679978332127470350333295
def uV : Int := 2350818717208688088169389084220659989469081718751232
def c1 : Rat := (uU : Rat) / (uH : Rat)
def s1 : Rat := (uV : Rat) / (uH : Rat)
theorem uH_pos : (0 : Rat) < (uH : Rat) := by
  have : (0 : Int) < uH := by decide
  exact_mod_cast this
theorem u_sq : uU * uU + uV * uV = uH * uH := by decide
theorem c1_sq : c1 * c1 + s1 * s1 = 1 := by
  have h : (uU : Rat) * (uU : Rat) + (uV : Rat) * (uV : Rat) = (uH : Rat) * (uH : Rat) := by exact_mod_cast congrArg (fun z : Int => (z : Rat)) u_sq
  have hp := uH_pos
  unfold c1 s1
  generalize (uU : Rat) = a at *
  generalize (uV : Rat) = b at *
  generalize (uH : Rat) = c at *
  grind
def cs : Nat → Rat × Rat
  | 0 => (1, 0)
  | n + 1 => ((cs n).1 * c1 - (cs n).2 * s1, (cs n).2 * c1 + (cs n).1 * s1)
def C (n : Int) : Rat := (cs n.natAbs).1
def S (n : Int) : Rat := if 0 ≤ n then (cs n.natAbs).2 else -(cs n.natAbs).2
theorem C_nat (n : Nat) : C (n : Int) = (cs n).1 := by unfold C; rw [Int.natAbs_natCast]
theorem S_nat (n : Nat) : S (n : Int) = (cs n).2 := by unfold S; rw [if_pos (by omega), Int.natAbs_natCast]
theorem C_neg (n : Int) : C (-n) = C n := by unfold C; rw [Int.natAbs_neg]
theorem S_zero : S 0 = 0 := rfl
theorem C_zero : C 0 = 1 := rfl
theorem S_neg (n : Int) : S (-n) = -S n := by
  unfold S
  rw [Int.natAbs_neg]
  rcases Int.lt_trichotomy n 0 with h | h | h
  · rw [if_pos (by omega), if_neg (by omega)]; grind
  · subst h; simp [cs]
  · rw [if_neg (by omega), if_pos (by omega)]
theorem step_nat (n : Nat) : C ((n : Int) + 1) = C n * c1 - S n * s1 ∧ S ((n : Int) + 1) = S n * c1 + C n * s1 := by
  have h : ((n : Int) + 1) = ((n + 1 : Nat) : Int) := by omega
  rw [h, C_nat, S_nat, C_nat, S_nat]
  exact ⟨rfl, rfl⟩
theorem step (n : Int) : C (n + 1) = C n * c1 - S n * s1 ∧ S (n + 1) = S n * c1 + C n * s1 := by
  rcases Int.lt_or_le n 0 with h | h
  · obtain ⟨k, hk⟩ : ∃ k : Nat, n = -((k : Int) + 1) := ⟨(-n - 1).toNat, by omega⟩
    subst hk
    have h1 := step_nat k
    rw [show -((k : Int) + 1) + 1 = -(k : Int) by omega, C_neg, S_neg, C_neg, S_neg, h1.1, h1.2]
    have h2 := c1_sq
    generalize C (k : Int) = a at *
    generalize S (k : Int) = b at *
    constructor <;> grind
  · obtain ⟨k, rfl⟩ := Int.eq_ofNat_of_zero_le h
    exact step_nat k
theorem sq_nat (n : Nat) : C (n : Int) * C (n : Int) + S (n : Int) * S (n : Int) = 1 := by
  induction n with
  | zero => show C 0 * C 0 + S 0 * S 0 = 1; rw [C_zero, S_zero]; grind
  | succ n ih =>
    have h := step_nat n
    rw [show ((n + 1 : Nat) : Int) = (n : Int) + 1 by omega, h.1, h.2]
    have h2 := c1_sq
    generalize C (n : Int) = a at *
    generalize S (n : Int) = b at *
    grind
theorem sq_one (n : Int) : C n * C n + S n * S n = 1 := by
  rcases Int.lt_or_le n 0 with h | h
  · obtain ⟨k, rfl⟩ : ∃ k : Nat, n = -(k : Int) := ⟨(-n).toNat, by omega⟩
    rw [C_neg, S_neg]
    have := sq_nat k
    grind
  · obtain ⟨k, rfl⟩ := Int.eq_ofNat_of_zero_le h
    exact sq_nat k
theorem add_nat (m : Int) (n : Nat) : C (m + n) = C m * C n - S m * S n ∧ S (m + n) = S m * C n + C m * S n := by
  induction n with
  | zero => rw [show m + ((0 : Nat) : Int) = m by omega, show (((0 : Nat)) : Int) = 0 from rfl, C_zero, S_zero]; constructor <;> grind
  | succ n ih =>
    have h1 := step (m + n)
    have h2 := step_nat n
    rw [show m + ((n + 1 : Nat) : Int) = m + n + 1 by omega, h1.1, h1.2, ih.1, ih.2, show ((n + 1 : Nat) : Int) = (n : Int) + 1 by omega, h2.1, h2.2]
    constructor <;> grind
theorem add (m n : Int) : C (m + n) = C m * C n - S m * S n ∧ S (m + n) = S m * C n + C m * S n := by
  rcases Int.lt_or_le n 0 with h | h
  · obtain ⟨k, rfl⟩ : ∃ k : Nat, n = -(k : Int) := ⟨(-n).toNat, by omega⟩
    have h1 := add_nat (m + -(k : Int)) k
    rw [show m + -(k : Int) + (k : Int) = m by omega] at h1
    have h2 := sq_nat k
    rw [C_neg, S_neg, h1.1, h1.2]
    generalize C (m + -(k : Int)) = a at *
    generalize S (m + -(k : Int)) = b at *
    generalize C (k : Int) = c at *
    generalize S (k : Int) = d at *
    constructor <;> grind
  · obtain ⟨k, rfl⟩ := Int.eq_ofNat_of_zero_le h
    exact add_nat m k
theorem sub (m n : Int) : C (m - n) = C m * C n + S m * S n ∧ S (m - n) = S m * C n - C m * S n := by
  have h := add m (-n)
  rw [C_neg, S_neg] at h
  rw [Int.sub_eq_add_neg, h.1, h.2]
  constructor <;> grind
theorem sq_nn (a : Rat) : 0 ≤ a * a := by
  rcases (Rat.le_total : 0 ≤ a ∨ a ≤ 0) with h | h
  · exact Rat.mul_nonneg h h
  · have := Rat.mul_nonneg (show 0 ≤ -a by grind) (show 0 ≤ -a by grind)
    grind
theorem le_one (a b : Rat) (h : a * a + b * b = 1) : -1 ≤ a ∧ a ≤ 1 := by
  have h2 := sq_nn b
  have h3 : a * a ≤ 1 := by grind
  constructor
  · apply Rat.not_lt.mp; intro h4
    have := Rat.mul_pos (show 0 < -1 - a by grind) (show 0 < -1 - a by grind)
    have h6 := Rat.mul_nonneg (show 0 ≤ -1 - a by grind) (show (0:Rat) ≤ 1 by grind)
    grind
  · apply Rat.not_lt.mp; intro h4
    have := Rat.mul_pos (show 0 < a - 1 by grind) (show 0 < a - 1 by grind)
    grind
theorem C_le (n : Int) : -1 ≤ C n ∧ C n ≤ 1 := le_one _ _ (sq_one n)
theorem S_le (n : Int) : -1 ≤ S n ∧ S n ≤ 1 := le_one _ (C n) (by have := sq_one n; grind)

/-! ### Numbers near them -/
def M : Int := 1766847064778384329583297500742918515827483896875618958121606201292619776
theorem M_pos : (0 : Rat) < (M : Rat) := by
  have : (0 : Int) < M := by decide
  exact_mod_cast this
/-- (a, b) is M times the unit vector of n, but for e. -/
def Apx (n : Int) (a b e : Int) : Prop := -(e : Rat) ≤ (M : Rat) * C n - a ∧ (M : Rat) * C n - a ≤ e ∧ -(e : Rat) ≤ (M : Rat) * S n - b ∧ (M : Rat) * S n - b ≤ e
theorem prod_le (x y X Y : Rat) (hx : -X ≤ x ∧ x ≤ X) (hy : -Y ≤ y ∧ y ≤ Y) : -(X * Y) ≤ x * y ∧ x * y ≤ X * Y := by
  have h1 := Rat.mul_nonneg (show 0 ≤ X - x by grind) (show 0 ≤ Y + y by grind)
  have h2 := Rat.mul_nonneg (show 0 ≤ X + x by grind) (show 0 ≤ Y - y by grind)
  have h3 := Rat.mul_nonneg (show 0 ≤ X - x by grind) (show 0 ≤ Y - y by grind)
  have h4 := Rat.mul_nonneg (show 0 ≤ X + x by grind) (show 0 ≤ Y + y by grind)
  constructor <;> grind
theorem floor_near (x : Int) : ((x / M : Int) : Rat) * M ≤ x ∧ (x : Rat) - M ≤ ((x / M : Int) : Rat) * M := by
  have h1 : x / M * M ≤ x := Int.ediv_mul_le x (by decide)
  have h2 : x < x / M * M + M := by
    have := Int.lt_ediv_add_one_mul_self x (show 0 < M by decide)
    rw [Int.add_mul, Int.one_mul] at this
    exact this
  have h3 : x - M ≤ x / M * M := by omega
  have e : ((x / M : Int) : Rat) * M = ((x / M * M : Int) : Rat) := by rw [Rat.intCast_mul]
  rw [e]
  constructor
  · exact_mod_cast h1
  · rw [← Rat.intCast_sub]; exact_mod_cast h3
theorem of_mul {m X Y : Rat} (hm : 0 < m) (h : m * X ≤ m * Y) : X ≤ Y := by
  apply Rat.not_lt.mp; intro g
  have := Rat.mul_pos hm (show 0 < X - Y by grind)
  grind
theorem scale_le {m x X : Rat} (hm : 0 < m) (h : -X ≤ x ∧ x ≤ X) : -(m * X) ≤ m * x ∧ m * x ≤ m * X := by
  have h1 := Rat.mul_le_mul_of_nonneg_left h.1 (Rat.le_of_lt hm)
  have h2 := Rat.mul_le_mul_of_nonneg_left h.2 (Rat.le_of_lt hm)
  constructor <;> grind
theorem lin5 (x1 x2 y1 y2 d mE mF m EF : Rat) (a1 : -mE ≤ x1 ∧ x1 ≤ mE) (a2 : -mE ≤ x2 ∧ x2 ≤ mE) (b1 : -(mF + EF) ≤ y1 ∧ y1 ≤ mF + EF) (b2 : -(mF + EF) ≤ y2 ∧ y2 ≤ mF + EF) (hd : 0 ≤ d ∧ d ≤ m) (h : EF ≤ mE) (h2 : 0 ≤ mF) (h3 : 0 ≤ m) :
    -(4 * mE + 4 * mF + 2 * m) ≤ x1 - x2 + y1 - y2 + d ∧ x1 - x2 + y1 - y2 + d ≤ 4 * mE + 4 * mF + 2 * m := by
  constructor <;> grind
theorem part_near (m' p A r A' q B t B' E F P : Rat) (hM : 0 < m') (h1 : -E ≤ m' * p - A ∧ m' * p - A ≤ E) (h2 : -E ≤ m' * q - B ∧ m' * q - B ≤ E) (k1 : -F ≤ m' * r - A' ∧ m' * r - A' ≤ F) (k2 : -F ≤ m' * t - B' ∧ m' * t - B' ≤ F)
    (c3 : -1 ≤ r ∧ r ≤ 1) (c4 : -1 ≤ t ∧ t ≤ 1) (ya : -(m' + E) ≤ A ∧ A ≤ m' + E) (yb : -(m' + E) ≤ B ∧ B ≤ m' + E) (hEF : E * F ≤ m' * E) (hf0 : 0 ≤ F) (hP : P * m' ≤ A * A' - B * B' ∧ A * A' - B * B' - m' ≤ P * m') :
    -(4 * E + 4 * F + 2) ≤ m' * (p * r - q * t) - P ∧ m' * (p * r - q * t) - P ≤ 4 * E + 4 * F + 2 := by
  have x1 := scale_le hM (prod_le (m' * p - A) r E 1 h1 c3)
  have x2 := scale_le hM (prod_le (m' * q - B) t E 1 h2 c4)
  have y1 := prod_le A (m' * r - A') (m' + E) F ya k1
  have y2 := prod_le B (m' * t - B') (m' + E) F yb k2
  have l := lin5 (m' * ((m' * p - A) * r)) (m' * ((m' * q - B) * t)) (A * (m' * r - A')) (B * (m' * t - B')) (A * A' - B * B' - P * m') (m' * E) (m' * F) m' (E * F)
    ⟨by have := x1.1; grind, by have := x1.2; grind⟩ ⟨by have := x2.1; grind, by have := x2.2; grind⟩ ⟨by have := y1.1; grind, by have := y1.2; grind⟩ ⟨by have := y2.1; grind, by have := y2.2; grind⟩ ⟨by have := hP.1; grind, by have := hP.2; grind⟩ hEF (Rat.mul_nonneg (Rat.le_of_lt hM) hf0) (Rat.le_of_lt hM)
  have e : m' * ((m' * p - A) * r) - m' * ((m' * q - B) * t) + A * (m' * r - A') - B * (m' * t - B') + (A * A' - B * B' - P * m') = m' * (m' * (p * r - q * t) - P) := by grind
  rw [e] at l
  constructor
  · refine of_mul hM ?_
    have := l.1
    grind
  · refine of_mul hM ?_
    have := l.2
    grind
theorem apx_mul {m n a b e a' b' f : Int} (h : Apx m a b e) (h' : Apx n a' b' f) (he : 0 ≤ e) (hf : 0 ≤ f ∧ f ≤ M) :
    Apx (m + n) ((a * a' - b * b') / M) ((b * a' + a * b') / M) (4 * e + 4 * f + 2) := by
  obtain ⟨h1, h2, h3, h4⟩ := h
  obtain ⟨k1, k2, k3, k4⟩ := h'
  have hM := M_pos
  have c1 := C_le m
  have c2 := S_le m
  have c3 := C_le n
  have c4 := S_le n
  have hfM : (f : Rat) ≤ M := by exact_mod_cast hf.2
  have hf0 : (0 : Rat) ≤ f := by exact_mod_cast hf.1
  have he0 : (0 : Rat) ≤ e := by exact_mod_cast he
  have ad := add m n
  obtain ⟨f1, f2⟩ := floor_near (a * a' - b * b')
  obtain ⟨g1, g2⟩ := floor_near (b * a' + a * b')
  rw [Rat.intCast_sub, Rat.intCast_mul, Rat.intCast_mul] at f1 f2
  rw [Rat.intCast_add, Rat.intCast_mul, Rat.intCast_mul] at g1 g2
  unfold Apx
  rw [ad.1, ad.2]
  generalize (((a * a' - b * b') / M : Int) : Rat) = P at *
  generalize (((b * a' + a * b') / M : Int) : Rat) = Q at *
  push_cast
  generalize (a : Rat) = A at *
  generalize (b : Rat) = B at *
  generalize (a' : Rat) = A' at *
  generalize (b' : Rat) = B' at *
  generalize (e : Rat) = E at *
  generalize (f : Rat) = F at *
  generalize (M : Rat) = m' at *
  generalize C m = p at *
  generalize S m = q at *
  generalize C n = r at *
  generalize S n = t at *
  have ya : -(m' + E) ≤ A ∧ A ≤ m' + E := by
    have z1 := prod_le m' p m' 1 ⟨by grind, Rat.le_refl⟩ c1
    constructor <;> grind
  have yb : -(m' + E) ≤ B ∧ B ≤ m' + E := by
    have z1 := prod_le m' q m' 1 ⟨by grind, Rat.le_refl⟩ c2
    constructor <;> grind
  have hEF : E * F ≤ m' * E := by
    have := Rat.mul_le_mul_of_nonneg_left hfM he0
    grind
  have e1 := part_near m' p A r A' q B t B' E F P hM ⟨h1, h2⟩ ⟨h3, h4⟩ ⟨k1, k2⟩ ⟨k3, k4⟩ c3 c4 ya yb hEF hf0 ⟨by grind, by grind⟩
  have e2 := part_near m' q B r A' p A (-t) (-B') E F Q hM ⟨h3, h4⟩ ⟨h1, h2⟩ ⟨k1, k2⟩ ⟨by grind, by grind⟩ c3 ⟨by grind, by grind⟩ yb ya hEF hf0 ⟨by grind, by grind⟩
  exact ⟨e1.1, e1.2, by grind, by grind⟩
/-! ### The numbers -/
def uA : Int := M * uU / uH
def uB : Int := M * uV / uH
theorem quo_near (x : Int) : ((x / uH : Int) : Rat) * uH ≤ x ∧ (x : Rat) - uH ≤ ((x / uH : Int) : Rat) * uH := by
  have h1 : x / uH * uH ≤ x := Int.ediv_mul_le x (by decide)
  have h2 : x < x / uH * uH + uH := by
    have := Int.lt_ediv_add_one_mul_self x (show 0 < uH by decide)
    rw [Int.add_mul, Int.one_mul] at this
    exact this
  have h3 : x - uH ≤ x / uH * uH := by omega
  have e : ((x / uH : Int) : Rat) * uH = ((x / uH * uH : Int) : Rat) := by rw [Rat.intCast_mul]
  rw [e]
  constructor
  · exact_mod_cast h1
  · rw [← Rat.intCast_sub]; exact_mod_cast h3
theorem C_1 : C 1 = c1 := by
  have := (step 0).1
  rw [C_zero, S_zero] at this
  rw [show (0 : Int) + 1 = 1 from rfl] at this
  rw [this]; grind
theorem S_1 : S 1 = s1 := by
  have := (step 0).2
  rw [C_zero, S_zero] at this
  rw [show (0 : Int) + 1 = 1 from rfl] at this
  rw [this]; grind
theorem one_part (x : Int) (q : Rat) (hq : q * uH = x) : 0 ≤ (M : Rat) * q - ((M * x / uH : Int) : Rat) ∧ (M : Rat) * q - ((M * x / uH : Int) : Rat) ≤ 1 := by
  obtain ⟨f1, f2⟩ := quo_near (M * x)
  have hp := uH_pos
  rw [Rat.intCast_mul] at f1 f2
  generalize ((M * x / uH : Int) : Rat) = P at *
  generalize (M : Rat) = m at *
  generalize (uH : Rat) = h at *
  generalize (x : Rat) = y at *
  subst hq
  constructor
  · refine of_mul hp ?_
    grind
  · refine of_mul hp ?_
    grind
theorem apx_one : Apx 1 uA uB 1 := by
  have hp := uH_pos
  have h1 := one_part uU c1 (by unfold c1; generalize (uU : Rat) = a; generalize (uH : Rat) = b at *; grind)
  have h2 := one_part uV s1 (by unfold s1; generalize (uV : Rat) = a; generalize (uH : Rat) = b at *; grind)
  unfold Apx
  rw [C_1, S_1]
  have e1 : ((1 : Int) : Rat) = 1 := rfl
  rw [e1]
  refine ⟨?_, h1.2, ?_, h2.2⟩
  · have := h1.1; unfold uA; grind
  · have := h2.1; unfold uB; grind
def sqA (x : Int × Int × Int) : Int × Int × Int := ((x.1 * x.1 - x.2.1 * x.2.1) / M, (x.2.1 * x.1 + x.1 * x.2.1) / M, 4 * x.2.2 + 4 * x.2.2 + 2)
def upA (x : Int × Int × Int) : Int × Int × Int := ((x.1 * uA - x.2.1 * uB) / M, (x.2.1 * uA + x.1 * uB) / M, 4 * x.2.2 + 4 * 1 + 2)
def apx : Nat → Nat → Int × Int × Int
  | 0, _ => (M, 0, 0)
  | f + 1, n => if n % 2 = 1 then upA (sqA (apx f (n / 2))) else sqA (apx f (n / 2))
theorem pow64 (f : Nat) (h : f ≤ 33) : (64 : Int) ^ f ≤ 64 ^ 33 := by
  have : ∀ f : Nat, f ≤ 33 → (64 : Int) ^ f ≤ 64 ^ 33 := by decide +kernel
  exact this f h
theorem apx_near : ∀ (f n : Nat), f ≤ 33 → n < 2 ^ f → Apx n (apx f n).1 (apx f n).2.1 (apx f n).2.2 ∧ 0 ≤ (apx f n).2.2 ∧ (apx f n).2.2 ≤ 64 ^ f - 1
  | 0, n, _, h => by
    obtain rfl : n = 0 := by omega
    refine ⟨?_, by decide, by decide⟩
    show Apx 0 M 0 0
    unfold Apx
    rw [C_zero, S_zero]
    have e0 : ((0 : Int) : Rat) = 0 := rfl
    rw [e0]
    refine ⟨?_, ?_, ?_, ?_⟩ <;> grind
  | f + 1, n, hf, h => by
    have ih := apx_near f (n / 2) (by omega) (by rw [Nat.pow_succ] at h; omega)
    have hM : (64 : Int) ^ f - 1 ≤ M := by
      have := pow64 f (by omega)
      have h2 : (64 : Int) ^ 33 ≤ M := by decide +kernel
      omega
    have hp : (64 : Int) ^ (f + 1) = 64 * 64 ^ f := by rw [Int.pow_succ]; omega
    obtain ⟨i1, i2, i3⟩ := ih
    have hs := apx_mul i1 i1 i2 ⟨i2, by omega⟩
    have e : ((n / 2 : Nat) : Int) + ((n / 2 : Nat) : Int) = ((2 * (n / 2) : Nat) : Int) := by omega
    rw [e] at hs
    by_cases hb : n % 2 = 1
    · have hu := apx_mul hs apx_one (by omega) ⟨by decide, by decide +kernel⟩
      rw [show ((2 * (n / 2) : Nat) : Int) + 1 = (n : Int) by omega] at hu
      show Apx n (if n % 2 = 1 then upA (sqA (apx f (n / 2))) else sqA (apx f (n / 2))).1 _ _ ∧ _
      have ee : apx (f + 1) n = upA (sqA (apx f (n / 2))) := by show (if n % 2 = 1 then _ else _) = _; rw [if_pos hb]
      rw [if_pos hb, ee]
      exact ⟨hu, by show (0 : Int) ≤ 4 * (4 * _ + 4 * _ + 2) + 4 * 1 + 2; omega, by show 4 * (4 * _ + 4 * _ + 2) + 4 * 1 + 2 ≤ _; rw [hp]; have : (1 : Int) ≤ 64 ^ f := Int.pow_pos (by decide); omega⟩
    · have ee : apx (f + 1) n = sqA (apx f (n / 2)) := by show (if n % 2 = 1 then _ else _) = _; rw [if_neg hb]
      rw [show ((2 * (n / 2) : Nat) : Int) = (n : Int) by omega] at hs
      rw [ee]
      exact ⟨hs, by show (0 : Int) ≤ 4 * _ + 4 * _ + 2; omega, by show 4 * _ + 4 * _ + 2 ≤ _; rw [hp]; have : (1 : Int) ≤ 64 ^ f := Int.pow_pos (by decide); omega⟩
/-! ### The table's angles -/
def tA (k : Nat) : Int × Int × Int := apx 30 (tabP k).toNat
theorem tA_near (k : Nat) (h : k < 31) : Apx (tabP k) (tA k).1 (tA k).2.1 (tA k).2.2 := by
  have h1 : ∀ k, k < 31 → 0 ≤ tabP k ∧ tabP k < 2 ^ 30 := by decide
  have h2 := h1 k h
  have := (apx_near 30 (tabP k).toNat (by omega) (by omega)).1
  rw [Int.toNat_of_nonneg h2.1] at this
  exact this
def okS (k : Nat) : Bool := decide (((tA k).1 - 2 ^ k * (tA k).2.1 + (1 + 2 ^ k) * (tA k).2.2) * 1073741824 ≤ M * 2 ^ k ∧ -(M * 2 ^ k) ≤ ((tA k).1 - 2 ^ k * (tA k).2.1 - (1 + 2 ^ k) * (tA k).2.2) * 1073741824)
def okR (k : Nat) : Bool := decide (M * 2 ^ k * 1125899906842623 ≤ 1125899906842624 * (2 ^ k * (tA k).1 + (tA k).2.1 - (1 + 2 ^ k) * (tA k).2.2) ∧ 2251799813685248 * 2 ^ k * (2 ^ k * (tA k).1 + (tA k).2.1 + (1 + 2 ^ k) * (tA k).2.2) ≤ M * (2251799813685250 * 2 ^ k * 2 ^ k + 1125899906842624))
set_option maxRecDepth 100000 in
theorem ok_all : ∀ k, k < 31 → okS k = true ∧ okR k = true := by decide +kernel
theorem rs (k : Nat) (h : k < 31) (g : Rat) (hg : g * ((2 ^ k : Int) : Rat) = 1) :
    (-1 ≤ 1073741824 * (g * C (tabP k) - S (tabP k)) ∧ 1073741824 * (g * C (tabP k) - S (tabP k)) ≤ 1) ∧ 1125899906842623 ≤ 1125899906842624 * (C (tabP k) + g * S (tabP k)) ∧ 2251799813685248 * (C (tabP k) + g * S (tabP k)) ≤ 2251799813685250 + 1125899906842624 * (g * g) := by
  obtain ⟨h1, h2, h3, h4⟩ := tA_near k h
  have hM := M_pos
  have hD : (0 : Rat) < ((2 ^ k : Int) : Rat) := by
    have : (0 : Int) < 2 ^ k := Int.pow_pos (by decide)
    exact_mod_cast this
  obtain ⟨o1, o2⟩ := ok_all k h
  unfold okS at o1
  unfold okR at o2
  replace o1 := of_decide_eq_true o1
  replace o2 := of_decide_eq_true o2
  have cast : ∀ {x y : Int}, x ≤ y → (x : Rat) ≤ (y : Rat) := fun h => by exact_mod_cast h
  have p1 := cast o1.1
  have p2 := cast o1.2
  have p3 := cast o2.1
  have p4 := cast o2.2
  generalize hDD : (2 ^ k : Int) = Di at *
  simp only [Rat.intCast_mul, Rat.intCast_add, Rat.intCast_sub, Rat.intCast_neg] at p1 p2 p3 p4
  have l1 : ((1 : Int) : Rat) = 1 := rfl
  have l2 : ((1073741824 : Int) : Rat) = 1073741824 := rfl
  have l3 : ((1125899906842623 : Int) : Rat) = 1125899906842623 := rfl
  have l4 : ((1125899906842624 : Int) : Rat) = 1125899906842624 := rfl
  have l5 : ((2251799813685248 : Int) : Rat) = 2251799813685248 := rfl
  have l6 : ((2251799813685250 : Int) : Rat) = 2251799813685250 := rfl
  rw [l1, l2] at p1 p2
  rw [l1, l3, l4] at p3
  rw [l1, l4, l5, l6] at p4
  generalize ((tA k).1 : Rat) = a at *
  generalize ((tA k).2.1 : Rat) = b at *
  generalize ((tA k).2.2 : Rat) = e at *
  generalize (M : Rat) = m at *
  generalize (Di : Rat) = D at *
  generalize C (tabP k) = c at *
  generalize S (tabP k) = s at *
  have sb := scale_le hD (show -e ≤ m * s - b ∧ m * s - b ≤ e from ⟨h3, h4⟩)
  have sa := scale_le hD (show -e ≤ m * c - a ∧ m * c - a ≤ e from ⟨h1, h2⟩)
  have hmD := Rat.mul_pos hM hD
  have q1 : m * D * (g * c - s) = m * c - D * (m * s) := by grind
  have q2 : m * D * (c + g * s) = D * (m * c) + m * s := by grind
  have q3 : m * D * D * (g * g) = m := by grind
  refine ⟨⟨?_, ?_⟩, ?_, ?_⟩
  · refine of_mul hmD ?_
    grind
  · refine of_mul hmD ?_
    grind
  · refine of_mul hmD ?_
    grind
  · have hmDD := Rat.mul_pos hmD hD
    refine of_mul hmDD ?_
    have : m * D * D * (2251799813685248 * (c + g * s)) = 2251799813685248 * D * (D * (m * c) + m * s) := by grind
    have t2 : D * (m * c) + m * s ≤ D * a + b + (1 + D) * e := by grind
    have t3 := Rat.mul_le_mul_of_nonneg_left t2 (Rat.le_of_lt hD)
    grind
/-! ### One turn, told by its part along and its part across -/
theorem tdiv_near (y : Int) (k : Nat) (g : Rat) (hg : g * ((2 ^ k : Int) : Rat) = 1) : ∃ d : Rat, ((Int.tdiv y (2 ^ k) : Int) : Rat) = g * y - d ∧ -1 ≤ d ∧ d ≤ 1 := by
  have hD : (0 : Int) < 2 ^ k := Int.pow_pos (by decide)
  have e := Int.mul_tdiv_add_tmod y (2 ^ k)
  have b1 : Int.tmod y (2 ^ k) ≤ 2 ^ k := Int.le_of_lt (Int.tmod_lt_of_pos y hD)
  have b2 : -(2 ^ k) ≤ Int.tmod y (2 ^ k) := by
    have := Int.tmod_lt_of_pos (-y) hD
    rw [Int.neg_tmod] at this
    omega
  generalize (2 ^ k : Int) = D at *
  have c1 : ((Int.tmod y D : Int) : Rat) ≤ (D : Rat) := by exact_mod_cast b1
  have c2 : -(D : Rat) ≤ ((Int.tmod y D : Int) : Rat) := by exact_mod_cast b2
  have c3 : (D : Rat) * ((Int.tdiv y D : Int) : Rat) + ((Int.tmod y D : Int) : Rat) = (y : Rat) := by exact_mod_cast congrArg (fun z : Int => (z : Rat)) e
  have c4 : (0 : Rat) < (D : Rat) := by exact_mod_cast hD
  generalize ((Int.tdiv y D : Int) : Rat) = q at *
  generalize ((Int.tmod y D : Int) : Rat) = m at *
  generalize (y : Rat) = Y at *
  generalize (D : Rat) = d at *
  clear e b1 b2 hD
  have e1 : d * (g * m) = m := by
    have : d * (g * m) = g * d * m := by grind
    rw [this, hg]; grind
  have e2 : g * Y = q + g * m := by
    have : g * Y = g * d * q + g * m := by rw [← c3]; grind
    rw [this, hg]; grind
  refine ⟨g * m, by rw [e2]; grind, ?_, ?_⟩
  · refine of_mul c4 ?_; rw [e1]; grind
  · refine of_mul c4 ?_; rw [e1]; grind
def alo (z0 : Int) (h : Int × Int × Int) : Rat := (h.1 : Rat) * C (z0 - h.2.2) + (h.2.1 : Rat) * S (z0 - h.2.2)
def acr (z0 : Int) (h : Int × Int × Int) : Rat := (h.2.1 : Rat) * C (z0 - h.2.2) - (h.1 : Rat) * S (z0 - h.2.2)
theorem two_le (a b p q : Rat) (ha : -1 ≤ a ∧ a ≤ 1) (hb : -1 ≤ b ∧ b ≤ 1) (hp : -1 ≤ p ∧ p ≤ 1) (hq : -1 ≤ q ∧ q ≤ 1) : -2 ≤ a * p + b * q ∧ a * p + b * q ≤ 2 := by
  have h1 := prod_le a p 1 1 ha hp
  have h2 := prod_le b q 1 1 hb hq
  constructor <;> grind
theorem turn_is (z0 : Int) (k : Nat) (hk : k < 31) (g : Rat) (hg : g * ((2 ^ k : Int) : Rat) = 1) (up : Bool) (h : Int × Int × Int) :
    ∃ r s d1 d2 : Rat, alo z0 (turnP k up h.1 h.2.1 h.2.2) = alo z0 h * r - acr z0 h * s + d1 ∧ acr z0 (turnP k up h.1 h.2.1 h.2.2) = acr z0 h * r + alo z0 h * s + d2
      ∧ (-2 ≤ d1 ∧ d1 ≤ 2) ∧ (-2 ≤ d2 ∧ d2 ≤ 2) ∧ (-1 ≤ 1073741824 * s ∧ 1073741824 * s ≤ 1) ∧ 1125899906842623 ≤ 1125899906842624 * r ∧ 2251799813685248 * r ≤ 2251799813685250 + 1125899906842624 * (g * g) ∧ r * r + s * s = 1 + g * g := by
  obtain ⟨x, y, a⟩ := h
  obtain ⟨⟨s1, s2⟩, r1, r2⟩ := rs k hk g hg
  obtain ⟨e1, v1, v2, v3⟩ := tdiv_near y k g hg
  obtain ⟨e2, u1, u2, u3⟩ := tdiv_near x k g hg
  have sq := sq_one (tabP k)
  cases up
  · have ad := sub (z0 - a) (tabP k)
    have cb := C_le (z0 - (a + tabP k))
    have sb := S_le (z0 - (a + tabP k))
    rw [show z0 - a - tabP k = z0 - (a + tabP k) by omega] at ad
    refine ⟨C (tabP k) + g * S (tabP k), -(g * C (tabP k) - S (tabP k)), -e1 * C (z0 - (a + tabP k)) + e2 * S (z0 - (a + tabP k)), e2 * C (z0 - (a + tabP k)) + e1 * S (z0 - (a + tabP k)), ?_, ?_, ?_, ?_, ⟨by grind, by grind⟩, r1, r2, by grind⟩
    · simp only [turnP, alo, acr, Bool.false_eq_true, if_false, Rat.intCast_add, Rat.intCast_sub]
      rw [v1, u1, ad.1, ad.2]
      grind
    · simp only [turnP, alo, acr, Bool.false_eq_true, if_false, Rat.intCast_add, Rat.intCast_sub]
      rw [v1, u1, ad.1, ad.2]
      grind
    · exact two_le _ _ _ _ ⟨by grind, by grind⟩ ⟨u2, u3⟩ cb sb
    · exact two_le _ _ _ _ ⟨u2, u3⟩ ⟨v2, v3⟩ cb sb
  · have ad := add (z0 - a) (tabP k)
    have cb := C_le (z0 - (a - tabP k))
    have sb := S_le (z0 - (a - tabP k))
    rw [show z0 - a + tabP k = z0 - (a - tabP k) by omega] at ad
    refine ⟨C (tabP k) + g * S (tabP k), g * C (tabP k) - S (tabP k), e1 * C (z0 - (a - tabP k)) + -e2 * S (z0 - (a - tabP k)), -e2 * C (z0 - (a - tabP k)) + -e1 * S (z0 - (a - tabP k)), ?_, ?_, ?_, ?_, ⟨by grind, by grind⟩, r1, r2, by grind⟩
    · simp only [turnP, alo, acr, if_true, Rat.intCast_add, Rat.intCast_sub]
      rw [v1, u1, ad.1, ad.2]
      grind
    · simp only [turnP, alo, acr, if_true, Rat.intCast_add, Rat.intCast_sub]
      rw [v1, u1, ad.1, ad.2]
      grind
    · exact two_le _ _ _ _ ⟨v2, v3⟩ ⟨by grind, by grind⟩ cb sb
    · exact two_le _ _ _ _ ⟨by grind, by grind⟩ ⟨by grind, by grind⟩ cb sb
theorem sq_of (z0 : Int) (h : Int × Int × Int) : alo z0 h * alo z0 h + acr z0 h * acr z0 h = (h.1 : Rat) * h.1 + (h.2.1 : Rat) * h.2.1 := by
  have := sq_one (z0 - h.2.2)
  unfold alo acr
  generalize C (z0 - h.2.2) = c at *
  generalize S (z0 - h.2.2) = s at *
  grind
theorem back_of (z0 : Int) (h : Int × Int × Int) : (h.1 : Rat) = alo z0 h * C (z0 - h.2.2) - acr z0 h * S (z0 - h.2.2) ∧ (h.2.1 : Rat) = alo z0 h * S (z0 - h.2.2) + acr z0 h * C (z0 - h.2.2) := by
  have := sq_one (z0 - h.2.2)
  unfold alo acr
  generalize C (z0 - h.2.2) = c at *
  generalize S (z0 - h.2.2) = s at *
  constructor <;> grind
/-! ### The circle's 31 rounds -/
def loZ : Nat → Int
  | 0 => 467453925826869670504714175281 - 2 ^ 57
  | k + 1 => loZ k + loZ k / 4 ^ k - 2 ^ 57
def hiZ : Nat → Int
  | 0 => 467453925826869670504714175281 + 2 ^ 57
  | k + 1 => hiZ k + hiZ k / 4 ^ k + 1 + 2 ^ 57
def acB : Nat → Int
  | 0 => 0
  | k + 1 => acB k + acB k / (2 * 4 ^ k) + acB k / 2 ^ 50 + (2 ^ 20 + 2 ^ 12)
theorem hiZ_ok : ∀ k, k ≤ 31 → hiZ k ≤ 2 ^ 100 + 2 ^ 63 ∧ 0 ≤ hiZ k := by decide +kernel
theorem loZ_ok : 2 ^ 100 - 2 ^ 63 ≤ loZ 31 := by decide +kernel
theorem acB_ok : ∀ k, k ≤ 31 → 0 ≤ acB k ∧ acB k ≤ 32 * 2 ^ 20 := by decide +kernel
theorem acB_up : ∀ k, k < 31 → acB k * (2251799813685250 * 4 ^ k + 1125899906842624) + (2 ^ 20 + 2 ^ 11) * 4 ^ k * 2251799813685248 ≤ acB (k + 1) * 4 ^ k * 2251799813685248 := by decide +kernel
theorem le_of_sq (x y : Rat) (hy : 0 ≤ y) (h : x * x ≤ y * y) : -y ≤ x ∧ x ≤ y := by
  constructor
  · apply Rat.not_lt.mp; intro h4
    have := Rat.mul_pos (show 0 < -x - y by grind) (show 0 < -x + y + (-x - y) by grind)
    have h6 := Rat.mul_nonneg (show 0 ≤ -x - y by grind) hy
    grind
  · apply Rat.not_lt.mp; intro h4
    have := Rat.mul_pos (show 0 < x - y by grind) (show 0 < x - y by grind)
    have h6 := Rat.mul_nonneg (show 0 ≤ x - y by grind) hy
    grind
/-- one step of the squares -/
theorem sq_step (R I r s d1 d2 G : Rat) (hZ : (R * R + I * I) * (1 + G) ≤ 2251799813685248 * 2251799813685248) (hG : r * r + s * s = 1 + G) (h1 : -2 ≤ d1 ∧ d1 ≤ 2) (h2 : -2 ≤ d2 ∧ d2 ≤ 2) :
    (R * R + I * I) * (1 + G) - 36028797018963968 ≤ (R * r - I * s + d1) * (R * r - I * s + d1) + (I * r + R * s + d2) * (I * r + R * s + d2) ∧ (R * r - I * s + d1) * (R * r - I * s + d1) + (I * r + R * s + d2) * (I * r + R * s + d2) ≤ (R * R + I * I) * (1 + G) + 36028797018963968 := by
  have e : (R * r - I * s) * (R * r - I * s) + (I * r + R * s) * (I * r + R * s) = (R * R + I * I) * (1 + G) := by rw [← hG]; grind
  rw [← e] at hZ ⊢
  have n1 := sq_nn (R * r - I * s)
  have n2 := sq_nn (I * r + R * s)
  have b1 := le_of_sq (R * r - I * s) 2251799813685248 (by decide) (by grind)
  have b2 := le_of_sq (I * r + R * s) 2251799813685248 (by decide) (by grind)
  clear e hZ n1 n2 hG
  generalize R * r - I * s = U at *
  generalize I * r + R * s = V at *
  have p1 := prod_le d1 U 2 2251799813685248 h1 b1
  have p2 := prod_le d2 V 2 2251799813685248 h2 b2
  have p3 := prod_le d1 d1 2 2 h1 h1
  have p4 := prod_le d2 d2 2 2 h2 h2
  have e2 : (U + d1) * (U + d1) + (V + d2) * (V + d2) = U * U + V * V + 2 * (d1 * U) + 2 * (d2 * V) + d1 * d1 + d2 * d2 := by grind
  rw [e2]
  constructor <;> grind
theorem quot_le (z : Int) (k : Nat) (g : Rat) (hg : g * ((2 ^ k : Int) : Rat) = 1) : (z : Rat) * (g * g) - 1 ≤ ((z / 4 ^ k : Int) : Rat) ∧ ((z / 4 ^ k : Int) : Rat) ≤ (z : Rat) * (g * g) := by
  have h4 : (4 ^ k : Int) = 2 ^ k * 2 ^ k := by rw [← Int.mul_pow]; rfl
  rw [h4]
  have hD : (0 : Int) < 2 ^ k := Int.pow_pos (by decide)
  generalize (2 ^ k : Int) = D at *
  have hDD : (0 : Int) < D * D := Int.mul_pos hD hD
  have e := Int.mul_ediv_add_emod z (D * D)
  have b1 : z % (D * D) ≤ D * D := Int.le_of_lt (Int.emod_lt_of_pos z hDD)
  have b2 : 0 ≤ z % (D * D) := Int.emod_nonneg z (by omega)
  have c1 : ((z % (D * D) : Int) : Rat) ≤ (D : Rat) * (D : Rat) := by exact_mod_cast b1
  have c2 : (0 : Rat) ≤ ((z % (D * D) : Int) : Rat) := by exact_mod_cast b2
  have c3 : (D : Rat) * (D : Rat) * ((z / (D * D) : Int) : Rat) + ((z % (D * D) : Int) : Rat) = (z : Rat) := by exact_mod_cast congrArg (fun z : Int => (z : Rat)) e
  have c4 : (0 : Rat) < (D : Rat) := by exact_mod_cast hD
  clear e b1 b2 hD hDD h4
  generalize ((z / (D * D) : Int) : Rat) = q at *
  generalize ((z % (D * D) : Int) : Rat) = m at *
  generalize (z : Rat) = Y at *
  generalize (D : Rat) = d at *
  have e0 : d * d * (g * g) = 1 := by
    have : d * d * (g * g) = (g * d) * (g * d) := by grind
    rw [this, hg]; grind
  have e1 : Y * (g * g) = q + m * (g * g) := by
    rw [← c3]
    have : (d * d * q + m) * (g * g) = (d * d * (g * g)) * q + m * (g * g) := by grind
    rw [this, e0]; grind
  have hd := Rat.mul_pos c4 c4
  have e2 : d * d * (m * (g * g)) = m := by
    have : d * d * (m * (g * g)) = (d * d * (g * g)) * m := by grind
    rw [this, e0]; grind
  have k1 : 0 ≤ m * (g * g) := by refine of_mul hd ?_; rw [e2]; grind
  have k2 : m * (g * g) ≤ 1 := by refine of_mul hd ?_; rw [e2]; grind
  rw [e1]
  constructor <;> grind
def InvC (z0 : Int) (k : Nat) (h : Int × Int × Int) : Prop :=
  ((loZ k : Rat) ≤ alo z0 h * alo z0 h + acr z0 h * acr z0 h ∧ alo z0 h * alo z0 h + acr z0 h * acr z0 h ≤ (hiZ k : Rat)) ∧ (-(acB k : Rat) ≤ acr z0 h ∧ acr z0 h ≤ (acB k : Rat)) ∧ 562949953421312 - 10 * ((k : Int) : Rat) ≤ alo z0 h
theorem g_le (k : Nat) (g : Rat) (hg : g * ((2 ^ k : Int) : Rat) = 1) : 0 ≤ g * g ∧ g * g ≤ 1 := by
  have hD : (1 : Int) ≤ 2 ^ k := by have : (0:Int) < 2 ^ k := Int.pow_pos (by decide); omega
  have c : (1 : Rat) ≤ ((2 ^ k : Int) : Rat) := by exact_mod_cast hD
  generalize ((2 ^ k : Int) : Rat) = d at *
  have hd : 0 < d := by grind
  have k1 : 0 ≤ g := by refine of_mul hd ?_; grind
  have k2 : g ≤ 1 := by refine of_mul hd ?_; grind
  have := prod_le g g 1 1 ⟨by grind, k2⟩ ⟨by grind, k2⟩
  exact ⟨sq_nn g, by grind⟩
theorem cr_step (R I r s d J J' GG m : Rat) (hJ : 0 ≤ J) (hI : -J ≤ I ∧ I ≤ J) (hR : -1125900980584448 ≤ R ∧ R ≤ 1125900980584448) (hr1 : 1125899906842623 ≤ 1125899906842624 * r) (hr2 : 2251799813685248 * r ≤ m) (hs : -1 ≤ 1073741824 * s ∧ 1073741824 * s ≤ 1) (hd : -2 ≤ d ∧ d ≤ 2)
    (hm : J * m + (1048576 + 2048) * 2251799813685248 ≤ J' * 2251799813685248) : -J' ≤ I * r + R * s + d ∧ I * r + R * s + d ≤ J' := by
  have hr0 : 0 ≤ r := by grind
  have p1 : -(J * r) ≤ I * r ∧ I * r ≤ J * r := by
    have a1 := Rat.mul_nonneg (show 0 ≤ I + J by grind) hr0
    have a2 := Rat.mul_nonneg (show 0 ≤ J - I by grind) hr0
    constructor <;> grind
  have p2 := prod_le R (1073741824 * s) 1125900980584448 1 hR hs
  have p3 := Rat.mul_le_mul_of_nonneg_left hr2 hJ
  have hp : (0 : Rat) < 2251799813685248 := by decide
  have p4 : J * r + 1048576 + 2048 ≤ J' := by
    refine of_mul hp ?_
    grind
  constructor <;> grind
theorem al_step (R I r s d : Rat) (lo : Rat) (hR : 0 ≤ R ∧ R ≤ 1125900980584448) (hlo : lo ≤ R) (hI : -33554432 ≤ I ∧ I ≤ 33554432) (hr1 : 1125899906842623 ≤ 1125899906842624 * r) (hs : -1 ≤ 1073741824 * s ∧ 1073741824 * s ≤ 1) (hd : -2 ≤ d ∧ d ≤ 2) :
    lo - 10 ≤ R * r - I * s + d := by
  have p2 := prod_le I (1073741824 * s) 33554432 1 hI hs
  have p3 := Rat.mul_le_mul_of_nonneg_left hr1 hR.1
  grind
theorem half_of (k : Nat) : ∃ g : Rat, g * ((2 ^ k : Int) : Rat) = 1 := by
  have hD : (0 : Int) < 2 ^ k := Int.pow_pos (by decide)
  have c : (0 : Rat) < ((2 ^ k : Int) : Rat) := by exact_mod_cast hD
  exact ⟨1 / ((2 ^ k : Int) : Rat), by generalize ((2 ^ k : Int) : Rat) = d at *; grind⟩
theorem inv_bd (R I hi : Rat) (h : R * R + I * I ≤ hi) (hh : hi ≤ 1267650600237452773533557981184) : -1125900980584448 ≤ R ∧ R ≤ 1125900980584448 := by
  have := sq_nn I
  exact le_of_sq R _ (by decide) (by grind)
theorem castle {x y : Int} (h : x ≤ y) : (x : Rat) ≤ (y : Rat) := by exact_mod_cast h
theorem inv_step (z0 : Int) (k : Nat) (hk : k < 31) (up : Bool) (h : Int × Int × Int) (hI : InvC z0 k h) : InvC z0 (k + 1) (turnP k up h.1 h.2.1 h.2.2) := by
  obtain ⟨g, hg⟩ := half_of k
  obtain ⟨r, s, d1, d2, e1, e2, hd1, hd2, hs, hr1, hr2, hrs⟩ := turn_is z0 k hk g hg up h
  obtain ⟨gg0, gg1⟩ := g_le k g hg
  obtain ⟨⟨z1, z2⟩, i1, i2⟩ := hI
  have z3 := castle (hiZ_ok k (by omega)).1
  have z4 := castle (hiZ_ok k (by omega)).2
  have q1 := (quot_le (hiZ k) k g hg).1
  have q2 := (quot_le (loZ k) k g hg).2
  have a1 := castle (acB_ok k (by omega)).1
  have a2 := castle (acB_ok k (by omega)).2
  have a3 := acB_up k hk
  have l1 : (((2 : Int) ^ 100 + 2 ^ 63 : Int) : Rat) = 1267650600237452773533557981184 := by decide
  have l0 : ((0 : Int) : Rat) = 0 := rfl
  have l2 : ((32 * 2 ^ 20 : Int) : Rat) = 33554432 := by decide
  rw [l1] at z3
  rw [l0] at z4 a1
  rw [l2] at a2
  have hR := inv_bd _ _ _ z2 z3
  unfold InvC
  rw [e1, e2]
  refine ⟨?_, ?_, ?_⟩
  · have hz : (alo z0 h * alo z0 h + acr z0 h * acr z0 h) * (1 + g * g) ≤ 2251799813685248 * 2251799813685248 := by
      have t1 := Rat.mul_le_mul_of_nonneg_right (Rat.le_trans z2 z3) (show 0 ≤ 1 + g * g by grind)
      grind
    obtain ⟨b1, b2⟩ := sq_step (alo z0 h) (acr z0 h) r s d1 d2 (g * g) hz hrs hd1 hd2
    have t1 := Rat.mul_le_mul_of_nonneg_right z2 (show 0 ≤ 1 + g * g by grind)
    have t2 := Rat.mul_le_mul_of_nonneg_right z1 (show 0 ≤ 1 + g * g by grind)
    have f1 : ((loZ (k + 1) : Int) : Rat) = (loZ k : Rat) + ((loZ k / 4 ^ k : Int) : Rat) - 144115188075855872 := by
      show ((loZ k + loZ k / 4 ^ k - 2 ^ 57 : Int) : Rat) = _
      rw [Rat.intCast_sub, Rat.intCast_add]
      rfl
    have f2 : ((hiZ (k + 1) : Int) : Rat) = (hiZ k : Rat) + ((hiZ k / 4 ^ k : Int) : Rat) + 1 + 144115188075855872 := by
      show ((hiZ k + hiZ k / 4 ^ k + 1 + 2 ^ 57 : Int) : Rat) = _
      rw [Rat.intCast_add, Rat.intCast_add, Rat.intCast_add]
      rfl
    rw [f1, f2]
    constructor
    · refine Rat.le_trans ?_ b1
      grind
    · refine Rat.le_trans b2 ?_
      grind
  · refine cr_step (alo z0 h) (acr z0 h) r s d2 (acB k) (acB (k + 1)) (g * g) (2251799813685250 + 1125899906842624 * (g * g)) a1 i1 hR hr1 hr2 hs hd2 ?_
    have c3 := castle a3
    have h4 : (4 ^ k : Int) = 2 ^ k * 2 ^ k := by rw [← Int.mul_pow]; rfl
    rw [h4] at c3
    have l5 : ((2 ^ 20 + 2 ^ 11 : Int) : Rat) = 1050624 := by decide
    generalize hx : (2 ^ 20 + 2 ^ 11 : Int) = x at *
    have hD : (0 : Rat) < ((2 ^ k : Int) : Rat) := by
      have : (0 : Int) < 2 ^ k := Int.pow_pos (by decide)
      exact_mod_cast this
    generalize (2 ^ k : Int) = D at *
    simp only [Rat.intCast_mul, Rat.intCast_add] at c3
    rw [l5] at c3
    have m1 : ((2251799813685250 : Int) : Rat) = 2251799813685250 := rfl
    have m2 : ((1125899906842624 : Int) : Rat) = 1125899906842624 := rfl
    have m3 : ((2251799813685248 : Int) : Rat) = 2251799813685248 := rfl
    rw [m1, m2, m3] at c3
    generalize (D : Rat) = d at *
    generalize (acB k : Rat) = J at *
    generalize (acB (k + 1) : Rat) = J' at *
    have e0 : d * d * (g * g) = 1 := by
      have : d * d * (g * g) = (g * d) * (g * d) := by grind
      rw [this, hg]; grind
    refine of_mul (Rat.mul_pos hD hD) ?_
    have e3 : d * d * (J * (2251799813685250 + 1125899906842624 * (g * g)) + (1048576 + 2048) * 2251799813685248) = J * (2251799813685250 * (d * d) + 1125899906842624 * (d * d * (g * g))) + (1048576 + 2048) * 2251799813685248 * (d * d) := by grind
    rw [e3, e0]
    grind
  · have hlo : (562949953421312 : Rat) - 10 * ((k : Int) : Rat) ≤ alo z0 h := i2
    have hk2 : ((k : Int) : Rat) ≤ 31 := by
      have : ((k : Int) : Rat) ≤ ((31 : Int) : Rat) := castle (by omega)
      have e : ((31 : Int) : Rat) = 31 := rfl
      rw [e] at this; exact this
    have := al_step (alo z0 h) (acr z0 h) r s d1 (562949953421312 - 10 * ((k : Int) : Rat)) ⟨by grind, hR.2⟩ hlo ⟨by grind, by grind⟩ hr1 hs hd1
    have e : (((k + 1 : Nat) : Int) : Rat) = ((k : Int) : Rat) + 1 := by
      rw [show ((k + 1 : Nat) : Int) = (k : Int) + 1 by omega, Rat.intCast_add]; rfl
    rw [e]
    grind
def angB : Nat → Int
  | 0 => 1073741824
  | k + 1 => max (tabP k) (angB k - tabP k)
theorem ang_ok : angB 31 = 1 := by decide +kernel
theorem tab_nn (k : Nat) (hk : k < 31) : 0 ≤ tabP k := by
  have : ∀ k, k < 31 → 0 ≤ tabP k := by decide
  exact this k hk
theorem circ_all (h : Int × Int × Int) (z0 : Int) (h0 : InvC z0 0 h) (ha : -1073741824 ≤ h.2.2 ∧ h.2.2 ≤ 1073741824) : ∀ k, k ≤ 31 → InvC z0 k (iterP stepC k h) ∧ -angB k ≤ (iterP stepC k h).2.2 ∧ (iterP stepC k h).2.2 ≤ angB k
  | 0, _ => ⟨h0, ha⟩
  | k + 1, hk => by
    obtain ⟨i1, i2, i3⟩ := circ_all h z0 h0 ha k (by omega)
    have ht := tab_nn k (by omega)
    have e : iterP stepC (k + 1) h = turnP k (decide (0 ≤ (iterP stepC k h).2.2)) (iterP stepC k h).1 (iterP stepC k h).2.1 (iterP stepC k h).2.2 := rfl
    have ea : angB (k + 1) = max (tabP k) (angB k - tabP k) := rfl
    rw [e]
    refine ⟨inv_step z0 k (by omega) _ _ i1, ?_⟩
    generalize iterP stepC k h = p at *
    rw [ea]
    by_cases hp : 0 ≤ p.2.2
    · rw [decide_eq_true hp]; simp only [turnP, if_true]; omega
    · rw [decide_eq_false hp]; simp only [turnP, Bool.false_eq_true, if_false]; omega
theorem one_near (n : Int) (h : -1 ≤ n ∧ n ≤ 1) : (-1 ≤ 1073741824 * (C n - 1) ∧ 1073741824 * (C n - 1) ≤ 1) ∧ -2 ≤ 1073741824 * S n ∧ 1073741824 * S n ≤ 2 := by
  have hp := uH_pos
  have a1 : (-1 : Rat) ≤ 1073741824 * (c1 - 1) ∧ 1073741824 * (c1 - 1) ≤ 1 := by
    have k1 : -uH ≤ 1073741824 * (uU - uH) := by decide
    have k2 : 1073741824 * (uU - uH) ≤ uH := by decide
    have m1 := castle k1
    have m2 := castle k2
    simp only [Rat.intCast_mul, Rat.intCast_sub, Rat.intCast_neg] at m1 m2
    have l2 : ((1073741824 : Int) : Rat) = 1073741824 := rfl
    rw [l2] at m1 m2
    have e : (uH : Rat) * c1 = uU := by unfold c1; generalize (uU : Rat) = a at *; generalize (uH : Rat) = b at *; grind
    constructor
    · refine of_mul hp ?_; grind
    · refine of_mul hp ?_; grind
  have a2 : (-2 : Rat) ≤ 1073741824 * s1 ∧ 1073741824 * s1 ≤ 2 := by
    have k1 : -(2 * uH) ≤ 1073741824 * uV := by decide
    have k2 : 1073741824 * uV ≤ 2 * uH := by decide
    have m1 := castle k1
    have m2 := castle k2
    simp only [Rat.intCast_mul, Rat.intCast_sub, Rat.intCast_neg] at m1 m2
    have l2 : ((1073741824 : Int) : Rat) = 1073741824 := rfl
    have l3 : ((2 : Int) : Rat) = 2 := rfl
    rw [l2, l3] at m1 m2
    have e : (uH : Rat) * s1 = uV := by unfold s1; generalize (uV : Rat) = a at *; generalize (uH : Rat) = b at *; grind
    constructor
    · refine of_mul hp ?_; grind
    · refine of_mul hp ?_; grind
  obtain h1 | h1 | h1 : n = 0 ∨ n = 1 ∨ n = -1 := by omega
  · subst h1; rw [C_zero, S_zero]; refine ⟨⟨?_, ?_⟩, ?_, ?_⟩ <;> grind
  · subst h1; rw [C_1, S_1]; exact ⟨a1, a2⟩
  · subst h1; rw [C_neg, S_neg, C_1, S_1]; refine ⟨a1, ?_, ?_⟩ <;> grind
/-- an angle that is one off, or none -/
theorem off_one (n m : Int) (h : -1 ≤ m ∧ m ≤ 1) : (-3 ≤ 1073741824 * (C (n - m) - C n) ∧ 1073741824 * (C (n - m) - C n) ≤ 3) ∧ -3 ≤ 1073741824 * (S (n - m) - S n) ∧ 1073741824 * (S (n - m) - S n) ≤ 3 := by
  have ad := sub n m
  obtain ⟨o1, o2⟩ := one_near m h
  have c := C_le n
  have s := S_le n
  rw [ad.1, ad.2]
  generalize C n = u at *
  generalize S n = v at *
  generalize C m = p at *
  generalize S m = q at *
  have p1 := prod_le u (1073741824 * (p - 1)) 1 1 c o1
  have p2 := prod_le v (1073741824 * q) 1 2 s o2
  have p3 := prod_le v (1073741824 * (p - 1)) 1 1 s o1
  have p4 := prod_le u (1073741824 * q) 1 2 c o2
  refine ⟨⟨?_, ?_⟩, ?_, ?_⟩ <;> grind
theorem start_inv (a : Int) : InvC a 0 (683706022956409, 0, a) := by
  unfold InvC alo acr
  simp only [Int.sub_self, C_zero, S_zero]
  refine ⟨⟨?_, ?_⟩, ⟨?_, ?_⟩, ?_⟩ <;> decide +kernel
theorem len_near (R Z I : Rat) (h0 : 0 ≤ R) (hZ : Z = R * R + I * I) (z1 : 1267650600237452773533557981184 - 18446744073709551616 ≤ Z) (z2 : Z ≤ 1267650600237452773533557981184) (hI : -33554432 ≤ I ∧ I ≤ 33554432) : -65536 ≤ R - 1125899906842624 ∧ R - 1125899906842624 ≤ 65536 := by
  have p1 := prod_le I I 33554432 33554432 hI hI
  have p2 := sq_nn I
  constructor
  · apply Rat.not_lt.mp; intro h4
    have a1 := Rat.mul_pos (show 0 < 1125899906842624 - 65536 - R by grind) (show 0 < 1125899906842624 - 65536 + R by grind)
    grind
  · apply Rat.not_lt.mp; intro h4
    have a1 := Rat.mul_pos (show 0 < R - (1125899906842624 + 65536) by grind) (show 0 < R + (1125899906842624 + 65536) by grind)
    grind
/-- the hand of the circle, after its 31 rounds -/
theorem circ_near (a : Int) (ha : -1073741824 ≤ a ∧ a ≤ 1073741824) (h : Int × Int × Int) (hh : h = iterP stepC 31 (683706022956409, 0, a)) :
    (-41943040 ≤ (h.1 : Rat) - 1125899906842624 * C a ∧ (h.1 : Rat) - 1125899906842624 * C a ≤ 41943040) ∧ (-41943040 ≤ (h.2.1 : Rat) - 1125899906842624 * S a ∧ (h.2.1 : Rat) - 1125899906842624 * S a ≤ 41943040)
    ∧ 2 ^ 100 - 2 ^ 63 ≤ h.1 * h.1 + h.2.1 * h.2.1 ∧ h.1 * h.1 + h.2.1 * h.2.1 ≤ 2 ^ 100 + 2 ^ 63 := by
  obtain ⟨⟨⟨z1, z2⟩, i1, i2⟩, b1⟩ := circ_all (683706022956409, 0, a) a (start_inv a) ha 31 (by omega)
  rw [← hh] at z1 z2 i1 i2 b1
  rw [ang_ok] at b1
  have z3 := Rat.le_trans z2 (castle (hiZ_ok 31 (by omega)).1)
  have z4 := Rat.le_trans (castle loZ_ok) z1
  have a2 := castle (acB_ok 31 (by omega)).2
  have l1 : (((2 : Int) ^ 100 + 2 ^ 63 : Int) : Rat) = 1267650600237452773533557981184 := by decide
  have l3 : (((2 : Int) ^ 100 - 2 ^ 63 : Int) : Rat) = 1267650600237452773533557981184 - 18446744073709551616 := by decide +kernel
  have l2 : ((32 * 2 ^ 20 : Int) : Rat) = 33554432 := by decide
  have l4 : ((31 : Nat) : Int) = 31 := rfl
  have l5 : ((31 : Int) : Rat) = 31 := rfl
  have sq := sq_of a h
  have bk := back_of a h
  have of := off_one a h.2.2 b1
  refine ⟨?_, ?_, ?_, ?_⟩
  · rw [l1] at z3
    rw [l3] at z4
    rw [l2] at a2
    rw [l4, l5] at i2
    have hR := len_near (alo a h) _ (acr a h) (by grind) rfl z4 z3 ⟨by grind, by grind⟩
    rw [bk.1]
    have c := C_le (a - h.2.2)
    have s := S_le (a - h.2.2)
    have o1 := of.1
    generalize C (a - h.2.2) = cc at *
    generalize S (a - h.2.2) = ss at *
    generalize C a = c0 at *
    generalize S a = s0 at *
    generalize alo a h = R at *
    generalize acr a h = I at *
    have p1 := prod_le (R - 1125899906842624) cc 65536 1 hR c
    have p2 := prod_le I ss 33554432 1 ⟨by grind, by grind⟩ s
    clear z1 z2 z3 z4 sq bk of i1 i2 a2
    constructor <;> grind
  · rw [l1] at z3
    rw [l3] at z4
    rw [l2] at a2
    rw [l4, l5] at i2
    have hR := len_near (alo a h) _ (acr a h) (by grind) rfl z4 z3 ⟨by grind, by grind⟩
    rw [bk.2]
    have c := C_le (a - h.2.2)
    have s := S_le (a - h.2.2)
    have o1 := of.2
    generalize C (a - h.2.2) = cc at *
    generalize S (a - h.2.2) = ss at *
    generalize C a = c0 at *
    generalize S a = s0 at *
    generalize alo a h = R at *
    generalize acr a h = I at *
    have p1 := prod_le (R - 1125899906842624) ss 65536 1 hR s
    have p2 := prod_le I cc 33554432 1 ⟨by grind, by grind⟩ c
    clear z1 z2 z3 z4 sq bk of i1 i2 a2
    constructor <;> grind
  · rw [sq, ← Rat.intCast_mul, ← Rat.intCast_mul, ← Rat.intCast_add] at z4
    exact Rat.intCast_le_intCast.mp z4
  · rw [sq, ← Rat.intCast_mul, ← Rat.intCast_mul, ← Rat.intCast_add] at z3
    exact Rat.intCast_le_intCast.mp z3
/-! ### Half a turn -/
def hA : Int × Int × Int := apx 33 2147483648
theorem hA_near : Apx 2147483648 hA.1 hA.2.1 hA.2.2 := (apx_near 33 2147483648 (by decide) (by decide)).1
set_option maxRecDepth 100000 in
theorem hA_ok : (4294967296 * (hA.1 + M + hA.2.2) ≤ M ∧ -M ≤ 4294967296 * (hA.1 + M - hA.2.2)) ∧ 4294967296 * (hA.2.1 + hA.2.2) ≤ M ∧ -M ≤ 4294967296 * (hA.2.1 - hA.2.2) := by decide +kernel
theorem half : (-1 ≤ 4294967296 * (C 2147483648 + 1) ∧ 4294967296 * (C 2147483648 + 1) ≤ 1) ∧ -1 ≤ 4294967296 * S 2147483648 ∧ 4294967296 * S 2147483648 ≤ 1 := by
  obtain ⟨h1, h2, h3, h4⟩ := hA_near
  obtain ⟨⟨k1, k2⟩, k3, k4⟩ := hA_ok
  have hM := M_pos
  have m1 := castle k1
  have m2 := castle k2
  have m3 := castle k3
  have m4 := castle k4
  simp only [Rat.intCast_mul, Rat.intCast_add, Rat.intCast_sub, Rat.intCast_neg] at m1 m2 m3 m4
  have l2 : ((4294967296 : Int) : Rat) = 4294967296 := rfl
  rw [l2] at m1 m2 m3 m4
  generalize C 2147483648 = c at *
  generalize S 2147483648 = s at *
  generalize (M : Rat) = m at *
  generalize (hA.1 : Rat) = a at *
  generalize (hA.2.1 : Rat) = b at *
  generalize (hA.2.2 : Rat) = e at *
  refine ⟨⟨?_, ?_⟩, ?_, ?_⟩
  all_goals
    refine of_mul hM ?_
    grind
theorem half_off (n : Int) : (-1 ≤ 1073741824 * (C (2147483648 - n) + C n) ∧ 1073741824 * (C (2147483648 - n) + C n) ≤ 1) ∧ -1 ≤ 1073741824 * (S (2147483648 - n) - S n) ∧ 1073741824 * (S (2147483648 - n) - S n) ≤ 1 := by
  obtain ⟨o1, o2⟩ := half
  have ad := sub 2147483648 n
  have c := C_le n
  have s := S_le n
  rw [ad.1, ad.2]
  generalize C n = u at *
  generalize S n = v at *
  generalize C 2147483648 = p at *
  generalize S 2147483648 = q at *
  have p1 := prod_le u (4294967296 * (p + 1)) 1 1 c o1
  have p2 := prod_le v (4294967296 * q) 1 1 s o2
  have p3 := prod_le v (4294967296 * (p + 1)) 1 1 s o1
  have p4 := prod_le u (4294967296 * q) 1 1 c o2
  refine ⟨⟨?_, ?_⟩, ?_, ?_⟩ <;> grind
/-- n is a's mirror: half a turn less a, or half a turn more, the other way round -/
theorem mirror (a n : Int) (h : n = 2147483648 - a ∨ n = -2147483648 - a) : (-1 ≤ 1073741824 * (C n + C a) ∧ 1073741824 * (C n + C a) ≤ 1) ∧ -1 ≤ 1073741824 * (S n - S a) ∧ 1073741824 * (S n - S a) ≤ 1 := by
  rcases h with h | h
  · subst h; exact half_off a
  · have := half_off (-a)
    rw [C_neg, S_neg] at this
    rw [h, show -2147483648 - a = -(2147483648 - -a) by omega, C_neg, S_neg]
    obtain ⟨t1, t2⟩ := this
    refine ⟨t1, ?_, ?_⟩ <;> grind
theorem sq_int (x B : Int) (hB : 0 ≤ B) (h : x * x ≤ B * B) : -B ≤ x ∧ x ≤ B := by
  have h1 : (x : Rat) * x ≤ (B : Rat) * B := by rw [← Rat.intCast_mul, ← Rat.intCast_mul]; exact castle h
  have := le_of_sq x B (by have := castle hB; exact this) h1
  rw [← Rat.intCast_neg] at this
  exact ⟨Rat.intCast_le_intCast.mp this.1, Rat.intCast_le_intCast.mp this.2⟩
/-- c is n parted by 2^20 and rounded -/
def Pt (c n : Int) : Prop := -524288 ≤ c * 1048576 - n ∧ c * 1048576 - n ≤ 524288
theorem pt_near (c n : Int) (h : Pt c n) (t : Rat) (ht : -41943040 ≤ (n : Rat) - 1125899906842624 * t ∧ (n : Rat) - 1125899906842624 * t ≤ 41943040) : -41 ≤ (c : Rat) - 1073741824 * t ∧ (c : Rat) - 1073741824 * t ≤ 41 := by
  have m1 := castle h.1
  have m2 := castle h.2
  simp only [Rat.intCast_mul, Rat.intCast_sub, Rat.intCast_neg] at m1 m2
  have l2 : ((1048576 : Int) : Rat) = 1048576 := rfl
  have l3 : ((524288 : Int) : Rat) = 524288 := rfl
  rw [l2, l3] at m1 m2
  constructor <;> grind
theorem pt_sq (c n B : Int) (h : Pt c n) (hB : -1125899907366912 ≤ n ∧ n ≤ 1125899907366912) : -1125899908415488 * 1048576 ≤ c * c * 1099511627776 - n * n ∧ c * c * 1099511627776 - n * n ≤ 1125899908415488 * 1048576 := by
  unfold Pt at h
  generalize hd : c * 1048576 - n = d at *
  have e : c * c * 1099511627776 - n * n = d * (2 * n + d) := by
    have : c * 1048576 = n + d := by omega
    have e2 : c * c * 1099511627776 = (c * 1048576) * (c * 1048576) := by grind
    rw [e2, this]; grind
  rw [e]
  have hb : -2251799815782400 ≤ 2 * n + d ∧ 2 * n + d ≤ 2251799815782400 := by omega
  generalize 2 * n + d = f at *
  have r := prod_le (d : Rat) (f : Rat) 524288 2251799815782400 ⟨by have := castle h.1; exact this, by have := castle h.2; exact this⟩ ⟨by have := castle hb.1; exact this, by have := castle hb.2; exact this⟩
  rw [← Rat.intCast_mul] at r
  have l : (524288 : Rat) * 2251799815782400 = ((524288 * 2251799815782400 : Int) : Rat) := by decide +kernel
  rw [l, ← Rat.intCast_neg] at r
  have r1 := Rat.intCast_le_intCast.mp r.1
  have r2 := Rat.intCast_le_intCast.mp r.2
  omega
/-- the circle's numbers: near where the angle points, and round -/
theorem circle_law (a n x y c s : Int) (h : (n = a ∧ x = c) ∨ ((n = 2147483648 - a ∨ n = -2147483648 - a) ∧ x = -c)) (hn : -1073741824 ≤ n ∧ n ≤ 1073741824)
    (hx : (-1125899907366912 ≤ (iterP stepC 31 (683706022956409, 0, n)).1 ∧ (iterP stepC 31 (683706022956409, 0, n)).1 ≤ 1125899907366912) → Pt x (iterP stepC 31 (683706022956409, 0, n)).1)
    (hs : (-1125899907366912 ≤ (iterP stepC 31 (683706022956409, 0, n)).2.1 ∧ (iterP stepC 31 (683706022956409, 0, n)).2.1 ≤ 1125899907366912) → Pt s (iterP stepC 31 (683706022956409, 0, n)).2.1) :
    (-42 ≤ (c : Rat) - 1073741824 * C a ∧ (c : Rat) - 1073741824 * C a ≤ 42) ∧ (-42 ≤ (s : Rat) - 1073741824 * S a ∧ (s : Rat) - 1073741824 * S a ≤ 42) ∧ c * c + s * s ≤ 1152921504606846976 + 8589934592 ∧ 1152921504606846976 - 8589934592 ≤ c * c + s * s := by
  obtain ⟨n1, n2, n3, n4⟩ := circ_near n hn _ rfl
  generalize iterP stepC 31 (683706022956409, 0, n) = p at *
  have q1 : ∀ z : Int, 0 ≤ z * z := fun z => by
    have := castle (show (0:Int) ≤ 0 by omega)
    have h1 := sq_nn (z : Rat)
    rw [← Rat.intCast_mul] at h1
    exact Rat.intCast_le_intCast.mp h1
  have b1 := sq_int p.1 1125899907366912 (by omega) (by have := q1 p.2.1; omega)
  have b2 := sq_int p.2.1 1125899907366912 (by omega) (by have := q1 p.1; omega)
  replace hx := hx b1
  replace hs := hs b2
  have t1 := pt_near x p.1 hx _ n1
  have t2 := pt_near s p.2.1 hs _ n2
  have u1 := pt_sq x p.1 0 hx b1
  have u2 := pt_sq s p.2.1 0 hs b2
  have hcx : x * x = c * c := by
    rcases h with ⟨_, h⟩ | ⟨_, h⟩
    · rw [h]
    · rw [h]; grind
  rw [hcx] at u1
  refine ⟨?_, ?_, by omega, by omega⟩
  · rcases h with ⟨h1, h2⟩ | ⟨h1, h2⟩
    · subst h1 h2; constructor <;> grind
    · have m := (mirror a n h1).1
      rw [h2, Rat.intCast_neg] at t1
      constructor <;> grind
  · rcases h with ⟨h1, h2⟩ | ⟨h1, h2⟩
    · subst h1 h2; constructor <;> grind
    · have m := (mirror a n h1).2
      constructor <;> grind
/-! ### The angle's 31 rounds -/
/-- after the first round: how far across, against how far along -/
def Thin (L : Int) (k : Nat) (h : Int × Int × Int) : Prop := L ≤ h.1 ∧ h.2.1 * 2 ^ k ≤ h.1 + k * 2 ^ k ∧ -(h.1 + k * 2 ^ k) ≤ h.2.1 * 2 ^ k
theorem tdiv_pos (x D : Int) (hD : 0 < D) (hx : 0 ≤ x) : 0 ≤ Int.tdiv x D ∧ D * Int.tdiv x D ≤ x ∧ x - D ≤ D * Int.tdiv x D := by
  rw [Int.tdiv_eq_ediv_of_nonneg hx]
  have e := Int.mul_ediv_add_emod x D
  have b1 := Int.emod_lt_of_pos x hD
  have b2 := Int.emod_nonneg x (show D ≠ 0 by omega)
  exact ⟨Int.ediv_nonneg hx (by omega), by omega, by omega⟩
theorem tdiv_neg (y D : Int) (hD : 0 < D) (hy : y ≤ 0) : Int.tdiv y D ≤ 0 := by
  have := (tdiv_pos (-y) D hD (by omega)).1
  rw [Int.neg_tdiv] at this
  omega
theorem thin_step (L : Int) (hL : 0 ≤ L) (k : Nat) (h : Int × Int × Int) (hT : Thin L k h) : Thin L (k + 1) (stepA (k + 1) h) := by
  obtain ⟨P, Q, a⟩ := h
  obtain ⟨h1, h2, h3⟩ := hT
  simp only at h1 h2 h3
  have hD : (0 : Int) < 2 ^ k := Int.pow_pos (by decide)
  have e : (2 : Int) ^ (k + 1) = 2 * 2 ^ k := by rw [Int.pow_succ]; omega
  have ek : ((k + 1 : Nat) : Int) = (k : Int) + 1 := by omega
  unfold Thin stepA
  simp only
  by_cases hq : Q = 0
  · rw [if_pos hq]
    simp only [hq, ek, e]
    refine ⟨h1, ?_, ?_⟩
    · have := Int.mul_nonneg (show (0 : Int) ≤ (k : Int) + 1 by omega) (show (0 : Int) ≤ 2 * 2 ^ k by omega)
      omega
    · have := Int.mul_nonneg (show (0 : Int) ≤ (k : Int) + 1 by omega) (show (0 : Int) ≤ 2 * 2 ^ k by omega)
      omega
  · rw [if_neg hq, ek]
    have t := tdiv_pos P (2 ^ (k + 1)) (by rw [e]; omega) (by omega)
    rw [e] at t
    by_cases hn : Q < 0
    · rw [decide_eq_true hn]
      have u := tdiv_neg Q (2 ^ (k + 1)) (by rw [e]; omega) (by omega)
      simp only [turnP, if_true, e] at u ⊢
      have q0 : Q * 2 ^ k ≤ 0 := Int.mul_nonpos_of_nonpos_of_nonneg (by omega) (by omega)
      generalize (2 ^ k : Int) = D at *
      generalize P.tdiv (2 * D) = p at *
      generalize Q.tdiv (2 * D) = q at *
      have e1 : (Q + p) * (2 * D) = 2 * (Q * D) + 2 * D * p := by grind
      have e2 : ((k : Int) + 1) * (2 * D) = 2 * (k * D) + 2 * D := by grind
      rw [e1, e2]
      have kd : 0 ≤ (k : Int) * D := Int.mul_nonneg (by omega) (by omega)
      generalize (k : Int) * D = K at *
      generalize Q * D = w at *
      generalize 2 * D * p = v at *
      omega
    · rw [decide_eq_false hn]
      have u := (tdiv_pos Q (2 ^ (k + 1)) (by rw [e]; omega) (by omega)).1
      simp only [turnP, Bool.false_eq_true, if_false, e] at u ⊢
      have q0 : 0 ≤ Q * 2 ^ k := Int.mul_nonneg (by omega) (by omega)
      generalize (2 ^ k : Int) = D at *
      generalize P.tdiv (2 * D) = p at *
      generalize Q.tdiv (2 * D) = q at *
      have e1 : (Q - p) * (2 * D) = 2 * (Q * D) - 2 * D * p := by grind
      have e2 : ((k : Int) + 1) * (2 * D) = 2 * (k * D) + 2 * D := by grind
      rw [e1, e2]
      have kd : 0 ≤ (k : Int) * D := Int.mul_nonneg (by omega) (by omega)
      generalize (k : Int) * D = K at *
      generalize Q * D = w at *
      generalize 2 * D * p = v at *
      omega
theorem thin_first (X Y a : Int) (hX : 0 ≤ X) : Thin (X + max Y (-Y)) 0 (stepA 0 (X, Y, a)) := by
  unfold Thin stepA
  simp only
  by_cases hq : Y = 0
  · rw [if_pos hq]; subst hq; simp only; refine ⟨by omega, ?_, ?_⟩ <;> simp <;> omega
  · rw [if_neg hq]
    by_cases hn : Y < 0
    · rw [decide_eq_true hn]; simp only [turnP, if_true, Int.pow_zero, Int.tdiv_one]; refine ⟨by omega, ?_, ?_⟩ <;> simp <;> omega
    · rw [decide_eq_false hn]; simp only [turnP, Bool.false_eq_true, if_false, Int.pow_zero, Int.tdiv_one]; refine ⟨by omega, ?_, ?_⟩ <;> simp <;> omega
theorem thin_all (X Y : Int) (hX : 0 ≤ X) : ∀ k, Thin (X + max Y (-Y)) k (iterP stepA (k + 1) (X, Y, 0))
  | 0 => thin_first X Y 0 hX
  | k + 1 => thin_step _ (by omega) k _ (thin_all X Y hX k)
/-- the angle's bound -/
def sumB : Nat → Int
  | 0 => 0
  | k + 1 => sumB k + tabP k
theorem sum_ok : sumB 31 ≤ 1300000000 := by decide +kernel
theorem ang_bd (h : Int × Int × Int) (h0 : h.2.2 = 0) : ∀ k, k ≤ 31 → -sumB k ≤ (iterP stepA k h).2.2 ∧ (iterP stepA k h).2.2 ≤ sumB k
  | 0, _ => by show -(0 : Int) ≤ h.2.2 ∧ h.2.2 ≤ 0; omega
  | k + 1, hk => by
    have ih := ang_bd h h0 k (by omega)
    have ht := tab_nn k (by omega)
    have e : iterP stepA (k + 1) h = stepA k (iterP stepA k h) := rfl
    have ea : sumB (k + 1) = sumB k + tabP k := rfl
    rw [e, ea]
    generalize iterP stepA k h = p at *
    unfold stepA
    split
    · omega
    · rcases Bool.eq_false_or_eq_true (decide (p.2.1 < 0)) with hb | hb <;> rw [hb] <;> simp only [turnP, Bool.false_eq_true, if_false, if_true] <;> omega
/-! ### How true the angle is -/
def reA (X Y : Rat) (h : Int × Int × Int) : Rat := alo 0 h * X + acr 0 h * Y
def imA (X Y : Rat) (h : Int × Int × Int) : Rat := acr 0 h * X - alo 0 h * Y
def InvA (X Y : Rat) (k : Nat) (h : Int × Int × Int) : Prop := 1267650600228229401496703205376 - 1152921504606846976 * ((k : Int) : Rat) ≤ reA X Y h ∧ -(2 * ((k : Int) : Rat) * reA X Y h) ≤ 1073741824 * imA X Y h ∧ 1073741824 * imA X Y h ≤ 2 * ((k : Int) : Rat) * reA X Y h
theorem at_step (R I r s e1 e2 c lo : Rat) (hc : 0 ≤ c ∧ c ≤ 62) (hI : -(c * R) ≤ 1073741824 * I ∧ 1073741824 * I ≤ c * R) (hlo : lo ≤ R) (hl1 : 633825300114114700748351602688 ≤ lo) (hl2 : lo ≤ 1267650600228229401496703205376) (hr : 1125899906842623 ≤ 1125899906842624 * r)
    (hs : -1 ≤ 1073741824 * s ∧ 1073741824 * s ≤ 1) (h1 : -9007199254740992 ≤ e1 ∧ e1 ≤ 9007199254740992) (h2 : -9007199254740992 ≤ e2 ∧ e2 ≤ 9007199254740992) :
    lo - 1152921504606846976 ≤ R * r - I * s + e1 ∧ -((c + 2) * (R * r - I * s + e1)) ≤ 1073741824 * (I * r + R * s + e2) ∧ 1073741824 * (I * r + R * s + e2) ≤ (c + 2) * (R * r - I * s + e1) := by
  have hR : 0 ≤ R := by grind
  have hr0 : 0 ≤ r := by grind
  have cR := Rat.mul_le_mul_of_nonneg_right hc.2 hR
  have p1 := prod_le (1073741824 * I) (1073741824 * s) (62 * R) 1 ⟨by grind, by grind⟩ hs
  have p2 := Rat.mul_le_mul_of_nonneg_left hr hR
  -- the part along: no less than R - R / 2^49
  have al : R * 562949953421311 ≤ (R * r - I * s) * 562949953421312 := by grind
  have q1 : lo - 1152921504606846976 ≤ R * r - I * s + e1 := by grind
  have g1 : -(c * R * r) ≤ 1073741824 * I * r ∧ 1073741824 * I * r ≤ c * R * r := by
    have a1 := Rat.mul_nonneg (show 0 ≤ 1073741824 * I + c * R by grind) hr0
    have a2 := Rat.mul_nonneg (show 0 ≤ c * R - 1073741824 * I by grind) hr0
    constructor <;> grind
  have g2 := prod_le R (1073741824 * s) R 1 ⟨by grind, Rat.le_refl⟩ hs
  have cs : -(4000 * R) ≤ c * (1073741824 * I * (1073741824 * s)) ∧ c * (1073741824 * I * (1073741824 * s)) ≤ 4000 * R := by
    have := prod_le c (1073741824 * I * (1073741824 * s)) 62 (62 * R) ⟨by grind, hc.2⟩ ⟨by grind, by grind⟩
    constructor <;> grind
  have ce := prod_le c e1 62 9007199254740992 ⟨by grind, hc.2⟩ h1
  have key : c * R * r + R + 1073741824 * 9007199254740992 ≤ (c + 2) * (R * r - I * s + e1) := by
    have x1 : (c + 2) * (R * r - I * s + e1) = c * R * r - c * (I * s) + c * e1 + 2 * (R * r - I * s) + 2 * e1 := by grind
    rw [x1]
    have x2 : c * (1073741824 * I * (1073741824 * s)) = 1152921504606846976 * (c * (I * s)) := by grind
    rw [x2] at cs
    generalize c * (I * s) = u at *
    generalize c * R * r = v at *
    generalize c * e1 = z at *
    generalize R * r - I * s = y at *
    clear x1 x2 p1 p2 g1 g2 cR hI hr hr0 hs
    grind
  refine ⟨q1, ?_, ?_⟩
  · generalize (c + 2) * (R * r - I * s + e1) = y at *
    grind
  · generalize (c + 2) * (R * r - I * s + e1) = y at *
    grind
theorem invA_step (X Y : Rat) (hX : -2251799813685248 ≤ X ∧ X ≤ 2251799813685248) (hY : -2251799813685248 ≤ Y ∧ Y ≤ 2251799813685248) (k : Nat) (hk : k < 31) (h : Int × Int × Int) (hI : InvA X Y k h) : InvA X Y (k + 1) (stepA k h) := by
  obtain ⟨i1, i2, i3⟩ := hI
  have e : (((k + 1 : Nat) : Int) : Rat) = ((k : Int) : Rat) + 1 := by
    rw [show ((k + 1 : Nat) : Int) = (k : Int) + 1 by omega, Rat.intCast_add]; rfl
  have hk2 : ((k : Int) : Rat) ≤ 30 := by
    have : ((k : Int) : Rat) ≤ ((30 : Int) : Rat) := castle (by omega)
    have e : ((30 : Int) : Rat) = 30 := rfl
    rw [e] at this; exact this
  have hk0 : 0 ≤ ((k : Int) : Rat) := by
    have : ((0 : Int) : Rat) ≤ ((k : Int) : Rat) := castle (by omega)
    exact this
  unfold InvA
  rw [e]
  generalize ((k : Int) : Rat) = c at *
  unfold stepA
  split
  · have hR : 0 ≤ reA X Y h := by grind
    generalize reA X Y h = R at *
    generalize imA X Y h = I at *
    refine ⟨by grind, ?_, ?_⟩
    · have : 2 * (c + 1) * R = 2 * c * R + 2 * R := by grind
      rw [this]; grind
    · have : 2 * (c + 1) * R = 2 * c * R + 2 * R := by grind
      rw [this]; grind
  · obtain ⟨g, hg⟩ := half_of k
    obtain ⟨r, s, d1, d2, e1, e2, hd1, hd2, hs, hr1, hr2, hrs⟩ := turn_is 0 k hk g hg (decide (h.2.1 < 0)) h
    have f1 : reA X Y (turnP k (decide (h.2.1 < 0)) h.1 h.2.1 h.2.2) = reA X Y h * r - imA X Y h * s + (d1 * X + d2 * Y) := by
      unfold reA imA; rw [e1, e2]; grind
    have f2 : imA X Y (turnP k (decide (h.2.1 < 0)) h.1 h.2.1 h.2.2) = imA X Y h * r + reA X Y h * s + (d2 * X + -d1 * Y) := by
      unfold reA imA; rw [e1, e2]; grind
    rw [f1, f2]
    have b1 := prod_le d1 X 2 2251799813685248 hd1 hX
    have b2 := prod_le d2 Y 2 2251799813685248 hd2 hY
    have b3 := prod_le d2 X 2 2251799813685248 hd2 hX
    have b4 := prod_le (-d1) Y 2 2251799813685248 ⟨by grind, by grind⟩ hY
    have := at_step (reA X Y h) (imA X Y h) r s (d1 * X + d2 * Y) (d2 * X + -d1 * Y) (2 * c) (1267650600228229401496703205376 - 1152921504606846976 * c) ⟨by grind, by grind⟩ ⟨i2, i3⟩ i1 (by grind) (by grind) hr1 hs ⟨by grind, by grind⟩ ⟨by grind, by grind⟩
    obtain ⟨t1, t2, t3⟩ := this
    have ec : 2 * (c + 1) = 2 * c + 2 := by grind
    rw [ec]
    exact ⟨by grind, t2, t3⟩
theorem invA_all (X Y : Int) (hX : -2251799813685248 ≤ X ∧ X ≤ 2251799813685248) (hY : -2251799813685248 ≤ Y ∧ Y ≤ 2251799813685248) (hb : 1267650600228229401496703205376 ≤ X * X + Y * Y) : ∀ k, k ≤ 31 → InvA X Y k (iterP stepA k (X, Y, 0))
  | 0, _ => by
    show InvA X Y 0 (X, Y, 0)
    have h1 := castle hb
    simp only [Rat.intCast_add, Rat.intCast_mul] at h1
    have l : ((1267650600228229401496703205376 : Int) : Rat) = 1267650600228229401496703205376 := rfl
    rw [l] at h1
    unfold InvA reA imA alo acr
    simp only [Int.sub_self, C_zero, S_zero]
    have e0 : (((0 : Nat) : Int) : Rat) = 0 := rfl
    rw [e0]
    generalize (X : Rat) = x at *
    generalize (Y : Rat) = y at *
    refine ⟨?_, ?_, ?_⟩ <;> grind
  | k + 1, hk => by
    have hx : ∀ z : Int, -2251799813685248 ≤ z ∧ z ≤ 2251799813685248 → -2251799813685248 ≤ (z : Rat) ∧ (z : Rat) ≤ 2251799813685248 := fun z hz => ⟨by have := castle hz.1; exact this, by have := castle hz.2; exact this⟩
    exact invA_step X Y (hx X hX) (hx Y hY) k (by omega) _ (invA_all X Y hX hY hb k (by omega))
theorem last_step (P Q u t L R I X Y : Rat) (hL : 0 < L) (hP : 0 < P) (hQ : -P ≤ 536870912 * Q ∧ 536870912 * Q ≤ P) (eR : R = P * u - Q * t) (eI : I = P * t + Q * u) (hI : -(62 * R) ≤ 1073741824 * I ∧ 1073741824 * I ≤ 62 * R) (hR : 0 ≤ R)
    (hu : -L ≤ u ∧ u ≤ L) (ht : -L ≤ t ∧ t ≤ L) (hut : u * u + t * t = X * X + Y * Y) (hV : L * L ≤ 2 * (X * X + Y * Y)) :
    (-(70 * L) ≤ 1073741824 * t ∧ 1073741824 * t ≤ 70 * L) ∧ L ≤ 4 * u := by
  have q1 := prod_le (536870912 * Q) t P L hQ ht
  have q2 := prod_le (536870912 * Q) u P L hQ hu
  have q3 := prod_le P u P L ⟨by grind, Rat.le_refl⟩ hu
  have r1 : R ≤ 2 * (P * L) := by
    have h0 := Rat.mul_nonneg (Rat.le_of_lt hP) (Rat.le_of_lt hL)
    rw [eR]; grind
  have r2 : 536870912 * R ≤ 536870913 * (P * L) := by rw [eR]; grind
  have t1 : -(70 * L) ≤ 1073741824 * t ∧ 1073741824 * t ≤ 70 * L := by
    constructor
    · refine of_mul hP ?_
      have : P * (1073741824 * t) = 1073741824 * I - 2 * (536870912 * Q * u) := by rw [eI]; grind
      rw [this]; grind
    · refine of_mul hP ?_
      have : P * (1073741824 * t) = 1073741824 * I - 2 * (536870912 * Q * u) := by rw [eI]; grind
      rw [this]; grind
  refine ⟨t1, ?_⟩
  -- u is not negative: P u = R + Q t
  have tt := prod_le (1073741824 * t) (1073741824 * t) (70 * L) (70 * L) t1 t1
  have uu : L * L ≤ 4 * (u * u) := by
    have h0 := Rat.mul_nonneg (Rat.le_of_lt hL) (Rat.le_of_lt hL)
    grind
  apply Rat.not_lt.mp
  intro h4
  have u1 : -L < 4 * u := by
    have h5 : 0 ≤ R := hR
    have h6 : -(P * L) ≤ 536870912 * (P * u) := by
      have : P * u = R + Q * t := by rw [eR]; grind
      rw [this]; grind
    apply Rat.not_le.mp
    intro h7
    have := Rat.mul_le_mul_of_nonneg_left h7 (Rat.le_of_lt hP)
    have hPL := Rat.mul_pos hP hL
    grind
  have a1 := Rat.mul_pos (show 0 < L - 4 * u by grind) (show 0 < L + 4 * u by grind)
  have h0 := Rat.mul_pos hL hL
  grind
theorem scale_back {f l t : Rat} (hf : 0 < f) (h : -(70 * (f * l)) ≤ 1073741824 * (f * t) ∧ 1073741824 * (f * t) ≤ 70 * (f * l)) : -(70 * l) ≤ 1073741824 * t ∧ 1073741824 * t ≤ 70 * l := by
  constructor
  · refine of_mul hf ?_; grind
  · refine of_mul hf ?_; grind
/-- the angle v of (m, y), m not negative -/
theorem atan_near (m y f v : Int) (hm : 0 ≤ m) (hf : 0 < f) (hX : m * f ≤ 2251799813685248) (hY : -2251799813685248 ≤ y * f ∧ y * f ≤ 2251799813685248) (hb : 1125899906842624 ≤ m * f ∨ 1125899906842624 ≤ y * f ∨ y * f ≤ -1125899906842624)
    (hv : v = (iterP stepA 31 (m * f, y * f, 0)).2.2) (l : Rat) (hl : l = m + ((max y (-y) : Int) : Rat)) :
    (-(70 * l) ≤ 1073741824 * ((m : Rat) * S v - (y : Rat) * C v) ∧ 1073741824 * ((m : Rat) * S v - (y : Rat) * C v) ≤ 70 * l) ∧ l ≤ 4 * ((m : Rat) * C v + (y : Rat) * S v) := by
  have hX0 : 0 ≤ m * f := Int.mul_nonneg hm (by omega)
  have thin := thin_all (m * f) (y * f) hX0 30
  have sqb : 1267650600228229401496703205376 ≤ m * f * (m * f) + y * f * (y * f) := by
    have q1 : ∀ z : Int, 0 ≤ z * z := fun z => by
      have h1 := sq_nn (z : Rat)
      rw [← Rat.intCast_mul] at h1
      exact Rat.intCast_le_intCast.mp h1
    have s1 := q1 (m * f)
    have s2 := q1 (y * f)
    have big : ∀ z : Int, 1125899906842624 ≤ z → 1267650600228229401496703205376 ≤ z * z := fun z hz => by
      have := Int.mul_le_mul hz hz (by omega) (by omega)
      exact this
    rcases hb with h | h | h
    · have := big _ h; omega
    · have := big _ h; omega
    · have := big (-(y * f)) (by omega)
      rw [Int.neg_mul_neg] at this
      omega
  have inv := invA_all (m * f) (y * f) ⟨by omega, hX⟩ hY sqb 31 (by omega)
  have ml : m * f + max (y * f) (-(y * f)) = (m + max y (-y)) * f := by
    have : max (y * f) (-(y * f)) = max y (-y) * f := by
      rcases Int.le_total 0 y with h | h
      · have h2 : 0 ≤ y * f := Int.mul_nonneg h (by omega)
        rw [Int.max_eq_left (by omega), Int.max_eq_left (by omega)]
      · have h2 : y * f ≤ 0 := Int.mul_nonpos_of_nonpos_of_nonneg h (by omega)
        rw [Int.max_eq_right (by omega), Int.max_eq_right (by omega), Int.neg_mul]
    rw [this, Int.add_mul]
  have hLbig : 1125899906842624 ≤ m * f + max (y * f) (-(y * f)) := by omega
  unfold Thin at thin
  rw [show (30 : Nat) + 1 = 31 from rfl] at thin
  generalize hh : iterP stepA 31 (m * f, y * f, 0) = h at *
  obtain ⟨th1, th2, th3⟩ := thin
  have e30 : (2 : Int) ^ 30 = 1073741824 := by decide
  have e30n : ((30 : Nat) : Int) = 30 := rfl
  rw [e30, e30n] at th2 th3
  have tq1 : 536870912 * h.2.1 ≤ h.1 := by omega
  have tq2 : -h.1 ≤ 536870912 * h.2.1 := by omega
  have hPpos : 0 < h.1 := by omega
  obtain ⟨i1, i2, i3⟩ := inv
  have e31 : (((31 : Nat) : Int) : Rat) = 31 := rfl
  rw [e31] at i1 i2 i3
  have sq := sq_one v
  have cb := C_le v
  have sb := S_le v
  have er : reA ((m * f : Int) : Rat) ((y * f : Int) : Rat) h = (h.1 : Rat) * (((m * f : Int) : Rat) * C v + ((y * f : Int) : Rat) * S v) - (h.2.1 : Rat) * (((m * f : Int) : Rat) * S v - ((y * f : Int) : Rat) * C v) := by
    unfold reA alo acr
    rw [← hv, Int.zero_sub, C_neg, S_neg]; grind
  have ei : imA ((m * f : Int) : Rat) ((y * f : Int) : Rat) h = (h.1 : Rat) * (((m * f : Int) : Rat) * S v - ((y * f : Int) : Rat) * C v) + (h.2.1 : Rat) * (((m * f : Int) : Rat) * C v + ((y * f : Int) : Rat) * S v) := by
    unfold imA alo acr
    rw [← hv, Int.zero_sub, C_neg, S_neg]; grind
  have hLR : ((m * f + max (y * f) (-(y * f)) : Int) : Rat) = (f : Rat) * l := by
    rw [ml, hl, Rat.intCast_mul, Rat.intCast_add]; grind
  have hfR : (0 : Rat) < f := by exact_mod_cast hf
  have y1 := castle (show y * f ≤ max (y * f) (-(y * f)) by omega)
  have y2 := castle (show -(y * f) ≤ max (y * f) (-(y * f)) by omega)
  have hxx := castle hX0
  have l0 : ((0 : Int) : Rat) = 0 := rfl
  rw [l0] at hxx
  rw [Rat.intCast_neg] at y2
  have hLp := castle hLbig
  have l50 : ((1125899906842624 : Int) : Rat) = 1125899906842624 := rfl
  rw [l50, hLR] at hLp
  have hLe : (f : Rat) * l = ((m * f : Int) : Rat) + ((max (y * f) (-(y * f)) : Int) : Rat) := by rw [← hLR, Rat.intCast_add]
  have hQ : -(h.1 : Rat) ≤ 536870912 * (h.2.1 : Rat) ∧ 536870912 * (h.2.1 : Rat) ≤ (h.1 : Rat) := by
    have a1 := castle tq1
    have a2 := castle tq2
    rw [Rat.intCast_mul] at a1 a2
    rw [Rat.intCast_neg] at a2
    exact ⟨a2, a1⟩
  have hP : (0 : Rat) < (h.1 : Rat) := by exact_mod_cast hPpos
  have hX2 : ((m * f : Int) : Rat) = (f : Rat) * (m : Rat) := by rw [Rat.intCast_mul]; grind
  have hY2 : ((y * f : Int) : Rat) = (f : Rat) * (y : Rat) := by rw [Rat.intCast_mul]; grind
  have hAA : ((max (y * f) (-(y * f)) : Int) : Rat) * ((max (y * f) (-(y * f)) : Int) : Rat) = ((y * f : Int) : Rat) * ((y * f : Int) : Rat) := by
    rw [← Rat.intCast_mul, ← Rat.intCast_mul]
    congr 1
    rcases Int.le_total 0 (y * f) with h | h
    · rw [Int.max_eq_left (by omega)]
    · rw [Int.max_eq_right (by omega), Int.neg_mul_neg]
  clear ml hLbig th1 th2 th3 tq1 tq2 hPpos sqb hh hv hX0 hX hY hb hLR l50 e30 e30n
  generalize hXX : ((m * f : Int) : Rat) = X at *
  generalize hYY : ((y * f : Int) : Rat) = Y at *
  generalize ((max (y * f) (-(y * f)) : Int) : Rat) = A at *
  generalize reA X Y h = R at *
  generalize imA X Y h = I at *
  generalize (h.1 : Rat) = P at *
  generalize (h.2.1 : Rat) = Q at *
  generalize C v = c at *
  generalize S v = s at *
  have px := prod_le X c X 1 ⟨by grind, Rat.le_refl⟩ cb
  have py := prod_le Y s A 1 ⟨by grind, y1⟩ sb
  have px2 := prod_le X s X 1 ⟨by grind, Rat.le_refl⟩ sb
  have py2 := prod_le Y c A 1 ⟨by grind, y1⟩ cb
  have hV : (f : Rat) * l * (f * l) ≤ 2 * (X * X + Y * Y) := by
    rw [hLe, ← hAA]
    have := sq_nn (X - A)
    clear px py px2 py2 er ei
    grind
  have := last_step P Q (X * c + Y * s) (X * s - Y * c) (f * l) R I X Y (by grind) hP hQ er ei ⟨by grind, by grind⟩ (by grind) ⟨by grind, by grind⟩ ⟨by grind, by grind⟩ (by grind) hV
  obtain ⟨t1, t2⟩ := this
  rw [hX2, hY2] at t1 t2
  refine ⟨scale_back hfR ⟨?_, ?_⟩, of_mul hfR ?_⟩
  · have := t1.1; grind
  · have := t1.2; grind
  · grind
/-- the law -/
theorem angle_law (x y b v c s f : Int) (hf : 0 < f) (hX : max x (-x) * f ≤ 2251799813685248) (hY : -2251799813685248 ≤ y * f ∧ y * f ≤ 2251799813685248) (hb : 1125899906842624 ≤ max x (-x) * f ∨ 1125899906842624 ≤ y * f ∨ y * f ≤ -1125899906842624)
    (hv : v = (iterP stepA 31 (max x (-x) * f, y * f, 0)).2.2) (h : (0 ≤ x ∧ b = v) ∨ (x < 0 ∧ (b = 2147483648 - v ∨ b = -2147483648 - v)))
    (hc : -42 ≤ (c : Rat) - 1073741824 * C b ∧ (c : Rat) - 1073741824 * C b ≤ 42) (hs : -42 ≤ (s : Rat) - 1073741824 * S b ∧ (s : Rat) - 1073741824 * S b ≤ 42) :
    (-(256 * (max x (-x) + max y (-y))) ≤ y * c - x * s ∧ y * c - x * s ≤ 256 * (max x (-x) + max y (-y))) ∧ 0 ≤ x * c + y * s := by
  obtain ⟨⟨a1, a2⟩, a3⟩ := atan_near (max x (-x)) y f v (by omega) hf hX hY hb hv _ rfl
  have my1 := castle (show y ≤ max y (-y) by omega)
  have my2 := castle (show -y ≤ max y (-y) by omega)
  rw [Rat.intCast_neg] at my2
  have m0 := castle (show 0 ≤ max x (-x) by omega)
  have l0 : ((0 : Int) : Rat) = 0 := rfl
  rw [l0] at m0
  have main : (-(256 * (((max x (-x) : Int) : Rat) + ((max y (-y) : Int) : Rat))) ≤ (y : Rat) * c - x * s ∧ (y : Rat) * c - x * s ≤ 256 * (((max x (-x) : Int) : Rat) + ((max y (-y) : Int) : Rat))) ∧ (0 : Rat) ≤ (x : Rat) * c + y * s := by
    have hx : (x : Rat) = ((max x (-x) : Int) : Rat) ∨ (x : Rat) = -((max x (-x) : Int) : Rat) := by
      rcases Int.le_total 0 x with h | h
      · left; rw [Int.max_eq_left (by omega)]
      · right; rw [Int.max_eq_right (by omega), Rat.intCast_neg]; grind
    have hx2 : (0 ≤ x → (x : Rat) = ((max x (-x) : Int) : Rat)) ∧ (x < 0 → (x : Rat) = -((max x (-x) : Int) : Rat)) := by
      constructor
      · intro h; rw [Int.max_eq_left (by omega)]
      · intro h; rw [Int.max_eq_right (by omega), Rat.intCast_neg]; grind
    have mir : x < 0 → (-1 ≤ 1073741824 * (C b + C v) ∧ 1073741824 * (C b + C v) ≤ 1) ∧ -1 ≤ 1073741824 * (S b - S v) ∧ 1073741824 * (S b - S v) ≤ 1 := by
      intro hx0
      rcases h with h | h
      · omega
      · exact mirror v b h.2
    have pos : 0 ≤ x → C b = C v ∧ S b = S v := by
      intro hx0
      rcases h with h | h
      · rw [h.2]; exact ⟨rfl, rfl⟩
      · omega
    generalize ((max y (-y) : Int) : Rat) = A at *
    generalize ((max x (-x) : Int) : Rat) = m at *
    generalize (y : Rat) = Y at *
    generalize (c : Rat) = cc at *
    generalize (s : Rat) = ss at *
    generalize hCb : C b = cb at *
    generalize hSb : S b = sb at *
    generalize C v = cv at *
    generalize S v = sv at *
    have q1 := prod_le Y (cc - 1073741824 * cb) A 42 ⟨by grind, my1⟩ hc
    have q2 := prod_le m (ss - 1073741824 * sb) m 42 ⟨by grind, Rat.le_refl⟩ hs
    have q3 := prod_le m (cc - 1073741824 * cb) m 42 ⟨by grind, Rat.le_refl⟩ hc
    have q4 := prod_le Y (ss - 1073741824 * sb) A 42 ⟨by grind, my1⟩ hs
    rcases Int.lt_or_le x 0 with hx0 | hx0
    · obtain ⟨u1, u2⟩ := mir hx0
      rw [hx2.2 hx0]
      have w1 := prod_le Y (1073741824 * (cb + cv)) A 1 ⟨by grind, my1⟩ u1
      have w2 := prod_le m (1073741824 * (sb - sv)) m 1 ⟨by grind, Rat.le_refl⟩ u2
      have w3 := prod_le m (1073741824 * (cb + cv)) m 1 ⟨by grind, Rat.le_refl⟩ u1
      have w4 := prod_le Y (1073741824 * (sb - sv)) A 1 ⟨by grind, my1⟩ u2
      refine ⟨⟨?_, ?_⟩, ?_⟩ <;> grind
    · obtain ⟨u1, u2⟩ := pos hx0
      rw [hx2.1 hx0]
      subst u1 u2
      refine ⟨⟨?_, ?_⟩, ?_⟩ <;> grind
  obtain ⟨⟨b1, b2⟩, b3⟩ := main
  have l256 : ((256 : Int) : Rat) = 256 := rfl
  rw [← l256, ← Rat.intCast_add, ← Rat.intCast_mul, ← Rat.intCast_mul, ← Rat.intCast_mul, ← Rat.intCast_sub] at b1 b2
  rw [← Rat.intCast_neg] at b1
  rw [← Rat.intCast_mul, ← Rat.intCast_mul, ← Rat.intCast_add, ← l0] at b3
  exact ⟨⟨Rat.intCast_le_intCast.mp b1, Rat.intCast_le_intCast.mp b2⟩, Rat.intCast_le_intCast.mp b3⟩
/-! ### The other way round -/
theorem stepA_neg (k : Nat) (h : Int × Int × Int) : stepA k (h.1, -h.2.1, -h.2.2) = ((stepA k h).1, -(stepA k h).2.1, -(stepA k h).2.2) := by
  obtain ⟨P, Q, a⟩ := h
  unfold stepA
  simp only
  by_cases hq : Q = 0
  · rw [if_pos hq, if_pos (by omega)]
  · rw [if_neg hq, if_neg (by omega)]
    by_cases hn : Q < 0
    · rw [decide_eq_true hn, decide_eq_false (show ¬ (-Q < 0) by omega)]
      simp only [turnP, if_true, Bool.false_eq_true, if_false, Int.neg_tdiv]
      refine Prod.ext (by simp only; omega) (Prod.ext (by simp only; omega) (by simp only; omega))
    · rw [decide_eq_false hn, decide_eq_true (show -Q < 0 by omega)]
      simp only [turnP, if_true, Bool.false_eq_true, if_false, Int.neg_tdiv]
      refine Prod.ext (by simp only; omega) (Prod.ext (by simp only; omega) (by simp only; omega))
theorem iterA_neg (h : Int × Int × Int) : ∀ k, iterP stepA k (h.1, -h.2.1, -h.2.2) = ((iterP stepA k h).1, -(iterP stepA k h).2.1, -(iterP stepA k h).2.2)
  | 0 => rfl
  | k + 1 => by
    show stepA k (iterP stepA k (h.1, -h.2.1, -h.2.2)) = _
    rw [iterA_neg h k, stepA_neg]
    rfl
/-! ### Over the words of the walk -/
theorem pt_point (n : Int) (h : -1125899907366912 ≤ n ∧ n ≤ 1125899907366912) : Pt (pointP n) n := by
  have e : roundP n 20 = overP n 1048576 := rfl
  have h1 : -524288 ≤ overP n 1048576 * 1048576 - n ∧ overP n 1048576 * 1048576 - n ≤ 524288 := by
    unfold overP absP
    repeat' split
    all_goals omega
  unfold Pt pointP
  rw [e]
  omega
theorem start_cases (a : Int) (ha : I32 a) : (-1073741824 ≤ startC a ∧ startC a ≤ 1073741824) ∧ ((¬ behindP a ∧ startC a = a) ∨ (behindP a ∧ (startC a = 2147483648 - a ∨ startC a = -2147483648 - a))) := by
  unfold startC
  split
  · next h =>
    rw [i32_wrap]
    unfold behindP at *
    unfold I32 at ha
    refine ⟨by omega, .inr ⟨h, by omega⟩⟩
  · next h =>
    unfold behindP at *
    exact ⟨by omega, .inl ⟨h, rfl⟩⟩
theorem circP_law (a : Int) (ha : I32 a) : (-42 ≤ ((circP a).1 : Rat) - 1073741824 * C a ∧ ((circP a).1 : Rat) - 1073741824 * C a ≤ 42) ∧ (-42 ≤ ((circP a).2 : Rat) - 1073741824 * S a ∧ ((circP a).2 : Rat) - 1073741824 * S a ≤ 42)
    ∧ (circP a).1 * (circP a).1 + (circP a).2 * (circP a).2 ≤ 1152921504606846976 + 8589934592 ∧ 1152921504606846976 - 8589934592 ≤ (circP a).1 * (circP a).1 + (circP a).2 * (circP a).2 := by
  obtain ⟨h1, h2⟩ := start_cases a ha
  have hk := circle_law a (startC a) (pointP (circV a).1) (pointP (circV a).2.1) (circP a).1 (circP a).2
  have hp1 := pt_point (circV a).1
  have hp2 := pt_point (circV a).2.1
  have hz : iterP stepC 31 (683706022956409, 0, startC a) = circV a := rfl
  rw [hz] at hk
  refine hk ?_ h1 hp1 hp2
  rcases h2 with ⟨g, h2⟩ | ⟨g, h2⟩
  · exact .inl ⟨h2, by unfold circP; rw [if_neg g]⟩
  · exact .inr ⟨h2, by unfold circP; rw [if_pos g]; omega⟩
theorem grow_is : ∀ (n : Nat) (x y : Int), ∃ g : Int, 0 < g ∧ growF n x y = (x * g, y * g)
  | 0, x, y => ⟨1, by omega, by simp [growF]⟩
  | n + 1, x, y => by
    simp only [growF]
    split
    · obtain ⟨g, h1, h2⟩ := grow_is n (2 * x) (2 * y)
      exact ⟨2 * g, by omega, by rw [h2]; refine Prod.ext ?_ ?_ <;> simp only <;> grind⟩
    · exact ⟨1, by omega, by simp⟩
theorem grow_far : ∀ (n : Nat) (x y : Int), 1073741824 ≤ farM x y * 2 ^ n → 1073741824 ≤ farM (growF n x y).1 (growF n x y).2
  | 0, x, y, h => by simpa [growF] using h
  | n + 1, x, y, h => by
    simp only [growF]
    split
    · refine grow_far n _ _ ?_
      rw [far_twice]
      rw [Int.pow_succ] at h
      have : 2 * farM x y * 2 ^ n = farM x y * (2 ^ n * 2) := by grind
      omega
    · next g => show 1073741824 ≤ farM x y; omega
theorem atanP_law (y x : Int) (hy : I32 y) (hx : I32 x) (c s : Int) (hc : -42 ≤ (c : Rat) - 1073741824 * C (atanP y x) ∧ (c : Rat) - 1073741824 * C (atanP y x) ≤ 42) (hs : -42 ≤ (s : Rat) - 1073741824 * S (atanP y x) ∧ (s : Rat) - 1073741824 * S (atanP y x) ≤ 42) :
    (-(256 * (max x (-x) + max y (-y))) ≤ y * c - x * s ∧ y * c - x * s ≤ 256 * (max x (-x) + max y (-y))) ∧ 0 ≤ x * c + y * s := by
  by_cases hxy : x = 0 ∧ y = 0
  · obtain ⟨rfl, rfl⟩ := hxy
    simp
  obtain ⟨g, g1, g2⟩ := grow_is 31 x y
  have fb := far_bd x y hxy hx hy
  have g3 := grow_bd 31 x y fb.2
  have p31 : (2 : Int) ^ 31 = 2147483648 := by decide
  have g4 := grow_far 31 x y (by rw [p31]; omega)
  have ev : atanV y x = (iterP stepA 31 (absP (x * g) * 1048576, y * g * 1048576, 0)).2.2 := by unfold atanV; rw [g2]
  rw [g2] at g3 g4
  simp only at g3 g4
  have ea : absP (x * g) = max x (-x) * g := by
    rcases Int.lt_or_le x 0 with h | h
    · have h2 : x * g < 0 := Int.mul_neg_of_neg_of_pos h g1
      unfold absP
      rw [if_pos h2, Int.max_eq_right (by omega), Int.neg_mul]
    · have h2 : 0 ≤ x * g := Int.mul_nonneg h (by omega)
      unfold absP
      rw [if_neg (by omega), Int.max_eq_left (by omega)]
  have e1 : max x (-x) * (g * 1048576) = absP (x * g) * 1048576 := by rw [ea, Int.mul_assoc]
  have e2 : y * (g * 1048576) = y * g * 1048576 := by rw [Int.mul_assoc]
  have ab := ang_bd (absP (x * g) * 1048576, y * g * 1048576, 0) rfl 31 (by omega)
  rw [← ev] at ab
  have sb := sum_ok
  have f1 : 0 ≤ absP (x * g) ∧ absP (x * g) ≤ 2147483648 ∧ -2147483648 ≤ y * g ∧ y * g ≤ 2147483648 ∧ (1073741824 ≤ absP (x * g) ∨ 1073741824 ≤ y * g ∨ y * g ≤ -1073741824) := by
    unfold farM at g3 g4
    unfold absP at *
    repeat' split at g3
    all_goals (repeat' split)
    all_goals omega
  refine angle_law x y (atanP y x) (atanV y x) c s (g * 1048576) (by omega) (by rw [e1]; omega) (by rw [e2]; omega) (by rw [e1, e2]; omega) (by rw [e1, e2]; exact ev) ?_ hc hs
  unfold atanP
  rw [if_neg hxy]
  split
  · next h =>
    rw [i32_wrap]
    exact .inr ⟨h, by omega⟩
  · next h =>
    rw [i32_wrap]
    exact .inl ⟨by omega, by omega⟩
theorem growF_neg : ∀ (n : Nat) (x y : Int), growF n x (-y) = ((growF n x y).1, -(growF n x y).2)
  | 0, x, y => rfl
  | n + 1, x, y => by
    have e : farM x (-y) = farM x y := by unfold farM absP; repeat' split; all_goals omega
    simp only [growF, e]
    split
    · rw [show 2 * -y = -(2 * y) by omega]; exact growF_neg n _ _
    · rfl
theorem atanP_neg (y x : Int) (hy : I32 y) (hx : I32 x) : atanP (-y) x = IntKind.i32.wrap (-atanP y x) := by
  have ev : atanV (-y) x = -atanV y x := by
    unfold atanV
    rw [growF_neg]
    have := iterA_neg (absP (growF 31 x y).1 * 1048576, (growF 31 x y).2 * 1048576, 0) 31
    simp only [Int.neg_zero] at this
    simp only [Int.neg_mul, this]
  unfold atanP
  by_cases h : x = 0 ∧ y = 0
  · rw [if_pos (by omega), if_pos h]; rfl
  · rw [if_neg (by omega), if_neg h, ev]
    split
    · rw [i32_wrap, i32_wrap, i32_wrap]; omega
    · rw [i32_wrap, i32_wrap, i32_wrap]; omega
end Circ
end Go.Proofs.Ytfogjfmpgfcolaa
