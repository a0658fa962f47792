/- Chapter 02: whole roots: the plain words, and two functions of the library. -/
import Derived.Test.YtgmepohfkpncmaaGreatAid
import Derived.BigQuiet
import Derived.Deep.QuietTactic
import Derived.Outline
import Derived.Handy
import Derived.WalkLawsBesides
import Derived.Shelf.Small.Bits
import Derived.Shelf.Spec.BitsCarry
import Derived.Lib.ItoaNum
import Derived.Test.YtgmepohfkpncmaaGreatProg
namespace Go.Proofs
open Go.Shelf
def Tryz.lays129_ren : Go.Shelf.Ren := ⟨fun | 129 => 114 | n => n, fun | 53 => 106 | 3 => 3 | 4 => 4 | 46 => 114 | 5 => 5 | 9 => 9 | n => n, fun | n => n⟩
theorem Tryz.lays129 : Go.Proofs.Lays.n129 Tryz.prog Tryz.lays129_ren := {
  mixed := by kernel_rfl
  f129 := Tryz.func114.trans (congrArg some (by kernel_rfl))
  t3 := Tryz.underlying3
  a3 := Tryz.isAgg3
  z3 := Tryz.sizeOf3
  v3 := Tryz.zeroValue3
  t4 := Tryz.underlying4
  a4 := Tryz.isAgg4
  z4 := Tryz.sizeOf4
  v4 := Tryz.zeroValue4
  t5 := Tryz.underlying5
  a5 := Tryz.isAgg5
  z5 := Tryz.sizeOf5
  v5 := Tryz.zeroValue5
  t9 := Tryz.underlying9
  a9 := Tryz.isAgg9
  z9 := Tryz.sizeOf9
  v9 := Tryz.zeroValue9
  t46 := Tryz.underlying114
  a46 := Tryz.isAgg114
  z46 := Tryz.sizeOf114
  v46 := Tryz.zeroValue114
  t53 := Tryz.underlying106
  a53 := Tryz.isAgg106
  z53 := Tryz.sizeOf106
  v53 := Tryz.zeroValue106 }
def Tryz.lays25_ren : Go.Shelf.Ren := ⟨fun | 25 => 104 | n => n, fun | 22 => 106 | n => n, fun | n => n⟩
theorem Tryz.lays25 : Go.Proofs.Lays7.n25 Tryz.prog Tryz.lays25_ren := {
  mixed := by kernel_rfl
  f25 := Tryz.func104.trans (congrArg some (by kernel_rfl))
  t22 := Tryz.underlying106
  a22 := Tryz.isAgg106
  z22 := Tryz.sizeOf106
  v22 := Tryz.zeroValue106
  i22 := by kernel_rfl }
end Go.Proofs
namespace Go.Proofs.YtgmepohfkpncmaaGreat
open Go.RowKit Go.Shelf

theorem lib_Len64 (x : Int) (w : World) (h0 : 0 ≤ x) (h1 : x ≤ 18446744073709551615) :
    Calls Tryz.prog 114 #[.int .u64 x] w fun e w' => e = .returned (.int .i64 (Lib.bitLen x.toNat)) ∧ w' = w := Any.bits_Len64 Tryz.lays129 x w h0 h1
theorem lib_Add64 (x y : Int) (hx : 0 ≤ x) (hy : 0 ≤ y) (w : World) : (callFunc 104 #[.int .u64 x, .int .u64 y, .int .u64 0]).run Tryz.prog w =
    .ok (.value (.tuple #[.int .u64 ((x + y) % 18446744073709551616), .int .u64 ((x + y) / 18446744073709551616)])) w := by
  obtain ⟨x, rfl⟩ := Int.eq_ofNat_of_zero_le hx
  obtain ⟨y, rfl⟩ := Int.eq_ofNat_of_zero_le hy
  refine (Any7.bits_Add64 Tryz.lays25 x y 0 (by omega) w).trans ?_
  congr 5 <;> omega

/-! ### The plain words -/
def rootN : Nat → Nat
  | 0 => 0
  | n + 1 => if (rootN n + 1) * (rootN n + 1) ≤ n + 1 then rootN n + 1 else rootN n
theorem rootN_spec (n : Nat) : rootN n * rootN n ≤ n ∧ n < (rootN n + 1) * (rootN n + 1) := by
  induction n with
  | zero => simp [rootN]
  | succ n ih =>
    simp only [rootN]
    generalize rootN n = s at *
    have e : (s + 1 + 1) * (s + 1 + 1) = (s + 1) * (s + 1) + 2 * s + 3 := by grind
    split
    · exact ⟨by assumption, by rw [e]; omega⟩
    · exact ⟨by omega, by omega⟩
/-- The whole root. -/
def rootP (n : Int) : Int := rootN n.toNat
theorem rootP_spec (n : Int) (h : 0 ≤ n) : 0 ≤ rootP n ∧ rootP n * rootP n ≤ n ∧ n < (rootP n + 1) * (rootP n + 1) := by
  obtain ⟨m, rfl⟩ := Int.eq_ofNat_of_zero_le h
  have := rootN_spec m
  unfold rootP
  rw [Int.toNat_natCast]
  exact ⟨Int.natCast_nonneg _, by exact_mod_cast this.1, by exact_mod_cast this.2⟩
theorem sq_le {a b : Int} (h0 : 0 ≤ a) (h : a ≤ b) : a * a ≤ b * b := Int.mul_le_mul h h h0 (by omega)
theorem sq_iff (n x : Int) (h : 0 ≤ n) (hx : 0 ≤ x) : x * x ≤ n ↔ x ≤ rootP n := by
  obtain ⟨h1, h2, h3⟩ := rootP_spec n h
  constructor
  · intro g
    rcases Int.lt_or_le (rootP n) x with h4 | h4
    · have := sq_le (by omega) (show rootP n + 1 ≤ x by omega); omega
    · exact h4
  · intro g
    have := sq_le hx g; omega
theorem root_bd (n : Int) (h0 : 0 ≤ n) (h : n ≤ 18446744073709551615) : 0 ≤ rootP n ∧ rootP n ≤ 4294967295 := by
  obtain ⟨h1, h2, h3⟩ := rootP_spec n h0
  refine ⟨h1, ?_⟩
  rcases Int.lt_or_le 4294967295 (rootP n) with g | g
  · have := sq_le (by omega) (show 4294967296 ≤ rootP n by omega); omega
  · exact g
theorem root_sq (n : Int) (h0 : 0 ≤ n) : 0 ≤ rootP n * rootP n ∧ rootP n * rootP n ≤ n ∧ n - rootP n * rootP n ≤ 2 * rootP n := by
  obtain ⟨h1, h2, h3⟩ := rootP_spec n h0
  have e : (rootP n + 1) * (rootP n + 1) = rootP n * rootP n + 2 * rootP n + 1 := by grind
  exact ⟨Int.mul_nonneg h1 h1, h2, by omega⟩

/-- A step from above. -/
theorem newton (n r : Int) (hn : 0 < n) (hr : rootP n ≤ r) : 0 < r ∧ 1 ≤ rootP n ∧ 0 ≤ n / r ∧ n / r ≤ rootP n + 2 ∧ 2 * rootP n ≤ r + n / r ∧ (r ≤ (r + n / r) / 2 → r = rootP n) := by
  have h1 : 1 ≤ rootP n := (sq_iff n 1 (by omega) (by omega)).1 (by omega)
  obtain ⟨h2, h3, h4⟩ := rootP_spec n (by omega)
  have hs := root_sq n (by omega)
  have hr0 : 0 < r := by omega
  generalize rootP n = s at *
  have hq0 : 0 ≤ n / r := Int.ediv_nonneg (by omega) (by omega)
  have hq1 : n / r < s + 3 := Int.ediv_lt_of_lt_mul hr0 (by
    have : (s + 3) * s ≤ (s + 3) * r := Int.mul_le_mul_of_nonneg_left hr (by omega)
    have e : (s + 3) * s = s * s + 3 * s := by grind
    omega)
  have hq2 : 2 * s - r ≤ n / r := Int.le_ediv_of_mul_le hr0 (by
    have e : (2 * s - r) * r = s * s - (r - s) * (r - s) := by grind
    have := Int.mul_nonneg (show 0 ≤ r - s by omega) (show 0 ≤ r - s by omega)
    omega)
  refine ⟨hr0, h1, hq0, by omega, by omega, fun g => ?_⟩
  have h5 : r ≤ n / r := by omega
  have h6 : r * r ≤ n := by
    have := Int.ediv_mul_le n (show r ≠ 0 by omega)
    have h7 : r * r ≤ n / r * r := Int.mul_le_mul_of_nonneg_right h5 (by omega)
    omega
  rcases Int.lt_or_le s r with h | h
  · have := sq_le (by omega) (show s + 1 ≤ r by omega); omega
  · omega
theorem pow_le32 (m : Nat) (h : m ≤ 32) : 1 ≤ (2 : Int) ^ m ∧ (2 : Int) ^ m ≤ 4294967296 := by
  have h1 : (1 : Nat) ≤ 2 ^ m := Nat.one_le_two_pow
  have h2 : 2 ^ m ≤ 2 ^ 32 := Nat.pow_le_pow_right (by omega) h
  have e : (2 : Int) ^ m = ((2 ^ m : Nat) : Int) := by rw [Int.natCast_pow]; rfl
  rw [e]
  omega
/-- A power of two above the root. -/
theorem above_facts (n : Int) (h0 : 0 < n) (h1 : n ≤ 18446744073709551615) :
    ∃ m : Nat, 1 ≤ m ∧ m ≤ 32 ∧ ((Lib.bitLen n.toNat : Nat) : Int) ≤ 64 ∧ (((Lib.bitLen n.toNat : Nat) : Int) + 1) / 2 = (m : Int) ∧ rootP n ≤ 2 ^ m := by
  have hb := Lib.bitLenAux_bounds 64 n.toNat (by omega) (by omega)
  have hl : Lib.bitLen n.toNat ≤ 64 := Lib.bitLen_le n.toNat 64 (by omega) (by omega)
  have e0 : Lib.bitLen n.toNat = Lib.bitLenAux 64 n.toNat := rfl
  rw [← e0] at hb
  generalize Lib.bitLen n.toNat = L at *
  refine ⟨(L + 1) / 2, by omega, by omega, by omega, by omega, ?_⟩
  have h2 : 2 ^ L ≤ 2 ^ (2 * ((L + 1) / 2)) := Nat.pow_le_pow_right (by omega) (by omega)
  have e : (2 : Nat) ^ (2 * ((L + 1) / 2)) = 2 ^ ((L + 1) / 2) * 2 ^ ((L + 1) / 2) := by rw [Nat.two_mul, Nat.pow_add]
  have e2 : (2 : Int) ^ ((L + 1) / 2) = ((2 ^ ((L + 1) / 2) : Nat) : Int) := by rw [Int.natCast_pow]; rfl
  rw [e] at h2
  rw [e2]
  generalize 2 ^ ((L + 1) / 2) = R at *
  have h3 := rootP_spec n (by omega)
  have h4 : n < (R : Int) * R := by
    have : n.toNat < R * R := by omega
    have h5 : ((n.toNat : Nat) : Int) < ((R * R : Nat) : Int) := by exact_mod_cast this
    rw [Int.natCast_mul] at h5
    omega
  rcases Int.lt_or_le (R : Int) (rootP n) with h | h
  · have := sq_le (Int.natCast_nonneg R) (show (R : Int) ≤ rootP n by omega); omega
  · exact h

/-! ### Squares -/
def sqs : List Int → Int
  | [] => 0
  | c :: r => c * c + sqs r
theorem sq_nonneg (x : Int) : 0 ≤ x * x := by
  rcases Int.lt_or_le x 0 with h | h
  · have := Int.mul_nonneg (show 0 ≤ -x by omega) (show 0 ≤ -x by omega)
    rwa [Int.neg_mul_neg] at this
  · exact Int.mul_nonneg h h
theorem sqs_nonneg (xs : List Int) : 0 ≤ sqs xs := by
  induction xs with
  | nil => simp [sqs]
  | cons c r ih => have := sq_nonneg c; simp only [sqs]; omega
theorem sqs_app (xs ys : List Int) : sqs (xs ++ ys) = sqs xs + sqs ys := by
  induction xs with
  | nil => simp [sqs]
  | cons c r ih => simp only [List.cons_append, sqs, ih]; omega
theorem take_one (xs : List Int) (j : Nat) (h : j < xs.length) : xs.take (j + 1) = xs.take j ++ [xs[j]?.getD 0] := by
  rw [List.take_succ_eq_append_getElem h]; simp [h]
theorem sqs_take (xs : List Int) (j : Nat) (h : j < xs.length) : sqs (xs.take (j + 1)) = sqs (xs.take j) + xs[j]?.getD 0 * xs[j]?.getD 0 ∧ sqs (xs.take (j + 1)) ≤ sqs xs := by
  constructor
  · rw [take_one xs j h, sqs_app]; simp [sqs]
  · have := sqs_app (xs.take (j + 1)) (xs.drop (j + 1))
    rw [List.take_append_drop] at this
    have := sqs_nonneg (xs.drop (j + 1))
    omega
/-- The squares together, cut. -/
def sqP (xs : List Int) : Int := min (sqs xs) 18446744073709551615
theorem sqP_bd (xs : List Int) : 0 ≤ sqP xs ∧ sqP xs ≤ 18446744073709551615 := by have := sqs_nonneg xs; unfold sqP; omega
theorem sq32 (x : Int) (h : -2147483648 ≤ x ∧ x ≤ 2147483647) : 0 ≤ x * x ∧ x * x ≤ 4611686018427387904 := by
  refine ⟨sq_nonneg x, ?_⟩
  rcases Int.lt_or_le x 0 with g | g
  · have := sq_le (show 0 ≤ -x by omega) (show -x ≤ 2147483648 by omega)
    rw [Int.neg_mul_neg] at this; omega
  · have := sq_le g (show x ≤ 2147483648 by omega); omega
end Go.Proofs.YtgmepohfkpncmaaGreat
namespace Go.Proofs.YtgmepohfkpncmaaGreat
open Go.RowKit

theorem root_above (n : Int) (w : World) (h0 : 0 < n) (h1 : n ≤ 18446744073709551615) :
    Calls Tryz.prog 103 #[.int .u64 n] w fun e w' => ∃ R : Int, 2 ≤ R ∧ R ≤ 4294967296 ∧ rootP n ≤ R ∧ e = .returned (.int .u64 R) ∧ w = w' := by
  obtain ⟨m, m1, m2, l1, l2, l3⟩ := above_facts n h0 h1
  have H1 := hid (lib_Len64 n w (by omega) h1)
  have hp := pow_le32 m m2
  have hp2 : 2 ≤ (2 : Int) ^ m := by
    obtain ⟨k, rfl⟩ : ∃ k, m = k + 1 := ⟨m - 1, by omega⟩
    have := pow_le32 k (by omega)
    rw [Int.pow_succ]; omega
  have HL := hid l3
  have l0 : (0 : Int) ≤ ((Lib.bitLen n.toNat : Nat) : Int) := Int.natCast_nonneg _
  clear l3
  generalize ((Lib.bitLen n.toNat : Nat) : Int) = L at *
  have l2' : (L + 1).tdiv 2 = (m : Int) := by rw [Int.tdiv_eq_ediv_of_nonneg (by omega)]; exact l2
  go_enter Tryz.func103, Tryz.ntmps103
  go_wp2_with fail
  refine (H1.out).mono ?_
  rintro e w' ⟨rfl, rfl⟩
  go_wp2
  go_ret
  exact ⟨2 ^ m, hp2, hp.2, HL.out, rfl, rfl⟩

theorem root_Sqrt (n : Int) (w : World) (h0 : 0 ≤ n) (h1 : n ≤ 18446744073709551615) :
    Calls Tryz.prog 75 #[.int .u64 n] w fun e w' => e = .returned (.int .u32 (rootP n)) ∧ w = w' := by
  by_cases g : n = 0
  · subst g
    have H : Hid (rootP 0 = 0) := by show _ = _; decide +kernel
    go_enter Tryz.func75, Tryz.ntmps75
    go_wp2
    go_step3
    go_wp2
    rw [Exit.noGoto_ret]
    go_ret
    exact ⟨by rw [H.out]; rfl, rfl⟩
  have g' : (n == 0) = false := by simpa using g
  have H1 := hid fun w => root_above n w (by omega) h1
  have hn : 0 < n := by omega
  have HN := hid fun r hr => newton n r hn hr
  obtain ⟨hb1, hb2⟩ := root_bd n h0 h1
  generalize rootP n = s at *
  clear g
  go_enter Tryz.func75, Tryz.ntmps75
  go_wp2
  go_step3
  go_wp2_with fail
  refine (H1.out _).mono ?_
  rintro e w' ⟨R, r1, r2, r3, rfl, rfl⟩
  go_wp2
  go_step3
  go_wp2
  go_loop [3] (fun r => ∃ q : Int, s ≤ q ∧ q ≤ 4294967296 ∧ r = .int .u64 q) (fun r => (intOf r).toNat)
  case atStart => exact ⟨R, r3, r2, rfl⟩
  case round =>
    obtain ⟨q, q1, q2, rfl⟩ := hrel
    obtain ⟨a1, a2, a3, a4, a5, a6⟩ := HN.out q q1
    have HE := hid a6
    clear a6
    have a0 : (q == 0) = false := by simp; omega
    generalize ht : n / q = t at *
    by_cases gq : q ≤ (q + t) / 2
    · have he : Hid (q % 4294967296 = s) := by
        have := HE.out gq
        show _ = _
        omega
      have gq' : decide (q ≤ (q + t) / 2) = true := by simpa using gq
      go_wp2
      go_ret
      exact ⟨by rw [he.out]; rfl, rfl⟩
    · have gq' : decide (q ≤ (q + t) / 2) = false := by simpa using gq
      go_wp2
      go_round
      case rel => exact ⟨(q + t) / 2, by omega, by omega, rfl⟩
      case measure => simp [intOf]; omega
end Go.Proofs.YtgmepohfkpncmaaGreat
namespace Go.Proofs.YtgmepohfkpncmaaGreat
open Go.RowKit

theorem ref_next (s x y x' : Int) (j : Nat) (hj : j ≤ 31) (hy : y = 2 ^ j) (h1 : s < x + 2 * y) (h2 : x + 2 * y ≤ 4294967296) (h3 : x ≤ s) (h : x' = x + y ∧ x + y ≤ s ∨ x' = x ∧ s < x + y) :
    x' ≤ s ∧ ((y / 2 = 0 ∧ x' = s) ∨ ∃ j : Nat, j ≤ 31 ∧ y / 2 = 2 ^ j ∧ s < x' + 2 * (y / 2) ∧ x' + 2 * (y / 2) ≤ 4294967296) := by
  refine ⟨by omega, ?_⟩
  cases j with
  | zero =>
    rw [Int.pow_zero] at hy
    left
    omega
  | succ k =>
    rw [Int.pow_succ] at hy
    right
    have hk := (pow_le32 k (by omega)).1
    refine ⟨k, by omega, ?_⟩
    generalize (2 : Int) ^ k = p at *
    omega

theorem ref_Sqrt (n : Int) (w : World) (h0 : 0 ≤ n) (h1 : n ≤ 18446744073709551615) :
    Calls Tryz.prog 81 #[.int .u64 n] w fun e w' => e = .returned (.int .u32 (rootP n)) ∧ w = w' := by
  have HS := hid fun x hx => sq_iff n x h0 hx
  obtain ⟨hb1, hb2⟩ := root_bd n h0 h1
  generalize rootP n = s at *
  go_enter Tryz.func81, Tryz.ntmps81
  go_wp2
  go_loop [3, 4] (fun r b => ∃ x y : Int, r = .int .u64 x ∧ b = .int .u64 y ∧ 0 ≤ x ∧ x ≤ s ∧ ((y = 0 ∧ x = s) ∨ ∃ j : Nat, j ≤ 31 ∧ y = 2 ^ j ∧ s < x + 2 * y ∧ x + 2 * y ≤ 4294967296)) (fun _ b => (intOf b).toNat)
  case atStart => exact ⟨0, 2147483648, rfl, rfl, by omega, by omega, .inr ⟨31, by omega, by decide +kernel, by omega, by omega⟩⟩
  case round =>
    obtain ⟨x, y, rfl, rfl, x0, x1, hc⟩ := hrel
    rcases hc with ⟨rfl, rfl⟩ | ⟨j, hj, hy, y1, y2⟩
    · go_wp2
      go_ret
      exact ⟨rfl, rfl⟩
    · have hp := pow_le32 j (by omega)
      rw [← hy] at hp
      obtain ⟨p1, p2⟩ := hp
      have hs := HS.out (x + y) (by omega)
      have hb : 0 ≤ (x + y) * (x + y) ∧ (x + y) * (x + y) ≤ 18446744065119617025 := ⟨sq_nonneg _, by have := sq_le (show 0 ≤ x + y by omega) (show x + y ≤ 4294967295 by omega); omega⟩
      have HX := hid fun x' => ref_next s x y x' j hj hy y1 y2 x1
      generalize hP : (x + y) * (x + y) = P at *
      obtain ⟨b1, b2⟩ := hb
      clear hy
      by_cases g : P ≤ n
      · have HG := hid (HX.out (x + y) (.inl ⟨rfl, hs.1 g⟩))
        clear hs
        go_wp2
        go_round
        case rel => exact ⟨x + y, y / 2, rfl, rfl, by omega, HG.out.1, HG.out.2⟩
        case measure => simp [intOf]; omega
      · have HG := hid (HX.out x (.inr ⟨rfl, by
          rcases Int.lt_or_le s (x + y) with h | h
          · exact h
          · exact absurd (hs.2 h) g⟩))
        clear hs
        go_wp2
        go_round
        case rel => exact ⟨x, y / 2, rfl, rfl, by omega, HG.out.1, HG.out.2⟩
        case measure => simp [intOf]; omega

end Go.Proofs.YtgmepohfkpncmaaGreat
namespace Go.Proofs.YtgmepohfkpncmaaGreat
open Go.RowKit

theorem sqP_is {xs : List Int} {v : Int} (h : v = sqs xs) (hv : v ≤ 18446744073709551615) : Ending.returned (.int .u64 v) = .returned (.int .u64 (sqP xs)) := by
  have : sqP xs = v := by unfold sqP; omega
  rw [this]
theorem sqP_over {xs : List Int} (h : 18446744073709551615 ≤ sqs xs) : Ending.returned (.int .u64 18446744073709551615) = .returned (.int .u64 (sqP xs)) := by
  have : sqP xs = 18446744073709551615 := by unfold sqP; omega
  rw [this]

theorem root_Squares (A : Option Addr) (n c : Nat) (xs : List Int) (w : World) (h : Row .i32 w w.heap.size A n xs) (hx : ∀ x ∈ xs, -2147483648 ≤ x ∧ x ≤ 2147483647) (hn : n ≤ 1000) :
    Calls Tryz.prog 76 #[.slice A n c] w fun e w' => e = .returned (.int .u64 (sqP xs)) ∧ w = w' := by
  have HX := hid hx
  clear hx
  go_enter Tryz.func76, Tryz.ntmps76
  go_wp2
  go_loop [3, 11] (fun s i => ∃ j : Nat, j ≤ n ∧ i = .int .i64 j ∧ s = .int .u64 (sqs (xs.take j)) ∧ sqs (xs.take j) ≤ 18446744073709551615) (fun _ i => n - (intOf i).toNat)
  case atStart => exact ⟨0, by omega, rfl, rfl, by simp [sqs]⟩
  case round =>
    obtain ⟨j, hj, rfl, rfl, hs⟩ := hrel
    have hs0 := sqs_nonneg (xs.take j)
    by_cases hlt : j < n
    · obtain ⟨ad, rfl, _, hc⟩ := h.at_ hlt
      have hjl : j < xs.length := by rw [h.1]; exact hlt
      have hx : -2147483648 ≤ xs[j]?.getD 0 ∧ xs[j]?.getD 0 ≤ 2147483647 := by
        have := HX.out xs[j] (List.getElem_mem hjl)
        simpa [hjl] using this
      have hT := sqs_take xs j hjl
      have hq := sq32 _ hx
      obtain ⟨x1, x2⟩ := hx
      obtain ⟨q1, q2⟩ := hq
      generalize xs[j]?.getD 0 = x at *
      generalize sqs (xs.take j) = s at *
      generalize hQ : x * x = q at *
      have HT := hid hT
      clear hT
      by_cases g : s + q ≤ 18446744073709551615
      · have d1 : (s + q) / 18446744073709551616 = 0 := by omega
        have d2 : (s + q) % 18446744073709551616 = s + q := by omega
        go_wp2_with (simp only [lib_Add64 _ _ hs0 q1])
        go_round
        case rel => exact ⟨j + 1, by omega, by go_num, by rw [HT.out.1], by rw [HT.out.1]; exact g⟩
        case measure => simp [intOf]; omega
      · have d1 : (s + q) / 18446744073709551616 = 1 := by omega
        have HO := hid (sqP_over (xs := xs) (by have := HT.out; omega))
        go_wp2_with (simp only [lib_Add64 _ _ hs0 q1])
        go_ret
        exact ⟨HO.out, rfl⟩
    · obtain rfl : j = n := by omega
      have et : xs.take j = xs := List.take_of_length_le (by rw [h.1]; exact Nat.le_refl _)
      rw [et] at hs hs0 ⊢
      clear et
      have HO := hid (sqP_is (xs := xs) rfl hs)
      go_wp2
      go_ret
      exact ⟨HO.out, rfl⟩

theorem ref_Squares (A : Option Addr) (n c : Nat) (xs : List Int) (w : World) (h : Row .i32 w w.heap.size A n xs) (hx : ∀ x ∈ xs, -2147483648 ≤ x ∧ x ≤ 2147483647) (hn : n ≤ 1000) :
    Calls Tryz.prog 82 #[.slice A n c] w fun e w' => e = .returned (.int .u64 (sqP xs)) ∧ Below w.heap.size w w' := by
  have HX := hid hx
  clear hx
  go_enter Tryz.func82, Tryz.ntmps82
  go_wp2
  go_loopw [3, 4] (fun s i wr => ∃ j : Nat, j ≤ n ∧ i = .int .i64 j ∧ s = .int .u64 (sqs (xs.take j)) ∧ sqs (xs.take j) ≤ 18446744073709551615 ∧ Below w.heap.size w wr) (fun _ i _ => n - (intOf i).toNat)
  case atStart => exact ⟨0, by omega, rfl, rfl, by simp [sqs], Below.refl _ _⟩
  case round =>
    obtain ⟨j, hj, rfl, rfl, hs, hbe⟩ := hrel
    have hs0 := sqs_nonneg (xs.take j)
    by_cases hlt : j < n
    · obtain ⟨ad, rfl, _, hc⟩ := (h.below hbe).at_ hlt
      have hjl : j < xs.length := by rw [h.1]; exact hlt
      have hx : -2147483648 ≤ xs[j]?.getD 0 ∧ xs[j]?.getD 0 ≤ 2147483647 := by
        have := HX.out xs[j] (List.getElem_mem hjl)
        simpa [hjl] using this
      have hT := sqs_take xs j hjl
      have hq := sq32 _ hx
      obtain ⟨x1, x2⟩ := hx
      obtain ⟨q1, q2⟩ := hq
      generalize xs[j]?.getD 0 = x at *
      generalize sqs (xs.take j) = s at *
      generalize hQ : x * x = q at *
      have HT := hid hT
      clear hT
      have k0 : (0 : Int) ≤ (j : Int) := by omega
      have k1 : (j : Int) < (n : Int) := by omega
      by_cases g : s + q ≤ 18446744073709551615
      · go_wp2_with fail
        go_quiet (fail)
        go_wp2
        go_roundw
        case rel => exact ⟨j + 1, by omega, by go_num, by rw [HT.out.1], by rw [HT.out.1]; exact g, hbe.drewN' _⟩
        case measure => simp [intOf]; omega
      · have HO := hid (sqP_over (xs := xs) (by have := HT.out; omega))
        go_wp2_with fail
        go_quiet (fail)
        go_wp2
        go_ret
        exact ⟨HO.out, hbe.drewN' _⟩
    · obtain rfl : j = n := by omega
      have et : xs.take j = xs := List.take_of_length_le (by rw [h.1]; exact Nat.le_refl _)
      rw [et] at hs hs0 ⊢
      clear et
      have HO := hid (sqP_is (xs := xs) rfl hs)
      go_wp2
      go_ret
      exact ⟨HO.out, hbe⟩

theorem root_Length (A : Option Addr) (n c : Nat) (xs : List Int) (w : World) (h : Row .i32 w w.heap.size A n xs) (hx : ∀ x ∈ xs, -2147483648 ≤ x ∧ x ≤ 2147483647) (hn : n ≤ 1000) :
    Calls Tryz.prog 39 #[.slice A n c] w fun e w' => e = .returned (.int .u32 (rootP (sqP xs))) ∧ w = w' := by
  have H1 := hid (root_Squares A n c xs w h hx hn)
  have hb := sqP_bd xs
  have H2 := hid (root_Sqrt (sqP xs) w hb.1 hb.2)
  clear hx hb
  generalize rootP (sqP xs) = r at *
  generalize sqP xs = s at *
  go_enter Tryz.func39, Tryz.ntmps39
  go_wp2_with fail
  refine (H1.out).mono ?_
  rintro e w' ⟨rfl, rfl⟩
  go_wp2_with fail
  refine (H2.out).mono ?_
  rintro e w' ⟨rfl, rfl⟩
  go_wp2
  go_ret
  exact ⟨rfl, rfl⟩
theorem ref_Length (A : Option Addr) (n c : Nat) (xs : List Int) (w : World) (h : Row .i32 w w.heap.size A n xs) (hx : ∀ x ∈ xs, -2147483648 ≤ x ∧ x ≤ 2147483647) (hn : n ≤ 1000) :
    Calls Tryz.prog 50 #[.slice A n c] w fun e w' => e = .returned (.int .u32 (rootP (sqP xs))) ∧ Below w.heap.size w w' := by
  have H1 := hid (ref_Squares A n c xs w h hx hn)
  have hb := sqP_bd xs
  have H2 := hid fun w => ref_Sqrt (sqP xs) w hb.1 hb.2
  clear hx hb
  generalize rootP (sqP xs) = r at *
  generalize sqP xs = s at *
  go_enter Tryz.func50, Tryz.ntmps50
  go_wp2_with fail
  refine (H1.out).mono ?_
  rintro e w' ⟨rfl, b1⟩
  go_wp2_with fail
  refine (H2.out _).mono ?_
  rintro e w' ⟨rfl, rfl⟩
  go_wp2
  go_ret
  exact ⟨rfl, b1⟩

end Go.Proofs.YtgmepohfkpncmaaGreat
