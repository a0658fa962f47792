/- Chapter 03: numbers in as few bytes as they need: the leaves. -/
import Derived.Test.YtmimnefjeidedaaMem
import Derived.Test.YtmimnefjeidedaaOwn
import Derived.Outline
import Derived.Handy
import Derived.WalkLawsBesides
import Derived.Laws.BitsAllLaws
import Derived.Laws.BitsLemmas
namespace Go.Proofs.Ytmimnefjeidedaa
open Go.RowKit

/-- A number's place among those from 0 on, and back. -/
def zigP (n : Int) : Int := if n < 0 then -2 * n - 1 else 2 * n
def zagP (u : Int) : Int := if u % 2 = 1 then -(u / 2) - 1 else u / 2

theorem xor_zero_u64 (x : Int) (h : 0 ≤ x ∧ x ≤ 18446744073709551615) : bits .xor .u64 x 0 = x := by
  obtain ⟨n, rfl⟩ := Int.eq_ofNat_of_zero_le h.1
  show IntKind.u64.wrap (((BitVec.ofInt 64 (n : Int) ^^^ BitVec.ofInt 64 0).toNat : Nat) : Int) = _
  rw [BitVec.ofInt_natCast]
  simp [IntKind.wrap_u64]
  omega
theorem xor_ones_u64 (x : Int) (h : 0 ≤ x ∧ x ≤ 18446744073709551615) : bits .xor .u64 x 18446744073709551615 = 18446744073709551615 - x := by
  obtain ⟨n, rfl⟩ := Int.eq_ofNat_of_zero_le h.1
  show IntKind.u64.wrap (((BitVec.ofInt 64 (n : Int) ^^^ BitVec.ofInt 64 18446744073709551615).toNat : Nat) : Int) = _
  have e : BitVec.ofInt 64 18446744073709551615 = BitVec.allOnes 64 := by decide
  rw [BitVec.ofInt_natCast, e, BitVec.xor_allOnes, BitVec.toNat_not, BitVec.toNat_ofNat, IntKind.wrap_u64]
  omega
theorem zig_is (n : Int) (h : -9223372036854775808 ≤ n ∧ n ≤ 9223372036854775807) :
    bits .xor .u64 (IntKind.u64.wrap (IntKind.u64.wrap n * 2)) (IntKind.u64.wrap (n / 9223372036854775808)) = zigP n := by
  unfold zigP
  by_cases g : n < 0
  · have e1 : IntKind.u64.wrap (n / 9223372036854775808) = 18446744073709551615 := by rw [IntKind.wrap_u64]; omega
    have e2 : IntKind.u64.wrap (IntKind.u64.wrap n * 2) = 2 * n + 18446744073709551616 := by rw [IntKind.wrap_u64, IntKind.wrap_u64]; omega
    rw [e1, e2, xor_ones_u64 _ (by omega), if_pos g]; omega
  · have e1 : IntKind.u64.wrap (n / 9223372036854775808) = 0 := by rw [IntKind.wrap_u64]; omega
    have e2 : IntKind.u64.wrap (IntKind.u64.wrap n * 2) = 2 * n := by rw [IntKind.wrap_u64, IntKind.wrap_u64]; omega
    rw [e1, e2, xor_zero_u64 _ (by omega), if_neg g]
theorem and_one_is (n : Int) (h : 0 ≤ n ∧ n ≤ 18446744073709551615) : bits .and .u64 n 1 = n % 2 := by
  obtain ⟨n, rfl⟩ := Int.eq_ofNat_of_zero_le h.1
  show IntKind.u64.wrap (((BitVec.ofInt 64 (n : Int) &&& BitVec.ofInt 64 1).toNat : Nat) : Int) = _
  have e : BitVec.ofInt 64 1 = BitVec.ofNat 64 1 := by decide
  rw [BitVec.ofInt_natCast, e, BitVec.toNat_and, BitVec.toNat_ofNat, BitVec.toNat_ofNat, IntKind.wrap_u64]
  have : (n % 2 ^ 64) &&& (1 % 2 ^ 64) = n % 2 := by
    rw [Nat.mod_eq_of_lt (by omega : n < 2 ^ 64), Nat.mod_eq_of_lt (by omega : 1 < 2 ^ 64)]; exact Nat.and_one_is_mod n
  rw [this]; omega
theorem xor_zero_i64 (x : Int) (h : -9223372036854775808 ≤ x ∧ x ≤ 9223372036854775807) : bits .xor .i64 x 0 = x := by
  show IntKind.i64.wrap (((BitVec.ofInt 64 x ^^^ BitVec.ofInt 64 0).toNat : Nat) : Int) = _
  have e : BitVec.ofInt 64 0 = 0#64 := by decide
  rw [e, BitVec.xor_zero, BitVec.toNat_ofInt, IntKind.wrap_i64]
  omega
theorem xor_neg_i64 (x : Int) (h : -9223372036854775808 ≤ x ∧ x ≤ 9223372036854775807) : bits .xor .i64 x (-1) = -x - 1 := by
  show IntKind.i64.wrap (((BitVec.ofInt 64 x ^^^ BitVec.ofInt 64 (-1)).toNat : Nat) : Int) = _
  have e : BitVec.ofInt 64 (-1) = BitVec.allOnes 64 := by decide
  rw [e, BitVec.xor_allOnes, BitVec.toNat_not, BitVec.toNat_ofInt, IntKind.wrap_i64]
  omega
theorem zag_is (n : Int) (h : 0 ≤ n ∧ n ≤ 18446744073709551615) :
    bits .xor .i64 (n / 2) (wrap64 (-wrap64 (bits .and .u64 n 1))) = zagP n := by
  rw [and_one_is n h]
  unfold zagP
  by_cases g : n % 2 = 1
  · have e1 : wrap64 (-wrap64 (n % 2)) = -1 := by rw [g]; unfold wrap64; omega
    rw [e1, xor_neg_i64 _ (by omega), if_pos g]
  · have g' : n % 2 = 0 := by omega
    have e1 : wrap64 (-wrap64 (n % 2)) = 0 := by rw [g']; unfold wrap64; omega
    rw [e1, xor_zero_i64 _ (by omega), if_neg g]

theorem va_Zig (n : Int) (w : World) (h : -9223372036854775808 ≤ n ∧ n ≤ 9223372036854775807) :
    Calls Try.prog 18 #[.int .i64 n] w fun e w' => e = .returned (.int .u64 (zigP n)) ∧ w = w' := by
  have H := hid (zig_is n h)
  go_enter Try.func18, Try.ntmps18
  go_wp2
  go_ret
  exact ⟨by rw [← H.out]; rfl, rfl⟩
theorem va_Zag (n : Int) (w : World) (h : 0 ≤ n ∧ n ≤ 18446744073709551615) :
    Calls Try.prog 20 #[.int .u64 n] w fun e w' => e = .returned (.int .i64 (zagP n)) ∧ w = w' := by
  have H := hid (zag_is n h)
  go_enter Try.func20, Try.ntmps20
  go_wp2
  go_ret
  exact ⟨by rw [← H.out]; rfl, rfl⟩
theorem var_Zig (n : Int) (w : World) (h : -9223372036854775808 ≤ n ∧ n ≤ 9223372036854775807) :
    Calls Try.prog 19 #[.int .i64 n] w fun e w' => e = .returned (.int .u64 (zigP n)) ∧ w = w' := by
  by_cases g : n < 0
  · have H : Hid (2 * -(n + 1) + 1 = zigP n) := by unfold zigP; rw [if_pos g]; show _ = _; omega
    go_enter Try.func19, Try.ntmps19
    go_wp2
    go_ret
    exact ⟨by rw [← H.out]; rfl, rfl⟩
  · have H : Hid (2 * n = zigP n) := by unfold zigP; rw [if_neg g]; exact rfl
    go_enter Try.func19, Try.ntmps19
    go_wp2
    go_ret
    exact ⟨by rw [← H.out]; rfl, rfl⟩
theorem var_Zag (n : Int) (w : World) (h : 0 ≤ n ∧ n ≤ 18446744073709551615) :
    Calls Try.prog 21 #[.int .u64 n] w fun e w' => e = .returned (.int .i64 (zagP n)) ∧ w = w' := by
  by_cases g : n % 2 = 1
  · have H : Hid (-(n / 2) - 1 = zagP n) := by unfold zagP; rw [if_pos g]; exact rfl
    have g1 : (n % 2 == 1) = true := by simpa using g
    clear g
    go_enter Try.func21, Try.ntmps21
    go_wp2
    go_ret
    exact ⟨by rw [← H.out]; rfl, rfl⟩
  · have H : Hid (n / 2 = zagP n) := by unfold zagP; rw [if_neg g]; exact rfl
    have g1 : (n % 2 == 1) = false := by simpa using g
    clear g
    go_enter Try.func21, Try.ntmps21
    go_wp2
    go_ret
    exact ⟨by rw [← H.out]; rfl, rfl⟩

/-- A number's bytes: seven bits each, the lowest first. -/
def putF : Nat → Int → List Int
  | 0, u => [u]
  | k + 1, u => if 128 ≤ u then (u % 128 + 128) :: putF k (u / 128) else [u]
def putP (u : Int) : List Int := putF 9 u
theorem putF_lt (k : Nat) (u : Int) (h : u < 128) : putF k u = [u] := by
  cases k with
  | zero => rfl
  | succ k => rw [putF, if_neg (by omega)]
theorem putF_ge (k : Nat) (u : Int) (h : 128 ≤ u) : putF (k + 1) u = (u % 128 + 128) :: putF k (u / 128) := by rw [putF, if_pos h]
theorem pow_step (k : Nat) (u : Int) (h : u < 128 ^ (k + 1 + 1)) : u / 128 < 128 ^ (k + 1) := by
  rw [Int.pow_succ] at h
  exact Int.ediv_lt_of_lt_mul (by omega) h
theorem putF_len (k : Nat) (u : Int) : (putF k u).length ≤ k + 1 ∧ 1 ≤ (putF k u).length := by
  induction k generalizing u with
  | zero => simp [putF]
  | succ k ih =>
    rw [putF]
    split
    · have := ih (u / 128); simp; omega
    · simp
theorem putF_bytes (k : Nat) (u : Int) (h0 : 0 ≤ u) (h : u < 128 ^ (k + 1)) : ∀ x ∈ putF k u, 0 ≤ x ∧ x ≤ 255 := by
  induction k generalizing u with
  | zero => simp [putF] at h ⊢; omega
  | succ k ih =>
    rw [putF]
    split
    · intro x hx
      rcases List.mem_cons.1 hx with rfl | hx
      · omega
      · exact ih (u / 128) (by omega) (pow_step k u h) x hx
    · intro x hx; simp at hx; omega
theorem or_128 (x : Int) (h : 0 ≤ x ∧ x ≤ 255) : bits .or .u8 x 128 = x % 128 + 128 := by
  obtain ⟨n, rfl⟩ := Int.eq_ofNat_of_zero_le h.1
  have hn : n < 256 := by omega
  have key : ∀ m : Fin 256, bits .or .u8 ((m.val : Nat) : Int) 128 = ((m.val : Nat) : Int) % 128 + 128 := by decide +kernel
  exact key ⟨n, hn⟩
theorem cont_byte (u : Int) : bits .or .u8 (u % 256) 128 = u % 128 + 128 := by
  rw [or_128 _ (by omega)]; omega

theorem info8v : (Try.prog.info? 5).map (fun i => (i.zero, i.size, i.bytes)) = some (some (.int .u8 0), 1, 1) := by kernel_rfl

theorem va_Size (u : Int) (w : World) (h : 0 ≤ u ∧ u ≤ 18446744073709551615) :
    Calls Try.prog 24 #[.int .u64 u] w fun e w' => e = .returned (.int .i64 (putP u).length) ∧ w = w' := by
  have H0 : Hid ((putP u).length = 1 + if 0 < u / 128 then (putF 8 (u / 128)).length else 0) := by
    show _ = _
    unfold putP
    by_cases g : 128 ≤ u
    · rw [putF_ge 8 u g, if_pos (by omega)]; simp; omega
    · rw [putF_lt 9 u (by omega), if_neg (by omega)]; rfl
  have hp : u / 128 < 128 ^ (8 + 1) := pow_step 8 u (by omega)
  go_enter Try.func24, Try.ntmps24
  go_wp2
  go_loop [0, 3] (fun c n => ∃ (k j : Nat) (cur : Int), c = .int .u64 cur ∧ n = .int .i64 j ∧ 0 ≤ cur ∧ cur ≤ 18446744073709551615 ∧ j ≤ 20 ∧ (0 < cur → j + k ≤ 9) ∧ Hid (cur < 128 ^ (k + 1)) ∧ Hid ((putP u).length = j + if 0 < cur then (putF k cur).length else 0)) (fun c _ => (intOf c).toNat)
  case atStart => exact ⟨8, 1, u / 128, rfl, rfl, by omega, by omega, by omega, by omega, hp, H0⟩
  case round =>
    obtain ⟨k, j, cur, rfl, rfl, h0, h1, hj20, hjk, hk, hl⟩ := hrel
    clear hp
    by_cases g : 0 < cur
    · have hjk2 := hjk g
      clear hjk
      cases k with
      | zero =>
        have hk2 : cur < 128 := by have := hk.out; omega
        have hl2 : Hid ((putP u).length = (j + 1) + if 0 < cur / 128 then (putF 0 (cur / 128)).length else 0) := by
          show _ = _
          rw [hl.out, if_pos g, if_neg (by omega)]; rfl
        go_wp2
        go_round
        case rel => exact ⟨0, j + 1, cur / 128, rfl, by go_num, by omega, by omega, by omega, by omega, by show _ < _; omega, hl2⟩
        case measure => simp [intOf]; omega
      | succ k =>
        have hk2 : Hid (cur / 128 < 128 ^ (k + 1)) := pow_step k cur hk.out
        have hl2 : Hid ((putP u).length = (j + 1 : Nat) + if 0 < cur / 128 then (putF k (cur / 128)).length else 0) := by
          show _ = _
          rw [hl.out, if_pos g]
          by_cases g2 : 128 ≤ cur
          · rw [putF_ge k cur g2, if_pos (by omega)]; simp; omega
          · rw [putF_lt _ cur (by omega), if_neg (by omega)]; rfl
        go_wp2
        go_round
        case rel => exact ⟨k, j + 1, cur / 128, rfl, by go_num, by omega, by omega, by omega, by omega, hk2, hl2⟩
        case measure => simp [intOf]; omega
    · obtain rfl : cur = 0 := by omega
      go_wp2
      go_ret
      refine ⟨?_, rfl⟩
      rw [hl.out]; simp
end Go.Proofs.Ytmimnefjeidedaa
