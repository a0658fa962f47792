/- Chapter 03: the number that bytes begin with. -/
import Derived.Test.YtmimnefjeidedaaVaryB
namespace Go.Proofs.Ytmimnefjeidedaa
open Go.RowKit

/-- The number that some bytes begin with, i bytes having come to u: the number, the bytes, and 0; or 0, 0, and why there is none. -/
def takeF : Nat → Int → List Int → Int × Int × Int
  | _, _, [] => (0, 0, 2)
  | i, u, c :: r => if (i = 9 ∧ 1 < c) ∨ (c = 0 ∧ 0 < i) then (0, 0, 3) else if c < 128 then (u + c * 128 ^ i, i + 1, 0) else takeF (i + 1) (u + (c - 128) * 128 ^ i) r
def takeP (xs : List Int) : Int × Int × Int := takeF 0 0 xs

theorem and_127 (x : Int) (h : 0 ≤ x ∧ x ≤ 255) : bits .and .u8 x 127 = x % 128 := by
  obtain ⟨n, rfl⟩ := Int.eq_ofNat_of_zero_le h.1
  have hn : n < 256 := by omega
  have key : ∀ m : Fin 256, bits .and .u8 ((m.val : Nat) : Int) 127 = ((m.val : Nat) : Int) % 128 := by decide +kernel
  exact key ⟨n, hn⟩
theorem pow_cases (j : Nat) (hj : j ≤ 9) (m : Nat) (hm : m < 128) (h9 : j = 9 → m ≤ 1) : m * 2 ^ (7 * j) < 18446744073709551616 := by
  have hj' : j = 0 ∨ j = 1 ∨ j = 2 ∨ j = 3 ∨ j = 4 ∨ j = 5 ∨ j = 6 ∨ j = 7 ∨ j = 8 ∨ j = 9 := by omega
  rcases hj' with rfl | rfl | rfl | rfl | rfl | rfl | rfl | rfl | rfl | rfl <;> simp at h9 ⊢ <;> omega
theorem pow_lt64 (j : Nat) (hj : j ≤ 9) : 2 ^ (7 * j) ≤ 18446744073709551615 := by
  have := pow_cases j hj 1 (by omega) (by omega)
  omega
theorem pow_128 (j : Nat) : (128 : Int) ^ j = ((2 ^ (7 * j) : Nat) : Int) := by
  rw [Int.natCast_pow, Int.pow_mul]; rfl
theorem take_word (c u : Int) (j : Nat) (hc : 0 ≤ c ∧ c ≤ 255) (hj : j ≤ 9) (h0 : 0 ≤ u) (hu : u < 128 ^ j) (h9 : j = 9 → c % 128 ≤ 1) :
    bits .or .u64 u (IntKind.u64.wrap (IntKind.u64.wrap (bits .and .u8 c 127) * 2 ^ (7 * j))) = u + (c % 128) * 128 ^ j := by
  rw [and_127 c hc]
  obtain ⟨m, hm⟩ := Int.eq_ofNat_of_zero_le (show 0 ≤ c % 128 by omega)
  have hm1 : m < 128 := by omega
  rw [hm] at h9 ⊢
  have hp := pow_cases j hj m hm1 (by omega)
  obtain ⟨v, rfl⟩ := Int.eq_ofNat_of_zero_le h0
  rw [pow_128] at hu ⊢
  have hv : v < 2 ^ (7 * j) := by exact_mod_cast hu
  have hv2 : v < 18446744073709551616 := by have := pow_lt64 j hj; omega
  have e1 : IntKind.u64.wrap (m : Int) = (m : Int) := by rw [IntKind.wrap_u64]; omega
  have e2 : ((m : Int) * 2 ^ (7 * j)) = ((m * 2 ^ (7 * j) : Nat) : Int) := by rw [Int.natCast_mul, Int.natCast_pow]; rfl
  have e3 : IntKind.u64.wrap ((m * 2 ^ (7 * j) : Nat) : Int) = ((m * 2 ^ (7 * j) : Nat) : Int) := by rw [IntKind.wrap_u64]; omega
  rw [e1, e2, e3]
  show IntKind.u64.wrap (((BitVec.ofInt 64 (v : Int) ||| BitVec.ofInt 64 ((m * 2 ^ (7 * j) : Nat) : Int)).toNat : Nat) : Int) = _
  rw [BitVec.ofInt_natCast, BitVec.ofInt_natCast, BitVec.toNat_or, BitVec.toNat_ofNat, BitVec.toNat_ofNat, Nat.mod_eq_of_lt (by omega), Nat.mod_eq_of_lt (by omega), IntKind.wrap_u64]
  have e4 : v ||| m * 2 ^ (7 * j) = m * 2 ^ (7 * j) + v := by
    rw [Nat.or_comm, ← Nat.shiftLeft_eq, Nat.shiftLeft_add_eq_or_of_lt hv]
  have e5 : m * 2 ^ (7 * j) + v < 18446744073709551616 := by
    have hj' : j = 0 ∨ j = 1 ∨ j = 2 ∨ j = 3 ∨ j = 4 ∨ j = 5 ∨ j = 6 ∨ j = 7 ∨ j = 8 ∨ j = 9 := by omega
    clear e1 e2 e3 e4 hp
    rcases hj' with rfl | rfl | rfl | rfl | rfl | rfl | rfl | rfl | rfl | rfl <;> simp at h9 hv <;> simp <;> omega
  rw [e4, ← Int.natCast_mul]
  omega
theorem bytes_at {xs : List Int} (h : ∀ x ∈ xs, 0 ≤ x ∧ x ≤ 255) (j : Nat) : 0 ≤ xs[j]?.getD 0 ∧ xs[j]?.getD 0 ≤ 255 := by
  rcases Nat.lt_or_ge j xs.length with hj | hj
  · have := h xs[j] (List.getElem_mem hj)
    simpa [hj] using this
  · simp [List.getElem?_eq_none hj]
theorem drop_at (xs : List Int) (j : Nat) (h : j < xs.length) : xs.drop j = (xs[j]?.getD 0) :: xs.drop (j + 1) := by
  rw [List.drop_eq_getElem_cons h]; simp [h]
theorem takeF_form (i : Nat) (u c : Int) (r : List Int) (h : (i = 9 ∧ 1 < c) ∨ (c = 0 ∧ 0 < i)) : takeF i u (c :: r) = (0, 0, 3) := by rw [takeF, if_pos h]
theorem takeF_ok (i : Nat) (u c : Int) (r : List Int) (h : ¬ ((i = 9 ∧ 1 < c) ∨ (c = 0 ∧ 0 < i))) (h1 : c < 128) : takeF i u (c :: r) = (u + c * 128 ^ i, (i : Int) + 1, 0) := by rw [takeF, if_neg h, if_pos h1]
theorem takeF_more (i : Nat) (u c : Int) (r : List Int) (h : ¬ ((i = 9 ∧ 1 < c) ∨ (c = 0 ∧ 0 < i))) (h1 : ¬ c < 128) : takeF i u (c :: r) = takeF (i + 1) (u + (c - 128) * 128 ^ i) r := by rw [takeF, if_neg h, if_neg h1]

/-- What both say of some bytes. -/
def Takes (w : World) (xs : List Int) (e : Ending) (w' : World) : Prop := e = .returned (.tuple #[.int .u64 (takeP xs).1, .int .i64 (takeP xs).2.1, .int .i64 (takeP xs).2.2]) ∧ w = w'
theorem takes_of {w : World} {xs : List Int} {a b c : Int} (h : (a, b, c) = takeP xs) : Takes w xs (.returned (.tuple #[.int .u64 a, .int .i64 b, .int .i64 c])) w := by
  unfold Takes; rw [← h]; exact ⟨rfl, rfl⟩
theorem pow_next (u m : Int) (j : Nat) (h0 : 0 ≤ u) (hu : u < 128 ^ j) (hm : 0 ≤ m) (hm2 : m < 128) : 0 ≤ u + m * 128 ^ j ∧ u + m * 128 ^ j < 128 ^ (j + 1) := by
  have hp : (0 : Int) < 128 ^ j := Int.pow_pos (by omega)
  rw [Int.pow_succ]
  generalize (128 : Int) ^ j = P at *
  have h1 : 0 ≤ m * P := Int.mul_nonneg hm (by omega)
  have h2 : m * P ≤ 127 * P := Int.mul_le_mul_of_nonneg_right (by omega) (by omega)
  omega

theorem va_Take (A : Option Addr) (n cap : Nat) (xs : List Int) (w : World) (h : Row .u8 w w.heap.size A n xs) (hB : ∀ x ∈ xs, 0 ≤ x ∧ x ≤ 255) (hn : n ≤ 9223372036854775807) :
    Calls Try.prog 40 #[.slice A n cap] w (Takes w xs) := by
  have HB := hid hB
  clear hB
  go_enter Try.func40, Try.ntmps40
  go_wp2
  go_loop [5, 6, 7, 10, 15] (fun u _ _ i _ => ∃ (j : Nat) (uj : Int), j ≤ n ∧ j ≤ 9 ∧ i = .int .i64 j ∧ u = .int .u64 uj ∧ 0 ≤ uj ∧ Hid (uj < 128 ^ j) ∧ Hid (takeF j uj (xs.drop j) = takeP xs)) (fun _ _ _ i _ => n - (intOf i).toNat)
  case atStart => exact ⟨0, 0, by omega, by omega, rfl, rfl, by omega, by show _ < _; omega, rfl⟩
  case round =>
    obtain ⟨j, uj, hj, hj9, rfl, rfl, h0, hu, ht⟩ := hrel
    by_cases hlt : j < n
    · obtain ⟨ad, rfl, _, hc⟩ := h.at_ hlt
      have hx := bytes_at HB.out j
      have HD := hid (drop_at xs j (by rw [h.1]; exact hlt))
      generalize xs[j]?.getD 0 = c at *
      by_cases g9 : j = 9 ∧ 1 < c
      · have HT : Hid (((0, 0, 3) : Int × Int × Int) = takeP xs) := by show _ = _; rw [← ht.out, HD.out, takeF_form _ _ _ _ (.inl g9)]
        have g1 : ((j : Int) == 9) = true := by simp; omega
        have g2 : 1 < c := g9.2
        clear g9 hj9
        go_wp2
        go_ret3
        exact takes_of HT.out
      · by_cases gz : c = 0 ∧ 0 < j
        · have HT : Hid (((0, 0, 3) : Int × Int × Int) = takeP xs) := by show _ = _; rw [← ht.out, HD.out, takeF_form _ _ _ _ (.inr gz)]
          have g1 : (c == 0) = true := by simpa using gz.1
          have g2 : 0 < j := gz.2
          have g3 : c ≤ 1 := by omega
          clear gz g9
          go_wp2
          all_goals go_ret3
          all_goals exact takes_of HT.out
        · have hw := take_word c uj j hx hj9 h0 hu.out (by omega)
          have HW := hid hw
          clear hw
          have G : Hid (¬ ((j = 9 ∧ 1 < c) ∨ (c = 0 ∧ 0 < j))) := by show ¬ _; rintro (g | g) <;> contradiction
          by_cases gl : c < 128
          · have HT : Hid ((uj + (c % 128) * 128 ^ j, (j : Int) + 1, 0) = takeP xs) := by
              show _ = _
              have e : c % 128 = c := by omega
              rw [e, ← ht.out, HD.out, takeF_ok _ _ _ _ G.out gl]
            rw [← HW.out] at HT
            by_cases j9 : j = 9
            · have t1 : ¬ 1 < c := fun g => g9 ⟨j9, g⟩
              have t2 : c ≠ 0 := fun g => gz ⟨g, by omega⟩
              have c1 : c ≤ 1 := by omega
              have c0' : (c == 0) = false := by simp; omega
              have j9' : ((j : Int) == 9) = true := by simp; omega
              clear g9 gz j9 t1 t2
              go_wp2
              go_ret3
              exact takes_of HT.out
            · have j9' : ((j : Int) == 9) = false := by simp; omega
              by_cases c0 : c = 0
              · have j00 : ¬ 0 < j := fun g => gz ⟨c0, g⟩
                have j0 : decide (0 < j) = false := by simp; omega
                have j1 : decide ((0 : Int) < (j : Int)) = false := by simp; omega
                have c0' : (c == 0) = true := by simp; omega
                clear g9 gz c0 j9 j00
                go_wp2
                go_ret3
                exact takes_of HT.out
              · have c0' : (c == 0) = false := by simpa using c0
                clear g9 gz c0 j9
                go_wp2
                go_ret3
                exact takes_of HT.out
          · have j9 : ¬ j = 9 := fun g => g9 ⟨g, by omega⟩
            have j9' : ((j : Int) == 9) = false := by simp; omega
            have c0' : (c == 0) = false := by simp; omega
            have hm : c % 128 = c - 128 := by omega
            have hnx := pow_next uj (c - 128) j h0 hu.out (by omega) (by omega)
            have HT : Hid (takeF (j + 1) (uj + (c - 128) * 128 ^ j) (xs.drop (j + 1)) = takeP xs) := by
              show _ = _
              rw [← ht.out, HD.out, takeF_more _ _ _ _ G.out gl]
            rw [← hm, ← HW.out] at HT hnx
            have HN := hid hnx
            clear g9 gz hm hnx
            go_wp2
            go_round
            case rel => exact ⟨j + 1, _, by omega, by omega, by go_num, rfl, HN.out.1, HN.out.2, HT⟩
            case measure => simp [intOf]; omega
    · obtain rfl : j = n := by omega
      have HT : Hid (((0, 0, 2) : Int × Int × Int) = takeP xs) := by
        show _ = _
        rw [← ht.out, List.drop_eq_nil_of_le (by rw [h.1]; exact Nat.le_refl _)]; rfl
      go_wp2
      go_ret3
      exact takes_of HT.out
end Go.Proofs.Ytmimnefjeidedaa
