/- Chapter 03: what is put is taken, and what is taken, put, is those bytes; the bytes of some numbers. -/
import Derived.Test.YtmimnefjeidedaaVaryG
namespace Go.Proofs.Ytmimnefjeidedaa
open Go.RowKit

theorem zag_zig (n : Int) : zagP (zigP n) = n := by
  unfold zagP zigP
  split <;> split <;> omega
theorem zig_bd (n : Int) (h : -9223372036854775808 ≤ n ∧ n ≤ 9223372036854775807) : 0 ≤ zigP n ∧ zigP n ≤ 18446744073709551615 := by
  unfold zigP; split <;> omega
/-- The bytes of some numbers. -/
def intsP (l : List Int) : List Int := l.flatMap fun n => putP (zigP n)
theorem intsP_snoc (l : List Int) (n : Int) : intsP (l ++ [n]) = intsP l ++ putP (zigP n) := by simp [intsP]
theorem intsP_len (l : List Int) : (intsP l).length ≤ 10 * l.length := by
  induction l with
  | nil => simp [intsP]
  | cons n r ih =>
    have := (putF_len 9 (zigP n)).1
    have e : intsP (n :: r) = putP (zigP n) ++ intsP r := rfl
    rw [e, List.length_append, List.length_cons]
    unfold putP
    omega
theorem intsP_bytes (l : List Int) (h : ∀ n ∈ l, -9223372036854775808 ≤ n ∧ n ≤ 9223372036854775807) : ∀ x ∈ intsP l, 0 ≤ x ∧ x ≤ 255 := by
  intro x hx
  obtain ⟨n, hn, hx⟩ := List.mem_flatMap.1 hx
  have := zig_bd n (h n hn)
  exact putF_bytes 9 (zigP n) this.1 (by omega) x hx

theorem take_put (k i : Nat) (v u : Int) (rest : List Int) (hk : i + k ≤ 9) (h0 : 0 ≤ u) (hu : u < 128 ^ (k + 1)) (hb : u * 128 ^ i < 18446744073709551616) (h1 : 0 < i → 1 ≤ u) :
    takeF i v (putF k u ++ rest) = (v + u * 128 ^ i, (i : Int) + (putF k u).length, 0) := by
  induction k generalizing i v u with
  | zero =>
    simp at hu
    rw [putF_lt 0 u hu]
    have hp := pow_le9 i (by omega)
    have g : ¬ ((i = 9 ∧ 1 < u) ∨ (u = 0 ∧ 0 < i)) := by
      rintro (⟨rfl, g⟩ | ⟨rfl, g⟩)
      · omega
      · have := h1 g; omega
    rw [List.singleton_append, takeF_ok _ _ _ _ g hu]
    rfl
  | succ k ih =>
    by_cases g : 128 ≤ u
    · rw [putF_ge k u g]
      have hi9 : i ≠ 9 := by omega
      have g1 : ¬ ((i = 9 ∧ 1 < u % 128 + 128) ∨ (u % 128 + 128 = 0 ∧ 0 < i)) := by
        rintro (⟨g, _⟩ | ⟨g, _⟩) <;> omega
      rw [List.cons_append, takeF_more _ _ _ _ g1 (by omega)]
      have e : u % 128 + 128 - 128 = u % 128 := by omega
      have hx : u / 128 * 128 ^ (i + 1) = (u - u % 128) * 128 ^ i := by
        rw [Int.pow_succ, Int.mul_comm (128 ^ i) 128, ← Int.mul_assoc]
        congr 1; omega
      have hmod : 0 ≤ (u % 128) * 128 ^ i := Int.mul_nonneg (by omega) (by have := pow_le9 i (by omega); omega)
      rw [e, ih (i + 1) _ (u / 128) (by omega) (by omega) (pow_step k u hu) (by rw [hx, Int.sub_mul]; omega) (by omega), hx, Int.sub_mul]
      simp only [List.length_cons]
      congr 1
      · omega
      · congr 1; omega
    · rw [putF_lt _ u (by omega)]
      have g1 : ¬ ((i = 9 ∧ 1 < u) ∨ (u = 0 ∧ 0 < i)) := by
        rintro (⟨g', _⟩ | ⟨rfl, g'⟩)
        · omega
        · have := h1 g'; omega
      rw [List.singleton_append, takeF_ok _ _ _ _ g1 (by omega)]
      rfl
theorem takeP_put (u : Int) (rest : List Int) (h : 0 ≤ u ∧ u ≤ 18446744073709551615) : takeP (putP u ++ rest) = (u, ((putP u).length : Int), 0) := by
  unfold takeP putP
  rw [take_put 9 0 0 u rest (by omega) h.1 (by omega) (by omega) (by omega)]
  simp
theorem parse_ints (l : List Int) (hl : ∀ n ∈ l, -9223372036854775808 ≤ n ∧ n ≤ 9223372036854775807) (out : List Int) (a : Nat) (rest : List Int) :
    parseF l.length out a (intsP l ++ rest) = (out ++ l, ((a + (intsP l).length : Nat) : Int), 0) := by
  induction l generalizing out a with
  | nil => simp [parseF, intsP]
  | cons n r ih =>
    have e : intsP (n :: r) = putP (zigP n) ++ intsP r := rfl
    rw [e, List.length_cons, parseF, List.append_assoc, takeP_put _ _ (zig_bd n (hl n (by simp))), if_pos rfl]
    have e2 : (putP (zigP n) ++ (intsP r ++ rest)).drop ((putP (zigP n)).length : Int).toNat = intsP r ++ rest := by simp
    rw [e2, zag_zig, ih (fun x hx => hl x (by simp [hx]))]
    simp only [List.append_assoc, List.singleton_append, List.length_append, Int.toNat_natCast]
    congr 3
    omega
theorem parseP_ints (l : List Int) (hl : ∀ n ∈ l, -9223372036854775808 ≤ n ∧ n ≤ 9223372036854775807) (rest : List Int) : parseP (l.length : Int) (intsP l ++ rest) = (l, ((intsP l).length : Int), 0) := by
  unfold parseP
  rw [if_neg (by omega), Int.toNat_natCast, parse_ints l hl]
  simp

theorem takeF_fail (xs : List Int) (i : Nat) (u : Int) (he : (takeF i u xs).2.2 ≠ 0) : (takeF i u xs).1 = 0 ∧ (takeF i u xs).2.1 = 0 := by
  induction xs generalizing i u with
  | nil => simp [takeF]
  | cons c r ih =>
    by_cases g : (i = 9 ∧ 1 < c) ∨ (c = 0 ∧ 0 < i)
    · rw [takeF_form _ _ _ _ g]; simp
    · by_cases g1 : c < 128
      · rw [takeF_ok _ _ _ _ g g1] at he; simp at he
      · rw [takeF_more _ _ _ _ g g1] at he ⊢; exact ih _ _ he
theorem put_take (xs : List Int) (i : Nat) (u : Int) (hB : ∀ x ∈ xs, 0 ≤ x ∧ x ≤ 255) (hi : i ≤ 9) (he : (takeF i u xs).2.2 = 0) :
    ∃ (x : Int) (k : Nat), 0 ≤ x ∧ (0 < i → 1 ≤ x) ∧ (takeF i u xs).1 = u + x * 128 ^ i ∧ (takeF i u xs).2.1 = ((i + k : Nat) : Int) ∧ xs.take k = putF (9 - i) x := by
  induction xs generalizing i u with
  | nil => simp [takeF] at he
  | cons c r ih =>
    have hc := hB c (by simp)
    by_cases g : (i = 9 ∧ 1 < c) ∨ (c = 0 ∧ 0 < i)
    · rw [takeF_form _ _ _ _ g] at he; simp at he
    · by_cases g1 : c < 128
      · rw [takeF_ok _ _ _ _ g g1]
        refine ⟨c, 1, by omega, fun h => ?_, rfl, by simp, ?_⟩
        · have : ¬ (c = 0) := fun h' => g (.inr ⟨h', h⟩)
          omega
        · rw [putF_lt _ c g1]; rfl
      · rw [takeF_more _ _ _ _ g g1] at he ⊢
        have hi9 : i ≠ 9 := fun h => g (.inl ⟨h, by omega⟩)
        obtain ⟨x, k, h1, h2, h3, h4, h5⟩ := ih (i + 1) (u + (c - 128) * 128 ^ i) (fun x hx => hB x (by simp [hx])) (by omega) he
        have hx1 := h2 (by omega)
        refine ⟨(c - 128) + 128 * x, k + 1, by omega, fun _ => by omega, ?_, ?_, ?_⟩
        · rw [h3, Int.pow_succ, Int.add_mul, Int.mul_comm (128 ^ i) 128, ← Int.mul_assoc, Int.mul_comm x 128]; omega
        · rw [h4]; omega
        · have e : 9 - i = (9 - (i + 1)) + 1 := by omega
          rw [e, putF_ge _ _ (by omega), List.take_succ_cons, h5]
          have e1 : (c - 128 + 128 * x) % 128 + 128 = c := by omega
          have e2 : (c - 128 + 128 * x) / 128 = x := by omega
          rw [e1, e2]
theorem put_takeP (xs : List Int) (hB : ∀ x ∈ xs, 0 ≤ x ∧ x ≤ 255) (he : (takeP xs).2.2 = 0) : ∃ k : Nat, (takeP xs).2.1 = (k : Int) ∧ xs.take k = putP (takeP xs).1 := by
  obtain ⟨x, k, _, _, h3, h4, h5⟩ := put_take xs 0 0 hB (by omega) he
  refine ⟨k, ?_, ?_⟩
  · unfold takeP; rw [h4]; simp
  · unfold takeP putP; rw [h3, h5]; simp

theorem va_Ints (A : Option Addr) (n c : Nat) (xs : List Int) (w : World) (h : Row .i64 w w.heap.size A n xs) (hX : ∀ x ∈ xs, -9223372036854775808 ≤ x ∧ x ≤ 9223372036854775807) (hn : n ≤ 1000) :
    Calls Try.prog 58 #[.slice A n c] w (Gives w (intsP xs)) := by
  have hb := Blk.new w 89 #[.slice none 0 0]
  have ho := (Own.nil_ .u8 w w.heap.size 5).alloc (.cells #[.slice none 0 0] 89)
  have HX := hid hX
  clear hX
  go_enter Try.func58, Try.ntmps58
  go_wp2
  go_loopw [6, 10] (fun _ i wr => ∃ (j m : Nat) (A1 : Option Addr) (c1 : Nat), j ≤ n ∧ m ≤ 10 * j ∧ i = .int .i64 j ∧ Blk wr w.heap.size 89 #[.slice A1 m c1] ∧ Own .u8 wr w.heap.size 5 A1 m c1 (intsP (xs.take j)) ∧ Below w.heap.size w wr ∧ w.heap.size < wr.heap.size) (fun _ i _ => n - (intOf i).toNat)
  case atStart => exact ⟨0, 0, none, 0, by omega, by omega, rfl, hb, ho, (Below.refl _ w).alloc (Nat.le_refl _) _, by simp⟩
  case round =>
    obtain ⟨j, m, A1, c1, hj, hm, rfl, hb1, ho1, hbe, hs1⟩ := hrel
    clear hb ho
    have r1 := h.below hbe
    by_cases hlt : j < n
    · obtain ⟨ad, rfl, _, hc⟩ := r1.at_ hlt
      have hx : -9223372036854775808 ≤ xs[j]?.getD 0 ∧ xs[j]?.getD 0 ≤ 9223372036854775807 := by
        have hl : j < xs.length := by rw [h.1]; exact hlt
        have := HX.out xs[j] (List.getElem_mem hl)
        simpa [hl] using this
      have HS : Hid (intsP (xs.take (j + 1)) = intsP (xs.take j) ++ putP (zigP (xs[j]?.getD 0))) := by
        have hl : j < xs.length := by rw [h.1]; exact hlt
        show _ = _
        rw [List.take_succ_eq_append_getElem hl, intsP_snoc]; simp [hl]
      generalize xs[j]?.getD 0 = x at *
      have hp := putF_len 9 (zigP x)
      have hzb := zig_bd x hx
      go_wp2_with fail
      refine (va_Zig x _ hx).mono ?_
      rintro e w' ⟨rfl, rfl⟩
      generalize zigP x = z at *
      go_wp2_with fail
      refine (va_put z w.heap.size w.heap.size m c1 A1 (intsP (xs.take j)) _ hzb hb1 ho1 (Nat.le_refl _) (by omega) (by omega)).mono ?_
      rintro e w2 ⟨rfl, A2, c2, hb2, ho2, be2⟩
      have hs2 := be2.size
      go_wp2
      go_roundw
      case rel => exact ⟨j + 1, m + (putP z).length, A2, c2, by omega, by unfold putP; omega, by go_num, hb2, by rw [HS.out]; exact ho2, hbe.trans be2, by omega⟩
      case measure => simp [intOf]; omega
    · obtain rfl : j = n := by omega
      have et : xs.take j = xs := List.take_of_length_le (by rw [h.1]; exact Nat.le_refl _)
      rw [et] at ho1
      have hml : m = (intsP xs).length := ho1.len.symm
      have k1 := hb1.cell 0
      simp at k1
      have H := hid (show Gives w (intsP xs) (.returned (.slice A1 m c1)) wr from ⟨A1, c1, by rw [hml], by rw [← hml]; exact ho1.row, by rw [← hml]; exact ho1.cap_, hbe⟩)
      clear hml et ho1 hb1
      go_wp2
      go_ret
      exact H.out
end Go.Proofs.Ytmimnefjeidedaa
