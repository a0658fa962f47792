/- Chapter 11: units: how far parts are from 0, and by how much they may grow. -/
import Derived.Test.YtgmepohfkpncmaaGreatQuatE
import Derived.Test.YtgmepohfkpncmaaGreatHeld
namespace Go.Proofs.YtgmepohfkpncmaaGreat
open Go.RowKit
set_option linter.unusedVariables false
set_option linter.unusedSimpArgs false

/-! ### The plain words -/
def farP (xs : List Int) : Int := xs.foldl (fun f x => max (max f x) (-x)) 0
theorem farP_take (xs : List Int) (j : Nat) (h : j < xs.length) : farP (xs.take (j + 1)) = max (max (farP (xs.take j)) (xs[j]?.getD 0)) (-(xs[j]?.getD 0)) := by
  unfold farP
  rw [List.take_add_one, List.foldl_append]
  simp [h]
theorem foldl_far (xs : List Int) (f : Int) (hf : 0 ≤ f) (B : Int) (hB : f ≤ B) (hx : ∀ x ∈ xs, -B ≤ x ∧ x ≤ B) :
    f ≤ xs.foldl (fun f x => max (max f x) (-x)) f ∧ xs.foldl (fun f x => max (max f x) (-x)) f ≤ B ∧ (∀ x ∈ xs, -(xs.foldl (fun f x => max (max f x) (-x)) f) ≤ x ∧ x ≤ xs.foldl (fun f x => max (max f x) (-x)) f) ∧
      (xs.foldl (fun f x => max (max f x) (-x)) f = f ∨ ∃ x ∈ xs, xs.foldl (fun f x => max (max f x) (-x)) f = x ∨ xs.foldl (fun f x => max (max f x) (-x)) f = -x) := by
  induction xs generalizing f with
  | nil => exact ⟨Int.le_refl _, hB, by simp, .inl rfl⟩
  | cons y r ih =>
    have hy := hx y (by simp)
    obtain ⟨h1, h2, h3, h4⟩ := ih (max (max f y) (-y)) (by omega) (by omega) (fun x h => hx x (by simp [h]))
    simp only [List.foldl_cons]
    generalize r.foldl (fun f x => max (max f x) (-x)) (max (max f y) (-y)) = F at *
    refine ⟨by clear h4; omega, h2, ?_, ?_⟩
    · intro x hx'
      rcases List.mem_cons.1 hx' with rfl | h
      · clear h4; omega
      · exact h3 x h
    · rcases h4 with h4 | ⟨x, hx', h4⟩
      · by_cases g : F = f
        · exact .inl g
        · exact .inr ⟨y, by simp, by omega⟩
      · exact .inr ⟨x, by simp [hx'], h4⟩
theorem farP_facts (xs : List Int) (hx : ∀ x ∈ xs, -2147483648 ≤ x ∧ x ≤ 2147483647) : 0 ≤ farP xs ∧ farP xs ≤ 2147483648 ∧ (∀ x ∈ xs, -(farP xs) ≤ x ∧ x ≤ farP xs) ∧ (farP xs = 0 ∨ ∃ x ∈ xs, farP xs = x ∨ farP xs = -x) := by
  exact foldl_far xs 0 (by omega) 2147483648 (by omega) (fun x h => by have := hx x h; omega)

theorem max3 (s x : Int) : (if (if s < x then x else s) < -x then -x else if s < x then x else s) = max (max s x) (-x) := by
  split <;> (split at * <;> omega)

def shF : Nat → Int → Nat
  | 0, _ => 0
  | f + 1, m => if 1073741824 ≤ m then 0 else shF f (2 * m) + 1
/-- By how many bits a number may grow, till it is at least 2^30. -/
def shN (m : Int) : Nat := shF 30 m
theorem pow_s (m : Int) (j : Nat) : m * 2 ^ (j + 1) = 2 * m * 2 ^ j := by rw [Int.pow_succ]; grind
theorem shF_facts : ∀ (f : Nat) (m : Int), 0 < m → 1073741824 ≤ m * 2 ^ f → shF f m ≤ f ∧ 1073741824 ≤ m * 2 ^ shF f m ∧ ∀ j, j < shF f m → m * 2 ^ j < 1073741824
  | 0, m, h0, h => by simp only [shF]; exact ⟨Nat.le_refl _, h, fun j hj => absurd hj (Nat.not_lt_zero _)⟩
  | f + 1, m, h0, h => by
    unfold shF
    split
    · rename_i g
      exact ⟨Nat.zero_le _, by simpa using g, fun j hj => absurd hj (Nat.not_lt_zero _)⟩
    · rename_i g
      obtain ⟨h1, h2, h3⟩ := shF_facts f (2 * m) (by omega) (by rw [← pow_s]; exact h)
      refine ⟨by omega, by rw [pow_s]; exact h2, ?_⟩
      intro j hj
      cases j with
      | zero => simpa using g
      | succ k => rw [pow_s]; exact h3 k (by omega)
theorem shN_facts (m : Int) (h0 : 0 < m) : shN m ≤ 30 ∧ 1073741824 ≤ m * 2 ^ shN m ∧ ∀ j, j < shN m → m * 2 ^ j < 1073741824 := by
  refine shF_facts 30 m h0 ?_
  have : (2 : Int) ^ 30 = 1073741824 := by decide +kernel
  rw [this]; omega

theorem shN_bd (m : Int) (hm : 0 < m ∧ m ≤ 2147483648) (k : Nat) (hk : k ≤ shN m) : 0 ≤ m * 2 ^ k ∧ m * 2 ^ k ≤ 2147483648 ∧ (0 < k → m * 2 ^ k < 2147483648) := by
  obtain ⟨h1, h2, h3⟩ := shN_facts m hm.1
  cases k with
  | zero => simp; omega
  | succ j =>
    have := h3 j (by omega)
    have h0 : 0 ≤ m * 2 ^ j := Int.mul_nonneg (by omega) (Int.le_of_lt (Int.pow_pos (by omega)))
    rw [pow_s, Int.mul_assoc]
    omega

theorem u_shifts (A : Option Addr) (n c : Nat) (xs : List Int) (w : World) (h : Row .i32 w w.heap.size A n xs) (hx : ∀ x ∈ xs, -2147483648 ≤ x ∧ x ≤ 2147483647) (hn : n ≤ 1000) (hp : 0 < farP xs) :
    Calls Tryz.prog 109 #[.slice A n c] w fun e w' => e = .returned (.int .i64 (shN (farP xs))) ∧ w = w' := by
  have HX := hid hx
  obtain ⟨f0, f1, _, _⟩ := farP_facts xs hx
  have HF := hid (shN_facts _ hp)
  have HL := hid fun j => (farP_facts (xs.take j) (fun x h => hx x (List.mem_of_mem_take h)))
  clear hx
  go_enter Tryz.func109, Tryz.ntmps109
  go_wp2
  go_loop [3, 9] (fun s i => ∃ j : Nat, j ≤ n ∧ i = .int .i64 j ∧ s = .int .i64 (farP (xs.take j))) (fun _ i => n - (intOf i).toNat)
  case atStart => exact ⟨0, by omega, rfl, rfl⟩
  case round =>
    obtain ⟨j, hj, rfl, rfl⟩ := hrel
    by_cases hlt : j < n
    · obtain ⟨ad, rfl, _, hc⟩ := h.at_ hlt
      have hjl : j < xs.length := by rw [h.1]; exact hlt
      have hx : -2147483648 ≤ xs[j]?.getD 0 ∧ xs[j]?.getD 0 ≤ 2147483647 := by
        have := HX.out xs[j] (List.getElem_mem hjl)
        simpa [hjl] using this
      have hT := farP_take xs j hjl
      have hl := HL.out j
      obtain ⟨l0, l1, _, _⟩ := hl
      generalize xs[j]?.getD 0 = x at *
      generalize farP (xs.take j) = s at *
      have HT := hid hT
      clear hT
      go_wp2
      go_round
      case rel => exact ⟨j + 1, by omega, by go_num, by rw [HT.out, ← max3]⟩
      case measure => simp [intOf]; omega
    · obtain rfl : j = n := by omega
      have et : xs.take j = xs := List.take_of_length_le (by rw [h.1]; exact Nat.le_refl _)
      rw [et]
      clear et HL HX
      generalize hm : farP xs = m at *
      have HM := hid hm
      clear hm
      go_wp2
      go_loop [6] (fun i => ∃ j : Nat, j ≤ shN m ∧ i = .int .i64 j) (fun i => shN m - (intOf i).toNat)
      case atStart => exact ⟨0, by omega, rfl⟩
      case round =>
        obtain ⟨k, hk, rfl⟩ := hrel
        have hf := HF.out
        have hb := shN_bd m ⟨hp, f1⟩ k hk
        have e64 : min k 64 = k := by omega
        have ew : IntKind.i64.wrap (m * 2 ^ min k 64) = m * 2 ^ k := by rw [e64]; exact IntWalk.i64_in _ (by omega)
        clear e64
        by_cases g : k < shN m
        · have dd : decide (m * 2 ^ k < 1073741824) = true := by simpa using hf.2.2 k g
          generalize m * 2 ^ k = P at *
          have ek : IntKind.i64.wrap ((k : Int) + 1) = ((k + 1 : Nat) : Int) := (IntWalk.i64_in _ (by omega)).trans (by omega)
          have mk : shN m - (k + 1) < shN m - k := by omega
          clear hf HF
          go_wp2
          go_round
          case rel => exact ⟨k + 1, by omega, rfl⟩
          case measure => simpa [intOf] using mk
        · obtain rfl : k = shN m := by omega
          have dd : decide (m * 2 ^ shN m < 1073741824) = false := by have := hf.2.1; simp; omega
          generalize m * 2 ^ shN m = P at *
          clear hf HF
          go_wp2
          go_ret
          exact ⟨by rw [HM.out]; rfl, rfl⟩
end Go.Proofs.YtgmepohfkpncmaaGreat
