/- Chapter 24: two digits. -/
import Derived.Test.YtbhfidneijogfaaClkC
import Derived.Shelf.Strings.Prefix
import Derived.Test.YtbhfidneijogfaaProg
namespace Go.Proofs
open Go.Shelf
def Try.lays102_ren : Go.Shelf.Ren := ⟨fun | 102 => 71 | 207 => 81 | 209 => 79 | n => n, fun | 3 => 3 | 4 => 4 | 9 => 9 | n => n, fun | n => n⟩
theorem Try.lays102 : Go.Proofs.Lays.n102 Try.prog Try.lays102_ren := {
  mixed := by kernel_rfl
  f102 := Try.func71.trans (congrArg some (by kernel_rfl))
  f207 := Try.func81.trans (congrArg some (by kernel_rfl))
  f209 := Try.func79.trans (congrArg some (by kernel_rfl))
  t3 := Try.underlying3
  a3 := Try.isAgg3
  z3 := Try.sizeOf3
  v3 := Try.zeroValue3
  t4 := Try.underlying4
  a4 := Try.isAgg4
  z4 := Try.sizeOf4
  v4 := Try.zeroValue4
  t9 := Try.underlying9
  a9 := Try.isAgg9
  z9 := Try.sizeOf9
  v9 := Try.zeroValue9 }
end Go.Proofs
namespace Go.Proofs.Ytbhfidneijogfaa
open Go.RowKit Go.Shelf
set_option linter.unusedVariables false
set_option linter.unusedSimpArgs false
attribute [local go_sem] Oper.semAt_some
theorem str_app (xs ys : List Int) : strOfNums xs ++ strOfNums ys = strOfNums (xs ++ ys) := by
  apply ByteArray.ext
  rw [ByteArray.data_append]
  simp [strOfNums]
theorem str_nil : ({ data := #[] } : ByteArray) = strOfNums [] := rfl
def twoL (n : Int) : List Int := [48 + n / 10, 48 + n % 10]
theorem c_two (n : Int) (w : World) (hn : 0 ≤ n ∧ n ≤ 99) : Calls Try.prog 70 #[.int .i64 n] w fun e w' => e = .returned (.string (strOfNums (twoL n))) ∧ Below w.heap.size w w' := by
  have u1 : IntKind.u8.wrap (48 + n / 10) = 48 + n / 10 := by rw [IntKind.wrap_u8]; omega
  have u2 : IntKind.u8.wrap (48 + n % 10) = 48 + n % 10 := by rw [IntKind.wrap_u8]; omega
  have hB := Blk.new w 5 #[.int .u8 (48 + n / 10), .int .u8 (48 + n % 10)]
  have hst := run_str (Row.blk (k := .u8) (B := w.heap.size + 1) (xs := twoL n) hB rfl (by omega)) 27 9 5 2 Try.underlying27 Try.underlying5 Try.underlying9
  simp only [twoL, List.length_cons, List.length_nil, Nat.reduceAdd] at hst
  have HX : Hid (strOfNums (twoL n) = strOfNums [48 + n / 10, 48 + n % 10]) := rfl
  have hb := (Below.refl w.heap.size w).alloc (Nat.le_refl _) (.cells #[.int .u8 (48 + n / 10), .int .u8 (48 + n % 10)] 5)
  generalize strOfNums [48 + n / 10, 48 + n % 10] = S at *
  clear hB
  go_enter Try.func70, Try.ntmps70
  go_wp2
  go_ret
  exact ⟨by rw [HX.out]; rfl, hb⟩
def digL (n : Int) (k : Nat) : List Int := if k = 0 then [] else if k = 1 then [48 + n % 10] else [48 + n / 10 % 10, 48 + n % 10]
def lenV (v : Value) : Nat := match v with | .string s => s.size | _ => 0
set_option maxRecDepth 20000 in
set_option maxHeartbeats 2000000 in
theorem r_digits (n : Int) (least : Nat) (w : World) (hn : 0 ≤ n ∧ n ≤ 99) (hl : least = 1 ∨ least = 2) (h1 : least = 1 → 1 ≤ n ∧ n ≤ 9) :
    Calls Try.prog 73 #[.int .i64 n, .int .i64 least] w fun e w' => e = .returned (.string (strOfNums (digL n least))) ∧ Below w.heap.size w w' := by
  go_enter Try.func73, Try.ntmps73
  go_wp2_with fail
  go_loopw [0, 5] (fun vn vs wr => ∃ k : Nat, k ≤ least ∧ vn = .int .i64 (if k = 0 then n else if k = 1 then n / 10 else n / 10 / 10) ∧ vs = .string (strOfNums (digL n k)) ∧ Below w.heap.size w wr) (fun _ vs _ => 3 - lenV vs)
  case atStart => exact ⟨0, by omega, rfl, rfl, Below.refl _ w⟩
  case round =>
    obtain ⟨k, hk, rfl, rfl, hb⟩ := hrel
    obtain ⟨m, hm⟩ : ∃ m, (if k = 0 then n else if k = 1 then n / 10 else n / 10 / 10) = m := ⟨_, rfl⟩
    rw [hm]
    have hz : (strOfNums (digL n k)).size = k := by
      rw [strOfNums_size]
      unfold digL
      split
      · simp; omega
      · split
        · simp; omega
        · simp; omega
    have hm0 : 0 ≤ m ∧ m ≤ 99 := by
      split at hm
      · omega
      · split at hm
        · omega
        · omega
    by_cases hlt : k < least
    · have hnx : (if k + 1 = 0 then n else if k + 1 = 1 then n / 10 else n / 10 / 10) = m / 10 := by
        obtain rfl | rfl : k = 0 ∨ k = 1 := by omega
        · simp at hm ⊢; omega
        · simp at hm ⊢; omega
      have HNX := hid hnx
      have HD : Hid (strOfNums [48 + m % 10] ++ strOfNums (digL n k) = strOfNums (digL n (k + 1))) := hid (by
        rw [str_app]
        obtain rfl | rfl : k = 0 ∨ k = 1 := by omega
        · simp [digL] at hm ⊢; rw [hm]
        · simp [digL] at hm ⊢; rw [hm])
      have HZ1 : Hid ((strOfNums (digL n (k + 1))).size = k + 1) := hid (by
        rw [strOfNums_size]
        obtain rfl | rfl : k = 0 ∨ k = 1 := by omega
        · rfl
        · rfl)
      have HZ := hid hz
      have u2 : IntKind.u8.wrap (48 + m % 10) = 48 + m % 10 := by rw [IntKind.wrap_u8]; omega
      have hB := Blk.new wr 5 #[.int .u8 (48 + m % 10)]
      have hst := run_str (Row.blk (k := .u8) (B := wr.heap.size + 1) (xs := [48 + m % 10]) hB rfl (by omega)) 27 9 5 1 Try.underlying27 Try.underlying5 Try.underlying9
      simp only [List.length_cons, List.length_nil, Nat.reduceAdd] at hst
      have hb2 := hb.alloc hb.size (.cells #[.int .u8 (48 + m % 10)] 5)
      have dl : decide (((strOfNums (digL n k)).size : Int) < (least : Int)) = true := by simp; omega
      have dl2 : decide ((strOfNums (digL n k)).size < least) = true := by simp; omega
      have hsz : (strOfNums (digL n k)).size ≤ 2 := by omega
      have hsz1 : (strOfNums [48 + m % 10]).size ≤ 1 := by rw [strOfNums_size]; exact Nat.le_refl _
      clear hz
      clear hB hnx hm
      generalize strOfNums [48 + m % 10] = S1 at *
      generalize strOfNums (digL n k) = S at *
      go_wp2_with fail
      all_goals go_round
      all_goals (try case rel => exact ⟨k + 1, by omega, by rw [HNX.out], by rw [HD.out], hb2⟩)
      all_goals (try case measure => show 3 - (S1 ++ S).size < 3 - S.size; rw [HD.out, HZ1.out, HZ.out]; omega)
    · obtain rfl : k = least := by omega
      have hm9 : m = 0 := by
        obtain rfl | rfl := hl
        · have := h1 rfl; simp at hm; omega
        · simp at hm; omega
      subst hm9
      have dl : decide (((strOfNums (digL n k)).size : Int) < (k : Int)) = false := by simp; omega
      have dl2 : decide ((strOfNums (digL n k)).size < k) = false := by simp; omega
      clear hz
      clear hm
      generalize hS : strOfNums (digL n k) = S at *
      have HS := hid hS
      clear hS
      go_wp2
      go_ret
      exact ⟨by rw [HS.out]; rfl, hb⟩
end Go.Proofs.Ytbhfidneijogfaa
