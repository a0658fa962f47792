/- Chapter 06: what fletch's functions and their references compute. -/
import Derived.Test.YtmimnefjeidedaaAid
import Derived.RegionTactic
import Derived.ChangeAlike
import Derived.BigQuiet
import Derived.Deep.QuietTactic
import Derived.Outline
import Derived.Handy
namespace Go.Proofs.Ytmimnefjeidedaa
open Go.RowKit

/-- Both sums of some bytes. -/
def moreP : Int → Int → List Int → Int × Int
  | a, b, [] => (a, b)
  | a, b, c :: r => moreP ((a + c) % 256) ((b + (a + c)) % 256) r
theorem moreP_snoc (a b c : Int) (xs : List Int) : moreP a b (xs ++ [c]) = (((moreP a b xs).1 + c) % 256, ((moreP a b xs).2 + ((moreP a b xs).1 + c)) % 256) := by
  induction xs generalizing a b with
  | nil => rfl
  | cons x r ih => simp only [List.cons_append, moreP]; exact ih _ _
theorem take_snoc (xs : List Int) (j : Nat) (h : j < xs.length) : xs.take (j + 1) = xs.take j ++ [xs[j]?.getD 0] := by
  rw [List.take_succ_eq_append_getElem h]; simp [h]

theorem fl_add (g : Nat) (p q c : Int) (w : World) (hb : Blk w g 85 #[.int .u8 p, .int .u8 q]) :
    Calls Try.prog 64 #[.pointer (some ⟨g, 0, none⟩), .int .u8 c] w fun e w' => e = .returned (.tuple #[]) ∧
      Blk w' g 85 #[.int .u8 ((p + c) % 256), .int .u8 ((q + (p + c)) % 256)] ∧ w.grownBy w' (some g) := by
  have c0 := hb.cell 0
  have c1 := hb.cell 1
  have f0 := hb.frozen 0
  have f1 := hb.frozen 1
  simp at c0 c1
  go_enter Try.func64, Try.ntmps64
  go_wp2
  go_region
  all_goals
    go_end0
    have hb2 := (hb.set_ 0 (.int .u8 ((p + c) % 256))).set_ 1 (.int .u8 ((q + (p + c)) % 256))
    simp at hb2
    exact ⟨rfl, hb2.drew, only_drew (only_set (only_set (World.grownBy.refl w _) 0 _) 1 _)⟩

theorem fl_More (a b : Int) (A : Option Addr) (n cap : Nat) (xs : List Int) (w : World) (h : Row .u8 w w.heap.size A n xs) (hn : n ≤ 9223372036854775807) :
    Calls Try.prog 17 #[.int .u8 a, .int .u8 b, .slice A n cap] w fun e w' => e = .returned (.tuple #[.int .u8 (moreP a b xs).1, .int .u8 (moreP a b xs).2]) ∧ Below w.heap.size w w' := by
  go_enter Try.func17, Try.ntmps17
  go_wp2
  go_loopw [10, 16] (fun _ i wr => ∃ j : Nat, j ≤ n ∧ i = .int .i64 j ∧ Blk wr w.heap.size 85 #[.int .u8 (moreP a b (xs.take j)).1, .int .u8 (moreP a b (xs.take j)).2] ∧ Below w.heap.size w wr) (fun _ i _ => n - (intOf i).toNat)
  case atStart => exact ⟨0, Nat.zero_le _, rfl, Blk.new _ _ _, (Below.refl _ _).alloc (Nat.le_refl _) _⟩
  case round =>
    obtain ⟨j, hj, rfl, hblk, hbel⟩ := hrel
    have hr := h.below hbel
    by_cases hlt : j < n
    · obtain ⟨ad, rfl, _, hc⟩ := hr.at_ hlt
      have HS := hid (moreP_snoc a b (xs[j]?.getD 0) (xs.take j))
      have HT := hid (take_snoc xs j (by rw [h.1]; exact hlt))
      go_wp2_with fail
      refine (fl_add _ _ _ _ _ hblk).mono ?_
      rintro e w' ⟨rfl, hb', hg'⟩
      go_wp2
      go_roundw
      case rel => exact ⟨j + 1, by omega, by go_num, by rw [HT.out, HS.out]; exact hb', hbel.grown hg' hbel.size (fun k hk => by cases hk; exact Nat.le_refl _)⟩
      case measure => simp [intOf]; omega
    · obtain rfl : j = n := by omega
      have c0 := hblk.cell 0
      have c1 := hblk.cell 1
      have e : xs.take j = xs := List.take_of_length_le (by rw [h.1]; exact Nat.le_refl _)
      simp [e] at c0 c1
      clear e
      go_wp2
      go_quiet (fail)
      go_wp2
      go_ret2
      exact ⟨rfl, hbel.drewN' _⟩

/-- The sum of some numbers, and the sum in which the first counts as often as there are numbers. -/
def sumP : List Int → Int
  | [] => 0
  | c :: r => c + sumP r
def twoP : List Int → Int
  | [] => 0
  | c :: r => ((r.length : Int) + 1) * c + twoP r
theorem moreP_is (a b : Int) (xs : List Int) (ha : 0 ≤ a ∧ a < 256) (hb : 0 ≤ b ∧ b < 256) : moreP a b xs = ((a + sumP xs) % 256, (b + xs.length * a + twoP xs) % 256) := by
  induction xs generalizing a b with
  | nil => simp [moreP, sumP, twoP]; omega
  | cons c r ih =>
    rw [moreP, ih _ _ (by omega) (by omega)]
    simp only [sumP, twoP, List.length_cons, Int.natCast_add, Int.natCast_one]
    have e1 : ((a + c) % 256 + sumP r) % 256 = (a + (c + sumP r)) % 256 := by omega
    have e2 : ((b + (a + c)) % 256 + (r.length : Int) * ((a + c) % 256) + twoP r) % 256 = (b + ((r.length : Int) + 1) * a + (((r.length : Int) + 1) * c + twoP r)) % 256 := by
      have h1 : ((a + c) % 256) = (a + c) - 256 * ((a + c) / 256) := by omega
      rw [h1]
      generalize (a + c) / 256 = u
      have h2 : (r.length : Int) * (a + c - 256 * u) = (r.length : Int) * a + (r.length : Int) * c - 256 * ((r.length : Int) * u) := by grind
      have h3 : ((r.length : Int) + 1) * a = (r.length : Int) * a + a := by grind
      have h4 : ((r.length : Int) + 1) * c = (r.length : Int) * c + c := by grind
      rw [h2, h3, h4]
      generalize (r.length : Int) * a = x
      generalize (r.length : Int) * c = y
      generalize (r.length : Int) * u = z
      omega
    rw [e1, e2]
theorem moreP_app (a b : Int) (xs ys : List Int) : moreP a b (xs ++ ys) = moreP (moreP a b xs).1 (moreP a b xs).2 ys := by
  induction xs generalizing a b with
  | nil => rfl
  | cons c r ih => simp only [List.cons_append, moreP]; exact ih _ _
theorem sumP_app (xs ys : List Int) : sumP (xs ++ ys) = sumP xs + sumP ys := by
  induction xs with
  | nil => simp [sumP]
  | cons c r ih => simp only [List.cons_append, sumP, ih]; omega
def Bytes (xs : List Int) : Prop := ∀ x ∈ xs, 0 ≤ x ∧ x ≤ 255
theorem sumP_bd (xs : List Int) (h : Bytes xs) : 0 ≤ sumP xs ∧ sumP xs ≤ 255 * xs.length := by
  induction xs with
  | nil => simp [sumP]
  | cons c r ih =>
    have h1 := h c (by simp)
    have h2 := ih (fun x hx => h x (by simp [hx]))
    simp only [sumP, List.length_cons]
    omega

/-- The second sum, counted from the front: the first number N times, the next one N - 1 times, and so on. -/
def fromP : Int → List Int → Int
  | _, [] => 0
  | N, c :: r => N * c + fromP (N - 1) r
theorem fromP_is (xs : List Int) : fromP xs.length xs = twoP xs := by
  induction xs with
  | nil => rfl
  | cons c r ih =>
    simp only [fromP, twoP, List.length_cons, Int.natCast_add, Int.natCast_one]
    rw [← ih]
    congr 2
    omega
theorem fromP_snoc (N c : Int) (xs : List Int) : fromP N (xs ++ [c]) = fromP N xs + (N - xs.length) * c := by
  induction xs generalizing N with
  | nil => simp [fromP]
  | cons x r ih =>
    simp only [List.cons_append, fromP, List.length_cons, Int.natCast_add, Int.natCast_one, ih]
    have : N - 1 - (r.length : Int) = N - ((r.length : Int) + 1) := by omega
    rw [this]; omega
theorem fromP_bd (N : Int) (xs : List Int) (h : Bytes xs) (h1 : xs.length ≤ N) (h2 : N ≤ 1000) : 0 ≤ fromP N xs ∧ fromP N xs ≤ 255000 * xs.length := by
  induction xs generalizing N with
  | nil => simp [fromP]
  | cons c r ih =>
    have hc := h c (by simp)
    simp only [List.length_cons] at h1 ⊢
    have hr := ih (N - 1) (fun x hx => h x (by simp [hx])) (by omega) (by omega)
    have hp : 0 ≤ N * c := Int.mul_nonneg (by omega) hc.1
    have hq : N * c ≤ 1000 * 255 := Int.mul_le_mul h2 hc.2 hc.1 (by omega)
    simp only [fromP]
    omega
theorem Bytes.take {xs : List Int} (h : Bytes xs) (j : Nat) : Bytes (xs.take j) := fun x hx => h x (List.mem_of_mem_take hx)
theorem Bytes.at_ {xs : List Int} (h : Bytes xs) (j : Nat) : 0 ≤ xs[j]?.getD 0 ∧ xs[j]?.getD 0 ≤ 255 := by
  rcases Nat.lt_or_ge j xs.length with hj | hj
  · have := h xs[j] (List.getElem_mem hj)
    simpa [hj] using this
  · simp [List.getElem?_eq_none hj]
theorem Bytes.app {xs ys : List Int} (h : Bytes xs) (h' : Bytes ys) : Bytes (xs ++ ys) := fun x hx => by
  rcases List.mem_append.1 hx with h1 | h1
  · exact h x h1
  · exact h' x h1

theorem fl_Of (A : Option Addr) (n cap : Nat) (xs : List Int) (w : World) (h : Row .u8 w w.heap.size A n xs) (hn : n ≤ 9223372036854775807) :
    Calls Try.prog 16 #[.slice A n cap] w fun e w' => e = .returned (.tuple #[.int .u8 (sumP xs % 256), .int .u8 (twoP xs % 256)]) ∧ Below w.heap.size w w' := by
  have H := hid (moreP_is 0 0 xs (by omega) (by omega))
  go_enter Try.func16, Try.ntmps16
  go_wp2_with (go_at_call 17; refine (fl_More _ _ _ _ _ xs _ h hn).mono ?_; rintro e w' ⟨rfl, hb⟩)
  go_ret2
  exact ⟨by rw [H.out]; simp, hb⟩

theorem fl_knows (w : World) : Calls Try.prog 15 #[] w fun e w' => e = .returned (.bool true) ∧ Below w.heap.size w w' := by
  have hr : Row .u8 (w.alloc (.cells #[.int .u8 1, .int .u8 2] 5)) (w.alloc (.cells #[.int .u8 1, .int .u8 2] 5)).heap.size (some ⟨w.heap.size, 0, none⟩) 2 [1, 2] :=
    Row.blk (Blk.new _ _ _) rfl (by simp)
  go_enter Try.func15, Try.ntmps15
  go_wp2_with (go_at_call 16; refine (fl_Of _ _ _ _ _ hr (by omega)).mono ?_; rintro e w' ⟨rfl, hb⟩)
  go_ret
  exact ⟨rfl, ((Below.refl _ _).alloc (Nat.le_refl _) _).trans (hb.mono (by simp))⟩
end Go.Proofs.Ytmimnefjeidedaa
