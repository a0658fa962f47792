/- Chapter 39: a slice of operations, and whether they are few. -/
import Derived.Test.YtbhfidneijogfaaWinM
namespace Go.Proofs.Ytbhfidneijogfaa
open Go.RowKit
set_option linter.unusedVariables false
set_option linter.unusedSimpArgs false

theorem add_fld (ad : Addr) (i k : Nat) : ad.add (i + (k + 1)) = { block := (ad.add i).block, off := (ad.add i).off + (k + 1) } := by
  rw [← Nat.add_assoc, add_succ, add_block]
  unfold Addr.add
  split
  · next h => subst h; simp
  · simp [Nat.add_assoc]
def OpsIn (w : World) (B : Nat) (A : Option Addr) (n : Nat) (dr : Nat → Bool) (X : Nat → Option Addr) (sm sc : Nat → Nat) (xs : Nat → List Int) (cn : Nat → Int) : Prop :=
  (A = none → n = 0) ∧ ∀ ad, A = some ad → ∀ j, j < n → ad.block < B ∧ w.cell? (ad.add (j * 3)) = some (.bool (dr j)) ∧ w.cell? (ad.add (j * 3 + 1)) = some (.slice (X j) (sm j) (sc j)) ∧ w.cell? (ad.add (j * 3 + 2)) = some (.int .i64 (cn j)) ∧
    Row .u8 w B (X j) (sm j) (xs j) ∧ sm j ≤ sc j ∧ sm j ≤ maxLen ∧ -9223372036854775808 ≤ cn j ∧ cn j ≤ 9223372036854775807
section
variable {w w' : World} {B : Nat} {A : Option Addr} {n : Nat} {dr : Nat → Bool} {X : Nat → Option Addr} {sm sc : Nat → Nat} {xs : Nat → List Int} {cn : Nat → Int}
theorem OpsIn.below (h : OpsIn w B A n dr X sm sc xs cn) (hb : Below B w w') : OpsIn w' B A n dr X sm sc xs cn := by
  refine ⟨h.1, fun ad e j hj => ?_⟩
  obtain ⟨h1, h2, h3, h4, h5, h6⟩ := h.2 ad e j hj
  have q : ∀ i, w'.cell? (ad.add i) = w.cell? (ad.add i) := fun i => hb.cell (by rw [add_block]; exact h1)
  exact ⟨h1, by rw [q]; exact h2, by rw [q]; exact h3, by rw [q]; exact h4, h5.below hb, h6⟩
theorem OpsIn.at_ (h : OpsIn w B A n dr X sm sc xs cn) {j : Nat} (hj : j < n) : ∃ ad, A = some ad ∧ ad.block < B ∧ w.cell? (ad.add (j * 3)) = some (.bool (dr j)) ∧ w.cell? { block := (ad.add (j * 3)).block, off := (ad.add (j * 3)).off + 1 } = some (.slice (X j) (sm j) (sc j)) ∧ w.cell? { block := (ad.add (j * 3)).block, off := (ad.add (j * 3)).off + 2 } = some (.int .i64 (cn j)) ∧
    Row .u8 w B (X j) (sm j) (xs j) ∧ sm j ≤ sc j ∧ sm j ≤ maxLen ∧ -9223372036854775808 ≤ cn j ∧ cn j ≤ 9223372036854775807 := by
  rcases A with _ | ad
  · have := h.1 rfl; omega
  · obtain ⟨h1, h2, h3, h4, h5⟩ := h.2 ad rfl j hj
    rw [add_fld ad (j * 3) 0] at h3
    rw [add_fld ad (j * 3) 1] at h4
    exact ⟨ad, rfl, h1, h2, h3, h4, h5⟩
end
def fewB (n : Nat) (sm : Nat → Nat) : Bool := decide (n ≤ 60 ∧ ∀ j, j < n → sm j ≤ 2000)

theorem l_few (A : Option Addr) (n c : Nat) (B : Nat) (dr : Nat → Bool) (X : Nat → Option Addr) (sm sc : Nat → Nat) (xs : Nat → List Int) (cn : Nat → Int) (w : World) (h : OpsIn w B A n dr X sm sc xs cn) :
    Calls Try.prog 13 #[.slice A n c] w fun e w' => e = .returned (.bool (fewB n sm)) ∧ w = w' := by
  by_cases hn : 60 < n
  · have HF : Hid (fewB n sm = false) := hid (by simp only [fewB, decide_eq_false_iff_not]; omega)
    have hn' : (60 : Int) < (n : Int) := by omega
    clear h
    go_enter Try.func13, Try.ntmps13
    go_wp2
    go_ret
    exact ⟨by rw [HF.out]; rfl, rfl⟩
  have hn' : ¬ ((60 : Int) < (n : Int)) := by omega
  go_enter Try.func13, Try.ntmps13
  go_wp2
  go_loop [3] (fun i => ∃ (j : Nat), j ≤ n ∧ i = .int .i64 j ∧ Hid (∀ k, k < j → sm k ≤ 2000)) (fun i => n - (intOf i).toNat)
  case atStart => exact ⟨0, by omega, rfl, fun k hk => by omega⟩
  case round =>
    obtain ⟨j, hj, rfl, hok⟩ := hrel
    by_cases hlt : j < n
    · obtain ⟨ad, rfl, hab, c0, c1, c2, hr, hsc, hml, _⟩ := h.at_ hlt
      have hlt' : (j : Int) < (n : Int) := by omega
      have ej : IntKind.i64.wrap ((j : Int) + 1) = ((j + 1 : Nat) : Int) := (IntWalk.i64_in _ (by omega)).trans (by omega)
      have mj : n - (j + 1) < n - j := by omega
      have j0 : (0 : Int) ≤ (j : Int) := by omega
      by_cases hb : 2000 < sm j
      · have HF : Hid (fewB n sm = false) := hid (by
          simp only [fewB, decide_eq_false_iff_not]
          rintro ⟨_, h2⟩
          have := h2 j hlt
          omega)
        have hb' : (2000 : Int) < (sm j : Int) := by omega
        clear h hr
        go_wp2
        go_ret
        exact ⟨by rw [HF.out]; rfl, rfl⟩
      · have hb' : ¬ ((2000 : Int) < (sm j : Int)) := by omega
        have HO : Hid (∀ k, k < j + 1 → sm k ≤ 2000) := hid (by
          intro k hk
          rcases Nat.lt_or_ge k j with h1 | h1
          · exact hok.out k h1
          · obtain rfl : k = j := by omega
            omega)
        clear h hr
        go_wp2
        go_round
        case rel => exact ⟨j + 1, by omega, rfl, HO⟩
        case measure => simpa [intOf] using mj
    · obtain rfl : j = n := by omega
      have HF : Hid (fewB j sm = true) := hid (by
        simp only [fewB, decide_eq_true_eq]
        exact ⟨by omega, hok.out⟩)
      clear h
      go_wp2
      go_ret
      exact ⟨by rw [HF.out]; rfl, rfl⟩
end Go.Proofs.Ytbhfidneijogfaa
