/- Chapter 08: the walk of BitsSplits. -/
import Derived.Test.YtbhfidneijogfaaBitsM
namespace Go.Proofs.Ytbhfidneijogfaa
open Go.RowKit
set_option linter.unusedVariables false
set_option linter.unusedSimpArgs false

theorem splitP_len (u : Int) (ws : List Int) : (splitP u ws).length ≤ ws.length := by
  unfold splitP
  split
  · rw [splitF_len]; exact Nat.le_refl _
  · simp
set_option maxHeartbeats 8000000 in
theorem bitsSplits_walk (a0 : Int) (A : Option Addr) (n c : Nat) (ws : List Int) (L : Option Addr) (m d : Nat) (ls : List Int) (w : World) (w0 : (Lit.int .u32 a0).wf = true) (h : In .i64 w A n c ws) (h2 : In .u32 w L m d ls) :
    Calls Try.prog 7 #[.int .u32 a0, .slice A n c, .slice L m d] w fun e w' => e = .returned (.bool true) ∧ Below w.heap.size w w' := by
  obtain ⟨hr, hm, hc, hw⟩ := h
  obtain ⟨hr2, hm2, hc2, hw2⟩ := h2
  have i0 := bounds_u32 w0
  have hx : ∀ x ∈ ws, -9223372036854775808 ≤ x ∧ x ≤ 9223372036854775807 := fun x hx => bounds_i64 (hw x hx)
  have hx2 : ∀ x ∈ ls, 0 ≤ x ∧ x ≤ 4294967295 := fun x hx => bounds_u32 (hw2 x hx)
  have HK := hid fun w => law08_knows w
  clear w0 hw hw2
  by_cases g : 40 < n
  · have d1 : decide ((40 : Int) < n) = true := by simp; omega
    go_enter Try.func7, Try.ntmps7
    go_wp2_with fail
    refine (HK.out _).mono ?_
    rintro e w1 ⟨rfl, b1⟩
    go_wp2
    go_ret
    exact ⟨rfl, b1⟩
  have d1 : decide ((40 : Int) < n) = false := by simp; omega
  by_cases g2 : 40 < m
  · have d2 : decide ((40 : Int) < m) = true := by simp; omega
    go_enter Try.func7, Try.ntmps7
    go_wp2_with fail
    refine (HK.out _).mono ?_
    rintro e w1 ⟨rfl, b1⟩
    go_wp2
    go_ret
    exact ⟨rfl, b1⟩
  have d2 : decide ((40 : Int) < m) = false := by simp; omega
  have H1 := hid fun w h => b_Split A n c ws a0 w i0 h hx (by omega)
  have H2 := hid fun w h => r8_Split A n c ws a0 w i0 h hx (by omega)
  have H3 := hid fun w h h' => b_Join A n c ws L m d ls w h hx (by omega) h' hx2 (by omega)
  have H4 := hid fun w h h' => r8_Join A n c ws L m d ls w h hx (by omega) h' hx2 (by omega)
  have hlen := splitP_len a0 ws
  have hl1 := hr.1
  have hx40 : (splitP a0 ws).length ≤ 40 := by omega
  clear hx hx2 i0 g g2
  generalize splitP a0 ws = xs at *
  generalize okF 32 ws = B at *
  generalize joinV ws ls = V at *
  generalize joinB ws ls = C at *
  go_enter Try.func7, Try.ntmps7
  go_wp2_with fail
  refine (HK.out _).mono ?_
  rintro e w1 ⟨rfl, b1⟩
  go_wp2_with fail
  refine (H1.out _ ((hr.below b1).more b1.size)).mono ?_
  rintro e w2 ⟨A1, c1, rfl, x1, b2⟩
  replace b1 := b1.trans (b2.mono b1.size)
  go_wp2_with fail
  refine (H2.out _ ((hr.below b1).more b1.size)).mono ?_
  rintro e w3 ⟨A2, c2, rfl, x2, b3⟩
  replace b1 := b1.trans (b3.mono b1.size)
  replace x1 := (x1.below b3).more b3.size
  go_wp2_with fail
  refine (H3.out _ ((hr.below b1).more b1.size) ((hr2.below b1).more b1.size)).mono ?_
  rintro e w4 ⟨rfl, b4⟩
  replace b1 := b1.trans (b4.mono b1.size)
  replace x1 := (x1.below b4).more b4.size
  replace x2 := (x2.below b4).more b4.size
  go_wp2_with fail
  refine (H4.out _ ((hr.below b1).more b1.size) ((hr2.below b1).more b1.size)).mono ?_
  rintro e w5 ⟨rfl, b5⟩
  replace b1 := b1.trans (b5.mono b1.size)
  replace x1 := (x1.below b5).more b5.size
  replace x2 := (x2.below b5).more b5.size
  go_wp2_with fail
  refine (r8_Same A1 _ c1 xs A2 _ c2 xs _ x1 x2 (by omega) (by omega)).mono ?_
  rintro e w6 ⟨rfl, b6⟩
  replace b1 := b1.trans (b6.mono b1.size)
  have ed : decide (xs = xs) = true := by simp
  rw [ed]
  clear ed
  go_wp2
  go_ret
  exact ⟨rfl, b1⟩
end Go.Proofs.Ytbhfidneijogfaa
