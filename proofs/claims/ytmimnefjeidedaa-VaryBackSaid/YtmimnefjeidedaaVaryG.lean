/- Chapter 03: the walk of VaryTakes. -/
import Derived.Test.YtmimnefjeidedaaVaryF
import Derived.Test.YtmimnefjeidedaaVaryD
namespace Go.Proofs.Ytmimnefjeidedaa
open Go.RowKit

theorem bytes_in {xs : List Int} (h : ∀ x ∈ xs, (Lit.int .u8 x).wf = true) : ∀ x ∈ xs, 0 ≤ x ∧ x ≤ 255 := fun x hx => bounds_u8 (h x hx)

theorem varyTakes_walk (A : Option Addr) (n c : Nat) (xs : List Int) (N : Int) (w : World) (h : In .u8 w A n c xs) (hN : (Lit.int .i64 N).wf = true) :
    Calls Try.prog 8 #[.slice A n c, .int .i64 N] w fun e w' => e = .returned (.bool true) ∧ Below w.heap.size w w' := by
  obtain ⟨hr, hm, hcap, hw⟩ := h
  have hN2 := (bounds_i64 hN).2
  clear hN
  unfold maxLen at hm
  by_cases g1 : 1000 < n
  · have d1 : decide ((1000 : Int) < n) = true := by simp; omega
    go_enter Try.func8, Try.ntmps8
    go_wp2_with (go_at_call 25; refine (va_knows _).mono ?_; rintro e w' ⟨rfl, hb⟩)
    go_ret
    exact ⟨rfl, hb⟩
  have d1 : decide ((1000 : Int) < n) = false := by simp; omega
  have HB := hid (bytes_in hw)
  clear hw
  go_enter Try.func8, Try.ntmps8
  go_wp2_with fail
  refine (va_knows _).mono ?_
  rintro e w1 ⟨rfl, b1⟩
  go_wp2_with fail
  refine (va_Take A n c xs _ ((hr.below b1).more b1.size) HB.out (by omega)).mono ?_
  rintro e w' h2
  unfold Takes at h2
  obtain ⟨rfl, rfl⟩ := h2
  go_wp2_with fail
  refine (var_Take A n c xs _ ((hr.below b1).more b1.size) HB.out (by omega)).mono ?_
  rintro e w' h2
  unfold Takes at h2
  obtain ⟨rfl, rfl⟩ := h2
  generalize takeP xs = T at *
  obtain ⟨v, k, er⟩ := T
  go_wp2_with fail
  refine (va_Parse A n c xs N _ ((hr.below b1).more b1.size) HB.out (by omega) hcap hN2).mono ?_
  rintro e w2 ⟨A2, c2, rfl, r2, b2⟩
  have b2' := b1.trans (b2.mono b1.size)
  go_wp2_with fail
  refine (var_Parse A n c xs N _ ((hr.below b2').more b2'.size) HB.out (by omega) hcap hN2).mono ?_
  rintro e w3 ⟨A3, c3, rfl, r3, b3⟩
  have b3' := b2'.trans (b3.mono b2'.size)
  have r2' := (r2.below b3).more b3.size
  have hl : (parseP N xs).1.length ≤ 1000 := by have := parseP_len N xs HB.out; rw [hr.1] at this; omega
  clear b1 b2 b3 b2' r2 hr
  generalize parseP N xs = T at *
  obtain ⟨out, a, er2⟩ := T
  go_wp2_with fail
  refine (va_num _ _).mono ?_
  rintro e w' ⟨rfl, rfl⟩
  go_wp2_with fail
  refine (va_num _ _).mono ?_
  rintro e w' ⟨rfl, rfl⟩
  go_wp2_with fail
  refine (va_Same A2 out.length c2 out A3 out.length c3 out _ r2' r3 (by simpa using Nat.le_trans hl (by omega)) rfl).mono ?_
  rintro e w4 ⟨rfl, b4⟩
  go_wp2_with fail
  refine (va_num _ _).mono ?_
  rintro e w' ⟨rfl, rfl⟩
  go_wp2_with fail
  refine (va_num _ _).mono ?_
  rintro e w' ⟨rfl, rfl⟩
  go_wp2
  go_ret
  exact ⟨rfl, b3'.trans (b4.mono b3'.size)⟩
end Go.Proofs.Ytmimnefjeidedaa
