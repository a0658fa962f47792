/- Chapter 39: the first ones go. -/
import Derived.Test.YtbhfidneijogfaaWinB
namespace Go.Proofs.Ytbhfidneijogfaa
open Go.RowKit
set_option linter.unusedVariables false
set_option linter.unusedSimpArgs false

theorem winC_place (md : Bool) (bs : List Int) (p n p' : Int) (h : bs.length = 1024) : (winC md bs p n).setIfInBounds 1025 (.int .i64 p') = winC md bs p' n := by
  unfold winC
  rw [List.setIfInBounds_toArray]
  congr 1
  rw [show (1025 : Nat) = 1024 + 1 from rfl, List.set_cons_succ, List.set_append_right _ _ (by simp [h])]
  simp [h]
theorem winC_count (md : Bool) (bs : List Int) (p n n' : Int) (h : bs.length = 1024) : (winC md bs p n).setIfInBounds 1026 (.int .i64 n') = winC md bs p n' := by
  unfold winC
  rw [List.setIfInBounds_toArray]
  congr 1
  rw [show (1026 : Nat) = 1025 + 1 from rfl, List.set_cons_succ, List.set_append_right _ _ (by simp [h])]
  simp [h]
theorem Win.frozen {w : World} {g : Nat} {md : Bool} {bs : List Int} {p n : Int} (h : Win w g md bs p n) (i : Nat) : w.frozen? ⟨g, i, none⟩ = false := h.1.frozen i
theorem Win.setPlace {w : World} {g : Nat} {md : Bool} {bs : List Int} {p n : Int} (h : Win w g md bs p n) (p' : Int) : Win (w.setCell ⟨g, 1025, none⟩ (.int .i64 p')) g md bs p' n := ⟨by have := h.1.set_ 1025 (.int .i64 p'); rwa [winC_place md bs p n p' h.2] at this, h.2⟩
theorem Win.setCount {w : World} {g : Nat} {md : Bool} {bs : List Int} {p n : Int} (h : Win w g md bs p n) (n' : Int) : Win (w.setCell ⟨g, 1026, none⟩ (.int .i64 n')) g md bs p n' := ⟨by have := h.1.set_ 1026 (.int .i64 n'); rwa [winC_count md bs p n n' h.2] at this, h.2⟩

/-- How many go. -/
def goP (md : Bool) (n k : Int) : Int := max 0 (min k (cntP md n))
set_option maxHeartbeats 4000000 in
theorem w_Drop (g : Nat) (md : Bool) (bs : List Int) (p n k : Int) (w : World) (h : Win w g md bs p n) (hp : 0 ≤ p ∧ p < 1024) (hn : 0 ≤ n ∧ n ≤ 1024) :
    Calls Try.prog 17 #[.pointer (some ⟨g, 0, none⟩), .int .i64 k] w fun e w' => e = .returned (.int .i64 (goP md n k)) ∧ w.grownBy w' (some g) ∧
      (goP md n k = 0 ∧ Win w' g md bs p n ∨ 0 < goP md n k ∧ goP md n k ≤ n ∧ Win w' g md bs ((p + goP md n k) % 1024) (n - goP md n k)) := by
  have HL := hid (w_Len g md bs p n w h)
  have HG : Hid (goP md n k = max 0 (min k (cntP md n))) := rfl
  have hc : 0 ≤ cntP md n ∧ cntP md n ≤ n := by unfold cntP; split <;> omega
  generalize goP md n k = M at *
  generalize cntP md n = L at *
  rcases (show k ≤ 0 ∨ (0 < k ∧ k ≤ L) ∨ (L < k ∧ L = 0) ∨ (L < k ∧ 0 < L) by omega) with q | ⟨q, q'⟩ | ⟨q, rfl⟩ | ⟨q, q'⟩
  · have hM : Hid (M = 0) := hid (by rw [HG.out]; omega)
    clear HG
    go_enter Try.func17, Try.ntmps17
    go_wp2_with fail
    refine (HL.out).mono ?_
    rintro e w' ⟨rfl, rfl⟩
    go_wp2
    go_ret
    exact ⟨by rw [hM.out]; rfl, World.grownBy.refl _ _, .inl ⟨hM.out, h⟩⟩
  · have hM : Hid (M = k) := hid (by rw [HG.out]; omega)
    have c1 := h.place
    have z1 := h.frozen 1025
    have u1 : IntKind.i64.wrap (p + k) = p + k := IntWalk.i64_in _ (by omega)
    have k1 : (p + k).tmod 1024 = (p + k) % 1024 := Int.tmod_eq_emod_of_nonneg (by omega)
    have u2 : IntKind.i64.wrap ((p + k) % 1024) = (p + k) % 1024 := IntWalk.i64_in _ (by omega)
    have h2 := h.setPlace ((p + k) % 1024)
    have c2 := h2.count
    have z2 := h2.frozen 1026
    have u3 : IntKind.i64.wrap (n - k) = n - k := IntWalk.i64_in _ (by omega)
    have h3 := h2.setCount (n - k)
    have hg : w.grownBy ((w.setCell ⟨g, 1025, none⟩ (.int .i64 ((p + k) % 1024))).setCell ⟨g, 1026, none⟩ (.int .i64 (n - k))) (some g) := only_set (only_set (World.grownBy.refl _ _) 1025 _) 1026 _
    have hF : k ≤ n := by omega
    clear HG
    go_enter Try.func17, Try.ntmps17
    go_wp2_with fail
    refine (HL.out).mono ?_
    rintro e w' ⟨rfl, rfl⟩
    go_wp2
    go_ret
    exact ⟨by rw [hM.out]; rfl, hg, .inr ⟨by rw [hM.out]; omega, by rw [hM.out]; exact hF, by rw [hM.out]; exact h3⟩⟩
  · have hM : Hid (M = 0) := hid (by rw [HG.out]; omega)
    clear HG
    go_enter Try.func17, Try.ntmps17
    go_wp2_with fail
    refine (HL.out).mono ?_
    rintro e w' ⟨rfl, rfl⟩
    go_wp2
    go_ret
    exact ⟨by rw [hM.out]; rfl, World.grownBy.refl _ _, .inl ⟨hM.out, h⟩⟩
  · have hM : Hid (M = L) := hid (by rw [HG.out]; omega)
    have c1 := h.place
    have z1 := h.frozen 1025
    have u1 : IntKind.i64.wrap (p + L) = p + L := IntWalk.i64_in _ (by omega)
    have k1 : (p + L).tmod 1024 = (p + L) % 1024 := Int.tmod_eq_emod_of_nonneg (by omega)
    have u2 : IntKind.i64.wrap ((p + L) % 1024) = (p + L) % 1024 := IntWalk.i64_in _ (by omega)
    have h2 := h.setPlace ((p + L) % 1024)
    have c2 := h2.count
    have z2 := h2.frozen 1026
    have u3 : IntKind.i64.wrap (n - L) = n - L := IntWalk.i64_in _ (by omega)
    have h3 := h2.setCount (n - L)
    have hg : w.grownBy ((w.setCell ⟨g, 1025, none⟩ (.int .i64 ((p + L) % 1024))).setCell ⟨g, 1026, none⟩ (.int .i64 (n - L))) (some g) := only_set (only_set (World.grownBy.refl _ _) 1025 _) 1026 _
    have hF : L ≤ n := by omega
    clear HG
    go_enter Try.func17, Try.ntmps17
    go_wp2_with fail
    refine (HL.out).mono ?_
    rintro e w' ⟨rfl, rfl⟩
    go_wp2
    go_ret
    exact ⟨by rw [hM.out]; rfl, hg, .inr ⟨by rw [hM.out]; omega, by rw [hM.out]; exact hF, by rw [hM.out]; exact h3⟩⟩
end Go.Proofs.Ytbhfidneijogfaa
