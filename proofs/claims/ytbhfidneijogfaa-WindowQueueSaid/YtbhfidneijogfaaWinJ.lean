/- Chapter 39: the document's answer. -/
import Derived.Test.YtbhfidneijogfaaWinI
namespace Go.Proofs.Ytbhfidneijogfaa
open Go.RowKit
set_option linter.unusedVariables false
set_option linter.unusedSimpArgs false

theorem Own.nil_cap {k : IntKind} {w : World} {base : Nat} {e : TypeId} {A : Option Addr} {n c : Nat} {ys : List Int} (h : Own k w base e A n c ys) : (A = none → c = 0) ∧ ∀ ad, A = some ad → base ≤ ad.block := by
  rcases h.form with ⟨h0, _, h1⟩ | ⟨g, h1, h2, _⟩
  · exact ⟨fun _ => h1, fun ad e => by rw [h0] at e; cases e⟩
  · refine ⟨fun e => (by rw [h1] at e; cases e), fun ad e => ?_⟩
    rw [h1] at e; cases e; exact h2
set_option maxHeartbeats 4000000 in
theorem r_Put (Q A : Option Addr) (n cq m c : Nat) (q xs : List Int) (w : World) (hq : Row .u8 w w.heap.size Q n q) (hx : Row .u8 w w.heap.size A m xs) (hn : n ≤ 1024) (hmc : m ≤ c) (hml : m ≤ maxLen) :
    Calls Try.prog 22 #[.slice Q n cq, .slice A m c] w fun e w' => ∃ A' c', e = .returned (.tuple #[.slice A' (n + min m (1024 - n)) c', .int .i64 (min m (1024 - n) : Nat)]) ∧ Row .u8 w' w'.heap.size A' (n + min m (1024 - n)) (q ++ xs.take (min m (1024 - n))) ∧ n + min m (1024 - n) ≤ c' ∧ ((A' = none → c' = 0) ∧ ∀ ad, A' = some ad → w.heap.size ≤ ad.block) ∧ Below w.heap.size w w' := by
  obtain ⟨i0, hi, hz, hz1, hz2⟩ := winfo_parts winfo8
  have hmin : min m (1024 - n) = m ∧ (m : Int) ≤ 1024 - (n : Int) ∨ 1024 - (n : Int) = ((min m (1024 - n) : Nat) : Int) ∧ ((min m (1024 - n) : Nat) : Int) < (m : Int) := by omega
  have hKm : min m (1024 - n) ≤ m := by omega
  have hKN : n + min m (1024 - n) ≤ 1024 := by omega
  generalize min m (1024 - n) = K at *
  have k1 : (0 : Int) ≤ (K : Int) := by omega
  have k3 : (K : Int) ≤ (c : Int) := by omega
  rcases hmin with ⟨qe, d1⟩ | ⟨qe, d1⟩
  · subst qe
    have u1 : IntKind.i64.wrap (1024 - (n : Int)) = 1024 - (n : Int) := IntWalk.i64_in _ (by omega)
    go_enter Try.func22, Try.ntmps22
    go_wp2
    refine wp_region_noPanic ?_
    refine wp_region_held_drew (S := (fun _ : World => True)) (by kernel_rfl) trivial (fun hHeld => ?_)
    refine (show wpAnyH _ _ _ _ _ 10 _ _ _ from ?_)
    try (simp only [Act.put, List.setIfInBounds_toArray, List.set_cons_zero, List.set_cons_succ])
    have hq1 := hq.drew
    have hx1 := hx.drew
    have be1 : Below w.heap.size w w.drew := (Below.refl _ w).drewN' 1
    generalize w.drew = W1 at *
    refine tk 1 hHeld ?_
    refine tk 3 hHeld ?_
    refine tk 4 hHeld ?_
    refine tk 5 hHeld ?_
    refine tk 7 hHeld ?_
    refine rd1 0 (fun X hX => ?_)
    go_simp
    try go_wp2_with fail
    refine hX.out _ _ trivial (fun hHeld => ?_)
    clear hX X
    try (simp only [Act.put, List.setIfInBounds_toArray, List.set_cons_zero, List.set_cons_succ])
    refine rd1 2 (fun X hX => ?_)
    rw [if_pos (by kernel_rfl)]
    have be2 := be1.alloc be1.size (.cells #[] 5)
    refine wp_app (.tmp 13) (.tmp 14) _ rfl w.heap.size 5 i0 0 1 Try.underlying27 hi hz hz1 hz2 (some ⟨W1.heap.size, 0, none⟩) 0 0 [] rfl (Own.empty .u8 W1 _ be1.size) w.heap.size Q n cq q rfl (hq1.alloc be1.size _) (by unfold maxLen; omega) (by omega) be2.size ?_
    intro A2 c2 W2 ho2 hg2
    have be3 := own_below be2 (Own.empty .u8 W1 _ be1.size) hg2 be2.size
    simp only [Nat.zero_add, List.nil_append] at ho2 ⊢
    clear hg2 be2
    refine hX.out _ _ trivial (fun hHeld => ?_)
    clear hX X
    try (simp only [Act.put, List.setIfInBounds_toArray, List.set_cons_zero, List.set_cons_succ])
    refine rd1 6 (fun X hX => ?_)
    rw [if_pos (by kernel_rfl)]
    have hx3 : Row .u8 W2 w.heap.size A K (xs.take K) := (hx.below be3).take hKm (fun e => by have := hx.2.1 e; omega)
    refine wp_app (.tmp 15) (.tmp 18) _ rfl w.heap.size 5 i0 0 1 Try.underlying27 hi hz hz1 hz2 A2 n c2 q rfl ho2 w.heap.size A K c (xs.take K) rfl hx3 (by unfold maxLen; omega) (by omega) be3.size ?_
    intro A3 c3 W3 ho3 hg3
    have be4 := own_below be3 ho2 hg3 be3.size
    clear hg3
    refine hX.out _ _ trivial (fun hHeld => ?_)
    clear hX X
    try (simp only [Act.put, List.setIfInBounds_toArray, List.set_cons_zero, List.set_cons_succ])
    refine tk 8 hHeld ?_
    refine tk 9 hHeld ?_
    refine wpAnyH_done ?hr1 ?hq1 _
    case hr1 => kernel_rfl
    refine NoPanic.normal ?_
    clear hHeld
    go_wp2
    go_ret2
    exact ⟨A3, c3, rfl, ho3.row, ho3.cap_, ho3.nil_cap, be4⟩
  · have u1 : IntKind.i64.wrap (1024 - (n : Int)) = (K : Int) := by rw [qe]; exact IntWalk.i64_in _ (by omega)
    have u2 : IntKind.i64.wrap (K : Int) = (K : Int) := IntWalk.i64_in _ (by omega)
    clear qe
    go_enter Try.func22, Try.ntmps22
    go_wp2
    refine wp_region_noPanic ?_
    refine wp_region_held_drew (S := (fun _ : World => True)) (by kernel_rfl) trivial (fun hHeld => ?_)
    refine (show wpAnyH _ _ _ _ _ 10 _ _ _ from ?_)
    try (simp only [Act.put, List.setIfInBounds_toArray, List.set_cons_zero, List.set_cons_succ])
    have hq1 := hq.drew
    have hx1 := hx.drew
    have be1 : Below w.heap.size w w.drew := (Below.refl _ w).drewN' 1
    generalize w.drew = W1 at *
    refine tk 1 hHeld ?_
    refine tk 3 hHeld ?_
    refine tk 4 hHeld ?_
    refine tk 5 hHeld ?_
    refine tk 7 hHeld ?_
    refine rd1 0 (fun X hX => ?_)
    go_simp
    try go_wp2_with fail
    refine hX.out _ _ trivial (fun hHeld => ?_)
    clear hX X
    try (simp only [Act.put, List.setIfInBounds_toArray, List.set_cons_zero, List.set_cons_succ])
    refine rd1 2 (fun X hX => ?_)
    rw [if_pos (by kernel_rfl)]
    have be2 := be1.alloc be1.size (.cells #[] 5)
    refine wp_app (.tmp 13) (.tmp 14) _ rfl w.heap.size 5 i0 0 1 Try.underlying27 hi hz hz1 hz2 (some ⟨W1.heap.size, 0, none⟩) 0 0 [] rfl (Own.empty .u8 W1 _ be1.size) w.heap.size Q n cq q rfl (hq1.alloc be1.size _) (by unfold maxLen; omega) (by omega) be2.size ?_
    intro A2 c2 W2 ho2 hg2
    have be3 := own_below be2 (Own.empty .u8 W1 _ be1.size) hg2 be2.size
    simp only [Nat.zero_add, List.nil_append] at ho2 ⊢
    clear hg2 be2
    refine hX.out _ _ trivial (fun hHeld => ?_)
    clear hX X
    try (simp only [Act.put, List.setIfInBounds_toArray, List.set_cons_zero, List.set_cons_succ])
    refine rd1 6 (fun X hX => ?_)
    rw [if_pos (by kernel_rfl)]
    have hx3 : Row .u8 W2 w.heap.size A K (xs.take K) := (hx.below be3).take hKm (fun e => by have := hx.2.1 e; omega)
    refine wp_app (.tmp 15) (.tmp 18) _ rfl w.heap.size 5 i0 0 1 Try.underlying27 hi hz hz1 hz2 A2 n c2 q rfl ho2 w.heap.size A K c (xs.take K) rfl hx3 (by unfold maxLen; omega) (by omega) be3.size ?_
    intro A3 c3 W3 ho3 hg3
    have be4 := own_below be3 ho2 hg3 be3.size
    clear hg3
    refine hX.out _ _ trivial (fun hHeld => ?_)
    clear hX X
    try (simp only [Act.put, List.setIfInBounds_toArray, List.set_cons_zero, List.set_cons_succ])
    refine tk 8 hHeld ?_
    refine tk 9 hHeld ?_
    refine wpAnyH_done ?hr2 ?hq2 _
    case hr2 => kernel_rfl
    refine NoPanic.normal ?_
    clear hHeld
    go_wp2
    go_ret2
    exact ⟨A3, c3, rfl, ho3.row, ho3.cap_, ho3.nil_cap, be4⟩
end Go.Proofs.Ytbhfidneijogfaa
