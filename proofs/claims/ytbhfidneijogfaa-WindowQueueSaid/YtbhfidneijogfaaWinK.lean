/- Chapter 39: the document's answer, what goes. -/
import Derived.Test.YtbhfidneijogfaaWinJ
namespace Go.Proofs.Ytbhfidneijogfaa
open Go.RowKit
set_option linter.unusedVariables false
set_option linter.unusedSimpArgs false

set_option maxRecDepth 20000 in
/-- A slice of what is known from K on. -/
theorem r_Drop_at (K n : Nat) (k : Int) (Q : Option Addr) (cq : Nat) (q : List Int) (w : World) (hq : Row .u8 w w.heap.size Q n q) (hn : n ≤ 1024) (hcq : n ≤ cq) (hnil : Q = none → cq = 0) (hK : K = min k.toNat n) :
    Calls Try.prog 21 #[.slice Q n cq, .int .i64 k] w fun e w' => ∃ A' c', e = .returned (.tuple #[.slice A' (n - K) c', .int .i64 (K : Nat)]) ∧ Row .u8 w' w'.heap.size A' (n - K) (q.drop K) ∧ n - K ≤ c' ∧ ((A' = none → c' = 0) ∧ ∀ ad, A' = some ad → w.heap.size ≤ ad.block) ∧ Below w.heap.size w w' := by
  obtain ⟨i0, hi, hz, hz1, hz2⟩ := winfo_parts winfo8
  have n0 : (0 : Int) ≤ (n : Int) := by omega
  rcases Q with _ | ad
  · obtain rfl := hnil rfl
    obtain rfl := hq.2.1 rfl
    obtain rfl := List.eq_nil_of_length_eq_zero hq.1
    obtain rfl : K = 0 := by omega
    clear hnil hK
    rcases (show k < 0 ∨ k = 0 ∨ 0 < k by omega) with h | rfl | h
    · go_enter Try.func21, Try.ntmps21
      go_wp2_with (at_builtin; refine wpList_app rfl (.tmp 12) (.tmp 15) _ rfl w.heap.size 5 i0 0 1 Try.underlying27 hi hz hz1 hz2 (some ⟨w.heap.size, 0, none⟩) 0 0 [] rfl (Own.empty .u8 w _ (Nat.le_refl _)) w.heap.size none 0 0 [] rfl Row.none_ (by unfold maxLen; omega) (by omega) (by simp) ?_; intro A2 c2 w2 ho2 hg2; have be2 := own_below ((Below.refl _ _).alloc (Nat.le_refl _) _) (Own.empty .u8 w _ (Nat.le_refl _)) hg2 (by simp); simp only [Nat.zero_add, List.nil_append] at ho2 ⊢)
      go_ret2
      exact ⟨A2, c2, rfl, ho2.row, ho2.cap_, ho2.nil_cap, be2⟩
    · go_enter Try.func21, Try.ntmps21
      go_wp2_with (at_builtin; refine wpList_app rfl (.tmp 12) (.tmp 15) _ rfl w.heap.size 5 i0 0 1 Try.underlying27 hi hz hz1 hz2 (some ⟨w.heap.size, 0, none⟩) 0 0 [] rfl (Own.empty .u8 w _ (Nat.le_refl _)) w.heap.size none 0 0 [] rfl Row.none_ (by unfold maxLen; omega) (by omega) (by simp) ?_; intro A2 c2 w2 ho2 hg2; have be2 := own_below ((Below.refl _ _).alloc (Nat.le_refl _) _) (Own.empty .u8 w _ (Nat.le_refl _)) hg2 (by simp); simp only [Nat.zero_add, List.nil_append] at ho2 ⊢)
      go_ret2
      exact ⟨A2, c2, rfl, ho2.row, ho2.cap_, ho2.nil_cap, be2⟩
    · go_enter Try.func21, Try.ntmps21
      go_wp2_with (at_builtin; refine wpList_app rfl (.tmp 12) (.tmp 15) _ rfl w.heap.size 5 i0 0 1 Try.underlying27 hi hz hz1 hz2 (some ⟨w.heap.size, 0, none⟩) 0 0 [] rfl (Own.empty .u8 w _ (Nat.le_refl _)) w.heap.size none 0 0 [] rfl Row.none_ (by unfold maxLen; omega) (by omega) (by simp) ?_; intro A2 c2 w2 ho2 hg2; have be2 := own_below ((Below.refl _ _).alloc (Nat.le_refl _) _) (Own.empty .u8 w _ (Nat.le_refl _)) hg2 (by simp); simp only [Nat.zero_add, List.nil_append] at ho2 ⊢)
      go_ret2
      exact ⟨A2, c2, rfl, ho2.row, ho2.cap_, ho2.nil_cap, be2⟩
  · clear hnil
    have hqa := hq.alloc (Nat.le_refl _) (.cells #[] 5)
    rcases (show k < 0 ∨ k = 0 ∨ (0 < k ∧ k ≤ n) ∨ (n : Int) < k by omega) with h | rfl | ⟨h, h'⟩ | h
    · obtain rfl : K = 0 := by omega
      clear hK
      go_enter Try.func21, Try.ntmps21
      go_wp2_with (at_builtin; refine wpList_app rfl (.tmp 12) (.tmp 15) _ rfl w.heap.size 5 i0 0 1 Try.underlying27 hi hz hz1 hz2 (some ⟨w.heap.size, 0, none⟩) 0 0 [] rfl (Own.empty .u8 w _ (Nat.le_refl _)) w.heap.size (some ad) n cq q rfl hqa (by unfold maxLen; omega) (by omega) (by simp) ?_; intro A2 c2 w2 ho2 hg2; have be2 := own_below ((Below.refl _ _).alloc (Nat.le_refl _) _) (Own.empty .u8 w _ (Nat.le_refl _)) hg2 (by simp); simp only [Nat.zero_add, List.nil_append] at ho2 ⊢)
      go_ret2
      exact ⟨A2, c2, rfl, ho2.row, ho2.cap_, ho2.nil_cap, be2⟩
    · obtain rfl : K = 0 := by omega
      clear hK
      go_enter Try.func21, Try.ntmps21
      go_wp2_with (at_builtin; refine wpList_app rfl (.tmp 12) (.tmp 15) _ rfl w.heap.size 5 i0 0 1 Try.underlying27 hi hz hz1 hz2 (some ⟨w.heap.size, 0, none⟩) 0 0 [] rfl (Own.empty .u8 w _ (Nat.le_refl _)) w.heap.size (some ad) n cq q rfl hqa (by unfold maxLen; omega) (by omega) (by simp) ?_; intro A2 c2 w2 ho2 hg2; have be2 := own_below ((Below.refl _ _).alloc (Nat.le_refl _) _) (Own.empty .u8 w _ (Nat.le_refl _)) hg2 (by simp); simp only [Nat.zero_add, List.nil_append] at ho2 ⊢)
      go_ret2
      exact ⟨A2, c2, rfl, ho2.row, ho2.cap_, ho2.nil_cap, be2⟩
    · obtain rfl : k = (K : Int) := by omega
      have y1 : K ≤ n := by omega
      have y2 : (K : Int) ≤ (cq : Int) := by omega
      have y0 : (0 : Int) ≤ (K : Int) := by omega
      have y4 : 0 < K := by omega
      clear hK h
      go_enter Try.func21, Try.ntmps21
      go_wp2_with (at_builtin; have hcut := hqa.cut cq K (by omega) hcq; generalize (if cq = K then some ad else some (ad.add K)) = A1 at hcut ⊢; refine wpList_app rfl (.tmp 12) (.tmp 15) _ rfl w.heap.size 5 i0 0 1 Try.underlying27 hi hz hz1 hz2 (some ⟨w.heap.size, 0, none⟩) 0 0 [] rfl (Own.empty .u8 w _ (Nat.le_refl _)) w.heap.size A1 (n - K) (cq - K) (q.drop K) rfl hcut (by unfold maxLen; omega) (by omega) (by simp) ?_; intro A2 c2 w2 ho2 hg2; have be2 := own_below ((Below.refl _ _).alloc (Nat.le_refl _) _) (Own.empty .u8 w _ (Nat.le_refl _)) hg2 (by simp); simp only [Nat.zero_add, List.nil_append] at ho2 ⊢)
      go_ret2
      exact ⟨A2, c2, rfl, ho2.row, ho2.cap_, ho2.nil_cap, be2⟩
    · obtain rfl : K = n := by omega
      have y2 : (K : Int) ≤ (cq : Int) := by omega
      have y3 : ¬ (k ≤ (K : Int)) := by omega
      clear hK
      rcases Nat.eq_zero_or_pos K with y5 | y5
      · obtain rfl := y5
        obtain rfl := List.eq_nil_of_length_eq_zero hq.1
        go_enter Try.func21, Try.ntmps21
        go_wp2_with (at_builtin; refine wpList_app rfl (.tmp 12) (.tmp 15) _ rfl w.heap.size 5 i0 0 1 Try.underlying27 hi hz hz1 hz2 (some ⟨w.heap.size, 0, none⟩) 0 0 [] rfl (Own.empty .u8 w _ (Nat.le_refl _)) w.heap.size (some ad) 0 cq [] rfl hqa (by unfold maxLen; omega) (by omega) (by simp) ?_; intro A2 c2 w2 ho2 hg2; have be2 := own_below ((Below.refl _ _).alloc (Nat.le_refl _) _) (Own.empty .u8 w _ (Nat.le_refl _)) hg2 (by simp); simp only [Nat.zero_add, List.nil_append] at ho2 ⊢)
        go_ret2
        exact ⟨A2, c2, rfl, (by simpa using ho2.row), ho2.nil_cap, be2⟩
      · go_enter Try.func21, Try.ntmps21
        go_wp2_with (at_builtin; have hcut := hqa.cut cq K (by omega) hcq; rw [Nat.sub_self] at hcut; generalize (if cq = K then some ad else some (ad.add K)) = A1 at hcut ⊢; refine wpList_app rfl (.tmp 12) (.tmp 15) _ rfl w.heap.size 5 i0 0 1 Try.underlying27 hi hz hz1 hz2 (some ⟨w.heap.size, 0, none⟩) 0 0 [] rfl (Own.empty .u8 w _ (Nat.le_refl _)) w.heap.size A1 0 (cq - K) (q.drop K) rfl hcut (by unfold maxLen; omega) (by omega) (by simp) ?_; intro A2 c2 w2 ho2 hg2; have be2 := own_below ((Below.refl _ _).alloc (Nat.le_refl _) _) (Own.empty .u8 w _ (Nat.le_refl _)) hg2 (by simp); simp only [Nat.zero_add, List.nil_append] at ho2 ⊢)
        go_ret2

        exact ⟨A2, c2, rfl, (by simpa using ho2.row), ho2.nil_cap, be2⟩
theorem r_Drop (n : Nat) (k : Int) (Q : Option Addr) (cq : Nat) (q : List Int) (w : World) (hq : Row .u8 w w.heap.size Q n q) (hn : n ≤ 1024) (hcq : n ≤ cq) (hnil : Q = none → cq = 0) :
    Calls Try.prog 21 #[.slice Q n cq, .int .i64 k] w fun e w' => ∃ A' c', e = .returned (.tuple #[.slice A' (n - min k.toNat n) c', .int .i64 (min k.toNat n : Nat)]) ∧ Row .u8 w' w'.heap.size A' (n - min k.toNat n) (q.drop (min k.toNat n)) ∧ n - min k.toNat n ≤ c' ∧ ((A' = none → c' = 0) ∧ ∀ ad, A' = some ad → w.heap.size ≤ ad.block) ∧ Below w.heap.size w w' :=
  r_Drop_at _ n k Q cq q w hq hn hcq hnil rfl
end Go.Proofs.Ytbhfidneijogfaa
