/- Chapter 06: the reference's look at what bytes are the seal of. -/
import Derived.Test.YtmimnefjeidedaaFletchB
namespace Go.Proofs.Ytmimnefjeidedaa
open Go.RowKit
attribute [local go_sem ↓] Go.wp_at_zero Go.wp_at_succ

set_option maxHeartbeats 2000000 in
theorem flr_Open (A : Option Addr) (m cap : Nat) (xs : List Int) (w : World) (h : Row .u8 w w.heap.size A (m + 2) xs) (hn : m ≤ 100000) (hc : m + 2 ≤ cap) (he : sealP (xs.take m) = xs) :
    Calls Try.prog 29 #[.slice A (m + 2) cap] w fun e w' => ∃ A' c', e = .returned (.tuple #[.slice A' m c', .bool true]) ∧ Row .u8 w' w'.heap.size A' m (xs.take m) ∧ Below w.heap.size w w' := by
  have h0 : Row .u8 w w.heap.size A m (xs.take m) := h.take (by omega) (fun e => by have := h.2.1 e; omega)
  obtain ⟨ad, rfl, _, c0⟩ := h.at_ (j := m) (by omega)
  obtain ⟨i0, hi, hz, hz1, hz2⟩ := info_parts info8
  have HE := hid he
  clear he
  have b1 : (m : Int) + 2 ≤ (cap : Int) := by omega
  have b2 : decide ((m : Int) < 0) = false := by simp
  have hr := fun (W : World) (hW : Below w.heap.size w W) => run_str (h.below hW) 22 9 5 cap Try.underlying22 Try.underlying5 Try.underlying9
  have HR := hid hr
  clear hr
  go_enter Try.func29, Try.ntmps29
  go_wp2
  have b3 : (0 : Int) ≤ (m : Int) := by omega
  have b4 : (m : Int) ≤ (cap : Int) := by omega
  have kx := HR.out _ (Below.refl _ w).drew
  go_region_with (go_at_call 31; refine (flr_Seal _ _ _ (xs.take m) _ (by exact h0.drew) (by omega)).mono ?_; rintro e w2 ⟨A2, c2, rfl, hr2, hc2, hb2⟩; rw [HE.out] at hr2; have hb3 := (Below.refl w.heap.size w).drew.trans hb2; have k2 := run_str hr2 22 9 5 c2 Try.underlying22 Try.underlying5 Try.underlying9; have k3 := HR.out _ hb3)
  all_goals
    have hs2 := hb3.size
    have hx2 := h0.below hb3
    clear k2 k3 kx
    go_wp2_with (first
      | (at_builtin; refine wpList_app rfl (.tmp 20) (.tmp 23) _ rfl w.heap.size 5 i0 0 1 Try.underlying22 hi hz hz1 hz2 (some ⟨w2.heap.size, 0, none⟩) 0 0 [] rfl (Own.empty .u8 w2 _ hs2) w.heap.size (some ad) m cap (xs.take m) rfl (hx2.alloc hs2 _) (by unfold maxLen; omega) (by omega) (by simp; omega) ?_; intro A4 c4 w4 ho4 hg4; simp only [Nat.zero_add, List.nil_append] at ho4; have hb4 := own_below (hb3.alloc hs2 _) (Own.empty .u8 w2 _ hs2) hg4 (by simp; omega)))
    go_ret2
    exact ⟨A4, c4, rfl, ho4.row, hb4⟩

theorem strOfNums_inj {xs ys : List Int} (hx : Bytes xs) (hy : Bytes ys) (h : (strOfNums xs).toList = (strOfNums ys).toList) : xs = ys := by
  have h1 : xs.map (fun n => UInt8.ofNat n.toNat) = ys.map (fun n => UInt8.ofNat n.toNat) := by
    rw [← strOfNums_data xs, ← strOfNums_data ys, ← ByteArray.toList_eq, ← ByteArray.toList_eq, h]
  clear h
  induction xs generalizing ys with
  | nil => cases ys with
    | nil => rfl
    | cons y r => simp at h1
  | cons x r ih => cases ys with
    | nil => simp at h1
    | cons y r' =>
      simp only [List.map_cons, List.cons.injEq] at h1
      have bx := hx x (by simp)
      have hy' := hy y (by simp)
      have e1 : x = y := by
        have := congrArg UInt8.toNat h1.1
        simp at this
        omega
      rw [e1, ih (fun z hz => hx z (by simp [hz])) (fun z hz => hy z (by simp [hz])) h1.2]
theorem sealP_bytes {xs : List Int} (h : Bytes xs) : Bytes (sealP xs) := by
  intro x hx
  rcases List.mem_append.1 hx with h1 | h1
  · exact h x h1
  · simp at h1
    rcases h1 with rfl | rfl <;> omega

set_option maxHeartbeats 2000000 in
theorem flr_Open_no (A : Option Addr) (m cap : Nat) (xs : List Int) (w : World) (h : Row .u8 w w.heap.size A (m + 2) xs) (hn : m ≤ 100000) (hc : m + 2 ≤ cap) (hx : Bytes xs) (he : ¬ sealP (xs.take m) = xs) :
    Calls Try.prog 29 #[.slice A (m + 2) cap] w fun e w' => e = .returned (.tuple #[.slice none 0 0, .bool false]) ∧ Below w.heap.size w w' := by
  have h0 : Row .u8 w w.heap.size A m (xs.take m) := h.take (by omega) (fun e => by have := h.2.1 e; omega)
  obtain ⟨ad, rfl, _, c0⟩ := h.at_ (j := m) (by omega)
  have hne : ((strOfNums (sealP (xs.take m))).toList == (strOfNums xs).toList) = false := by
    rw [beq_eq_false_iff_ne]; exact fun e => he (strOfNums_inj (sealP_bytes (hx.take m)) hx e)
  clear he
  have b1 : (m : Int) + 2 ≤ (cap : Int) := by omega
  have b2 : decide ((m : Int) < 0) = false := by simp
  have hr := fun (W : World) (hW : Below w.heap.size w W) => run_str (h.below hW) 22 9 5 cap Try.underlying22 Try.underlying5 Try.underlying9
  have HR := hid hr
  clear hr
  go_enter Try.func29, Try.ntmps29
  go_wp2
  have b3 : (0 : Int) ≤ (m : Int) := by omega
  have b4 : (m : Int) ≤ (cap : Int) := by omega
  have kx := HR.out _ (Below.refl _ w).drew
  go_region_with (go_at_call 31; refine (flr_Seal _ _ _ (xs.take m) _ (by exact h0.drew) (by omega)).mono ?_; rintro e w2 ⟨A2, c2, rfl, hr2, hc2, hb2⟩; have hb3 := (Below.refl w.heap.size w).drew.trans hb2; have k2 := run_str hr2 22 9 5 c2 Try.underlying22 Try.underlying5 Try.underlying9; have k3 := HR.out _ hb3)
  all_goals
    clear k2 k3 kx
    go_wp2
    go_ret2
    exact ⟨rfl, hb3⟩
end Go.Proofs.Ytmimnefjeidedaa
