/- Chapter 39: what is there. -/
import Derived.Test.YtbhfidneijogfaaWinG
import Derived.BigQuiet
import Derived.Deep.QuietTactic
namespace Go.Proofs.Ytbhfidneijogfaa
open Go.RowKit
set_option linter.unusedVariables false
set_option linter.unusedSimpArgs false

theorem winfo8 : (Try.prog.info? 5).map (fun i => (i.zero, i.size, i.bytes)) = some (some (.int .u8 0), 1, 1) := by kernel_rfl
theorem winfo_parts {P : Program} {t : TypeId} {z : Option Value} {s b : Nat} (h : (P.info? t).map (fun i => (i.zero, i.size, i.bytes)) = some (z, s, b)) : ∃ i, P.info? t = some i ∧ i.zero = z ∧ i.size = s ∧ i.bytes = b := by
  rw [Option.map_eq_some_iff] at h
  obtain ⟨i, h1, h2⟩ := h
  simp only [Prod.mk.injEq] at h2
  exact ⟨i, h1, h2.1, h2.2.1, h2.2.2⟩
theorem Win.row {w : World} {g : Nat} {md : Bool} {bs : List Int} {p n : Int} (h : Win w g md bs p n) (P : Nat) (hP : P ≤ 1024) : Row .u8 w (g + 1) (some ⟨g, 1 + P, none⟩) (1024 - P) (bs.drop P) := by
  refine ⟨by simp [h.2], fun e => (by cases e), fun ad e j hj => ?_⟩
  cases e
  have e2 : (⟨g, 1 + P, none⟩ : Addr).add j = ⟨g, (P + j) + 1, none⟩ := by unfold Addr.add; split <;> simp_all <;> omega
  refine ⟨Nat.lt_succ_self g, ?_⟩
  rw [e2, h.byte (P + j) (by omega)]
  simp
theorem mapzeros (N : Nat) : List.replicate N (Value.int .u8 0) = (List.replicate N (0 : Int)).map (Value.int .u8) := by simp
theorem map_splice (L : List Int) (off : Nat) (cs : List Int) : splice (L.map (Value.int .u8)) off (cs.map (Value.int .u8)) = (splice L off cs).map (Value.int .u8) := by simp [splice, List.map_take, List.map_drop]
theorem Win.below {w w' : World} {g B : Nat} {md : Bool} {bs : List Int} {p n : Int} (h : Win w g md bs p n) (hb : Below B w w') (hg : g < B) : Win w' g md bs p n := ⟨h.1.below hb hg, h.2⟩
theorem Win.drew {w : World} {g : Nat} {md : Bool} {bs : List Int} {p n : Int} (h : Win w g md bs p n) : Win w.drew g md bs p n := h
theorem Win.grown {w w' : World} {g : Nat} {row : Option Nat} {md : Bool} {bs : List Int} {p n : Int} (h : Win w g md bs p n) (hb : w.grownBy w' row) (hg : some g ≠ row) : Win w' g md bs p n := ⟨h.1.grown hb hg, h.2⟩
set_option maxHeartbeats 4000000 in
theorem w_Peek (g : Nat) (bs : List Int) (P N : Nat) (w : World) (h : Win w g true bs P N) (hP : P < 1024) (hN : N ≤ 1024) :
    Calls Try.prog 16 #[.pointer (some ⟨g, 0, none⟩)] w fun e w' => e = .returned (.slice (some ⟨w.heap.size, 0, none⟩) N N) ∧ Below w.heap.size w w' ∧
      Blk w' w.heap.size 5 ((qW bs P N).map (Value.int .u8)).toArray := by
  obtain ⟨i0, hi, hz, hz1, hz2⟩ := winfo_parts winfo8
  have HT := hid (w_there g true bs P N w h)
  have c1 := h.place
  have c2 := h.count
  have k1 : (0 : Int) ≤ (P : Int) := by omega
  have k2 : (P : Int) ≤ 1024 := by omega
  have k3 : ¬ (1024 = P) := by omega
  go_enter Try.func16, Try.ntmps16
  go_wp2_with fail
  refine (HT.out).mono ?_
  rintro e w' ⟨rfl, rfl⟩
  go_wp2_with (at_make; refine wpList_makerow rfl (.tmp 11) (.tmp 11) _ rfl 5 i0 Try.underlying27 hi hz hz1 1 hz2 N _ rfl rfl rfl (by omega) (by omega) ?_; intro w1 hb1 hg1 hs1; have be1 := (Below.refl w.heap.size w).grown hg1 (Nat.le_refl _) (fun k hk => by cases hk))
  replace h := h.below be1 h.1.lt
  have hl := h.1.lt
  have hne : w.heap.size ≠ g := fun e => by
    subst e
    have := hb1
    unfold Blk at this
    have h3 := h.1
    unfold Blk at h3
    rw [this] at h3
    injection h3 with h3
    injection h3 with h4 h5
    cases h5
  refine wp_region_noPanic ?_
  refine wp_region_held_drew (S := (fun w' : World => w'.cell? ⟨g, 1025, none⟩ = some (.int .i64 P))) (by kernel_rfl) h.place (fun hHeld => ?_)
  refine (show wpAnyH _ _ _ _ _ 11 _ _ _ from ?_)
  try (simp only [Act.put, List.setIfInBounds_toArray, List.set_cons_zero, List.set_cons_succ])
  replace h := h.drew
  replace hb1 := hb1.drew
  have be2 := be1.drewN' 1
  replace be2 : Below w.heap.size w w1.drew := be2
  clear be1
  generalize w1.drew = W1 at *
  refine tk 0 hHeld ?_
  refine tk 1 hHeld ?_
  refine tk 2 hHeld ?_
  refine tk 3 hHeld ?_
  refine tk 4 hHeld ?_
  refine tk 5 hHeld ?_
  refine tk 6 hHeld ?_
  refine tk 7 hHeld ?_
  refine tk 8 hHeld ?_
  refine rd1 9 (fun X hX => ?_)
  rw [if_pos (by kernel_rfl)]
  refine wp_copyrow (k := .u8) (.tmp 13) (.tmp 21) 27 27 rfl 5 (by kernel_rfl) (by kernel_rfl) (some ⟨w.heap.size, 0, none⟩) (some ⟨g, 1 + P, none⟩) N N (1024 - P) (1024 - P) rfl rfl (g + 1) (bs.drop P) (h.row P (by omega)) w.heap.size 0 (List.replicate N (Value.int .u8 0)) 5 hb1 (fun _ => rfl) (by simp <;> omega) ?_
  intro W2 hb2 hg2
  replace h := h.grown hg2 (fun e => hne (by cases e; rfl))
  have be3 := be2.grown hg2 be2.size (fun k hk => by cases hk; exact Nat.le_refl _)
  rw [mapzeros, map_splice] at hb2
  have HQ := q_peek bs P N h.2 hP hN
  have y1 : min (1024 - P) N ≤ N := by omega
  have l1 : (splice (List.replicate N (0 : Int)) 0 ((bs.drop P).take (min (1024 - P) N))).length = N := by
    rw [length_splice _ _ _ (by simp [h.2] <;> omega)]; simp
  generalize hK : min (1024 - P) N = K1 at *
  have y3 : (0 : Int) ≤ (K1 : Int) := by omega
  have y4 : (K1 : Int) ≤ (N : Int) := by omega
  clear hK hb1 be2 hHeld
  refine hX.out _ _ h.place (fun hHeld => ?_)
  clear hX X
  try (simp only [Act.put, List.setIfInBounds_toArray, List.set_cons_zero, List.set_cons_succ])
  refine tk 10 hHeld ?_
  refine wpAnyH_done ?hr1 ?hq1 _
  case hr1 => kernel_rfl
  refine NoPanic.normal ?_
  clear hHeld
  go_wp2
  refine wp_region_noPanic ?_
  refine wp_region_held_drew (S := (fun _ : World => True)) (by kernel_rfl) trivial (fun hHeld => ?_)
  refine (show wpAnyH _ _ _ _ _ 8 _ _ _ from ?_)
  try (simp only [Act.put, List.setIfInBounds_toArray, List.set_cons_zero, List.set_cons_succ])
  replace h := h.drew
  replace hb2 := hb2.drew
  replace be3 : Below w.heap.size w W2.drew := be3.drewN' 1
  generalize W2.drew = W3 at *
  refine tk 0 hHeld ?_
  refine tk 1 hHeld ?_
  refine tk 2 hHeld ?_
  refine tk 3 hHeld ?_
  refine tk 4 hHeld ?_
  refine tk 5 hHeld ?_
  refine tk 6 hHeld ?_
  refine rd1 7 (fun X hX => ?_)
  rw [if_pos (by kernel_rfl)]
  have hR0 : Row .u8 W3 (g + 1) (some ⟨g, 1, none⟩) 1024 bs := by simpa using h.row 0 (by omega)
  refine wp_copyrow (k := .u8) (.tmp 25) (.tmp 29) 27 27 rfl 5 (by kernel_rfl) (by kernel_rfl) (if N = K1 then some ⟨w.heap.size, 0, none⟩ else some ⟨w.heap.size, K1, none⟩) (some ⟨g, 1, none⟩) (N - K1) (N - K1) 1024 1024 rfl rfl (g + 1) bs hR0 w.heap.size K1 ((splice (List.replicate N (0 : Int)) 0 ((bs.drop P).take K1)).map (Value.int .u8)) 5 hb2 (fun e => if_neg (by omega)) (by rw [List.length_map, l1]; omega) ?_
  intro W4 hb4 hg4
  have be5 := be3.grown hg4 be3.size (fun k hk => by cases hk; exact Nat.le_refl _)
  rw [show min 1024 (N - K1) = N - K1 by omega, map_splice, HQ] at hb4
  clear hb2 be3 hHeld
  generalize (if N = K1 then some ⟨w.heap.size, 0, none⟩ else some ⟨w.heap.size, K1, none⟩ : Option Addr) = Z at *
  refine hX.out _ _ trivial (fun hHeld => ?_)
  clear hX X
  try (simp only [Act.put, List.setIfInBounds_toArray, List.set_cons_zero, List.set_cons_succ])
  refine wpAnyH_done ?hr2 ?hq2 _
  case hr2 => kernel_rfl
  refine NoPanic.normal ?_
  clear hHeld
  go_wp2
  go_ret
  exact ⟨rfl, be5, hb4⟩
end Go.Proofs.Ytbhfidneijogfaa
