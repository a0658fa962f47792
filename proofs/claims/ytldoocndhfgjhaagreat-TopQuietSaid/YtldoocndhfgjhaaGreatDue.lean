/- Chapter 43: timers, and their row. -/
import Derived.Test.YtldoocndhfgjhaaGreatStabB
import Derived.Test.YtldoocndhfgjhaaGreatHeld
import Derived.WalkSpells
import Derived.Deep.CutRange
namespace Go.Proofs.YtldoocndhfgjhaaGreat
open Go.RowKit
set_option linter.unusedVariables false
set_option linter.unusedSimpArgs false

def tmC (i a e p : Int) : Array Value := #[.int .i64 i, .int .i64 a, .int .i64 e, .int .i64 p]
def befP (ia aa ib ab : Int) : Bool := decide (aa < ab) || (decide (aa = ab) && decide (ia < ib))
set_option maxHeartbeats 4000000 in
theorem d_before (ta tb : Nat) (ia aa ea pa ib ab eb pb : Int) (w : World) (hA : Blk w ta 142 #[.int .i64 ia, .int .i64 aa, .int .i64 ea, .int .i64 pa]) (hB : Blk w tb 142 #[.int .i64 ib, .int .i64 ab, .int .i64 eb, .int .i64 pb]) :
    Calls Tryz.prog 388 #[.pointer (some ⟨ta, 0, none⟩), .pointer (some ⟨tb, 0, none⟩)] w fun e w' => e = .returned (.bool (befP ia aa ib ab)) ∧ Below w.heap.size w w' := by
  have hb := Below.refl w.heap.size w
  go_enter Tryz.func388, Tryz.ntmps388
  go_upto_region 1 with fail
  by_cases h1 : aa < ab
  · have d1 : decide (aa < ab) = true := decide_eq_true h1
    have HR : Hid (befP ia aa ib ab = true) := hid (by unfold befP; rw [d1]; rfl)
    refine wp_region_noPanic ?_
    refine wp_region_held_drew (S := (fun w' : World => w'.cell? ⟨ta, 1, none⟩ = some (.int .i64 aa) ∧ w'.cell? ⟨tb, 1, none⟩ = some (.int .i64 ab) ∧ w'.cell? ⟨ta, 0, none⟩ = some (.int .i64 ia) ∧ w'.cell? ⟨tb, 0, none⟩ = some (.int .i64 ib))) (by kernel_rfl) ⟨hA.cell 1, hB.cell 1, hA.cell 0, hB.cell 0⟩ (fun hHeld => ?_)
    refine (show wpAnyH _ _ _ _ _ 32 _ _ _ from ?_)
    try (simp only [Act.put, List.setIfInBounds_toArray, List.set_cons_zero, List.set_cons_succ])
    replace hb := hb.drew
    clear hA hB
    generalize w.drew = V0 at *
    refine tk 0 hHeld ?_
    refine tk 1 hHeld ?_
    refine tk 2 hHeld ?_
    refine tk 3 hHeld ?_
    refine tk 4 hHeld ?_
    refine tk 5 hHeld ?_
    refine tk 6 hHeld ?_
    refine tk 7 hHeld ?_
    refine tk 8 hHeld ?_
    refine tk 9 hHeld ?_
    refine tkn 10 hHeld ?_
    refine tkn 11 hHeld ?_
    refine tkn 12 hHeld ?_
    refine tkn 13 hHeld ?_
    refine tkn 14 hHeld ?_
    refine tkn 15 hHeld ?_
    refine tkn 16 hHeld ?_
    refine tkn 17 hHeld ?_
    refine tkn 18 hHeld ?_
    refine tkn 19 hHeld ?_
    refine tkn 20 hHeld ?_
    refine tkn 21 hHeld ?_
    refine tkn 22 hHeld ?_
    refine tkn 23 hHeld ?_
    refine tkn 24 hHeld ?_
    refine tkn 25 hHeld ?_
    refine tkn 26 hHeld ?_
    refine tkn 27 hHeld ?_
    refine tkn 28 hHeld ?_
    refine tkn 29 hHeld ?_
    refine tk 30 hHeld ?_
    refine tk 31 hHeld ?_
    refine wpAnyH_done (by kernel_rfl) ?_ _
    refine NoPanic.normal ?_
    clear hHeld
    go_wp2
    go_ret
    exact ⟨by rw [HR.out] <;> rfl, hb⟩
  · have d1 : decide (aa < ab) = false := decide_eq_false h1
    by_cases h2 : aa = ab
    · have d2 : decide (aa = ab) = true := decide_eq_true h2
      have d3 : (aa == ab) = true := by simpa using h2
      have HR : Hid (befP ia aa ib ab = decide (ia < ib)) := hid (by unfold befP; rw [d1, d2]; simp)
      subst h2
      refine wp_region_noPanic ?_
      refine wp_region_held_drew (S := (fun w' : World => w'.cell? ⟨ta, 1, none⟩ = some (.int .i64 aa) ∧ w'.cell? ⟨tb, 1, none⟩ = some (.int .i64 aa) ∧ w'.cell? ⟨ta, 0, none⟩ = some (.int .i64 ia) ∧ w'.cell? ⟨tb, 0, none⟩ = some (.int .i64 ib))) (by kernel_rfl) ⟨hA.cell 1, hB.cell 1, hA.cell 0, hB.cell 0⟩ (fun hHeld => ?_)
      refine (show wpAnyH _ _ _ _ _ 32 _ _ _ from ?_)
      try (simp only [Act.put, List.setIfInBounds_toArray, List.set_cons_zero, List.set_cons_succ])
      replace hb := hb.drew
      clear hA hB
      generalize w.drew = V0 at *
      refine tk 0 hHeld ?_
      refine tk 1 hHeld ?_
      refine tk 2 hHeld ?_
      refine tk 3 hHeld ?_
      refine tk 4 hHeld ?_
      refine tk 5 hHeld ?_
      refine tk 6 hHeld ?_
      refine tk 7 hHeld ?_
      refine tk 8 hHeld ?_
      refine tk 9 hHeld ?_
      refine tk 10 hHeld ?_
      refine tk 11 hHeld ?_
      refine tk 12 hHeld ?_
      refine tk 13 hHeld ?_
      refine tk 14 hHeld ?_
      refine tk 15 hHeld ?_
      refine tk 16 hHeld ?_
      refine tk 17 hHeld ?_
      refine tk 18 hHeld ?_
      refine tk 19 hHeld ?_
      refine tk 20 hHeld ?_
      refine tk 21 hHeld ?_
      refine tk 22 hHeld ?_
      refine tk 23 hHeld ?_
      refine tk 24 hHeld ?_
      refine tk 25 hHeld ?_
      refine tk 26 hHeld ?_
      refine tk 27 hHeld ?_
      refine tk 28 hHeld ?_
      refine tk 29 hHeld ?_
      refine tk 30 hHeld ?_
      refine tk 31 hHeld ?_
      refine wpAnyH_done (by kernel_rfl) ?_ _
      refine NoPanic.normal ?_
      clear hHeld
      go_wp2
      go_ret
      exact ⟨by rw [HR.out] <;> rfl, hb⟩
    · have d2 : decide (aa = ab) = false := decide_eq_false h2
      have d3 : (aa == ab) = false := by simpa using h2
      have HR : Hid (befP ia aa ib ab = false) := hid (by unfold befP; rw [d1, d2]; rfl)
      refine wp_region_noPanic ?_
      refine wp_region_held_drew (S := (fun w' : World => w'.cell? ⟨ta, 1, none⟩ = some (.int .i64 aa) ∧ w'.cell? ⟨tb, 1, none⟩ = some (.int .i64 ab) ∧ w'.cell? ⟨ta, 0, none⟩ = some (.int .i64 ia) ∧ w'.cell? ⟨tb, 0, none⟩ = some (.int .i64 ib))) (by kernel_rfl) ⟨hA.cell 1, hB.cell 1, hA.cell 0, hB.cell 0⟩ (fun hHeld => ?_)
      refine (show wpAnyH _ _ _ _ _ 32 _ _ _ from ?_)
      try (simp only [Act.put, List.setIfInBounds_toArray, List.set_cons_zero, List.set_cons_succ])
      replace hb := hb.drew
      clear hA hB
      generalize w.drew = V0 at *
      refine tk 0 hHeld ?_
      refine tk 1 hHeld ?_
      refine tk 2 hHeld ?_
      refine tk 3 hHeld ?_
      refine tk 4 hHeld ?_
      refine tk 5 hHeld ?_
      refine tk 6 hHeld ?_
      refine tk 7 hHeld ?_
      refine tk 8 hHeld ?_
      refine tk 9 hHeld ?_
      refine tk 10 hHeld ?_
      refine tk 11 hHeld ?_
      refine tk 12 hHeld ?_
      refine tk 13 hHeld ?_
      refine tk 14 hHeld ?_
      refine tk 15 hHeld ?_
      refine tk 16 hHeld ?_
      refine tk 17 hHeld ?_
      refine tk 18 hHeld ?_
      refine tk 19 hHeld ?_
      refine tkn 20 hHeld ?_
      refine tkn 21 hHeld ?_
      refine tkn 22 hHeld ?_
      refine tkn 23 hHeld ?_
      refine tkn 24 hHeld ?_
      refine tkn 25 hHeld ?_
      refine tkn 26 hHeld ?_
      refine tkn 27 hHeld ?_
      refine tkn 28 hHeld ?_
      refine tk 29 hHeld ?_
      refine tk 30 hHeld ?_
      refine tk 31 hHeld ?_
      refine wpAnyH_done (by kernel_rfl) ?_ _
      refine NoPanic.normal ?_
      clear hHeld
      go_wp2
      go_ret
      exact ⟨by rw [HR.out] <;> rfl, hb⟩
theorem d_Less (g c ta tb : Nat) (ia aa ea pa ib ab eb pb : Int) (w : World) (hr0 : w.cell? ⟨g, 0, none⟩ = some (.pointer (some ⟨ta, 0, none⟩))) (hr1 : w.cell? ⟨g, 1, none⟩ = some (.pointer (some ⟨tb, 0, none⟩))) (hA : Blk w ta 142 #[.int .i64 ia, .int .i64 aa, .int .i64 ea, .int .i64 pa]) (hB : Blk w tb 142 #[.int .i64 ib, .int .i64 ab, .int .i64 eb, .int .i64 pb]) :
    Calls Tryz.prog 386 #[.slice (some ⟨g, 0, none⟩) 2 c, .int .i64 1, .int .i64 0] w fun e w' => e = .returned (.bool (befP ib ab ia aa)) ∧ Below w.heap.size w w' := by
  have hb := Below.refl w.heap.size w
  go_enter Tryz.func386, Tryz.ntmps386
  go_upto_region 1 with fail
  refine wp_region_noPanic ?_
  refine wp_region_held_drew (S := (fun w' : World => w'.cell? ⟨g, 0, none⟩ = some (.pointer (some ⟨ta, 0, none⟩)) ∧ w'.cell? ⟨g, 1, none⟩ = some (.pointer (some ⟨tb, 0, none⟩)))) (by kernel_rfl) ⟨hr0, hr1⟩ (fun hHeld => ?_)
  refine (show wpAnyH _ _ _ _ _ 10 _ _ _ from ?_)
  try (simp only [Act.put, List.setIfInBounds_toArray, List.set_cons_zero, List.set_cons_succ])
  replace hb := hb.drew
  have hA2 := hA.drew
  have hB2 := hB.drew
  have H := hid (d_before tb ta ib ab eb pb ia aa ea pa w.drew hB2 hA2)
  have hlg : g < w.drew.heap.size := Go.block_lt_of_cell (a := ⟨g, 0, none⟩) hr0
  clear hA hB hA2 hB2 hr0 hr1
  generalize w.drew = V0 at *
  refine tk 0 hHeld ?_
  refine tk 1 hHeld ?_
  refine tk 2 hHeld ?_
  refine tk 3 hHeld ?_
  refine tk 4 hHeld ?_
  refine tk 5 hHeld ?_
  refine tk 6 hHeld ?_
  refine tk 7 hHeld ?_
  refine rd1 8 (fun K hK => ?_)
  go_simp
  refine H.out.mono ?_
  rintro e V1 ⟨rfl, b1⟩
  go_wp2_with fail
  have hH1 := hHeld
  refine hK.out _ _ ⟨(b1.cell (show (⟨g, 0, none⟩ : Addr).block < _ from hlg)).trans hHeld.1, (b1.cell (show (⟨g, 1, none⟩ : Addr).block < _ from hlg)).trans hHeld.2⟩ (fun hHeld => ?_)
  clear hK K hH1
  replace hb := hb.trans (b1.mono hb.size)
  try (simp only [Act.put, List.setIfInBounds_toArray, List.set_cons_zero, List.set_cons_succ])
  refine tk 9 hHeld ?_
  refine wpAnyH_done (by kernel_rfl) ?_ _
  refine NoPanic.normal ?_
  clear hHeld
  go_wp2
  go_ret
  exact ⟨rfl, hb⟩
end Go.Proofs.YtldoocndhfgjhaaGreat
