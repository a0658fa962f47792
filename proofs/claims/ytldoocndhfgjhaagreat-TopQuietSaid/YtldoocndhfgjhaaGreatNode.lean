/- Chapter 43: two timers change places. -/
import Derived.Test.YtldoocndhfgjhaaGreatDue
import Derived.Test.YtldoocndhfgjhaaGreatWide
import Derived.Test.YtldoocndhfgjhaaGreatLate
import Derived.Great.BuildSlice
import Derived.Laws.Rows
import Derived.Laws.Tables
namespace Go.Proofs.YtldoocndhfgjhaaGreat
open Go.RowKit
set_option linter.unusedVariables false
set_option linter.unusedSimpArgs false

/-- Only blocks of P, and new ones, have turned. -/
structure Kept (P : Nat → Prop) (w w' : World) : Prop where
  below : Below 0 w w'
  keep : ∀ i, i < w.heap.size → ¬ P i → w'.heap[i]? = w.heap[i]?
section
variable {P : Nat → Prop} {a b c : World}
theorem Kept.refl (P : Nat → Prop) (w : World) : Kept P w w := ⟨Below.refl _ _, fun _ _ _ => rfl⟩
theorem Kept.trans (h : Kept P a b) (k : Kept P b c) : Kept P a c := ⟨h.below.trans k.below, fun i hi hp => (k.keep i (Nat.lt_of_lt_of_le hi h.below.size) hp).trans (h.keep i hi hp)⟩
theorem Kept.drew (h : Kept P a b) : Kept P a b.drew := ⟨h.below.drew, h.keep⟩
theorem Kept.alloc (h : Kept P a b) (o : Obj) : Kept P a (b.alloc o) := ⟨h.below.alloc (Nat.zero_le _) o, fun i hi hp => (Below.heap_alloc b o i (Nat.lt_of_lt_of_le hi h.below.size)).trans (h.keep i hi hp)⟩
theorem Kept.set_ (h : Kept P a b) {p : Addr} (hp : P p.block ∨ a.heap.size ≤ p.block) (v : Value) : Kept P a (b.setCell p v) := ⟨h.below.setCell (Nat.zero_le _) v, fun i hi hq => (Below.heap_setCell b p v i (by
  rintro rfl
  rcases hp with hp | hp
  · exact hq hp
  · omega)).trans (h.keep i hi hq)⟩
theorem Kept.of_below (h : Below a.heap.size a b) : Kept P a b := ⟨h.mono (Nat.zero_le _), fun i hi _ => h.block i hi⟩
theorem Kept.to_below {B : Nat} (h : Kept P a b) (hP : ∀ i, P i → B ≤ i) (hB : B ≤ a.heap.size) : Below B a b := ⟨h.below.os, h.below.tape, h.below.output, h.below.size, fun i hi => h.keep i (by omega) (fun hp => by have := hP i hp; omega)⟩
theorem Kept.blk (h : Kept P a b) {g : Nat} {t : TypeId} {cs : Array Value} (hb : Blk a g t cs) (hp : ¬ P g) : Blk b g t cs := (h.keep g hb.lt hp).trans hb
theorem Kept.mono {Q : Nat → Prop} (h : Kept P a b) (hPQ : ∀ i, P i → Q i) : Kept Q a b := ⟨h.below, fun i hi hq => h.keep i hi (fun hp => hq (hPQ i hp))⟩
end
def P3 (g ta tb : Nat) (i : Nat) : Prop := i = g ∨ i = ta ∨ i = tb
set_option maxHeartbeats 4000000 in
theorem d_Swap (g c ta tb : Nat) (ia aa ea pa ib ab eb pb : Int) (cs : List Value) (w : World) (hG : Blk w g 140 ((.pointer (some ⟨ta, 0, none⟩)) :: (.pointer (some ⟨tb, 0, none⟩)) :: cs).toArray) (hA : Blk w ta 142 #[.int .i64 ia, .int .i64 aa, .int .i64 ea, .int .i64 pa]) (hB : Blk w tb 142 #[.int .i64 ib, .int .i64 ab, .int .i64 eb, .int .i64 pb]) (h1 : ta ≠ tb) (h2 : g ≠ ta) (h3 : g ≠ tb) :
    Calls Tryz.prog 387 #[.slice (some ⟨g, 0, none⟩) 2 c, .int .i64 0, .int .i64 1] w fun e w' => e = .returned (.tuple #[]) ∧ Blk w' g 140 ((.pointer (some ⟨tb, 0, none⟩)) :: (.pointer (some ⟨ta, 0, none⟩)) :: cs).toArray ∧ Blk w' ta 142 #[.int .i64 ia, .int .i64 aa, .int .i64 ea, .int .i64 1] ∧ Blk w' tb 142 #[.int .i64 ib, .int .i64 ab, .int .i64 eb, .int .i64 0] ∧ Kept (P3 g ta tb) w w' := by
  have hK := Kept.refl (P3 g ta tb) w
  go_enter Tryz.func387, Tryz.ntmps387
  go_upto_region 0 with fail
  refine wp_region_noPanic ?_
  refine wp_region_held_drew (S := (fun w' : World => True)) (by kernel_rfl) trivial (fun hHeld => ?_)
  refine (show wpAnyH _ _ _ _ _ 16 _ _ _ from ?_)
  try (simp only [Act.put, List.setIfInBounds_toArray, List.set_cons_zero, List.set_cons_succ])
  replace hG := hG.drew
  replace hA := hA.drew
  replace hB := hB.drew
  replace hK := hK.drew
  generalize w.drew = V0 at *
  refine tk 0 hHeld ?_
  refine tk 1 hHeld ?_
  refine tk 2 hHeld ?_
  refine tk 3 hHeld ?_
  refine tk 4 hHeld ?_
  refine tk 5 hHeld ?_
  refine tk 6 hHeld ?_
  refine tk 8 hHeld ?_
  refine tk 9 hHeld ?_
  refine tk 10 hHeld ?_
  refine rd2 7 11 (fun K7 hK7 => ?ca) (fun K11 hK11 => ?cb)
  case ca =>
    have cc : V0.cell? ⟨g, 1, none⟩ = some (.pointer (some ⟨tb, 0, none⟩)) := hG.cell 1
    go_simp
    try go_wp2_with fail
    clear cc
    refine hK7.out _ _ trivial (fun hHeld => ?_)
    clear hK7 K7
    try (simp only [Act.put, List.setIfInBounds_toArray, List.set_cons_zero, List.set_cons_succ])
    refine rd1 11 (fun K11 hK11 => ?_)
    have cc : V0.cell? ⟨g, 0, none⟩ = some (.pointer (some ⟨ta, 0, none⟩)) := hG.cell 0
    go_simp
    try go_wp2_with fail
    clear cc
    refine hK11.out _ _ trivial (fun hHeld => ?_)
    clear hK11 K11
    try (simp only [Act.put, List.setIfInBounds_toArray, List.set_cons_zero, List.set_cons_succ])
    refine tk 12 hHeld ?_
    refine rd1 13 (fun KK hKK => ?_)
    have cc : V0.cell? ⟨g, 0, none⟩ = some (.pointer (some ⟨ta, 0, none⟩)) := hG.cell 0
    have zz := hG.frozen 0
    go_simp
    try go_wp2_with fail
    clear cc zz
    have hG2 := hG.set_ 0 (.pointer (some ⟨tb, 0, none⟩))
    simp only [List.setIfInBounds_toArray, List.set_cons_zero, List.set_cons_succ] at hG2
    replace hA := hA.far (p := ⟨g, 0, none⟩) (by dsimp only; omega) (.pointer (some ⟨tb, 0, none⟩))
    replace hB := hB.far (p := ⟨g, 0, none⟩) (by dsimp only; omega) (.pointer (some ⟨tb, 0, none⟩))
    replace hK := hK.set_ (p := ⟨g, 0, none⟩) (Or.inl (Or.inl rfl)) (.pointer (some ⟨tb, 0, none⟩))
    clear hG
    have hG := hG2
    clear hG2
    generalize V0.setCell ⟨g, 0, none⟩ (.pointer (some ⟨tb, 0, none⟩)) = V1 at *
    refine hKK.out _ _ trivial (fun hHeld => ?_)
    clear hKK KK
    try (simp only [Act.put, List.setIfInBounds_toArray, List.set_cons_zero, List.set_cons_succ])
    refine tk 14 hHeld ?_
    refine rd1 15 (fun KK hKK => ?_)
    have cc : V1.cell? ⟨g, 1, none⟩ = some (.pointer (some ⟨tb, 0, none⟩)) := hG.cell 1
    have zz := hG.frozen 1
    go_simp
    try go_wp2_with fail
    clear cc zz
    have hG2 := hG.set_ 1 (.pointer (some ⟨ta, 0, none⟩))
    simp only [List.setIfInBounds_toArray, List.set_cons_zero, List.set_cons_succ] at hG2
    replace hA := hA.far (p := ⟨g, 1, none⟩) (by dsimp only; omega) (.pointer (some ⟨ta, 0, none⟩))
    replace hB := hB.far (p := ⟨g, 1, none⟩) (by dsimp only; omega) (.pointer (some ⟨ta, 0, none⟩))
    replace hK := hK.set_ (p := ⟨g, 1, none⟩) (Or.inl (Or.inl rfl)) (.pointer (some ⟨ta, 0, none⟩))
    clear hG
    have hG := hG2
    clear hG2
    generalize V1.setCell ⟨g, 1, none⟩ (.pointer (some ⟨ta, 0, none⟩)) = V2 at *
    refine hKK.out _ _ trivial (fun hHeld => ?_)
    clear hKK KK
    try (simp only [Act.put, List.setIfInBounds_toArray, List.set_cons_zero, List.set_cons_succ])
    refine wpAnyH_done (by kernel_rfl) ?_ _
    refine NoPanic.normal ?_
    clear hHeld
    go_upto_region 1 with fail
    refine wp_region_noPanic ?_
    refine wp_region_held_drew (S := (fun w' : World => w'.cell? ⟨g, 0, none⟩ = some (.pointer (some ⟨tb, 0, none⟩)) ∧ w'.cell? ⟨g, 1, none⟩ = some (.pointer (some ⟨ta, 0, none⟩)))) (by kernel_rfl) ⟨hG.cell 0, hG.cell 1⟩ (fun hHeld => ?_)
    refine (show wpAnyH _ _ _ _ _ 16 _ _ _ from ?_)
    try (simp only [Act.put, List.setIfInBounds_toArray, List.set_cons_zero, List.set_cons_succ])
    replace hG := hG.drew
    replace hA := hA.drew
    replace hB := hB.drew
    replace hK := hK.drew
    generalize V2.drew = V3 at *
    refine tk 0 hHeld ?_
    refine tk 1 hHeld ?_
    refine tk 2 hHeld ?_
    refine tk 3 hHeld ?_
    refine tk 4 hHeld ?_
    refine tk 5 hHeld ?_
    refine tk 6 hHeld ?_
    refine tk 7 hHeld ?_
    refine tk 8 hHeld ?_
    refine tk 9 hHeld ?_
    refine tk 10 hHeld ?_
    refine tk 11 hHeld ?_
    refine rd1 12 (fun KK hKK => ?_)
    have cc : V3.cell? ⟨tb, 3, none⟩ = some (.int .i64 pb) := hB.cell 3
    have zz := hB.frozen 3
    go_simp
    try go_wp2_with fail
    clear cc zz
    have hX := hB.set_ 3 (.int .i64 0)
    simp only [List.setIfInBounds_toArray, List.set_cons_zero, List.set_cons_succ] at hX
    replace hA := hA.far (p := ⟨tb, 3, none⟩) (by dsimp only; omega) (.int .i64 0)
    replace hG := hG.far (p := ⟨tb, 3, none⟩) (by dsimp only; omega) (.int .i64 0)
    replace hK := hK.set_ (p := ⟨tb, 3, none⟩) (Or.inl (Or.inr (Or.inr rfl))) (.int .i64 0)
    clear hB
    have hB := hX
    clear hX
    generalize V3.setCell ⟨tb, 3, none⟩ (.int .i64 0) = V4 at *
    refine hKK.out _ _ ⟨hG.cell 0, hG.cell 1⟩ (fun hHeld => ?_)
    clear hKK KK
    try (simp only [Act.put, List.setIfInBounds_toArray, List.set_cons_zero, List.set_cons_succ])
    refine tk 13 hHeld ?_
    refine tk 14 hHeld ?_
    refine rd1 15 (fun KK hKK => ?_)
    have cc : V4.cell? ⟨ta, 3, none⟩ = some (.int .i64 pa) := hA.cell 3
    have zz := hA.frozen 3
    go_simp
    try go_wp2_with fail
    clear cc zz
    have hX := hA.set_ 3 (.int .i64 1)
    simp only [List.setIfInBounds_toArray, List.set_cons_zero, List.set_cons_succ] at hX
    replace hB := hB.far (p := ⟨ta, 3, none⟩) (by dsimp only; omega) (.int .i64 1)
    replace hG := hG.far (p := ⟨ta, 3, none⟩) (by dsimp only; omega) (.int .i64 1)
    replace hK := hK.set_ (p := ⟨ta, 3, none⟩) (Or.inl (Or.inr (Or.inl rfl))) (.int .i64 1)
    clear hA
    have hA := hX
    clear hX
    generalize V4.setCell ⟨ta, 3, none⟩ (.int .i64 1) = V5 at *
    refine hKK.out _ _ ⟨hG.cell 0, hG.cell 1⟩ (fun hHeld => ?_)
    clear hKK KK
    try (simp only [Act.put, List.setIfInBounds_toArray, List.set_cons_zero, List.set_cons_succ])
    refine wpAnyH_done (by kernel_rfl) ?_ _
    refine NoPanic.normal ?_
    clear hHeld
    have H1 := hid hG
    have H2 := hid hA
    have H3 := hid hB
    clear hG hA hB
    go_wp2_with fail
    go_end0
    exact ⟨rfl, H1.out, H2.out, H3.out, hK⟩
  case cb =>
    have cc : V0.cell? ⟨g, 0, none⟩ = some (.pointer (some ⟨ta, 0, none⟩)) := hG.cell 0
    go_simp
    try go_wp2_with fail
    clear cc
    refine hK11.out _ _ trivial (fun hHeld => ?_)
    clear hK11 K11
    try (simp only [Act.put, List.setIfInBounds_toArray, List.set_cons_zero, List.set_cons_succ])
    refine rd1 7 (fun K7 hK7 => ?_)
    have cc : V0.cell? ⟨g, 1, none⟩ = some (.pointer (some ⟨tb, 0, none⟩)) := hG.cell 1
    go_simp
    try go_wp2_with fail
    clear cc
    refine hK7.out _ _ trivial (fun hHeld => ?_)
    clear hK7 K7
    try (simp only [Act.put, List.setIfInBounds_toArray, List.set_cons_zero, List.set_cons_succ])
    refine tk 12 hHeld ?_
    refine rd1 13 (fun KK hKK => ?_)
    have cc : V0.cell? ⟨g, 0, none⟩ = some (.pointer (some ⟨ta, 0, none⟩)) := hG.cell 0
    have zz := hG.frozen 0
    go_simp
    try go_wp2_with fail
    clear cc zz
    have hG2 := hG.set_ 0 (.pointer (some ⟨tb, 0, none⟩))
    simp only [List.setIfInBounds_toArray, List.set_cons_zero, List.set_cons_succ] at hG2
    replace hA := hA.far (p := ⟨g, 0, none⟩) (by dsimp only; omega) (.pointer (some ⟨tb, 0, none⟩))
    replace hB := hB.far (p := ⟨g, 0, none⟩) (by dsimp only; omega) (.pointer (some ⟨tb, 0, none⟩))
    replace hK := hK.set_ (p := ⟨g, 0, none⟩) (Or.inl (Or.inl rfl)) (.pointer (some ⟨tb, 0, none⟩))
    clear hG
    have hG := hG2
    clear hG2
    generalize V0.setCell ⟨g, 0, none⟩ (.pointer (some ⟨tb, 0, none⟩)) = V1 at *
    refine hKK.out _ _ trivial (fun hHeld => ?_)
    clear hKK KK
    try (simp only [Act.put, List.setIfInBounds_toArray, List.set_cons_zero, List.set_cons_succ])
    refine tk 14 hHeld ?_
    refine rd1 15 (fun KK hKK => ?_)
    have cc : V1.cell? ⟨g, 1, none⟩ = some (.pointer (some ⟨tb, 0, none⟩)) := hG.cell 1
    have zz := hG.frozen 1
    go_simp
    try go_wp2_with fail
    clear cc zz
    have hG2 := hG.set_ 1 (.pointer (some ⟨ta, 0, none⟩))
    simp only [List.setIfInBounds_toArray, List.set_cons_zero, List.set_cons_succ] at hG2
    replace hA := hA.far (p := ⟨g, 1, none⟩) (by dsimp only; omega) (.pointer (some ⟨ta, 0, none⟩))
    replace hB := hB.far (p := ⟨g, 1, none⟩) (by dsimp only; omega) (.pointer (some ⟨ta, 0, none⟩))
    replace hK := hK.set_ (p := ⟨g, 1, none⟩) (Or.inl (Or.inl rfl)) (.pointer (some ⟨ta, 0, none⟩))
    clear hG
    have hG := hG2
    clear hG2
    generalize V1.setCell ⟨g, 1, none⟩ (.pointer (some ⟨ta, 0, none⟩)) = V2 at *
    refine hKK.out _ _ trivial (fun hHeld => ?_)
    clear hKK KK
    try (simp only [Act.put, List.setIfInBounds_toArray, List.set_cons_zero, List.set_cons_succ])
    refine wpAnyH_done (by kernel_rfl) ?_ _
    refine NoPanic.normal ?_
    clear hHeld
    go_upto_region 1 with fail
    refine wp_region_noPanic ?_
    refine wp_region_held_drew (S := (fun w' : World => w'.cell? ⟨g, 0, none⟩ = some (.pointer (some ⟨tb, 0, none⟩)) ∧ w'.cell? ⟨g, 1, none⟩ = some (.pointer (some ⟨ta, 0, none⟩)))) (by kernel_rfl) ⟨hG.cell 0, hG.cell 1⟩ (fun hHeld => ?_)
    refine (show wpAnyH _ _ _ _ _ 16 _ _ _ from ?_)
    try (simp only [Act.put, List.setIfInBounds_toArray, List.set_cons_zero, List.set_cons_succ])
    replace hG := hG.drew
    replace hA := hA.drew
    replace hB := hB.drew
    replace hK := hK.drew
    generalize V2.drew = V3 at *
    refine tk 0 hHeld ?_
    refine tk 1 hHeld ?_
    refine tk 2 hHeld ?_
    refine tk 3 hHeld ?_
    refine tk 4 hHeld ?_
    refine tk 5 hHeld ?_
    refine tk 6 hHeld ?_
    refine tk 7 hHeld ?_
    refine tk 8 hHeld ?_
    refine tk 9 hHeld ?_
    refine tk 10 hHeld ?_
    refine tk 11 hHeld ?_
    refine rd1 12 (fun KK hKK => ?_)
    have cc : V3.cell? ⟨tb, 3, none⟩ = some (.int .i64 pb) := hB.cell 3
    have zz := hB.frozen 3
    go_simp
    try go_wp2_with fail
    clear cc zz
    have hX := hB.set_ 3 (.int .i64 0)
    simp only [List.setIfInBounds_toArray, List.set_cons_zero, List.set_cons_succ] at hX
    replace hA := hA.far (p := ⟨tb, 3, none⟩) (by dsimp only; omega) (.int .i64 0)
    replace hG := hG.far (p := ⟨tb, 3, none⟩) (by dsimp only; omega) (.int .i64 0)
    replace hK := hK.set_ (p := ⟨tb, 3, none⟩) (Or.inl (Or.inr (Or.inr rfl))) (.int .i64 0)
    clear hB
    have hB := hX
    clear hX
    generalize V3.setCell ⟨tb, 3, none⟩ (.int .i64 0) = V4 at *
    refine hKK.out _ _ ⟨hG.cell 0, hG.cell 1⟩ (fun hHeld => ?_)
    clear hKK KK
    try (simp only [Act.put, List.setIfInBounds_toArray, List.set_cons_zero, List.set_cons_succ])
    refine tk 13 hHeld ?_
    refine tk 14 hHeld ?_
    refine rd1 15 (fun KK hKK => ?_)
    have cc : V4.cell? ⟨ta, 3, none⟩ = some (.int .i64 pa) := hA.cell 3
    have zz := hA.frozen 3
    go_simp
    try go_wp2_with fail
    clear cc zz
    have hX := hA.set_ 3 (.int .i64 1)
    simp only [List.setIfInBounds_toArray, List.set_cons_zero, List.set_cons_succ] at hX
    replace hB := hB.far (p := ⟨ta, 3, none⟩) (by dsimp only; omega) (.int .i64 1)
    replace hG := hG.far (p := ⟨ta, 3, none⟩) (by dsimp only; omega) (.int .i64 1)
    replace hK := hK.set_ (p := ⟨ta, 3, none⟩) (Or.inl (Or.inr (Or.inl rfl))) (.int .i64 1)
    clear hA
    have hA := hX
    clear hX
    generalize V4.setCell ⟨ta, 3, none⟩ (.int .i64 1) = V5 at *
    refine hKK.out _ _ ⟨hG.cell 0, hG.cell 1⟩ (fun hHeld => ?_)
    clear hKK KK
    try (simp only [Act.put, List.setIfInBounds_toArray, List.set_cons_zero, List.set_cons_succ])
    refine wpAnyH_done (by kernel_rfl) ?_ _
    refine NoPanic.normal ?_
    clear hHeld
    have H1 := hid hG
    have H2 := hid hA
    have H3 := hid hB
    clear hG hA hB
    go_wp2_with fail
    go_end0
    exact ⟨rfl, H1.out, H2.out, H3.out, hK⟩
end Go.Proofs.YtldoocndhfgjhaaGreat
namespace Go.Proofs.YtldoocndhfgjhaaGreat
open Go.RowKit
set_option linter.unusedVariables false
set_option linter.unusedSimpArgs false

/-- An event: bytes are sent. -/
def evL (X : Value) : List Value := [.int .i64 2, .int .i64 0, .bool false, .int .i64 0, .int .i64 0, .int .i64 0, .int .i64 0, .int .i64 0, .int .i64 0, .int .i64 0, .int .i64 0, .int .i64 0, .int .i64 0, .int .i64 0, .int .i64 0, .int .i64 0, .int .i64 0, .int .i64 0, .int .i64 0, .int .i64 0, .int .i64 0, .int .i64 0, .int .i64 0, .int .i64 0, .int .i64 0, .int .i64 0, .int .i64 0, .int .i64 0, .int .i64 0, .int .i64 0, .int .i64 0, .int .i64 0, .int .i64 0, .int .i64 0, .int .i64 0, .int .i64 0, .int .i64 0, .slice none 0 0, .int .i64 0, .int .i64 0, .int .i64 0, .int .i64 0, .int .i64 0, .int .i64 0, .int .i64 0, .int .i64 0, .bool false, .int .i64 0, .int .i64 0, .int .i64 0, .slice none 0 0, .int .i64 0, .string { data := #[] }, .bool false, .int .i64 0, .int .i64 0, .int .i64 0, .int .i64 0, .bool false, .int .i64 0, .bool false, .int .i64 0, .int .i64 0, .bool false, .int .i64 0, .bool false, .int .i64 0, .bool false, .int .i64 0, .bool false, .int .i64 0, .bool false, .int .i64 0, .bool false, .int .i64 0, .bool false, .int .i64 0, .int .i64 0, .int .i64 0, .int .i64 0, .bool false, .bool false, .int .i64 0, .bool false, .int .i64 0, .bool false, .int .i64 0, .bool false, .int .i64 0, .bool false, .int .i64 0, .bool false, .int .i64 0, .int .i64 0, .int .i64 0, .bool false, .int .i64 0, .slice none 0 0, .bool false, .int .i64 0, .bool false, .int .i64 0, .bool false, .int .i64 0, .bool false, .int .i64 0, .bool false, .int .i64 0, .bool false, .int .i64 0, .bool false, .int .i64 0, .int .i64 0, .int .i64 0, .int .i64 0, .slice none 0 0, .int .i64 0, .int .i64 0, .int .i64 0, .int .i64 0, .slice none 0 0, X, .int .i64 0]
def zeL : List Value := [.int .i64 0, .int .i64 0, .bool false, .int .i64 0, .int .i64 0, .int .i64 0, .int .i64 0, .int .i64 0, .int .i64 0, .int .i64 0, .int .i64 0, .int .i64 0, .int .i64 0, .int .i64 0, .int .i64 0, .int .i64 0, .int .i64 0, .int .i64 0, .int .i64 0, .int .i64 0, .int .i64 0, .int .i64 0, .int .i64 0, .int .i64 0, .int .i64 0, .int .i64 0, .int .i64 0, .int .i64 0, .int .i64 0, .int .i64 0, .int .i64 0, .int .i64 0, .int .i64 0, .int .i64 0, .int .i64 0, .int .i64 0, .int .i64 0, .slice none 0 0, .int .i64 0, .int .i64 0, .int .i64 0, .int .i64 0, .int .i64 0, .int .i64 0, .int .i64 0, .int .i64 0, .bool false, .int .i64 0, .int .i64 0, .int .i64 0, .slice none 0 0, .int .i64 0, .string { data := #[] }, .bool false, .int .i64 0, .int .i64 0, .int .i64 0, .int .i64 0, .bool false, .int .i64 0, .bool false, .int .i64 0, .int .i64 0, .bool false, .int .i64 0, .bool false, .int .i64 0, .bool false, .int .i64 0, .bool false, .int .i64 0, .bool false, .int .i64 0, .bool false, .int .i64 0, .bool false, .int .i64 0, .int .i64 0, .int .i64 0, .int .i64 0, .bool false, .bool false, .int .i64 0, .bool false, .int .i64 0, .bool false, .int .i64 0, .bool false, .int .i64 0, .bool false, .int .i64 0, .bool false, .int .i64 0, .int .i64 0, .int .i64 0, .bool false, .int .i64 0, .slice none 0 0, .bool false, .int .i64 0, .bool false, .int .i64 0, .bool false, .int .i64 0, .bool false, .int .i64 0, .bool false, .int .i64 0, .bool false, .int .i64 0, .bool false, .int .i64 0, .int .i64 0, .int .i64 0, .int .i64 0, .slice none 0 0, .int .i64 0, .int .i64 0, .int .i64 0, .int .i64 0, .slice none 0 0, .slice none 0 0, .int .i64 0]
theorem infoEvent : (Tryz.prog.info? 75).map (fun i => (i.zero, i.size, decide (i.bytes ≤ 2000))) = some (some (.agg zeL.toArray), 123, true) := by kernel_rfl
end Go.Proofs.YtldoocndhfgjhaaGreat
