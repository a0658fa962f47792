/- Chapter 08: the closures of Split and Join. -/
import Derived.Test.YtfogjfmpgfcolaaBitsG
namespace Go.Proofs.Ytfogjfmpgfcolaa
open Go.RowKit
set_option linter.unusedVariables false
set_option linter.unusedSimpArgs false

/-- All below 'base' but the block g is as it was. -/
def Rest (base g : Nat) (w w' : World) : Prop := w.heap.size ≤ w'.heap.size ∧ ∀ (w0 : World) (B : Nat), B ≤ g → B ≤ base → Below B w0 w → Below B w0 w'
theorem Rest.trans {base g : Nat} {w w1 w2 : World} (a : Rest base g w w1) (b : Rest base g w1 w2) : Rest base g w w2 := ⟨Nat.le_trans a.1 b.1, fun w0 B h1 h2 h => b.2 w0 B h1 h2 (a.2 w0 B h1 h2 h)⟩
theorem info43 : (Try.prog.info? 33).map (fun i => (i.zero, i.size, i.bytes)) = some (some (.int .u32 0), 1, 4) := by kernel_rfl
theorem info_parts4 {P : Program} {t : TypeId} {z : Option Value} {s b : Nat} (h : (P.info? t).map (fun i => (i.zero, i.size, i.bytes)) = some (z, s, b)) : ∃ i, P.info? t = some i ∧ i.zero = z ∧ i.size = s ∧ i.bytes = b := by
  cases hi : P.info? t with
  | none => rw [hi] at h; cases h
  | some i => rw [hi] at h; simp at h; exact ⟨i, rfl, h.1, h.2.1, h.2.2⟩
set_option maxHeartbeats 8000000 in
theorem c_Split (base g h : Nat) (A : Option Addr) (n c : Nat) (ys : List Int) (u k a m : Int) (w : World) (hu : 0 ≤ u ∧ u ≤ 4294967295) (hg : Blk w g 80 #[.slice A n c]) (hh : Blk w h 33 #[.int .u32 u])
    (ho : Own .u32 w base 33 A n c ys) (hgb : g < base) (hhb : h < base) (hgh : g ≠ h) (hbase : base ≤ w.heap.size) (hn : n ≤ 1000) :
    Calls Try.prog 97 #[.int .i64 k, .int .i64 a, .int .i64 m, .pointer (some ⟨g, 0, none⟩), .pointer (some ⟨h, 0, none⟩)] w fun e w' => e = .returned (.bool true) ∧
      ∃ A' c', Blk w' g 80 #[.slice A' (n + 1) c'] ∧ Blk w' h 33 #[.int .u32 u] ∧ Own .u32 w' base 33 A' (n + 1) c' (ys ++ [getP u a m]) ∧ Rest base g w w' := by
  have HG := hid fun w => b_Get u a m w hu
  obtain ⟨i0, hi0, hz0, hz1, hz2⟩ := info_parts4 info43
  generalize getP u a m = x at *
  have hB : Below w.heap.size w w := Below.refl _ w
  go_enter Try.func97, Try.ntmps97
  go_wp2
  refine wp_region_noPanic ?_
  refine wp_region_held_drew (S := (fun w' : World => w'.cell? ⟨h, 0, none⟩ = some (.int .u32 u))) (by kernel_rfl) (hh.cell 0) (fun hHeld => ?_)
  refine (show wpAnyH _ _ _ _ _ 8 _ _ _ from ?_)
  try (simp only [Act.put, List.setIfInBounds_toArray, List.set_cons_zero, List.set_cons_succ])
  replace hg := hg.drew
  replace hh := hh.drew
  replace ho := ho.drew
  replace hB := hB.drew
  have hbd : base ≤ w.drew.heap.size := hbase
  generalize w.drew = w1 at *
  refine tk 1 hHeld ?_
  refine tk 2 hHeld ?_
  refine tk 3 hHeld ?_
  refine rd2 0 4 (fun K hK => ?hc1q0) (fun K hK => ?hc1q4)
  case hc1q0 =>
    have c0 : w1.cell? ⟨g, 0, none⟩ = some (.slice A n c) := hg.cell 0
    go_simp
    try go_wp2_with fail
    refine hK.out _ _ (hh.cell 0) (fun hHeld => ?_)
    clear hK K c0
    try (simp only [Act.put, List.setIfInBounds_toArray, List.set_cons_zero, List.set_cons_succ])
    refine rd1 4 (fun K hK => ?_)
    go_simp
    refine (HG.out _).mono ?_
    rintro e w2 ⟨rfl, b2⟩
    go_wp2_with fail
    replace hg := hg.below b2 hg.lt
    replace hh := hh.below b2 hh.lt
    replace ho := ho.below b2 (Nat.le_refl _)
    have hb2 := Nat.le_trans hbd b2.size
    have R2 := b2
    refine hK.out _ _ (hh.cell 0) (fun hHeld => ?_)
    clear hK K
    try (simp only [Act.put, List.setIfInBounds_toArray, List.set_cons_zero, List.set_cons_succ])
    refine rd1 5 (fun K hK => ?_)
    go_simp
    try go_wp2_with fail
    have hx := Blk.new w2 33 #[.int .u32 x]
    replace hg := hg.alloc (.cells #[.int .u32 x] 33)
    replace hh := hh.alloc (.cells #[.int .u32 x] 33)
    replace ho := ho.alloc (.cells #[.int .u32 x] 33)
    have R3 : Rest base g w (w2.alloc (.cells #[.int .u32 x] 33)) := ⟨by have := b2.size; have := hB.size; simp; omega, fun w0 B h1 h2 h3 => by have s1 := h3.size; have s2 := hB.size; have s3 := b2.size; exact ((h3.trans (hB.mono (by omega))).trans (b2.mono (by omega))).alloc (by omega) _⟩
    have hb3 : base ≤ (w2.alloc (.cells #[.int .u32 x] 33)).heap.size := by simp; omega
    generalize w2.alloc (.cells #[.int .u32 x] 33) = w3 at *
    generalize w2.heap.size = gx at *
    refine hK.out _ _ (hh.cell 0) (fun hHeld => ?_)
    clear hK K
    try (simp only [Act.put, List.setIfInBounds_toArray, List.set_cons_zero, List.set_cons_succ])
    refine rd1 6 (fun K hK => ?_)
    rw [if_pos (by kernel_rfl)]
    refine wp_app (k := .u32) (.tmp 9) (.tmp 14) 80 rfl base 33 _ 0 4 (by kernel_rfl) hi0 hz0 hz1 hz2 A n c ys rfl ho (gx + 1) (some ⟨gx, 0, none⟩) 1 1 [x] rfl (Row.blk hx rfl (Nat.lt_succ_self _)) (by unfold maxLen; omega) (by omega) hb3 ?_
    intro A' c' w4 ho' hgr
    have ne1 : some g ≠ (Value.slice A n c).ownBlock := fun e => by have := (ho.lt g e.symm).1; omega
    have ne2 : some h ≠ (Value.slice A n c).ownBlock := fun e => by have := (ho.lt h e.symm).1; omega
    replace hg := hg.grown hgr ne1
    replace hh := hh.grown hgr ne2
    have R4 : Rest base g w w4 := ⟨Nat.le_trans R3.1 hgr.size, fun w0 B h1 h2 h3 => (R3.2 w0 B h1 h2 h3).grown hgr (by have := (R3.2 w0 B h1 h2 h3).size; omega) (fun i hi => by have := (ho.lt i hi).1; omega)⟩
    refine hK.out _ _ (hh.cell 0) (fun hHeld => ?_)
    clear hK K
    try (simp only [Act.put, List.setIfInBounds_toArray, List.set_cons_zero, List.set_cons_succ])
    refine rd1 7 (fun K hK => ?_)
    have c0 : w4.cell? ⟨g, 0, none⟩ = some (.slice A n c) := hg.cell 0
    have z0 := hg.frozen 0
    go_simp
    try go_wp2_with fail
    have hg5 := hg.set_ 0 (.slice A' (n + 1) c')
    have hh5 := hh.far (p := ⟨g, 0, none⟩) (fun e => hgh e.symm) (.slice A' (n + 1) c')
    have ho5 : Own .u32 (w4.setCell ⟨g, 0, none⟩ (.slice A' (n + 1) c')) base 33 A' (n + 1) c' (ys ++ [x]) := ho'.kept (row := some g) (only_set (World.grownBy.refl _ _) 0 _) (.inr (fun e => by have := (ho'.lt g e).1; omega))
    have R5 : Rest base g w (w4.setCell ⟨g, 0, none⟩ (.slice A' (n + 1) c')) := ⟨by have := R4.1; simpa [World.setCell] using this, fun w0 B h1 h2 h3 => (R4.2 w0 B h1 h2 h3).setCell (p := ⟨g, 0, none⟩) h1 _⟩
    generalize w4.setCell ⟨g, 0, none⟩ (.slice A' (n + 1) c') = w5 at *
    refine hK.out _ _ (hh5.cell 0) (fun hHeld => ?_)
    clear hK K
    try (simp only [Act.put, List.setIfInBounds_toArray, List.set_cons_zero, List.set_cons_succ])
    refine wpAnyH_done ?hru2 ?hqu2 _
    case hru2 => kernel_rfl
    refine NoPanic.normal ?_
    go_wp2
    go_ret
    exact ⟨rfl, A', c', hg5, hh5, ho5, R5⟩
  case hc1q4 =>
    go_simp
    refine (HG.out _).mono ?_
    rintro e w2 ⟨rfl, b2⟩
    go_wp2_with fail
    replace hg := hg.below b2 hg.lt
    replace hh := hh.below b2 hh.lt
    replace ho := ho.below b2 (Nat.le_refl _)
    have hb2 := Nat.le_trans hbd b2.size
    have R2 := b2
    refine hK.out _ _ (hh.cell 0) (fun hHeld => ?_)
    clear hK K
    try (simp only [Act.put, List.setIfInBounds_toArray, List.set_cons_zero, List.set_cons_succ])
    refine rd2 0 5 (fun K hK => ?hc3q0) (fun K hK => ?hc3q5)
    case hc3q0 =>
      have c0 : w2.cell? ⟨g, 0, none⟩ = some (.slice A n c) := hg.cell 0
      go_simp
      try go_wp2_with fail
      refine hK.out _ _ (hh.cell 0) (fun hHeld => ?_)
      clear hK K c0
      try (simp only [Act.put, List.setIfInBounds_toArray, List.set_cons_zero, List.set_cons_succ])
      refine rd1 5 (fun K hK => ?_)
      go_simp
      try go_wp2_with fail
      have hx := Blk.new w2 33 #[.int .u32 x]
      replace hg := hg.alloc (.cells #[.int .u32 x] 33)
      replace hh := hh.alloc (.cells #[.int .u32 x] 33)
      replace ho := ho.alloc (.cells #[.int .u32 x] 33)
      have R3 : Rest base g w (w2.alloc (.cells #[.int .u32 x] 33)) := ⟨by have := b2.size; have := hB.size; simp; omega, fun w0 B h1 h2 h3 => by have s1 := h3.size; have s2 := hB.size; have s3 := b2.size; exact ((h3.trans (hB.mono (by omega))).trans (b2.mono (by omega))).alloc (by omega) _⟩
      have hb3 : base ≤ (w2.alloc (.cells #[.int .u32 x] 33)).heap.size := by simp; omega
      generalize w2.alloc (.cells #[.int .u32 x] 33) = w3 at *
      generalize w2.heap.size = gx at *
      refine hK.out _ _ (hh.cell 0) (fun hHeld => ?_)
      clear hK K
      try (simp only [Act.put, List.setIfInBounds_toArray, List.set_cons_zero, List.set_cons_succ])
      refine rd1 6 (fun K hK => ?_)
      rw [if_pos (by kernel_rfl)]
      refine wp_app (k := .u32) (.tmp 9) (.tmp 14) 80 rfl base 33 _ 0 4 (by kernel_rfl) hi0 hz0 hz1 hz2 A n c ys rfl ho (gx + 1) (some ⟨gx, 0, none⟩) 1 1 [x] rfl (Row.blk hx rfl (Nat.lt_succ_self _)) (by unfold maxLen; omega) (by omega) hb3 ?_
      intro A' c' w4 ho' hgr
      have ne1 : some g ≠ (Value.slice A n c).ownBlock := fun e => by have := (ho.lt g e.symm).1; omega
      have ne2 : some h ≠ (Value.slice A n c).ownBlock := fun e => by have := (ho.lt h e.symm).1; omega
      replace hg := hg.grown hgr ne1
      replace hh := hh.grown hgr ne2
      have R4 : Rest base g w w4 := ⟨Nat.le_trans R3.1 hgr.size, fun w0 B h1 h2 h3 => (R3.2 w0 B h1 h2 h3).grown hgr (by have := (R3.2 w0 B h1 h2 h3).size; omega) (fun i hi => by have := (ho.lt i hi).1; omega)⟩
      refine hK.out _ _ (hh.cell 0) (fun hHeld => ?_)
      clear hK K
      try (simp only [Act.put, List.setIfInBounds_toArray, List.set_cons_zero, List.set_cons_succ])
      refine rd1 7 (fun K hK => ?_)
      have c0 : w4.cell? ⟨g, 0, none⟩ = some (.slice A n c) := hg.cell 0
      have z0 := hg.frozen 0
      go_simp
      try go_wp2_with fail
      have hg5 := hg.set_ 0 (.slice A' (n + 1) c')
      have hh5 := hh.far (p := ⟨g, 0, none⟩) (fun e => hgh e.symm) (.slice A' (n + 1) c')
      have ho5 : Own .u32 (w4.setCell ⟨g, 0, none⟩ (.slice A' (n + 1) c')) base 33 A' (n + 1) c' (ys ++ [x]) := ho'.kept (row := some g) (only_set (World.grownBy.refl _ _) 0 _) (.inr (fun e => by have := (ho'.lt g e).1; omega))
      have R5 : Rest base g w (w4.setCell ⟨g, 0, none⟩ (.slice A' (n + 1) c')) := ⟨by have := R4.1; simpa [World.setCell] using this, fun w0 B h1 h2 h3 => (R4.2 w0 B h1 h2 h3).setCell (p := ⟨g, 0, none⟩) h1 _⟩
      generalize w4.setCell ⟨g, 0, none⟩ (.slice A' (n + 1) c') = w5 at *
      refine hK.out _ _ (hh5.cell 0) (fun hHeld => ?_)
      clear hK K
      try (simp only [Act.put, List.setIfInBounds_toArray, List.set_cons_zero, List.set_cons_succ])
      refine wpAnyH_done ?hru4 ?hqu4 _
      case hru4 => kernel_rfl
      refine NoPanic.normal ?_
      go_wp2
      go_ret
      exact ⟨rfl, A', c', hg5, hh5, ho5, R5⟩
    case hc3q5 =>
      go_simp
      try go_wp2_with fail
      have hx := Blk.new w2 33 #[.int .u32 x]
      replace hg := hg.alloc (.cells #[.int .u32 x] 33)
      replace hh := hh.alloc (.cells #[.int .u32 x] 33)
      replace ho := ho.alloc (.cells #[.int .u32 x] 33)
      have R3 : Rest base g w (w2.alloc (.cells #[.int .u32 x] 33)) := ⟨by have := b2.size; have := hB.size; simp; omega, fun w0 B h1 h2 h3 => by have s1 := h3.size; have s2 := hB.size; have s3 := b2.size; exact ((h3.trans (hB.mono (by omega))).trans (b2.mono (by omega))).alloc (by omega) _⟩
      have hb3 : base ≤ (w2.alloc (.cells #[.int .u32 x] 33)).heap.size := by simp; omega
      generalize w2.alloc (.cells #[.int .u32 x] 33) = w3 at *
      generalize w2.heap.size = gx at *
      refine hK.out _ _ (hh.cell 0) (fun hHeld => ?_)
      clear hK K
      try (simp only [Act.put, List.setIfInBounds_toArray, List.set_cons_zero, List.set_cons_succ])
      refine rd1 0 (fun K hK => ?_)
      have c0 : w3.cell? ⟨g, 0, none⟩ = some (.slice A n c) := hg.cell 0
      go_simp
      try go_wp2_with fail
      refine hK.out _ _ (hh.cell 0) (fun hHeld => ?_)
      clear hK K c0
      try (simp only [Act.put, List.setIfInBounds_toArray, List.set_cons_zero, List.set_cons_succ])
      refine rd1 6 (fun K hK => ?_)
      rw [if_pos (by kernel_rfl)]
      refine wp_app (k := .u32) (.tmp 9) (.tmp 14) 80 rfl base 33 _ 0 4 (by kernel_rfl) hi0 hz0 hz1 hz2 A n c ys rfl ho (gx + 1) (some ⟨gx, 0, none⟩) 1 1 [x] rfl (Row.blk hx rfl (Nat.lt_succ_self _)) (by unfold maxLen; omega) (by omega) hb3 ?_
      intro A' c' w4 ho' hgr
      have ne1 : some g ≠ (Value.slice A n c).ownBlock := fun e => by have := (ho.lt g e.symm).1; omega
      have ne2 : some h ≠ (Value.slice A n c).ownBlock := fun e => by have := (ho.lt h e.symm).1; omega
      replace hg := hg.grown hgr ne1
      replace hh := hh.grown hgr ne2
      have R4 : Rest base g w w4 := ⟨Nat.le_trans R3.1 hgr.size, fun w0 B h1 h2 h3 => (R3.2 w0 B h1 h2 h3).grown hgr (by have := (R3.2 w0 B h1 h2 h3).size; omega) (fun i hi => by have := (ho.lt i hi).1; omega)⟩
      refine hK.out _ _ (hh.cell 0) (fun hHeld => ?_)
      clear hK K
      try (simp only [Act.put, List.setIfInBounds_toArray, List.set_cons_zero, List.set_cons_succ])
      refine rd1 7 (fun K hK => ?_)
      have c0 : w4.cell? ⟨g, 0, none⟩ = some (.slice A n c) := hg.cell 0
      have z0 := hg.frozen 0
      go_simp
      try go_wp2_with fail
      have hg5 := hg.set_ 0 (.slice A' (n + 1) c')
      have hh5 := hh.far (p := ⟨g, 0, none⟩) (fun e => hgh e.symm) (.slice A' (n + 1) c')
      have ho5 : Own .u32 (w4.setCell ⟨g, 0, none⟩ (.slice A' (n + 1) c')) base 33 A' (n + 1) c' (ys ++ [x]) := ho'.kept (row := some g) (only_set (World.grownBy.refl _ _) 0 _) (.inr (fun e => by have := (ho'.lt g e).1; omega))
      have R5 : Rest base g w (w4.setCell ⟨g, 0, none⟩ (.slice A' (n + 1) c')) := ⟨by have := R4.1; simpa [World.setCell] using this, fun w0 B h1 h2 h3 => (R4.2 w0 B h1 h2 h3).setCell (p := ⟨g, 0, none⟩) h1 _⟩
      generalize w4.setCell ⟨g, 0, none⟩ (.slice A' (n + 1) c') = w5 at *
      refine hK.out _ _ (hh5.cell 0) (fun hHeld => ?_)
      clear hK K
      try (simp only [Act.put, List.setIfInBounds_toArray, List.set_cons_zero, List.set_cons_succ])
      refine wpAnyH_done ?hru5 ?hqu5 _
      case hru5 => kernel_rfl
      refine NoPanic.normal ?_
      go_wp2
      go_ret
      exact ⟨rfl, A', c', hg5, hh5, ho5, R5⟩
end Go.Proofs.Ytfogjfmpgfcolaa
