/- Chapter 31: a form is found. -/
import Derived.Test.YtldoocndhfgjhaaGreatSchC
namespace Go.Proofs.YtldoocndhfgjhaaGreat
open Go.RowKit
set_option linter.unusedVariables false
set_option linter.unusedSimpArgs false

set_option maxRecDepth 20000 in
set_option maxHeartbeats 8000000 in
theorem s_find0 (w : World) : Calls Tryz.prog 41 #[.int .i64 0] w (FormOut name0 form0 w) := by
  have e0 := Blk.new w 154 #[.string { data := #[] }, .slice none 0 0]
  have hb := (Below.refl w.heap.size w).alloc (Nat.le_refl _) (.cells #[.string { data := #[] }, .slice none 0 0] 154)
  have hs : w.heap.size + 1 ≤ (w.alloc (.cells #[.string { data := #[] }, .slice none 0 0] 154)).heap.size := by simp
  have HO : Hid (∀ A' c' w', OTab 4 w' w.heap.size 190 A' 6 c' form0 → Below w.heap.size w w' → FormOut name0 form0 w (.returned (.agg #[.string name0, .slice A' 6 c'])) w') := hid fun A' c' w' h1 h2 => ⟨A', c', rfl, h1, h2⟩
  have hne : name0.toList ≠ [] := by rw [ByteArray.toList_eq]; decide
  have hne2 : name0.toList.isEmpty = false := by rw [ByteArray.toList_eq]; decide
  have hne3 : (name0.toList == []) = false := by rw [ByteArray.toList_eq]; decide
  go_enter Tryz.func41, Tryz.ntmps41
  go_upto_region 1 with fail
  generalize w.alloc (.cells #[.string { data := #[] }, .slice none 0 0] 154) = W0 at *
  go_wp2_with fail
  refine (s_state0 W0).mono ?_
  intro e w1 hp
  obtain ⟨A', c', rfl, o1, b1⟩ := hp.to 6 rfl
  clear hp
  replace o1 := o1.lower (by omega : w.heap.size ≤ W0.heap.size)
  replace e0 := e0.below b1 e0.lt
  replace hb := hb.trans (b1.mono hb.size)
  replace hs : w.heap.size + 1 ≤ w1.heap.size := Nat.le_trans hs b1.size
  clear b1
  go_wp2_with fail
  refine (s_sensed0 w1).mono ?_
  rintro e w2 ⟨rfl, b1⟩
  replace o1 := o1.below b1 (Nat.le_refl _)
  replace e0 := e0.below b1 e0.lt
  replace hb := hb.trans (b1.mono hb.size)
  replace hs : w.heap.size + 1 ≤ w2.heap.size := Nat.le_trans hs b1.size
  clear b1
  go_wp2_with fail
  refine (s_asked0 w2).mono ?_
  rintro e w3 ⟨rfl, b1⟩
  replace o1 := o1.below b1 (Nat.le_refl _)
  replace e0 := e0.below b1 e0.lt
  replace hb := hb.trans (b1.mono hb.size)
  replace hs : w.heap.size + 1 ≤ w3.heap.size := Nat.le_trans hs b1.size
  clear b1
  go_wp2_with fail
  refine (s_own0 w3).mono ?_
  rintro e w4 ⟨rfl, b1⟩
  replace o1 := o1.below b1 (Nat.le_refl _)
  replace e0 := e0.below b1 e0.lt
  replace hb := hb.trans (b1.mono hb.size)
  replace hs : w.heap.size + 1 ≤ w4.heap.size := Nat.le_trans hs b1.size
  clear b1
  go_wp2_with fail
  have br := Blk.new w4 154 #[.string name0, .slice A' 6 c', .string { data := #[] }, .slice none 0 0, .string { data := #[] }, .slice none 0 0, .string { data := #[] }, .slice none 0 0]
  replace e0 := e0.alloc (.cells #[.string name0, .slice A' 6 c', .string { data := #[] }, .slice none 0 0, .string { data := #[] }, .slice none 0 0, .string { data := #[] }, .slice none 0 0] 154)
  replace hb := hb.alloc (by omega) (.cells #[.string name0, .slice A' 6 c', .string { data := #[] }, .slice none 0 0, .string { data := #[] }, .slice none 0 0, .string { data := #[] }, .slice none 0 0] 154)
  replace o1 := o1.alloc (.cells #[.string name0, .slice A' 6 c', .string { data := #[] }, .slice none 0 0, .string { data := #[] }, .slice none 0 0, .string { data := #[] }, .slice none 0 0] 154)
  have hgr : w.heap.size + 1 ≤ w4.heap.size := hs
  replace hs : w.heap.size + 1 ≤ (w4.alloc (.cells #[.string name0, .slice A' 6 c', .string { data := #[] }, .slice none 0 0, .string { data := #[] }, .slice none 0 0, .string { data := #[] }, .slice none 0 0] 154)).heap.size := Nat.le_trans hs (by simp)
  generalize w4.alloc (.cells #[.string name0, .slice A' 6 c', .string { data := #[] }, .slice none 0 0, .string { data := #[] }, .slice none 0 0, .string { data := #[] }, .slice none 0 0] 154) = VR at *
  generalize w4.heap.size = gr at *
  refine wp_loop_rounds 5 ?_
  rw [rounds_succ]
  have q0 : VR.cell? ⟨gr, 0, none⟩ = some (.string name0) := br.cell 0
  have q1 : VR.cell? ⟨gr, 1, none⟩ = some (.slice A' 6 c') := br.cell 1
  go_upto_region 4 with fail
  clear q0 q1
  have bf := Blk.new VR 154 #[.string name0, .slice A' 6 c']
  replace e0 := e0.alloc (.cells #[.string name0, .slice A' 6 c'] 154)
  replace br := br.alloc (.cells #[.string name0, .slice A' 6 c'] 154)
  replace hb := hb.alloc (by omega) (.cells #[.string name0, .slice A' 6 c'] 154)
  replace o1 := o1.alloc (.cells #[.string name0, .slice A' 6 c'] 154)
  have hgf : w.heap.size + 1 ≤ VR.heap.size := hs
  replace hs : w.heap.size + 1 ≤ (VR.alloc (.cells #[.string name0, .slice A' 6 c'] 154)).heap.size := Nat.le_trans hs (by simp)
  generalize VR.alloc (.cells #[.string name0, .slice A' 6 c'] 154) = VF0 at *
  generalize VR.heap.size = gf0 at *
  have q0 : VF0.cell? ⟨gf0, 0, none⟩ = some (.string name0) := bf.cell 0
  have q1 : VF0.cell? ⟨gf0, 1, none⟩ = some (.slice A' 6 c') := bf.cell 1
  have z0 := e0.frozen 0
  have z1 := e0.frozen 1
  have p0 : VF0.cell? ⟨w.heap.size, 0, none⟩ = some (.string { data := #[] }) := e0.cell 0
  have p1 : VF0.cell? ⟨w.heap.size, 1, none⟩ = some (.slice none 0 0) := e0.cell 1
  have t0 := (e0.set_ 0 (.string name0)).set_ 1 (.slice A' 6 c')
  simp only [List.setIfInBounds_toArray, List.set_cons_zero, List.set_cons_succ] at t0
  have T2 := hid (((o1.kept (only_set (World.grownBy.refl VF0 _) 0 (.string name0)) (Or.inr (Ne.symm (o1.ne_ e0 (by decide)))))).kept (only_set (World.grownBy.refl _ _) 1 (.slice A' 6 c')) (Or.inr (Ne.symm (o1.ne_ e0 (by decide)))))
  have tb := (hb.setCell (p := ⟨w.heap.size, 0, none⟩) (by dsimp only; omega) (.string name0)).setCell (p := ⟨w.heap.size, 1, none⟩) (by dsimp only; omega) (.slice A' 6 c')
  clear o1
  go_wp2
  refine bodyPost_ret (results_cell_row rfl _ _ w.heap.size _ _ _ _ rfl t0 Tryz.underlying154 rfl (by kernel_rfl)) rfl ?_
  exact HO.out _ _ _ T2.out tb
set_option maxRecDepth 20000 in
set_option maxHeartbeats 8000000 in
theorem s_find200 (w : World) : Calls Tryz.prog 41 #[.int .i64 200] w (FormOut name200 form200 w) := by
  have e0 := Blk.new w 154 #[.string { data := #[] }, .slice none 0 0]
  have hb := (Below.refl w.heap.size w).alloc (Nat.le_refl _) (.cells #[.string { data := #[] }, .slice none 0 0] 154)
  have hs : w.heap.size + 1 ≤ (w.alloc (.cells #[.string { data := #[] }, .slice none 0 0] 154)).heap.size := by simp
  have HO : Hid (∀ A' c' w', OTab 4 w' w.heap.size 190 A' 5 c' form200 → Below w.heap.size w w' → FormOut name200 form200 w (.returned (.agg #[.string name200, .slice A' 5 c'])) w') := hid fun A' c' w' h1 h2 => ⟨A', c', rfl, h1, h2⟩
  have hne : name200.toList ≠ [] := by rw [ByteArray.toList_eq]; decide
  have hne2 : name200.toList.isEmpty = false := by rw [ByteArray.toList_eq]; decide
  have hne3 : (name200.toList == []) = false := by rw [ByteArray.toList_eq]; decide
  go_enter Tryz.func41, Tryz.ntmps41
  go_upto_region 1 with fail
  generalize w.alloc (.cells #[.string { data := #[] }, .slice none 0 0] 154) = W0 at *
  go_wp2_with fail
  refine (s_state200 W0).mono ?_
  rintro e w1 ⟨rfl, b1⟩
  replace e0 := e0.below b1 e0.lt
  replace hb := hb.trans (b1.mono hb.size)
  replace hs : w.heap.size + 1 ≤ w1.heap.size := Nat.le_trans hs b1.size
  clear b1
  go_wp2_with fail
  refine (s_sensed200 w1).mono ?_
  rintro e w2 ⟨rfl, b1⟩
  replace e0 := e0.below b1 e0.lt
  replace hb := hb.trans (b1.mono hb.size)
  replace hs : w.heap.size + 1 ≤ w2.heap.size := Nat.le_trans hs b1.size
  clear b1
  go_wp2_with fail
  refine (s_asked200 w2).mono ?_
  rintro e w3 ⟨rfl, b1⟩
  replace e0 := e0.below b1 e0.lt
  replace hb := hb.trans (b1.mono hb.size)
  replace hs : w.heap.size + 1 ≤ w3.heap.size := Nat.le_trans hs b1.size
  clear b1
  go_wp2_with fail
  refine (s_own200 w3).mono ?_
  intro e w4 hp
  obtain ⟨A', c', rfl, o1, b1⟩ := hp.to 5 rfl
  clear hp
  replace o1 := o1.lower (by omega : w.heap.size ≤ w3.heap.size)
  replace e0 := e0.below b1 e0.lt
  replace hb := hb.trans (b1.mono hb.size)
  replace hs : w.heap.size + 1 ≤ w4.heap.size := Nat.le_trans hs b1.size
  clear b1
  go_wp2_with fail
  have br := Blk.new w4 154 #[.string { data := #[] }, .slice none 0 0, .string { data := #[] }, .slice none 0 0, .string { data := #[] }, .slice none 0 0, .string name200, .slice A' 5 c']
  replace e0 := e0.alloc (.cells #[.string { data := #[] }, .slice none 0 0, .string { data := #[] }, .slice none 0 0, .string { data := #[] }, .slice none 0 0, .string name200, .slice A' 5 c'] 154)
  replace hb := hb.alloc (by omega) (.cells #[.string { data := #[] }, .slice none 0 0, .string { data := #[] }, .slice none 0 0, .string { data := #[] }, .slice none 0 0, .string name200, .slice A' 5 c'] 154)
  replace o1 := o1.alloc (.cells #[.string { data := #[] }, .slice none 0 0, .string { data := #[] }, .slice none 0 0, .string { data := #[] }, .slice none 0 0, .string name200, .slice A' 5 c'] 154)
  have hgr : w.heap.size + 1 ≤ w4.heap.size := hs
  replace hs : w.heap.size + 1 ≤ (w4.alloc (.cells #[.string { data := #[] }, .slice none 0 0, .string { data := #[] }, .slice none 0 0, .string { data := #[] }, .slice none 0 0, .string name200, .slice A' 5 c'] 154)).heap.size := Nat.le_trans hs (by simp)
  generalize w4.alloc (.cells #[.string { data := #[] }, .slice none 0 0, .string { data := #[] }, .slice none 0 0, .string { data := #[] }, .slice none 0 0, .string name200, .slice A' 5 c'] 154) = VR at *
  generalize w4.heap.size = gr at *
  refine wp_loop_rounds 5 ?_
  rw [rounds_succ]
  have q0 : VR.cell? ⟨gr, 0, none⟩ = some (.string { data := #[] }) := br.cell 0
  have q1 : VR.cell? ⟨gr, 1, none⟩ = some (.slice none 0 0) := br.cell 1
  go_upto_region 4 with fail
  clear q0 q1
  have bf := Blk.new VR 154 #[.string { data := #[] }, .slice none 0 0]
  replace e0 := e0.alloc (.cells #[.string { data := #[] }, .slice none 0 0] 154)
  replace br := br.alloc (.cells #[.string { data := #[] }, .slice none 0 0] 154)
  replace hb := hb.alloc (by omega) (.cells #[.string { data := #[] }, .slice none 0 0] 154)
  replace o1 := o1.alloc (.cells #[.string { data := #[] }, .slice none 0 0] 154)
  have hgf : w.heap.size + 1 ≤ VR.heap.size := hs
  replace hs : w.heap.size + 1 ≤ (VR.alloc (.cells #[.string { data := #[] }, .slice none 0 0] 154)).heap.size := Nat.le_trans hs (by simp)
  generalize VR.alloc (.cells #[.string { data := #[] }, .slice none 0 0] 154) = VF0 at *
  generalize VR.heap.size = gf0 at *
  have q0 : VF0.cell? ⟨gf0, 0, none⟩ = some (.string { data := #[] }) := bf.cell 0
  have q1 : VF0.cell? ⟨gf0, 1, none⟩ = some (.slice none 0 0) := bf.cell 1
  go_wp2_with fail
  clear q0 q1 bf hgf
  rw [rounds_succ]
  have q0 : VF0.cell? ⟨gr, 2, none⟩ = some (.string { data := #[] }) := br.cell 2
  have q1 : VF0.cell? ⟨gr, 3, none⟩ = some (.slice none 0 0) := br.cell 3
  go_upto_region 4 with fail
  clear q0 q1
  have bf := Blk.new VF0 154 #[.string { data := #[] }, .slice none 0 0]
  replace e0 := e0.alloc (.cells #[.string { data := #[] }, .slice none 0 0] 154)
  replace br := br.alloc (.cells #[.string { data := #[] }, .slice none 0 0] 154)
  replace hb := hb.alloc (by omega) (.cells #[.string { data := #[] }, .slice none 0 0] 154)
  replace o1 := o1.alloc (.cells #[.string { data := #[] }, .slice none 0 0] 154)
  have hgf : w.heap.size + 1 ≤ VF0.heap.size := hs
  replace hs : w.heap.size + 1 ≤ (VF0.alloc (.cells #[.string { data := #[] }, .slice none 0 0] 154)).heap.size := Nat.le_trans hs (by simp)
  generalize VF0.alloc (.cells #[.string { data := #[] }, .slice none 0 0] 154) = VF1 at *
  generalize VF0.heap.size = gf1 at *
  have q0 : VF1.cell? ⟨gf1, 0, none⟩ = some (.string { data := #[] }) := bf.cell 0
  have q1 : VF1.cell? ⟨gf1, 1, none⟩ = some (.slice none 0 0) := bf.cell 1
  go_wp2_with fail
  clear q0 q1 bf hgf
  rw [rounds_succ]
  have q0 : VF1.cell? ⟨gr, 4, none⟩ = some (.string { data := #[] }) := br.cell 4
  have q1 : VF1.cell? ⟨gr, 5, none⟩ = some (.slice none 0 0) := br.cell 5
  go_upto_region 4 with fail
  clear q0 q1
  have bf := Blk.new VF1 154 #[.string { data := #[] }, .slice none 0 0]
  replace e0 := e0.alloc (.cells #[.string { data := #[] }, .slice none 0 0] 154)
  replace br := br.alloc (.cells #[.string { data := #[] }, .slice none 0 0] 154)
  replace hb := hb.alloc (by omega) (.cells #[.string { data := #[] }, .slice none 0 0] 154)
  replace o1 := o1.alloc (.cells #[.string { data := #[] }, .slice none 0 0] 154)
  have hgf : w.heap.size + 1 ≤ VF1.heap.size := hs
  replace hs : w.heap.size + 1 ≤ (VF1.alloc (.cells #[.string { data := #[] }, .slice none 0 0] 154)).heap.size := Nat.le_trans hs (by simp)
  generalize VF1.alloc (.cells #[.string { data := #[] }, .slice none 0 0] 154) = VF2 at *
  generalize VF1.heap.size = gf2 at *
  have q0 : VF2.cell? ⟨gf2, 0, none⟩ = some (.string { data := #[] }) := bf.cell 0
  have q1 : VF2.cell? ⟨gf2, 1, none⟩ = some (.slice none 0 0) := bf.cell 1
  go_wp2_with fail
  clear q0 q1 bf hgf
  rw [rounds_succ]
  have q0 : VF2.cell? ⟨gr, 6, none⟩ = some (.string name200) := br.cell 6
  have q1 : VF2.cell? ⟨gr, 7, none⟩ = some (.slice A' 5 c') := br.cell 7
  go_upto_region 4 with fail
  clear q0 q1
  have bf := Blk.new VF2 154 #[.string name200, .slice A' 5 c']
  replace e0 := e0.alloc (.cells #[.string name200, .slice A' 5 c'] 154)
  replace br := br.alloc (.cells #[.string name200, .slice A' 5 c'] 154)
  replace hb := hb.alloc (by omega) (.cells #[.string name200, .slice A' 5 c'] 154)
  replace o1 := o1.alloc (.cells #[.string name200, .slice A' 5 c'] 154)
  have hgf : w.heap.size + 1 ≤ VF2.heap.size := hs
  replace hs : w.heap.size + 1 ≤ (VF2.alloc (.cells #[.string name200, .slice A' 5 c'] 154)).heap.size := Nat.le_trans hs (by simp)
  generalize VF2.alloc (.cells #[.string name200, .slice A' 5 c'] 154) = VF3 at *
  generalize VF2.heap.size = gf3 at *
  have q0 : VF3.cell? ⟨gf3, 0, none⟩ = some (.string name200) := bf.cell 0
  have q1 : VF3.cell? ⟨gf3, 1, none⟩ = some (.slice A' 5 c') := bf.cell 1
  have z0 := e0.frozen 0
  have z1 := e0.frozen 1
  have p0 : VF3.cell? ⟨w.heap.size, 0, none⟩ = some (.string { data := #[] }) := e0.cell 0
  have p1 : VF3.cell? ⟨w.heap.size, 1, none⟩ = some (.slice none 0 0) := e0.cell 1
  have t0 := (e0.set_ 0 (.string name200)).set_ 1 (.slice A' 5 c')
  simp only [List.setIfInBounds_toArray, List.set_cons_zero, List.set_cons_succ] at t0
  have T2 := hid (((o1.kept (only_set (World.grownBy.refl VF3 _) 0 (.string name200)) (Or.inr (Ne.symm (o1.ne_ e0 (by decide)))))).kept (only_set (World.grownBy.refl _ _) 1 (.slice A' 5 c')) (Or.inr (Ne.symm (o1.ne_ e0 (by decide)))))
  have tb := (hb.setCell (p := ⟨w.heap.size, 0, none⟩) (by dsimp only; omega) (.string name200)).setCell (p := ⟨w.heap.size, 1, none⟩) (by dsimp only; omega) (.slice A' 5 c')
  clear o1
  go_wp2
  refine bodyPost_ret (results_cell_row rfl _ _ w.heap.size _ _ _ _ rfl t0 Tryz.underlying154 rfl (by kernel_rfl)) rfl ?_
  exact HO.out _ _ _ T2.out tb
end Go.Proofs.YtldoocndhfgjhaaGreat
