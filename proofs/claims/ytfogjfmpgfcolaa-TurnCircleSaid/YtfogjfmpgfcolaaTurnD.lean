/- Chapter 13: a vector, turned. -/
import Derived.Test.YtfogjfmpgfcolaaTurnC
namespace Go.Proofs.Ytfogjfmpgfcolaa
open Go.RowKit
set_option linter.unusedVariables false
set_option linter.unusedSimpArgs false

/-- Twice what is across the quaternion's axis and the vector, cut; and the vector that was turned, before it is cut. -/
def rtT0 (u0 u1 u2 v0 v1 v2 : Int) : Int := 2 * acP u1 u2 v1 v2
def rtT1 (u0 u1 u2 v0 v1 v2 : Int) : Int := 2 * acP u2 u0 v2 v0
def rtT2 (u0 u1 u2 v0 v1 v2 : Int) : Int := 2 * acP u0 u1 v0 v1
def rtR0 (q0 u0 u1 u2 v0 v1 v2 t0 t1 t2 : Int) : Int := v0 + tmP q0 t0 + acP u1 u2 t1 t2
def rtR1 (q0 u0 u1 u2 v0 v1 v2 t0 t1 t2 : Int) : Int := v1 + tmP q0 t1 + acP u2 u0 t2 t0
def rtR2 (q0 u0 u1 u2 v0 v1 v2 t0 t1 t2 : Int) : Int := v2 + tmP q0 t2 + acP u0 u1 t0 t1
def Rots (q0 u0 u1 u2 v0 v1 v2 : Int) (w : World) (e : Ending) (w' : World) : Prop :=
  e = .returned (.tuple #[.agg #[.int .i32 (clampP (rtR0 q0 u0 u1 u2 v0 v1 v2 (clampP (rtT0 u0 u1 u2 v0 v1 v2)) (clampP (rtT1 u0 u1 u2 v0 v1 v2)) (clampP (rtT2 u0 u1 u2 v0 v1 v2)))), .int .i32 (clampP (rtR1 q0 u0 u1 u2 v0 v1 v2 (clampP (rtT0 u0 u1 u2 v0 v1 v2)) (clampP (rtT1 u0 u1 u2 v0 v1 v2)) (clampP (rtT2 u0 u1 u2 v0 v1 v2)))), .int .i32 (clampP (rtR2 q0 u0 u1 u2 v0 v1 v2 (clampP (rtT0 u0 u1 u2 v0 v1 v2)) (clampP (rtT1 u0 u1 u2 v0 v1 v2)) (clampP (rtT2 u0 u1 u2 v0 v1 v2))))], .int .i64 (cutC (rtT0 u0 u1 u2 v0 v1 v2) + cutC (rtT1 u0 u1 u2 v0 v1 v2) + cutC (rtT2 u0 u1 u2 v0 v1 v2) + (cutC (rtR0 q0 u0 u1 u2 v0 v1 v2 (clampP (rtT0 u0 u1 u2 v0 v1 v2)) (clampP (rtT1 u0 u1 u2 v0 v1 v2)) (clampP (rtT2 u0 u1 u2 v0 v1 v2))) + cutC (rtR1 q0 u0 u1 u2 v0 v1 v2 (clampP (rtT0 u0 u1 u2 v0 v1 v2)) (clampP (rtT1 u0 u1 u2 v0 v1 v2)) (clampP (rtT2 u0 u1 u2 v0 v1 v2))) + cutC (rtR2 q0 u0 u1 u2 v0 v1 v2 (clampP (rtT0 u0 u1 u2 v0 v1 v2)) (clampP (rtT1 u0 u1 u2 v0 v1 v2)) (clampP (rtT2 u0 u1 u2 v0 v1 v2)))))]) ∧ Below w.heap.size w w'
theorem rot2_tells (gv gq gt gu : Nat) (q0 u0 u1 u2 v0 v1 v2 t0 t1 t2 : Int) (w : World) (iq0 : I32 q0) (iu0 : I32 u0) (iu1 : I32 u1) (iu2 : I32 u2) (iv0 : I32 v0) (iv1 : I32 v1) (iv2 : I32 v2) (it0 : I32 t0) (it1 : I32 t1) (it2 : I32 t2) (hv : Blk w gv 57 #[.int .i32 v0, .int .i32 v1, .int .i32 v2]) (hq : Blk w gq 23 #[.int .i32 q0, .int .i32 u0, .int .i32 u1, .int .i32 u2]) (ht : Blk w gt 57 #[.int .i32 t0, .int .i32 t1, .int .i32 t2]) (hu : Blk w gu 57 #[.int .i32 u0, .int .i32 u1, .int .i32 u2]) :
    Calls Try.prog 38 #[.func (.func 41) #[] #[.pointer (some ⟨gv, 0, none⟩), .pointer (some ⟨gq, 0, none⟩), .pointer (some ⟨gt, 0, none⟩), .pointer (some ⟨gu, 0, none⟩)]] w fun e w' =>
      e = .returned (.tuple #[.agg #[.int .i32 (clampP (rtR0 q0 u0 u1 u2 v0 v1 v2 t0 t1 t2)), .int .i32 (clampP (rtR1 q0 u0 u1 u2 v0 v1 v2 t0 t1 t2)), .int .i32 (clampP (rtR2 q0 u0 u1 u2 v0 v1 v2 t0 t1 t2))], .int .i64 (cutC (rtR0 q0 u0 u1 u2 v0 v1 v2 t0 t1 t2) + cutC (rtR1 q0 u0 u1 u2 v0 v1 v2 t0 t1 t2) + cutC (rtR2 q0 u0 u1 u2 v0 v1 v2 t0 t1 t2))]) ∧ Below w.heap.size w w' := by
  have b0 := tm_bd q0 t0 iq0 it0
  have b1 := tm_bd q0 t1 iq0 it1
  have b2 := tm_bd q0 t2 iq0 it2
  have s0 := ac_bd u1 u2 t1 t2 iu1 iu2 it1 it2
  have s1 := ac_bd u2 u0 t2 t0 iu2 iu0 it2 it0
  have s2 := ac_bd u0 u1 t0 t1 iu0 iu1 it0 it1
  refine t_cut_Rotate2 _ _ _ _ (rtR0 q0 u0 u1 u2 v0 v1 v2 t0 t1 t2) (rtR1 q0 u0 u1 u2 v0 v1 v2 t0 t1 t2) (rtR2 q0 u0 u1 u2 v0 v1 v2 t0 t1 t2) w (by unfold rtR0 I64; unfold I32 at *; omega) (by unfold rtR1 I64; unfold I32 at *; omega) (by unfold rtR2 I64; unfold I32 at *; omega) ?_
  intro i V hi w' hw
  rcases hi with ⟨rfl, rfl⟩ | ⟨rfl, rfl⟩ | ⟨rfl, rfl⟩
  · exact c_Rot2_0 gv gq gt gu q0 u0 u1 u2 v0 v1 v2 t0 t1 t2 w' iq0 iu0 iu1 iu2 iv0 iv1 iv2 it0 it1 it2 (hv.below hw hv.lt) (hq.below hw hq.lt) (ht.below hw ht.lt) (hu.below hw hu.lt)
  · exact c_Rot2_1 gv gq gt gu q0 u0 u1 u2 v0 v1 v2 t0 t1 t2 w' iq0 iu0 iu1 iu2 iv0 iv1 iv2 it0 it1 it2 (hv.below hw hv.lt) (hq.below hw hq.lt) (ht.below hw ht.lt) (hu.below hw hu.lt)
  · exact c_Rot2_2 gv gq gt gu q0 u0 u1 u2 v0 v1 v2 t0 t1 t2 w' iq0 iu0 iu1 iu2 iv0 iv1 iv2 it0 it1 it2 (hv.below hw hv.lt) (hq.below hw hq.lt) (ht.below hw ht.lt) (hu.below hw hu.lt)
set_option maxRecDepth 20000 in
set_option maxHeartbeats 16000000 in
theorem t_Rotate (q0 u0 u1 u2 v0 v1 v2 : Int) (w : World) (iq0 : I32 q0) (iu0 : I32 u0) (iu1 : I32 u1) (iu2 : I32 u2) (iv0 : I32 v0) (iv1 : I32 v1) (iv2 : I32 v2) :
    Calls Try.prog 13 #[.agg #[.int .i32 q0, .int .i32 u0, .int .i32 u1, .int .i32 u2], .agg #[.int .i32 v0, .int .i32 v1, .int .i32 v2]] w (Rots q0 u0 u1 u2 v0 v1 v2 w) := by
  have hmf : ∀ (fn : Fn) (first cap : Array Value) (w : World), (Instr.makeFunc fn first cap).run Try.prog w = .ok (.func fn first cap) w := fun _ _ _ _ => rfl
  have hp0 : Blk (((w.alloc (.cells #[.int .i32 q0, .int .i32 u0, .int .i32 u1, .int .i32 u2] 23)).alloc (.cells #[.int .i32 v0, .int .i32 v1, .int .i32 v2] 25)).alloc (.cells #[.int .i32 0, .int .i32 0, .int .i32 0] 25)) w.heap.size 23 #[.int .i32 q0, .int .i32 u0, .int .i32 u1, .int .i32 u2] := ((Blk.new w _ _).alloc _).alloc _
  have hp1 : Blk (((w.alloc (.cells #[.int .i32 q0, .int .i32 u0, .int .i32 u1, .int .i32 u2] 23)).alloc (.cells #[.int .i32 v0, .int .i32 v1, .int .i32 v2] 25)).alloc (.cells #[.int .i32 0, .int .i32 0, .int .i32 0] 25)) (w.heap.size + 1) 25 #[.int .i32 v0, .int .i32 v1, .int .i32 v2] := by have := (Blk.new (w.alloc (.cells #[.int .i32 q0, .int .i32 u0, .int .i32 u1, .int .i32 u2] 23)) 25 #[.int .i32 v0, .int .i32 v1, .int .i32 v2]).alloc (.cells #[.int .i32 0, .int .i32 0, .int .i32 0] 25); simpa using this
  have hr : Blk (((w.alloc (.cells #[.int .i32 q0, .int .i32 u0, .int .i32 u1, .int .i32 u2] 23)).alloc (.cells #[.int .i32 v0, .int .i32 v1, .int .i32 v2] 25)).alloc (.cells #[.int .i32 0, .int .i32 0, .int .i32 0] 25)) (w.heap.size + 1 + 1) 25 #[.int .i32 0, .int .i32 0, .int .i32 0] := by have := Blk.new ((w.alloc (.cells #[.int .i32 q0, .int .i32 u0, .int .i32 u1, .int .i32 u2] 23)).alloc (.cells #[.int .i32 v0, .int .i32 v1, .int .i32 v2] 25)) 25 #[.int .i32 0, .int .i32 0, .int .i32 0]; simpa using this
  have hb : Below w.heap.size w (((w.alloc (.cells #[.int .i32 q0, .int .i32 u0, .int .i32 u1, .int .i32 u2] 23)).alloc (.cells #[.int .i32 v0, .int .i32 v1, .int .i32 v2] 25)).alloc (.cells #[.int .i32 0, .int .i32 0, .int .i32 0] 25)) := (((Below.refl _ w).alloc (Nat.le_refl _) _).alloc (by simp) _).alloc (by simp; omega) _
  go_enter Try.func13, Try.ntmps13
  go_upto_region 1 with fail
  generalize ((w.alloc (.cells #[.int .i32 q0, .int .i32 u0, .int .i32 u1, .int .i32 u2] 23)).alloc (.cells #[.int .i32 v0, .int .i32 v1, .int .i32 v2] 25)).alloc (.cells #[.int .i32 0, .int .i32 0, .int .i32 0] 25) = W0 at *
  go_cut [6, 7] from 12 to 25 (fun x y wx => ∃ g h : Nat, x = .pointer (some ⟨g, 0, none⟩) ∧ y = .pointer (some ⟨h, 0, none⟩) ∧ Blk wx g 57 #[.int .i32 u0, .int .i32 u1, .int .i32 u2] ∧ Blk wx h 57 #[.int .i32 v0, .int .i32 v1, .int .i32 v2] ∧ Blk wx w.heap.size 23 #[.int .i32 q0, .int .i32 u0, .int .i32 u1, .int .i32 u2] ∧ Blk wx (w.heap.size + 1 + 1) 25 #[.int .i32 0, .int .i32 0, .int .i32 0] ∧ Below w.heap.size w wx)
  case first =>
    refine wp_region_noPanic ?_
    refine wp_region_held_drew (S := (fun w' : World => w'.cell? ⟨w.heap.size, 0, none⟩ = some (.int .i32 q0) ∧ w'.cell? ⟨w.heap.size, 1, none⟩ = some (.int .i32 u0) ∧ w'.cell? ⟨w.heap.size, 2, none⟩ = some (.int .i32 u1) ∧ w'.cell? ⟨w.heap.size, 3, none⟩ = some (.int .i32 u2) ∧ w'.cell? ⟨w.heap.size + 1, 0, none⟩ = some (.int .i32 v0) ∧ w'.cell? ⟨w.heap.size + 1, 1, none⟩ = some (.int .i32 v1) ∧ w'.cell? ⟨w.heap.size + 1, 2, none⟩ = some (.int .i32 v2) ∧ w'.cell? ⟨w.heap.size + 1 + 1, 0, none⟩ = some (.int .i32 0) ∧ w'.cell? ⟨w.heap.size + 1 + 1, 1, none⟩ = some (.int .i32 0) ∧ w'.cell? ⟨w.heap.size + 1 + 1, 2, none⟩ = some (.int .i32 0))) (by kernel_rfl) ⟨hp0.cell 0, hp0.cell 1, hp0.cell 2, hp0.cell 3, hp1.cell 0, hp1.cell 1, hp1.cell 2, hr.cell 0, hr.cell 1, hr.cell 2⟩ (fun hHeld => ?_)
    refine (show wpAnyH _ _ _ _ _ 18 _ _ _ from ?_)
    try (simp only [Act.put, List.setIfInBounds_toArray, List.set_cons_zero, List.set_cons_succ])
    replace hp0 := hp0.drew
    replace hp1 := hp1.drew
    replace hr := hr.drew
    replace hb := hb.drew
    generalize W0.drew = W1 at *
    refine tk 0 hHeld ?_
    refine tk 1 hHeld ?_
    refine tk 2 hHeld ?_
    refine tk 3 hHeld ?_
    refine tk 4 hHeld ?_
    refine tk 5 hHeld ?_
    refine tk 6 hHeld ?_
    refine tk 7 hHeld ?_
    refine tk 8 hHeld ?_
    refine tk 9 hHeld ?_
    refine tk 10 hHeld ?_
    refine tk 11 hHeld ?_
    refine tk 12 hHeld ?_
    refine tk 13 hHeld ?_
    refine rd2 14 15 (fun K hK => ?hc2q14) (fun K hK => ?hc2q15)
    case hc2q14 =>
      go_simp
      try go_wp2_with fail
      have lb3 := hb.size
      have l3hp0 := hp0.lt
      have l3hp1 := hp1.lt
      have l3hr := hr.lt
      replace hp0 := hp0.alloc (.cells #[.int .i32 0, .int .i32 0, .int .i32 0] 57)
      replace hp1 := hp1.alloc (.cells #[.int .i32 0, .int .i32 0, .int .i32 0] 57)
      replace hr := hr.alloc (.cells #[.int .i32 0, .int .i32 0, .int .i32 0] 57)
      have n3 := Blk.new W1 57 #[.int .i32 0, .int .i32 0, .int .i32 0]
      replace hb := hb.alloc hb.size (.cells #[.int .i32 0, .int .i32 0, .int .i32 0] 57)
      generalize W1.alloc (.cells #[.int .i32 0, .int .i32 0, .int .i32 0] 57) = v3 at *
      generalize W1.heap.size = g3 at *
      refine hK.out _ _ ⟨hp0.cell 0, hp0.cell 1, hp0.cell 2, hp0.cell 3, hp1.cell 0, hp1.cell 1, hp1.cell 2, hr.cell 0, hr.cell 1, hr.cell 2⟩ (fun hHeld => ?_)
      clear hK K
      try (simp only [Act.put, List.setIfInBounds_toArray, List.set_cons_zero, List.set_cons_succ])
      refine rd1 15 (fun K hK => ?_)
      go_simp
      try go_wp2_with fail
      have lb5 := hb.size
      have l5hp0 := hp0.lt
      have l5hp1 := hp1.lt
      have l5hr := hr.lt
      have l5n3 := n3.lt
      replace hp0 := hp0.alloc (.cells #[.int .i32 0, .int .i32 0, .int .i32 0] 57)
      replace hp1 := hp1.alloc (.cells #[.int .i32 0, .int .i32 0, .int .i32 0] 57)
      replace hr := hr.alloc (.cells #[.int .i32 0, .int .i32 0, .int .i32 0] 57)
      replace n3 := n3.alloc (.cells #[.int .i32 0, .int .i32 0, .int .i32 0] 57)
      have n5 := Blk.new v3 57 #[.int .i32 0, .int .i32 0, .int .i32 0]
      replace hb := hb.alloc hb.size (.cells #[.int .i32 0, .int .i32 0, .int .i32 0] 57)
      generalize v3.alloc (.cells #[.int .i32 0, .int .i32 0, .int .i32 0] 57) = v5 at *
      generalize v3.heap.size = g5 at *
      refine hK.out _ _ ⟨hp0.cell 0, hp0.cell 1, hp0.cell 2, hp0.cell 3, hp1.cell 0, hp1.cell 1, hp1.cell 2, hr.cell 0, hr.cell 1, hr.cell 2⟩ (fun hHeld => ?_)
      clear hK K
      try (simp only [Act.put, List.setIfInBounds_toArray, List.set_cons_zero, List.set_cons_succ])
      refine rd1 16 (fun K hK => ?_)
      have c0 : v5.cell? ⟨g3, 0, none⟩ = some (.int .i32 0) := n3.cell 0
      have z0 := n3.frozen 0
      have c1 : v5.cell? ⟨g3, 1, none⟩ = some (.int .i32 0) := n3.cell 1
      have z1 := n3.frozen 1
      have c2 : v5.cell? ⟨g3, 2, none⟩ = some (.int .i32 0) := n3.cell 2
      have z2 := n3.frozen 2
      go_simp
      try go_wp2_with fail
      replace hp0 := (((hp0.far (p := ⟨g3, 0, none⟩) (by dsimp only; omega) (.int .i32 u0)).far (p := ⟨g3, 1, none⟩) (by dsimp only; omega) (.int .i32 u1)).far (p := ⟨g3, 2, none⟩) (by dsimp only; omega) (.int .i32 u2))
      replace hp1 := (((hp1.far (p := ⟨g3, 0, none⟩) (by dsimp only; omega) (.int .i32 u0)).far (p := ⟨g3, 1, none⟩) (by dsimp only; omega) (.int .i32 u1)).far (p := ⟨g3, 2, none⟩) (by dsimp only; omega) (.int .i32 u2))
      replace hr := (((hr.far (p := ⟨g3, 0, none⟩) (by dsimp only; omega) (.int .i32 u0)).far (p := ⟨g3, 1, none⟩) (by dsimp only; omega) (.int .i32 u1)).far (p := ⟨g3, 2, none⟩) (by dsimp only; omega) (.int .i32 u2))
      replace n5 := (((n5.far (p := ⟨g3, 0, none⟩) (by dsimp only; omega) (.int .i32 u0)).far (p := ⟨g3, 1, none⟩) (by dsimp only; omega) (.int .i32 u1)).far (p := ⟨g3, 2, none⟩) (by dsimp only; omega) (.int .i32 u2))
      replace n3 := (((n3.set_ 0 (.int .i32 u0)).set_ 1 (.int .i32 u1)).set_ 2 (.int .i32 u2))
      replace hb := (((hb.setCell (p := ⟨g3, 0, none⟩) (by dsimp only; omega) (.int .i32 u0)).setCell (p := ⟨g3, 1, none⟩) (by dsimp only; omega) (.int .i32 u1)).setCell (p := ⟨g3, 2, none⟩) (by dsimp only; omega) (.int .i32 u2))
      clear c0 z0 c1 z1 c2 z2
      generalize (((v5.setCell ⟨g3, 0, none⟩ (.int .i32 u0)).setCell ⟨g3, 1, none⟩ (.int .i32 u1)).setCell ⟨g3, 2, none⟩ (.int .i32 u2)) = v7 at *
      refine hK.out _ _ ⟨hp0.cell 0, hp0.cell 1, hp0.cell 2, hp0.cell 3, hp1.cell 0, hp1.cell 1, hp1.cell 2, hr.cell 0, hr.cell 1, hr.cell 2⟩ (fun hHeld => ?_)
      clear hK K
      try (simp only [Act.put, List.setIfInBounds_toArray, List.set_cons_zero, List.set_cons_succ])
      refine rd1 17 (fun K hK => ?_)
      have c0 : v7.cell? ⟨g5, 0, none⟩ = some (.int .i32 0) := n5.cell 0
      have z0 := n5.frozen 0
      have c1 : v7.cell? ⟨g5, 1, none⟩ = some (.int .i32 0) := n5.cell 1
      have z1 := n5.frozen 1
      have c2 : v7.cell? ⟨g5, 2, none⟩ = some (.int .i32 0) := n5.cell 2
      have z2 := n5.frozen 2
      go_simp
      try go_wp2_with fail
      replace hp0 := (((hp0.far (p := ⟨g5, 0, none⟩) (by dsimp only; omega) (.int .i32 v0)).far (p := ⟨g5, 1, none⟩) (by dsimp only; omega) (.int .i32 v1)).far (p := ⟨g5, 2, none⟩) (by dsimp only; omega) (.int .i32 v2))
      replace hp1 := (((hp1.far (p := ⟨g5, 0, none⟩) (by dsimp only; omega) (.int .i32 v0)).far (p := ⟨g5, 1, none⟩) (by dsimp only; omega) (.int .i32 v1)).far (p := ⟨g5, 2, none⟩) (by dsimp only; omega) (.int .i32 v2))
      replace hr := (((hr.far (p := ⟨g5, 0, none⟩) (by dsimp only; omega) (.int .i32 v0)).far (p := ⟨g5, 1, none⟩) (by dsimp only; omega) (.int .i32 v1)).far (p := ⟨g5, 2, none⟩) (by dsimp only; omega) (.int .i32 v2))
      replace n3 := (((n3.far (p := ⟨g5, 0, none⟩) (by dsimp only; omega) (.int .i32 v0)).far (p := ⟨g5, 1, none⟩) (by dsimp only; omega) (.int .i32 v1)).far (p := ⟨g5, 2, none⟩) (by dsimp only; omega) (.int .i32 v2))
      replace n5 := (((n5.set_ 0 (.int .i32 v0)).set_ 1 (.int .i32 v1)).set_ 2 (.int .i32 v2))
      replace hb := (((hb.setCell (p := ⟨g5, 0, none⟩) (by dsimp only; omega) (.int .i32 v0)).setCell (p := ⟨g5, 1, none⟩) (by dsimp only; omega) (.int .i32 v1)).setCell (p := ⟨g5, 2, none⟩) (by dsimp only; omega) (.int .i32 v2))
      clear c0 z0 c1 z1 c2 z2
      generalize (((v7.setCell ⟨g5, 0, none⟩ (.int .i32 v0)).setCell ⟨g5, 1, none⟩ (.int .i32 v1)).setCell ⟨g5, 2, none⟩ (.int .i32 v2)) = v9 at *
      refine hK.out _ _ ⟨hp0.cell 0, hp0.cell 1, hp0.cell 2, hp0.cell 3, hp1.cell 0, hp1.cell 1, hp1.cell 2, hr.cell 0, hr.cell 1, hr.cell 2⟩ (fun hHeld => ?_)
      clear hK K
      try (simp only [Act.put, List.setIfInBounds_toArray, List.set_cons_zero, List.set_cons_succ])
      refine wpAnyH_done ?hru10 ?hqu10 _
      case hru10 => kernel_rfl
      refine NoPanic.normal ?_
      try go_wp2_with fail
      go_meet
      exact ⟨g3, g5, rfl, rfl, n3, n5, hp0, hr, hb⟩
    case hc2q15 =>
      go_simp
      try go_wp2_with fail
      have lb11 := hb.size
      have l11hp0 := hp0.lt
      have l11hp1 := hp1.lt
      have l11hr := hr.lt
      replace hp0 := hp0.alloc (.cells #[.int .i32 0, .int .i32 0, .int .i32 0] 57)
      replace hp1 := hp1.alloc (.cells #[.int .i32 0, .int .i32 0, .int .i32 0] 57)
      replace hr := hr.alloc (.cells #[.int .i32 0, .int .i32 0, .int .i32 0] 57)
      have n11 := Blk.new W1 57 #[.int .i32 0, .int .i32 0, .int .i32 0]
      replace hb := hb.alloc hb.size (.cells #[.int .i32 0, .int .i32 0, .int .i32 0] 57)
      generalize W1.alloc (.cells #[.int .i32 0, .int .i32 0, .int .i32 0] 57) = v11 at *
      generalize W1.heap.size = g11 at *
      refine hK.out _ _ ⟨hp0.cell 0, hp0.cell 1, hp0.cell 2, hp0.cell 3, hp1.cell 0, hp1.cell 1, hp1.cell 2, hr.cell 0, hr.cell 1, hr.cell 2⟩ (fun hHeld => ?_)
      clear hK K
      try (simp only [Act.put, List.setIfInBounds_toArray, List.set_cons_zero, List.set_cons_succ])
      refine rd1 14 (fun K hK => ?_)
      go_simp
      try go_wp2_with fail
      have lb13 := hb.size
      have l13hp0 := hp0.lt
      have l13hp1 := hp1.lt
      have l13hr := hr.lt
      have l13n11 := n11.lt
      replace hp0 := hp0.alloc (.cells #[.int .i32 0, .int .i32 0, .int .i32 0] 57)
      replace hp1 := hp1.alloc (.cells #[.int .i32 0, .int .i32 0, .int .i32 0] 57)
      replace hr := hr.alloc (.cells #[.int .i32 0, .int .i32 0, .int .i32 0] 57)
      replace n11 := n11.alloc (.cells #[.int .i32 0, .int .i32 0, .int .i32 0] 57)
      have n13 := Blk.new v11 57 #[.int .i32 0, .int .i32 0, .int .i32 0]
      replace hb := hb.alloc hb.size (.cells #[.int .i32 0, .int .i32 0, .int .i32 0] 57)
      generalize v11.alloc (.cells #[.int .i32 0, .int .i32 0, .int .i32 0] 57) = v13 at *
      generalize v11.heap.size = g13 at *
      refine hK.out _ _ ⟨hp0.cell 0, hp0.cell 1, hp0.cell 2, hp0.cell 3, hp1.cell 0, hp1.cell 1, hp1.cell 2, hr.cell 0, hr.cell 1, hr.cell 2⟩ (fun hHeld => ?_)
      clear hK K
      try (simp only [Act.put, List.setIfInBounds_toArray, List.set_cons_zero, List.set_cons_succ])
      refine rd1 16 (fun K hK => ?_)
      have c0 : v13.cell? ⟨g13, 0, none⟩ = some (.int .i32 0) := n13.cell 0
      have z0 := n13.frozen 0
      have c1 : v13.cell? ⟨g13, 1, none⟩ = some (.int .i32 0) := n13.cell 1
      have z1 := n13.frozen 1
      have c2 : v13.cell? ⟨g13, 2, none⟩ = some (.int .i32 0) := n13.cell 2
      have z2 := n13.frozen 2
      go_simp
      try go_wp2_with fail
      replace hp0 := (((hp0.far (p := ⟨g13, 0, none⟩) (by dsimp only; omega) (.int .i32 u0)).far (p := ⟨g13, 1, none⟩) (by dsimp only; omega) (.int .i32 u1)).far (p := ⟨g13, 2, none⟩) (by dsimp only; omega) (.int .i32 u2))
      replace hp1 := (((hp1.far (p := ⟨g13, 0, none⟩) (by dsimp only; omega) (.int .i32 u0)).far (p := ⟨g13, 1, none⟩) (by dsimp only; omega) (.int .i32 u1)).far (p := ⟨g13, 2, none⟩) (by dsimp only; omega) (.int .i32 u2))
      replace hr := (((hr.far (p := ⟨g13, 0, none⟩) (by dsimp only; omega) (.int .i32 u0)).far (p := ⟨g13, 1, none⟩) (by dsimp only; omega) (.int .i32 u1)).far (p := ⟨g13, 2, none⟩) (by dsimp only; omega) (.int .i32 u2))
      replace n11 := (((n11.far (p := ⟨g13, 0, none⟩) (by dsimp only; omega) (.int .i32 u0)).far (p := ⟨g13, 1, none⟩) (by dsimp only; omega) (.int .i32 u1)).far (p := ⟨g13, 2, none⟩) (by dsimp only; omega) (.int .i32 u2))
      replace n13 := (((n13.set_ 0 (.int .i32 u0)).set_ 1 (.int .i32 u1)).set_ 2 (.int .i32 u2))
      replace hb := (((hb.setCell (p := ⟨g13, 0, none⟩) (by dsimp only; omega) (.int .i32 u0)).setCell (p := ⟨g13, 1, none⟩) (by dsimp only; omega) (.int .i32 u1)).setCell (p := ⟨g13, 2, none⟩) (by dsimp only; omega) (.int .i32 u2))
      clear c0 z0 c1 z1 c2 z2
      generalize (((v13.setCell ⟨g13, 0, none⟩ (.int .i32 u0)).setCell ⟨g13, 1, none⟩ (.int .i32 u1)).setCell ⟨g13, 2, none⟩ (.int .i32 u2)) = v15 at *
      refine hK.out _ _ ⟨hp0.cell 0, hp0.cell 1, hp0.cell 2, hp0.cell 3, hp1.cell 0, hp1.cell 1, hp1.cell 2, hr.cell 0, hr.cell 1, hr.cell 2⟩ (fun hHeld => ?_)
      clear hK K
      try (simp only [Act.put, List.setIfInBounds_toArray, List.set_cons_zero, List.set_cons_succ])
      refine rd1 17 (fun K hK => ?_)
      have c0 : v15.cell? ⟨g11, 0, none⟩ = some (.int .i32 0) := n11.cell 0
      have z0 := n11.frozen 0
      have c1 : v15.cell? ⟨g11, 1, none⟩ = some (.int .i32 0) := n11.cell 1
      have z1 := n11.frozen 1
      have c2 : v15.cell? ⟨g11, 2, none⟩ = some (.int .i32 0) := n11.cell 2
      have z2 := n11.frozen 2
      go_simp
      try go_wp2_with fail
      replace hp0 := (((hp0.far (p := ⟨g11, 0, none⟩) (by dsimp only; omega) (.int .i32 v0)).far (p := ⟨g11, 1, none⟩) (by dsimp only; omega) (.int .i32 v1)).far (p := ⟨g11, 2, none⟩) (by dsimp only; omega) (.int .i32 v2))
      replace hp1 := (((hp1.far (p := ⟨g11, 0, none⟩) (by dsimp only; omega) (.int .i32 v0)).far (p := ⟨g11, 1, none⟩) (by dsimp only; omega) (.int .i32 v1)).far (p := ⟨g11, 2, none⟩) (by dsimp only; omega) (.int .i32 v2))
      replace hr := (((hr.far (p := ⟨g11, 0, none⟩) (by dsimp only; omega) (.int .i32 v0)).far (p := ⟨g11, 1, none⟩) (by dsimp only; omega) (.int .i32 v1)).far (p := ⟨g11, 2, none⟩) (by dsimp only; omega) (.int .i32 v2))
      replace n13 := (((n13.far (p := ⟨g11, 0, none⟩) (by dsimp only; omega) (.int .i32 v0)).far (p := ⟨g11, 1, none⟩) (by dsimp only; omega) (.int .i32 v1)).far (p := ⟨g11, 2, none⟩) (by dsimp only; omega) (.int .i32 v2))
      replace n11 := (((n11.set_ 0 (.int .i32 v0)).set_ 1 (.int .i32 v1)).set_ 2 (.int .i32 v2))
      replace hb := (((hb.setCell (p := ⟨g11, 0, none⟩) (by dsimp only; omega) (.int .i32 v0)).setCell (p := ⟨g11, 1, none⟩) (by dsimp only; omega) (.int .i32 v1)).setCell (p := ⟨g11, 2, none⟩) (by dsimp only; omega) (.int .i32 v2))
      clear c0 z0 c1 z1 c2 z2
      generalize (((v15.setCell ⟨g11, 0, none⟩ (.int .i32 v0)).setCell ⟨g11, 1, none⟩ (.int .i32 v1)).setCell ⟨g11, 2, none⟩ (.int .i32 v2)) = v17 at *
      refine hK.out _ _ ⟨hp0.cell 0, hp0.cell 1, hp0.cell 2, hp0.cell 3, hp1.cell 0, hp1.cell 1, hp1.cell 2, hr.cell 0, hr.cell 1, hr.cell 2⟩ (fun hHeld => ?_)
      clear hK K
      try (simp only [Act.put, List.setIfInBounds_toArray, List.set_cons_zero, List.set_cons_succ])
      refine wpAnyH_done ?hru18 ?hqu18 _
      case hru18 => kernel_rfl
      refine NoPanic.normal ?_
      try go_wp2_with fail
      go_meet
      exact ⟨g13, g11, rfl, rfl, n13, n11, hp0, hr, hb⟩
  case rest =>
    clear hp0 hp1 hr hb
    obtain ⟨g, h, rfl, rfl, hU, hV, hq, hr, hb⟩ := hcut
    have s0 := ac_bd u1 u2 v1 v2 iu1 iu2 iv1 iv2
    have s1 := ac_bd u2 u0 v2 v0 iu2 iu0 iv2 iv0
    have s2 := ac_bd u0 u1 v0 v1 iu0 iu1 iv0 iv1
    have HE := hid (t_cut_Rotate1 (.pointer (some ⟨g, 0, none⟩)) (.pointer (some ⟨h, 0, none⟩)) (rtT0 u0 u1 u2 v0 v1 v2) (rtT1 u0 u1 u2 v0 v1 v2) (rtT2 u0 u1 u2 v0 v1 v2) wc (by unfold rtT0 I64; omega) (by unfold rtT1 I64; omega) (by unfold rtT2 I64; omega) (by
      intro i V hi w' hw
      rcases hi with ⟨rfl, rfl⟩ | ⟨rfl, rfl⟩ | ⟨rfl, rfl⟩
      · exact c_Rot1_0 g h u0 u1 u2 v0 v1 v2 w' iu0 iu1 iu2 iv0 iv1 iv2 (hU.below hw hU.lt) (hV.below hw hV.lt)
      · exact c_Rot1_1 g h u0 u1 u2 v0 v1 v2 w' iu0 iu1 iu2 iv0 iv1 iv2 (hU.below hw hU.lt) (hV.below hw hV.lt)
      · exact c_Rot1_2 g h u0 u1 u2 v0 v1 v2 w' iu0 iu1 iu2 iv0 iv1 iv2 (hU.below hw hU.lt) (hV.below hw hV.lt)))
    have it0 := clampP_bd (rtT0 u0 u1 u2 v0 v1 v2)
    have it1 := clampP_bd (rtT1 u0 u1 u2 v0 v1 v2)
    have it2 := clampP_bd (rtT2 u0 u1 u2 v0 v1 v2)
    have HPost : Hid (∀ e w', e = .returned (.tuple #[.agg #[.int .i32 (clampP (rtR0 q0 u0 u1 u2 v0 v1 v2 (clampP (rtT0 u0 u1 u2 v0 v1 v2)) (clampP (rtT1 u0 u1 u2 v0 v1 v2)) (clampP (rtT2 u0 u1 u2 v0 v1 v2)))), .int .i32 (clampP (rtR1 q0 u0 u1 u2 v0 v1 v2 (clampP (rtT0 u0 u1 u2 v0 v1 v2)) (clampP (rtT1 u0 u1 u2 v0 v1 v2)) (clampP (rtT2 u0 u1 u2 v0 v1 v2)))), .int .i32 (clampP (rtR2 q0 u0 u1 u2 v0 v1 v2 (clampP (rtT0 u0 u1 u2 v0 v1 v2)) (clampP (rtT1 u0 u1 u2 v0 v1 v2)) (clampP (rtT2 u0 u1 u2 v0 v1 v2))))], .int .i64 (cutC (rtT0 u0 u1 u2 v0 v1 v2) + cutC (rtT1 u0 u1 u2 v0 v1 v2) + cutC (rtT2 u0 u1 u2 v0 v1 v2) + (cutC (rtR0 q0 u0 u1 u2 v0 v1 v2 (clampP (rtT0 u0 u1 u2 v0 v1 v2)) (clampP (rtT1 u0 u1 u2 v0 v1 v2)) (clampP (rtT2 u0 u1 u2 v0 v1 v2))) + cutC (rtR1 q0 u0 u1 u2 v0 v1 v2 (clampP (rtT0 u0 u1 u2 v0 v1 v2)) (clampP (rtT1 u0 u1 u2 v0 v1 v2)) (clampP (rtT2 u0 u1 u2 v0 v1 v2))) + cutC (rtR2 q0 u0 u1 u2 v0 v1 v2 (clampP (rtT0 u0 u1 u2 v0 v1 v2)) (clampP (rtT1 u0 u1 u2 v0 v1 v2)) (clampP (rtT2 u0 u1 u2 v0 v1 v2)))))]) ∧ Below w.heap.size w w' → Rots q0 u0 u1 u2 v0 v1 v2 w e w') := fun e w' h => h
    have nn0 := cutC_bd (rtT0 u0 u1 u2 v0 v1 v2)
    generalize cutC (rtT0 u0 u1 u2 v0 v1 v2) = m0 at *
    have nn1 := cutC_bd (rtT1 u0 u1 u2 v0 v1 v2)
    generalize cutC (rtT1 u0 u1 u2 v0 v1 v2) = m1 at *
    have nn2 := cutC_bd (rtT2 u0 u1 u2 v0 v1 v2)
    generalize cutC (rtT2 u0 u1 u2 v0 v1 v2) = m2 at *
    generalize hy0 : clampP (rtT0 u0 u1 u2 v0 v1 v2) = t0 at *
    clear hy0
    generalize hy1 : clampP (rtT1 u0 u1 u2 v0 v1 v2) = t1 at *
    clear hy1
    generalize hy2 : clampP (rtT2 u0 u1 u2 v0 v1 v2) = t2 at *
    clear hy2
    clear s0 s1 s2
    generalize hM : m0 + m1 + m2 = M at *
    have hMb : 0 ≤ M ∧ M ≤ 3 := by omega
    clear hM nn0 nn1 nn2
    go_wp2_with fail
    refine (HE.out).mono ?_
    rintro e w2 ⟨rfl, bb2⟩
    clear HE
    replace hU := (hU.below bb2 hU.lt).alloc (.cells #[.int .i32 t0, .int .i32 t1, .int .i32 t2] 57)
    replace hV := (hV.below bb2 hV.lt).alloc (.cells #[.int .i32 t0, .int .i32 t1, .int .i32 t2] 57)
    replace hq := (hq.below bb2 hq.lt).alloc (.cells #[.int .i32 t0, .int .i32 t1, .int .i32 t2] 57)
    replace hr := (hr.below bb2 hr.lt).alloc (.cells #[.int .i32 t0, .int .i32 t1, .int .i32 t2] 57)
    replace hb := hb.on bb2
    replace hb := hb.alloc hb.size (.cells #[.int .i32 t0, .int .i32 t1, .int .i32 t2] 57)
    have hT := Blk.new w2 57 #[.int .i32 t0, .int .i32 t1, .int .i32 t2]
    have HE := rot2_tells h w.heap.size w2.heap.size g q0 u0 u1 u2 v0 v1 v2 t0 t1 t2 (w2.alloc (.cells #[.int .i32 t0, .int .i32 t1, .int .i32 t2] 57)) iq0 iu0 iu1 iu2 iv0 iv1 iv2 it0 it1 it2 hV hq hT hU
    have HE2 := hid HE
    clear HE
    generalize hr0 : rtR0 q0 u0 u1 u2 v0 v1 v2 t0 t1 t2 = r0 at *
    generalize hr1 : rtR1 q0 u0 u1 u2 v0 v1 v2 t0 t1 t2 = r1 at *
    generalize hr2 : rtR2 q0 u0 u1 u2 v0 v1 v2 t0 t1 t2 = r2 at *
    clear hr0 hr1 hr2
    have nn0 := cutC_bd r0
    have nn1 := cutC_bd r1
    have nn2 := cutC_bd r2
    generalize clampP r0 = y0 at *
    generalize clampP r1 = y1 at *
    generalize clampP r2 = y2 at *
    generalize hN : cutC r0 + cutC r1 + cutC r2 = N at *
    have hNb : 0 ≤ N ∧ N ≤ 3 := by omega
    clear hN nn0 nn1 nn2 it0 it1 it2 iq0 iu0 iu1 iu2 iv0 iv1 iv2
    have uu : IntKind.i64.wrap (M + N) = M + N := IntWalk.i64_in _ (by omega)
    have e0 := hT.lt
    go_wp2_with fail
    generalize hgw : w2.alloc (.cells #[.int .i32 t0, .int .i32 t1, .int .i32 t2] 57) = w3 at *
    clear hgw
    refine (HE2.out).mono ?_
    rintro e w4 ⟨rfl, bb4⟩
    clear HE2 hU hV hq
    replace hr := (hr.below bb4 hr.lt)
    replace hb := hb.on bb4
    have lr := hr.lt
    replace hr := hr.alloc (.cells #[.int .i32 y0, .int .i32 y1, .int .i32 y2] 57)
    replace hb := hb.alloc hb.size (.cells #[.int .i32 y0, .int .i32 y1, .int .i32 y2] 57)
    have hY := Blk.new w4 57 #[.int .i32 y0, .int .i32 y1, .int .i32 y2]
    go_upto_region 4 with fail
    generalize w4.alloc (.cells #[.int .i32 y0, .int .i32 y1, .int .i32 y2] 57) = W5 at *
    generalize w4.heap.size = gY at *
    have c0 : W5.cell? ⟨gY, 0, none⟩ = some (.int .i32 y0) := hY.cell 0
    have d0 : W5.cell? ⟨w.heap.size + 1 + 1, 0, none⟩ = some (.int .i32 0) := hr.cell 0
    have z0 := hr.frozen 0
    have c1 : W5.cell? ⟨gY, 1, none⟩ = some (.int .i32 y1) := hY.cell 1
    have d1 : W5.cell? ⟨w.heap.size + 1 + 1, 1, none⟩ = some (.int .i32 0) := hr.cell 1
    have z1 := hr.frozen 1
    have c2 : W5.cell? ⟨gY, 2, none⟩ = some (.int .i32 y2) := hY.cell 2
    have d2 : W5.cell? ⟨w.heap.size + 1 + 1, 2, none⟩ = some (.int .i32 0) := hr.cell 2
    have z2 := hr.frozen 2
    have hf : Blk (((W5.setCell ⟨w.heap.size + 1 + 1, 0, none⟩ (.int .i32 y0)).setCell ⟨w.heap.size + 1 + 1, 1, none⟩ (.int .i32 y1)).setCell ⟨w.heap.size + 1 + 1, 2, none⟩ (.int .i32 y2)) (w.heap.size + 1 + 1) 25 #[.int .i32 y0, .int .i32 y1, .int .i32 y2] := (((hr.set_ 0 (.int .i32 y0)).set_ 1 (.int .i32 y1)).set_ 2 (.int .i32 y2))
    have hbf : Below w.heap.size w (((W5.setCell ⟨w.heap.size + 1 + 1, 0, none⟩ (.int .i32 y0)).setCell ⟨w.heap.size + 1 + 1, 1, none⟩ (.int .i32 y1)).setCell ⟨w.heap.size + 1 + 1, 2, none⟩ (.int .i32 y2)) := (((hb.setCell (p := ⟨w.heap.size + 1 + 1, 0, none⟩) (by dsimp only; omega) (.int .i32 y0)).setCell (p := ⟨w.heap.size + 1 + 1, 1, none⟩) (by dsimp only; omega) (.int .i32 y1)).setCell (p := ⟨w.heap.size + 1 + 1, 2, none⟩) (by dsimp only; omega) (.int .i32 y2))
    go_wp2
    generalize (((W5.setCell ⟨w.heap.size + 1 + 1, 0, none⟩ (.int .i32 y0)).setCell ⟨w.heap.size + 1 + 1, 1, none⟩ (.int .i32 y1)).setCell ⟨w.heap.size + 1 + 1, 2, none⟩ (.int .i32 y2)) = wf at *
    have f0 : wf.cell? ⟨w.heap.size + 1 + 1, 0, none⟩ = some (.int .i32 y0) := hf.cell 0
    have f1 : wf.cell? ⟨w.heap.size + 1 + 1, 1, none⟩ = some (.int .i32 y1) := hf.cell 1
    have f2 : wf.cell? ⟨w.heap.size + 1 + 1, 2, none⟩ = some (.int .i32 y2) := hf.cell 2
    simp [bodyPost, results, Try.results13, go_sem, f0, f1, f2]
    exact HPost.out _ _ ⟨rfl, hbf⟩
end Go.Proofs.Ytfogjfmpgfcolaa
