/- Chapter 13: the document's answer, a vector turned. -/
import Derived.Test.YtfogjfmpgfcolaaTurnD
namespace Go.Proofs.Ytfogjfmpgfcolaa
open Go.RowKit
set_option linter.unusedVariables false
set_option linter.unusedSimpArgs false

set_option maxRecDepth 20000 in
set_option maxHeartbeats 16000000 in
theorem r13_Rotate (q0 u0 u1 u2 v0 v1 v2 : Int) (w : World) (iq0 : I32 q0) (iu0 : I32 u0) (iu1 : I32 u1) (iu2 : I32 u2) (iv0 : I32 v0) (iv1 : I32 v1) (iv2 : I32 v2) :
    Calls Try.prog 14 #[.agg #[.int .i32 q0, .int .i32 u0, .int .i32 u1, .int .i32 u2], .agg #[.int .i32 v0, .int .i32 v1, .int .i32 v2]] w (Rots q0 u0 u1 u2 v0 v1 v2 w) := by
  have HPost : Hid (∀ e w', e = .returned (.tuple #[.agg #[.int .i32 (clampP (rtR0 q0 u0 u1 u2 v0 v1 v2 (clampP (rtT0 u0 u1 u2 v0 v1 v2)) (clampP (rtT1 u0 u1 u2 v0 v1 v2)) (clampP (rtT2 u0 u1 u2 v0 v1 v2)))), .int .i32 (clampP (rtR1 q0 u0 u1 u2 v0 v1 v2 (clampP (rtT0 u0 u1 u2 v0 v1 v2)) (clampP (rtT1 u0 u1 u2 v0 v1 v2)) (clampP (rtT2 u0 u1 u2 v0 v1 v2)))), .int .i32 (clampP (rtR2 q0 u0 u1 u2 v0 v1 v2 (clampP (rtT0 u0 u1 u2 v0 v1 v2)) (clampP (rtT1 u0 u1 u2 v0 v1 v2)) (clampP (rtT2 u0 u1 u2 v0 v1 v2))))], .int .i64 (cutC (rtT0 u0 u1 u2 v0 v1 v2) + cutC (rtT1 u0 u1 u2 v0 v1 v2) + cutC (rtT2 u0 u1 u2 v0 v1 v2) + (cutC (rtR0 q0 u0 u1 u2 v0 v1 v2 (clampP (rtT0 u0 u1 u2 v0 v1 v2)) (clampP (rtT1 u0 u1 u2 v0 v1 v2)) (clampP (rtT2 u0 u1 u2 v0 v1 v2))) + cutC (rtR1 q0 u0 u1 u2 v0 v1 v2 (clampP (rtT0 u0 u1 u2 v0 v1 v2)) (clampP (rtT1 u0 u1 u2 v0 v1 v2)) (clampP (rtT2 u0 u1 u2 v0 v1 v2))) + cutC (rtR2 q0 u0 u1 u2 v0 v1 v2 (clampP (rtT0 u0 u1 u2 v0 v1 v2)) (clampP (rtT1 u0 u1 u2 v0 v1 v2)) (clampP (rtT2 u0 u1 u2 v0 v1 v2)))))]) ∧ Below w.heap.size w w' → Rots q0 u0 u1 u2 v0 v1 v2 w e w') := fun e w' h => h
  have Ha := hid fun w => r13_by u1 v2 w iu1 iv2
  have ma := tm_bd u1 v2 iu1 iv2
  have Hb := hid fun w => r13_by u2 v1 w iu2 iv1
  have mb := tm_bd u2 v1 iu2 iv1
  have Hc := hid fun w => r13_by u2 v0 w iu2 iv0
  have mc := tm_bd u2 v0 iu2 iv0
  have Hd := hid fun w => r13_by u0 v2 w iu0 iv2
  have md := tm_bd u0 v2 iu0 iv2
  have Hx := hid fun w => r13_by u0 v1 w iu0 iv1
  have mx := tm_bd u0 v1 iu0 iv1
  have Hy := hid fun w => r13_by u1 v0 w iu1 iv0
  have my := tm_bd u1 v0 iu1 iv0
  have hT0 : 2 * (tmP u1 v2 - tmP u2 v1) = rtT0 u0 u1 u2 v0 v1 v2 := rfl
  have hT1 : 2 * (tmP u2 v0 - tmP u0 v2) = rtT1 u0 u1 u2 v0 v1 v2 := rfl
  have hT2 : 2 * (tmP u0 v1 - tmP u1 v0) = rtT2 u0 u1 u2 v0 v1 v2 := rfl
  generalize hha : tmP u1 v2 = a at *
  clear hha
  generalize hhb : tmP u2 v1 = b at *
  clear hhb
  generalize hhc : tmP u2 v0 = c at *
  clear hhc
  generalize hhd : tmP u0 v2 = d at *
  clear hhd
  generalize hhx : tmP u0 v1 = x at *
  clear hhx
  generalize hhy : tmP u1 v0 = y at *
  clear hhy
  have p0 : IntKind.i64.wrap (a - b) = a - b := IntWalk.i64_in _ (by omega)
  have s0 : IntKind.i64.wrap (2 * (a - b)) = 2 * (a - b) := IntWalk.i64_in _ (by omega)
  have p1 : IntKind.i64.wrap (c - d) = c - d := IntWalk.i64_in _ (by omega)
  have s1 : IntKind.i64.wrap (2 * (c - d)) = 2 * (c - d) := IntWalk.i64_in _ (by omega)
  have p2 : IntKind.i64.wrap (x - y) = x - y := IntWalk.i64_in _ (by omega)
  have s2 : IntKind.i64.wrap (2 * (x - y)) = 2 * (x - y) := IntWalk.i64_in _ (by omega)
  have HE := hid fun w => r9_Cut (2 * (a - b)) (2 * (c - d)) (2 * (x - y)) w (by unfold I64; omega) (by unfold I64; omega) (by unfold I64; omega)
  rw [hT0, hT1, hT2] at HE
  replace s0 : IntKind.i64.wrap (2 * (a - b)) = rtT0 u0 u1 u2 v0 v1 v2 := s0.trans hT0
  replace s1 : IntKind.i64.wrap (2 * (c - d)) = rtT1 u0 u1 u2 v0 v1 v2 := s1.trans hT1
  replace s2 : IntKind.i64.wrap (2 * (x - y)) = rtT2 u0 u1 u2 v0 v1 v2 := s2.trans hT2
  clear hT0 hT1 hT2
  have it0 := clampP_bd (rtT0 u0 u1 u2 v0 v1 v2)
  have nn0 := cutC_bd (rtT0 u0 u1 u2 v0 v1 v2)
  generalize cutC (rtT0 u0 u1 u2 v0 v1 v2) = m0 at *
  generalize hy0 : clampP (rtT0 u0 u1 u2 v0 v1 v2) = t0 at *
  clear hy0
  generalize rtT0 u0 u1 u2 v0 v1 v2 = z0 at *
  have it1 := clampP_bd (rtT1 u0 u1 u2 v0 v1 v2)
  have nn1 := cutC_bd (rtT1 u0 u1 u2 v0 v1 v2)
  generalize cutC (rtT1 u0 u1 u2 v0 v1 v2) = m1 at *
  generalize hy1 : clampP (rtT1 u0 u1 u2 v0 v1 v2) = t1 at *
  clear hy1
  generalize rtT1 u0 u1 u2 v0 v1 v2 = z1 at *
  have it2 := clampP_bd (rtT2 u0 u1 u2 v0 v1 v2)
  have nn2 := cutC_bd (rtT2 u0 u1 u2 v0 v1 v2)
  generalize cutC (rtT2 u0 u1 u2 v0 v1 v2) = m2 at *
  generalize hy2 : clampP (rtT2 u0 u1 u2 v0 v1 v2) = t2 at *
  clear hy2
  generalize rtT2 u0 u1 u2 v0 v1 v2 = z2 at *
  generalize hM : m0 + m1 + m2 = M at *
  have hMb : 0 ≤ M ∧ M ≤ 3 := by omega
  clear hM nn0 nn1 nn2 ma mb mc md mx my
  have hR0 : v0 + tmP q0 t0 + (tmP u1 t2 - tmP u2 t1) = rtR0 q0 u0 u1 u2 v0 v1 v2 t0 t1 t2 := rfl
  have hR1 : v1 + tmP q0 t1 + (tmP u2 t0 - tmP u0 t2) = rtR1 q0 u0 u1 u2 v0 v1 v2 t0 t1 t2 := rfl
  have hR2 : v2 + tmP q0 t2 + (tmP u0 t1 - tmP u1 t0) = rtR2 q0 u0 u1 u2 v0 v1 v2 t0 t1 t2 := rfl
  have JA := hid fun w => r13_by q0 t0 w iq0 it0
  have nA := tm_bd q0 t0 iq0 it0
  have JB := hid fun w => r13_by u1 t2 w iu1 it2
  have nB := tm_bd u1 t2 iu1 it2
  have JC := hid fun w => r13_by u2 t1 w iu2 it1
  have nC := tm_bd u2 t1 iu2 it1
  have JD := hid fun w => r13_by q0 t1 w iq0 it1
  have nD := tm_bd q0 t1 iq0 it1
  have JE := hid fun w => r13_by u2 t0 w iu2 it0
  have nE := tm_bd u2 t0 iu2 it0
  have JF := hid fun w => r13_by u0 t2 w iu0 it2
  have nF := tm_bd u0 t2 iu0 it2
  have JG := hid fun w => r13_by q0 t2 w iq0 it2
  have nG := tm_bd q0 t2 iq0 it2
  have JH := hid fun w => r13_by u0 t1 w iu0 it1
  have nH := tm_bd u0 t1 iu0 it1
  have JK := hid fun w => r13_by u1 t0 w iu1 it0
  have nK := tm_bd u1 t0 iu1 it0
  generalize ggA : tmP q0 t0 = A at *
  clear ggA
  generalize ggB : tmP u1 t2 = B at *
  clear ggB
  generalize ggC : tmP u2 t1 = C at *
  clear ggC
  generalize ggD : tmP q0 t1 = D at *
  clear ggD
  generalize ggE : tmP u2 t0 = E at *
  clear ggE
  generalize ggF : tmP u0 t2 = F at *
  clear ggF
  generalize ggG : tmP q0 t2 = G at *
  clear ggG
  generalize ggH : tmP u0 t1 = H at *
  clear ggH
  generalize ggK : tmP u1 t0 = K at *
  clear ggK
  have x0 : IntKind.i64.wrap (v0 + A + B - C) = rtR0 q0 u0 u1 u2 v0 v1 v2 t0 t1 t2 := (IntWalk.i64_in _ (by unfold I32 at *; omega)).trans (by omega)
  have xa0 : IntKind.i64.wrap (v0 + A) = v0 + A := IntWalk.i64_in _ (by unfold I32 at *; omega)
  have xb0 : IntKind.i64.wrap (v0 + A + B) = v0 + A + B := IntWalk.i64_in _ (by unfold I32 at *; omega)
  have xc0 : IntKind.i64.wrap v0 = v0 := IntWalk.i64_in _ (by unfold I32 at *; omega)
  have bb0 : I64 (rtR0 q0 u0 u1 u2 v0 v1 v2 t0 t1 t2) := by rw [← hR0]; unfold I32 I64 at *; omega
  have x1 : IntKind.i64.wrap (v1 + D + E - F) = rtR1 q0 u0 u1 u2 v0 v1 v2 t0 t1 t2 := (IntWalk.i64_in _ (by unfold I32 at *; omega)).trans (by omega)
  have xa1 : IntKind.i64.wrap (v1 + D) = v1 + D := IntWalk.i64_in _ (by unfold I32 at *; omega)
  have xb1 : IntKind.i64.wrap (v1 + D + E) = v1 + D + E := IntWalk.i64_in _ (by unfold I32 at *; omega)
  have xc1 : IntKind.i64.wrap v1 = v1 := IntWalk.i64_in _ (by unfold I32 at *; omega)
  have bb1 : I64 (rtR1 q0 u0 u1 u2 v0 v1 v2 t0 t1 t2) := by rw [← hR1]; unfold I32 I64 at *; omega
  have x2 : IntKind.i64.wrap (v2 + G + H - K) = rtR2 q0 u0 u1 u2 v0 v1 v2 t0 t1 t2 := (IntWalk.i64_in _ (by unfold I32 at *; omega)).trans (by omega)
  have xa2 : IntKind.i64.wrap (v2 + G) = v2 + G := IntWalk.i64_in _ (by unfold I32 at *; omega)
  have xb2 : IntKind.i64.wrap (v2 + G + H) = v2 + G + H := IntWalk.i64_in _ (by unfold I32 at *; omega)
  have xc2 : IntKind.i64.wrap v2 = v2 := IntWalk.i64_in _ (by unfold I32 at *; omega)
  have bb2 : I64 (rtR2 q0 u0 u1 u2 v0 v1 v2 t0 t1 t2) := by rw [← hR2]; unfold I32 I64 at *; omega
  have HC := hid fun w => r9_Cut (rtR0 q0 u0 u1 u2 v0 v1 v2 t0 t1 t2) (rtR1 q0 u0 u1 u2 v0 v1 v2 t0 t1 t2) (rtR2 q0 u0 u1 u2 v0 v1 v2 t0 t1 t2) w bb0 bb1 bb2
  clear hR0 bb0
  have nn0 := cutC_bd (rtR0 q0 u0 u1 u2 v0 v1 v2 t0 t1 t2)
  generalize clampP (rtR0 q0 u0 u1 u2 v0 v1 v2 t0 t1 t2) = y0 at *
  clear hR1 bb1
  have nn1 := cutC_bd (rtR1 q0 u0 u1 u2 v0 v1 v2 t0 t1 t2)
  generalize clampP (rtR1 q0 u0 u1 u2 v0 v1 v2 t0 t1 t2) = y1 at *
  clear hR2 bb2
  have nn2 := cutC_bd (rtR2 q0 u0 u1 u2 v0 v1 v2 t0 t1 t2)
  generalize clampP (rtR2 q0 u0 u1 u2 v0 v1 v2 t0 t1 t2) = y2 at *
  generalize hN : cutC (rtR0 q0 u0 u1 u2 v0 v1 v2 t0 t1 t2) + cutC (rtR1 q0 u0 u1 u2 v0 v1 v2 t0 t1 t2) + cutC (rtR2 q0 u0 u1 u2 v0 v1 v2 t0 t1 t2) = N at *
  have hNb : 0 ≤ N ∧ N ≤ 3 := by omega
  clear hN nn0 nn1 nn2
  generalize rtR0 q0 u0 u1 u2 v0 v1 v2 t0 t1 t2 = r0 at *
  generalize rtR1 q0 u0 u1 u2 v0 v1 v2 t0 t1 t2 = r1 at *
  generalize rtR2 q0 u0 u1 u2 v0 v1 v2 t0 t1 t2 = r2 at *
  have uu : IntKind.i64.wrap (M + N) = M + N := IntWalk.i64_in _ (by omega)
  clear hMb hNb it0 it1 it2 nA nB nC nD nE nF nG nH nK iq0 iu0 iu1 iu2 iv0 iv1 iv2
  have hp0 : Blk (((w.alloc (.cells #[.int .i32 q0, .int .i32 u0, .int .i32 u1, .int .i32 u2] 23)).alloc (.cells #[.int .i32 v0, .int .i32 v1, .int .i32 v2] 25)).alloc (.cells #[.int .i32 0, .int .i32 0, .int .i32 0] 25)) w.heap.size 23 #[.int .i32 q0, .int .i32 u0, .int .i32 u1, .int .i32 u2] := ((Blk.new w _ _).alloc _).alloc _
  have hp1 : Blk (((w.alloc (.cells #[.int .i32 q0, .int .i32 u0, .int .i32 u1, .int .i32 u2] 23)).alloc (.cells #[.int .i32 v0, .int .i32 v1, .int .i32 v2] 25)).alloc (.cells #[.int .i32 0, .int .i32 0, .int .i32 0] 25)) (w.heap.size + 1) 25 #[.int .i32 v0, .int .i32 v1, .int .i32 v2] := by have := (Blk.new (w.alloc (.cells #[.int .i32 q0, .int .i32 u0, .int .i32 u1, .int .i32 u2] 23)) 25 #[.int .i32 v0, .int .i32 v1, .int .i32 v2]).alloc (.cells #[.int .i32 0, .int .i32 0, .int .i32 0] 25); simpa using this
  have hr : Blk (((w.alloc (.cells #[.int .i32 q0, .int .i32 u0, .int .i32 u1, .int .i32 u2] 23)).alloc (.cells #[.int .i32 v0, .int .i32 v1, .int .i32 v2] 25)).alloc (.cells #[.int .i32 0, .int .i32 0, .int .i32 0] 25)) (w.heap.size + 1 + 1) 25 #[.int .i32 0, .int .i32 0, .int .i32 0] := by have := Blk.new ((w.alloc (.cells #[.int .i32 q0, .int .i32 u0, .int .i32 u1, .int .i32 u2] 23)).alloc (.cells #[.int .i32 v0, .int .i32 v1, .int .i32 v2] 25)) 25 #[.int .i32 0, .int .i32 0, .int .i32 0]; simpa using this
  have hb : Below w.heap.size w (((w.alloc (.cells #[.int .i32 q0, .int .i32 u0, .int .i32 u1, .int .i32 u2] 23)).alloc (.cells #[.int .i32 v0, .int .i32 v1, .int .i32 v2] 25)).alloc (.cells #[.int .i32 0, .int .i32 0, .int .i32 0] 25)) := (((Below.refl _ w).alloc (Nat.le_refl _) _).alloc (by simp) _).alloc (by simp; omega) _
  go_enter Try.func14, Try.ntmps14
  go_upto_region 1 with fail
  generalize ((w.alloc (.cells #[.int .i32 q0, .int .i32 u0, .int .i32 u1, .int .i32 u2] 23)).alloc (.cells #[.int .i32 v0, .int .i32 v1, .int .i32 v2] 25)).alloc (.cells #[.int .i32 0, .int .i32 0, .int .i32 0] 25) = W0 at *
  go_cut [6, 7] from 13 to 52 (fun pp mm wx => ∃ g : Nat, pp = .pointer (some ⟨g, 0, none⟩) ∧ mm = .int .i64 M ∧ Blk wx g 25 #[.int .i32 t0, .int .i32 t1, .int .i32 t2] ∧ Blk wx w.heap.size 23 #[.int .i32 q0, .int .i32 u0, .int .i32 u1, .int .i32 u2] ∧ Blk wx (w.heap.size + 1) 25 #[.int .i32 v0, .int .i32 v1, .int .i32 v2] ∧ Blk wx (w.heap.size + 1 + 1) 25 #[.int .i32 0, .int .i32 0, .int .i32 0] ∧ Below w.heap.size w wx)
  case first =>
    refine wp_region_noPanic ?_
    refine wp_region_held_drew (S := (fun w' : World => w'.cell? ⟨w.heap.size, 0, none⟩ = some (.int .i32 q0) ∧ w'.cell? ⟨w.heap.size, 1, none⟩ = some (.int .i32 u0) ∧ w'.cell? ⟨w.heap.size, 2, none⟩ = some (.int .i32 u1) ∧ w'.cell? ⟨w.heap.size, 3, none⟩ = some (.int .i32 u2) ∧ w'.cell? ⟨w.heap.size + 1, 0, none⟩ = some (.int .i32 v0) ∧ w'.cell? ⟨w.heap.size + 1, 1, none⟩ = some (.int .i32 v1) ∧ w'.cell? ⟨w.heap.size + 1, 2, none⟩ = some (.int .i32 v2) ∧ w'.cell? ⟨w.heap.size + 1 + 1, 0, none⟩ = some (.int .i32 0) ∧ w'.cell? ⟨w.heap.size + 1 + 1, 1, none⟩ = some (.int .i32 0) ∧ w'.cell? ⟨w.heap.size + 1 + 1, 2, none⟩ = some (.int .i32 0))) (by kernel_rfl) ⟨hp0.cell 0, hp0.cell 1, hp0.cell 2, hp0.cell 3, hp1.cell 0, hp1.cell 1, hp1.cell 2, hr.cell 0, hr.cell 1, hr.cell 2⟩ (fun hHeld => ?_)
    refine (show wpAnyH _ _ _ _ _ 43 _ _ _ from ?_)
    try (simp only [Act.put, List.setIfInBounds_toArray, List.set_cons_zero, List.set_cons_succ])
    replace hp0 := hp0.drew
    replace hp1 := hp1.drew
    replace hr := hr.drew
    replace hb := hb.drew
    generalize W0.drew = W1 at *
    refine tk 0 hHeld ?_
    refine tk 1 hHeld ?_
    refine tk 2 hHeld ?_
    refine tk 3 hHeld ?_
    refine tk 5 hHeld ?_
    refine tk 6 hHeld ?_
    refine tk 7 hHeld ?_
    refine tk 8 hHeld ?_
    refine tk 12 hHeld ?_
    refine tk 13 hHeld ?_
    refine tk 14 hHeld ?_
    refine tk 15 hHeld ?_
    refine tk 17 hHeld ?_
    refine tk 18 hHeld ?_
    refine tk 19 hHeld ?_
    refine tk 20 hHeld ?_
    refine tk 24 hHeld ?_
    refine tk 25 hHeld ?_
    refine tk 26 hHeld ?_
    refine tk 27 hHeld ?_
    refine tk 29 hHeld ?_
    refine tk 30 hHeld ?_
    refine tk 31 hHeld ?_
    refine tk 32 hHeld ?_
    refine rd2 4 40 (fun K hK => ?hc2q4) (fun K hK => ?hc2q40)
    case hc2q4 =>
      go_simp
      refine (Ha.out _).mono ?_
      rintro e w' ⟨rfl, rfl⟩
      go_wp2_with fail
      refine hK.out _ _ ⟨hp0.cell 0, hp0.cell 1, hp0.cell 2, hp0.cell 3, hp1.cell 0, hp1.cell 1, hp1.cell 2, hr.cell 0, hr.cell 1, hr.cell 2⟩ (fun hHeld => ?_)
      clear hK K
      try (simp only [Act.put, List.setIfInBounds_toArray, List.set_cons_zero, List.set_cons_succ])
      refine rd2 9 40 (fun K hK => ?hc4q9) (fun K hK => ?hc4q40)
      case hc4q9 =>
        go_simp
        refine (Hb.out _).mono ?_
        rintro e w' ⟨rfl, rfl⟩
        go_wp2_with fail
        refine hK.out _ _ ⟨hp0.cell 0, hp0.cell 1, hp0.cell 2, hp0.cell 3, hp1.cell 0, hp1.cell 1, hp1.cell 2, hr.cell 0, hr.cell 1, hr.cell 2⟩ (fun hHeld => ?_)
        clear hK K
        try (simp only [Act.put, List.setIfInBounds_toArray, List.set_cons_zero, List.set_cons_succ])
        refine tk 10 hHeld ?_
        refine tk 11 hHeld ?_
        refine rd2 16 40 (fun K hK => ?hc6q16) (fun K hK => ?hc6q40)
        case hc6q16 =>
          go_simp
          refine (Hc.out _).mono ?_
          rintro e w' ⟨rfl, rfl⟩
          go_wp2_with fail
          refine hK.out _ _ ⟨hp0.cell 0, hp0.cell 1, hp0.cell 2, hp0.cell 3, hp1.cell 0, hp1.cell 1, hp1.cell 2, hr.cell 0, hr.cell 1, hr.cell 2⟩ (fun hHeld => ?_)
          clear hK K
          try (simp only [Act.put, List.setIfInBounds_toArray, List.set_cons_zero, List.set_cons_succ])
          refine rd2 21 40 (fun K hK => ?hc8q21) (fun K hK => ?hc8q40)
          case hc8q21 =>
            go_simp
            refine (Hd.out _).mono ?_
            rintro e w' ⟨rfl, rfl⟩
            go_wp2_with fail
            refine hK.out _ _ ⟨hp0.cell 0, hp0.cell 1, hp0.cell 2, hp0.cell 3, hp1.cell 0, hp1.cell 1, hp1.cell 2, hr.cell 0, hr.cell 1, hr.cell 2⟩ (fun hHeld => ?_)
            clear hK K
            try (simp only [Act.put, List.setIfInBounds_toArray, List.set_cons_zero, List.set_cons_succ])
            refine tk 22 hHeld ?_
            refine tk 23 hHeld ?_
            refine rd2 28 40 (fun K hK => ?hc10q28) (fun K hK => ?hc10q40)
            case hc10q28 =>
              go_simp
              refine (Hx.out _).mono ?_
              rintro e w' ⟨rfl, rfl⟩
              go_wp2_with fail
              refine hK.out _ _ ⟨hp0.cell 0, hp0.cell 1, hp0.cell 2, hp0.cell 3, hp1.cell 0, hp1.cell 1, hp1.cell 2, hr.cell 0, hr.cell 1, hr.cell 2⟩ (fun hHeld => ?_)
              clear hK K
              try (simp only [Act.put, List.setIfInBounds_toArray, List.set_cons_zero, List.set_cons_succ])
              refine rd2 33 40 (fun K hK => ?hc12q33) (fun K hK => ?hc12q40)
              case hc12q33 =>
                go_simp
                refine (Hy.out _).mono ?_
                rintro e w' ⟨rfl, rfl⟩
                go_wp2_with fail
                refine hK.out _ _ ⟨hp0.cell 0, hp0.cell 1, hp0.cell 2, hp0.cell 3, hp1.cell 0, hp1.cell 1, hp1.cell 2, hr.cell 0, hr.cell 1, hr.cell 2⟩ (fun hHeld => ?_)
                clear hK K
                try (simp only [Act.put, List.setIfInBounds_toArray, List.set_cons_zero, List.set_cons_succ])
                refine tk 34 hHeld ?_
                refine tk 35 hHeld ?_
                refine rd2 36 40 (fun K hK => ?hc14q36) (fun K hK => ?hc14q40)
                case hc14q36 =>
                  go_simp
                  refine (HE.out _).mono ?_
                  rintro e v15 ⟨rfl, bb⟩
                  go_wp2_with fail
                  replace hp0 := hp0.below bb hp0.lt
                  replace hp1 := hp1.below bb hp1.lt
                  replace hr := hr.below bb hr.lt
                  replace hb := hb.on bb
                  clear bb
                  refine hK.out _ _ ⟨hp0.cell 0, hp0.cell 1, hp0.cell 2, hp0.cell 3, hp1.cell 0, hp1.cell 1, hp1.cell 2, hr.cell 0, hr.cell 1, hr.cell 2⟩ (fun hHeld => ?_)
                  clear hK K
                  try (simp only [Act.put, List.setIfInBounds_toArray, List.set_cons_zero, List.set_cons_succ])
                  refine tk 37 hHeld ?_
                  refine tk 38 hHeld ?_
                  refine tk 39 hHeld ?_
                  refine rd1 40 (fun K hK => ?_)
                  go_simp
                  try go_wp2_with fail
                  have lb17 := hb.size
                  have l17hp0 := hp0.lt
                  have l17hp1 := hp1.lt
                  have l17hr := hr.lt
                  replace hp0 := hp0.alloc (.cells #[.int .i32 0, .int .i32 0, .int .i32 0] 25)
                  replace hp1 := hp1.alloc (.cells #[.int .i32 0, .int .i32 0, .int .i32 0] 25)
                  replace hr := hr.alloc (.cells #[.int .i32 0, .int .i32 0, .int .i32 0] 25)
                  have n17 := Blk.new v15 25 #[.int .i32 0, .int .i32 0, .int .i32 0]
                  replace hb := hb.alloc hb.size (.cells #[.int .i32 0, .int .i32 0, .int .i32 0] 25)
                  generalize v15.alloc (.cells #[.int .i32 0, .int .i32 0, .int .i32 0] 25) = v17 at *
                  generalize v15.heap.size = g17 at *
                  refine hK.out _ _ ⟨hp0.cell 0, hp0.cell 1, hp0.cell 2, hp0.cell 3, hp1.cell 0, hp1.cell 1, hp1.cell 2, hr.cell 0, hr.cell 1, hr.cell 2⟩ (fun hHeld => ?_)
                  clear hK K
                  try (simp only [Act.put, List.setIfInBounds_toArray, List.set_cons_zero, List.set_cons_succ])
                  refine rd1 41 (fun K hK => ?_)
                  have c0 : v17.cell? ⟨g17, 0, none⟩ = some (.int .i32 0) := n17.cell 0
                  have z0 := n17.frozen 0
                  have c1 : v17.cell? ⟨g17, 1, none⟩ = some (.int .i32 0) := n17.cell 1
                  have z1 := n17.frozen 1
                  have c2 : v17.cell? ⟨g17, 2, none⟩ = some (.int .i32 0) := n17.cell 2
                  have z2 := n17.frozen 2
                  go_simp
                  try go_wp2_with fail
                  replace hp0 := (((hp0.far (p := ⟨g17, 0, none⟩) (by dsimp only; omega) (.int .i32 t0)).far (p := ⟨g17, 1, none⟩) (by dsimp only; omega) (.int .i32 t1)).far (p := ⟨g17, 2, none⟩) (by dsimp only; omega) (.int .i32 t2))
                  replace hp1 := (((hp1.far (p := ⟨g17, 0, none⟩) (by dsimp only; omega) (.int .i32 t0)).far (p := ⟨g17, 1, none⟩) (by dsimp only; omega) (.int .i32 t1)).far (p := ⟨g17, 2, none⟩) (by dsimp only; omega) (.int .i32 t2))
                  replace hr := (((hr.far (p := ⟨g17, 0, none⟩) (by dsimp only; omega) (.int .i32 t0)).far (p := ⟨g17, 1, none⟩) (by dsimp only; omega) (.int .i32 t1)).far (p := ⟨g17, 2, none⟩) (by dsimp only; omega) (.int .i32 t2))
                  replace n17 := (((n17.set_ 0 (.int .i32 t0)).set_ 1 (.int .i32 t1)).set_ 2 (.int .i32 t2))
                  replace hb := (((hb.setCell (p := ⟨g17, 0, none⟩) (by dsimp only; omega) (.int .i32 t0)).setCell (p := ⟨g17, 1, none⟩) (by dsimp only; omega) (.int .i32 t1)).setCell (p := ⟨g17, 2, none⟩) (by dsimp only; omega) (.int .i32 t2))
                  clear c0 z0 c1 z1 c2 z2
                  generalize (((v17.setCell ⟨g17, 0, none⟩ (.int .i32 t0)).setCell ⟨g17, 1, none⟩ (.int .i32 t1)).setCell ⟨g17, 2, none⟩ (.int .i32 t2)) = v19 at *
                  refine hK.out _ _ ⟨hp0.cell 0, hp0.cell 1, hp0.cell 2, hp0.cell 3, hp1.cell 0, hp1.cell 1, hp1.cell 2, hr.cell 0, hr.cell 1, hr.cell 2⟩ (fun hHeld => ?_)
                  clear hK K
                  try (simp only [Act.put, List.setIfInBounds_toArray, List.set_cons_zero, List.set_cons_succ])
                  refine tk 42 hHeld ?_
                  refine wpAnyH_done ?hru20 ?hqu20 _
                  case hru20 => kernel_rfl
                  refine NoPanic.normal ?_
                  try go_wp2_with fail
                  go_meet
                  exact ⟨g17, rfl, rfl, n17, hp0, hp1, hr, hb⟩
                case hc14q40 =>
                  go_simp
                  try go_wp2_with fail
                  have lb21 := hb.size
                  have l21hp0 := hp0.lt
                  have l21hp1 := hp1.lt
                  have l21hr := hr.lt
                  replace hp0 := hp0.alloc (.cells #[.int .i32 0, .int .i32 0, .int .i32 0] 25)
                  replace hp1 := hp1.alloc (.cells #[.int .i32 0, .int .i32 0, .int .i32 0] 25)
                  replace hr := hr.alloc (.cells #[.int .i32 0, .int .i32 0, .int .i32 0] 25)
                  have n21 := Blk.new W1 25 #[.int .i32 0, .int .i32 0, .int .i32 0]
                  replace hb := hb.alloc hb.size (.cells #[.int .i32 0, .int .i32 0, .int .i32 0] 25)
                  generalize W1.alloc (.cells #[.int .i32 0, .int .i32 0, .int .i32 0] 25) = v21 at *
                  generalize W1.heap.size = g21 at *
                  refine hK.out _ _ ⟨hp0.cell 0, hp0.cell 1, hp0.cell 2, hp0.cell 3, hp1.cell 0, hp1.cell 1, hp1.cell 2, hr.cell 0, hr.cell 1, hr.cell 2⟩ (fun hHeld => ?_)
                  clear hK K
                  try (simp only [Act.put, List.setIfInBounds_toArray, List.set_cons_zero, List.set_cons_succ])
                  refine rd1 36 (fun K hK => ?_)
                  go_simp
                  refine (HE.out _).mono ?_
                  rintro e v23 ⟨rfl, bb⟩
                  go_wp2_with fail
                  replace hp0 := hp0.below bb hp0.lt
                  replace hp1 := hp1.below bb hp1.lt
                  replace hr := hr.below bb hr.lt
                  replace n21 := n21.below bb n21.lt
                  replace hb := hb.on bb
                  clear bb
                  refine hK.out _ _ ⟨hp0.cell 0, hp0.cell 1, hp0.cell 2, hp0.cell 3, hp1.cell 0, hp1.cell 1, hp1.cell 2, hr.cell 0, hr.cell 1, hr.cell 2⟩ (fun hHeld => ?_)
                  clear hK K
                  try (simp only [Act.put, List.setIfInBounds_toArray, List.set_cons_zero, List.set_cons_succ])
                  refine tk 37 hHeld ?_
                  refine tk 38 hHeld ?_
                  refine tk 39 hHeld ?_
                  refine rd1 41 (fun K hK => ?_)
                  have c0 : v23.cell? ⟨g21, 0, none⟩ = some (.int .i32 0) := n21.cell 0
                  have z0 := n21.frozen 0
                  have c1 : v23.cell? ⟨g21, 1, none⟩ = some (.int .i32 0) := n21.cell 1
                  have z1 := n21.frozen 1
                  have c2 : v23.cell? ⟨g21, 2, none⟩ = some (.int .i32 0) := n21.cell 2
                  have z2 := n21.frozen 2
                  go_simp
                  try go_wp2_with fail
                  replace hp0 := (((hp0.far (p := ⟨g21, 0, none⟩) (by dsimp only; omega) (.int .i32 t0)).far (p := ⟨g21, 1, none⟩) (by dsimp only; omega) (.int .i32 t1)).far (p := ⟨g21, 2, none⟩) (by dsimp only; omega) (.int .i32 t2))
                  replace hp1 := (((hp1.far (p := ⟨g21, 0, none⟩) (by dsimp only; omega) (.int .i32 t0)).far (p := ⟨g21, 1, none⟩) (by dsimp only; omega) (.int .i32 t1)).far (p := ⟨g21, 2, none⟩) (by dsimp only; omega) (.int .i32 t2))
                  replace hr := (((hr.far (p := ⟨g21, 0, none⟩) (by dsimp only; omega) (.int .i32 t0)).far (p := ⟨g21, 1, none⟩) (by dsimp only; omega) (.int .i32 t1)).far (p := ⟨g21, 2, none⟩) (by dsimp only; omega) (.int .i32 t2))
                  replace n21 := (((n21.set_ 0 (.int .i32 t0)).set_ 1 (.int .i32 t1)).set_ 2 (.int .i32 t2))
                  replace hb := (((hb.setCell (p := ⟨g21, 0, none⟩) (by dsimp only; omega) (.int .i32 t0)).setCell (p := ⟨g21, 1, none⟩) (by dsimp only; omega) (.int .i32 t1)).setCell (p := ⟨g21, 2, none⟩) (by dsimp only; omega) (.int .i32 t2))
                  clear c0 z0 c1 z1 c2 z2
                  generalize (((v23.setCell ⟨g21, 0, none⟩ (.int .i32 t0)).setCell ⟨g21, 1, none⟩ (.int .i32 t1)).setCell ⟨g21, 2, none⟩ (.int .i32 t2)) = v25 at *
                  refine hK.out _ _ ⟨hp0.cell 0, hp0.cell 1, hp0.cell 2, hp0.cell 3, hp1.cell 0, hp1.cell 1, hp1.cell 2, hr.cell 0, hr.cell 1, hr.cell 2⟩ (fun hHeld => ?_)
                  clear hK K
                  try (simp only [Act.put, List.setIfInBounds_toArray, List.set_cons_zero, List.set_cons_succ])
                  refine tk 42 hHeld ?_
                  refine wpAnyH_done ?hru26 ?hqu26 _
                  case hru26 => kernel_rfl
                  refine NoPanic.normal ?_
                  try go_wp2_with fail
                  go_meet
                  exact ⟨g21, rfl, rfl, n21, hp0, hp1, hr, hb⟩
              case hc12q40 =>
                go_simp
                try go_wp2_with fail
                have lb27 := hb.size
                have l27hp0 := hp0.lt
                have l27hp1 := hp1.lt
                have l27hr := hr.lt
                replace hp0 := hp0.alloc (.cells #[.int .i32 0, .int .i32 0, .int .i32 0] 25)
                replace hp1 := hp1.alloc (.cells #[.int .i32 0, .int .i32 0, .int .i32 0] 25)
                replace hr := hr.alloc (.cells #[.int .i32 0, .int .i32 0, .int .i32 0] 25)
                have n27 := Blk.new W1 25 #[.int .i32 0, .int .i32 0, .int .i32 0]
                replace hb := hb.alloc hb.size (.cells #[.int .i32 0, .int .i32 0, .int .i32 0] 25)
                generalize W1.alloc (.cells #[.int .i32 0, .int .i32 0, .int .i32 0] 25) = v27 at *
                generalize W1.heap.size = g27 at *
                refine hK.out _ _ ⟨hp0.cell 0, hp0.cell 1, hp0.cell 2, hp0.cell 3, hp1.cell 0, hp1.cell 1, hp1.cell 2, hr.cell 0, hr.cell 1, hr.cell 2⟩ (fun hHeld => ?_)
                clear hK K
                try (simp only [Act.put, List.setIfInBounds_toArray, List.set_cons_zero, List.set_cons_succ])
                refine rd1 33 (fun K hK => ?_)
                go_simp
                refine (Hy.out _).mono ?_
                rintro e w' ⟨rfl, rfl⟩
                go_wp2_with fail
                refine hK.out _ _ ⟨hp0.cell 0, hp0.cell 1, hp0.cell 2, hp0.cell 3, hp1.cell 0, hp1.cell 1, hp1.cell 2, hr.cell 0, hr.cell 1, hr.cell 2⟩ (fun hHeld => ?_)
                clear hK K
                try (simp only [Act.put, List.setIfInBounds_toArray, List.set_cons_zero, List.set_cons_succ])
                refine tk 34 hHeld ?_
                refine tk 35 hHeld ?_
                refine rd1 36 (fun K hK => ?_)
                go_simp
                refine (HE.out _).mono ?_
                rintro e v31 ⟨rfl, bb⟩
                go_wp2_with fail
                replace hp0 := hp0.below bb hp0.lt
                replace hp1 := hp1.below bb hp1.lt
                replace hr := hr.below bb hr.lt
                replace n27 := n27.below bb n27.lt
                replace hb := hb.on bb
                clear bb
                refine hK.out _ _ ⟨hp0.cell 0, hp0.cell 1, hp0.cell 2, hp0.cell 3, hp1.cell 0, hp1.cell 1, hp1.cell 2, hr.cell 0, hr.cell 1, hr.cell 2⟩ (fun hHeld => ?_)
                clear hK K
                try (simp only [Act.put, List.setIfInBounds_toArray, List.set_cons_zero, List.set_cons_succ])
                refine tk 37 hHeld ?_
                refine tk 38 hHeld ?_
                refine tk 39 hHeld ?_
                refine rd1 41 (fun K hK => ?_)
                have c0 : v31.cell? ⟨g27, 0, none⟩ = some (.int .i32 0) := n27.cell 0
                have z0 := n27.frozen 0
                have c1 : v31.cell? ⟨g27, 1, none⟩ = some (.int .i32 0) := n27.cell 1
                have z1 := n27.frozen 1
                have c2 : v31.cell? ⟨g27, 2, none⟩ = some (.int .i32 0) := n27.cell 2
                have z2 := n27.frozen 2
                go_simp
                try go_wp2_with fail
                replace hp0 := (((hp0.far (p := ⟨g27, 0, none⟩) (by dsimp only; omega) (.int .i32 t0)).far (p := ⟨g27, 1, none⟩) (by dsimp only; omega) (.int .i32 t1)).far (p := ⟨g27, 2, none⟩) (by dsimp only; omega) (.int .i32 t2))
                replace hp1 := (((hp1.far (p := ⟨g27, 0, none⟩) (by dsimp only; omega) (.int .i32 t0)).far (p := ⟨g27, 1, none⟩) (by dsimp only; omega) (.int .i32 t1)).far (p := ⟨g27, 2, none⟩) (by dsimp only; omega) (.int .i32 t2))
                replace hr := (((hr.far (p := ⟨g27, 0, none⟩) (by dsimp only; omega) (.int .i32 t0)).far (p := ⟨g27, 1, none⟩) (by dsimp only; omega) (.int .i32 t1)).far (p := ⟨g27, 2, none⟩) (by dsimp only; omega) (.int .i32 t2))
                replace n27 := (((n27.set_ 0 (.int .i32 t0)).set_ 1 (.int .i32 t1)).set_ 2 (.int .i32 t2))
                replace hb := (((hb.setCell (p := ⟨g27, 0, none⟩) (by dsimp only; omega) (.int .i32 t0)).setCell (p := ⟨g27, 1, none⟩) (by dsimp only; omega) (.int .i32 t1)).setCell (p := ⟨g27, 2, none⟩) (by dsimp only; omega) (.int .i32 t2))
                clear c0 z0 c1 z1 c2 z2
                generalize (((v31.setCell ⟨g27, 0, none⟩ (.int .i32 t0)).setCell ⟨g27, 1, none⟩ (.int .i32 t1)).setCell ⟨g27, 2, none⟩ (.int .i32 t2)) = v33 at *
                refine hK.out _ _ ⟨hp0.cell 0, hp0.cell 1, hp0.cell 2, hp0.cell 3, hp1.cell 0, hp1.cell 1, hp1.cell 2, hr.cell 0, hr.cell 1, hr.cell 2⟩ (fun hHeld => ?_)
                clear hK K
                try (simp only [Act.put, List.setIfInBounds_toArray, List.set_cons_zero, List.set_cons_succ])
                refine tk 42 hHeld ?_
                refine wpAnyH_done ?hru34 ?hqu34 _
                case hru34 => kernel_rfl
                refine NoPanic.normal ?_
                try go_wp2_with fail
                go_meet
                exact ⟨g27, rfl, rfl, n27, hp0, hp1, hr, hb⟩
            case hc10q40 =>
              go_simp
              try go_wp2_with fail
              have lb35 := hb.size
              have l35hp0 := hp0.lt
              have l35hp1 := hp1.lt
              have l35hr := hr.lt
              replace hp0 := hp0.alloc (.cells #[.int .i32 0, .int .i32 0, .int .i32 0] 25)
              replace hp1 := hp1.alloc (.cells #[.int .i32 0, .int .i32 0, .int .i32 0] 25)
              replace hr := hr.alloc (.cells #[.int .i32 0, .int .i32 0, .int .i32 0] 25)
              have n35 := Blk.new W1 25 #[.int .i32 0, .int .i32 0, .int .i32 0]
              replace hb := hb.alloc hb.size (.cells #[.int .i32 0, .int .i32 0, .int .i32 0] 25)
              generalize W1.alloc (.cells #[.int .i32 0, .int .i32 0, .int .i32 0] 25) = v35 at *
              generalize W1.heap.size = g35 at *
              refine hK.out _ _ ⟨hp0.cell 0, hp0.cell 1, hp0.cell 2, hp0.cell 3, hp1.cell 0, hp1.cell 1, hp1.cell 2, hr.cell 0, hr.cell 1, hr.cell 2⟩ (fun hHeld => ?_)
              clear hK K
              try (simp only [Act.put, List.setIfInBounds_toArray, List.set_cons_zero, List.set_cons_succ])
              refine rd1 28 (fun K hK => ?_)
              go_simp
              refine (Hx.out _).mono ?_
              rintro e w' ⟨rfl, rfl⟩
              go_wp2_with fail
              refine hK.out _ _ ⟨hp0.cell 0, hp0.cell 1, hp0.cell 2, hp0.cell 3, hp1.cell 0, hp1.cell 1, hp1.cell 2, hr.cell 0, hr.cell 1, hr.cell 2⟩ (fun hHeld => ?_)
              clear hK K
              try (simp only [Act.put, List.setIfInBounds_toArray, List.set_cons_zero, List.set_cons_succ])
              refine rd1 33 (fun K hK => ?_)
              go_simp
              refine (Hy.out _).mono ?_
              rintro e w' ⟨rfl, rfl⟩
              go_wp2_with fail
              refine hK.out _ _ ⟨hp0.cell 0, hp0.cell 1, hp0.cell 2, hp0.cell 3, hp1.cell 0, hp1.cell 1, hp1.cell 2, hr.cell 0, hr.cell 1, hr.cell 2⟩ (fun hHeld => ?_)
              clear hK K
              try (simp only [Act.put, List.setIfInBounds_toArray, List.set_cons_zero, List.set_cons_succ])
              refine tk 34 hHeld ?_
              refine tk 35 hHeld ?_
              refine rd1 36 (fun K hK => ?_)
              go_simp
              refine (HE.out _).mono ?_
              rintro e v41 ⟨rfl, bb⟩
              go_wp2_with fail
              replace hp0 := hp0.below bb hp0.lt
              replace hp1 := hp1.below bb hp1.lt
              replace hr := hr.below bb hr.lt
              replace n35 := n35.below bb n35.lt
              replace hb := hb.on bb
              clear bb
              refine hK.out _ _ ⟨hp0.cell 0, hp0.cell 1, hp0.cell 2, hp0.cell 3, hp1.cell 0, hp1.cell 1, hp1.cell 2, hr.cell 0, hr.cell 1, hr.cell 2⟩ (fun hHeld => ?_)
              clear hK K
              try (simp only [Act.put, List.setIfInBounds_toArray, List.set_cons_zero, List.set_cons_succ])
              refine tk 37 hHeld ?_
              refine tk 38 hHeld ?_
              refine tk 39 hHeld ?_
              refine rd1 41 (fun K hK => ?_)
              have c0 : v41.cell? ⟨g35, 0, none⟩ = some (.int .i32 0) := n35.cell 0
              have z0 := n35.frozen 0
              have c1 : v41.cell? ⟨g35, 1, none⟩ = some (.int .i32 0) := n35.cell 1
              have z1 := n35.frozen 1
              have c2 : v41.cell? ⟨g35, 2, none⟩ = some (.int .i32 0) := n35.cell 2
              have z2 := n35.frozen 2
              go_simp
              try go_wp2_with fail
              replace hp0 := (((hp0.far (p := ⟨g35, 0, none⟩) (by dsimp only; omega) (.int .i32 t0)).far (p := ⟨g35, 1, none⟩) (by dsimp only; omega) (.int .i32 t1)).far (p := ⟨g35, 2, none⟩) (by dsimp only; omega) (.int .i32 t2))
              replace hp1 := (((hp1.far (p := ⟨g35, 0, none⟩) (by dsimp only; omega) (.int .i32 t0)).far (p := ⟨g35, 1, none⟩) (by dsimp only; omega) (.int .i32 t1)).far (p := ⟨g35, 2, none⟩) (by dsimp only; omega) (.int .i32 t2))
              replace hr := (((hr.far (p := ⟨g35, 0, none⟩) (by dsimp only; omega) (.int .i32 t0)).far (p := ⟨g35, 1, none⟩) (by dsimp only; omega) (.int .i32 t1)).far (p := ⟨g35, 2, none⟩) (by dsimp only; omega) (.int .i32 t2))
              replace n35 := (((n35.set_ 0 (.int .i32 t0)).set_ 1 (.int .i32 t1)).set_ 2 (.int .i32 t2))
              replace hb := (((hb.setCell (p := ⟨g35, 0, none⟩) (by dsimp only; omega) (.int .i32 t0)).setCell (p := ⟨g35, 1, none⟩) (by dsimp only; omega) (.int .i32 t1)).setCell (p := ⟨g35, 2, none⟩) (by dsimp only; omega) (.int .i32 t2))
              clear c0 z0 c1 z1 c2 z2
              generalize (((v41.setCell ⟨g35, 0, none⟩ (.int .i32 t0)).setCell ⟨g35, 1, none⟩ (.int .i32 t1)).setCell ⟨g35, 2, none⟩ (.int .i32 t2)) = v43 at *
              refine hK.out _ _ ⟨hp0.cell 0, hp0.cell 1, hp0.cell 2, hp0.cell 3, hp1.cell 0, hp1.cell 1, hp1.cell 2, hr.cell 0, hr.cell 1, hr.cell 2⟩ (fun hHeld => ?_)
              clear hK K
              try (simp only [Act.put, List.setIfInBounds_toArray, List.set_cons_zero, List.set_cons_succ])
              refine tk 42 hHeld ?_
              refine wpAnyH_done ?hru44 ?hqu44 _
              case hru44 => kernel_rfl
              refine NoPanic.normal ?_
              try go_wp2_with fail
              go_meet
              exact ⟨g35, rfl, rfl, n35, hp0, hp1, hr, hb⟩
          case hc8q40 =>
            go_simp
            try go_wp2_with fail
            have lb45 := hb.size
            have l45hp0 := hp0.lt
            have l45hp1 := hp1.lt
            have l45hr := hr.lt
            replace hp0 := hp0.alloc (.cells #[.int .i32 0, .int .i32 0, .int .i32 0] 25)
            replace hp1 := hp1.alloc (.cells #[.int .i32 0, .int .i32 0, .int .i32 0] 25)
            replace hr := hr.alloc (.cells #[.int .i32 0, .int .i32 0, .int .i32 0] 25)
            have n45 := Blk.new W1 25 #[.int .i32 0, .int .i32 0, .int .i32 0]
            replace hb := hb.alloc hb.size (.cells #[.int .i32 0, .int .i32 0, .int .i32 0] 25)
            generalize W1.alloc (.cells #[.int .i32 0, .int .i32 0, .int .i32 0] 25) = v45 at *
            generalize W1.heap.size = g45 at *
            refine hK.out _ _ ⟨hp0.cell 0, hp0.cell 1, hp0.cell 2, hp0.cell 3, hp1.cell 0, hp1.cell 1, hp1.cell 2, hr.cell 0, hr.cell 1, hr.cell 2⟩ (fun hHeld => ?_)
            clear hK K
            try (simp only [Act.put, List.setIfInBounds_toArray, List.set_cons_zero, List.set_cons_succ])
            refine rd1 21 (fun K hK => ?_)
            go_simp
            refine (Hd.out _).mono ?_
            rintro e w' ⟨rfl, rfl⟩
            go_wp2_with fail
            refine hK.out _ _ ⟨hp0.cell 0, hp0.cell 1, hp0.cell 2, hp0.cell 3, hp1.cell 0, hp1.cell 1, hp1.cell 2, hr.cell 0, hr.cell 1, hr.cell 2⟩ (fun hHeld => ?_)
            clear hK K
            try (simp only [Act.put, List.setIfInBounds_toArray, List.set_cons_zero, List.set_cons_succ])
            refine tk 22 hHeld ?_
            refine tk 23 hHeld ?_
            refine rd1 28 (fun K hK => ?_)
            go_simp
            refine (Hx.out _).mono ?_
            rintro e w' ⟨rfl, rfl⟩
            go_wp2_with fail
            refine hK.out _ _ ⟨hp0.cell 0, hp0.cell 1, hp0.cell 2, hp0.cell 3, hp1.cell 0, hp1.cell 1, hp1.cell 2, hr.cell 0, hr.cell 1, hr.cell 2⟩ (fun hHeld => ?_)
            clear hK K
            try (simp only [Act.put, List.setIfInBounds_toArray, List.set_cons_zero, List.set_cons_succ])
            refine rd1 33 (fun K hK => ?_)
            go_simp
            refine (Hy.out _).mono ?_
            rintro e w' ⟨rfl, rfl⟩
            go_wp2_with fail
            refine hK.out _ _ ⟨hp0.cell 0, hp0.cell 1, hp0.cell 2, hp0.cell 3, hp1.cell 0, hp1.cell 1, hp1.cell 2, hr.cell 0, hr.cell 1, hr.cell 2⟩ (fun hHeld => ?_)
            clear hK K
            try (simp only [Act.put, List.setIfInBounds_toArray, List.set_cons_zero, List.set_cons_succ])
            refine tk 34 hHeld ?_
            refine tk 35 hHeld ?_
            refine rd1 36 (fun K hK => ?_)
            go_simp
            refine (HE.out _).mono ?_
            rintro e v53 ⟨rfl, bb⟩
            go_wp2_with fail
            replace hp0 := hp0.below bb hp0.lt
            replace hp1 := hp1.below bb hp1.lt
            replace hr := hr.below bb hr.lt
            replace n45 := n45.below bb n45.lt
            replace hb := hb.on bb
            clear bb
            refine hK.out _ _ ⟨hp0.cell 0, hp0.cell 1, hp0.cell 2, hp0.cell 3, hp1.cell 0, hp1.cell 1, hp1.cell 2, hr.cell 0, hr.cell 1, hr.cell 2⟩ (fun hHeld => ?_)
            clear hK K
            try (simp only [Act.put, List.setIfInBounds_toArray, List.set_cons_zero, List.set_cons_succ])
            refine tk 37 hHeld ?_
            refine tk 38 hHeld ?_
            refine tk 39 hHeld ?_
            refine rd1 41 (fun K hK => ?_)
            have c0 : v53.cell? ⟨g45, 0, none⟩ = some (.int .i32 0) := n45.cell 0
            have z0 := n45.frozen 0
            have c1 : v53.cell? ⟨g45, 1, none⟩ = some (.int .i32 0) := n45.cell 1
            have z1 := n45.frozen 1
            have c2 : v53.cell? ⟨g45, 2, none⟩ = some (.int .i32 0) := n45.cell 2
            have z2 := n45.frozen 2
            go_simp
            try go_wp2_with fail
            replace hp0 := (((hp0.far (p := ⟨g45, 0, none⟩) (by dsimp only; omega) (.int .i32 t0)).far (p := ⟨g45, 1, none⟩) (by dsimp only; omega) (.int .i32 t1)).far (p := ⟨g45, 2, none⟩) (by dsimp only; omega) (.int .i32 t2))
            replace hp1 := (((hp1.far (p := ⟨g45, 0, none⟩) (by dsimp only; omega) (.int .i32 t0)).far (p := ⟨g45, 1, none⟩) (by dsimp only; omega) (.int .i32 t1)).far (p := ⟨g45, 2, none⟩) (by dsimp only; omega) (.int .i32 t2))
            replace hr := (((hr.far (p := ⟨g45, 0, none⟩) (by dsimp only; omega) (.int .i32 t0)).far (p := ⟨g45, 1, none⟩) (by dsimp only; omega) (.int .i32 t1)).far (p := ⟨g45, 2, none⟩) (by dsimp only; omega) (.int .i32 t2))
            replace n45 := (((n45.set_ 0 (.int .i32 t0)).set_ 1 (.int .i32 t1)).set_ 2 (.int .i32 t2))
            replace hb := (((hb.setCell (p := ⟨g45, 0, none⟩) (by dsimp only; omega) (.int .i32 t0)).setCell (p := ⟨g45, 1, none⟩) (by dsimp only; omega) (.int .i32 t1)).setCell (p := ⟨g45, 2, none⟩) (by dsimp only; omega) (.int .i32 t2))
            clear c0 z0 c1 z1 c2 z2
            generalize (((v53.setCell ⟨g45, 0, none⟩ (.int .i32 t0)).setCell ⟨g45, 1, none⟩ (.int .i32 t1)).setCell ⟨g45, 2, none⟩ (.int .i32 t2)) = v55 at *
            refine hK.out _ _ ⟨hp0.cell 0, hp0.cell 1, hp0.cell 2, hp0.cell 3, hp1.cell 0, hp1.cell 1, hp1.cell 2, hr.cell 0, hr.cell 1, hr.cell 2⟩ (fun hHeld => ?_)
            clear hK K
            try (simp only [Act.put, List.setIfInBounds_toArray, List.set_cons_zero, List.set_cons_succ])
            refine tk 42 hHeld ?_
            refine wpAnyH_done ?hru56 ?hqu56 _
            case hru56 => kernel_rfl
            refine NoPanic.normal ?_
            try go_wp2_with fail
            go_meet
            exact ⟨g45, rfl, rfl, n45, hp0, hp1, hr, hb⟩
        case hc6q40 =>
          go_simp
          try go_wp2_with fail
          have lb57 := hb.size
          have l57hp0 := hp0.lt
          have l57hp1 := hp1.lt
          have l57hr := hr.lt
          replace hp0 := hp0.alloc (.cells #[.int .i32 0, .int .i32 0, .int .i32 0] 25)
          replace hp1 := hp1.alloc (.cells #[.int .i32 0, .int .i32 0, .int .i32 0] 25)
          replace hr := hr.alloc (.cells #[.int .i32 0, .int .i32 0, .int .i32 0] 25)
          have n57 := Blk.new W1 25 #[.int .i32 0, .int .i32 0, .int .i32 0]
          replace hb := hb.alloc hb.size (.cells #[.int .i32 0, .int .i32 0, .int .i32 0] 25)
          generalize W1.alloc (.cells #[.int .i32 0, .int .i32 0, .int .i32 0] 25) = v57 at *
          generalize W1.heap.size = g57 at *
          refine hK.out _ _ ⟨hp0.cell 0, hp0.cell 1, hp0.cell 2, hp0.cell 3, hp1.cell 0, hp1.cell 1, hp1.cell 2, hr.cell 0, hr.cell 1, hr.cell 2⟩ (fun hHeld => ?_)
          clear hK K
          try (simp only [Act.put, List.setIfInBounds_toArray, List.set_cons_zero, List.set_cons_succ])
          refine rd1 16 (fun K hK => ?_)
          go_simp
          refine (Hc.out _).mono ?_
          rintro e w' ⟨rfl, rfl⟩
          go_wp2_with fail
          refine hK.out _ _ ⟨hp0.cell 0, hp0.cell 1, hp0.cell 2, hp0.cell 3, hp1.cell 0, hp1.cell 1, hp1.cell 2, hr.cell 0, hr.cell 1, hr.cell 2⟩ (fun hHeld => ?_)
          clear hK K
          try (simp only [Act.put, List.setIfInBounds_toArray, List.set_cons_zero, List.set_cons_succ])
          refine rd1 21 (fun K hK => ?_)
          go_simp
          refine (Hd.out _).mono ?_
          rintro e w' ⟨rfl, rfl⟩
          go_wp2_with fail
          refine hK.out _ _ ⟨hp0.cell 0, hp0.cell 1, hp0.cell 2, hp0.cell 3, hp1.cell 0, hp1.cell 1, hp1.cell 2, hr.cell 0, hr.cell 1, hr.cell 2⟩ (fun hHeld => ?_)
          clear hK K
          try (simp only [Act.put, List.setIfInBounds_toArray, List.set_cons_zero, List.set_cons_succ])
          refine tk 22 hHeld ?_
          refine tk 23 hHeld ?_
          refine rd1 28 (fun K hK => ?_)
          go_simp
          refine (Hx.out _).mono ?_
          rintro e w' ⟨rfl, rfl⟩
          go_wp2_with fail
          refine hK.out _ _ ⟨hp0.cell 0, hp0.cell 1, hp0.cell 2, hp0.cell 3, hp1.cell 0, hp1.cell 1, hp1.cell 2, hr.cell 0, hr.cell 1, hr.cell 2⟩ (fun hHeld => ?_)
          clear hK K
          try (simp only [Act.put, List.setIfInBounds_toArray, List.set_cons_zero, List.set_cons_succ])
          refine rd1 33 (fun K hK => ?_)
          go_simp
          refine (Hy.out _).mono ?_
          rintro e w' ⟨rfl, rfl⟩
          go_wp2_with fail
          refine hK.out _ _ ⟨hp0.cell 0, hp0.cell 1, hp0.cell 2, hp0.cell 3, hp1.cell 0, hp1.cell 1, hp1.cell 2, hr.cell 0, hr.cell 1, hr.cell 2⟩ (fun hHeld => ?_)
          clear hK K
          try (simp only [Act.put, List.setIfInBounds_toArray, List.set_cons_zero, List.set_cons_succ])
          refine tk 34 hHeld ?_
          refine tk 35 hHeld ?_
          refine rd1 36 (fun K hK => ?_)
          go_simp
          refine (HE.out _).mono ?_
          rintro e v67 ⟨rfl, bb⟩
          go_wp2_with fail
          replace hp0 := hp0.below bb hp0.lt
          replace hp1 := hp1.below bb hp1.lt
          replace hr := hr.below bb hr.lt
          replace n57 := n57.below bb n57.lt
          replace hb := hb.on bb
          clear bb
          refine hK.out _ _ ⟨hp0.cell 0, hp0.cell 1, hp0.cell 2, hp0.cell 3, hp1.cell 0, hp1.cell 1, hp1.cell 2, hr.cell 0, hr.cell 1, hr.cell 2⟩ (fun hHeld => ?_)
          clear hK K
          try (simp only [Act.put, List.setIfInBounds_toArray, List.set_cons_zero, List.set_cons_succ])
          refine tk 37 hHeld ?_
          refine tk 38 hHeld ?_
          refine tk 39 hHeld ?_
          refine rd1 41 (fun K hK => ?_)
          have c0 : v67.cell? ⟨g57, 0, none⟩ = some (.int .i32 0) := n57.cell 0
          have z0 := n57.frozen 0
          have c1 : v67.cell? ⟨g57, 1, none⟩ = some (.int .i32 0) := n57.cell 1
          have z1 := n57.frozen 1
          have c2 : v67.cell? ⟨g57, 2, none⟩ = some (.int .i32 0) := n57.cell 2
          have z2 := n57.frozen 2
          go_simp
          try go_wp2_with fail
          replace hp0 := (((hp0.far (p := ⟨g57, 0, none⟩) (by dsimp only; omega) (.int .i32 t0)).far (p := ⟨g57, 1, none⟩) (by dsimp only; omega) (.int .i32 t1)).far (p := ⟨g57, 2, none⟩) (by dsimp only; omega) (.int .i32 t2))
          replace hp1 := (((hp1.far (p := ⟨g57, 0, none⟩) (by dsimp only; omega) (.int .i32 t0)).far (p := ⟨g57, 1, none⟩) (by dsimp only; omega) (.int .i32 t1)).far (p := ⟨g57, 2, none⟩) (by dsimp only; omega) (.int .i32 t2))
          replace hr := (((hr.far (p := ⟨g57, 0, none⟩) (by dsimp only; omega) (.int .i32 t0)).far (p := ⟨g57, 1, none⟩) (by dsimp only; omega) (.int .i32 t1)).far (p := ⟨g57, 2, none⟩) (by dsimp only; omega) (.int .i32 t2))
          replace n57 := (((n57.set_ 0 (.int .i32 t0)).set_ 1 (.int .i32 t1)).set_ 2 (.int .i32 t2))
          replace hb := (((hb.setCell (p := ⟨g57, 0, none⟩) (by dsimp only; omega) (.int .i32 t0)).setCell (p := ⟨g57, 1, none⟩) (by dsimp only; omega) (.int .i32 t1)).setCell (p := ⟨g57, 2, none⟩) (by dsimp only; omega) (.int .i32 t2))
          clear c0 z0 c1 z1 c2 z2
          generalize (((v67.setCell ⟨g57, 0, none⟩ (.int .i32 t0)).setCell ⟨g57, 1, none⟩ (.int .i32 t1)).setCell ⟨g57, 2, none⟩ (.int .i32 t2)) = v69 at *
          refine hK.out _ _ ⟨hp0.cell 0, hp0.cell 1, hp0.cell 2, hp0.cell 3, hp1.cell 0, hp1.cell 1, hp1.cell 2, hr.cell 0, hr.cell 1, hr.cell 2⟩ (fun hHeld => ?_)
          clear hK K
          try (simp only [Act.put, List.setIfInBounds_toArray, List.set_cons_zero, List.set_cons_succ])
          refine tk 42 hHeld ?_
          refine wpAnyH_done ?hru70 ?hqu70 _
          case hru70 => kernel_rfl
          refine NoPanic.normal ?_
          try go_wp2_with fail
          go_meet
          exact ⟨g57, rfl, rfl, n57, hp0, hp1, hr, hb⟩
      case hc4q40 =>
        go_simp
        try go_wp2_with fail
        have lb71 := hb.size
        have l71hp0 := hp0.lt
        have l71hp1 := hp1.lt
        have l71hr := hr.lt
        replace hp0 := hp0.alloc (.cells #[.int .i32 0, .int .i32 0, .int .i32 0] 25)
        replace hp1 := hp1.alloc (.cells #[.int .i32 0, .int .i32 0, .int .i32 0] 25)
        replace hr := hr.alloc (.cells #[.int .i32 0, .int .i32 0, .int .i32 0] 25)
        have n71 := Blk.new W1 25 #[.int .i32 0, .int .i32 0, .int .i32 0]
        replace hb := hb.alloc hb.size (.cells #[.int .i32 0, .int .i32 0, .int .i32 0] 25)
        generalize W1.alloc (.cells #[.int .i32 0, .int .i32 0, .int .i32 0] 25) = v71 at *
        generalize W1.heap.size = g71 at *
        refine hK.out _ _ ⟨hp0.cell 0, hp0.cell 1, hp0.cell 2, hp0.cell 3, hp1.cell 0, hp1.cell 1, hp1.cell 2, hr.cell 0, hr.cell 1, hr.cell 2⟩ (fun hHeld => ?_)
        clear hK K
        try (simp only [Act.put, List.setIfInBounds_toArray, List.set_cons_zero, List.set_cons_succ])
        refine rd1 9 (fun K hK => ?_)
        go_simp
        refine (Hb.out _).mono ?_
        rintro e w' ⟨rfl, rfl⟩
        go_wp2_with fail
        refine hK.out _ _ ⟨hp0.cell 0, hp0.cell 1, hp0.cell 2, hp0.cell 3, hp1.cell 0, hp1.cell 1, hp1.cell 2, hr.cell 0, hr.cell 1, hr.cell 2⟩ (fun hHeld => ?_)
        clear hK K
        try (simp only [Act.put, List.setIfInBounds_toArray, List.set_cons_zero, List.set_cons_succ])
        refine tk 10 hHeld ?_
        refine tk 11 hHeld ?_
        refine rd1 16 (fun K hK => ?_)
        go_simp
        refine (Hc.out _).mono ?_
        rintro e w' ⟨rfl, rfl⟩
        go_wp2_with fail
        refine hK.out _ _ ⟨hp0.cell 0, hp0.cell 1, hp0.cell 2, hp0.cell 3, hp1.cell 0, hp1.cell 1, hp1.cell 2, hr.cell 0, hr.cell 1, hr.cell 2⟩ (fun hHeld => ?_)
        clear hK K
        try (simp only [Act.put, List.setIfInBounds_toArray, List.set_cons_zero, List.set_cons_succ])
        refine rd1 21 (fun K hK => ?_)
        go_simp
        refine (Hd.out _).mono ?_
        rintro e w' ⟨rfl, rfl⟩
        go_wp2_with fail
        refine hK.out _ _ ⟨hp0.cell 0, hp0.cell 1, hp0.cell 2, hp0.cell 3, hp1.cell 0, hp1.cell 1, hp1.cell 2, hr.cell 0, hr.cell 1, hr.cell 2⟩ (fun hHeld => ?_)
        clear hK K
        try (simp only [Act.put, List.setIfInBounds_toArray, List.set_cons_zero, List.set_cons_succ])
        refine tk 22 hHeld ?_
        refine tk 23 hHeld ?_
        refine rd1 28 (fun K hK => ?_)
        go_simp
        refine (Hx.out _).mono ?_
        rintro e w' ⟨rfl, rfl⟩
        go_wp2_with fail
        refine hK.out _ _ ⟨hp0.cell 0, hp0.cell 1, hp0.cell 2, hp0.cell 3, hp1.cell 0, hp1.cell 1, hp1.cell 2, hr.cell 0, hr.cell 1, hr.cell 2⟩ (fun hHeld => ?_)
        clear hK K
        try (simp only [Act.put, List.setIfInBounds_toArray, List.set_cons_zero, List.set_cons_succ])
        refine rd1 33 (fun K hK => ?_)
        go_simp
        refine (Hy.out _).mono ?_
        rintro e w' ⟨rfl, rfl⟩
        go_wp2_with fail
        refine hK.out _ _ ⟨hp0.cell 0, hp0.cell 1, hp0.cell 2, hp0.cell 3, hp1.cell 0, hp1.cell 1, hp1.cell 2, hr.cell 0, hr.cell 1, hr.cell 2⟩ (fun hHeld => ?_)
        clear hK K
        try (simp only [Act.put, List.setIfInBounds_toArray, List.set_cons_zero, List.set_cons_succ])
        refine tk 34 hHeld ?_
        refine tk 35 hHeld ?_
        refine rd1 36 (fun K hK => ?_)
        go_simp
        refine (HE.out _).mono ?_
        rintro e v83 ⟨rfl, bb⟩
        go_wp2_with fail
        replace hp0 := hp0.below bb hp0.lt
        replace hp1 := hp1.below bb hp1.lt
        replace hr := hr.below bb hr.lt
        replace n71 := n71.below bb n71.lt
        replace hb := hb.on bb
        clear bb
        refine hK.out _ _ ⟨hp0.cell 0, hp0.cell 1, hp0.cell 2, hp0.cell 3, hp1.cell 0, hp1.cell 1, hp1.cell 2, hr.cell 0, hr.cell 1, hr.cell 2⟩ (fun hHeld => ?_)
        clear hK K
        try (simp only [Act.put, List.setIfInBounds_toArray, List.set_cons_zero, List.set_cons_succ])
        refine tk 37 hHeld ?_
        refine tk 38 hHeld ?_
        refine tk 39 hHeld ?_
        refine rd1 41 (fun K hK => ?_)
        have c0 : v83.cell? ⟨g71, 0, none⟩ = some (.int .i32 0) := n71.cell 0
        have z0 := n71.frozen 0
        have c1 : v83.cell? ⟨g71, 1, none⟩ = some (.int .i32 0) := n71.cell 1
        have z1 := n71.frozen 1
        have c2 : v83.cell? ⟨g71, 2, none⟩ = some (.int .i32 0) := n71.cell 2
        have z2 := n71.frozen 2
        go_simp
        try go_wp2_with fail
        replace hp0 := (((hp0.far (p := ⟨g71, 0, none⟩) (by dsimp only; omega) (.int .i32 t0)).far (p := ⟨g71, 1, none⟩) (by dsimp only; omega) (.int .i32 t1)).far (p := ⟨g71, 2, none⟩) (by dsimp only; omega) (.int .i32 t2))
        replace hp1 := (((hp1.far (p := ⟨g71, 0, none⟩) (by dsimp only; omega) (.int .i32 t0)).far (p := ⟨g71, 1, none⟩) (by dsimp only; omega) (.int .i32 t1)).far (p := ⟨g71, 2, none⟩) (by dsimp only; omega) (.int .i32 t2))
        replace hr := (((hr.far (p := ⟨g71, 0, none⟩) (by dsimp only; omega) (.int .i32 t0)).far (p := ⟨g71, 1, none⟩) (by dsimp only; omega) (.int .i32 t1)).far (p := ⟨g71, 2, none⟩) (by dsimp only; omega) (.int .i32 t2))
        replace n71 := (((n71.set_ 0 (.int .i32 t0)).set_ 1 (.int .i32 t1)).set_ 2 (.int .i32 t2))
        replace hb := (((hb.setCell (p := ⟨g71, 0, none⟩) (by dsimp only; omega) (.int .i32 t0)).setCell (p := ⟨g71, 1, none⟩) (by dsimp only; omega) (.int .i32 t1)).setCell (p := ⟨g71, 2, none⟩) (by dsimp only; omega) (.int .i32 t2))
        clear c0 z0 c1 z1 c2 z2
        generalize (((v83.setCell ⟨g71, 0, none⟩ (.int .i32 t0)).setCell ⟨g71, 1, none⟩ (.int .i32 t1)).setCell ⟨g71, 2, none⟩ (.int .i32 t2)) = v85 at *
        refine hK.out _ _ ⟨hp0.cell 0, hp0.cell 1, hp0.cell 2, hp0.cell 3, hp1.cell 0, hp1.cell 1, hp1.cell 2, hr.cell 0, hr.cell 1, hr.cell 2⟩ (fun hHeld => ?_)
        clear hK K
        try (simp only [Act.put, List.setIfInBounds_toArray, List.set_cons_zero, List.set_cons_succ])
        refine tk 42 hHeld ?_
        refine wpAnyH_done ?hru86 ?hqu86 _
        case hru86 => kernel_rfl
        refine NoPanic.normal ?_
        try go_wp2_with fail
        go_meet
        exact ⟨g71, rfl, rfl, n71, hp0, hp1, hr, hb⟩
    case hc2q40 =>
      go_simp
      try go_wp2_with fail
      have lb87 := hb.size
      have l87hp0 := hp0.lt
      have l87hp1 := hp1.lt
      have l87hr := hr.lt
      replace hp0 := hp0.alloc (.cells #[.int .i32 0, .int .i32 0, .int .i32 0] 25)
      replace hp1 := hp1.alloc (.cells #[.int .i32 0, .int .i32 0, .int .i32 0] 25)
      replace hr := hr.alloc (.cells #[.int .i32 0, .int .i32 0, .int .i32 0] 25)
      have n87 := Blk.new W1 25 #[.int .i32 0, .int .i32 0, .int .i32 0]
      replace hb := hb.alloc hb.size (.cells #[.int .i32 0, .int .i32 0, .int .i32 0] 25)
      generalize W1.alloc (.cells #[.int .i32 0, .int .i32 0, .int .i32 0] 25) = v87 at *
      generalize W1.heap.size = g87 at *
      refine hK.out _ _ ⟨hp0.cell 0, hp0.cell 1, hp0.cell 2, hp0.cell 3, hp1.cell 0, hp1.cell 1, hp1.cell 2, hr.cell 0, hr.cell 1, hr.cell 2⟩ (fun hHeld => ?_)
      clear hK K
      try (simp only [Act.put, List.setIfInBounds_toArray, List.set_cons_zero, List.set_cons_succ])
      refine rd1 4 (fun K hK => ?_)
      go_simp
      refine (Ha.out _).mono ?_
      rintro e w' ⟨rfl, rfl⟩
      go_wp2_with fail
      refine hK.out _ _ ⟨hp0.cell 0, hp0.cell 1, hp0.cell 2, hp0.cell 3, hp1.cell 0, hp1.cell 1, hp1.cell 2, hr.cell 0, hr.cell 1, hr.cell 2⟩ (fun hHeld => ?_)
      clear hK K
      try (simp only [Act.put, List.setIfInBounds_toArray, List.set_cons_zero, List.set_cons_succ])
      refine rd1 9 (fun K hK => ?_)
      go_simp
      refine (Hb.out _).mono ?_
      rintro e w' ⟨rfl, rfl⟩
      go_wp2_with fail
      refine hK.out _ _ ⟨hp0.cell 0, hp0.cell 1, hp0.cell 2, hp0.cell 3, hp1.cell 0, hp1.cell 1, hp1.cell 2, hr.cell 0, hr.cell 1, hr.cell 2⟩ (fun hHeld => ?_)
      clear hK K
      try (simp only [Act.put, List.setIfInBounds_toArray, List.set_cons_zero, List.set_cons_succ])
      refine tk 10 hHeld ?_
      refine tk 11 hHeld ?_
      refine rd1 16 (fun K hK => ?_)
      go_simp
      refine (Hc.out _).mono ?_
      rintro e w' ⟨rfl, rfl⟩
      go_wp2_with fail
      refine hK.out _ _ ⟨hp0.cell 0, hp0.cell 1, hp0.cell 2, hp0.cell 3, hp1.cell 0, hp1.cell 1, hp1.cell 2, hr.cell 0, hr.cell 1, hr.cell 2⟩ (fun hHeld => ?_)
      clear hK K
      try (simp only [Act.put, List.setIfInBounds_toArray, List.set_cons_zero, List.set_cons_succ])
      refine rd1 21 (fun K hK => ?_)
      go_simp
      refine (Hd.out _).mono ?_
      rintro e w' ⟨rfl, rfl⟩
      go_wp2_with fail
      refine hK.out _ _ ⟨hp0.cell 0, hp0.cell 1, hp0.cell 2, hp0.cell 3, hp1.cell 0, hp1.cell 1, hp1.cell 2, hr.cell 0, hr.cell 1, hr.cell 2⟩ (fun hHeld => ?_)
      clear hK K
      try (simp only [Act.put, List.setIfInBounds_toArray, List.set_cons_zero, List.set_cons_succ])
      refine tk 22 hHeld ?_
      refine tk 23 hHeld ?_
      refine rd1 28 (fun K hK => ?_)
      go_simp
      refine (Hx.out _).mono ?_
      rintro e w' ⟨rfl, rfl⟩
      go_wp2_with fail
      refine hK.out _ _ ⟨hp0.cell 0, hp0.cell 1, hp0.cell 2, hp0.cell 3, hp1.cell 0, hp1.cell 1, hp1.cell 2, hr.cell 0, hr.cell 1, hr.cell 2⟩ (fun hHeld => ?_)
      clear hK K
      try (simp only [Act.put, List.setIfInBounds_toArray, List.set_cons_zero, List.set_cons_succ])
      refine rd1 33 (fun K hK => ?_)
      go_simp
      refine (Hy.out _).mono ?_
      rintro e w' ⟨rfl, rfl⟩
      go_wp2_with fail
      refine hK.out _ _ ⟨hp0.cell 0, hp0.cell 1, hp0.cell 2, hp0.cell 3, hp1.cell 0, hp1.cell 1, hp1.cell 2, hr.cell 0, hr.cell 1, hr.cell 2⟩ (fun hHeld => ?_)
      clear hK K
      try (simp only [Act.put, List.setIfInBounds_toArray, List.set_cons_zero, List.set_cons_succ])
      refine tk 34 hHeld ?_
      refine tk 35 hHeld ?_
      refine rd1 36 (fun K hK => ?_)
      go_simp
      refine (HE.out _).mono ?_
      rintro e v101 ⟨rfl, bb⟩
      go_wp2_with fail
      replace hp0 := hp0.below bb hp0.lt
      replace hp1 := hp1.below bb hp1.lt
      replace hr := hr.below bb hr.lt
      replace n87 := n87.below bb n87.lt
      replace hb := hb.on bb
      clear bb
      refine hK.out _ _ ⟨hp0.cell 0, hp0.cell 1, hp0.cell 2, hp0.cell 3, hp1.cell 0, hp1.cell 1, hp1.cell 2, hr.cell 0, hr.cell 1, hr.cell 2⟩ (fun hHeld => ?_)
      clear hK K
      try (simp only [Act.put, List.setIfInBounds_toArray, List.set_cons_zero, List.set_cons_succ])
      refine tk 37 hHeld ?_
      refine tk 38 hHeld ?_
      refine tk 39 hHeld ?_
      refine rd1 41 (fun K hK => ?_)
      have c0 : v101.cell? ⟨g87, 0, none⟩ = some (.int .i32 0) := n87.cell 0
      have z0 := n87.frozen 0
      have c1 : v101.cell? ⟨g87, 1, none⟩ = some (.int .i32 0) := n87.cell 1
      have z1 := n87.frozen 1
      have c2 : v101.cell? ⟨g87, 2, none⟩ = some (.int .i32 0) := n87.cell 2
      have z2 := n87.frozen 2
      go_simp
      try go_wp2_with fail
      replace hp0 := (((hp0.far (p := ⟨g87, 0, none⟩) (by dsimp only; omega) (.int .i32 t0)).far (p := ⟨g87, 1, none⟩) (by dsimp only; omega) (.int .i32 t1)).far (p := ⟨g87, 2, none⟩) (by dsimp only; omega) (.int .i32 t2))
      replace hp1 := (((hp1.far (p := ⟨g87, 0, none⟩) (by dsimp only; omega) (.int .i32 t0)).far (p := ⟨g87, 1, none⟩) (by dsimp only; omega) (.int .i32 t1)).far (p := ⟨g87, 2, none⟩) (by dsimp only; omega) (.int .i32 t2))
      replace hr := (((hr.far (p := ⟨g87, 0, none⟩) (by dsimp only; omega) (.int .i32 t0)).far (p := ⟨g87, 1, none⟩) (by dsimp only; omega) (.int .i32 t1)).far (p := ⟨g87, 2, none⟩) (by dsimp only; omega) (.int .i32 t2))
      replace n87 := (((n87.set_ 0 (.int .i32 t0)).set_ 1 (.int .i32 t1)).set_ 2 (.int .i32 t2))
      replace hb := (((hb.setCell (p := ⟨g87, 0, none⟩) (by dsimp only; omega) (.int .i32 t0)).setCell (p := ⟨g87, 1, none⟩) (by dsimp only; omega) (.int .i32 t1)).setCell (p := ⟨g87, 2, none⟩) (by dsimp only; omega) (.int .i32 t2))
      clear c0 z0 c1 z1 c2 z2
      generalize (((v101.setCell ⟨g87, 0, none⟩ (.int .i32 t0)).setCell ⟨g87, 1, none⟩ (.int .i32 t1)).setCell ⟨g87, 2, none⟩ (.int .i32 t2)) = v103 at *
      refine hK.out _ _ ⟨hp0.cell 0, hp0.cell 1, hp0.cell 2, hp0.cell 3, hp1.cell 0, hp1.cell 1, hp1.cell 2, hr.cell 0, hr.cell 1, hr.cell 2⟩ (fun hHeld => ?_)
      clear hK K
      try (simp only [Act.put, List.setIfInBounds_toArray, List.set_cons_zero, List.set_cons_succ])
      refine tk 42 hHeld ?_
      refine wpAnyH_done ?hru104 ?hqu104 _
      case hru104 => kernel_rfl
      refine NoPanic.normal ?_
      try go_wp2_with fail
      go_meet
      exact ⟨g87, rfl, rfl, n87, hp0, hp1, hr, hb⟩
  case rest =>
    clear hp0 hp1 hr hb HE p0 p1 p2 s0 s1 s2
    obtain ⟨g, rfl, rfl, ht, hq, hv, hr, hb⟩ := hcut
    go_upto_region 2 with fail
    refine wp_region_noPanic ?_
    refine wp_region_held_drew (S := (fun w' : World => w'.cell? ⟨g, 0, none⟩ = some (.int .i32 t0) ∧ w'.cell? ⟨g, 1, none⟩ = some (.int .i32 t1) ∧ w'.cell? ⟨g, 2, none⟩ = some (.int .i32 t2) ∧ w'.cell? ⟨w.heap.size, 0, none⟩ = some (.int .i32 q0) ∧ w'.cell? ⟨w.heap.size, 1, none⟩ = some (.int .i32 u0) ∧ w'.cell? ⟨w.heap.size, 2, none⟩ = some (.int .i32 u1) ∧ w'.cell? ⟨w.heap.size, 3, none⟩ = some (.int .i32 u2) ∧ w'.cell? ⟨w.heap.size + 1, 0, none⟩ = some (.int .i32 v0) ∧ w'.cell? ⟨w.heap.size + 1, 1, none⟩ = some (.int .i32 v1) ∧ w'.cell? ⟨w.heap.size + 1, 2, none⟩ = some (.int .i32 v2) ∧ w'.cell? ⟨w.heap.size + 1 + 1, 0, none⟩ = some (.int .i32 0) ∧ w'.cell? ⟨w.heap.size + 1 + 1, 1, none⟩ = some (.int .i32 0) ∧ w'.cell? ⟨w.heap.size + 1 + 1, 2, none⟩ = some (.int .i32 0))) (by kernel_rfl) ⟨ht.cell 0, ht.cell 1, ht.cell 2, hq.cell 0, hq.cell 1, hq.cell 2, hq.cell 3, hv.cell 0, hv.cell 1, hv.cell 2, hr.cell 0, hr.cell 1, hr.cell 2⟩ (fun hHeld => ?_)
    refine (show wpAnyH _ _ _ _ _ 22 _ _ _ from ?_)
    try (simp only [Act.put, List.setIfInBounds_toArray, List.set_cons_zero, List.set_cons_succ])
    replace ht := ht.drew
    replace hq := hq.drew
    replace hv := hv.drew
    replace hr := hr.drew
    replace hb := hb.drew
    generalize wc.drew = W105 at *
    refine tk 0 hHeld ?_
    refine tk 1 hHeld ?_
    refine tk 2 hHeld ?_
    refine tk 3 hHeld ?_
    refine tk 4 hHeld ?_
    refine tk 5 hHeld ?_
    refine tk 6 hHeld ?_
    refine tk 9 hHeld ?_
    refine tk 10 hHeld ?_
    refine tk 11 hHeld ?_
    refine tk 12 hHeld ?_
    refine tk 15 hHeld ?_
    refine tk 16 hHeld ?_
    refine tk 17 hHeld ?_
    refine tk 18 hHeld ?_
    refine rd1 7 (fun K hK => ?_)
    go_simp
    refine (JA.out _).mono ?_
    rintro e w' ⟨rfl, rfl⟩
    go_wp2_with fail
    refine hK.out _ _ ⟨ht.cell 0, ht.cell 1, ht.cell 2, hq.cell 0, hq.cell 1, hq.cell 2, hq.cell 3, hv.cell 0, hv.cell 1, hv.cell 2, hr.cell 0, hr.cell 1, hr.cell 2⟩ (fun hHeld => ?_)
    clear hK K
    try (simp only [Act.put, List.setIfInBounds_toArray, List.set_cons_zero, List.set_cons_succ])
    refine tk 8 hHeld ?_
    refine rd1 13 (fun K hK => ?_)
    go_simp
    refine (JB.out _).mono ?_
    rintro e w' ⟨rfl, rfl⟩
    go_wp2_with fail
    refine hK.out _ _ ⟨ht.cell 0, ht.cell 1, ht.cell 2, hq.cell 0, hq.cell 1, hq.cell 2, hq.cell 3, hv.cell 0, hv.cell 1, hv.cell 2, hr.cell 0, hr.cell 1, hr.cell 2⟩ (fun hHeld => ?_)
    clear hK K
    try (simp only [Act.put, List.setIfInBounds_toArray, List.set_cons_zero, List.set_cons_succ])
    refine tk 14 hHeld ?_
    refine rd1 19 (fun K hK => ?_)
    go_simp
    refine (JC.out _).mono ?_
    rintro e w' ⟨rfl, rfl⟩
    go_wp2_with fail
    refine hK.out _ _ ⟨ht.cell 0, ht.cell 1, ht.cell 2, hq.cell 0, hq.cell 1, hq.cell 2, hq.cell 3, hv.cell 0, hv.cell 1, hv.cell 2, hr.cell 0, hr.cell 1, hr.cell 2⟩ (fun hHeld => ?_)
    clear hK K
    try (simp only [Act.put, List.setIfInBounds_toArray, List.set_cons_zero, List.set_cons_succ])
    refine tk 20 hHeld ?_
    refine tk 21 hHeld ?_
    refine wpAnyH_done ?hru112 ?hqu112 _
    case hru112 => kernel_rfl
    refine NoPanic.normal ?_
    try go_wp2_with fail
    go_upto_region 3 with fail
    refine wp_region_noPanic ?_
    refine wp_region_held_drew (S := (fun w' : World => w'.cell? ⟨g, 0, none⟩ = some (.int .i32 t0) ∧ w'.cell? ⟨g, 1, none⟩ = some (.int .i32 t1) ∧ w'.cell? ⟨g, 2, none⟩ = some (.int .i32 t2) ∧ w'.cell? ⟨w.heap.size, 0, none⟩ = some (.int .i32 q0) ∧ w'.cell? ⟨w.heap.size, 1, none⟩ = some (.int .i32 u0) ∧ w'.cell? ⟨w.heap.size, 2, none⟩ = some (.int .i32 u1) ∧ w'.cell? ⟨w.heap.size, 3, none⟩ = some (.int .i32 u2) ∧ w'.cell? ⟨w.heap.size + 1, 0, none⟩ = some (.int .i32 v0) ∧ w'.cell? ⟨w.heap.size + 1, 1, none⟩ = some (.int .i32 v1) ∧ w'.cell? ⟨w.heap.size + 1, 2, none⟩ = some (.int .i32 v2) ∧ w'.cell? ⟨w.heap.size + 1 + 1, 0, none⟩ = some (.int .i32 0) ∧ w'.cell? ⟨w.heap.size + 1 + 1, 1, none⟩ = some (.int .i32 0) ∧ w'.cell? ⟨w.heap.size + 1 + 1, 2, none⟩ = some (.int .i32 0))) (by kernel_rfl) ⟨ht.cell 0, ht.cell 1, ht.cell 2, hq.cell 0, hq.cell 1, hq.cell 2, hq.cell 3, hv.cell 0, hv.cell 1, hv.cell 2, hr.cell 0, hr.cell 1, hr.cell 2⟩ (fun hHeld => ?_)
    refine (show wpAnyH _ _ _ _ _ 22 _ _ _ from ?_)
    try (simp only [Act.put, List.setIfInBounds_toArray, List.set_cons_zero, List.set_cons_succ])
    replace ht := ht.drew
    replace hq := hq.drew
    replace hv := hv.drew
    replace hr := hr.drew
    replace hb := hb.drew
    generalize W105.drew = W113 at *
    refine tk 0 hHeld ?_
    refine tk 1 hHeld ?_
    refine tk 2 hHeld ?_
    refine tk 3 hHeld ?_
    refine tk 4 hHeld ?_
    refine tk 5 hHeld ?_
    refine tk 6 hHeld ?_
    refine tk 9 hHeld ?_
    refine tk 10 hHeld ?_
    refine tk 11 hHeld ?_
    refine tk 12 hHeld ?_
    refine tk 15 hHeld ?_
    refine tk 16 hHeld ?_
    refine tk 17 hHeld ?_
    refine tk 18 hHeld ?_
    refine rd1 7 (fun K hK => ?_)
    go_simp
    refine (JD.out _).mono ?_
    rintro e w' ⟨rfl, rfl⟩
    go_wp2_with fail
    refine hK.out _ _ ⟨ht.cell 0, ht.cell 1, ht.cell 2, hq.cell 0, hq.cell 1, hq.cell 2, hq.cell 3, hv.cell 0, hv.cell 1, hv.cell 2, hr.cell 0, hr.cell 1, hr.cell 2⟩ (fun hHeld => ?_)
    clear hK K
    try (simp only [Act.put, List.setIfInBounds_toArray, List.set_cons_zero, List.set_cons_succ])
    refine tk 8 hHeld ?_
    refine rd1 13 (fun K hK => ?_)
    go_simp
    refine (JE.out _).mono ?_
    rintro e w' ⟨rfl, rfl⟩
    go_wp2_with fail
    refine hK.out _ _ ⟨ht.cell 0, ht.cell 1, ht.cell 2, hq.cell 0, hq.cell 1, hq.cell 2, hq.cell 3, hv.cell 0, hv.cell 1, hv.cell 2, hr.cell 0, hr.cell 1, hr.cell 2⟩ (fun hHeld => ?_)
    clear hK K
    try (simp only [Act.put, List.setIfInBounds_toArray, List.set_cons_zero, List.set_cons_succ])
    refine tk 14 hHeld ?_
    refine rd1 19 (fun K hK => ?_)
    go_simp
    refine (JF.out _).mono ?_
    rintro e w' ⟨rfl, rfl⟩
    go_wp2_with fail
    refine hK.out _ _ ⟨ht.cell 0, ht.cell 1, ht.cell 2, hq.cell 0, hq.cell 1, hq.cell 2, hq.cell 3, hv.cell 0, hv.cell 1, hv.cell 2, hr.cell 0, hr.cell 1, hr.cell 2⟩ (fun hHeld => ?_)
    clear hK K
    try (simp only [Act.put, List.setIfInBounds_toArray, List.set_cons_zero, List.set_cons_succ])
    refine tk 20 hHeld ?_
    refine tk 21 hHeld ?_
    refine wpAnyH_done ?hru120 ?hqu120 _
    case hru120 => kernel_rfl
    refine NoPanic.normal ?_
    try go_wp2_with fail
    go_upto_region 4 with fail
    refine wp_region_noPanic ?_
    refine wp_region_held_drew (S := (fun w' : World => w'.cell? ⟨g, 0, none⟩ = some (.int .i32 t0) ∧ w'.cell? ⟨g, 1, none⟩ = some (.int .i32 t1) ∧ w'.cell? ⟨g, 2, none⟩ = some (.int .i32 t2) ∧ w'.cell? ⟨w.heap.size, 0, none⟩ = some (.int .i32 q0) ∧ w'.cell? ⟨w.heap.size, 1, none⟩ = some (.int .i32 u0) ∧ w'.cell? ⟨w.heap.size, 2, none⟩ = some (.int .i32 u1) ∧ w'.cell? ⟨w.heap.size, 3, none⟩ = some (.int .i32 u2) ∧ w'.cell? ⟨w.heap.size + 1, 0, none⟩ = some (.int .i32 v0) ∧ w'.cell? ⟨w.heap.size + 1, 1, none⟩ = some (.int .i32 v1) ∧ w'.cell? ⟨w.heap.size + 1, 2, none⟩ = some (.int .i32 v2) ∧ w'.cell? ⟨w.heap.size + 1 + 1, 0, none⟩ = some (.int .i32 0) ∧ w'.cell? ⟨w.heap.size + 1 + 1, 1, none⟩ = some (.int .i32 0) ∧ w'.cell? ⟨w.heap.size + 1 + 1, 2, none⟩ = some (.int .i32 0))) (by kernel_rfl) ⟨ht.cell 0, ht.cell 1, ht.cell 2, hq.cell 0, hq.cell 1, hq.cell 2, hq.cell 3, hv.cell 0, hv.cell 1, hv.cell 2, hr.cell 0, hr.cell 1, hr.cell 2⟩ (fun hHeld => ?_)
    refine (show wpAnyH _ _ _ _ _ 22 _ _ _ from ?_)
    try (simp only [Act.put, List.setIfInBounds_toArray, List.set_cons_zero, List.set_cons_succ])
    replace ht := ht.drew
    replace hq := hq.drew
    replace hv := hv.drew
    replace hr := hr.drew
    replace hb := hb.drew
    generalize W113.drew = W121 at *
    refine tk 0 hHeld ?_
    refine tk 1 hHeld ?_
    refine tk 2 hHeld ?_
    refine tk 3 hHeld ?_
    refine tk 4 hHeld ?_
    refine tk 5 hHeld ?_
    refine tk 6 hHeld ?_
    refine tk 9 hHeld ?_
    refine tk 10 hHeld ?_
    refine tk 11 hHeld ?_
    refine tk 12 hHeld ?_
    refine tk 15 hHeld ?_
    refine tk 16 hHeld ?_
    refine tk 17 hHeld ?_
    refine tk 18 hHeld ?_
    refine rd1 7 (fun K hK => ?_)
    go_simp
    refine (JG.out _).mono ?_
    rintro e w' ⟨rfl, rfl⟩
    go_wp2_with fail
    refine hK.out _ _ ⟨ht.cell 0, ht.cell 1, ht.cell 2, hq.cell 0, hq.cell 1, hq.cell 2, hq.cell 3, hv.cell 0, hv.cell 1, hv.cell 2, hr.cell 0, hr.cell 1, hr.cell 2⟩ (fun hHeld => ?_)
    clear hK K
    try (simp only [Act.put, List.setIfInBounds_toArray, List.set_cons_zero, List.set_cons_succ])
    refine tk 8 hHeld ?_
    refine rd1 13 (fun K hK => ?_)
    go_simp
    refine (JH.out _).mono ?_
    rintro e w' ⟨rfl, rfl⟩
    go_wp2_with fail
    refine hK.out _ _ ⟨ht.cell 0, ht.cell 1, ht.cell 2, hq.cell 0, hq.cell 1, hq.cell 2, hq.cell 3, hv.cell 0, hv.cell 1, hv.cell 2, hr.cell 0, hr.cell 1, hr.cell 2⟩ (fun hHeld => ?_)
    clear hK K
    try (simp only [Act.put, List.setIfInBounds_toArray, List.set_cons_zero, List.set_cons_succ])
    refine tk 14 hHeld ?_
    refine rd1 19 (fun K hK => ?_)
    go_simp
    refine (JK.out _).mono ?_
    rintro e w' ⟨rfl, rfl⟩
    go_wp2_with fail
    refine hK.out _ _ ⟨ht.cell 0, ht.cell 1, ht.cell 2, hq.cell 0, hq.cell 1, hq.cell 2, hq.cell 3, hv.cell 0, hv.cell 1, hv.cell 2, hr.cell 0, hr.cell 1, hr.cell 2⟩ (fun hHeld => ?_)
    clear hK K
    try (simp only [Act.put, List.setIfInBounds_toArray, List.set_cons_zero, List.set_cons_succ])
    refine tk 20 hHeld ?_
    refine tk 21 hHeld ?_
    refine wpAnyH_done ?hru128 ?hqu128 _
    case hru128 => kernel_rfl
    refine NoPanic.normal ?_
    try go_wp2_with fail
    go_wp2_with fail
    refine (HC.out _).mono ?_
    rintro e w4 ⟨rfl, bb4⟩
    replace hr := hr.below bb4 hr.lt
    replace hb := hb.on bb4
    clear HC ht hq hv bb4
    have lr := hr.lt
    replace hr := hr.alloc (.cells #[.int .i32 y0, .int .i32 y1, .int .i32 y2] 25)
    replace hb := hb.alloc hb.size (.cells #[.int .i32 y0, .int .i32 y1, .int .i32 y2] 25)
    have hY := Blk.new w4 25 #[.int .i32 y0, .int .i32 y1, .int .i32 y2]
    go_upto_region 6 with fail
    generalize w4.alloc (.cells #[.int .i32 y0, .int .i32 y1, .int .i32 y2] 25) = W5 at *
    generalize w4.heap.size = gY at *
    have c0 : W5.cell? ⟨gY, 0, none⟩ = some (.int .i32 y0) := hY.cell 0
    have d0 : W5.cell? ⟨w.heap.size + 1 + 1, 0, none⟩ = some (.int .i32 0) := hr.cell 0
    have zz0 := hr.frozen 0
    have c1 : W5.cell? ⟨gY, 1, none⟩ = some (.int .i32 y1) := hY.cell 1
    have d1 : W5.cell? ⟨w.heap.size + 1 + 1, 1, none⟩ = some (.int .i32 0) := hr.cell 1
    have zz1 := hr.frozen 1
    have c2 : W5.cell? ⟨gY, 2, none⟩ = some (.int .i32 y2) := hY.cell 2
    have d2 : W5.cell? ⟨w.heap.size + 1 + 1, 2, none⟩ = some (.int .i32 0) := hr.cell 2
    have zz2 := hr.frozen 2
    have hf : Blk (((W5.setCell ⟨w.heap.size + 1 + 1, 0, none⟩ (.int .i32 y0)).setCell ⟨w.heap.size + 1 + 1, 1, none⟩ (.int .i32 y1)).setCell ⟨w.heap.size + 1 + 1, 2, none⟩ (.int .i32 y2)) (w.heap.size + 1 + 1) 25 #[.int .i32 y0, .int .i32 y1, .int .i32 y2] := (((hr.set_ 0 (.int .i32 y0)).set_ 1 (.int .i32 y1)).set_ 2 (.int .i32 y2))
    have hbf : Below w.heap.size w (((W5.setCell ⟨w.heap.size + 1 + 1, 0, none⟩ (.int .i32 y0)).setCell ⟨w.heap.size + 1 + 1, 1, none⟩ (.int .i32 y1)).setCell ⟨w.heap.size + 1 + 1, 2, none⟩ (.int .i32 y2)) := (((hb.setCell (p := ⟨w.heap.size + 1 + 1, 0, none⟩) (by dsimp only; omega) (.int .i32 y0)).setCell (p := ⟨w.heap.size + 1 + 1, 1, none⟩) (by dsimp only; omega) (.int .i32 y1)).setCell (p := ⟨w.heap.size + 1 + 1, 2, none⟩) (by dsimp only; omega) (.int .i32 y2))
    go_wp2
    generalize (((W5.setCell ⟨w.heap.size + 1 + 1, 0, none⟩ (.int .i32 y0)).setCell ⟨w.heap.size + 1 + 1, 1, none⟩ (.int .i32 y1)).setCell ⟨w.heap.size + 1 + 1, 2, none⟩ (.int .i32 y2)) = wf at *
    have f0 : wf.cell? ⟨w.heap.size + 1 + 1, 0, none⟩ = some (.int .i32 y0) := hf.cell 0
    have f1 : wf.cell? ⟨w.heap.size + 1 + 1, 1, none⟩ = some (.int .i32 y1) := hf.cell 1
    have f2 : wf.cell? ⟨w.heap.size + 1 + 1, 2, none⟩ = some (.int .i32 y2) := hf.cell 2
    simp [bodyPost, results, Try.results14, go_sem, f0, f1, f2]
    exact HPost.out _ _ ⟨rfl, hbf⟩
end Go.Proofs.Ytfogjfmpgfcolaa
