/- Chapter 13: the document's answer, the angles of a quaternion. -/
import Derived.Test.YtfogjfmpgfcolaaTurnO
import Derived.Test.YtfogjfmpgfcolaaTurnM
namespace Go.Proofs.Ytfogjfmpgfcolaa
open Go.RowKit
set_option linter.unusedVariables false
set_option linter.unusedSimpArgs false

set_option maxRecDepth 20000 in
set_option maxHeartbeats 16000000 in
theorem r13_Angles (q0 q1 q2 q3 : Int) (w : World) (iq0 : I32 q0) (iq1 : I32 q1) (iq2 : I32 q2) (iq3 : I32 q3) :
    Calls Try.prog 25 #[.agg #[.int .i32 q0, .int .i32 q1, .int .i32 q2, .int .i32 q3]] w (Angs q0 q1 q2 q3 w) := by
  have HPost : Hid (∀ e w', e = .returned (.tuple #[.int .i32 (atanP (clampP (upY q0 q1 q2 q3)) (clampP (upZ q0 q1 q2 q3))), .int .i32 (atanP (clampP (-clampP (upX q0 q1 q2 q3))) (anL (clampP (upY q0 q1 q2 q3)) (clampP (upZ q0 q1 q2 q3)))), .int .i32 (atanP (anY q0 q1 q2 q3) (anX q0 q1 q2 q3))]) ∧ Below w.heap.size w w' → Angs q0 q1 q2 q3 w e w') := fun e w' h => h
  have hu := fun w => r13_Up q0 q1 q2 q3 w iq0 iq1 iq2 iq3
  unfold Ups at hu
  have Ha := hid fun w => r13_by q1 q2 w iq1 iq2
  have ma := tm_bd q1 q2 iq1 iq2
  have Hb := hid fun w => r13_by q0 q3 w iq0 iq3
  have mb := tm_bd q0 q3 iq0 iq3
  have Hc := hid fun w => r13_by q0 q0 w iq0 iq0
  have mc := tm_bd q0 q0 iq0 iq0
  have Hd := hid fun w => r13_by q1 q1 w iq1 iq1
  have md := tm_bd q1 q1 iq1 iq1
  have Hg := hid fun w => r13_by q2 q2 w iq2 iq2
  have mg := tm_bd q2 q2 iq2 iq2
  have Hh := hid fun w => r13_by q3 q3 w iq3 iq3
  have mh := tm_bd q3 q3 iq3 iq3
  have hY : clampP (2 * (tmP q1 q2 + tmP q0 q3)) = anY q0 q1 q2 q3 := rfl
  have hX : clampP (tmP q0 q0 + tmP q1 q1 - tmP q2 q2 - tmP q3 q3) = anX q0 q1 q2 q3 := rfl
  generalize gga : tmP q1 q2 = a at *
  clear gga
  generalize ggb : tmP q0 q3 = b at *
  clear ggb
  generalize ggc : tmP q0 q0 = c at *
  clear ggc
  generalize ggd : tmP q1 q1 = d at *
  clear ggd
  generalize ggg : tmP q2 q2 = g at *
  clear ggg
  generalize ggh : tmP q3 q3 = h at *
  clear ggh
  have w1 : IntKind.i64.wrap (a + b) = a + b := IntWalk.i64_in _ (by omega)
  have w2 : IntKind.i64.wrap (2 * (a + b)) = 2 * (a + b) := IntWalk.i64_in _ (by omega)
  have w3 : IntKind.i64.wrap (c + d) = c + d := IntWalk.i64_in _ (by omega)
  have w4 : IntKind.i64.wrap (c + d - g) = c + d - g := IntWalk.i64_in _ (by omega)
  have w5 : IntKind.i64.wrap (c + d - g - h) = c + d - g - h := IntWalk.i64_in _ (by omega)
  have HCY := hid fun w => r13_cut (2 * (a + b)) w (by unfold I64; omega)
  have HCX := hid fun w => r13_cut (c + d - g - h) w (by unfold I64; omega)
  rw [hY] at HCY
  rw [hX] at HCX
  clear hY hX ma mb mc md mg mh
  have iux := clampP_bd (upX q0 q1 q2 q3)
  generalize clampP (upX q0 q1 q2 q3) = ux at *
  have iuy := clampP_bd (upY q0 q1 q2 q3)
  generalize clampP (upY q0 q1 q2 q3) = uy at *
  have iuz := clampP_bd (upZ q0 q1 q2 q3)
  generalize clampP (upZ q0 q1 q2 q3) = uz at *
  have iY : I32 (anY q0 q1 q2 q3) := clampP_bd _
  have iX : I32 (anX q0 q1 q2 q3) := clampP_bd _
  generalize anY q0 q1 q2 q3 = Y at *
  generalize anX q0 q1 q2 q3 = X at *
  have hsq := sqP_bd [uy, uz]
  have hrb : 0 ≤ rootP (sqP [uy, uz]) ∧ rootP (sqP [uy, uz]) ≤ 4294967295 := root_bd2 _ hsq
  have hlb : clampP (rootP (sqP [uy, uz])) = anL uy uz := rfl
  have HLen := hid fun (w : World) (g : Nat) (hr : Row .i32 w w.heap.size (some ⟨g, 0, none⟩) 2 [uy, uz]) => ref_Length (some ⟨g, 0, none⟩) 2 2 [uy, uz] w hr (by unfold I32 at *; simp; omega) (by omega)
  have HCL := hid fun w => r13_cut (rootP (sqP [uy, uz])) w (by unfold I64; omega)
  rw [hlb] at HCL
  clear hlb hsq
  have iL : I32 (anL uy uz) := clampP_bd _
  generalize anL uy uz = L at *
  generalize rootP (sqP [uy, uz]) = rt at *
  have w6 : IntKind.i64.wrap rt = rt := IntWalk.i64_in _ (by omega)
  have w7 : IntKind.i64.wrap ux = ux := IntWalk.i64_in _ (by unfold I32 at *; omega)
  have w8 : IntKind.i64.wrap (-ux) = -ux := IntWalk.i64_in _ (by unfold I32 at *; omega)
  have HCU := hid fun w => r13_cut (-ux) w (by unfold I32 I64 at *; omega)
  have iV := clampP_bd (-ux)
  generalize clampP (-ux) = V at *
  have HA1 := hid fun w => r13_Atan uy uz w iuy iuz
  have HA2 := hid fun w => r13_Atan V L w iV iL
  have HA3 := hid fun w => r13_Atan Y X w iY iX
  generalize atanP uy uz = r1 at *
  generalize atanP V L = r2 at *
  generalize atanP Y X = r3 at *
  clear iq0 iq1 iq2 iq3 iux iuy iuz iY iX iL iV hrb
  have HU := hid hu
  clear hu
  have hp0 : Blk (w.alloc (.cells #[.int .i32 q0, .int .i32 q1, .int .i32 q2, .int .i32 q3] 23)) w.heap.size 23 #[.int .i32 q0, .int .i32 q1, .int .i32 q2, .int .i32 q3] := Blk.new w _ _
  have hb : Below w.heap.size w (w.alloc (.cells #[.int .i32 q0, .int .i32 q1, .int .i32 q2, .int .i32 q3] 23)) := (Below.refl _ w).alloc (Nat.le_refl _) _
  have f0 : (w.alloc (.cells #[.int .i32 q0, .int .i32 q1, .int .i32 q2, .int .i32 q3] 23)).cell? ⟨w.heap.size, 0, none⟩ = some (.int .i32 q0) := hp0.cell 0
  have f1 : (w.alloc (.cells #[.int .i32 q0, .int .i32 q1, .int .i32 q2, .int .i32 q3] 23)).cell? ⟨w.heap.size, 1, none⟩ = some (.int .i32 q1) := hp0.cell 1
  have f2 : (w.alloc (.cells #[.int .i32 q0, .int .i32 q1, .int .i32 q2, .int .i32 q3] 23)).cell? ⟨w.heap.size, 2, none⟩ = some (.int .i32 q2) := hp0.cell 2
  have f3 : (w.alloc (.cells #[.int .i32 q0, .int .i32 q1, .int .i32 q2, .int .i32 q3] 23)).cell? ⟨w.heap.size, 3, none⟩ = some (.int .i32 q3) := hp0.cell 3
  go_enter Try.func25, Try.ntmps25
  go_wp2_with fail
  clear f0 f1 f2 f3
  generalize w.alloc (.cells #[.int .i32 q0, .int .i32 q1, .int .i32 q2, .int .i32 q3] 23) = W0 at *
  refine (HU.out _).mono ?_
  rintro e w2 ⟨rfl, b2⟩
  have lt2 := hp0.lt
  replace hp0 := (hp0.below b2 hp0.lt).alloc (.cells #[.int .i32 ux, .int .i32 uy, .int .i32 uz] 25)
  replace hb := (below_on hb b2).alloc (below_on hb b2).size (.cells #[.int .i32 ux, .int .i32 uy, .int .i32 uz] 25)
  clear b2
  have hv := Blk.new w2 25 #[.int .i32 ux, .int .i32 uy, .int .i32 uz]
  go_upto_region 2 with fail
  generalize w2.alloc (.cells #[.int .i32 ux, .int .i32 uy, .int .i32 uz] 25) = wv at *
  generalize w2.heap.size = gv at *
  have hs := Blk.new wv 21 #[.int .i32 uy, .int .i32 uz]
  have f1 : wv.cell? ⟨gv, 1, none⟩ = some (.int .i32 uy) := hv.cell 1
  have f2 : wv.cell? ⟨gv, 2, none⟩ = some (.int .i32 uz) := hv.cell 2
  go_wp2_with fail
  clear f1 f2
  have hrow : Row .i32 (wv.alloc (.cells #[.int .i32 uy, .int .i32 uz] 21)) (wv.alloc (.cells #[.int .i32 uy, .int .i32 uz] 21)).heap.size (some ⟨wv.heap.size, 0, none⟩) 2 [uy, uz] := Row.blk hs rfl hs.lt
  replace hp0 := hp0.alloc (.cells #[.int .i32 uy, .int .i32 uz] 21)
  replace hv := hv.alloc (.cells #[.int .i32 uy, .int .i32 uz] 21)
  replace hb := hb.alloc hb.size (.cells #[.int .i32 uy, .int .i32 uz] 21)
  refine (HLen.out _ _ hrow).mono ?_
  rintro e wl ⟨rfl, bb⟩
  replace hp0 := hp0.below bb hp0.lt
  replace hv := hv.below bb hv.lt
  replace hb := below_on hb bb
  clear bb hrow hs
  go_upto_region 3 with fail
  refine wp_region_noPanic ?_
  refine wp_region_held_drew (S := (fun w' : World => w'.cell? ⟨w.heap.size, 0, none⟩ = some (.int .i32 q0) ∧ w'.cell? ⟨w.heap.size, 1, none⟩ = some (.int .i32 q1) ∧ w'.cell? ⟨w.heap.size, 2, none⟩ = some (.int .i32 q2) ∧ w'.cell? ⟨w.heap.size, 3, none⟩ = some (.int .i32 q3) ∧ w'.cell? ⟨gv, 0, none⟩ = some (.int .i32 ux) ∧ w'.cell? ⟨gv, 1, none⟩ = some (.int .i32 uy) ∧ w'.cell? ⟨gv, 2, none⟩ = some (.int .i32 uz))) (by kernel_rfl) ⟨hp0.cell 0, hp0.cell 1, hp0.cell 2, hp0.cell 3, hv.cell 0, hv.cell 1, hv.cell 2⟩ (fun hHeld => ?_)
  refine (show wpAnyH _ _ _ _ _ 14 _ _ _ from ?_)
  try (simp only [Act.put, List.setIfInBounds_toArray, List.set_cons_zero, List.set_cons_succ])
  replace hp0 := hp0.drew
  replace hv := hv.drew
  replace hb := hb.drew
  generalize wl.drew = W16 at *
  refine tk 0 hHeld ?_
  refine tk 1 hHeld ?_
  refine tk 2 hHeld ?_
  refine tk 3 hHeld ?_
  refine tk 5 hHeld ?_
  refine tk 6 hHeld ?_
  refine tk 7 hHeld ?_
  refine tk 8 hHeld ?_
  refine rd1 4 (fun K hK => ?_)
  go_simp
  refine (Ha.out _).mono ?_
  rintro e w' ⟨rfl, rfl⟩
  go_wp2_with fail
  refine hK.out _ _ ⟨hp0.cell 0, hp0.cell 1, hp0.cell 2, hp0.cell 3, hv.cell 0, hv.cell 1, hv.cell 2⟩ (fun hHeld => ?_)
  clear hK K
  try (simp only [Act.put, List.setIfInBounds_toArray, List.set_cons_zero, List.set_cons_succ])
  refine rd1 9 (fun K hK => ?_)
  go_simp
  refine (Hb.out _).mono ?_
  rintro e w' ⟨rfl, rfl⟩
  go_wp2_with fail
  refine hK.out _ _ ⟨hp0.cell 0, hp0.cell 1, hp0.cell 2, hp0.cell 3, hv.cell 0, hv.cell 1, hv.cell 2⟩ (fun hHeld => ?_)
  clear hK K
  try (simp only [Act.put, List.setIfInBounds_toArray, List.set_cons_zero, List.set_cons_succ])
  refine tk 10 hHeld ?_
  refine tk 11 hHeld ?_
  refine rd1 12 (fun K hK => ?_)
  go_simp
  refine (HCY.out _).mono ?_
  rintro e w' ⟨rfl, rfl⟩
  go_wp2_with fail
  refine hK.out _ _ ⟨hp0.cell 0, hp0.cell 1, hp0.cell 2, hp0.cell 3, hv.cell 0, hv.cell 1, hv.cell 2⟩ (fun hHeld => ?_)
  clear hK K
  try (simp only [Act.put, List.setIfInBounds_toArray, List.set_cons_zero, List.set_cons_succ])
  refine tk 13 hHeld ?_
  refine wpAnyH_done ?hru17 ?hqu17 _
  case hru17 => kernel_rfl
  refine NoPanic.normal ?_
  clear hHeld
  go_upto_region 4 with fail
  refine wp_region_noPanic ?_
  refine wp_region_held_drew (S := (fun w' : World => w'.cell? ⟨w.heap.size, 0, none⟩ = some (.int .i32 q0) ∧ w'.cell? ⟨w.heap.size, 1, none⟩ = some (.int .i32 q1) ∧ w'.cell? ⟨w.heap.size, 2, none⟩ = some (.int .i32 q2) ∧ w'.cell? ⟨w.heap.size, 3, none⟩ = some (.int .i32 q3) ∧ w'.cell? ⟨gv, 0, none⟩ = some (.int .i32 ux) ∧ w'.cell? ⟨gv, 1, none⟩ = some (.int .i32 uy) ∧ w'.cell? ⟨gv, 2, none⟩ = some (.int .i32 uz))) (by kernel_rfl) ⟨hp0.cell 0, hp0.cell 1, hp0.cell 2, hp0.cell 3, hv.cell 0, hv.cell 1, hv.cell 2⟩ (fun hHeld => ?_)
  refine (show wpAnyH _ _ _ _ _ 25 _ _ _ from ?_)
  try (simp only [Act.put, List.setIfInBounds_toArray, List.set_cons_zero, List.set_cons_succ])
  replace hp0 := hp0.drew
  replace hv := hv.drew
  replace hb := hb.drew
  generalize W16.drew = W18 at *
  refine tk 0 hHeld ?_
  refine tk 1 hHeld ?_
  refine tk 2 hHeld ?_
  refine tk 3 hHeld ?_
  refine tk 5 hHeld ?_
  refine tk 6 hHeld ?_
  refine tk 7 hHeld ?_
  refine tk 8 hHeld ?_
  refine tk 11 hHeld ?_
  refine tk 12 hHeld ?_
  refine tk 13 hHeld ?_
  refine tk 14 hHeld ?_
  refine tk 17 hHeld ?_
  refine tk 18 hHeld ?_
  refine tk 19 hHeld ?_
  refine tk 20 hHeld ?_
  refine rd1 4 (fun K hK => ?_)
  go_simp
  refine (Hc.out _).mono ?_
  rintro e w' ⟨rfl, rfl⟩
  go_wp2_with fail
  refine hK.out _ _ ⟨hp0.cell 0, hp0.cell 1, hp0.cell 2, hp0.cell 3, hv.cell 0, hv.cell 1, hv.cell 2⟩ (fun hHeld => ?_)
  clear hK K
  try (simp only [Act.put, List.setIfInBounds_toArray, List.set_cons_zero, List.set_cons_succ])
  refine rd1 9 (fun K hK => ?_)
  go_simp
  refine (Hd.out _).mono ?_
  rintro e w' ⟨rfl, rfl⟩
  go_wp2_with fail
  refine hK.out _ _ ⟨hp0.cell 0, hp0.cell 1, hp0.cell 2, hp0.cell 3, hv.cell 0, hv.cell 1, hv.cell 2⟩ (fun hHeld => ?_)
  clear hK K
  try (simp only [Act.put, List.setIfInBounds_toArray, List.set_cons_zero, List.set_cons_succ])
  refine tk 10 hHeld ?_
  refine rd1 15 (fun K hK => ?_)
  go_simp
  refine (Hg.out _).mono ?_
  rintro e w' ⟨rfl, rfl⟩
  go_wp2_with fail
  refine hK.out _ _ ⟨hp0.cell 0, hp0.cell 1, hp0.cell 2, hp0.cell 3, hv.cell 0, hv.cell 1, hv.cell 2⟩ (fun hHeld => ?_)
  clear hK K
  try (simp only [Act.put, List.setIfInBounds_toArray, List.set_cons_zero, List.set_cons_succ])
  refine tk 16 hHeld ?_
  refine rd1 21 (fun K hK => ?_)
  go_simp
  refine (Hh.out _).mono ?_
  rintro e w' ⟨rfl, rfl⟩
  go_wp2_with fail
  refine hK.out _ _ ⟨hp0.cell 0, hp0.cell 1, hp0.cell 2, hp0.cell 3, hv.cell 0, hv.cell 1, hv.cell 2⟩ (fun hHeld => ?_)
  clear hK K
  try (simp only [Act.put, List.setIfInBounds_toArray, List.set_cons_zero, List.set_cons_succ])
  refine tk 22 hHeld ?_
  refine rd1 23 (fun K hK => ?_)
  go_simp
  refine (HCX.out _).mono ?_
  rintro e w' ⟨rfl, rfl⟩
  go_wp2_with fail
  refine hK.out _ _ ⟨hp0.cell 0, hp0.cell 1, hp0.cell 2, hp0.cell 3, hv.cell 0, hv.cell 1, hv.cell 2⟩ (fun hHeld => ?_)
  clear hK K
  try (simp only [Act.put, List.setIfInBounds_toArray, List.set_cons_zero, List.set_cons_succ])
  refine tk 24 hHeld ?_
  refine wpAnyH_done ?hru19 ?hqu19 _
  case hru19 => kernel_rfl
  refine NoPanic.normal ?_
  clear hHeld
  go_upto_region 5 with fail
  refine wp_region_noPanic ?_
  refine wp_region_held_drew (S := (fun w' : World => w'.cell? ⟨w.heap.size, 0, none⟩ = some (.int .i32 q0) ∧ w'.cell? ⟨w.heap.size, 1, none⟩ = some (.int .i32 q1) ∧ w'.cell? ⟨w.heap.size, 2, none⟩ = some (.int .i32 q2) ∧ w'.cell? ⟨w.heap.size, 3, none⟩ = some (.int .i32 q3) ∧ w'.cell? ⟨gv, 0, none⟩ = some (.int .i32 ux) ∧ w'.cell? ⟨gv, 1, none⟩ = some (.int .i32 uy) ∧ w'.cell? ⟨gv, 2, none⟩ = some (.int .i32 uz))) (by kernel_rfl) ⟨hp0.cell 0, hp0.cell 1, hp0.cell 2, hp0.cell 3, hv.cell 0, hv.cell 1, hv.cell 2⟩ (fun hHeld => ?_)
  refine (show wpAnyH _ _ _ _ _ 20 _ _ _ from ?_)
  try (simp only [Act.put, List.setIfInBounds_toArray, List.set_cons_zero, List.set_cons_succ])
  replace hp0 := hp0.drew
  replace hv := hv.drew
  replace hb := hb.drew
  generalize W18.drew = W20 at *
  refine tk 0 hHeld ?_
  refine tk 1 hHeld ?_
  refine tk 2 hHeld ?_
  refine tk 3 hHeld ?_
  refine tk 5 hHeld ?_
  refine tk 6 hHeld ?_
  refine tk 7 hHeld ?_
  refine tk 8 hHeld ?_
  refine tk 10 hHeld ?_
  refine tk 11 hHeld ?_
  refine tk 14 hHeld ?_
  refine tk 15 hHeld ?_
  refine rd1 4 (fun K hK => ?_)
  go_simp
  refine (HA1.out _).mono ?_
  rintro e W21 ⟨rfl, bb⟩
  go_wp2_with fail
  replace hp0 := hp0.below bb hp0.lt
  replace hv := hv.below bb hv.lt
  replace hb := below_on hb bb
  clear bb
  refine hK.out _ _ ⟨hp0.cell 0, hp0.cell 1, hp0.cell 2, hp0.cell 3, hv.cell 0, hv.cell 1, hv.cell 2⟩ (fun hHeld => ?_)
  clear hK K
  try (simp only [Act.put, List.setIfInBounds_toArray, List.set_cons_zero, List.set_cons_succ])
  refine rd1 9 (fun K hK => ?_)
  go_simp
  refine (HCU.out _).mono ?_
  rintro e w' ⟨rfl, rfl⟩
  go_wp2_with fail
  refine hK.out _ _ ⟨hp0.cell 0, hp0.cell 1, hp0.cell 2, hp0.cell 3, hv.cell 0, hv.cell 1, hv.cell 2⟩ (fun hHeld => ?_)
  clear hK K
  try (simp only [Act.put, List.setIfInBounds_toArray, List.set_cons_zero, List.set_cons_succ])
  refine rd1 12 (fun K hK => ?_)
  go_simp
  refine (HCL.out _).mono ?_
  rintro e w' ⟨rfl, rfl⟩
  go_wp2_with fail
  refine hK.out _ _ ⟨hp0.cell 0, hp0.cell 1, hp0.cell 2, hp0.cell 3, hv.cell 0, hv.cell 1, hv.cell 2⟩ (fun hHeld => ?_)
  clear hK K
  try (simp only [Act.put, List.setIfInBounds_toArray, List.set_cons_zero, List.set_cons_succ])
  refine rd1 13 (fun K hK => ?_)
  go_simp
  refine (HA2.out _).mono ?_
  rintro e W22 ⟨rfl, bb⟩
  go_wp2_with fail
  replace hp0 := hp0.below bb hp0.lt
  replace hv := hv.below bb hv.lt
  replace hb := below_on hb bb
  clear bb
  refine hK.out _ _ ⟨hp0.cell 0, hp0.cell 1, hp0.cell 2, hp0.cell 3, hv.cell 0, hv.cell 1, hv.cell 2⟩ (fun hHeld => ?_)
  clear hK K
  try (simp only [Act.put, List.setIfInBounds_toArray, List.set_cons_zero, List.set_cons_succ])
  refine rd1 16 (fun K hK => ?_)
  go_simp
  refine (HA3.out _).mono ?_
  rintro e W23 ⟨rfl, bb⟩
  go_wp2_with fail
  replace hp0 := hp0.below bb hp0.lt
  replace hv := hv.below bb hv.lt
  replace hb := below_on hb bb
  clear bb
  refine hK.out _ _ ⟨hp0.cell 0, hp0.cell 1, hp0.cell 2, hp0.cell 3, hv.cell 0, hv.cell 1, hv.cell 2⟩ (fun hHeld => ?_)
  clear hK K
  try (simp only [Act.put, List.setIfInBounds_toArray, List.set_cons_zero, List.set_cons_succ])
  refine tk 17 hHeld ?_
  refine tk 18 hHeld ?_
  refine tk 19 hHeld ?_
  refine wpAnyH_done ?hru24 ?hqu24 _
  case hru24 => kernel_rfl
  refine NoPanic.normal ?_
  clear hHeld
  go_wp2
  go_ret3
  exact HPost.out _ _ ⟨rfl, hb⟩
end Go.Proofs.Ytfogjfmpgfcolaa
