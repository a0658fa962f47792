/- Chapter 13: the circle of an angle. -/
import Derived.Test.YtfogjfmpgfcolaaTurnK
namespace Go.Proofs.Ytfogjfmpgfcolaa
open Go.RowKit
set_option linter.unusedVariables false
set_option linter.unusedSimpArgs false

def pointP (n : Int) : Int := max (-1073741824) (min (roundP n 20) 1073741824)
theorem point_bd (n : Int) : -1073741824 ≤ pointP n ∧ pointP n ≤ 1073741824 := by unfold pointP; omega
theorem t_pointed (n : Int) (w : World) (hn : I64 n) :
    Calls Try.prog 51 #[.int .i64 n] w fun e w' => e = .returned (.int .i32 (pointP n)) ∧ Below w.heap.size w w' := by
  have H := hid fun w => fx_Round n 20 w hn (by unfold I64; omega)
  have HP : Hid (pointP n = max (-1073741824) (min (roundP n 20) 1073741824)) := rfl
  generalize roundP n 20 = r at *
  clear hn
  go_enter Try.func51, Try.ntmps51
  go_wp2_with fail
  refine (H.out _).mono ?_
  rintro e w' ⟨rfl, hb⟩
  go_wp2
  go_ret
  exact ⟨by rw [HP.out]; rfl, hb⟩
theorem r13_part (n : Int) (w : World) (hn : I64 n) :
    Calls Try.prog 54 #[.int .i64 n] w fun e w' => e = .returned (.int .i32 (pointP n)) ∧ w = w' := by
  have H := hid (fxr_Round n 20 w hn (by unfold I64; omega))
  have HP : Hid (pointP n = max (-1073741824) (min (roundP n 20) 1073741824)) := rfl
  generalize roundP n 20 = r at *
  clear hn
  go_enter Try.func54, Try.ntmps54
  go_wp2_with fail
  refine (H.out).mono ?_
  rintro e w' ⟨rfl, rfl⟩
  go_wp2
  go_ret
  exact ⟨by rw [HP.out]; rfl, rfl⟩
def behindP (a : Int) : Prop := 1073741824 < a ∨ a < -1073741824
instance (a : Int) : Decidable (behindP a) := by unfold behindP; infer_instance
def startC (a : Int) : Int := if behindP a then IntKind.i32.wrap (2147483648 - a) else a
def circV (a : Int) : Int × Int × Int := iterP stepC 31 (683706022956409, 0, startC a)
def circP (a : Int) : Int × Int := (if behindP a then -pointP (circV a).1 else pointP (circV a).1, pointP (circV a).2.1)
theorem i32_bd (n : Int) : I32 (IntKind.i32.wrap n) := by rw [i32_wrap]; unfold I32; omega
theorem start_C (a : Int) (ha : I32 a) : Near 0 (683706022956409, 0, startC a) := by
  have h : I32 (startC a) := by
    unfold startC
    split
    · exact i32_bd _
    · exact ha
  have e : bnP 0 = 2251799813685248 := rfl
  simp only [Near]
  rw [e]
  unfold I32 at h
  omega
set_option maxHeartbeats 8000000 in
theorem t_Circle (a : Int) (w : World) (ha : I32 a) :
    Calls Try.prog 21 #[.int .i32 a] w fun e w' => e = .returned (.tuple #[.int .i32 (circP a).1, .int .i32 (circP a).2]) ∧ Below w.heap.size w w' := by
  have hN := start_C a ha
  have HR := hid fun w => t_run_C _ _ _ w hN
  have hn := near_C _ hN 31 (by omega)
  obtain ⟨⟨X, Y, A⟩, HI⟩ : ∃ R, Hid (iterP stepC 31 (683706022956409, 0, startC a) = R) := ⟨_, rfl⟩
  rw [HI.out] at HR hn
  simp only at HR
  have hbn := bn_bd 31 (by omega)
  have HX := hid fun w => t_pointed X w (by have := hn.1; simp only at this; unfold I64; omega)
  have HY := hid fun w => t_pointed Y w (by have := hn.2.1; simp only at this; unfold I64; omega)
  have HV : Hid (circP a = (if behindP a then -pointP X else pointP X, pointP Y)) := hid (by unfold circP circV; rw [HI.out])
  have px := point_bd X
  generalize pointP X = c at *
  generalize pointP Y = s at *
  clear hN hn hbn HI
  have u1 : IntKind.i64.wrap a = a := IntWalk.i64_in _ (by unfold I32 at *; omega)
  have w1 : wrap64 (2147483648 - a) = 2147483648 - a := IntWalk.wrap64_in _ (by unfold I32 at *; omega)
  have w2 : IntKind.i64.wrap (2147483648 - a) = 2147483648 - a := IntWalk.i64_in _ (by unfold I32 at *; omega)
  have cb := i32_bd (2147483648 - a)
  rw [wrap32_is] at cb
  have w3 : wrap64 (wrap32 (2147483648 - a)) = wrap32 (2147483648 - a) := IntWalk.wrap64_in _ (by unfold I32 at cb; omega)
  have w4 : IntKind.i32.wrap (-c) = -c := by rw [i32_wrap]; omega
  have w5 : wrap32 (-c) = -c := by rw [← wrap32_is, i32_wrap]; omega
  clear cb
  rcases (show 1073741824 < a ∨ (¬ (1073741824 < a) ∧ a < -1073741824) ∨ (¬ (1073741824 < a) ∧ ¬ (a < -1073741824)) by omega) with g | ⟨g, g'⟩ | ⟨g, g'⟩
  · have hz : startC a = wrap32 (2147483648 - a) := by unfold startC; rw [if_pos (show behindP a from Or.inl g), wrap32_is]
    have HV2 : Hid (circP a = (-c, s)) := hid (by rw [HV.out, if_pos (show behindP a from Or.inl g)])
    rw [hz] at HR
    clear hz HV
    generalize hZ : wrap32 (2147483648 - a) = Z at *
    clear ha
    have HP := hid (Blk.new w 70 #[.int .i64 683706022956409, .int .i64 0, .int .i64 Z])
    have HB := hid (show Below w.heap.size w (w.alloc (.cells #[.int .i64 683706022956409, .int .i64 0, .int .i64 Z] 70)) from (Below.refl _ w).alloc (Nat.le_refl _) _)
    go_enter Try.func21, Try.ntmps21
    go_wp2_with fail
    refine (HR.out _).mono ?_
    rintro e w2 ⟨rfl, b2⟩
    have hp := HP.out.below b2 HP.out.lt
    have hb := HB.out.trans (b2.mono HB.out.size)
    clear HP HB b2
    have d0 : w2.cell? ⟨w.heap.size, 0, none⟩ = some (.int .i64 683706022956409) := hp.cell 0
    have z0 := hp.frozen 0
    have d1 : w2.cell? ⟨w.heap.size, 1, none⟩ = some (.int .i64 0) := hp.cell 1
    have z1 := hp.frozen 1
    have d2 : w2.cell? ⟨w.heap.size, 2, none⟩ = some (.int .i64 Z) := hp.cell 2
    have z2 := hp.frozen 2
    have hf : Blk (((w2.setCell ⟨w.heap.size, 0, none⟩ (.int .i64 X)).setCell ⟨w.heap.size, 1, none⟩ (.int .i64 Y)).setCell ⟨w.heap.size, 2, none⟩ (.int .i64 A)) w.heap.size 70 #[.int .i64 X, .int .i64 Y, .int .i64 A] := (((hp.set_ 0 (.int .i64 X)).set_ 1 (.int .i64 Y)).set_ 2 (.int .i64 A))
    have hbf : Below w.heap.size w (((w2.setCell ⟨w.heap.size, 0, none⟩ (.int .i64 X)).setCell ⟨w.heap.size, 1, none⟩ (.int .i64 Y)).setCell ⟨w.heap.size, 2, none⟩ (.int .i64 A)) := (((hb.setCell (p := ⟨w.heap.size, 0, none⟩) (by dsimp only; omega) (.int .i64 X)).setCell (p := ⟨w.heap.size, 1, none⟩) (by dsimp only; omega) (.int .i64 Y)).setCell (p := ⟨w.heap.size, 2, none⟩) (by dsimp only; omega) (.int .i64 A))
    go_wp2_with fail
    generalize (((w2.setCell ⟨w.heap.size, 0, none⟩ (.int .i64 X)).setCell ⟨w.heap.size, 1, none⟩ (.int .i64 Y)).setCell ⟨w.heap.size, 2, none⟩ (.int .i64 A)) = W3 at *
    clear d0 d1 d2 z0 z1 z2 hp hb
    refine wp_region_noPanic ?_
    refine wp_region_held_drew (S := (fun w' : World => w'.cell? ⟨w.heap.size, 0, none⟩ = some (.int .i64 X) ∧ w'.cell? ⟨w.heap.size, 1, none⟩ = some (.int .i64 Y))) (by kernel_rfl) ⟨hf.cell 0, hf.cell 1⟩ (fun hHeld => ?_)
    refine (show wpAnyH _ _ _ _ _ 8 _ _ _ from ?_)
    try (simp only [Act.put, List.setIfInBounds_toArray, List.set_cons_zero, List.set_cons_succ])
    replace hf := hf.drew
    replace hbf := hbf.drew
    generalize W3.drew = W4 at *
    refine tk 0 hHeld ?_
    refine tk 1 hHeld ?_
    refine tk 3 hHeld ?_
    refine tk 4 hHeld ?_
    refine rd1 2 (fun K hK => ?_)
    go_simp
    refine (HX.out _).mono ?_
    rintro e wx2 ⟨rfl, bb⟩
    go_wp2_with fail
    replace hf := hf.below bb hf.lt
    replace hbf := hbf.trans (bb.mono hbf.size)
    clear bb
    refine hK.out _ _ ⟨hf.cell 0, hf.cell 1⟩ (fun hHeld => ?_)
    clear hK K
    try (simp only [Act.put, List.setIfInBounds_toArray, List.set_cons_zero, List.set_cons_succ])
    refine rd1 5 (fun K hK => ?_)
    go_simp
    refine (HY.out _).mono ?_
    rintro e wx5 ⟨rfl, bb⟩
    go_wp2_with fail
    replace hf := hf.below bb hf.lt
    replace hbf := hbf.trans (bb.mono hbf.size)
    clear bb
    refine hK.out _ _ ⟨hf.cell 0, hf.cell 1⟩ (fun hHeld => ?_)
    clear hK K
    try (simp only [Act.put, List.setIfInBounds_toArray, List.set_cons_zero, List.set_cons_succ])
    refine tk 6 hHeld ?_
    refine tk 7 hHeld ?_
    refine wpAnyH_done ?hr0 ?hq0 _
    case hr0 => kernel_rfl
    refine NoPanic.normal ?_
    clear hHeld
    go_wp2
    go_ret2
    exact ⟨by rw [HV2.out]; rfl, hbf⟩
  · have hz : startC a = wrap32 (2147483648 - a) := by unfold startC; rw [if_pos (show behindP a from Or.inr g'), wrap32_is]
    have HV2 : Hid (circP a = (-c, s)) := hid (by rw [HV.out, if_pos (show behindP a from Or.inr g')])
    rw [hz] at HR
    clear hz HV
    generalize hZ : wrap32 (2147483648 - a) = Z at *
    clear ha
    have HP := hid (Blk.new w 70 #[.int .i64 683706022956409, .int .i64 0, .int .i64 Z])
    have HB := hid (show Below w.heap.size w (w.alloc (.cells #[.int .i64 683706022956409, .int .i64 0, .int .i64 Z] 70)) from (Below.refl _ w).alloc (Nat.le_refl _) _)
    go_enter Try.func21, Try.ntmps21
    go_wp2_with fail
    refine (HR.out _).mono ?_
    rintro e w2 ⟨rfl, b2⟩
    have hp := HP.out.below b2 HP.out.lt
    have hb := HB.out.trans (b2.mono HB.out.size)
    clear HP HB b2
    have d0 : w2.cell? ⟨w.heap.size, 0, none⟩ = some (.int .i64 683706022956409) := hp.cell 0
    have z0 := hp.frozen 0
    have d1 : w2.cell? ⟨w.heap.size, 1, none⟩ = some (.int .i64 0) := hp.cell 1
    have z1 := hp.frozen 1
    have d2 : w2.cell? ⟨w.heap.size, 2, none⟩ = some (.int .i64 Z) := hp.cell 2
    have z2 := hp.frozen 2
    have hf : Blk (((w2.setCell ⟨w.heap.size, 0, none⟩ (.int .i64 X)).setCell ⟨w.heap.size, 1, none⟩ (.int .i64 Y)).setCell ⟨w.heap.size, 2, none⟩ (.int .i64 A)) w.heap.size 70 #[.int .i64 X, .int .i64 Y, .int .i64 A] := (((hp.set_ 0 (.int .i64 X)).set_ 1 (.int .i64 Y)).set_ 2 (.int .i64 A))
    have hbf : Below w.heap.size w (((w2.setCell ⟨w.heap.size, 0, none⟩ (.int .i64 X)).setCell ⟨w.heap.size, 1, none⟩ (.int .i64 Y)).setCell ⟨w.heap.size, 2, none⟩ (.int .i64 A)) := (((hb.setCell (p := ⟨w.heap.size, 0, none⟩) (by dsimp only; omega) (.int .i64 X)).setCell (p := ⟨w.heap.size, 1, none⟩) (by dsimp only; omega) (.int .i64 Y)).setCell (p := ⟨w.heap.size, 2, none⟩) (by dsimp only; omega) (.int .i64 A))
    go_wp2_with fail
    generalize (((w2.setCell ⟨w.heap.size, 0, none⟩ (.int .i64 X)).setCell ⟨w.heap.size, 1, none⟩ (.int .i64 Y)).setCell ⟨w.heap.size, 2, none⟩ (.int .i64 A)) = W3 at *
    clear d0 d1 d2 z0 z1 z2 hp hb
    refine wp_region_noPanic ?_
    refine wp_region_held_drew (S := (fun w' : World => w'.cell? ⟨w.heap.size, 0, none⟩ = some (.int .i64 X) ∧ w'.cell? ⟨w.heap.size, 1, none⟩ = some (.int .i64 Y))) (by kernel_rfl) ⟨hf.cell 0, hf.cell 1⟩ (fun hHeld => ?_)
    refine (show wpAnyH _ _ _ _ _ 8 _ _ _ from ?_)
    try (simp only [Act.put, List.setIfInBounds_toArray, List.set_cons_zero, List.set_cons_succ])
    replace hf := hf.drew
    replace hbf := hbf.drew
    generalize W3.drew = W4 at *
    refine tk 0 hHeld ?_
    refine tk 1 hHeld ?_
    refine tk 3 hHeld ?_
    refine tk 4 hHeld ?_
    refine rd1 2 (fun K hK => ?_)
    go_simp
    refine (HX.out _).mono ?_
    rintro e wx2 ⟨rfl, bb⟩
    go_wp2_with fail
    replace hf := hf.below bb hf.lt
    replace hbf := hbf.trans (bb.mono hbf.size)
    clear bb
    refine hK.out _ _ ⟨hf.cell 0, hf.cell 1⟩ (fun hHeld => ?_)
    clear hK K
    try (simp only [Act.put, List.setIfInBounds_toArray, List.set_cons_zero, List.set_cons_succ])
    refine rd1 5 (fun K hK => ?_)
    go_simp
    refine (HY.out _).mono ?_
    rintro e wx5 ⟨rfl, bb⟩
    go_wp2_with fail
    replace hf := hf.below bb hf.lt
    replace hbf := hbf.trans (bb.mono hbf.size)
    clear bb
    refine hK.out _ _ ⟨hf.cell 0, hf.cell 1⟩ (fun hHeld => ?_)
    clear hK K
    try (simp only [Act.put, List.setIfInBounds_toArray, List.set_cons_zero, List.set_cons_succ])
    refine tk 6 hHeld ?_
    refine tk 7 hHeld ?_
    refine wpAnyH_done ?hr1 ?hq1 _
    case hr1 => kernel_rfl
    refine NoPanic.normal ?_
    clear hHeld
    go_wp2
    go_ret2
    exact ⟨by rw [HV2.out]; rfl, hbf⟩
  · have hz : startC a = a := by unfold startC; rw [if_neg (fun h => by rcases h with h | h <;> omega)]
    have HV2 : Hid (circP a = (c, s)) := hid (by rw [HV.out, if_neg (fun h => by rcases h with h | h <;> omega)])
    rw [hz] at HR
    clear hz HV
    clear ha
    have HP := hid (Blk.new w 70 #[.int .i64 683706022956409, .int .i64 0, .int .i64 a])
    have HB := hid (show Below w.heap.size w (w.alloc (.cells #[.int .i64 683706022956409, .int .i64 0, .int .i64 a] 70)) from (Below.refl _ w).alloc (Nat.le_refl _) _)
    go_enter Try.func21, Try.ntmps21
    go_wp2_with fail
    refine (HR.out _).mono ?_
    rintro e w2 ⟨rfl, b2⟩
    have hp := HP.out.below b2 HP.out.lt
    have hb := HB.out.trans (b2.mono HB.out.size)
    clear HP HB b2
    have d0 : w2.cell? ⟨w.heap.size, 0, none⟩ = some (.int .i64 683706022956409) := hp.cell 0
    have z0 := hp.frozen 0
    have d1 : w2.cell? ⟨w.heap.size, 1, none⟩ = some (.int .i64 0) := hp.cell 1
    have z1 := hp.frozen 1
    have d2 : w2.cell? ⟨w.heap.size, 2, none⟩ = some (.int .i64 a) := hp.cell 2
    have z2 := hp.frozen 2
    have hf : Blk (((w2.setCell ⟨w.heap.size, 0, none⟩ (.int .i64 X)).setCell ⟨w.heap.size, 1, none⟩ (.int .i64 Y)).setCell ⟨w.heap.size, 2, none⟩ (.int .i64 A)) w.heap.size 70 #[.int .i64 X, .int .i64 Y, .int .i64 A] := (((hp.set_ 0 (.int .i64 X)).set_ 1 (.int .i64 Y)).set_ 2 (.int .i64 A))
    have hbf : Below w.heap.size w (((w2.setCell ⟨w.heap.size, 0, none⟩ (.int .i64 X)).setCell ⟨w.heap.size, 1, none⟩ (.int .i64 Y)).setCell ⟨w.heap.size, 2, none⟩ (.int .i64 A)) := (((hb.setCell (p := ⟨w.heap.size, 0, none⟩) (by dsimp only; omega) (.int .i64 X)).setCell (p := ⟨w.heap.size, 1, none⟩) (by dsimp only; omega) (.int .i64 Y)).setCell (p := ⟨w.heap.size, 2, none⟩) (by dsimp only; omega) (.int .i64 A))
    go_wp2_with fail
    generalize (((w2.setCell ⟨w.heap.size, 0, none⟩ (.int .i64 X)).setCell ⟨w.heap.size, 1, none⟩ (.int .i64 Y)).setCell ⟨w.heap.size, 2, none⟩ (.int .i64 A)) = W3 at *
    clear d0 d1 d2 z0 z1 z2 hp hb
    refine wp_region_noPanic ?_
    refine wp_region_held_drew (S := (fun w' : World => w'.cell? ⟨w.heap.size, 0, none⟩ = some (.int .i64 X) ∧ w'.cell? ⟨w.heap.size, 1, none⟩ = some (.int .i64 Y))) (by kernel_rfl) ⟨hf.cell 0, hf.cell 1⟩ (fun hHeld => ?_)
    refine (show wpAnyH _ _ _ _ _ 8 _ _ _ from ?_)
    try (simp only [Act.put, List.setIfInBounds_toArray, List.set_cons_zero, List.set_cons_succ])
    replace hf := hf.drew
    replace hbf := hbf.drew
    generalize W3.drew = W4 at *
    refine tk 0 hHeld ?_
    refine tk 1 hHeld ?_
    refine tk 3 hHeld ?_
    refine tk 4 hHeld ?_
    refine rd1 2 (fun K hK => ?_)
    go_simp
    refine (HX.out _).mono ?_
    rintro e wx2 ⟨rfl, bb⟩
    go_wp2_with fail
    replace hf := hf.below bb hf.lt
    replace hbf := hbf.trans (bb.mono hbf.size)
    clear bb
    refine hK.out _ _ ⟨hf.cell 0, hf.cell 1⟩ (fun hHeld => ?_)
    clear hK K
    try (simp only [Act.put, List.setIfInBounds_toArray, List.set_cons_zero, List.set_cons_succ])
    refine rd1 5 (fun K hK => ?_)
    go_simp
    refine (HY.out _).mono ?_
    rintro e wx5 ⟨rfl, bb⟩
    go_wp2_with fail
    replace hf := hf.below bb hf.lt
    replace hbf := hbf.trans (bb.mono hbf.size)
    clear bb
    refine hK.out _ _ ⟨hf.cell 0, hf.cell 1⟩ (fun hHeld => ?_)
    clear hK K
    try (simp only [Act.put, List.setIfInBounds_toArray, List.set_cons_zero, List.set_cons_succ])
    refine tk 6 hHeld ?_
    refine tk 7 hHeld ?_
    refine wpAnyH_done ?hr2 ?hq2 _
    case hr2 => kernel_rfl
    refine NoPanic.normal ?_
    clear hHeld
    go_wp2
    go_ret2
    exact ⟨by rw [HV2.out]; rfl, hbf⟩
end Go.Proofs.Ytfogjfmpgfcolaa
