/- Chapter 13: three numbers told by their places, cut, for each closure that tells them. -/
import Derived.Test.YtgmepohfkpncmaaGreatTurn
import Derived.Deep.CutRange
namespace Go.Proofs.YtgmepohfkpncmaaGreat
open Go.RowKit
set_option linter.unusedVariables false
set_option linter.unusedSimpArgs false

def nsP (a b c : Int) : Nat → Int
 | 0 => 0
 | 1 => a
 | 2 => a + b
 | _ => a + b + c
def csP (a b c : Int) : Nat → Array Value
 | 0 => #[.int .i32 0, .int .i32 0, .int .i32 0]
 | 1 => #[.int .i32 a, .int .i32 0, .int .i32 0]
 | 2 => #[.int .i32 a, .int .i32 b, .int .i32 0]
 | _ => #[.int .i32 a, .int .i32 b, .int .i32 c]

/-- What tells the numbers: called with 0, 1, 2 in any world that grew out of w it gives V0, V1, V2. -/
def TellUp1 (c1 : Value) (V0 V1 V2 : Int) (w : World) : Prop :=
 ∀ (i V : Int), ((i = 0 ∧ V = V0) ∨ (i = 1 ∧ V = V1) ∨ (i = 2 ∧ V = V2)) → ∀ w', Below w.heap.size w w' → Calls Tryz.prog 46 #[.int .i64 i, c1] w' fun e w'' => e = .returned (.int .i64 V) ∧ Below w'.heap.size w' w''
set_option maxHeartbeats 8000000 in
theorem t_cut_Up1 (c1 : Value) (V0 V1 V2 : Int) (w : World) (h0 : I64 V0) (h1 : I64 V1) (h2 : I64 V2) (hT : TellUp1 c1 V0 V1 V2 w) :
  Calls Tryz.prog 45 #[.func (.func 46) #[] #[c1]] w fun e w' =>
   e = .returned (.tuple #[.agg #[.int .i32 (clampP V0), .int .i32 (clampP V1), .int .i32 (clampP V2)], .int .i64 (cutC V0 + cutC V1 + cutC V2)]) ∧ Below w.heap.size w w' := by
 have T0 := hid (hT 0 V0 (.inl ⟨rfl, rfl⟩))
 have T1 := hid (hT 1 V1 (.inr (.inl ⟨rfl, rfl⟩)))
 have T2 := hid (hT 2 V2 (.inr (.inr ⟨rfl, rfl⟩)))
 clear hT
 have n0 := cutC_bd V0
 have n1 := cutC_bd V1
 have n2 := cutC_bd V2
 have X0 := hid fun w => fx_Clamp V0 w h0
 have X1 := hid fun w => fx_Clamp V1 w h1
 have X2 := hid fun w => fx_Clamp V2 w h2
 have Y0 := hid (@cutC_yes V0)
 have Y1 := hid (@cutC_yes V1)
 have Y2 := hid (@cutC_yes V2)
 have N0 := hid (@cutC_no V0)
 have N1 := hid (@cutC_no V1)
 have N2 := hid (@cutC_no V2)
 have HF := hid (show Ending.returned (.tuple #[.agg #[.int .i32 (clampP V0), .int .i32 (clampP V1), .int .i32 (clampP V2)], .int .i64 (cutC V0 + cutC V1 + cutC V2)]) = Ending.returned (.tuple #[.agg #[.int .i32 (clampP V0), .int .i32 (clampP V1), .int .i32 (clampP V2)], .int .i64 (cutC V0 + cutC V1 + cutC V2)]) from rfl)
 generalize clampP V0 = y0 at *
 generalize clampP V1 = y1 at *
 generalize clampP V2 = y2 at *
 generalize cutC V0 = k0 at *
 generalize cutC V1 = k1 at *
 generalize cutC V2 = k2 at *
 generalize hc0 : (y0 != V0) = d0 at *
 generalize hc1 : (y1 != V1) = d1 at *
 generalize hc2 : (y2 != V2) = d2 at *
 clear h0 h1 h2 hc0 hc1 hc2
 have hr : Blk ((w.alloc (.cells #[.int .i32 0, .int .i32 0, .int .i32 0] 79)).alloc (.cells #[.int .i32 0, .int .i32 0, .int .i32 0] 79)) w.heap.size 79 #[.int .i32 0, .int .i32 0, .int .i32 0] := (Blk.new w _ _).alloc _
 have hc : Blk ((w.alloc (.cells #[.int .i32 0, .int .i32 0, .int .i32 0] 79)).alloc (.cells #[.int .i32 0, .int .i32 0, .int .i32 0] 79)) (w.heap.size + 1) 79 #[.int .i32 0, .int .i32 0, .int .i32 0] := by have := Blk.new (w.alloc (.cells #[.int .i32 0, .int .i32 0, .int .i32 0] 79)) 79 #[.int .i32 0, .int .i32 0, .int .i32 0]; simpa using this
 have hb : Below w.heap.size w ((w.alloc (.cells #[.int .i32 0, .int .i32 0, .int .i32 0] 79)).alloc (.cells #[.int .i32 0, .int .i32 0, .int .i32 0] 79)) := ((Below.refl _ w).alloc (Nat.le_refl _) _).alloc (by simp) _
 go_enter Tryz.func45, Tryz.ntmps45
 go_wp2_with fail
 generalize (w.alloc (.cells #[.int .i32 0, .int .i32 0, .int .i32 0] 79)).alloc (.cells #[.int .i32 0, .int .i32 0, .int .i32 0] 79) = W0 at *
 go_loopw [5, 9] (fun n i wr => ∃ j : Nat, j ≤ 3 ∧ i = .int .i64 j ∧ n = .int .i64 (nsP k0 k1 k2 j) ∧ Blk wr w.heap.size 79 #[.int .i32 0, .int .i32 0, .int .i32 0] ∧ Blk wr (w.heap.size + 1) 79 (csP y0 y1 y2 j) ∧ Below w.heap.size w wr) (fun _ i _ => 3 - (intOf i).toNat)
 case atStart => exact ⟨0, by omega, rfl, rfl, hr, hc, hb⟩
 case round =>
  clear hr hc hb
  obtain ⟨j, hj, rfl, rfl, hr, hc, hb⟩ := hrel
  obtain rfl | rfl | rfl | rfl : j = 0 ∨ j = 1 ∨ j = 2 ∨ j = 3 := by omega
  ·change Blk wr (w.heap.size + 1) 79 #[.int .i32 0, .int .i32 0, .int .i32 0] at hc
   have u1 : IntKind.i64.wrap (0 + 1) = 0 + 1 := IntWalk.i64_in _ (by omega)
   simp only [nsP]
   cases d0
   ·have hk : Hid (k0 = 0) := hid (N0.out rfl)
    go_wp2_with fail
    refine (T0.out _ hb).mono ?_
    rintro e wa ⟨rfl, bb⟩
    replace hr := hr.below bb hr.lt
    replace hc := hc.below bb hc.lt
    replace hb := hb.on bb
    have q0 : wa.cell? ⟨w.heap.size + 1, 0, none⟩ = some (.int .i32 0) := hc.cell 0
    have z0 := hc.frozen 0
    go_wp2_with fail
    refine (X0.out _).mono ?_
    rintro e w' ⟨rfl, rfl⟩
    go_wp2
    go_roundw
    case rel => exact ⟨1, by omega, rfl, by show _ = Value.int .i64 (k0); rw [hk.out] <;> simp, hr.far (by simp) _, hc.set_ 0 _, hb.setCell (by simp) _⟩
    case measure => simp [intOf]
   ·have hk : Hid (k0 = 1) := hid (Y0.out rfl)
    go_wp2_with fail
    refine (T0.out _ hb).mono ?_
    rintro e wa ⟨rfl, bb⟩
    replace hr := hr.below bb hr.lt
    replace hc := hc.below bb hc.lt
    replace hb := hb.on bb
    have q0 : wa.cell? ⟨w.heap.size + 1, 0, none⟩ = some (.int .i32 0) := hc.cell 0
    have z0 := hc.frozen 0
    go_wp2_with fail
    refine (X0.out _).mono ?_
    rintro e w' ⟨rfl, rfl⟩
    go_wp2
    go_roundw
    case rel => exact ⟨1, by omega, rfl, by show _ = Value.int .i64 (k0); rw [hk.out] <;> simp, hr.far (by simp) _, hc.set_ 0 _, hb.setCell (by simp) _⟩
    case measure => simp [intOf]
  ·change Blk wr (w.heap.size + 1) 79 #[.int .i32 y0, .int .i32 0, .int .i32 0] at hc
   have u1 : IntKind.i64.wrap (k0 + 1) = k0 + 1 := IntWalk.i64_in _ (by omega)
   simp only [nsP]
   cases d1
   ·have hk : Hid (k1 = 0) := hid (N1.out rfl)
    go_wp2_with fail
    refine (T1.out _ hb).mono ?_
    rintro e wa ⟨rfl, bb⟩
    replace hr := hr.below bb hr.lt
    replace hc := hc.below bb hc.lt
    replace hb := hb.on bb
    have q0 : wa.cell? ⟨w.heap.size + 1, 1, none⟩ = some (.int .i32 0) := hc.cell 1
    have z0 := hc.frozen 1
    go_wp2_with fail
    refine (X1.out _).mono ?_
    rintro e w' ⟨rfl, rfl⟩
    go_wp2
    go_roundw
    case rel => exact ⟨2, by omega, rfl, by show _ = Value.int .i64 (k0 + k1); rw [hk.out] <;> simp, hr.far (by simp) _, hc.set_ 1 _, hb.setCell (by simp) _⟩
    case measure => simp [intOf]
   ·have hk : Hid (k1 = 1) := hid (Y1.out rfl)
    go_wp2_with fail
    refine (T1.out _ hb).mono ?_
    rintro e wa ⟨rfl, bb⟩
    replace hr := hr.below bb hr.lt
    replace hc := hc.below bb hc.lt
    replace hb := hb.on bb
    have q0 : wa.cell? ⟨w.heap.size + 1, 1, none⟩ = some (.int .i32 0) := hc.cell 1
    have z0 := hc.frozen 1
    go_wp2_with fail
    refine (X1.out _).mono ?_
    rintro e w' ⟨rfl, rfl⟩
    go_wp2
    go_roundw
    case rel => exact ⟨2, by omega, rfl, by show _ = Value.int .i64 (k0 + k1); rw [hk.out], hr.far (by simp) _, hc.set_ 1 _, hb.setCell (by simp) _⟩
    case measure => simp [intOf]
  ·change Blk wr (w.heap.size + 1) 79 #[.int .i32 y0, .int .i32 y1, .int .i32 0] at hc
   have u1 : IntKind.i64.wrap (k0 + k1 + 1) = k0 + k1 + 1 := IntWalk.i64_in _ (by omega)
   simp only [nsP]
   cases d2
   ·have hk : Hid (k2 = 0) := hid (N2.out rfl)
    go_wp2_with fail
    refine (T2.out _ hb).mono ?_
    rintro e wa ⟨rfl, bb⟩
    replace hr := hr.below bb hr.lt
    replace hc := hc.below bb hc.lt
    replace hb := hb.on bb
    have q0 : wa.cell? ⟨w.heap.size + 1, 2, none⟩ = some (.int .i32 0) := hc.cell 2
    have z0 := hc.frozen 2
    go_wp2_with fail
    refine (X2.out _).mono ?_
    rintro e w' ⟨rfl, rfl⟩
    go_wp2
    go_roundw
    case rel => exact ⟨3, by omega, rfl, by show _ = Value.int .i64 (k0 + k1 + k2); rw [hk.out] <;> simp, hr.far (by simp) _, hc.set_ 2 _, hb.setCell (by simp) _⟩
    case measure => simp [intOf]
   ·have hk : Hid (k2 = 1) := hid (Y2.out rfl)
    go_wp2_with fail
    refine (T2.out _ hb).mono ?_
    rintro e wa ⟨rfl, bb⟩
    replace hr := hr.below bb hr.lt
    replace hc := hc.below bb hc.lt
    replace hb := hb.on bb
    have q0 : wa.cell? ⟨w.heap.size + 1, 2, none⟩ = some (.int .i32 0) := hc.cell 2
    have z0 := hc.frozen 2
    go_wp2_with fail
    refine (X2.out _).mono ?_
    rintro e w' ⟨rfl, rfl⟩
    go_wp2
    go_roundw
    case rel => exact ⟨3, by omega, rfl, by show _ = Value.int .i64 (k0 + k1 + k2); rw [hk.out], hr.far (by simp) _, hc.set_ 2 _, hb.setCell (by simp) _⟩
    case measure => simp [intOf]
  ·change Blk wr (w.heap.size + 1) 79 #[.int .i32 y0, .int .i32 y1, .int .i32 y2] at hc
   simp only [nsP]
   have e0 : wr.cell? ⟨w.heap.size + 1, 0, none⟩ = some (.int .i32 y0) := hc.cell 0
   have d0x : wr.cell? ⟨w.heap.size, 0, none⟩ = some (.int .i32 0) := hr.cell 0
   have z0 := hr.frozen 0
   have e1 : wr.cell? ⟨w.heap.size + 1, 1, none⟩ = some (.int .i32 y1) := hc.cell 1
   have d1x : wr.cell? ⟨w.heap.size, 1, none⟩ = some (.int .i32 0) := hr.cell 1
   have z1 := hr.frozen 1
   have e2 : wr.cell? ⟨w.heap.size + 1, 2, none⟩ = some (.int .i32 y2) := hc.cell 2
   have d2x : wr.cell? ⟨w.heap.size, 2, none⟩ = some (.int .i32 0) := hr.cell 2
   have z2 := hr.frozen 2
   have hf : Blk (((wr.setCell ⟨w.heap.size, 0, none⟩ (.int .i32 y0)).setCell ⟨w.heap.size, 1, none⟩ (.int .i32 y1)).setCell ⟨w.heap.size, 2, none⟩ (.int .i32 y2)) w.heap.size 79 #[.int .i32 y0, .int .i32 y1, .int .i32 y2] := (((hr.set_ 0 (.int .i32 y0)).set_ 1 (.int .i32 y1)).set_ 2 (.int .i32 y2))
   have hbf : Below w.heap.size w (((wr.setCell ⟨w.heap.size, 0, none⟩ (.int .i32 y0)).setCell ⟨w.heap.size, 1, none⟩ (.int .i32 y1)).setCell ⟨w.heap.size, 2, none⟩ (.int .i32 y2)) := (((hb.sc (w.heap.size) 0 (by omega) (.int .i32 y0)).sc (w.heap.size) 1 (by omega) (.int .i32 y1)).sc (w.heap.size) 2 (by omega) (.int .i32 y2))
   go_wp2
   generalize (((wr.setCell ⟨w.heap.size, 0, none⟩ (.int .i32 y0)).setCell ⟨w.heap.size, 1, none⟩ (.int .i32 y1)).setCell ⟨w.heap.size, 2, none⟩ (.int .i32 y2)) = wf at *
   have f0 : wf.cell? ⟨w.heap.size, 0, none⟩ = some (.int .i32 y0) := hf.cell 0
   have f1 : wf.cell? ⟨w.heap.size, 1, none⟩ = some (.int .i32 y1) := hf.cell 1
   have f2 : wf.cell? ⟨w.heap.size, 2, none⟩ = some (.int .i32 y2) := hf.cell 2
   simp [bodyPost, results, Tryz.results45, go_sem, f0, f1, f2]
   exact hbf

/-- What tells the numbers: called with 0, 1, 2 in any world that grew out of w it gives V0, V1, V2. -/
def TellStep1 (c1 c2 : Value) (V0 V1 V2 : Int) (w : World) : Prop :=
 ∀ (i V : Int), ((i = 0 ∧ V = V0) ∨ (i = 1 ∧ V = V1) ∨ (i = 2 ∧ V = V2)) → ∀ w', Below w.heap.size w w' → Calls Tryz.prog 89 #[.int .i64 i, c1, c2] w' fun e w'' => e = .returned (.int .i64 V) ∧ Below w'.heap.size w' w''
set_option maxHeartbeats 8000000 in
theorem t_cut_Step1 (c1 c2 : Value) (V0 V1 V2 : Int) (w : World) (h0 : I64 V0) (h1 : I64 V1) (h2 : I64 V2) (hT : TellStep1 c1 c2 V0 V1 V2 w) :
  Calls Tryz.prog 45 #[.func (.func 89) #[] #[c1, c2]] w fun e w' =>
   e = .returned (.tuple #[.agg #[.int .i32 (clampP V0), .int .i32 (clampP V1), .int .i32 (clampP V2)], .int .i64 (cutC V0 + cutC V1 + cutC V2)]) ∧ Below w.heap.size w w' := by
 have T0 := hid (hT 0 V0 (.inl ⟨rfl, rfl⟩))
 have T1 := hid (hT 1 V1 (.inr (.inl ⟨rfl, rfl⟩)))
 have T2 := hid (hT 2 V2 (.inr (.inr ⟨rfl, rfl⟩)))
 clear hT
 have n0 := cutC_bd V0
 have n1 := cutC_bd V1
 have n2 := cutC_bd V2
 have X0 := hid fun w => fx_Clamp V0 w h0
 have X1 := hid fun w => fx_Clamp V1 w h1
 have X2 := hid fun w => fx_Clamp V2 w h2
 have Y0 := hid (@cutC_yes V0)
 have Y1 := hid (@cutC_yes V1)
 have Y2 := hid (@cutC_yes V2)
 have N0 := hid (@cutC_no V0)
 have N1 := hid (@cutC_no V1)
 have N2 := hid (@cutC_no V2)
 have HF := hid (show Ending.returned (.tuple #[.agg #[.int .i32 (clampP V0), .int .i32 (clampP V1), .int .i32 (clampP V2)], .int .i64 (cutC V0 + cutC V1 + cutC V2)]) = Ending.returned (.tuple #[.agg #[.int .i32 (clampP V0), .int .i32 (clampP V1), .int .i32 (clampP V2)], .int .i64 (cutC V0 + cutC V1 + cutC V2)]) from rfl)
 generalize clampP V0 = y0 at *
 generalize clampP V1 = y1 at *
 generalize clampP V2 = y2 at *
 generalize cutC V0 = k0 at *
 generalize cutC V1 = k1 at *
 generalize cutC V2 = k2 at *
 generalize hc0 : (y0 != V0) = d0 at *
 generalize hc1 : (y1 != V1) = d1 at *
 generalize hc2 : (y2 != V2) = d2 at *
 clear h0 h1 h2 hc0 hc1 hc2
 have hr : Blk ((w.alloc (.cells #[.int .i32 0, .int .i32 0, .int .i32 0] 79)).alloc (.cells #[.int .i32 0, .int .i32 0, .int .i32 0] 79)) w.heap.size 79 #[.int .i32 0, .int .i32 0, .int .i32 0] := (Blk.new w _ _).alloc _
 have hc : Blk ((w.alloc (.cells #[.int .i32 0, .int .i32 0, .int .i32 0] 79)).alloc (.cells #[.int .i32 0, .int .i32 0, .int .i32 0] 79)) (w.heap.size + 1) 79 #[.int .i32 0, .int .i32 0, .int .i32 0] := by have := Blk.new (w.alloc (.cells #[.int .i32 0, .int .i32 0, .int .i32 0] 79)) 79 #[.int .i32 0, .int .i32 0, .int .i32 0]; simpa using this
 have hb : Below w.heap.size w ((w.alloc (.cells #[.int .i32 0, .int .i32 0, .int .i32 0] 79)).alloc (.cells #[.int .i32 0, .int .i32 0, .int .i32 0] 79)) := ((Below.refl _ w).alloc (Nat.le_refl _) _).alloc (by simp) _
 go_enter Tryz.func45, Tryz.ntmps45
 go_wp2_with fail
 generalize (w.alloc (.cells #[.int .i32 0, .int .i32 0, .int .i32 0] 79)).alloc (.cells #[.int .i32 0, .int .i32 0, .int .i32 0] 79) = W0 at *
 go_loopw [5, 9] (fun n i wr => ∃ j : Nat, j ≤ 3 ∧ i = .int .i64 j ∧ n = .int .i64 (nsP k0 k1 k2 j) ∧ Blk wr w.heap.size 79 #[.int .i32 0, .int .i32 0, .int .i32 0] ∧ Blk wr (w.heap.size + 1) 79 (csP y0 y1 y2 j) ∧ Below w.heap.size w wr) (fun _ i _ => 3 - (intOf i).toNat)
 case atStart => exact ⟨0, by omega, rfl, rfl, hr, hc, hb⟩
 case round =>
  clear hr hc hb
  obtain ⟨j, hj, rfl, rfl, hr, hc, hb⟩ := hrel
  obtain rfl | rfl | rfl | rfl : j = 0 ∨ j = 1 ∨ j = 2 ∨ j = 3 := by omega
  ·change Blk wr (w.heap.size + 1) 79 #[.int .i32 0, .int .i32 0, .int .i32 0] at hc
   have u1 : IntKind.i64.wrap (0 + 1) = 0 + 1 := IntWalk.i64_in _ (by omega)
   simp only [nsP]
   cases d0
   ·have hk : Hid (k0 = 0) := hid (N0.out rfl)
    go_wp2_with fail
    refine (T0.out _ hb).mono ?_
    rintro e wa ⟨rfl, bb⟩
    replace hr := hr.below bb hr.lt
    replace hc := hc.below bb hc.lt
    replace hb := hb.on bb
    have q0 : wa.cell? ⟨w.heap.size + 1, 0, none⟩ = some (.int .i32 0) := hc.cell 0
    have z0 := hc.frozen 0
    go_wp2_with fail
    refine (X0.out _).mono ?_
    rintro e w' ⟨rfl, rfl⟩
    go_wp2
    go_roundw
    case rel => exact ⟨1, by omega, rfl, by show _ = Value.int .i64 (k0); rw [hk.out] <;> simp, hr.far (by simp) _, hc.set_ 0 _, hb.setCell (by simp) _⟩
    case measure => simp [intOf]
   ·have hk : Hid (k0 = 1) := hid (Y0.out rfl)
    go_wp2_with fail
    refine (T0.out _ hb).mono ?_
    rintro e wa ⟨rfl, bb⟩
    replace hr := hr.below bb hr.lt
    replace hc := hc.below bb hc.lt
    replace hb := hb.on bb
    have q0 : wa.cell? ⟨w.heap.size + 1, 0, none⟩ = some (.int .i32 0) := hc.cell 0
    have z0 := hc.frozen 0
    go_wp2_with fail
    refine (X0.out _).mono ?_
    rintro e w' ⟨rfl, rfl⟩
    go_wp2
    go_roundw
    case rel => exact ⟨1, by omega, rfl, by show _ = Value.int .i64 (k0); rw [hk.out] <;> simp, hr.far (by simp) _, hc.set_ 0 _, hb.setCell (by simp) _⟩
    case measure => simp [intOf]
  ·change Blk wr (w.heap.size + 1) 79 #[.int .i32 y0, .int .i32 0, .int .i32 0] at hc
   have u1 : IntKind.i64.wrap (k0 + 1) = k0 + 1 := IntWalk.i64_in _ (by omega)
   simp only [nsP]
   cases d1
   ·have hk : Hid (k1 = 0) := hid (N1.out rfl)
    go_wp2_with fail
    refine (T1.out _ hb).mono ?_
    rintro e wa ⟨rfl, bb⟩
    replace hr := hr.below bb hr.lt
    replace hc := hc.below bb hc.lt
    replace hb := hb.on bb
    have q0 : wa.cell? ⟨w.heap.size + 1, 1, none⟩ = some (.int .i32 0) := hc.cell 1
    have z0 := hc.frozen 1
    go_wp2_with fail
    refine (X1.out _).mono ?_
    rintro e w' ⟨rfl, rfl⟩
    go_wp2
    go_roundw
    case rel => exact ⟨2, by omega, rfl, by show _ = Value.int .i64 (k0 + k1); rw [hk.out] <;> simp, hr.far (by simp) _, hc.set_ 1 _, hb.setCell (by simp) _⟩
    case measure => simp [intOf]
   ·have hk : Hid (k1 = 1) := hid (Y1.out rfl)
    go_wp2_with fail
    refine (T1.out _ hb).mono ?_
    rintro e wa ⟨rfl, bb⟩
    replace hr := hr.below bb hr.lt
    replace hc := hc.below bb hc.lt
    replace hb := hb.on bb
    have q0 : wa.cell? ⟨w.heap.size + 1, 1, none⟩ = some (.int .i32 0) := hc.cell 1
    have z0 := hc.frozen 1
    go_wp2_with fail
    refine (X1.out _).mono ?_
    rintro e w' ⟨rfl, rfl⟩
    go_wp2
    go_roundw
    case rel => exact ⟨2, by omega, rfl, by show _ = Value.int .i64 (k0 + k1); rw [hk.out], hr.far (by simp) _, hc.set_ 1 _, hb.setCell (by simp) _⟩
    case measure => simp [intOf]
  ·change Blk wr (w.heap.size + 1) 79 #[.int .i32 y0, .int .i32 y1, .int .i32 0] at hc
   have u1 : IntKind.i64.wrap (k0 + k1 + 1) = k0 + k1 + 1 := IntWalk.i64_in _ (by omega)
   simp only [nsP]
   cases d2
   ·have hk : Hid (k2 = 0) := hid (N2.out rfl)
    go_wp2_with fail
    refine (T2.out _ hb).mono ?_
    rintro e wa ⟨rfl, bb⟩
    replace hr := hr.below bb hr.lt
    replace hc := hc.below bb hc.lt
    replace hb := hb.on bb
    have q0 : wa.cell? ⟨w.heap.size + 1, 2, none⟩ = some (.int .i32 0) := hc.cell 2
    have z0 := hc.frozen 2
    go_wp2_with fail
    refine (X2.out _).mono ?_
    rintro e w' ⟨rfl, rfl⟩
    go_wp2
    go_roundw
    case rel => exact ⟨3, by omega, rfl, by show _ = Value.int .i64 (k0 + k1 + k2); rw [hk.out] <;> simp, hr.far (by simp) _, hc.set_ 2 _, hb.setCell (by simp) _⟩
    case measure => simp [intOf]
   ·have hk : Hid (k2 = 1) := hid (Y2.out rfl)
    go_wp2_with fail
    refine (T2.out _ hb).mono ?_
    rintro e wa ⟨rfl, bb⟩
    replace hr := hr.below bb hr.lt
    replace hc := hc.below bb hc.lt
    replace hb := hb.on bb
    have q0 : wa.cell? ⟨w.heap.size + 1, 2, none⟩ = some (.int .i32 0) := hc.cell 2
    have z0 := hc.frozen 2
    go_wp2_with fail
    refine (X2.out _).mono ?_
    rintro e w' ⟨rfl, rfl⟩
    go_wp2
    go_roundw
    case rel => exact ⟨3, by omega, rfl, by show _ = Value.int .i64 (k0 + k1 + k2); rw [hk.out], hr.far (by simp) _, hc.set_ 2 _, hb.setCell (by simp) _⟩
    case measure => simp [intOf]
  ·change Blk wr (w.heap.size + 1) 79 #[.int .i32 y0, .int .i32 y1, .int .i32 y2] at hc
   simp only [nsP]
   have e0 : wr.cell? ⟨w.heap.size + 1, 0, none⟩ = some (.int .i32 y0) := hc.cell 0
   have d0x : wr.cell? ⟨w.heap.size, 0, none⟩ = some (.int .i32 0) := hr.cell 0
   have z0 := hr.frozen 0
   have e1 : wr.cell? ⟨w.heap.size + 1, 1, none⟩ = some (.int .i32 y1) := hc.cell 1
   have d1x : wr.cell? ⟨w.heap.size, 1, none⟩ = some (.int .i32 0) := hr.cell 1
   have z1 := hr.frozen 1
   have e2 : wr.cell? ⟨w.heap.size + 1, 2, none⟩ = some (.int .i32 y2) := hc.cell 2
   have d2x : wr.cell? ⟨w.heap.size, 2, none⟩ = some (.int .i32 0) := hr.cell 2
   have z2 := hr.frozen 2
   have hf : Blk (((wr.setCell ⟨w.heap.size, 0, none⟩ (.int .i32 y0)).setCell ⟨w.heap.size, 1, none⟩ (.int .i32 y1)).setCell ⟨w.heap.size, 2, none⟩ (.int .i32 y2)) w.heap.size 79 #[.int .i32 y0, .int .i32 y1, .int .i32 y2] := (((hr.set_ 0 (.int .i32 y0)).set_ 1 (.int .i32 y1)).set_ 2 (.int .i32 y2))
   have hbf : Below w.heap.size w (((wr.setCell ⟨w.heap.size, 0, none⟩ (.int .i32 y0)).setCell ⟨w.heap.size, 1, none⟩ (.int .i32 y1)).setCell ⟨w.heap.size, 2, none⟩ (.int .i32 y2)) := (((hb.sc (w.heap.size) 0 (by omega) (.int .i32 y0)).sc (w.heap.size) 1 (by omega) (.int .i32 y1)).sc (w.heap.size) 2 (by omega) (.int .i32 y2))
   go_wp2
   generalize (((wr.setCell ⟨w.heap.size, 0, none⟩ (.int .i32 y0)).setCell ⟨w.heap.size, 1, none⟩ (.int .i32 y1)).setCell ⟨w.heap.size, 2, none⟩ (.int .i32 y2)) = wf at *
   have f0 : wf.cell? ⟨w.heap.size, 0, none⟩ = some (.int .i32 y0) := hf.cell 0
   have f1 : wf.cell? ⟨w.heap.size, 1, none⟩ = some (.int .i32 y1) := hf.cell 1
   have f2 : wf.cell? ⟨w.heap.size, 2, none⟩ = some (.int .i32 y2) := hf.cell 2
   simp [bodyPost, results, Tryz.results45, go_sem, f0, f1, f2]
   exact hbf
end Go.Proofs.YtgmepohfkpncmaaGreat
