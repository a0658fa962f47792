/- Chapter 14: fields of three kinds. -/
import Derived.Test.YtldoocndhfgjhaaGreatWide
import Derived.Test.YtldoocndhfgjhaaGreatStab
import Derived.Test.YtldoocndhfgjhaaGreatHeld
import Derived.Laws.Rows
import Derived.Deep.CutRange
namespace Go.Proofs.YtldoocndhfgjhaaGreat
open Go.RowKit
set_option linter.unusedVariables false
set_option linter.unusedSimpArgs false

/-- A field of one or four bytes without a sign, or of two with one. -/
def FK (sz : Int) (sg : Bool) : Prop := (sz = 1 ∧ sg = false) ∨ (sz = 4 ∧ sg = false) ∨ (sz = 2 ∧ sg = true)
def loP (sg : Bool) : Int := if sg then -32768 else 0
def hiP (sz : Int) : Int := if sz = 1 then 255 else if sz = 4 then 4294967295 else 32767
def fieldV (t : Int × Bool) : List Value := [.int .i64 t.1, .bool t.2, .int .i64 (loP t.2), .int .i64 (hiP t.1)]
theorem even_field (ts : List (Int × Bool)) : Even 4 (ts.map fieldV) := by
  intro p hp
  obtain ⟨t, _, rfl⟩ := List.mem_map.1 hp
  refine ⟨rfl, fun u hu => ?_⟩
  simp [fieldV] at hu
  rcases hu with rfl | rfl | rfl | rfl <;> rfl
theorem sh_fits (sz : Int) (w : World) (h : 1 ≤ sz ∧ sz ≤ 8) : Calls Tryz.prog 109 #[.int .i64 sz] w fun e w' => e = .returned (.bool true) ∧ w' = w := by
  have h1 : decide (1 ≤ sz) = true := decide_eq_true h.1
  have h2 : decide (sz ≤ 8) = true := decide_eq_true h.2
  go_enter Tryz.func109, Tryz.ntmps109
  go_wp2
  go_ret
  exact ⟨rfl, rfl⟩
set_option maxHeartbeats 2000000 in
theorem sh_Any1 (w : World) : Calls Tryz.prog 71 #[.int .i64 1, .bool false] w fun e w' => e = .returned (.agg #[.int .i64 1, .bool false, .int .i64 0, .int .i64 255]) ∧ Below w.heap.size w w' := by
  have e0 := Blk.new w 200 #[.int .i64 0, .bool false, .int .i64 0, .int .i64 0]
  have hb := (Below.refl w.heap.size w).alloc (Nat.le_refl _) (.cells #[.int .i64 0, .bool false, .int .i64 0, .int .i64 0] 200)
  have hs : w.heap.size + 1 ≤ (w.alloc (.cells #[.int .i64 0, .bool false, .int .i64 0, .int .i64 0] 200)).heap.size := by simp
  go_enter Tryz.func71, Tryz.ntmps71
  go_upto_region 1 with fail
  generalize w.alloc (.cells #[.int .i64 0, .bool false, .int .i64 0, .int .i64 0] 200) = W0 at *
  go_wp2_with fail
  refine (sh_fits 1 W0 (by omega)).mono ?_
  rintro e w1 ⟨rfl, rfl⟩
  go_upto_region 4 with fail
  have e5 := Blk.new w1 200 #[.int .i64 1, .bool false, .int .i64 0, .int .i64 0]
  replace e0 := e0.alloc (.cells #[.int .i64 1, .bool false, .int .i64 0, .int .i64 0] 200)
  replace hb := hb.alloc (by omega) (.cells #[.int .i64 1, .bool false, .int .i64 0, .int .i64 0] 200)
  have hg5 := hs
  generalize w1.alloc (.cells #[.int .i64 1, .bool false, .int .i64 0, .int .i64 0] 200) = W1 at *
  generalize w1.heap.size = g5 at *
  have q3 : W1.cell? ⟨g5, 3, none⟩ = some (.int .i64 0) := e5.cell 3
  have zq3 := e5.frozen 3
  go_upto_region 5 with fail
  clear q3 zq3
  have t5 := e5.set_ 3 (.int .i64 127)
  simp only [List.setIfInBounds_toArray, List.set_cons_zero, List.set_cons_succ] at t5
  replace e0 := e0.far (p := ⟨g5, 3, none⟩) (by dsimp only; omega) (.int .i64 127)
  replace hb := hb.setCell (p := ⟨g5, 3, none⟩) (by dsimp only; omega) (.int .i64 127)
  clear e5
  have e5 := t5
  clear t5
  generalize W1.setCell ⟨g5, 3, none⟩ (.int .i64 127) = W2 at *
  have q3 : W2.cell? ⟨g5, 3, none⟩ = some (.int .i64 127) := e5.cell 3
  have zq3 := e5.frozen 3
  go_upto_region 9 with fail
  clear q3 zq3
  have t5 := e5.set_ 3 (.int .i64 255)
  simp only [List.setIfInBounds_toArray, List.set_cons_zero, List.set_cons_succ] at t5
  replace e0 := e0.far (p := ⟨g5, 3, none⟩) (by dsimp only; omega) (.int .i64 255)
  replace hb := hb.setCell (p := ⟨g5, 3, none⟩) (by dsimp only; omega) (.int .i64 255)
  clear e5
  have e5 := t5
  clear t5
  generalize W2.setCell ⟨g5, 3, none⟩ (.int .i64 255) = W3 at *
  have q0 : W3.cell? ⟨g5, 0, none⟩ = some (.int .i64 1) := e5.cell 0
  have q1 : W3.cell? ⟨g5, 1, none⟩ = some (.bool false) := e5.cell 1
  have q2 : W3.cell? ⟨g5, 2, none⟩ = some (.int .i64 0) := e5.cell 2
  have q3 : W3.cell? ⟨g5, 3, none⟩ = some (.int .i64 255) := e5.cell 3
  have p0 : W3.cell? ⟨w.heap.size, 0, none⟩ = some (.int .i64 0) := e0.cell 0
  have zp0 := e0.frozen 0
  have p1 : W3.cell? ⟨w.heap.size, 1, none⟩ = some (.bool false) := e0.cell 1
  have zp1 := e0.frozen 1
  have p2 : W3.cell? ⟨w.heap.size, 2, none⟩ = some (.int .i64 0) := e0.cell 2
  have zp2 := e0.frozen 2
  have p3 : W3.cell? ⟨w.heap.size, 3, none⟩ = some (.int .i64 0) := e0.cell 3
  have zp3 := e0.frozen 3
  have t0 := ((((e0.set_ 0 (.int .i64 1)).set_ 1 (.bool false)).set_ 2 (.int .i64 0)).set_ 3 (.int .i64 255))
  simp only [List.setIfInBounds_toArray, List.set_cons_zero, List.set_cons_succ] at t0
  have tb := ((((hb.setCell (p := ⟨w.heap.size, 0, none⟩) (by dsimp only; omega) (.int .i64 1)).setCell (p := ⟨w.heap.size, 1, none⟩) (by dsimp only; omega) (.bool false)).setCell (p := ⟨w.heap.size, 2, none⟩) (by dsimp only; omega) (.int .i64 0)).setCell (p := ⟨w.heap.size, 3, none⟩) (by dsimp only; omega) (.int .i64 255))
  go_wp2
  refine bodyPost_ret (results_cell_row rfl _ _ w.heap.size _ _ _ _ rfl t0 Tryz.underlying200 rfl (by kernel_rfl)) rfl ?_
  exact ⟨rfl, tb⟩
set_option maxHeartbeats 2000000 in
theorem sh_Any4 (w : World) : Calls Tryz.prog 71 #[.int .i64 4, .bool false] w fun e w' => e = .returned (.agg #[.int .i64 4, .bool false, .int .i64 0, .int .i64 4294967295]) ∧ Below w.heap.size w w' := by
  have e0 := Blk.new w 200 #[.int .i64 0, .bool false, .int .i64 0, .int .i64 0]
  have hb := (Below.refl w.heap.size w).alloc (Nat.le_refl _) (.cells #[.int .i64 0, .bool false, .int .i64 0, .int .i64 0] 200)
  have hs : w.heap.size + 1 ≤ (w.alloc (.cells #[.int .i64 0, .bool false, .int .i64 0, .int .i64 0] 200)).heap.size := by simp
  go_enter Tryz.func71, Tryz.ntmps71
  go_upto_region 1 with fail
  generalize w.alloc (.cells #[.int .i64 0, .bool false, .int .i64 0, .int .i64 0] 200) = W0 at *
  go_wp2_with fail
  refine (sh_fits 4 W0 (by omega)).mono ?_
  rintro e w1 ⟨rfl, rfl⟩
  go_upto_region 4 with fail
  have e5 := Blk.new w1 200 #[.int .i64 4, .bool false, .int .i64 0, .int .i64 0]
  replace e0 := e0.alloc (.cells #[.int .i64 4, .bool false, .int .i64 0, .int .i64 0] 200)
  replace hb := hb.alloc (by omega) (.cells #[.int .i64 4, .bool false, .int .i64 0, .int .i64 0] 200)
  have hg5 := hs
  generalize w1.alloc (.cells #[.int .i64 4, .bool false, .int .i64 0, .int .i64 0] 200) = W1 at *
  generalize w1.heap.size = g5 at *
  have q3 : W1.cell? ⟨g5, 3, none⟩ = some (.int .i64 0) := e5.cell 3
  have zq3 := e5.frozen 3
  go_upto_region 5 with fail
  clear q3 zq3
  have t5 := e5.set_ 3 (.int .i64 2147483647)
  simp only [List.setIfInBounds_toArray, List.set_cons_zero, List.set_cons_succ] at t5
  replace e0 := e0.far (p := ⟨g5, 3, none⟩) (by dsimp only; omega) (.int .i64 2147483647)
  replace hb := hb.setCell (p := ⟨g5, 3, none⟩) (by dsimp only; omega) (.int .i64 2147483647)
  clear e5
  have e5 := t5
  clear t5
  generalize W1.setCell ⟨g5, 3, none⟩ (.int .i64 2147483647) = W2 at *
  have q3 : W2.cell? ⟨g5, 3, none⟩ = some (.int .i64 2147483647) := e5.cell 3
  have zq3 := e5.frozen 3
  go_upto_region 9 with fail
  clear q3 zq3
  have t5 := e5.set_ 3 (.int .i64 4294967295)
  simp only [List.setIfInBounds_toArray, List.set_cons_zero, List.set_cons_succ] at t5
  replace e0 := e0.far (p := ⟨g5, 3, none⟩) (by dsimp only; omega) (.int .i64 4294967295)
  replace hb := hb.setCell (p := ⟨g5, 3, none⟩) (by dsimp only; omega) (.int .i64 4294967295)
  clear e5
  have e5 := t5
  clear t5
  generalize W2.setCell ⟨g5, 3, none⟩ (.int .i64 4294967295) = W3 at *
  have q0 : W3.cell? ⟨g5, 0, none⟩ = some (.int .i64 4) := e5.cell 0
  have q1 : W3.cell? ⟨g5, 1, none⟩ = some (.bool false) := e5.cell 1
  have q2 : W3.cell? ⟨g5, 2, none⟩ = some (.int .i64 0) := e5.cell 2
  have q3 : W3.cell? ⟨g5, 3, none⟩ = some (.int .i64 4294967295) := e5.cell 3
  have p0 : W3.cell? ⟨w.heap.size, 0, none⟩ = some (.int .i64 0) := e0.cell 0
  have zp0 := e0.frozen 0
  have p1 : W3.cell? ⟨w.heap.size, 1, none⟩ = some (.bool false) := e0.cell 1
  have zp1 := e0.frozen 1
  have p2 : W3.cell? ⟨w.heap.size, 2, none⟩ = some (.int .i64 0) := e0.cell 2
  have zp2 := e0.frozen 2
  have p3 : W3.cell? ⟨w.heap.size, 3, none⟩ = some (.int .i64 0) := e0.cell 3
  have zp3 := e0.frozen 3
  have t0 := ((((e0.set_ 0 (.int .i64 4)).set_ 1 (.bool false)).set_ 2 (.int .i64 0)).set_ 3 (.int .i64 4294967295))
  simp only [List.setIfInBounds_toArray, List.set_cons_zero, List.set_cons_succ] at t0
  have tb := ((((hb.setCell (p := ⟨w.heap.size, 0, none⟩) (by dsimp only; omega) (.int .i64 4)).setCell (p := ⟨w.heap.size, 1, none⟩) (by dsimp only; omega) (.bool false)).setCell (p := ⟨w.heap.size, 2, none⟩) (by dsimp only; omega) (.int .i64 0)).setCell (p := ⟨w.heap.size, 3, none⟩) (by dsimp only; omega) (.int .i64 4294967295))
  go_wp2
  refine bodyPost_ret (results_cell_row rfl _ _ w.heap.size _ _ _ _ rfl t0 Tryz.underlying200 rfl (by kernel_rfl)) rfl ?_
  exact ⟨rfl, tb⟩
set_option maxHeartbeats 2000000 in
theorem sh_Any2 (w : World) : Calls Tryz.prog 71 #[.int .i64 2, .bool true] w fun e w' => e = .returned (.agg #[.int .i64 2, .bool true, .int .i64 (-32768), .int .i64 32767]) ∧ Below w.heap.size w w' := by
  have e0 := Blk.new w 200 #[.int .i64 0, .bool false, .int .i64 0, .int .i64 0]
  have hb := (Below.refl w.heap.size w).alloc (Nat.le_refl _) (.cells #[.int .i64 0, .bool false, .int .i64 0, .int .i64 0] 200)
  have hs : w.heap.size + 1 ≤ (w.alloc (.cells #[.int .i64 0, .bool false, .int .i64 0, .int .i64 0] 200)).heap.size := by simp
  go_enter Tryz.func71, Tryz.ntmps71
  go_upto_region 1 with fail
  generalize w.alloc (.cells #[.int .i64 0, .bool false, .int .i64 0, .int .i64 0] 200) = W0 at *
  go_wp2_with fail
  refine (sh_fits 2 W0 (by omega)).mono ?_
  rintro e w1 ⟨rfl, rfl⟩
  go_upto_region 4 with fail
  have e5 := Blk.new w1 200 #[.int .i64 2, .bool true, .int .i64 0, .int .i64 0]
  replace e0 := e0.alloc (.cells #[.int .i64 2, .bool true, .int .i64 0, .int .i64 0] 200)
  replace hb := hb.alloc (by omega) (.cells #[.int .i64 2, .bool true, .int .i64 0, .int .i64 0] 200)
  have hg5 := hs
  generalize w1.alloc (.cells #[.int .i64 2, .bool true, .int .i64 0, .int .i64 0] 200) = W1 at *
  generalize w1.heap.size = g5 at *
  have q3 : W1.cell? ⟨g5, 3, none⟩ = some (.int .i64 0) := e5.cell 3
  have zq3 := e5.frozen 3
  go_upto_region 5 with fail
  clear q3 zq3
  have t5 := e5.set_ 3 (.int .i64 32767)
  simp only [List.setIfInBounds_toArray, List.set_cons_zero, List.set_cons_succ] at t5
  replace e0 := e0.far (p := ⟨g5, 3, none⟩) (by dsimp only; omega) (.int .i64 32767)
  replace hb := hb.setCell (p := ⟨g5, 3, none⟩) (by dsimp only; omega) (.int .i64 32767)
  clear e5
  have e5 := t5
  clear t5
  generalize W1.setCell ⟨g5, 3, none⟩ (.int .i64 32767) = W2 at *
  have q3 : W2.cell? ⟨g5, 3, none⟩ = some (.int .i64 32767) := e5.cell 3
  have zq2 := e5.frozen 2
  have q2 : W2.cell? ⟨g5, 2, none⟩ = some (.int .i64 0) := e5.cell 2
  have hx : bits BinOp.xor IntKind.i64 (if IntKind.i64.signed = true then -1 else 9223372036854775807) 32767 = -32768 := by decide
  go_upto_region 9 with fail
  clear q3 zq2 q2
  have t5 := e5.set_ 2 (.int .i64 (-32768))
  simp only [List.setIfInBounds_toArray, List.set_cons_zero, List.set_cons_succ] at t5
  replace e0 := e0.far (p := ⟨g5, 2, none⟩) (by dsimp only; omega) (.int .i64 (-32768))
  replace hb := hb.setCell (p := ⟨g5, 2, none⟩) (by dsimp only; omega) (.int .i64 (-32768))
  clear e5
  have e5 := t5
  clear t5
  generalize W2.setCell ⟨g5, 2, none⟩ (.int .i64 (-32768)) = W3 at *
  have q0 : W3.cell? ⟨g5, 0, none⟩ = some (.int .i64 2) := e5.cell 0
  have q1 : W3.cell? ⟨g5, 1, none⟩ = some (.bool true) := e5.cell 1
  have q2 : W3.cell? ⟨g5, 2, none⟩ = some (.int .i64 (-32768)) := e5.cell 2
  have q3 : W3.cell? ⟨g5, 3, none⟩ = some (.int .i64 32767) := e5.cell 3
  have p0 : W3.cell? ⟨w.heap.size, 0, none⟩ = some (.int .i64 0) := e0.cell 0
  have zp0 := e0.frozen 0
  have p1 : W3.cell? ⟨w.heap.size, 1, none⟩ = some (.bool false) := e0.cell 1
  have zp1 := e0.frozen 1
  have p2 : W3.cell? ⟨w.heap.size, 2, none⟩ = some (.int .i64 0) := e0.cell 2
  have zp2 := e0.frozen 2
  have p3 : W3.cell? ⟨w.heap.size, 3, none⟩ = some (.int .i64 0) := e0.cell 3
  have zp3 := e0.frozen 3
  have t0 := ((((e0.set_ 0 (.int .i64 2)).set_ 1 (.bool true)).set_ 2 (.int .i64 (-32768))).set_ 3 (.int .i64 32767))
  simp only [List.setIfInBounds_toArray, List.set_cons_zero, List.set_cons_succ] at t0
  have tb := ((((hb.setCell (p := ⟨w.heap.size, 0, none⟩) (by dsimp only; omega) (.int .i64 2)).setCell (p := ⟨w.heap.size, 1, none⟩) (by dsimp only; omega) (.bool true)).setCell (p := ⟨w.heap.size, 2, none⟩) (by dsimp only; omega) (.int .i64 (-32768))).setCell (p := ⟨w.heap.size, 3, none⟩) (by dsimp only; omega) (.int .i64 32767))
  go_wp2
  refine bodyPost_ret (results_cell_row rfl _ _ w.heap.size _ _ _ _ rfl t0 Tryz.underlying200 rfl (by kernel_rfl)) rfl ?_
  exact ⟨rfl, tb⟩
theorem sh_Any (sz : Int) (sg : Bool) (w : World) (h : FK sz sg) : Calls Tryz.prog 71 #[.int .i64 sz, .bool sg] w fun e w' => e = .returned (.agg #[.int .i64 sz, .bool sg, .int .i64 (loP sg), .int .i64 (hiP sz)]) ∧ Below w.heap.size w w' := by
  rcases h with ⟨rfl, rfl⟩ | ⟨rfl, rfl⟩ | ⟨rfl, rfl⟩
  · exact sh_Any1 w
  · exact sh_Any4 w
  · exact sh_Any2 w
theorem fk_bd (sz : Int) (sg : Bool) (h : FK sz sg) : 1 ≤ sz ∧ sz ≤ 8 ∧ loP sg ≤ hiP sz := by
  rcases h with ⟨rfl, rfl⟩ | ⟨rfl, rfl⟩ | ⟨rfl, rfl⟩ <;> decide
theorem sh_in (a lo hi n : Int) (sg : Bool) (w : World) (h : lo ≤ n ∧ n ≤ hi) : Calls Tryz.prog 76 #[.agg #[.int .i64 a, .bool sg, .int .i64 lo, .int .i64 hi], .int .i64 n] w fun e w' => e = .returned (.bool true) ∧ Below w.heap.size w w' := by
  have e0 := Blk.new w 200 #[.int .i64 a, .bool sg, .int .i64 lo, .int .i64 hi]
  have hb := (Below.refl w.heap.size w).alloc (Nat.le_refl _) (.cells #[.int .i64 a, .bool sg, .int .i64 lo, .int .i64 hi] 200)
  have h1 : decide (lo ≤ n) = true := decide_eq_true h.1
  have h2 : decide (n ≤ hi) = true := decide_eq_true h.2
  go_enter Tryz.func76, Tryz.ntmps76
  go_upto_region 1 with fail
  generalize w.alloc (.cells #[.int .i64 a, .bool sg, .int .i64 lo, .int .i64 hi] 200) = W0 at *
  have q2 : W0.cell? ⟨w.heap.size, 2, none⟩ = some (.int .i64 lo) := e0.cell 2
  have q3 : W0.cell? ⟨w.heap.size, 3, none⟩ = some (.int .i64 hi) := e0.cell 3
  go_wp2
  go_ret
  exact ⟨rfl, hb⟩
theorem sh_right (sz : Int) (sg : Bool) (w : World) (h : FK sz sg) : Calls Tryz.prog 110 #[.agg #[.int .i64 sz, .bool sg, .int .i64 (loP sg), .int .i64 (hiP sz)]] w fun e w' => e = .returned (.bool true) ∧ Below w.heap.size w w' := by
  have hbd := fk_bd sz sg h
  have HA := hid fun w => sh_Any sz sg w h
  have HF := hid fun w => sh_fits sz w ⟨hbd.1, hbd.2.1⟩
  have hle : decide (loP sg ≤ hiP sz) = true := decide_eq_true hbd.2.2
  have HB := hid hbd.2.2
  generalize loP sg = lo at *
  generalize hiP sz = hi at *
  clear hbd h
  have e0 := Blk.new w 200 #[.int .i64 sz, .bool sg, .int .i64 lo, .int .i64 hi]
  have hb := (Below.refl w.heap.size w).alloc (Nat.le_refl _) (.cells #[.int .i64 sz, .bool sg, .int .i64 lo, .int .i64 hi] 200)
  have hs : w.heap.size + 1 ≤ (w.alloc (.cells #[.int .i64 sz, .bool sg, .int .i64 lo, .int .i64 hi] 200)).heap.size := by simp
  go_enter Tryz.func110, Tryz.ntmps110
  go_upto_region 1 with fail
  generalize w.alloc (.cells #[.int .i64 sz, .bool sg, .int .i64 lo, .int .i64 hi] 200) = W0 at *
  have q0 : W0.cell? ⟨w.heap.size, 0, none⟩ = some (.int .i64 sz) := e0.cell 0
  have q1 : W0.cell? ⟨w.heap.size, 1, none⟩ = some (.bool sg) := e0.cell 1
  go_wp2_with fail
  clear q0 q1
  refine (HA.out _).mono ?_
  rintro e w1 ⟨rfl, b1⟩
  replace e0 := e0.below b1 e0.lt
  replace hb := hb.trans (b1.mono hb.size)
  replace hs := Nat.le_trans hs b1.size
  clear b1
  go_upto_region 2 with fail
  have e3 := Blk.new w1 200 #[.int .i64 sz, .bool sg, .int .i64 lo, .int .i64 hi]
  replace e0 := e0.alloc (.cells #[.int .i64 sz, .bool sg, .int .i64 lo, .int .i64 hi] 200)
  replace hb := hb.alloc (by omega) (.cells #[.int .i64 sz, .bool sg, .int .i64 lo, .int .i64 hi] 200)
  generalize w1.alloc (.cells #[.int .i64 sz, .bool sg, .int .i64 lo, .int .i64 hi] 200) = W1 at *
  generalize w1.heap.size = g3 at *
  have q0 : W1.cell? ⟨w.heap.size, 0, none⟩ = some (.int .i64 sz) := e0.cell 0
  have r0 : W1.cell? ⟨g3, 0, none⟩ = some (.int .i64 sz) := e3.cell 0
  have q1 : W1.cell? ⟨w.heap.size, 1, none⟩ = some (.bool sg) := e0.cell 1
  have r1 : W1.cell? ⟨g3, 1, none⟩ = some (.bool sg) := e3.cell 1
  have q2 : W1.cell? ⟨w.heap.size, 2, none⟩ = some (.int .i64 lo) := e0.cell 2
  have r2 : W1.cell? ⟨g3, 2, none⟩ = some (.int .i64 lo) := e3.cell 2
  have q3 : W1.cell? ⟨w.heap.size, 3, none⟩ = some (.int .i64 hi) := e0.cell 3
  have r3 : W1.cell? ⟨g3, 3, none⟩ = some (.int .i64 hi) := e3.cell 3
  go_wp2_with fail
  clear q0 q1 q2 q3 r0 r1 r2 r3
  refine (HF.out _).mono ?_
  rintro e w2 ⟨rfl, rfl⟩
  have q0 : w2.cell? ⟨w.heap.size, 0, none⟩ = some (.int .i64 sz) := e0.cell 0
  have r0 : w2.cell? ⟨g3, 0, none⟩ = some (.int .i64 sz) := e3.cell 0
  have q1 : w2.cell? ⟨w.heap.size, 1, none⟩ = some (.bool sg) := e0.cell 1
  have r1 : w2.cell? ⟨g3, 1, none⟩ = some (.bool sg) := e3.cell 1
  have q2 : w2.cell? ⟨w.heap.size, 2, none⟩ = some (.int .i64 lo) := e0.cell 2
  have r2 : w2.cell? ⟨g3, 2, none⟩ = some (.int .i64 lo) := e3.cell 2
  have q3 : w2.cell? ⟨w.heap.size, 3, none⟩ = some (.int .i64 hi) := e0.cell 3
  have r3 : w2.cell? ⟨g3, 3, none⟩ = some (.int .i64 hi) := e3.cell 3
  go_wp2_with fail
  clear q0 q1 q2 q3 r0 r1 r2 r3
  refine (sh_in sz lo hi lo sg _ ⟨Int.le_refl _, HB.out⟩).mono ?_
  rintro e w3 ⟨rfl, b3⟩
  replace e0 := e0.below b3 e0.lt
  replace e3 := e3.below b3 e3.lt
  replace hb := hb.trans (b3.mono hb.size)
  clear b3
  have q0 : w3.cell? ⟨w.heap.size, 0, none⟩ = some (.int .i64 sz) := e0.cell 0
  have r0 : w3.cell? ⟨g3, 0, none⟩ = some (.int .i64 sz) := e3.cell 0
  have q1 : w3.cell? ⟨w.heap.size, 1, none⟩ = some (.bool sg) := e0.cell 1
  have r1 : w3.cell? ⟨g3, 1, none⟩ = some (.bool sg) := e3.cell 1
  have q2 : w3.cell? ⟨w.heap.size, 2, none⟩ = some (.int .i64 lo) := e0.cell 2
  have r2 : w3.cell? ⟨g3, 2, none⟩ = some (.int .i64 lo) := e3.cell 2
  have q3 : w3.cell? ⟨w.heap.size, 3, none⟩ = some (.int .i64 hi) := e0.cell 3
  have r3 : w3.cell? ⟨g3, 3, none⟩ = some (.int .i64 hi) := e3.cell 3
  go_wp2_with fail
  clear q0 q1 q2 q3 r0 r1 r2 r3
  refine (sh_in sz lo hi hi sg _ ⟨HB.out, Int.le_refl _⟩).mono ?_
  rintro e w4 ⟨rfl, b4⟩
  replace hb := hb.trans (b4.mono hb.size)
  clear b4 e0 e3
  go_wp2
  go_ret
  exact ⟨rfl, hb⟩
end Go.Proofs.YtldoocndhfgjhaaGreat
